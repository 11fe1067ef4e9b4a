/- Part 3 of the proof of FnExactArePathsTo. -/
import Derived.Shelf.SortG.Plain
import Derived.Shelf.SortG.SortNone
import Derived.Ground.SlgnProg
import Derived.Shelf.SlicesG.CompactI
import Derived.Test.YtldafhnnnabipaaProg
import Derived.Test.YtldafhnnnabipaaPt2
namespace Go.Proofs
open Go.Shelf
def Try.sortL_ren : Go.Shelf.Ren := ⟨fun | 53 => 59 | 64 => 127 | 63 => 126 | 78 => 186 | 79 => 187 | 70 => 177 | 71 => 178 | 72 => 179 | 73 => 180 | 74 => 181 | 75 => 182 | 59 => 183 | 76 => 184 | 77 => 185 | 88 => 215 | 89 => 216 | 90 => 217 | 91 => 218 | 92 => 219 | 68 => 220 | 96 => 225 | n => n, fun | 22 => 42 | 23 => 2 | 3 => 3 | 51 => 58 | 0 => 0 | 67 => 186 | 69 => 163 | 4 => 4 | 61 => 178 | 60 => 177 | 44 => 183 | 5 => 5 | 9 => 9 | 75 => 193 | 79 => 197 | 83 => 199 | 84 => 200 | n => n, fun | n => n⟩
theorem Try.sortL : Go.Proofs.SlLaysN.n53 Try.prog Try.sortL_ren := {
 mixed := by kernel_rfl
 f53 := ⟨Try.f59.name, by decide, Try.func59.trans (congrArg some (by kernel_rfl))⟩
 f59 := ⟨Try.f183.name, by decide, Try.func183.trans (congrArg some (by kernel_rfl))⟩
 f63 := ⟨Try.f126.name, by decide, Try.func126.trans (congrArg some (by kernel_rfl))⟩
 f64 := Try.func127.trans (congrArg some (by kernel_rfl))
 f68 := ⟨Try.f220.name, by decide, Try.func220.trans (congrArg some (by kernel_rfl))⟩
 f70 := ⟨Try.f177.name, by decide, Try.func177.trans (congrArg some (by kernel_rfl))⟩
 f71 := ⟨Try.f178.name, by decide, Try.func178.trans (congrArg some (by kernel_rfl))⟩
 f72 := ⟨Try.f179.name, by decide, Try.func179.trans (congrArg some (by kernel_rfl))⟩
 f73 := ⟨Try.f180.name, by decide, Try.func180.trans (congrArg some (by kernel_rfl))⟩
 f74 := ⟨Try.f181.name, by decide, Try.func181.trans (congrArg some (by kernel_rfl))⟩
 f75 := ⟨Try.f182.name, by decide, Try.func182.trans (congrArg some (by kernel_rfl))⟩
 f76 := ⟨Try.f184.name, by decide, Try.func184.trans (congrArg some (by kernel_rfl))⟩
 f77 := ⟨Try.f185.name, by decide, Try.func185.trans (congrArg some (by kernel_rfl))⟩
 f78 := Try.func186.trans (congrArg some (by kernel_rfl))
 f79 := Try.func187.trans (congrArg some (by kernel_rfl))
 f88 := ⟨Try.f215.name, by decide, Try.func215.trans (congrArg some (by kernel_rfl))⟩
 f89 := Try.func216.trans (congrArg some (by kernel_rfl))
 f90 := Try.func217.trans (congrArg some (by kernel_rfl))
 f91 := ⟨Try.f218.name, by decide, Try.func218.trans (congrArg some (by kernel_rfl))⟩
 f92 := ⟨Try.f219.name, by decide, Try.func219.trans (congrArg some (by kernel_rfl))⟩
 f96 := ⟨Try.f225.name, by decide, Try.func225.trans (congrArg some (by kernel_rfl))⟩
 t0 := Try.underlying0
 a0 := Try.isAgg0
 z0 := Try.sizeOf0
 v0 := Try.zeroValue0
 t3 := Try.underlying3
 a3 := Try.isAgg3
 z3 := Try.sizeOf3
 v3 := Try.zeroValue3
 t4 := Try.underlying4
 a4 := Try.isAgg4
 z4 := Try.sizeOf4
 v4 := Try.zeroValue4
 t5 := Try.underlying5
 a5 := Try.isAgg5
 z5 := Try.sizeOf5
 v5 := Try.zeroValue5
 t9 := Try.underlying9
 a9 := Try.isAgg9
 z9 := Try.sizeOf9
 v9 := Try.zeroValue9
 t22 := Try.underlying42
 a22 := Try.isAgg42
 z22 := Try.sizeOf42
 v22 := Try.zeroValue42
 t23 := Try.underlying2
 a23 := Try.isAgg2
 z23 := Try.sizeOf2
 v23 := Try.zeroValue2
 t44 := Try.underlying183
 a44 := Try.isAgg183
 z44 := Try.sizeOf183
 v44 := Try.zeroValue183
 t51 := Try.underlying58
 a51 := Try.isAgg58
 z51 := Try.sizeOf58
 v51 := Try.zeroValue58
 t60 := Try.underlying177
 a60 := Try.isAgg177
 z60 := Try.sizeOf177
 v60 := Try.zeroValue177
 t61 := Try.underlying178
 a61 := Try.isAgg178
 z61 := Try.sizeOf178
 v61 := Try.zeroValue178
 t67 := Try.underlying186
 a67 := Try.isAgg186
 z67 := Try.sizeOf186
 v67 := Try.zeroValue186
 t69 := Try.underlying163
 a69 := Try.isAgg163
 z69 := Try.sizeOf163
 v69 := Try.zeroValue163
 t75 := Try.underlying193
 a75 := Try.isAgg193
 z75 := Try.sizeOf193
 v75 := Try.zeroValue193
 t79 := Try.underlying197
 a79 := Try.isAgg197
 z79 := Try.sizeOf197
 v79 := Try.zeroValue197
 t83 := Try.underlying199
 a83 := Try.isAgg199
 z83 := Try.sizeOf199
 v83 := Try.zeroValue199
 t84 := Try.underlying200
 a84 := Try.isAgg200
 z84 := Try.sizeOf200
 v84 := Try.zeroValue200 }
def Try.compL_ren : Go.Shelf.Ren := ⟨fun | 43 => 60 | n => n, fun | 22 => 42 | 23 => 2 | 3 => 3 | 4 => 4 | 0 => 0 | n => n, fun | n => n⟩
theorem Try.compL : Go.Proofs.SlLaysN.n43 Try.prog Try.compL_ren := {
 mixed := by kernel_rfl
 f43 := ⟨Try.f60.name, by decide, Try.func60.trans (congrArg some (by kernel_rfl))⟩
 t0 := Try.underlying0
 a0 := Try.isAgg0
 z0 := Try.sizeOf0
 v0 := Try.zeroValue0
 t3 := Try.underlying3
 a3 := Try.isAgg3
 z3 := Try.sizeOf3
 v3 := Try.zeroValue3
 t4 := Try.underlying4
 a4 := Try.isAgg4
 z4 := Try.sizeOf4
 v4 := Try.zeroValue4
 t22 := Try.underlying42
 a22 := Try.isAgg42
 z22 := Try.sizeOf42
 v22 := Try.zeroValue42
 t23 := Try.underlying2
 a23 := Try.isAgg2
 z23 := Try.sizeOf2
 v23 := Try.zeroValue2
 i23 := by kernel_rfl }
end Go.Proofs

namespace Go.Proofs.Ytldafhnnnabipaa
open Go Go.Abs Go.Proofs
abbrev kField : K := (.pair (.int .i64) (.pair (.int .i64) .unit))
abbrev kMatrix : K := (.pair (.int .i64) (.pair (.sl (.int .i64)) .unit))
abbrev kL00Src : K := (.pair (.sl (.int .u8)) (.pair (.int .i64) (.pair (.int .u64) .unit)))
abbrev kGabidulin : K := (.pair kField (.pair (.sl (.int .i64)) (.pair (.int .i64) .unit)))
abbrev kRankCode : K := (.pair kField (.pair (.int .i64) (.pair (.sl (.sl (.int .i64))) .unit)))
abbrev kNet : K := (.pair kField (.pair (.int .i64) (.pair (.int .i64) (.pair (.sl (.sl (.int .i64))) (.pair (.sl (.sl (.int .i64))) .unit)))))
def tau : List (Nat × TI) := [(33, ⟨kNet, 80, 0⟩), (42, ⟨(.sl (.int .i64)), 24, 2⟩), (2, ⟨(.int .i64), 8, 0⟩), (24, ⟨(.sl (.sl (.int .i64))), 24, 42⟩), (31, ⟨kField, 16, 0⟩), (26, ⟨kNet, 80, 0⟩), (23, ⟨kField, 16, 0⟩), (84, ⟨(.sl .bool), 24, 4⟩), (4, ⟨.bool, 1, 0⟩), (93, ⟨.fn, 8, 0⟩), (3, ⟨(.int .i64), 8, 0⟩), (1, ⟨.fn, 8, 0⟩), (5, ⟨(.int .u8), 1, 0⟩), (9, ⟨.str, 16, 0⟩), (12, ⟨(.int .u64), 8, 0⟩), (13, ⟨(.pair .str (.pair (.int .u64) .unit)), 24, 0⟩), (21, ⟨(.int .i32), 4, 0⟩), (22, ⟨kField, 16, 0⟩), (25, ⟨kNet, 80, 0⟩), (27, ⟨.fn, 8, 0⟩), (28, ⟨.fn, 8, 0⟩), (30, ⟨.fn, 8, 0⟩), (32, ⟨kNet, 80, 0⟩), (34, ⟨.fn, 8, 0⟩), (35, ⟨.fn, 8, 0⟩), (36, ⟨.fn, 8, 0⟩), (37, ⟨.fn, 8, 0⟩), (38, ⟨.fn, 8, 0⟩), (39, ⟨kRankCode, 48, 0⟩), (40, ⟨kRankCode, 48, 0⟩), (41, ⟨.fn, 8, 0⟩), (43, ⟨kGabidulin, 48, 0⟩), (44, ⟨kGabidulin, 48, 0⟩), (46, ⟨.fn, 8, 0⟩), (47, ⟨kRankCode, 48, 0⟩), (48, ⟨kRankCode, 48, 0⟩), (49, ⟨.fn, 8, 0⟩), (50, ⟨.fn, 8, 0⟩), (51, ⟨.fn, 8, 0⟩), (52, ⟨.fn, 8, 0⟩), (53, ⟨.fn, 8, 0⟩), (54, ⟨.fn, 8, 0⟩), (55, ⟨(.sl (.int .u8)), 24, 5⟩), (56, ⟨.fn, 8, 0⟩), (57, ⟨.fn, 8, 0⟩), (58, ⟨(.int .u64), 8, 0⟩), (59, ⟨.fn, 8, 0⟩), (61, ⟨.fn, 8, 0⟩), (62, ⟨kMatrix, 32, 0⟩), (63, ⟨kMatrix, 32, 0⟩), (65, ⟨.fn, 8, 0⟩), (66, ⟨.fn, 8, 0⟩), (67, ⟨.fn, 8, 0⟩), (69, ⟨.fn, 8, 0⟩), (71, ⟨.fn, 8, 0⟩), (72, ⟨.fn, 8, 0⟩), (73, ⟨.fn, 8, 0⟩), (74, ⟨.fn, 8, 0⟩), (76, ⟨.fn, 8, 0⟩), (77, ⟨.fn, 8, 0⟩), (78, ⟨.fn, 8, 0⟩), (79, ⟨.fn, 8, 0⟩), (80, ⟨.fn, 8, 0⟩), (81, ⟨.fn, 8, 0⟩), (82, ⟨.ptr, 8, 0⟩), (83, ⟨.fn, 8, 0⟩), (85, ⟨.fn, 8, 0⟩), (86, ⟨.fn, 8, 0⟩), (87, ⟨.fn, 8, 0⟩), (88, ⟨.fn, 8, 0⟩), (89, ⟨.fn, 8, 0⟩), (90, ⟨.fn, 8, 0⟩), (91, ⟨.fn, 8, 0⟩), (92, ⟨.fn, 8, 0⟩), (94, ⟨.fn, 8, 0⟩), (95, ⟨.fn, 8, 0⟩), (96, ⟨.fn, 8, 0⟩), (97, ⟨.ptr, 8, 0⟩), (98, ⟨.fn, 8, 0⟩), (99, ⟨.fn, 8, 0⟩), (100, ⟨.fn, 8, 0⟩), (101, ⟨.fn, 8, 0⟩), (102, ⟨.fn, 8, 0⟩), (103, ⟨.fn, 8, 0⟩), (104, ⟨.ptr, 8, 0⟩), (105, ⟨.fn, 8, 0⟩), (106, ⟨.fn, 8, 0⟩), (107, ⟨.fn, 8, 0⟩), (108, ⟨.fn, 8, 0⟩), (109, ⟨.fn, 8, 0⟩), (110, ⟨.fn, 8, 0⟩), (111, ⟨.fn, 8, 0⟩), (112, ⟨.fn, 8, 0⟩), (113, ⟨.fn, 8, 0⟩), (114, ⟨.ptr, 8, 0⟩), (115, ⟨.fn, 8, 0⟩), (116, ⟨.fn, 8, 0⟩), (117, ⟨.fn, 8, 0⟩), (118, ⟨.fn, 8, 0⟩), (119, ⟨.fn, 8, 0⟩), (120, ⟨.fn, 8, 0⟩), (121, ⟨.fn, 8, 0⟩), (122, ⟨.fn, 8, 0⟩), (123, ⟨.fn, 8, 0⟩), (124, ⟨.fn, 8, 0⟩), (125, ⟨.fn, 8, 0⟩), (126, ⟨.fn, 8, 0⟩), (127, ⟨.fn, 8, 0⟩), (128, ⟨.fn, 8, 0⟩), (129, ⟨.fn, 8, 0⟩), (130, ⟨.fn, 8, 0⟩), (131, ⟨.fn, 8, 0⟩), (133, ⟨.fn, 8, 0⟩), (134, ⟨.fn, 8, 0⟩), (135, ⟨(.sl (.int .i64)), 24, 3⟩), (136, ⟨.fn, 8, 0⟩), (137, ⟨.fn, 8, 0⟩), (138, ⟨.fn, 8, 0⟩), (140, ⟨.fn, 8, 0⟩), (141, ⟨.fn, 8, 0⟩), (142, ⟨.fn, 8, 0⟩), (143, ⟨.fn, 8, 0⟩), (144, ⟨.fn, 8, 0⟩), (145, ⟨.fn, 8, 0⟩), (146, ⟨.fn, 8, 0⟩), (147, ⟨.fn, 8, 0⟩), (149, ⟨.fn, 8, 0⟩), (150, ⟨.fn, 8, 0⟩), (151, ⟨.fn, 8, 0⟩), (152, ⟨.fn, 8, 0⟩), (153, ⟨.fn, 8, 0⟩), (154, ⟨.fn, 8, 0⟩), (155, ⟨.fn, 8, 0⟩), (156, ⟨.fn, 8, 0⟩), (157, ⟨.fn, 8, 0⟩), (158, ⟨.fn, 8, 0⟩), (159, ⟨.fn, 8, 0⟩), (160, ⟨(.sl kField), 24, 31⟩), (161, ⟨.fn, 8, 0⟩), (162, ⟨.fn, 8, 0⟩), (163, ⟨(.int .u64), 8, 0⟩), (164, ⟨kL00Src, 40, 0⟩), (165, ⟨kL00Src, 40, 0⟩), (166, ⟨.fn, 8, 0⟩), (167, ⟨.fn, 8, 0⟩), (169, ⟨.fn, 8, 0⟩), (170, ⟨.fn, 8, 0⟩), (171, ⟨.fn, 8, 0⟩), (172, ⟨.fn, 8, 0⟩), (173, ⟨.fn, 8, 0⟩), (174, ⟨.fn, 8, 0⟩), (175, ⟨.fn, 8, 0⟩), (176, ⟨.fn, 8, 0⟩), (177, ⟨(.int .i64), 8, 0⟩), (179, ⟨.fn, 8, 0⟩), (180, ⟨.fn, 8, 0⟩), (181, ⟨.fn, 8, 0⟩), (182, ⟨.fn, 8, 0⟩), (184, ⟨.fn, 8, 0⟩), (185, ⟨.fn, 8, 0⟩), (186, ⟨(.int .u32), 4, 0⟩), (187, ⟨.fn, 8, 0⟩), (188, ⟨.fn, 8, 0⟩), (189, ⟨.fn, 8, 0⟩), (190, ⟨.fn, 8, 0⟩), (191, ⟨.fn, 8, 0⟩), (192, ⟨.fn, 8, 0⟩), (193, ⟨(.int .u64), 8, 0⟩), (194, ⟨.fn, 8, 0⟩), (195, ⟨.fn, 8, 0⟩), (196, ⟨.fn, 8, 0⟩), (197, ⟨.ptr, 8, 0⟩), (198, ⟨.fn, 8, 0⟩), (199, ⟨.ptr, 8, 0⟩), (201, ⟨.fn, 8, 0⟩), (202, ⟨.fn, 8, 0⟩), (208, ⟨.fn, 8, 0⟩), (211, ⟨.fn, 8, 0⟩), (212, ⟨.ptr, 8, 0⟩)]
set_option maxRecDepth 100000 in
theorem tau_tys {E : List (Nat × Ctr)} {Z : List (Nat × List Frz)} : TysOK Try.prog ⟨tau, E, Z⟩ := tysOK_of (tysB_env (by kernel_rfl)) (by kernel_rfl)
theorem ent7 : Go.Abs.Enters Try.prog 7 := ⟨Try.f7, Try.func7, by kernel_rfl, by kernel_rfl⟩
theorem ent8 : Go.Abs.Enters Try.prog 8 := ⟨Try.f8, Try.func8, by kernel_rfl, by kernel_rfl⟩
theorem ent9 : Go.Abs.Enters Try.prog 9 := ⟨Try.f9, Try.func9, by kernel_rfl, by kernel_rfl⟩
theorem ent10 : Go.Abs.Enters Try.prog 10 := ⟨Try.f10, Try.func10, by kernel_rfl, by kernel_rfl⟩
theorem ent11 : Go.Abs.Enters Try.prog 11 := ⟨Try.f11, Try.func11, by kernel_rfl, by kernel_rfl⟩
theorem ent12 : Go.Abs.Enters Try.prog 12 := ⟨Try.f12, Try.func12, by kernel_rfl, by kernel_rfl⟩
theorem ent13 : Go.Abs.Enters Try.prog 13 := ⟨Try.f13, Try.func13, by kernel_rfl, by kernel_rfl⟩
theorem ent14 : Go.Abs.Enters Try.prog 14 := ⟨Try.f14, Try.func14, by kernel_rfl, by kernel_rfl⟩
theorem ent46 : Go.Abs.Enters Try.prog 46 := ⟨Try.f46, Try.func46, by kernel_rfl, by kernel_rfl⟩
theorem ent47 : Go.Abs.Enters Try.prog 47 := ⟨Try.f47, Try.func47, by kernel_rfl, by kernel_rfl⟩
theorem ent48 : Go.Abs.Enters Try.prog 48 := ⟨Try.f48, Try.func48, by kernel_rfl, by kernel_rfl⟩
theorem ent49 : Go.Abs.Enters Try.prog 49 := ⟨Try.f49, Try.func49, by kernel_rfl, by kernel_rfl⟩
theorem ent50 : Go.Abs.Enters Try.prog 50 := ⟨Try.f50, Try.func50, by kernel_rfl, by kernel_rfl⟩
theorem ent51 : Go.Abs.Enters Try.prog 51 := ⟨Try.f51, Try.func51, by kernel_rfl, by kernel_rfl⟩
theorem ent52 : Go.Abs.Enters Try.prog 52 := ⟨Try.f52, Try.func52, by kernel_rfl, by kernel_rfl⟩
theorem ent53 : Go.Abs.Enters Try.prog 53 := ⟨Try.f53, Try.func53, by kernel_rfl, by kernel_rfl⟩
theorem ent54 : Go.Abs.Enters Try.prog 54 := ⟨Try.f54, Try.func54, by kernel_rfl, by kernel_rfl⟩
theorem ent55 : Go.Abs.Enters Try.prog 55 := ⟨Try.f55, Try.func55, by kernel_rfl, by kernel_rfl⟩
theorem ent56 : Go.Abs.Enters Try.prog 56 := ⟨Try.f56, Try.func56, by kernel_rfl, by kernel_rfl⟩
theorem ent57 : Go.Abs.Enters Try.prog 57 := ⟨Try.f57, Try.func57, by kernel_rfl, by kernel_rfl⟩
theorem ent58 : Go.Abs.Enters Try.prog 58 := ⟨Try.f58, Try.func58, by kernel_rfl, by kernel_rfl⟩
theorem ent59 : Go.Abs.Enters Try.prog 59 := ⟨Try.f59, Try.func59, by kernel_rfl, by kernel_rfl⟩
theorem ent60 : Go.Abs.Enters Try.prog 60 := ⟨Try.f60, Try.func60, by kernel_rfl, by kernel_rfl⟩
theorem ent61 : Go.Abs.Enters Try.prog 61 := ⟨Try.f61, Try.func61, by kernel_rfl, by kernel_rfl⟩
theorem ent62 : Go.Abs.Enters Try.prog 62 := ⟨Try.f62, Try.func62, by kernel_rfl, by kernel_rfl⟩
theorem ent63 : Go.Abs.Enters Try.prog 63 := ⟨Try.f63, Try.func63, by kernel_rfl, by kernel_rfl⟩
theorem ent98 : Go.Abs.Enters Try.prog 98 := ⟨Try.f98, Try.func98, by kernel_rfl, by kernel_rfl⟩
theorem ent117 : Go.Abs.Enters Try.prog 117 := ⟨Try.f117, Try.func117, by kernel_rfl, by kernel_rfl⟩
theorem ent121 : Go.Abs.Enters Try.prog 121 := ⟨Try.f121, Try.func121, by kernel_rfl, by kernel_rfl⟩
theorem ent122 : Go.Abs.Enters Try.prog 122 := ⟨Try.f122, Try.func122, by kernel_rfl, by kernel_rfl⟩
theorem ent123 : Go.Abs.Enters Try.prog 123 := ⟨Try.f123, Try.func123, by kernel_rfl, by kernel_rfl⟩
theorem ent124 : Go.Abs.Enters Try.prog 124 := ⟨Try.f124, Try.func124, by kernel_rfl, by kernel_rfl⟩
theorem ent125 : Go.Abs.Enters Try.prog 125 := ⟨Try.f125, Try.func125, by kernel_rfl, by kernel_rfl⟩
theorem ent135 : Go.Abs.Enters Try.prog 135 := ⟨Try.f135, Try.func135, by kernel_rfl, by kernel_rfl⟩
theorem ent142 : Go.Abs.Enters Try.prog 142 := ⟨Try.f142, Try.func142, by kernel_rfl, by kernel_rfl⟩
theorem ent150 : Go.Abs.Enters Try.prog 150 := ⟨Try.f150, Try.func150, by kernel_rfl, by kernel_rfl⟩
theorem ent157 : Go.Abs.Enters Try.prog 157 := ⟨Try.f157, Try.func157, by kernel_rfl, by kernel_rfl⟩
theorem ent159 : Go.Abs.Enters Try.prog 159 := ⟨Try.f159, Try.func159, by kernel_rfl, by kernel_rfl⟩
theorem ent163 : Go.Abs.Enters Try.prog 163 := ⟨Try.f163, Try.func163, by kernel_rfl, by kernel_rfl⟩
theorem ent173 : Go.Abs.Enters Try.prog 173 := ⟨Try.f173, Try.func173, by kernel_rfl, by kernel_rfl⟩
theorem ent174 : Go.Abs.Enters Try.prog 174 := ⟨Try.f174, Try.func174, by kernel_rfl, by kernel_rfl⟩
theorem ent175 : Go.Abs.Enters Try.prog 175 := ⟨Try.f175, Try.func175, by kernel_rfl, by kernel_rfl⟩
theorem ent176 : Go.Abs.Enters Try.prog 176 := ⟨Try.f176, Try.func176, by kernel_rfl, by kernel_rfl⟩
theorem ent192 : Go.Abs.Enters Try.prog 192 := ⟨Try.f192, Try.func192, by kernel_rfl, by kernel_rfl⟩
theorem ent193 : Go.Abs.Enters Try.prog 193 := ⟨Try.f193, Try.func193, by kernel_rfl, by kernel_rfl⟩
theorem ent200 : Go.Abs.Enters Try.prog 200 := ⟨Try.f200, Try.func200, by kernel_rfl, by kernel_rfl⟩
theorem ent203 : Go.Abs.Enters Try.prog 203 := ⟨Try.f203, Try.func203, by kernel_rfl, by kernel_rfl⟩
theorem ent205 : Go.Abs.Enters Try.prog 205 := ⟨Try.f205, Try.func205, by kernel_rfl, by kernel_rfl⟩
theorem ent206 : Go.Abs.Enters Try.prog 206 := ⟨Try.f206, Try.func206, by kernel_rfl, by kernel_rfl⟩
theorem ent213 : Go.Abs.Enters Try.prog 213 := ⟨Try.f213, Try.func213, by kernel_rfl, by kernel_rfl⟩
theorem ent214 : Go.Abs.Enters Try.prog 214 := ⟨Try.f214, Try.func214, by kernel_rfl, by kernel_rfl⟩
theorem ent221 : Go.Abs.Enters Try.prog 221 := ⟨Try.f221, Try.func221, by kernel_rfl, by kernel_rfl⟩
theorem ent224 : Go.Abs.Enters Try.prog 224 := ⟨Try.f224, Try.func224, by kernel_rfl, by kernel_rfl⟩
abbrev TNet := ((Int × (Int × Unit)) × (Int × (Int × ((List (List Int)) × ((List (List Int)) × Unit)))))
end Go.Proofs.Ytldafhnnnabipaa

namespace Go.Proofs.Ytldafhnnnabipaa
open Go Go.Abs Go.Proofs
noncomputable def l_szInt64S (p0 : (List Int)) (p1 : Int) : Tre Int :=
 let v1 := iwrap .i64 (p1 - (p0.length : Int))
 .cond (decide (v1 < 0))
  (.ret (-1))
  (.ret v1)
noncomputable def l_szInt64S_F (p0 : (List Int)) (p1 : Int) : Option Int := (l_szInt64S p0 p1).run some
def l_szInt64S_S (p0 : (List Int)) (p1 : Int) : Int :=
 let v1 := iwrap .i64 (p1 - (p0.length : Int))
 cond (decide (v1 < 0))
  (-1)
  (v1)
theorem l_szInt64S_spec (p0 : (List Int)) (p1 : Int) : l_szInt64S_F p0 p1 = some (l_szInt64S_S p0 p1) := (run_cond_some rfl rfl)
-- more
noncomputable def l_szInt64S_V : Env := ⟨tau, [], []⟩
noncomputable def l_szInt64S_b : Code := (Try.f46.body).getD .skip
noncomputable def l_szInt64S_I : FnI := ⟨l_szInt64S_b, Try.f46.results.toList, Try.f46.resultTypes.toList, []⟩
noncomputable def l_szInt64S_out (_zp0 : Bool) (_p0 : (List Int)) (_p1 : Int) : Int → CallOut := fun r => ⟨(.imm true (.int .i64) r), [], []⟩
set_option maxRecDepth 100000 in
theorem l_szInt64S_eq : ∀ (zp0 : Bool) (p0 : (List Int)) (p1 : Int), denFn l_szInt64S_V l_szInt64S_I ⟨[(.imm zp0 (.sl (.int .i64)) p0), (.imm true (.int .i64) p1)], []⟩ = (l_szInt64S p0 p1).run fun r => some (l_szInt64S_out zp0 p0 p1 r) := fun _ _ _ => by kernel_rfl
noncomputable def l_szInt64S_G (av : List AV) (rs : List Root) : Tre CallOut :=
 asCons av fun a0_ av0 =>
 asCons av0 fun a1_ av1 =>
 asEnd av1 <|
 asEnd rs <|
 asImm (.sl (.int .i64)) a0_ fun z2 d1 =>
 asImmZ true (.int .i64) a1_ fun d3 =>
 .ret (l_szInt64S_out z2 d1 d3 (l_szInt64S_S d1 d3))
noncomputable def l_szInt64S_c : Ctr := ⟨[], fun ci => l_szInt64S_G ci.args ci.roots, false⟩
theorem l_szInt64S_env : EnvOK Try.prog .none l_szInt64S_V := envOK_nil
set_option maxRecDepth 100000 in
theorem l_szInt64S_ok : Contract Try.prog .none 46 l_szInt64S_c := by
 have hl : LoopsOK l_szInt64S_V [] l_szInt64S_b := loopsOK_nil (by kernel_rfl)
 refine (contract_of (F := l_szInt64S_I) tau_tys l_szInt64S_env Try.func46 (by kernel_rfl) (by kernel_rfl) (by kernel_rfl) hl []).weaken ?_
 rintro ⟨av, rs⟩ co h
 have h : (l_szInt64S_G av rs).run some = some co := h
 obtain ⟨a0_, av0, rfl, h_0⟩ := asCons_spec h
 obtain ⟨a1_, av1, rfl, h_1⟩ := asCons_spec h_0
 obtain ⟨rfl, h_2⟩ := asEnd_spec h_1
 obtain ⟨rfl, h_3⟩ := asEnd_spec h_2
 obtain ⟨z2, d1, rfl, h_4⟩ := asImm_spec h_3
 obtain ⟨d3, rfl, h_5⟩ := asImmZ_spec h_4
 exact fin_ret (l_szInt64S_eq z2 d1 d3) (l_szInt64S_spec d1 d3) h_5
end Go.Proofs.Ytldafhnnnabipaa

namespace Go.Proofs.Ytldafhnnnabipaa
open Go Go.Abs Go.Proofs
-- shared
def allI {α : Type} (p : Nat → α → Bool) : Nat → List α → Bool
 | _, [] => true
 | i, x :: l => p i x && allI p (i + 1) l
theorem allI_iff {α : Type} {p : Nat → α → Bool} : ∀ (l : List α) (i : Nat), allI p i l = true ↔ ∀ j x, l[j]? = some x → p (i + j) x = true := by
 intro l
 induction l with
 | nil => intro i; simp [allI]
 | cons x l ih =>
  intro i
  simp only [allI, Bool.and_eq_true, ih (i + 1)]
  constructor
  ·rintro ⟨h1, h2⟩ j y hj
   cases j with
   | zero => simp only [List.getElem?_cons_zero, Option.some.injEq] at hj; subst hj; exact h1
   | succ j => simp only [List.getElem?_cons_succ] at hj; have := h2 j y hj; rw [show i + 1 + j = i + (j + 1) by omega] at this; exact this
  ·intro h
   refine ⟨h 0 x rfl, fun j y hj => ?_⟩
   have := h (j + 1) y (by simpa using hj)
   rw [show i + 1 + j = i + (j + 1) by omega]; exact this
theorem allI_const {α : Type} {p : α → Bool} : ∀ (l : List α) (i : Nat), allI (fun _ x => p x) i l = l.all p := by
 intro l
 induction l with
 | nil => intro i; rfl
 | cons x l ih => intro i; simp only [allI, List.all_cons, ih]
theorem foldE_allI {α β : Type} {p : Nat → α → Bool} {b0 b1 : β} : ∀ (l : List α) (i : Nat), foldE (γ := Unit) (fun i _ x => cond (p i x) (.inl ()) (.inr b0)) (fun _ => b1) i () l = cond (allI p i l) b1 b0 := by
 intro l
 induction l with
 | nil => intro i; rfl
 | cons x l ih =>
  intro i
  simp only [foldE, allI]
  cases p i x with
  | true => simp only [cond_true, Bool.true_and]; exact ih _
  | false => rfl
theorem all_loop {α β : Type} {step : Int → Tre (Int ⊕ β)} {xs : List α} (p : Nat → α → Bool) (b0 b1 : β)
  (hs : ∀ i x, xs[i]? = some x → (∀ j y, j < i → xs[j]? = some y → p j y = true) → (step (i : Int)).run some = some (cond (p i x) (.inl ((i + 1 : Nat) : Int)) (.inr b0)))
  (he : (step (xs.length : Int)).run some = some (.inr b1)) : loopF step 0 = some (cond (allI p 0 xs) b1 b0) := by
 have := fold_loop (xs := xs) (step := step) (γ := Unit) (fun i _ => (i : Int)) (fun i _ x => cond (p i x) (.inl ()) (.inr b0)) (fun _ => b1) (fun i _ => ∀ j y, j < i → xs[j]? = some y → p j y = true)
  (by
   intro i acc x hx hI
   refine ⟨?_, ?_⟩
   ·rw [hs i x hx hI]
    cases p i x <;> rfl
   ·intro a ha j y hj hy
    cases hp : p i x with
    | false => rw [hp] at ha; cases ha
    | true =>
     by_cases hji : j = i
     ·subst hji; rw [hx] at hy; cases hy; exact hp
     ·exact hI j y (by omega) hy)
  (fun _ _ => he) xs 0 () rfl (Nat.zero_le _) (by intro j y h; omega)
 rw [← foldE_allI xs 0]
 exact this
theorem all_loop' {α β : Type} {step : Int → Tre (Int ⊕ β)} {xs : List α} (p : α → Bool) (b0 b1 : β)
  (hs : ∀ (i : Nat) x, xs[i]? = some x → (step (i : Int)).run some = some (cond (p x) (.inl ((i + 1 : Nat) : Int)) (.inr b0)))
  (he : (step (xs.length : Int)).run some = some (.inr b1)) : loopF step 0 = some (cond (xs.all p) b1 b0) := by
 rw [← allI_const xs 0]
 exact all_loop (fun _ x => p x) b0 b1 (fun i x hx _ => hs i x hx) he
theorem idxI_all {α : Type} {p : α → Bool} (l : List α) : (!decide (idxI (fun x => !p x) 0 l ≥ 0)) = l.all p := by
 rw [idxI_any]
 induction l with
 | nil => rfl
 | cons x l ih => simp only [List.any_cons, List.all_cons, ← ih, Bool.not_or, Bool.not_not]
def pickI {α β : Type} (f : Nat → α → Option β) : Nat → List α → List β
 | _, [] => []
 | i, x :: l => match f i x with
  | some y => y :: pickI f (i + 1) l
  | none => pickI f (i + 1) l
theorem pickI_len {α β : Type} {f : Nat → α → Option β} : ∀ (l : List α) (i : Nat), (pickI f i l).length ≤ l.length := by
 intro l
 induction l with
 | nil => intro i; exact Nat.le_refl _
 | cons x l ih =>
  intro i
  simp only [pickI]
  cases f i x with
  | none => exact Nat.le_succ_of_le (ih _)
  | some y => exact Nat.succ_le_succ (ih _)
theorem pick_loop {α β : Type} {step : Int × List β → Tre ((Int × List β) ⊕ List β)} {xs : List α} (f : Nat → α → Option β)
  (hs : ∀ (i : Nat) acc x, xs[i]? = some x → acc.length ≤ i → (step ((i : Int), acc)).run some = some (.inl (((i + 1 : Nat) : Int), acc ++ (f i x).toList)))
  (he : ∀ acc, (step ((xs.length : Int), acc)).run some = some (.inr acc)) : loopF step (0, []) = some (pickI f 0 xs) := by
 have h := fold_loop (xs := xs) (step := step) (γ := List β) (fun i acc => ((i : Int), acc)) (fun i acc x => .inl (acc ++ (f i x).toList)) id (fun i acc => acc.length ≤ i)
  (by
   intro i acc x hx hI
   refine ⟨hs i acc x hx hI, ?_⟩
   intro a ha
   cases ha
   rw [List.length_append]
   cases f i x <;> simp <;> omega)
  (fun acc _ => he acc) xs 0 [] rfl (Nat.zero_le _) (Nat.le_refl _)
 have key : ∀ (l : List α) (i : Nat) (acc : List β), foldE (β := List β) (fun i acc x => .inl (acc ++ (f i x).toList)) id i acc l = acc ++ pickI f i l := by
  intro l
  induction l with
  | nil => intro i acc; simp [foldE, pickI]
  | cons x l ih =>
   intro i acc
   simp only [foldE, pickI]
   rw [ih]
   cases f i x <;> simp
 rw [key] at h
 exact h
def sizeSS (l : List (List Int)) : Nat := l.length + (l.map List.length).sum
theorem sizeSS_mem {l : List (List Int)} {x : List Int} (h : x ∈ l) : x.length + 1 ≤ sizeSS l := by
 unfold sizeSS
 induction l with
 | nil => cases h
 | cons y l ih =>
  simp only [List.length_cons, List.map_cons, List.sum_cons]
  rcases List.mem_cons.1 h with rfl | h
  ·omega
  ·have := ih h; omega
theorem sizeSS_flatten (l : List (List Int)) : l.flatten.length ≤ sizeSS l := by
 unfold sizeSS
 rw [List.length_flatten]
 omega
theorem iwrap_pred {i : Nat} (h0 : 0 < i) (h : i < 4611686018427387904) : iwrap .i64 ((i : Int) - 1) = ((i - 1 : Nat) : Int) := by
 rw [iwrap_i64 (by omega) (by omega)]; omega
theorem len2 {e : List Int} (h : e.length = 2) : ∃ a b, e = [a, b] := by
 match e, h with
 | [a, b], _ => exact ⟨a, b, rfl⟩
end Go.Proofs.Ytldafhnnnabipaa

namespace Go.Proofs.Ytldafhnnnabipaa
open Go Go.Abs Go.Proofs
noncomputable def l_szInt64SS_l5 (h5_0_0 : (List (List Int))) : (Int × Int) → Tre ((Int × Int) ⊕ ((Int × Int) ⊕ Int)) := fun s5 =>
 .cond (decide (s5.2 < (h5_0_0.length : Int)))
  (.ite (0 ≤ s5.2 ∧ s5.2 < (h5_0_0.length : Int)) <|
  .mat (h5_0_0[s5.2.toNat]?) fun x2 =>
  .cond (decide ((l_szInt64S_S x2 s5.1) < 0))
   (.ret (.inr (.inl ((l_szInt64S_S x2 s5.1), -1))))
   (.ret (.inl ((l_szInt64S_S x2 s5.1), iwrap .i64 (s5.2 + 1)))))
  (.ret (.inr (.inr s5.1)))
noncomputable def l_szInt64SS (p0 : (List (List Int))) (p1 : Int) : Tre Int :=
 let v1 := iwrap .i64 (p1 - (p0.length : Int))
 .cond (decide (v1 < 0))
  (.ret (-1))
  (.mat (loopF (l_szInt64SS_l5 p0) (v1, 0)) fun l3 =>
  .alt l3
   (fun a4 =>
    .ret a4.2)
   (fun b5 =>
    .ret b5))
noncomputable def l_szInt64SS_F (p0 : (List (List Int))) (p1 : Int) : Option Int := (l_szInt64SS p0 p1).run some
-- more
theorem szS_is (x : List Int) (n : Int) (h0 : 0 ≤ n) (h1 : n ≤ 1048576) (hl : x.length ≤ maxLen) : l_szInt64S_S x n = if n - (x.length : Int) < 0 then -1 else n - (x.length : Int) := by
 unfold maxLen at hl
 unfold l_szInt64S_S
 dsimp only
 rw [iwrap_i64 (by omega) (by omega)]
 by_cases h2 : n - (x.length : Int) < 0
 ·rw [decide_eq_true h2, if_pos h2]; rfl
 ·rw [decide_eq_false h2, if_neg h2]; rfl
theorem szSS_fold : ∀ (l : List (List Int)) (i : Nat) (acc : Int), 0 ≤ acc → acc ≤ 1048576 → (∀ x ∈ l, x.length ≤ maxLen) →
  (∃ a : Int, foldE (β := (Int × Int) ⊕ Int) (fun _ acc x => cond (decide (l_szInt64S_S x acc < 0)) (.inr (.inl (l_szInt64S_S x acc, -1))) (.inl (l_szInt64S_S x acc))) (.inr) i acc l = .inl (a, -1)) ∨
  (foldE (β := (Int × Int) ⊕ Int) (fun _ acc x => cond (decide (l_szInt64S_S x acc < 0)) (.inr (.inl (l_szInt64S_S x acc, -1))) (.inl (l_szInt64S_S x acc))) (.inr) i acc l = .inr (acc - ((l.map List.length).sum : Int)) ∧ 0 ≤ acc - ((l.map List.length).sum : Int)) := by
 intro l
 induction l with
 | nil => intro i acc h0 _ _; exact .inr ⟨by simp [foldE], by simpa using h0⟩
 | cons x l ih =>
  intro i acc h0 h1 hl
  simp only [foldE]
  rw [szS_is x acc h0 h1 (hl x (.head _))]
  by_cases h : acc - (x.length : Int) < 0
  ·rw [if_pos h]; exact .inl ⟨_, rfl⟩
  ·rw [if_neg h, decide_eq_false h, cond_false]
   rcases ih (i + 1) (acc - (x.length : Int)) (by omega) (by omega) fun y hy => hl y (.tail _ hy) with ⟨a, ha⟩ | ⟨ha, hb⟩
   ·exact .inl ⟨a, ha⟩
   ·refine .inr ⟨?_, ?_⟩
    ·dsimp only at ha ⊢
     rw [ha]; congr 1; simp only [List.map_cons, List.sum_cons]; push_cast; omega
    ·simp only [List.map_cons, List.sum_cons]; push_cast; omega
theorem l_szInt64SS_is (ss : List (List Int)) (hl : ss.length ≤ maxLen) (hm : ∀ x ∈ ss, x.length ≤ maxLen) (n : Int) (h0 : 0 ≤ n) (h1 : n ≤ 1048576) : ∃ r, l_szInt64SS_F ss n = some r ∧ (¬ r < 0 → r = n - (sizeSS ss : Int)) := by
 unfold l_szInt64SS_F l_szInt64SS
 unfold maxLen at hl
 dsimp only
 rw [iwrap_i64 (by omega) (by omega), Tre.run_cond]
 by_cases h : n - (ss.length : Int) < 0
 ·rw [decide_eq_true h]; exact ⟨-1, rfl, fun h => absurd (by decide) h⟩
 rw [decide_eq_false h, cond_false, Tre.run_mat]
 have := fold_loop' (xs := ss) (step := l_szInt64SS_l5 ss) (fun i acc => (acc, (i : Int))) (fun _ acc x => cond (decide (l_szInt64S_S x acc < 0)) (.inr (.inl (l_szInt64S_S x acc, -1))) (.inl (l_szInt64S_S x acc))) (.inr) (by
  intro i acc x hx
  have hi : i < ss.length := (List.getElem?_eq_some_iff.1 hx).1
  unfold l_szInt64SS_l5
  rw [run_inb hx, Tre.run_cond]
  dsimp only
  cases decide (l_szInt64S_S x acc < 0)
  ·rw [cond_false, cond_false, Tre.run_ret, iwrap_succ (by omega)]
  ·rfl)
  (by
  intro acc
  unfold l_szInt64SS_l5
  exact run_out) (n - (ss.length : Int))
 rw [show ((n - (ss.length : Int)), (0 : Int)) = ((n - (ss.length : Int)), ((0 : Nat) : Int)) from rfl, this]
 rcases szSS_fold ss 0 (n - (ss.length : Int)) (by omega) (by omega) hm with ⟨a, ha⟩ | ⟨ha, hb⟩
 ·rw [ha]; exact ⟨-1, rfl, fun h => absurd (by decide) h⟩
 ·rw [ha]; exact ⟨_, rfl, fun _ => by unfold sizeSS; push_cast; omega⟩
noncomputable def l_szInt64SS_V : Env := ⟨tau, [(46, l_szInt64S_c)], []⟩
noncomputable def l_szInt64SS_b : Code := (Try.f8.body).getD .skip
noncomputable def l_szInt64SS_l5_mk (z5_0 : Bool) (h5_0_0 : (List (List Int))) : (Int × Int) → St := fun x => stOf [(0, (.imm z5_0 (.sl (.sl (.int .i64))) h5_0_0)), (1, (.imm true (.int .i64) x.1)), (5, (.imm true (.int .i64) x.2))] []
noncomputable def l_szInt64SS_l5_out (_z5_0 : Bool) (_h5_0_0 : (List (List Int))) : ((Int × Int) ⊕ Int) → Ex × St
 | .inl x => (.ret, stOf [(1, (.imm true (.int .i64) x.1)), (4, (.imm true (.int .i64) x.2))] [])
 | .inr x => (.exit 0, stOf [(1, (.imm true (.int .i64) x)), (4, .dead)] [])
noncomputable def l_szInt64SS_l5_D (s : St) : Tre (Ex × St) :=
 asImm (.sl (.sl (.int .i64))) (s.tmps 0) fun z3 d2 =>
 asImmZ true (.int .i64) (s.tmps 1) fun d5 =>
 asImmZ true (.int .i64) (s.tmps 5) fun d7 =>
 .mat (loopF (l_szInt64SS_l5 d2) (d5, d7)) fun x => .alt x (fun a0 => .ret (l_szInt64SS_l5_out z3 d2 (.inl a0))) (fun b0 => .ret (l_szInt64SS_l5_out z3 d2 (.inr b0)))
noncomputable def l_szInt64SS_l5_L : LoopI := ⟨([0, 1, 5], []), ([1, 4], []), l_szInt64SS_l5_D⟩
noncomputable def l_szInt64SS_A : List (Nat × LoopI) := [(5, l_szInt64SS_l5_L)]
set_option maxRecDepth 100000 in
theorem l_szInt64SS_l5_step : ∀ (z5_0 : Bool) (h5_0_0 : (List (List Int))) (x : (Int × Int)) (c : St → Option (Ex × St)), den l_szInt64SS_V l_szInt64SS_A (loopAt l_szInt64SS_b 0) (l_szInt64SS_l5_mk z5_0 h5_0_0 x) (roundK l_szInt64SS_l5_L.kp l_szInt64SS_l5_L.kx c) = (l_szInt64SS_l5 h5_0_0 x).run (roundR (l_szInt64SS_l5_mk z5_0 h5_0_0) (l_szInt64SS_l5_out z5_0 h5_0_0) c) := fun _ _ _ _ => by
 kernel_rfl
theorem l_szInt64SS_l5_ok : LoopOK l_szInt64SS_V l_szInt64SS_A (loopAt l_szInt64SS_b 0) l_szInt64SS_l5_L := loopOK_of fun s e s' h => by
 generalize hs : restrict l_szInt64SS_l5_L.kp s = s1 at h
 have h : (l_szInt64SS_l5_D s1).run some = some (e, s') := h
 obtain ⟨z3, d2, e1, h_0⟩ := asImm_spec h
 obtain ⟨d5, e4, h_1⟩ := asImmZ_spec h_0
 obtain ⟨d7, e6, h_2⟩ := asImmZ_spec h_1
 obtain ⟨y, hy, hz⟩ := mat_some h_2
 refine ⟨_, _, l_szInt64SS_l5_mk z3 d2, l_szInt64SS_l5_out z3 d2, l_szInt64SS_l5 d2, (d5, d7), y, ?_, hy, ?_, l_szInt64SS_l5_step z3 d2⟩
 ·subst hs; exact restrict_eq (T := [(0, (.imm z3 (.sl (.sl (.int .i64))) d2)), (1, (.imm true (.int .i64) d5)), (5, (.imm true (.int .i64) d7))]) (U := []) rfl rfl ⟨e1, e4, e6, trivial⟩ trivial
 ·rcases y with x | x <;> exact Option.some.inj hz
noncomputable def l_szInt64SS_I : FnI := ⟨l_szInt64SS_b, Try.f8.results.toList, Try.f8.resultTypes.toList, l_szInt64SS_A⟩
noncomputable def l_szInt64SS_out (_zp0 : Bool) (_p0 : (List (List Int))) (_p1 : Int) : Int → CallOut := fun r => ⟨(.imm true (.int .i64) r), [], []⟩
set_option maxRecDepth 100000 in
theorem l_szInt64SS_eq : ∀ (zp0 : Bool) (p0 : (List (List Int))) (p1 : Int), denFn l_szInt64SS_V l_szInt64SS_I ⟨[(.imm zp0 (.sl (.sl (.int .i64))) p0), (.imm true (.int .i64) p1)], []⟩ = (l_szInt64SS p0 p1).run fun r => some (l_szInt64SS_out zp0 p0 p1 r) := fun _ _ _ => by kernel_rfl
noncomputable def l_szInt64SS_G (av : List AV) (rs : List Root) : Tre CallOut :=
 asCons av fun a0_ av0 =>
 asCons av0 fun a1_ av1 =>
 asEnd av1 <|
 asEnd rs <|
 asImm (.sl (.sl (.int .i64))) a0_ fun z2 d1 =>
 asImmZ true (.int .i64) a1_ fun d3 =>
 .mat (l_szInt64SS_F d1 d3) fun r => .ret (l_szInt64SS_out z2 d1 d3 r)
noncomputable def l_szInt64SS_c : Ctr := ⟨[], fun ci => l_szInt64SS_G ci.args ci.roots, false⟩
theorem l_szInt64SS_env : EnvOK Try.prog .none l_szInt64SS_V := (envOK_cons l_szInt64S_ok ent46 envOK_nil)
set_option maxRecDepth 100000 in
theorem l_szInt64SS_ok : Contract Try.prog .none 8 l_szInt64SS_c := by
 have hl : LoopsOK l_szInt64SS_V l_szInt64SS_A l_szInt64SS_b := (loopsOK_all (n := 1) (by kernel_rfl) fun k hk => by
   match k, hk with
   | 0, _ => exact loopOK_at (id := 5) (L := l_szInt64SS_l5_L) (by kernel_rfl) (by kernel_rfl) l_szInt64SS_l5_ok)
 refine (contract_of (F := l_szInt64SS_I) tau_tys l_szInt64SS_env Try.func8 (by kernel_rfl) (by kernel_rfl) (by kernel_rfl) hl []).weaken ?_
 rintro ⟨av, rs⟩ co h
 have h : (l_szInt64SS_G av rs).run some = some co := h
 obtain ⟨a0_, av0, rfl, h_0⟩ := asCons_spec h
 obtain ⟨a1_, av1, rfl, h_1⟩ := asCons_spec h_0
 obtain ⟨rfl, h_2⟩ := asEnd_spec h_1
 obtain ⟨rfl, h_3⟩ := asEnd_spec h_2
 obtain ⟨z2, d1, rfl, h_4⟩ := asImm_spec h_3
 obtain ⟨d3, rfl, h_5⟩ := asImmZ_spec h_4
 exact fin_mat (l_szInt64SS_eq z2 d1 d3) h_5
end Go.Proofs.Ytldafhnnnabipaa

namespace Go.Proofs.Ytldafhnnnabipaa
open Go Go.Abs Go.Proofs
-- shared
abbrev TF3 := Int × Int × Unit
def fieldT : List (Int × Int) := [(1, 2), (1, 3), (2, 7), (3, 11), (3, 13), (4, 19), (4, 25), (4, 31), (5, 37), (5, 41), (5, 47), (5, 55), (5, 59), (5, 61)]
def fieldOk (f : TF3) : Bool := fieldT.contains (f.1, f.2.1)
theorem fieldOk_mem {f : TF3} (h : fieldOk f = true) : (f.1, f.2.1) ∈ fieldT := by simpa [fieldOk] using h
theorem fieldOk_deg {f : TF3} (h : fieldOk f = true) : 1 ≤ f.1 ∧ f.1 ≤ 5 := by
 have h := fieldOk_mem h
 have : ∀ x ∈ fieldT, 1 ≤ x.1 ∧ x.1 ≤ 5 := by decide
 exact this _ h
theorem fieldOk_poly {f : TF3} (h : fieldOk f = true) : 2 ≤ f.2.1 ∧ f.2.1 ≤ 61 := by
 have h := fieldOk_mem h
 have : ∀ x ∈ fieldT, 2 ≤ x.2 ∧ x.2 ≤ 61 := by decide
 exact this _ h
theorem field_of {F : TF3 → Option Bool} {I D : Int → Option Bool} (hd : ∀ f : TF3, inR f.1 1 5 = false → F f = some false)
  (hb : ∀ f : TF3, (f.2.1 < 0 ∨ 64 ≤ f.2.1) → F f = some false)
  (hk : ((List.range' 1 5).all fun d => (List.range 64).all fun p => F ((d : Int), (p : Int), ()) == some (fieldOk ((d : Int), (p : Int), ()))) = true) (f : TF3) : F f = some (fieldOk f) := by
 have hno : ∀ g : TF3, (¬ (1 ≤ g.1 ∧ g.1 ≤ 5) ∨ ¬ (0 ≤ g.2.1 ∧ g.2.1 < 64)) → fieldOk g = false := by
  intro g hg
  cases h : fieldOk g with
  | false => rfl
  | true =>
   have h1 := fieldOk_deg h
   have h2 := fieldOk_poly h
   omega
 obtain ⟨d, p, ⟨⟩⟩ := f
 by_cases h1 : 1 ≤ d ∧ d ≤ 5
 ·by_cases h2 : 0 ≤ p ∧ p < 64
  ·obtain ⟨n, rfl⟩ := Int.eq_ofNat_of_zero_le (show 0 ≤ d by omega)
   obtain ⟨m, rfl⟩ := Int.eq_ofNat_of_zero_le h2.1
   have h3 := List.all_eq_true.1 (List.all_eq_true.1 hk n (List.mem_range'_1.2 (by omega))) m (List.mem_range.2 (by omega))
   exact eq_of_beq h3
  ·rw [hb _ (by show p < 0 ∨ 64 ≤ p; omega), hno _ (.inr h2)]
 ·rw [hd _ (inR_false.2 (by show d < 1 ∨ 5 < d; omega)), hno _ (.inl h1)]
end Go.Proofs.Ytldafhnnnabipaa

namespace Go.Proofs.Ytldafhnnnabipaa
open Go Go.Abs Go.Proofs
-- shared
abbrev TN6 := TF3 × Int × Int × List (List Int) × List (List Int) × Unit
def e0 (e : List Int) : Int := e.getD 0 0
def e1 (e : List Int) : Int := e.getD 1 0
def edgeOk (N : Int) (es : List (List Int)) (i : Nat) (e : List Int) : Bool :=
 decide (e.length = 2) && ((inR (e0 e) 0 (N - 1) && (inR (e1 e) 0 (N - 1) && decide (e0 e < e1 e))) && (decide (i = 0) || decide (e0 (es.getD (i - 1) []) ≤ e0 e)))
theorem edgeOk_len {N : Int} {es : List (List Int)} {i : Nat} {e : List Int} (h : edgeOk N es i e = true) : e.length = 2 := by
 unfold edgeOk at h
 rw [Bool.and_eq_true] at h
 exact of_decide_eq_true h.1
def intoV (es : List (List Int)) (node : Int) : List Int := pickI (fun i e => if e1 e = node then some (i : Int) else none) 0 es
def hasV (n : TN6) (node : Int) : Int := if node = 0 then n.2.2.1 else ((intoV n.2.2.2.1 node).length : Int)
def topF (f : TF3) : Int := 2 ^ f.1.toNat - 1
theorem topF_is {f : TF3} (h : fieldOk f = true) : iwrap .i64 (ishl .i64 1 (iwrap .u64 f.1) - 1) = topF f := by
 obtain ⟨h1, h2⟩ := fieldOk_deg h
 obtain ⟨n, hn⟩ := Int.eq_ofNat_of_zero_le (show 0 ≤ f.1 by omega)
 unfold topF
 rw [hn]
 have : ∀ n : Nat, n < 6 → iwrap .i64 (ishl .i64 1 (iwrap .u64 (n : Int)) - 1) = 2 ^ (n : Int).toNat - 1 := by decide
 exact this n (by omega)
theorem topF_is' {f : TF3} (h : fieldOk f = true) : iwrap .i64 (ishl .i64 1 f.1 - 1) = topF f := by
 obtain ⟨h1, h2⟩ := fieldOk_deg h
 have := topF_is h
 rw [iwrap_u64 (by omega) (by omega)] at this
 exact this
def elsOk (f : TF3) (c : List Int) : Bool := c.all fun x => inR x 0 (topF f)
def coefOk (n : TN6) (i : Nat) (c : List Int) : Bool := decide ((c.length : Int) = hasV n (e0 (n.2.2.2.1.getD i []))) && elsOk n.1 c
def netOk (n : TN6) : Bool := fieldOk n.1 && (inR n.2.1 2 8 && (inR n.2.2.1 1 3 && (decide (n.2.2.2.1.length ≤ 14) && (decide (n.2.2.2.2.1.length = n.2.2.2.1.length) && (allI (edgeOk n.2.1 n.2.2.2.1) 0 n.2.2.2.1 && allI (coefOk n) 0 n.2.2.2.2.1)))))
structure NetP (n : TN6) : Prop where
 field : fieldOk n.1 = true
 nodes : 2 ≤ n.2.1 ∧ n.2.1 ≤ 8
 mess : 1 ≤ n.2.2.1 ∧ n.2.2.1 ≤ 3
 len : n.2.2.2.1.length ≤ 14
 clen : n.2.2.2.2.1.length = n.2.2.2.1.length
 edges : ∀ i e, n.2.2.2.1[i]? = some e → edgeOk n.2.1 n.2.2.2.1 i e = true
 coefs : ∀ i c, n.2.2.2.2.1[i]? = some c → coefOk n i c = true
theorem netOk_iff {n : TN6} : netOk n = true ↔ NetP n := by
 simp only [netOk, Bool.and_eq_true, inR_iff, allI_iff, decide_eq_true_eq, Nat.zero_add]
 constructor
 ·rintro ⟨a, b, c, d, e, f, g⟩; exact ⟨a, b, c, d, e, f, g⟩
 ·rintro ⟨a, b, c, d, e, f, g⟩; exact ⟨a, b, c, d, e, f, g⟩
theorem NetP.two {n : TN6} (h : NetP n) {i : Nat} {e : List Int} (he : n.2.2.2.1[i]? = some e) : ∃ a b, e = [a, b] ∧ 0 ≤ a ∧ a < b ∧ b ≤ n.2.1 - 1 := by
 have := h.edges i e he
 obtain ⟨a, b, rfl⟩ := len2 (edgeOk_len this)
 simp only [edgeOk, Bool.and_eq_true, inR_iff, decide_eq_true_eq, e0, e1, List.getD_cons_zero, List.getD_cons_succ] at this
 exact ⟨a, b, rfl, by omega, by omega, by omega⟩
theorem getD_of {α : Type} {l : List α} {i : Nat} {x d : α} (h : l[i]? = some x) : l.getD i d = x := by
 rw [List.getD_eq_getElem?_getD, h]; rfl
theorem hasV_le (n : TN6) (hM : n.2.2.1 ≤ 3) (hl : n.2.2.2.1.length ≤ 14) (a : Int) : hasV n a ≤ 14 := by
 have := pickI_len (f := fun i e => if e1 e = a then some (i : Int) else none) n.2.2.2.1 0
 unfold hasV intoV
 split <;> omega
end Go.Proofs.Ytldafhnnnabipaa

namespace Go.Proofs.Ytldafhnnnabipaa
open Go Go.Abs Go.Proofs
noncomputable def l_szNet (p0 : TNet) (p1 : Int) : Tre Int :=
 .mat (l_szInt64SS_F p0.2.2.2.1 p1) fun r1 =>
 .cond (decide (r1 < 0))
  (.ret (-1))
  (.mat (l_szInt64SS_F p0.2.2.2.2.1 r1) fun r2 =>
  .cond (decide (r2 < 0))
   (.ret (-1))
   (.ret r2))
noncomputable def l_szNet_F (p0 : TNet) (p1 : Int) : Option Int := (l_szNet p0 p1).run some
-- more
def sizeNet (n : TN6) : Nat := sizeSS n.2.2.2.1 + sizeSS n.2.2.2.2.1
theorem l_szNet_is (n : TN6) (h1 : n.2.2.2.1.length ≤ maxLen ∧ ∀ x ∈ n.2.2.2.1, x.length ≤ maxLen) (h2 : n.2.2.2.2.1.length ≤ maxLen ∧ ∀ x ∈ n.2.2.2.2.1, x.length ≤ maxLen) : ∃ r, l_szNet_F n 1048576 = some r ∧ (¬ r < 0 → r = 1048576 - (sizeNet n : Int)) := by
 unfold l_szNet_F l_szNet sizeNet
 obtain ⟨r, hr, hs⟩ := l_szInt64SS_is _ h1.1 h1.2 1048576 (by decide) (by decide)
 rw [run_some_mat hr, Tre.run_cond]
 by_cases h : r < 0
 ·rw [decide_eq_true h]; exact ⟨_, rfl, fun h => absurd (by decide) h⟩
 have hs := hs h
 rw [decide_eq_false h, cond_false]
 obtain ⟨r', hr', hs'⟩ := l_szInt64SS_is _ h2.1 h2.2 r (by omega) (by omega)
 rw [run_some_mat hr', Tre.run_cond]
 by_cases h' : r' < 0
 ·rw [decide_eq_true h']; exact ⟨_, rfl, fun h => absurd (by decide) h⟩
 have hs' := hs' h'
 rw [decide_eq_false h', cond_false]
 exact ⟨_, rfl, fun _ => by push_cast; omega⟩
noncomputable def l_szNet_V : Env := ⟨tau, [(8, l_szInt64SS_c)], []⟩
noncomputable def l_szNet_b : Code := (Try.f7.body).getD .skip
noncomputable def l_szNet_I : FnI := ⟨l_szNet_b, Try.f7.results.toList, Try.f7.resultTypes.toList, []⟩
noncomputable def l_szNet_out (_zp0 : Bool) (_p0 : TNet) (_p1 : Int) : Int → CallOut := fun r => ⟨(.imm true (.int .i64) r), [], []⟩
set_option maxRecDepth 100000 in
theorem l_szNet_eq : ∀ (zp0 : Bool) (p0 : TNet) (p1 : Int), denFn l_szNet_V l_szNet_I ⟨[(.imm zp0 kNet p0), (.imm true (.int .i64) p1)], []⟩ = (l_szNet p0 p1).run fun r => some (l_szNet_out zp0 p0 p1 r) := fun _ _ _ => by kernel_rfl
noncomputable def l_szNet_G (av : List AV) (rs : List Root) : Tre CallOut :=
 asCons av fun a0_ av0 =>
 asCons av0 fun a1_ av1 =>
 asEnd av1 <|
 asEnd rs <|
 asImm kNet a0_ fun z2 d1 =>
 asImmZ true (.int .i64) a1_ fun d3 =>
 .mat (l_szNet_F d1 d3) fun r => .ret (l_szNet_out z2 d1 d3 r)
noncomputable def l_szNet_c : Ctr := ⟨[], fun ci => l_szNet_G ci.args ci.roots, false⟩
theorem l_szNet_env : EnvOK Try.prog .none l_szNet_V := (envOK_cons l_szInt64SS_ok ent8 envOK_nil)
set_option maxRecDepth 100000 in
theorem l_szNet_ok : Contract Try.prog .none 7 l_szNet_c := by
 have hl : LoopsOK l_szNet_V [] l_szNet_b := loopsOK_nil (by kernel_rfl)
 refine (contract_of (F := l_szNet_I) tau_tys l_szNet_env Try.func7 (by kernel_rfl) (by kernel_rfl) (by kernel_rfl) hl []).weaken ?_
 rintro ⟨av, rs⟩ co h
 have h : (l_szNet_G av rs).run some = some co := h
 obtain ⟨a0_, av0, rfl, h_0⟩ := asCons_spec h
 obtain ⟨a1_, av1, rfl, h_1⟩ := asCons_spec h_0
 obtain ⟨rfl, h_2⟩ := asEnd_spec h_1
 obtain ⟨rfl, h_3⟩ := asEnd_spec h_2
 obtain ⟨z2, d1, rfl, h_4⟩ := asImm_spec h_3
 obtain ⟨d3, rfl, h_5⟩ := asImmZ_spec h_4
 exact fin_mat (l_szNet_eq z2 d1 d3) h_5
end Go.Proofs.Ytldafhnnnabipaa

namespace Go.Proofs.Ytldafhnnnabipaa
open Go Go.Abs Go.Proofs
noncomputable def l_toField (_p0 : (Int × (Int × Unit))) : Tre Unit :=
 .ret ()
noncomputable def l_toField_F (p0 : (Int × (Int × Unit))) : Option Unit := (l_toField p0).run some
theorem l_toField_spec (p0 : (Int × (Int × Unit))) : l_toField_F p0 = some () := rfl
noncomputable def l_toField_V : Env := ⟨tau, [], []⟩
noncomputable def l_toField_b : Code := (Try.f50.body).getD .skip
noncomputable def l_toField_I : FnI := ⟨l_toField_b, Try.f50.results.toList, Try.f50.resultTypes.toList, []⟩
noncomputable def l_toField_out (p0 : (Int × (Int × Unit))) : Unit → CallOut := fun _ => ⟨(.imm true kField p0), [], []⟩
set_option maxRecDepth 100000 in
theorem l_toField_eq : ∀ (p0 : (Int × (Int × Unit))), denFn l_toField_V l_toField_I ⟨[(.imm true kField p0)], []⟩ = (l_toField p0).run fun r => some (l_toField_out p0 r) := fun _ => by kernel_rfl
noncomputable def l_toField_G (av : List AV) (rs : List Root) : Tre CallOut :=
 asCons av fun a0_ av0 =>
 asEnd av0 <|
 asEnd rs <|
 asImmZ true kField a0_ fun d1 =>
 .ret (l_toField_out d1 ())
noncomputable def l_toField_c : Ctr := ⟨[], fun ci => l_toField_G ci.args ci.roots, false⟩
theorem l_toField_env : EnvOK Try.prog .none l_toField_V := envOK_nil
set_option maxRecDepth 100000 in
theorem l_toField_ok : Contract Try.prog .none 50 l_toField_c := by
 have hl : LoopsOK l_toField_V [] l_toField_b := loopsOK_nil (by kernel_rfl)
 refine (contract_of (F := l_toField_I) tau_tys l_toField_env Try.func50 (by kernel_rfl) (by kernel_rfl) (by kernel_rfl) hl []).weaken ?_
 rintro ⟨av, rs⟩ co h
 have h : (l_toField_G av rs).run some = some co := h
 obtain ⟨a0_, av0, rfl, h_0⟩ := asCons_spec h
 obtain ⟨rfl, h_1⟩ := asEnd_spec h_0
 obtain ⟨rfl, h_2⟩ := asEnd_spec h_1
 obtain ⟨d1, rfl, h_3⟩ := asImmZ_spec h_2
 exact fin_ret (l_toField_eq d1) (l_toField_spec d1) h_3
end Go.Proofs.Ytldafhnnnabipaa

namespace Go.Proofs.Ytldafhnnnabipaa
open Go Go.Abs Go.Proofs
noncomputable def l_toInt64S_l3 (h3_0_0 : (List Int)) : (Int × (List Int)) → Tre ((Int × (List Int)) ⊕ (List Int)) := fun s3 =>
 .cond (decide (s3.1 < (h3_0_0.length : Int)))
  (.ite (0 ≤ s3.1 ∧ s3.1 < (h3_0_0.length : Int)) <|
  .mat (h3_0_0[s3.1.toNat]?) fun x1 =>
  .ite (0 ≤ s3.1 ∧ s3.1 < (s3.2.length : Int)) <|
  .mat (s3.2[s3.1.toNat]?) fun _ =>
  let v3 := s3.2.set s3.1.toNat x1
  .ret (.inl (iwrap .i64 (s3.1 + 1), v3)))
  (.ret (.inr s3.2))
noncomputable def l_toInt64S (p0 : (List Int)) : Tre (List Int) :=
 .ite (((.int .i64) : K) = (.int .i64) ∧ 0 ≤ (p0.length : Int) ∧ (p0.length : Int) = (p0.length : Int) ∧ (p0.length : Int) * (8 : Nat) ≤ 140737488355328 ∧ 1 ≤ 8) <|
 .mat (loopF (l_toInt64S_l3 p0) (0, List.replicate (p0.length : Int).toNat 0)) fun l4 =>
 .ret l4
noncomputable def l_toInt64S_F (p0 : (List Int)) : Option (List Int) := (l_toInt64S p0).run some
theorem l_toInt64S_spec (p0 : List Int) (y : List Int) (h : cloneR p0 = some y) : l_toInt64S_F p0 = some y := by
 obtain ⟨hl, rfl⟩ := lim_some h
 unfold l_toInt64S_F l_toInt64S
 rw [Tre.run_ite, if_pos ⟨rfl, by omega, rfl, by omega, by omega⟩, Tre.run_mat]
 have := fold_loop (xs := p0) (step := l_toInt64S_l3 p0) (fun i acc => ((i : Int), acc)) (fun i acc x => .inl (acc.set i x)) id (fun i acc => acc.length = p0.length) (by
  intro i acc x hx hI
  have hi : i < p0.length := (List.getElem?_eq_some_iff.1 hx).1
  refine ⟨?_, fun a ha => by cases ha; simpa using hI⟩
  unfold l_toInt64S_l3
  rw [run_inb hx]
  rw [show acc.length = p0.length from hI]
  rw [Tre.run_ite, if_pos ⟨by dsimp only; omega, by dsimp only; omega⟩, Tre.run_mat]
  dsimp only
  rw [Int.toNat_natCast, List.getElem?_eq_getElem (by omega : i < acc.length), Option.bind_some, Tre.run_ret, iwrap_succ (by omega)])
  (by
  intro acc hI
  unfold l_toInt64S_l3
  exact run_out)
  p0 0 (List.replicate p0.length 0) rfl (Nat.zero_le _) (by simp)
 rw [Int.toNat_natCast]
 rw [show ((0 : Int), List.replicate p0.length (0 : Int)) = (((0 : Nat) : Int), List.replicate p0.length 0) from rfl, this, foldE_set _ _ _ _ (by simp)]
 simp [Tre.run_ret]
noncomputable def l_toInt64S_V : Env := ⟨tau, [], []⟩
noncomputable def l_toInt64S_b : Code := (Try.f51.body).getD .skip
noncomputable def l_toInt64S_l3_mk (z3_0 : Bool) (h3_0_0 : (List Int)) : (Int × (List Int)) → St := fun x => stOf [(0, (.imm z3_0 (.sl (.int .i64)) h3_0_0)), (3, (.ref (5, 0) [])), (4, (.imm true (.int .i64) x.1))] [((5, 0), some ⟨false, (.sl (.int .i64)), .own, x.2⟩)]
noncomputable def l_toInt64S_l3_out (_z3_0 : Bool) (_h3_0_0 : (List Int)) : (List Int) → Ex × St := fun x => (.exit 0, stOf [(3, (.ref (5, 0) []))] [((5, 0), some ⟨false, (.sl (.int .i64)), .own, x⟩)])
noncomputable def l_toInt64S_l3_D (s : St) : Tre (Ex × St) :=
 asImm (.sl (.int .i64)) (s.tmps 0) fun z3 d2 =>
 asRef (5, 0) [] (s.tmps 3) <|
 asImmZ true (.int .i64) (s.tmps 4) fun d6 =>
 asRoot false (.sl (.int .i64)) (s.roots (5, 0)) fun m8 d9 =>
 asM .own m8 <|
 .mat (loopF (l_toInt64S_l3 d2) (d6, d9)) fun x => .ret (l_toInt64S_l3_out z3 d2 x)
noncomputable def l_toInt64S_l3_L : LoopI := ⟨([0, 3, 4], [(5, 0)]), ([3], [(5, 0)]), l_toInt64S_l3_D⟩
noncomputable def l_toInt64S_A : List (Nat × LoopI) := [(3, l_toInt64S_l3_L)]
set_option maxRecDepth 100000 in
theorem l_toInt64S_l3_step : ∀ (z3_0 : Bool) (h3_0_0 : (List Int)) (x : (Int × (List Int))) (c : St → Option (Ex × St)), den l_toInt64S_V l_toInt64S_A (loopAt l_toInt64S_b 0) (l_toInt64S_l3_mk z3_0 h3_0_0 x) (roundK l_toInt64S_l3_L.kp l_toInt64S_l3_L.kx c) = (l_toInt64S_l3 h3_0_0 x).run (roundR (l_toInt64S_l3_mk z3_0 h3_0_0) (l_toInt64S_l3_out z3_0 h3_0_0) c) := fun _ _ _ _ => by
 kernel_rfl
theorem l_toInt64S_l3_ok : LoopOK l_toInt64S_V l_toInt64S_A (loopAt l_toInt64S_b 0) l_toInt64S_l3_L := loopOK_of fun s e s' h => by
 generalize hs : restrict l_toInt64S_l3_L.kp s = s1 at h
 have h : (l_toInt64S_l3_D s1).run some = some (e, s') := h
 obtain ⟨z3, d2, e1, h_0⟩ := asImm_spec h
 obtain ⟨e4, h_1⟩ := asRef_spec h_0
 obtain ⟨d6, e5, h_2⟩ := asImmZ_spec h_1
 obtain ⟨m8, d9, e7, h_3⟩ := asRoot_spec h_2
 obtain ⟨rfl, h_4⟩ := asM_spec h_3
 obtain ⟨y, hy, hz⟩ := mat_ret h_4
 refine ⟨_, _, l_toInt64S_l3_mk z3 d2, l_toInt64S_l3_out z3 d2, l_toInt64S_l3 d2, (d6, d9), y, ?_, hy, ?_, l_toInt64S_l3_step z3 d2⟩
 ·subst hs; exact restrict_eq (T := [(0, (.imm z3 (.sl (.int .i64)) d2)), (3, (.ref (5, 0) [])), (4, (.imm true (.int .i64) d6))]) (U := [((5, 0), some ⟨false, (.sl (.int .i64)), .own, d9⟩)]) rfl rfl ⟨e1, e4, e5, trivial⟩ ⟨e7, trivial⟩
 ·exact Option.some.inj hz
noncomputable def l_toInt64S_I : FnI := ⟨l_toInt64S_b, Try.f51.results.toList, Try.f51.resultTypes.toList, l_toInt64S_A⟩
noncomputable def l_toInt64S_out (_zp0 : Bool) (_p0 : (List Int)) : (List Int) → CallOut := fun r => ⟨(.ref (1, 0) []), [], [⟨false, (.sl (.int .i64)), .own, r⟩]⟩
set_option maxRecDepth 100000 in
theorem l_toInt64S_eq : ∀ (zp0 : Bool) (p0 : (List Int)), denFn l_toInt64S_V l_toInt64S_I ⟨[(.imm zp0 (.sl (.int .i64)) p0)], []⟩ = (l_toInt64S p0).run fun r => some (l_toInt64S_out zp0 p0 r) := fun _ _ => by kernel_rfl
noncomputable def l_toInt64S_G (av : List AV) (rs : List Root) : Tre CallOut :=
 asCons av fun a0_ av0 =>
 asEnd av0 <|
 asEnd rs <|
 asImm (.sl (.int .i64)) a0_ fun z2 d1 =>
 .mat (cloneR d1) fun r => .ret (l_toInt64S_out z2 d1 r)
noncomputable def l_toInt64S_c : Ctr := ⟨[], fun ci => l_toInt64S_G ci.args ci.roots, false⟩
theorem l_toInt64S_env : EnvOK Try.prog .none l_toInt64S_V := envOK_nil
set_option maxRecDepth 100000 in
theorem l_toInt64S_ok : Contract Try.prog .none 51 l_toInt64S_c := by
 have hl : LoopsOK l_toInt64S_V l_toInt64S_A l_toInt64S_b := (loopsOK_all (n := 1) (by kernel_rfl) fun k hk => by
   match k, hk with
   | 0, _ => exact loopOK_at (id := 3) (L := l_toInt64S_l3_L) (by kernel_rfl) (by kernel_rfl) l_toInt64S_l3_ok)
 refine (contract_of (F := l_toInt64S_I) tau_tys l_toInt64S_env Try.func51 (by kernel_rfl) (by kernel_rfl) (by kernel_rfl) hl []).weaken ?_
 rintro ⟨av, rs⟩ co h
 have h : (l_toInt64S_G av rs).run some = some co := h
 obtain ⟨a0_, av0, rfl, h_0⟩ := asCons_spec h
 obtain ⟨rfl, h_1⟩ := asEnd_spec h_0
 obtain ⟨rfl, h_2⟩ := asEnd_spec h_1
 obtain ⟨z2, d1, rfl, h_3⟩ := asImm_spec h_2
 exact fin_opt (l_toInt64S_eq z2 d1) (l_toInt64S_spec d1) h_3
end Go.Proofs.Ytldafhnnnabipaa

namespace Go.Proofs.Ytldafhnnnabipaa
open Go Go.Abs Go.Proofs
noncomputable def l_toInt64SS_l3 (h3_0_0 : (List (List Int))) : (Int × (List (List Int))) → Tre ((Int × (List (List Int))) ⊕ (List (List Int))) := fun s3 =>
 .cond (decide (s3.1 < (h3_0_0.length : Int)))
  (.ite (0 ≤ s3.1 ∧ s3.1 < (h3_0_0.length : Int)) <|
  .mat (h3_0_0[s3.1.toNat]?) fun x1 =>
  .mat (cloneR x1) fun r2 =>
  .ite (0 ≤ s3.1 ∧ s3.1 < (s3.2.length : Int)) <|
  .mat (s3.2[s3.1.toNat]?) fun _ =>
  let v4 := s3.2.set s3.1.toNat r2
  .ret (.inl (iwrap .i64 (s3.1 + 1), v4)))
  (.ret (.inr s3.2))
noncomputable def l_toInt64SS (p0 : (List (List Int))) : Tre (List (List Int)) :=
 .ite (((.sl (.int .i64)) : K) = (.sl (.int .i64)) ∧ 0 ≤ (p0.length : Int) ∧ (p0.length : Int) = (p0.length : Int) ∧ (p0.length : Int) * (24 : Nat) ≤ 140737488355328 ∧ 1 ≤ 24) <|
 .mat (loopF (l_toInt64SS_l3 p0) (0, List.replicate (p0.length : Int).toNat ([] : (List Int)))) fun l5 =>
 .ret l5
noncomputable def l_toInt64SS_F (p0 : (List (List Int))) : Option (List (List Int)) := (l_toInt64SS p0).run some
-- more
theorem l_toInt64SS_is (p0 : List (List Int)) (h : sizeSS p0 ≤ 1048576) : l_toInt64SS_F p0 = some p0 := by
 have hl : p0.length ≤ 1048576 := by unfold sizeSS at h; omega
 unfold l_toInt64SS_F l_toInt64SS
 rw [Tre.run_ite, if_pos ⟨rfl, by omega, rfl, by omega, by omega⟩, Tre.run_mat]
 have := fold_loop (xs := p0) (step := l_toInt64SS_l3 p0) (fun i acc => ((i : Int), acc)) (fun i acc x => .inl (acc.set i x)) id (fun i acc => acc.length = p0.length) (by
  intro i acc x hx hI
  have hi : i < p0.length := (List.getElem?_eq_some_iff.1 hx).1
  refine ⟨?_, fun a ha => by cases ha; simpa using hI⟩
  unfold l_toInt64SS_l3
  rw [run_inb hx, run_some_mat (show cloneR x = _ from lim_of (by have := sizeSS_mem (List.mem_of_getElem? hx); omega))]
  rw [show acc.length = p0.length from hI]
  rw [Tre.run_ite, if_pos ⟨by dsimp only; omega, by dsimp only; omega⟩, Tre.run_mat]
  dsimp only
  rw [Int.toNat_natCast, List.getElem?_eq_getElem (by omega : i < acc.length), Option.bind_some, Tre.run_ret, iwrap_succ (by omega)])
  (by
  intro acc hI
  unfold l_toInt64SS_l3
  exact run_out)
  p0 0 (List.replicate p0.length []) rfl (Nat.zero_le _) (by simp)
 rw [Int.toNat_natCast]
 rw [show ((0 : Int), List.replicate p0.length ([] : List Int)) = (((0 : Nat) : Int), List.replicate p0.length []) from rfl, this, foldE_set _ _ _ _ (by simp)]
 simp [Tre.run_ret]
noncomputable def l_toInt64SS_V : Env := ⟨tau, [(51, l_toInt64S_c)], []⟩
noncomputable def l_toInt64SS_b : Code := (Try.f11.body).getD .skip
noncomputable def l_toInt64SS_l3_mk (z3_0 : Bool) (h3_0_0 : (List (List Int))) : (Int × (List (List Int))) → St := fun x => stOf [(0, (.imm z3_0 (.sl (.sl (.int .i64))) h3_0_0)), (3, (.ref (5, 0) [])), (4, (.imm true (.int .i64) x.1))] [((5, 0), some ⟨false, (.sl (.sl (.int .i64))), .own, x.2⟩)]
noncomputable def l_toInt64SS_l3_out (_z3_0 : Bool) (_h3_0_0 : (List (List Int))) : (List (List Int)) → Ex × St := fun x => (.exit 0, stOf [(3, (.ref (5, 0) []))] [((5, 0), some ⟨false, (.sl (.sl (.int .i64))), .own, x⟩)])
noncomputable def l_toInt64SS_l3_D (s : St) : Tre (Ex × St) :=
 asImm (.sl (.sl (.int .i64))) (s.tmps 0) fun z3 d2 =>
 asRef (5, 0) [] (s.tmps 3) <|
 asImmZ true (.int .i64) (s.tmps 4) fun d6 =>
 asRoot false (.sl (.sl (.int .i64))) (s.roots (5, 0)) fun m8 d9 =>
 asM .own m8 <|
 .mat (loopF (l_toInt64SS_l3 d2) (d6, d9)) fun x => .ret (l_toInt64SS_l3_out z3 d2 x)
noncomputable def l_toInt64SS_l3_L : LoopI := ⟨([0, 3, 4], [(5, 0)]), ([3], [(5, 0)]), l_toInt64SS_l3_D⟩
noncomputable def l_toInt64SS_A : List (Nat × LoopI) := [(3, l_toInt64SS_l3_L)]
set_option maxRecDepth 100000 in
theorem l_toInt64SS_l3_step : ∀ (z3_0 : Bool) (h3_0_0 : (List (List Int))) (x : (Int × (List (List Int)))) (c : St → Option (Ex × St)), den l_toInt64SS_V l_toInt64SS_A (loopAt l_toInt64SS_b 0) (l_toInt64SS_l3_mk z3_0 h3_0_0 x) (roundK l_toInt64SS_l3_L.kp l_toInt64SS_l3_L.kx c) = (l_toInt64SS_l3 h3_0_0 x).run (roundR (l_toInt64SS_l3_mk z3_0 h3_0_0) (l_toInt64SS_l3_out z3_0 h3_0_0) c) := fun _ _ _ _ => by
 kernel_rfl
theorem l_toInt64SS_l3_ok : LoopOK l_toInt64SS_V l_toInt64SS_A (loopAt l_toInt64SS_b 0) l_toInt64SS_l3_L := loopOK_of fun s e s' h => by
 generalize hs : restrict l_toInt64SS_l3_L.kp s = s1 at h
 have h : (l_toInt64SS_l3_D s1).run some = some (e, s') := h
 obtain ⟨z3, d2, e1, h_0⟩ := asImm_spec h
 obtain ⟨e4, h_1⟩ := asRef_spec h_0
 obtain ⟨d6, e5, h_2⟩ := asImmZ_spec h_1
 obtain ⟨m8, d9, e7, h_3⟩ := asRoot_spec h_2
 obtain ⟨rfl, h_4⟩ := asM_spec h_3
 obtain ⟨y, hy, hz⟩ := mat_ret h_4
 refine ⟨_, _, l_toInt64SS_l3_mk z3 d2, l_toInt64SS_l3_out z3 d2, l_toInt64SS_l3 d2, (d6, d9), y, ?_, hy, ?_, l_toInt64SS_l3_step z3 d2⟩
 ·subst hs; exact restrict_eq (T := [(0, (.imm z3 (.sl (.sl (.int .i64))) d2)), (3, (.ref (5, 0) [])), (4, (.imm true (.int .i64) d6))]) (U := [((5, 0), some ⟨false, (.sl (.sl (.int .i64))), .own, d9⟩)]) rfl rfl ⟨e1, e4, e5, trivial⟩ ⟨e7, trivial⟩
 ·exact Option.some.inj hz
noncomputable def l_toInt64SS_I : FnI := ⟨l_toInt64SS_b, Try.f11.results.toList, Try.f11.resultTypes.toList, l_toInt64SS_A⟩
noncomputable def l_toInt64SS_out (_zp0 : Bool) (_p0 : (List (List Int))) : (List (List Int)) → CallOut := fun r => ⟨(.ref (1, 0) []), [], [⟨false, (.sl (.sl (.int .i64))), .own, r⟩]⟩
set_option maxRecDepth 100000 in
theorem l_toInt64SS_eq : ∀ (zp0 : Bool) (p0 : (List (List Int))), denFn l_toInt64SS_V l_toInt64SS_I ⟨[(.imm zp0 (.sl (.sl (.int .i64))) p0)], []⟩ = (l_toInt64SS p0).run fun r => some (l_toInt64SS_out zp0 p0 r) := fun _ _ => by kernel_rfl
noncomputable def l_toInt64SS_G (av : List AV) (rs : List Root) : Tre CallOut :=
 asCons av fun a0_ av0 =>
 asEnd av0 <|
 asEnd rs <|
 asImm (.sl (.sl (.int .i64))) a0_ fun z2 d1 =>
 .mat (l_toInt64SS_F d1) fun r => .ret (l_toInt64SS_out z2 d1 r)
noncomputable def l_toInt64SS_c : Ctr := ⟨[], fun ci => l_toInt64SS_G ci.args ci.roots, false⟩
theorem l_toInt64SS_env : EnvOK Try.prog .none l_toInt64SS_V := (envOK_cons l_toInt64S_ok ent51 envOK_nil)
set_option maxRecDepth 100000 in
theorem l_toInt64SS_ok : Contract Try.prog .none 11 l_toInt64SS_c := by
 have hl : LoopsOK l_toInt64SS_V l_toInt64SS_A l_toInt64SS_b := (loopsOK_all (n := 1) (by kernel_rfl) fun k hk => by
   match k, hk with
   | 0, _ => exact loopOK_at (id := 3) (L := l_toInt64SS_l3_L) (by kernel_rfl) (by kernel_rfl) l_toInt64SS_l3_ok)
 refine (contract_of (F := l_toInt64SS_I) tau_tys l_toInt64SS_env Try.func11 (by kernel_rfl) (by kernel_rfl) (by kernel_rfl) hl []).weaken ?_
 rintro ⟨av, rs⟩ co h
 have h : (l_toInt64SS_G av rs).run some = some co := h
 obtain ⟨a0_, av0, rfl, h_0⟩ := asCons_spec h
 obtain ⟨rfl, h_1⟩ := asEnd_spec h_0
 obtain ⟨rfl, h_2⟩ := asEnd_spec h_1
 obtain ⟨z2, d1, rfl, h_3⟩ := asImm_spec h_2
 exact fin_mat (l_toInt64SS_eq z2 d1) h_3
end Go.Proofs.Ytldafhnnnabipaa

namespace Go.Proofs.Ytldafhnnnabipaa
open Go Go.Abs Go.Proofs
noncomputable def l_toNet (p0 : TNet) : Tre ((Int × (Int × Unit)) × Int × Int × (List (List Int)) × (List (List Int))) :=
 .mat (l_toInt64SS_F p0.2.2.2.1) fun r1 =>
 .mat (l_toInt64SS_F p0.2.2.2.2.1) fun r2 =>
 .ret (p0.1, p0.2.1, p0.2.2.1, r1, r2)
noncomputable def l_toNet_F (p0 : TNet) : Option ((Int × (Int × Unit)) × Int × Int × (List (List Int)) × (List (List Int))) := (l_toNet p0).run some
-- more
theorem l_toNet_is (n : TN6) (h : sizeSS n.2.2.2.1 ≤ 1048576) (h' : sizeSS n.2.2.2.2.1 ≤ 1048576) : l_toNet_F n = some (n.1, n.2.1, n.2.2.1, n.2.2.2.1, n.2.2.2.2.1) := by
 unfold l_toNet_F l_toNet
 rw [run_some_mat (l_toInt64SS_is _ h), run_some_mat (l_toInt64SS_is _ h')]
 rfl
noncomputable def l_toNet_V : Env := ⟨tau, [(50, l_toField_c), (11, l_toInt64SS_c)], []⟩
noncomputable def l_toNet_b : Code := (Try.f10.body).getD .skip
noncomputable def l_toNet_I : FnI := ⟨l_toNet_b, Try.f10.results.toList, Try.f10.resultTypes.toList, []⟩
noncomputable def l_toNet_out (_zp0 : Bool) (_p0 : TNet) : ((Int × (Int × Unit)) × Int × Int × (List (List Int)) × (List (List Int))) → CallOut := fun r => ⟨(.pair (.imm true kField r.1) (.pair (.imm true (.int .i64) r.2.1) (.pair (.imm true (.int .i64) r.2.2.1) (.pair (.ref (1, 0) []) (.pair (.ref (1, 1) []) (.imm true .unit ())))))), [], [⟨false, (.sl (.sl (.int .i64))), .own, r.2.2.2.1⟩, ⟨false, (.sl (.sl (.int .i64))), .own, r.2.2.2.2⟩]⟩
set_option maxRecDepth 100000 in
theorem l_toNet_eq : ∀ (zp0 : Bool) (p0 : TNet), denFn l_toNet_V l_toNet_I ⟨[(.imm zp0 kNet p0)], []⟩ = (l_toNet p0).run fun r => some (l_toNet_out zp0 p0 r) := fun _ _ => by kernel_rfl
noncomputable def l_toNet_G (av : List AV) (rs : List Root) : Tre CallOut :=
 asCons av fun a0_ av0 =>
 asEnd av0 <|
 asEnd rs <|
 asImm kNet a0_ fun z2 d1 =>
 .mat (l_toNet_F d1) fun r => .ret (l_toNet_out z2 d1 r)
noncomputable def l_toNet_c : Ctr := ⟨[], fun ci => l_toNet_G ci.args ci.roots, false⟩
theorem l_toNet_env : EnvOK Try.prog .none l_toNet_V := (envOK_cons l_toField_ok ent50 (envOK_cons l_toInt64SS_ok ent11 envOK_nil))
set_option maxRecDepth 100000 in
theorem l_toNet_ok : Contract Try.prog .none 10 l_toNet_c := by
 have hl : LoopsOK l_toNet_V [] l_toNet_b := loopsOK_nil (by kernel_rfl)
 refine (contract_of (F := l_toNet_I) tau_tys l_toNet_env Try.func10 (by kernel_rfl) (by kernel_rfl) (by kernel_rfl) hl []).weaken ?_
 rintro ⟨av, rs⟩ co h
 have h : (l_toNet_G av rs).run some = some co := h
 obtain ⟨a0_, av0, rfl, h_0⟩ := asCons_spec h
 obtain ⟨rfl, h_1⟩ := asEnd_spec h_0
 obtain ⟨rfl, h_2⟩ := asEnd_spec h_1
 obtain ⟨z2, d1, rfl, h_3⟩ := asImm_spec h_2
 exact fin_mat (l_toNet_eq z2 d1) h_3
end Go.Proofs.Ytldafhnnnabipaa

namespace Go.Proofs.Ytldafhnnnabipaa
open Go Go.Abs Go.Proofs
noncomputable def s_l00In (p0 : Int) (p1 : Int) (p2 : Int) : Tre Bool :=
 .cond (decide (p0 ≥ p1))
  (.ret (decide (p0 ≤ p2)))
  (.ret false)
noncomputable def s_l00In_F (p0 : Int) (p1 : Int) (p2 : Int) : Option Bool := (s_l00In p0 p1 p2).run some
theorem s_l00In_spec (n a b : Int) : s_l00In_F n a b = some (inR n a b) := by
 unfold s_l00In_F s_l00In inR
 by_cases h : a ≤ n
 ·simp [Tre.run_cond, Tre.run_ret, h]
 ·simp [Tre.run_cond, Tre.run_ret, h]
noncomputable def s_l00In_V : Env := ⟨tau, [], []⟩
noncomputable def s_l00In_b : Code := (Try.f48.body).getD .skip
noncomputable def s_l00In_I : FnI := ⟨s_l00In_b, Try.f48.results.toList, Try.f48.resultTypes.toList, []⟩
noncomputable def s_l00In_out (_p0 : Int) (_p1 : Int) (_p2 : Int) : Bool → CallOut := fun r => ⟨(.imm true .bool r), [], []⟩
set_option maxRecDepth 100000 in
theorem s_l00In_eq : ∀ (p0 : Int) (p1 : Int) (p2 : Int), denFn s_l00In_V s_l00In_I ⟨[(.imm true (.int .i64) p0), (.imm true (.int .i64) p1), (.imm true (.int .i64) p2)], []⟩ = (s_l00In p0 p1 p2).run fun r => some (s_l00In_out p0 p1 p2 r) := fun _ _ _ => by kernel_rfl
noncomputable def s_l00In_G (av : List AV) (rs : List Root) : Tre CallOut :=
 asCons av fun a0_ av0 =>
 asCons av0 fun a1_ av1 =>
 asCons av1 fun a2_ av2 =>
 asEnd av2 <|
 asEnd rs <|
 asImmZ true (.int .i64) a0_ fun d1 =>
 asImmZ true (.int .i64) a1_ fun d2 =>
 asImmZ true (.int .i64) a2_ fun d3 =>
 .ret (s_l00In_out d1 d2 d3 (inR d1 d2 d3))
noncomputable def s_l00In_c : Ctr := ⟨[], fun ci => s_l00In_G ci.args ci.roots, false⟩
theorem s_l00In_env : EnvOK Try.prog .none s_l00In_V := envOK_nil
set_option maxRecDepth 100000 in
theorem s_l00In_ok : Contract Try.prog .none 48 s_l00In_c := by
 have hl : LoopsOK s_l00In_V [] s_l00In_b := loopsOK_nil (by kernel_rfl)
 refine (contract_of (F := s_l00In_I) tau_tys s_l00In_env Try.func48 (by kernel_rfl) (by kernel_rfl) (by kernel_rfl) hl []).weaken ?_
 rintro ⟨av, rs⟩ co h
 have h : (s_l00In_G av rs).run some = some co := h
 obtain ⟨a0_, av0, rfl, h_0⟩ := asCons_spec h
 obtain ⟨a1_, av1, rfl, h_1⟩ := asCons_spec h_0
 obtain ⟨a2_, av2, rfl, h_2⟩ := asCons_spec h_1
 obtain ⟨rfl, h_3⟩ := asEnd_spec h_2
 obtain ⟨rfl, h_4⟩ := asEnd_spec h_3
 obtain ⟨d1, rfl, h_5⟩ := asImmZ_spec h_4
 obtain ⟨d2, rfl, h_6⟩ := asImmZ_spec h_5
 obtain ⟨d3, rfl, h_7⟩ := asImmZ_spec h_6
 exact fin_ret (s_l00In_eq d1 d2 d3) (s_l00In_spec d1 d2 d3) h_7
end Go.Proofs.Ytldafhnnnabipaa

namespace Go.Proofs.Ytldafhnnnabipaa
open Go Go.Abs Go.Proofs
noncomputable def s_l01Degree_l2 : (Int × Int) → Tre ((Int × Int) ⊕ Int) := fun s2 =>
 .cond (decide (s2.1 > 0))
  (let v1 := iwrap .i64 (Int.tdiv s2.1 2)
  .ret (.inl (v1, iwrap .i64 (s2.2 + 1))))
  (.ret (.inr s2.2))
noncomputable def s_l01Degree (p0 : Int) : Tre Int :=
 .mat (loopF s_l01Degree_l2 (p0, -1)) fun l2 =>
 .ret l2
noncomputable def s_l01Degree_F (p0 : Int) : Option Int := (s_l01Degree p0).run some
noncomputable def s_l01Degree_V : Env := ⟨tau, [], []⟩
noncomputable def s_l01Degree_b : Code := (Try.f193.body).getD .skip
noncomputable def s_l01Degree_l2_mk : (Int × Int) → St := fun x => stOf [(0, (.imm true (.int .i64) x.1)), (3, (.imm true (.int .i64) x.2))] []
noncomputable def s_l01Degree_l2_out : Int → Ex × St := fun x => (.exit 0, stOf [(3, (.imm true (.int .i64) x))] [])
noncomputable def s_l01Degree_l2_D (s : St) : Tre (Ex × St) :=
 asImmZ true (.int .i64) (s.tmps 0) fun d2 =>
 asImmZ true (.int .i64) (s.tmps 3) fun d4 =>
 .mat (loopF s_l01Degree_l2 (d2, d4)) fun x => .ret (s_l01Degree_l2_out x)
noncomputable def s_l01Degree_l2_L : LoopI := ⟨([0, 3], []), ([3], []), s_l01Degree_l2_D⟩
noncomputable def s_l01Degree_A : List (Nat × LoopI) := [(2, s_l01Degree_l2_L)]
set_option maxRecDepth 100000 in
theorem s_l01Degree_l2_step : ∀ (x : (Int × Int)) (c : St → Option (Ex × St)), den s_l01Degree_V s_l01Degree_A (loopAt s_l01Degree_b 0) (s_l01Degree_l2_mk x) (roundK s_l01Degree_l2_L.kp s_l01Degree_l2_L.kx c) = (s_l01Degree_l2 x).run (roundR (s_l01Degree_l2_mk) (s_l01Degree_l2_out) c) := fun _ _ => by
 kernel_rfl
theorem s_l01Degree_l2_ok : LoopOK s_l01Degree_V s_l01Degree_A (loopAt s_l01Degree_b 0) s_l01Degree_l2_L := loopOK_of fun s e s' h => by
 generalize hs : restrict s_l01Degree_l2_L.kp s = s1 at h
 have h : (s_l01Degree_l2_D s1).run some = some (e, s') := h
 obtain ⟨d2, e1, h_0⟩ := asImmZ_spec h
 obtain ⟨d4, e3, h_1⟩ := asImmZ_spec h_0
 obtain ⟨y, hy, hz⟩ := mat_ret h_1
 refine ⟨_, _, s_l01Degree_l2_mk, s_l01Degree_l2_out, s_l01Degree_l2, (d2, d4), y, ?_, hy, ?_, s_l01Degree_l2_step⟩
 ·subst hs; exact restrict_eq (T := [(0, (.imm true (.int .i64) d2)), (3, (.imm true (.int .i64) d4))]) (U := []) rfl rfl ⟨e1, e3, trivial⟩ trivial
 ·exact Option.some.inj hz
noncomputable def s_l01Degree_I : FnI := ⟨s_l01Degree_b, Try.f193.results.toList, Try.f193.resultTypes.toList, s_l01Degree_A⟩
noncomputable def s_l01Degree_out (_p0 : Int) : Int → CallOut := fun r => ⟨(.imm true (.int .i64) r), [], []⟩
set_option maxRecDepth 100000 in
theorem s_l01Degree_eq : ∀ (p0 : Int), denFn s_l01Degree_V s_l01Degree_I ⟨[(.imm true (.int .i64) p0)], []⟩ = (s_l01Degree p0).run fun r => some (s_l01Degree_out p0 r) := fun _ => by kernel_rfl
noncomputable def s_l01Degree_G (av : List AV) (rs : List Root) : Tre CallOut :=
 asCons av fun a0_ av0 =>
 asEnd av0 <|
 asEnd rs <|
 asImmZ true (.int .i64) a0_ fun d1 =>
 .mat (s_l01Degree_F d1) fun r => .ret (s_l01Degree_out d1 r)
noncomputable def s_l01Degree_c : Ctr := ⟨[], fun ci => s_l01Degree_G ci.args ci.roots, false⟩
theorem s_l01Degree_env : EnvOK Try.prog .none s_l01Degree_V := envOK_nil
set_option maxRecDepth 100000 in
theorem s_l01Degree_ok : Contract Try.prog .none 193 s_l01Degree_c := by
 have hl : LoopsOK s_l01Degree_V s_l01Degree_A s_l01Degree_b := (loopsOK_all (n := 1) (by kernel_rfl) fun k hk => by
   match k, hk with
   | 0, _ => exact loopOK_at (id := 2) (L := s_l01Degree_l2_L) (by kernel_rfl) (by kernel_rfl) s_l01Degree_l2_ok)
 refine (contract_of (F := s_l01Degree_I) tau_tys s_l01Degree_env Try.func193 (by kernel_rfl) (by kernel_rfl) (by kernel_rfl) hl []).weaken ?_
 rintro ⟨av, rs⟩ co h
 have h : (s_l01Degree_G av rs).run some = some co := h
 obtain ⟨a0_, av0, rfl, h_0⟩ := asCons_spec h
 obtain ⟨rfl, h_1⟩ := asEnd_spec h_0
 obtain ⟨rfl, h_2⟩ := asEnd_spec h_1
 obtain ⟨d1, rfl, h_3⟩ := asImmZ_spec h_2
 exact fin_mat (s_l01Degree_eq d1) h_3
end Go.Proofs.Ytldafhnnnabipaa

namespace Go.Proofs.Ytldafhnnnabipaa
open Go Go.Abs Go.Proofs
noncomputable def s_l01Rest_l2 (h2_0_1 : Int) (h2_0_2 : Int) : Int → Tre (Int ⊕ Int) := fun s2 =>
 .mat (s_l01Degree_F s2) fun r2 =>
 .cond (decide (r2 ≥ h2_0_2))
  (.mat (s_l01Degree_F s2) fun r3 =>
  let v4 := iwrap .u64 (iwrap .i64 (r3 - h2_0_2))
  .ite (0 ≤ v4) <|
  let v5 := ixor .i64 s2 (ishl .i64 h2_0_1 v4)
  .ret (.inl v5))
  (.ret (.inr s2))
noncomputable def s_l01Rest (p0 : Int) (p1 : Int) : Tre Int :=
 .mat (s_l01Degree_F p1) fun r1 =>
 .mat (loopF (s_l01Rest_l2 p1 r1) p0) fun l6 =>
 .ret l6
noncomputable def s_l01Rest_F (p0 : Int) (p1 : Int) : Option Int := (s_l01Rest p0 p1).run some
noncomputable def s_l01Rest_V : Env := ⟨tau, [(193, s_l01Degree_c)], []⟩
noncomputable def s_l01Rest_b : Code := (Try.f221.body).getD .skip
noncomputable def s_l01Rest_l2_mk (h2_0_1 : Int) (h2_0_2 : Int) : Int → St := fun x => stOf [(0, (.imm true (.int .i64) x)), (1, (.imm true (.int .i64) h2_0_1)), (5, (.imm true (.int .i64) h2_0_2))] []
noncomputable def s_l01Rest_l2_out (_h2_0_1 : Int) (_h2_0_2 : Int) : Int → Ex × St := fun x => (.exit 0, stOf [(0, (.imm true (.int .i64) x))] [])
noncomputable def s_l01Rest_l2_D (s : St) : Tre (Ex × St) :=
 asImmZ true (.int .i64) (s.tmps 0) fun d2 =>
 asImmZ true (.int .i64) (s.tmps 1) fun d4 =>
 asImmZ true (.int .i64) (s.tmps 5) fun d6 =>
 .mat (loopF (s_l01Rest_l2 d4 d6) d2) fun x => .ret (s_l01Rest_l2_out d4 d6 x)
noncomputable def s_l01Rest_l2_L : LoopI := ⟨([0, 1, 5], []), ([0], []), s_l01Rest_l2_D⟩
noncomputable def s_l01Rest_A : List (Nat × LoopI) := [(2, s_l01Rest_l2_L)]
set_option maxRecDepth 100000 in
theorem s_l01Rest_l2_step : ∀ (h2_0_1 : Int) (h2_0_2 : Int) (x : Int) (c : St → Option (Ex × St)), den s_l01Rest_V s_l01Rest_A (loopAt s_l01Rest_b 0) (s_l01Rest_l2_mk h2_0_1 h2_0_2 x) (roundK s_l01Rest_l2_L.kp s_l01Rest_l2_L.kx c) = (s_l01Rest_l2 h2_0_1 h2_0_2 x).run (roundR (s_l01Rest_l2_mk h2_0_1 h2_0_2) (s_l01Rest_l2_out h2_0_1 h2_0_2) c) := fun _ _ _ _ => by
 kernel_rfl
theorem s_l01Rest_l2_ok : LoopOK s_l01Rest_V s_l01Rest_A (loopAt s_l01Rest_b 0) s_l01Rest_l2_L := loopOK_of fun s e s' h => by
 generalize hs : restrict s_l01Rest_l2_L.kp s = s1 at h
 have h : (s_l01Rest_l2_D s1).run some = some (e, s') := h
 obtain ⟨d2, e1, h_0⟩ := asImmZ_spec h
 obtain ⟨d4, e3, h_1⟩ := asImmZ_spec h_0
 obtain ⟨d6, e5, h_2⟩ := asImmZ_spec h_1
 obtain ⟨y, hy, hz⟩ := mat_ret h_2
 refine ⟨_, _, s_l01Rest_l2_mk d4 d6, s_l01Rest_l2_out d4 d6, s_l01Rest_l2 d4 d6, d2, y, ?_, hy, ?_, s_l01Rest_l2_step d4 d6⟩
 ·subst hs; exact restrict_eq (T := [(0, (.imm true (.int .i64) d2)), (1, (.imm true (.int .i64) d4)), (5, (.imm true (.int .i64) d6))]) (U := []) rfl rfl ⟨e1, e3, e5, trivial⟩ trivial
 ·exact Option.some.inj hz
noncomputable def s_l01Rest_I : FnI := ⟨s_l01Rest_b, Try.f221.results.toList, Try.f221.resultTypes.toList, s_l01Rest_A⟩
noncomputable def s_l01Rest_out (_p0 : Int) (_p1 : Int) : Int → CallOut := fun r => ⟨(.imm true (.int .i64) r), [], []⟩
set_option maxRecDepth 100000 in
theorem s_l01Rest_eq : ∀ (p0 : Int) (p1 : Int), denFn s_l01Rest_V s_l01Rest_I ⟨[(.imm true (.int .i64) p0), (.imm true (.int .i64) p1)], []⟩ = (s_l01Rest p0 p1).run fun r => some (s_l01Rest_out p0 p1 r) := fun _ _ => by kernel_rfl
noncomputable def s_l01Rest_G (av : List AV) (rs : List Root) : Tre CallOut :=
 asCons av fun a0_ av0 =>
 asCons av0 fun a1_ av1 =>
 asEnd av1 <|
 asEnd rs <|
 asImmZ true (.int .i64) a0_ fun d1 =>
 asImmZ true (.int .i64) a1_ fun d2 =>
 .mat (s_l01Rest_F d1 d2) fun r => .ret (s_l01Rest_out d1 d2 r)
noncomputable def s_l01Rest_c : Ctr := ⟨[], fun ci => s_l01Rest_G ci.args ci.roots, false⟩
theorem s_l01Rest_env : EnvOK Try.prog .none s_l01Rest_V := (envOK_cons s_l01Degree_ok ent193 envOK_nil)
set_option maxRecDepth 100000 in
theorem s_l01Rest_ok : Contract Try.prog .none 221 s_l01Rest_c := by
 have hl : LoopsOK s_l01Rest_V s_l01Rest_A s_l01Rest_b := (loopsOK_all (n := 1) (by kernel_rfl) fun k hk => by
   match k, hk with
   | 0, _ => exact loopOK_at (id := 2) (L := s_l01Rest_l2_L) (by kernel_rfl) (by kernel_rfl) s_l01Rest_l2_ok)
 refine (contract_of (F := s_l01Rest_I) tau_tys s_l01Rest_env Try.func221 (by kernel_rfl) (by kernel_rfl) (by kernel_rfl) hl []).weaken ?_
 rintro ⟨av, rs⟩ co h
 have h : (s_l01Rest_G av rs).run some = some co := h
 obtain ⟨a0_, av0, rfl, h_0⟩ := asCons_spec h
 obtain ⟨a1_, av1, rfl, h_1⟩ := asCons_spec h_0
 obtain ⟨rfl, h_2⟩ := asEnd_spec h_1
 obtain ⟨rfl, h_3⟩ := asEnd_spec h_2
 obtain ⟨d1, rfl, h_4⟩ := asImmZ_spec h_3
 obtain ⟨d2, rfl, h_5⟩ := asImmZ_spec h_4
 exact fin_mat (s_l01Rest_eq d1 d2) h_5
end Go.Proofs.Ytldafhnnnabipaa

namespace Go.Proofs.Ytldafhnnnabipaa
open Go Go.Abs Go.Proofs
noncomputable def s_l01Irreducible_l5 (h5_0_0 : Int) (h5_0_1 : Int) : Int → Tre (Int ⊕ (Bool ⊕ Unit)) := fun s5 =>
 .mat (s_l01Degree_F s5) fun r2 =>
 .cond (decide (r2 < h5_0_1))
  (.mat (s_l01Rest_F h5_0_0 s5) fun r3 =>
  .cond (decide (r3 = 0))
   (.ret (.inr (.inl false)))
   (.ret (.inl (iwrap .i64 (s5 + 1)))))
  (.ret (.inr (.inr ())))
noncomputable def s_l01Irreducible (p0 : Int) : Tre Bool :=
 .mat (s_l01Degree_F p0) fun r1 =>
 .cond (decide (r1 < 1))
  (.ret false)
  (.cond (decide (r1 > 5))
   (.ret false)
   (.mat (loopF (s_l01Irreducible_l5 p0 r1) 2) fun l4 =>
   .alt l4
    (fun a5 =>
     .ret a5)
    (fun _ =>
     .ret true)))
noncomputable def s_l01Irreducible_F (p0 : Int) : Option Bool := (s_l01Irreducible p0).run some
noncomputable def s_l01Irreducible_V : Env := ⟨tau, [(193, s_l01Degree_c), (221, s_l01Rest_c)], []⟩
noncomputable def s_l01Irreducible_b : Code := (Try.f203.body).getD .skip
noncomputable def s_l01Irreducible_l5_mk (h5_0_0 : Int) (h5_0_1 : Int) : Int → St := fun x => stOf [(0, (.imm true (.int .i64) h5_0_0)), (3, (.imm true (.int .i64) h5_0_1)), (4, (.imm true (.int .i64) x))] []
noncomputable def s_l01Irreducible_l5_out (_h5_0_0 : Int) (_h5_0_1 : Int) : (Bool ⊕ Unit) → Ex × St
 | .inl x => (.ret, stOf [(2, (.imm true .bool x))] [])
 | .inr x => (.exit 0, stOf [(2, .dead)] [])
noncomputable def s_l01Irreducible_l5_D (s : St) : Tre (Ex × St) :=
 asImmZ true (.int .i64) (s.tmps 0) fun d2 =>
 asImmZ true (.int .i64) (s.tmps 3) fun d4 =>
 asImmZ true (.int .i64) (s.tmps 4) fun d6 =>
 .mat (loopF (s_l01Irreducible_l5 d2 d4) d6) fun x => .alt x (fun a0 => .ret (s_l01Irreducible_l5_out d2 d4 (.inl a0))) (fun b0 => .ret (s_l01Irreducible_l5_out d2 d4 (.inr b0)))
noncomputable def s_l01Irreducible_l5_L : LoopI := ⟨([0, 3, 4], []), ([2], []), s_l01Irreducible_l5_D⟩
noncomputable def s_l01Irreducible_A : List (Nat × LoopI) := [(5, s_l01Irreducible_l5_L)]
set_option maxRecDepth 100000 in
theorem s_l01Irreducible_l5_step : ∀ (h5_0_0 : Int) (h5_0_1 : Int) (x : Int) (c : St → Option (Ex × St)), den s_l01Irreducible_V s_l01Irreducible_A (loopAt s_l01Irreducible_b 0) (s_l01Irreducible_l5_mk h5_0_0 h5_0_1 x) (roundK s_l01Irreducible_l5_L.kp s_l01Irreducible_l5_L.kx c) = (s_l01Irreducible_l5 h5_0_0 h5_0_1 x).run (roundR (s_l01Irreducible_l5_mk h5_0_0 h5_0_1) (s_l01Irreducible_l5_out h5_0_0 h5_0_1) c) := fun _ _ _ _ => by
 kernel_rfl
theorem s_l01Irreducible_l5_ok : LoopOK s_l01Irreducible_V s_l01Irreducible_A (loopAt s_l01Irreducible_b 0) s_l01Irreducible_l5_L := loopOK_of fun s e s' h => by
 generalize hs : restrict s_l01Irreducible_l5_L.kp s = s1 at h
 have h : (s_l01Irreducible_l5_D s1).run some = some (e, s') := h
 obtain ⟨d2, e1, h_0⟩ := asImmZ_spec h
 obtain ⟨d4, e3, h_1⟩ := asImmZ_spec h_0
 obtain ⟨d6, e5, h_2⟩ := asImmZ_spec h_1
 obtain ⟨y, hy, hz⟩ := mat_some h_2
 refine ⟨_, _, s_l01Irreducible_l5_mk d2 d4, s_l01Irreducible_l5_out d2 d4, s_l01Irreducible_l5 d2 d4, d6, y, ?_, hy, ?_, s_l01Irreducible_l5_step d2 d4⟩
 ·subst hs; exact restrict_eq (T := [(0, (.imm true (.int .i64) d2)), (3, (.imm true (.int .i64) d4)), (4, (.imm true (.int .i64) d6))]) (U := []) rfl rfl ⟨e1, e3, e5, trivial⟩ trivial
 ·rcases y with x | x <;> exact Option.some.inj hz
noncomputable def s_l01Irreducible_I : FnI := ⟨s_l01Irreducible_b, Try.f203.results.toList, Try.f203.resultTypes.toList, s_l01Irreducible_A⟩
noncomputable def s_l01Irreducible_out (_p0 : Int) : Bool → CallOut := fun r => ⟨(.imm true .bool r), [], []⟩
set_option maxRecDepth 100000 in
theorem s_l01Irreducible_eq : ∀ (p0 : Int), denFn s_l01Irreducible_V s_l01Irreducible_I ⟨[(.imm true (.int .i64) p0)], []⟩ = (s_l01Irreducible p0).run fun r => some (s_l01Irreducible_out p0 r) := fun _ => by kernel_rfl
noncomputable def s_l01Irreducible_G (av : List AV) (rs : List Root) : Tre CallOut :=
 asCons av fun a0_ av0 =>
 asEnd av0 <|
 asEnd rs <|
 asImmZ true (.int .i64) a0_ fun d1 =>
 .mat (s_l01Irreducible_F d1) fun r => .ret (s_l01Irreducible_out d1 r)
noncomputable def s_l01Irreducible_c : Ctr := ⟨[], fun ci => s_l01Irreducible_G ci.args ci.roots, false⟩
theorem s_l01Irreducible_env : EnvOK Try.prog .none s_l01Irreducible_V := (envOK_cons s_l01Degree_ok ent193 (envOK_cons s_l01Rest_ok ent221 envOK_nil))
set_option maxRecDepth 100000 in
theorem s_l01Irreducible_ok : Contract Try.prog .none 203 s_l01Irreducible_c := by
 have hl : LoopsOK s_l01Irreducible_V s_l01Irreducible_A s_l01Irreducible_b := (loopsOK_all (n := 1) (by kernel_rfl) fun k hk => by
   match k, hk with
   | 0, _ => exact loopOK_at (id := 5) (L := s_l01Irreducible_l5_L) (by kernel_rfl) (by kernel_rfl) s_l01Irreducible_l5_ok)
 refine (contract_of (F := s_l01Irreducible_I) tau_tys s_l01Irreducible_env Try.func203 (by kernel_rfl) (by kernel_rfl) (by kernel_rfl) hl []).weaken ?_
 rintro ⟨av, rs⟩ co h
 have h : (s_l01Irreducible_G av rs).run some = some co := h
 obtain ⟨a0_, av0, rfl, h_0⟩ := asCons_spec h
 obtain ⟨rfl, h_1⟩ := asEnd_spec h_0
 obtain ⟨rfl, h_2⟩ := asEnd_spec h_1
 obtain ⟨d1, rfl, h_3⟩ := asImmZ_spec h_2
 exact fin_mat (s_l01Irreducible_eq d1) h_3
end Go.Proofs.Ytldafhnnnabipaa

namespace Go.Proofs.Ytldafhnnnabipaa
open Go Go.Abs Go.Proofs
noncomputable def s_IsIrreducible (p0 : Int) : Tre Bool :=
 .cond (decide (p0 > 0))
  (.cond (decide (p0 < 64))
   (.mat (s_l01Irreducible_F p0) fun r1 =>
   .ret r1)
   (.ret false))
  (.ret false)
noncomputable def s_IsIrreducible_F (p0 : Int) : Option Bool := (s_IsIrreducible p0).run some
noncomputable def s_IsIrreducible_V : Env := ⟨tau, [(203, s_l01Irreducible_c)], []⟩
noncomputable def s_IsIrreducible_b : Code := (Try.f192.body).getD .skip
noncomputable def s_IsIrreducible_I : FnI := ⟨s_IsIrreducible_b, Try.f192.results.toList, Try.f192.resultTypes.toList, []⟩
noncomputable def s_IsIrreducible_out (_p0 : Int) : Bool → CallOut := fun r => ⟨(.imm true .bool r), [], []⟩
set_option maxRecDepth 100000 in
theorem s_IsIrreducible_eq : ∀ (p0 : Int), denFn s_IsIrreducible_V s_IsIrreducible_I ⟨[(.imm true (.int .i64) p0)], []⟩ = (s_IsIrreducible p0).run fun r => some (s_IsIrreducible_out p0 r) := fun _ => by kernel_rfl
noncomputable def s_IsIrreducible_G (av : List AV) (rs : List Root) : Tre CallOut :=
 asCons av fun a0_ av0 =>
 asEnd av0 <|
 asEnd rs <|
 asImmZ true (.int .i64) a0_ fun d1 =>
 .mat (s_IsIrreducible_F d1) fun r => .ret (s_IsIrreducible_out d1 r)
noncomputable def s_IsIrreducible_c : Ctr := ⟨[], fun ci => s_IsIrreducible_G ci.args ci.roots, false⟩
theorem s_IsIrreducible_env : EnvOK Try.prog .none s_IsIrreducible_V := (envOK_cons s_l01Irreducible_ok ent203 envOK_nil)
set_option maxRecDepth 100000 in
theorem s_IsIrreducible_ok : Contract Try.prog .none 192 s_IsIrreducible_c := by
 have hl : LoopsOK s_IsIrreducible_V [] s_IsIrreducible_b := loopsOK_nil (by kernel_rfl)
 refine (contract_of (F := s_IsIrreducible_I) tau_tys s_IsIrreducible_env Try.func192 (by kernel_rfl) (by kernel_rfl) (by kernel_rfl) hl []).weaken ?_
 rintro ⟨av, rs⟩ co h
 have h : (s_IsIrreducible_G av rs).run some = some co := h
 obtain ⟨a0_, av0, rfl, h_0⟩ := asCons_spec h
 obtain ⟨rfl, h_1⟩ := asEnd_spec h_0
 obtain ⟨rfl, h_2⟩ := asEnd_spec h_1
 obtain ⟨d1, rfl, h_3⟩ := asImmZ_spec h_2
 exact fin_mat (s_IsIrreducible_eq d1) h_3
end Go.Proofs.Ytldafhnnnabipaa

namespace Go.Proofs.Ytldafhnnnabipaa
open Go Go.Abs Go.Proofs
noncomputable def s_l01Ok (p0 : (Int × (Int × Unit))) : Tre Bool :=
 .cond (inR p0.1 1 5)
  (.mat (s_IsIrreducible_F p0.2.1) fun r1 =>
  .cond r1
   (.mat (s_l01Degree_F p0.2.1) fun r2 =>
   .ret (decide (r2 = p0.1)))
   (.ret false))
  (.ret false)
noncomputable def s_l01Ok_F (p0 : (Int × (Int × Unit))) : Option Bool := (s_l01Ok p0).run some
-- more
set_option maxRecDepth 100000 in
theorem s_l01Ok_is (f : Int × Int × Unit) : s_l01Ok_F f = some (fieldOk f) := by
 refine field_of (I := fun _ => none) (D := fun _ => none) ?_ ?_ (by kernel_rfl) f
 ·intro f h
  unfold s_l01Ok_F s_l01Ok
  rw [Tre.run_cond, h]; rfl
 ·intro f h
  unfold s_l01Ok_F s_l01Ok
  rw [Tre.run_cond]
  have : s_IsIrreducible_F f.2.1 = some false := by
   unfold s_IsIrreducible_F s_IsIrreducible
   rw [Tre.run_cond]
   by_cases h1 : f.2.1 > 0
   ·rw [decide_eq_true h1, cond_true, Tre.run_cond, decide_eq_false (by omega)]; rfl
   ·rw [decide_eq_false h1]; rfl
  rw [run_some_mat this]
  cases inR f.1 1 5 <;> rfl
noncomputable def s_l01Ok_V : Env := ⟨tau, [(48, s_l00In_c), (192, s_IsIrreducible_c), (193, s_l01Degree_c)], []⟩
noncomputable def s_l01Ok_b : Code := (Try.f135.body).getD .skip
noncomputable def s_l01Ok_I : FnI := ⟨s_l01Ok_b, Try.f135.results.toList, Try.f135.resultTypes.toList, []⟩
noncomputable def s_l01Ok_out (_p0 : (Int × (Int × Unit))) : Bool → CallOut := fun r => ⟨(.imm true .bool r), [], []⟩
set_option maxRecDepth 100000 in
theorem s_l01Ok_eq : ∀ (p0 : (Int × (Int × Unit))), denFn s_l01Ok_V s_l01Ok_I ⟨[(.imm true kField p0)], []⟩ = (s_l01Ok p0).run fun r => some (s_l01Ok_out p0 r) := fun _ => by kernel_rfl
noncomputable def s_l01Ok_G (av : List AV) (rs : List Root) : Tre CallOut :=
 asCons av fun a0_ av0 =>
 asEnd av0 <|
 asEnd rs <|
 asImmZ true kField a0_ fun d1 =>
 .mat (s_l01Ok_F d1) fun r => .ret (s_l01Ok_out d1 r)
noncomputable def s_l01Ok_c : Ctr := ⟨[], fun ci => s_l01Ok_G ci.args ci.roots, false⟩
theorem s_l01Ok_env : EnvOK Try.prog .none s_l01Ok_V := (envOK_cons s_l00In_ok ent48 (envOK_cons s_IsIrreducible_ok ent192 (envOK_cons s_l01Degree_ok ent193 envOK_nil)))
set_option maxRecDepth 100000 in
theorem s_l01Ok_ok : Contract Try.prog .none 135 s_l01Ok_c := by
 have hl : LoopsOK s_l01Ok_V [] s_l01Ok_b := loopsOK_nil (by kernel_rfl)
 refine (contract_of (F := s_l01Ok_I) tau_tys s_l01Ok_env Try.func135 (by kernel_rfl) (by kernel_rfl) (by kernel_rfl) hl []).weaken ?_
 rintro ⟨av, rs⟩ co h
 have h : (s_l01Ok_G av rs).run some = some co := h
 obtain ⟨a0_, av0, rfl, h_0⟩ := asCons_spec h
 obtain ⟨rfl, h_1⟩ := asEnd_spec h_0
 obtain ⟨rfl, h_2⟩ := asEnd_spec h_1
 obtain ⟨d1, rfl, h_3⟩ := asImmZ_spec h_2
 exact fin_mat (s_l01Ok_eq d1) h_3
end Go.Proofs.Ytldafhnnnabipaa

namespace Go.Proofs.Ytldafhnnnabipaa
open Go Go.Abs Go.Proofs
noncomputable def s_l00Rises_l2 (h2_0_0 : (List Int)) (h2_0_1 : Int) (h2_0_2 : Int) : Int → Tre (Int ⊕ (Bool ⊕ Unit)) := fun s2 =>
 .cond (decide (s2 < (h2_0_0.length : Int)))
  (.ite (0 ≤ s2 ∧ s2 < (h2_0_0.length : Int)) <|
  .mat (h2_0_0[s2.toNat]?) fun x1 =>
  .cond (!(inR x1 h2_0_1 h2_0_2))
   (.ret (.inr (.inl false)))
   (.cond (decide (s2 > 0))
    (.ite (0 ≤ iwrap .i64 (s2 - 1) ∧ iwrap .i64 (s2 - 1) < (h2_0_0.length : Int)) <|
    .mat (h2_0_0[(iwrap .i64 (s2 - 1)).toNat]?) fun x2 =>
    .ite (0 ≤ s2 ∧ s2 < (h2_0_0.length : Int)) <|
    .mat (h2_0_0[s2.toNat]?) fun x3 =>
    .cond (decide (x2 ≥ x3))
     (.ret (.inr (.inl false)))
     (.ret (.inl (iwrap .i64 (s2 + 1)))))
    (.ret (.inl (iwrap .i64 (s2 + 1))))))
  (.ret (.inr (.inr ())))
noncomputable def s_l00Rises (p0 : (List Int)) (p1 : Int) (p2 : Int) : Tre Bool :=
 .mat (loopF (s_l00Rises_l2 p0 p1 p2) 0) fun l4 =>
 .alt l4
  (fun a5 =>
   .ret a5)
  (fun _ =>
   .ret true)
noncomputable def s_l00Rises_F (p0 : (List Int)) (p1 : Int) (p2 : Int) : Option Bool := (s_l00Rises p0 p1 p2).run some
-- more
theorem s_l00Rises_two (a b lo hi : Int) : s_l00Rises_F [a, b] lo hi = some (inR a lo hi && (inR b lo hi && decide (a < b))) := by
 unfold s_l00Rises_F s_l00Rises
 rw [Tre.run_mat, all_loop (xs := [a, b]) (fun i x => inR x lo hi && (decide (i = 0) || decide (a < x))) (.inl false) (.inr ())]
 ·simp only [allI, Nat.zero_add, decide_true, Bool.true_or, Bool.and_true, show decide (1 = 0) = false from rfl, Bool.false_or]
  generalize (inR a lo hi && (inR b lo hi && decide (a < b))) = z
  cases z <;> rfl
 ·intro i x hx _
  unfold s_l00Rises_l2
  rw [run_inb hx, Tre.run_cond]
  cases inR x lo hi
  ·rfl
  rw [Bool.not_true, cond_false, Tre.run_cond]
  match i, hx with
  | 0, _ => rfl
  | 1, hx =>
   rw [decide_eq_true (by decide), cond_true, show iwrap .i64 ((1 : Nat) - 1 : Int) = ((0 : Nat) : Int) from by decide, run_at (x := a) rfl, run_at hx, Tre.run_cond]
   by_cases h : a < x
   ·rw [decide_eq_false (by omega), decide_eq_true h]; rfl
   ·rw [decide_eq_true (by omega), decide_eq_false h]; rfl
 ·unfold s_l00Rises_l2
  exact run_out
noncomputable def s_l00Rises_V : Env := ⟨tau, [(48, s_l00In_c)], []⟩
noncomputable def s_l00Rises_b : Code := (Try.f173.body).getD .skip
noncomputable def s_l00Rises_l2_mk (z2_0 : Bool) (h2_0_0 : (List Int)) (h2_0_1 : Int) (h2_0_2 : Int) : Int → St := fun x => stOf [(0, (.imm z2_0 (.sl (.int .i64)) h2_0_0)), (1, (.imm true (.int .i64) h2_0_1)), (2, (.imm true (.int .i64) h2_0_2)), (7, (.imm true (.int .i64) x))] []
noncomputable def s_l00Rises_l2_out (_z2_0 : Bool) (_h2_0_0 : (List Int)) (_h2_0_1 : Int) (_h2_0_2 : Int) : (Bool ⊕ Unit) → Ex × St
 | .inl x => (.ret, stOf [(6, (.imm true .bool x))] [])
 | .inr x => (.exit 0, stOf [(6, .dead)] [])
noncomputable def s_l00Rises_l2_D (s : St) : Tre (Ex × St) :=
 asImm (.sl (.int .i64)) (s.tmps 0) fun z3 d2 =>
 asImmZ true (.int .i64) (s.tmps 1) fun d5 =>
 asImmZ true (.int .i64) (s.tmps 2) fun d7 =>
 asImmZ true (.int .i64) (s.tmps 7) fun d9 =>
 .mat (loopF (s_l00Rises_l2 d2 d5 d7) d9) fun x => .alt x (fun a0 => .ret (s_l00Rises_l2_out z3 d2 d5 d7 (.inl a0))) (fun b0 => .ret (s_l00Rises_l2_out z3 d2 d5 d7 (.inr b0)))
noncomputable def s_l00Rises_l2_L : LoopI := ⟨([0, 1, 2, 7], []), ([6], []), s_l00Rises_l2_D⟩
noncomputable def s_l00Rises_A : List (Nat × LoopI) := [(2, s_l00Rises_l2_L)]
set_option maxRecDepth 100000 in
theorem s_l00Rises_l2_step : ∀ (z2_0 : Bool) (h2_0_0 : (List Int)) (h2_0_1 : Int) (h2_0_2 : Int) (x : Int) (c : St → Option (Ex × St)), den s_l00Rises_V s_l00Rises_A (loopAt s_l00Rises_b 0) (s_l00Rises_l2_mk z2_0 h2_0_0 h2_0_1 h2_0_2 x) (roundK s_l00Rises_l2_L.kp s_l00Rises_l2_L.kx c) = (s_l00Rises_l2 h2_0_0 h2_0_1 h2_0_2 x).run (roundR (s_l00Rises_l2_mk z2_0 h2_0_0 h2_0_1 h2_0_2) (s_l00Rises_l2_out z2_0 h2_0_0 h2_0_1 h2_0_2) c) := fun _ _ _ _ _ _ => by
 kernel_rfl
theorem s_l00Rises_l2_ok : LoopOK s_l00Rises_V s_l00Rises_A (loopAt s_l00Rises_b 0) s_l00Rises_l2_L := loopOK_of fun s e s' h => by
 generalize hs : restrict s_l00Rises_l2_L.kp s = s1 at h
 have h : (s_l00Rises_l2_D s1).run some = some (e, s') := h
 obtain ⟨z3, d2, e1, h_0⟩ := asImm_spec h
 obtain ⟨d5, e4, h_1⟩ := asImmZ_spec h_0
 obtain ⟨d7, e6, h_2⟩ := asImmZ_spec h_1
 obtain ⟨d9, e8, h_3⟩ := asImmZ_spec h_2
 obtain ⟨y, hy, hz⟩ := mat_some h_3
 refine ⟨_, _, s_l00Rises_l2_mk z3 d2 d5 d7, s_l00Rises_l2_out z3 d2 d5 d7, s_l00Rises_l2 d2 d5 d7, d9, y, ?_, hy, ?_, s_l00Rises_l2_step z3 d2 d5 d7⟩
 ·subst hs; exact restrict_eq (T := [(0, (.imm z3 (.sl (.int .i64)) d2)), (1, (.imm true (.int .i64) d5)), (2, (.imm true (.int .i64) d7)), (7, (.imm true (.int .i64) d9))]) (U := []) rfl rfl ⟨e1, e4, e6, e8, trivial⟩ trivial
 ·rcases y with x | x <;> exact Option.some.inj hz
noncomputable def s_l00Rises_I : FnI := ⟨s_l00Rises_b, Try.f173.results.toList, Try.f173.resultTypes.toList, s_l00Rises_A⟩
noncomputable def s_l00Rises_out (_zp0 : Bool) (_p0 : (List Int)) (_p1 : Int) (_p2 : Int) : Bool → CallOut := fun r => ⟨(.imm true .bool r), [], []⟩
set_option maxRecDepth 100000 in
theorem s_l00Rises_eq : ∀ (zp0 : Bool) (p0 : (List Int)) (p1 : Int) (p2 : Int), denFn s_l00Rises_V s_l00Rises_I ⟨[(.imm zp0 (.sl (.int .i64)) p0), (.imm true (.int .i64) p1), (.imm true (.int .i64) p2)], []⟩ = (s_l00Rises p0 p1 p2).run fun r => some (s_l00Rises_out zp0 p0 p1 p2 r) := fun _ _ _ _ => by kernel_rfl
noncomputable def s_l00Rises_G (av : List AV) (rs : List Root) : Tre CallOut :=
 asCons av fun a0_ av0 =>
 asCons av0 fun a1_ av1 =>
 asCons av1 fun a2_ av2 =>
 asEnd av2 <|
 asEnd rs <|
 asImm (.sl (.int .i64)) a0_ fun z2 d1 =>
 asImmZ true (.int .i64) a1_ fun d3 =>
 asImmZ true (.int .i64) a2_ fun d4 =>
 .mat (s_l00Rises_F d1 d3 d4) fun r => .ret (s_l00Rises_out z2 d1 d3 d4 r)
noncomputable def s_l00Rises_c : Ctr := ⟨[], fun ci => s_l00Rises_G ci.args ci.roots, false⟩
theorem s_l00Rises_env : EnvOK Try.prog .none s_l00Rises_V := (envOK_cons s_l00In_ok ent48 envOK_nil)
set_option maxRecDepth 100000 in
theorem s_l00Rises_ok : Contract Try.prog .none 173 s_l00Rises_c := by
 have hl : LoopsOK s_l00Rises_V s_l00Rises_A s_l00Rises_b := (loopsOK_all (n := 1) (by kernel_rfl) fun k hk => by
   match k, hk with
   | 0, _ => exact loopOK_at (id := 2) (L := s_l00Rises_l2_L) (by kernel_rfl) (by kernel_rfl) s_l00Rises_l2_ok)
 refine (contract_of (F := s_l00Rises_I) tau_tys s_l00Rises_env Try.func173 (by kernel_rfl) (by kernel_rfl) (by kernel_rfl) hl []).weaken ?_
 rintro ⟨av, rs⟩ co h
 have h : (s_l00Rises_G av rs).run some = some co := h
 obtain ⟨a0_, av0, rfl, h_0⟩ := asCons_spec h
 obtain ⟨a1_, av1, rfl, h_1⟩ := asCons_spec h_0
 obtain ⟨a2_, av2, rfl, h_2⟩ := asCons_spec h_1
 obtain ⟨rfl, h_3⟩ := asEnd_spec h_2
 obtain ⟨rfl, h_4⟩ := asEnd_spec h_3
 obtain ⟨z2, d1, rfl, h_5⟩ := asImm_spec h_4
 obtain ⟨d3, rfl, h_6⟩ := asImmZ_spec h_5
 obtain ⟨d4, rfl, h_7⟩ := asImmZ_spec h_6
 exact fin_mat (s_l00Rises_eq z2 d1 d3 d4) h_7
end Go.Proofs.Ytldafhnnnabipaa

namespace Go.Proofs.Ytldafhnnnabipaa
open Go Go.Abs Go.Proofs
noncomputable def s_l07Into_e270_l3 (h3_0_0 : TNet) (h3_0_1 : Int) : (Int × (List Int)) → Tre ((Int × (List Int)) ⊕ (List Int)) := fun s3 =>
 .cond (decide (s3.1 < (h3_0_0.2.2.2.1.length : Int)))
  (.ite (0 ≤ s3.1 ∧ s3.1 < (h3_0_0.2.2.2.1.length : Int)) <|
  .mat (h3_0_0.2.2.2.1[s3.1.toNat]?) fun x1 =>
  .ite ((0 : Int) ≤ 1 ∧ (1 : Int) < (x1.length : Int)) <|
  .mat (x1[1]?) fun x2 =>
  .cond (decide (x2 = h3_0_1))
   (.ite ((s3.2.length + 1) * 8 ≤ appendMax ∧ 1 ≤ 8) <|
   .ret (.inl (iwrap .i64 (s3.1 + 1), s3.2 ++ ([s3.1]))))
   (.ret (.inl (iwrap .i64 (s3.1 + 1), s3.2))))
  (.ret (.inr s3.2))
noncomputable def s_l07Into_e270 (p0 : TNet) (p1 : Int) : Tre (List Int) :=
 .mat (loopF (s_l07Into_e270_l3 p0 p1) (0, [])) fun l3 =>
 .ret l3
noncomputable def s_l07Into_e270_F (p0 : TNet) (p1 : Int) : Option (List Int) := (s_l07Into_e270 p0 p1).run some
-- more
theorem s_l07Into_is (n : TN6) (hl : n.2.2.2.1.length ≤ 14) (h2 : ∀ e ∈ n.2.2.2.1, e.length = 2) (node : Int) : s_l07Into_e270_F n node = some (intoV n.2.2.2.1 node) := by
 unfold s_l07Into_e270_F s_l07Into_e270
 rw [run_some_mat (pick_loop (xs := n.2.2.2.1) (fun i e => if e1 e = node then some (i : Int) else none) ?_ ?_)]
 ·rfl
 ·intro i acc e he hacc
  have hi : i < n.2.2.2.1.length := (List.getElem?_eq_some_iff.1 he).1
  obtain ⟨a, b, rfl⟩ := len2 (h2 e (List.mem_of_getElem? he))
  unfold s_l07Into_e270_l3
  rw [run_inb he, Tre.run_ite, if_pos ⟨by decide, by simp⟩, Tre.run_mat]
  dsimp only
  simp only [List.getElem?_cons_succ, List.getElem?_cons_zero, Option.bind_some]
  rw [Tre.run_cond, show e1 [a, b] = b from rfl, iwrap_succ (by omega)]
  by_cases h : b = node
  ·rw [decide_eq_true h, cond_true, Tre.run_ite, if_pos ⟨by unfold appendMax; omega, by decide⟩, if_pos h]; rfl
  ·rw [decide_eq_false h, cond_false, if_neg h]; simp [Tre.run_ret]
 ·intro acc
  unfold s_l07Into_e270_l3
  exact run_out
noncomputable def s_l07Into_e270_V : Env := ⟨tau, [], []⟩
noncomputable def s_l07Into_e270_b : Code := (Try.f213.body).getD .skip
noncomputable def s_l07Into_e270_l3_mk (z3_0 : Bool) (h3_0_0 : TNet) (h3_0_1 : Int) : (Int × (List Int)) → St := fun x => stOf [(0, (.iptr z3_0 (.sl kNet) ([h3_0_0]) [.idx 0])), (1, (.imm true (.int .i64) h3_0_1)), (5, (.ref (7, 0) [])), (6, (.imm true (.int .i64) x.1))] [((7, 0), some ⟨false, (.sl (.int .i64)), .own, x.2⟩)]
noncomputable def s_l07Into_e270_l3_out (_z3_0 : Bool) (_h3_0_0 : TNet) (_h3_0_1 : Int) : (List Int) → Ex × St := fun x => (.exit 0, stOf [(5, (.ref (7, 0) []))] [((7, 0), some ⟨false, (.sl (.int .i64)), .own, x⟩)])
noncomputable def s_l07Into_e270_l3_D (s : St) : Tre (Ex × St) :=
 asIptr kNet (s.tmps 0) fun z2 d3 =>
 asImmZ true (.int .i64) (s.tmps 1) fun d5 =>
 asRef (7, 0) [] (s.tmps 5) <|
 asImmZ true (.int .i64) (s.tmps 6) fun d8 =>
 asRoot false (.sl (.int .i64)) (s.roots (7, 0)) fun m10 d11 =>
 asM .own m10 <|
 .mat (loopF (s_l07Into_e270_l3 d3 d5) (d8, d11)) fun x => .ret (s_l07Into_e270_l3_out z2 d3 d5 x)
noncomputable def s_l07Into_e270_l3_L : LoopI := ⟨([0, 1, 5, 6], [(7, 0)]), ([5], [(7, 0)]), s_l07Into_e270_l3_D⟩
noncomputable def s_l07Into_e270_A : List (Nat × LoopI) := [(3, s_l07Into_e270_l3_L)]
set_option maxRecDepth 100000 in
theorem s_l07Into_e270_l3_step : ∀ (z3_0 : Bool) (h3_0_0 : TNet) (h3_0_1 : Int) (x : (Int × (List Int))) (c : St → Option (Ex × St)), den s_l07Into_e270_V s_l07Into_e270_A (loopAt s_l07Into_e270_b 0) (s_l07Into_e270_l3_mk z3_0 h3_0_0 h3_0_1 x) (roundK s_l07Into_e270_l3_L.kp s_l07Into_e270_l3_L.kx c) = (s_l07Into_e270_l3 h3_0_0 h3_0_1 x).run (roundR (s_l07Into_e270_l3_mk z3_0 h3_0_0 h3_0_1) (s_l07Into_e270_l3_out z3_0 h3_0_0 h3_0_1) c) := fun _ _ _ _ _ => by
 kernel_rfl
theorem s_l07Into_e270_l3_ok : LoopOK s_l07Into_e270_V s_l07Into_e270_A (loopAt s_l07Into_e270_b 0) s_l07Into_e270_l3_L := loopOK_of fun s e s' h => by
 generalize hs : restrict s_l07Into_e270_l3_L.kp s = s1 at h
 have h : (s_l07Into_e270_l3_D s1).run some = some (e, s') := h
 obtain ⟨z2, d3, e1, h_0⟩ := asIptr_spec h
 obtain ⟨d5, e4, h_1⟩ := asImmZ_spec h_0
 obtain ⟨e6, h_2⟩ := asRef_spec h_1
 obtain ⟨d8, e7, h_3⟩ := asImmZ_spec h_2
 obtain ⟨m10, d11, e9, h_4⟩ := asRoot_spec h_3
 obtain ⟨rfl, h_5⟩ := asM_spec h_4
 obtain ⟨y, hy, hz⟩ := mat_ret h_5
 refine ⟨_, _, s_l07Into_e270_l3_mk z2 d3 d5, s_l07Into_e270_l3_out z2 d3 d5, s_l07Into_e270_l3 d3 d5, (d8, d11), y, ?_, hy, ?_, s_l07Into_e270_l3_step z2 d3 d5⟩
 ·subst hs; exact restrict_eq (T := [(0, (.iptr z2 (.sl kNet) ([d3]) [.idx 0])), (1, (.imm true (.int .i64) d5)), (5, (.ref (7, 0) [])), (6, (.imm true (.int .i64) d8))]) (U := [((7, 0), some ⟨false, (.sl (.int .i64)), .own, d11⟩)]) rfl rfl ⟨e1, e4, e6, e7, trivial⟩ ⟨e9, trivial⟩
 ·exact Option.some.inj hz
noncomputable def s_l07Into_e270_I : FnI := ⟨s_l07Into_e270_b, Try.f213.results.toList, Try.f213.resultTypes.toList, s_l07Into_e270_A⟩
noncomputable def s_l07Into_e270_out (_zp0 : Bool) (_p0 : TNet) (_p1 : Int) : (List Int) → CallOut := fun r => ⟨(.ref (1, 0) []), [], [⟨false, (.sl (.int .i64)), .own, r⟩]⟩
set_option maxRecDepth 100000 in
theorem s_l07Into_e270_eq : ∀ (zp0 : Bool) (p0 : TNet) (p1 : Int), denFn s_l07Into_e270_V s_l07Into_e270_I ⟨[(.iptr zp0 (.sl kNet) ([p0]) [.idx 0]), (.imm true (.int .i64) p1)], []⟩ = (s_l07Into_e270 p0 p1).run fun r => some (s_l07Into_e270_out zp0 p0 p1 r) := fun _ _ _ => by kernel_rfl
noncomputable def s_l07Into_e270_G (av : List AV) (rs : List Root) : Tre CallOut :=
 asCons av fun a0_ av0 =>
 asCons av0 fun a1_ av1 =>
 asEnd av1 <|
 asEnd rs <|
 asIptr kNet a0_ fun z1 d2 =>
 asImmZ true (.int .i64) a1_ fun d3 =>
 .mat (s_l07Into_e270_F d2 d3) fun r => .ret (s_l07Into_e270_out z1 d2 d3 r)
noncomputable def s_l07Into_e270_c : Ctr := ⟨[], fun ci => s_l07Into_e270_G ci.args ci.roots, false⟩
theorem s_l07Into_e270_env : EnvOK Try.prog .none s_l07Into_e270_V := envOK_nil
set_option maxRecDepth 100000 in
theorem s_l07Into_e270_ok : Contract Try.prog .none 213 s_l07Into_e270_c := by
 have hl : LoopsOK s_l07Into_e270_V s_l07Into_e270_A s_l07Into_e270_b := (loopsOK_all (n := 1) (by kernel_rfl) fun k hk => by
   match k, hk with
   | 0, _ => exact loopOK_at (id := 3) (L := s_l07Into_e270_l3_L) (by kernel_rfl) (by kernel_rfl) s_l07Into_e270_l3_ok)
 refine (contract_of (F := s_l07Into_e270_I) tau_tys s_l07Into_e270_env Try.func213 (by kernel_rfl) (by kernel_rfl) (by kernel_rfl) hl []).weaken ?_
 rintro ⟨av, rs⟩ co h
 have h : (s_l07Into_e270_G av rs).run some = some co := h
 obtain ⟨a0_, av0, rfl, h_0⟩ := asCons_spec h
 obtain ⟨a1_, av1, rfl, h_1⟩ := asCons_spec h_0
 obtain ⟨rfl, h_2⟩ := asEnd_spec h_1
 obtain ⟨rfl, h_3⟩ := asEnd_spec h_2
 obtain ⟨z1, d2, rfl, h_4⟩ := asIptr_spec h_3
 obtain ⟨d3, rfl, h_5⟩ := asImmZ_spec h_4
 exact fin_mat (s_l07Into_e270_eq z1 d2 d3) h_5
end Go.Proofs.Ytldafhnnnabipaa

namespace Go.Proofs.Ytldafhnnnabipaa
open Go Go.Abs Go.Proofs
noncomputable def s_l07Has_e270 (p0 : TNet) (p1 : Int) : Tre Int :=
 .cond (decide (p1 = 0))
  (.ret p0.2.2.1)
  (.mat (s_l07Into_e270_F p0 p1) fun r1 =>
  .ret (r1.length : Int))
noncomputable def s_l07Has_e270_F (p0 : TNet) (p1 : Int) : Option Int := (s_l07Has_e270 p0 p1).run some
-- more
theorem s_l07Has_is (n : TN6) (hl : n.2.2.2.1.length ≤ 14) (h2 : ∀ e ∈ n.2.2.2.1, e.length = 2) (node : Int) : s_l07Has_e270_F n node = some (hasV n node) := by
 unfold s_l07Has_e270_F s_l07Has_e270 hasV
 rw [Tre.run_cond, run_some_mat (s_l07Into_is n hl h2 node)]
 by_cases h : node = 0
 ·rw [decide_eq_true h, if_pos h]; rfl
 ·rw [decide_eq_false h, if_neg h]; rfl
noncomputable def s_l07Has_e270_V : Env := ⟨tau, [(213, s_l07Into_e270_c)], []⟩
noncomputable def s_l07Has_e270_b : Code := (Try.f174.body).getD .skip
noncomputable def s_l07Has_e270_I : FnI := ⟨s_l07Has_e270_b, Try.f174.results.toList, Try.f174.resultTypes.toList, []⟩
noncomputable def s_l07Has_e270_out (_zp0 : Bool) (_p0 : TNet) (_p1 : Int) : Int → CallOut := fun r => ⟨(.imm true (.int .i64) r), [], []⟩
set_option maxRecDepth 100000 in
theorem s_l07Has_e270_eq : ∀ (zp0 : Bool) (p0 : TNet) (p1 : Int), denFn s_l07Has_e270_V s_l07Has_e270_I ⟨[(.iptr zp0 (.sl kNet) ([p0]) [.idx 0]), (.imm true (.int .i64) p1)], []⟩ = (s_l07Has_e270 p0 p1).run fun r => some (s_l07Has_e270_out zp0 p0 p1 r) := fun _ _ _ => by kernel_rfl
noncomputable def s_l07Has_e270_G (av : List AV) (rs : List Root) : Tre CallOut :=
 asCons av fun a0_ av0 =>
 asCons av0 fun a1_ av1 =>
 asEnd av1 <|
 asEnd rs <|
 asIptr kNet a0_ fun z1 d2 =>
 asImmZ true (.int .i64) a1_ fun d3 =>
 .mat (s_l07Has_e270_F d2 d3) fun r => .ret (s_l07Has_e270_out z1 d2 d3 r)
noncomputable def s_l07Has_e270_c : Ctr := ⟨[0], fun ci => s_l07Has_e270_G ci.args ci.roots, false⟩
theorem s_l07Has_e270_env : EnvOK Try.prog .none s_l07Has_e270_V := (envOK_cons s_l07Into_e270_ok ent213 envOK_nil)
set_option maxRecDepth 100000 in
theorem s_l07Has_e270_ok : Contract Try.prog .none 174 s_l07Has_e270_c := by
 have hl : LoopsOK s_l07Has_e270_V [] s_l07Has_e270_b := loopsOK_nil (by kernel_rfl)
 refine (contract_of (F := s_l07Has_e270_I) tau_tys s_l07Has_e270_env Try.func174 (by kernel_rfl) (by kernel_rfl) (by kernel_rfl) hl [0]).weaken ?_
 rintro ⟨av, rs⟩ co h
 have h : (s_l07Has_e270_G av rs).run some = some co := h
 obtain ⟨a0_, av0, rfl, h_0⟩ := asCons_spec h
 obtain ⟨a1_, av1, rfl, h_1⟩ := asCons_spec h_0
 obtain ⟨rfl, h_2⟩ := asEnd_spec h_1
 obtain ⟨rfl, h_3⟩ := asEnd_spec h_2
 obtain ⟨z1, d2, rfl, h_4⟩ := asIptr_spec h_3
 obtain ⟨d3, rfl, h_5⟩ := asImmZ_spec h_4
 exact fin_mat (s_l07Has_e270_eq z1 d2 d3) h_5
end Go.Proofs.Ytldafhnnnabipaa

namespace Go.Proofs.Ytldafhnnnabipaa
open Go Go.Abs Go.Proofs
noncomputable def s_l01Size (p0 : (Int × (Int × Unit))) : Tre Int :=
 .ite (0 ≤ iwrap .u64 p0.1) <|
 let v1 := ishl .i64 1 (iwrap .u64 p0.1)
 .ret v1
noncomputable def s_l01Size_F (p0 : (Int × (Int × Unit))) : Option Int := (s_l01Size p0).run some
noncomputable def s_l01Size_V : Env := ⟨tau, [], []⟩
noncomputable def s_l01Size_b : Code := (Try.f157.body).getD .skip
noncomputable def s_l01Size_I : FnI := ⟨s_l01Size_b, Try.f157.results.toList, Try.f157.resultTypes.toList, []⟩
noncomputable def s_l01Size_out (_p0 : (Int × (Int × Unit))) : Int → CallOut := fun r => ⟨(.imm true (.int .i64) r), [], []⟩
set_option maxRecDepth 100000 in
theorem s_l01Size_eq : ∀ (p0 : (Int × (Int × Unit))), denFn s_l01Size_V s_l01Size_I ⟨[(.imm true kField p0)], []⟩ = (s_l01Size p0).run fun r => some (s_l01Size_out p0 r) := fun _ => by kernel_rfl
noncomputable def s_l01Size_G (av : List AV) (rs : List Root) : Tre CallOut :=
 asCons av fun a0_ av0 =>
 asEnd av0 <|
 asEnd rs <|
 asImmZ true kField a0_ fun d1 =>
 .mat (s_l01Size_F d1) fun r => .ret (s_l01Size_out d1 r)
noncomputable def s_l01Size_c : Ctr := ⟨[], fun ci => s_l01Size_G ci.args ci.roots, false⟩
theorem s_l01Size_env : EnvOK Try.prog .none s_l01Size_V := envOK_nil
set_option maxRecDepth 100000 in
theorem s_l01Size_ok : Contract Try.prog .none 157 s_l01Size_c := by
 have hl : LoopsOK s_l01Size_V [] s_l01Size_b := loopsOK_nil (by kernel_rfl)
 refine (contract_of (F := s_l01Size_I) tau_tys s_l01Size_env Try.func157 (by kernel_rfl) (by kernel_rfl) (by kernel_rfl) hl []).weaken ?_
 rintro ⟨av, rs⟩ co h
 have h : (s_l01Size_G av rs).run some = some co := h
 obtain ⟨a0_, av0, rfl, h_0⟩ := asCons_spec h
 obtain ⟨rfl, h_1⟩ := asEnd_spec h_0
 obtain ⟨rfl, h_2⟩ := asEnd_spec h_1
 obtain ⟨d1, rfl, h_3⟩ := asImmZ_spec h_2
 exact fin_mat (s_l01Size_eq d1) h_3
end Go.Proofs.Ytldafhnnnabipaa

namespace Go.Proofs.Ytldafhnnnabipaa
open Go Go.Abs Go.Proofs
noncomputable def s_l04Elements_l2 (h2_0_0 : (List Int)) (h2_0_2 : (Int × (Int × Unit))) : Int → Tre (Int ⊕ (Bool ⊕ Unit)) := fun s2 =>
 .cond (decide (s2 < (h2_0_0.length : Int)))
  (.ite (0 ≤ s2 ∧ s2 < (h2_0_0.length : Int)) <|
  .mat (h2_0_0[s2.toNat]?) fun x1 =>
  .mat (s_l01Size_F h2_0_2) fun r2 =>
  let v3 := inR x1 0 (iwrap .i64 (r2 - 1))
  .cond (!v3)
   (.ret (.inr (.inl false)))
   (.ret (.inl (iwrap .i64 (s2 + 1)))))
  (.ret (.inr (.inr ())))
noncomputable def s_l04Elements (p0 : (Int × (Int × Unit))) (p1 : (List Int)) : Tre Bool :=
 .mat (loopF (s_l04Elements_l2 p1 p0) 0) fun l4 =>
 .alt l4
  (fun a5 =>
   .ret a5)
  (fun _ =>
   .ret true)
noncomputable def s_l04Elements_F (p0 : (Int × (Int × Unit))) (p1 : (List Int)) : Option Bool := (s_l04Elements p0 p1).run some
-- more
theorem s_l01Size_is {f : TF3} (hf : fieldOk f = true) : s_l01Size_F f = some (ishl .i64 1 (iwrap .u64 f.1)) := by
 have := fieldOk_deg hf
 unfold s_l01Size_F s_l01Size
 rw [Tre.run_ite, if_pos (iwrap_u64_nonneg _)]
 rfl
theorem s_l04Elements_is {f : TF3} (hf : fieldOk f = true) (c : List Int) (hc : c.length < 4611686018427387904) : s_l04Elements_F f c = some (elsOk f c) := by
 unfold s_l04Elements_F s_l04Elements elsOk
 rw [Tre.run_mat, all_loop' (xs := c) (fun x => inR x 0 (topF f)) (.inl false) (.inr ())]
 ·generalize List.all _ _ = z
  cases z <;> rfl
 ·intro i x hx
  have hi : i < c.length := (List.getElem?_eq_some_iff.1 hx).1
  unfold s_l04Elements_l2
  rw [run_inb hx, run_some_mat (s_l01Size_is hf), topF_is hf]
  dsimp only
  rw [Tre.run_cond]
  cases inR x 0 (topF f)
  ·rfl
  ·simp only [Bool.not_true, cond_false, cond_true, Tre.run_ret, iwrap_succ (show i < 4611686018427387904 by omega)]
 ·unfold s_l04Elements_l2
  exact run_out
noncomputable def s_l04Elements_V : Env := ⟨tau, [(157, s_l01Size_c), (48, s_l00In_c)], []⟩
noncomputable def s_l04Elements_b : Code := (Try.f117.body).getD .skip
noncomputable def s_l04Elements_l2_mk (z2_0 : Bool) (h2_0_0 : (List Int)) (h2_0_2 : (Int × (Int × Unit))) : Int → St := fun x => stOf [(1, (.imm z2_0 (.sl (.int .i64)) h2_0_0)), (2, (.ptr (4, 0) [])), (5, (.imm true (.int .i64) x))] [((4, 0), some ⟨true, kField, .own, h2_0_2⟩)]
noncomputable def s_l04Elements_l2_out (_z2_0 : Bool) (_h2_0_0 : (List Int)) (_h2_0_2 : (Int × (Int × Unit))) : (Bool ⊕ Unit) → Ex × St
 | .inl x => (.ret, stOf [(4, (.imm true .bool x))] [])
 | .inr x => (.exit 0, stOf [(4, .dead)] [])
noncomputable def s_l04Elements_l2_D (s : St) : Tre (Ex × St) :=
 asImm (.sl (.int .i64)) (s.tmps 1) fun z3 d2 =>
 asPtr (4, 0) [] (s.tmps 2) <|
 asImmZ true (.int .i64) (s.tmps 5) fun d6 =>
 asRoot true kField (s.roots (4, 0)) fun m8 d9 =>
 asM .own m8 <|
 .mat (loopF (s_l04Elements_l2 d2 d9) d6) fun x => .alt x (fun a0 => .ret (s_l04Elements_l2_out z3 d2 d9 (.inl a0))) (fun b0 => .ret (s_l04Elements_l2_out z3 d2 d9 (.inr b0)))
noncomputable def s_l04Elements_l2_L : LoopI := ⟨([1, 2, 5], [(4, 0)]), ([4], []), s_l04Elements_l2_D⟩
noncomputable def s_l04Elements_A : List (Nat × LoopI) := [(2, s_l04Elements_l2_L)]
set_option maxRecDepth 100000 in
theorem s_l04Elements_l2_step : ∀ (z2_0 : Bool) (h2_0_0 : (List Int)) (h2_0_2 : (Int × (Int × Unit))) (x : Int) (c : St → Option (Ex × St)), den s_l04Elements_V s_l04Elements_A (loopAt s_l04Elements_b 0) (s_l04Elements_l2_mk z2_0 h2_0_0 h2_0_2 x) (roundK s_l04Elements_l2_L.kp s_l04Elements_l2_L.kx c) = (s_l04Elements_l2 h2_0_0 h2_0_2 x).run (roundR (s_l04Elements_l2_mk z2_0 h2_0_0 h2_0_2) (s_l04Elements_l2_out z2_0 h2_0_0 h2_0_2) c) := fun _ _ _ _ _ => by
 kernel_rfl
theorem s_l04Elements_l2_ok : LoopOK s_l04Elements_V s_l04Elements_A (loopAt s_l04Elements_b 0) s_l04Elements_l2_L := loopOK_of fun s e s' h => by
 generalize hs : restrict s_l04Elements_l2_L.kp s = s1 at h
 have h : (s_l04Elements_l2_D s1).run some = some (e, s') := h
 obtain ⟨z3, d2, e1, h_0⟩ := asImm_spec h
 obtain ⟨e4, h_1⟩ := asPtr_spec h_0
 obtain ⟨d6, e5, h_2⟩ := asImmZ_spec h_1
 obtain ⟨m8, d9, e7, h_3⟩ := asRoot_spec h_2
 obtain ⟨rfl, h_4⟩ := asM_spec h_3
 obtain ⟨y, hy, hz⟩ := mat_some h_4
 refine ⟨_, _, s_l04Elements_l2_mk z3 d2 d9, s_l04Elements_l2_out z3 d2 d9, s_l04Elements_l2 d2 d9, d6, y, ?_, hy, ?_, s_l04Elements_l2_step z3 d2 d9⟩
 ·subst hs; exact restrict_eq (T := [(1, (.imm z3 (.sl (.int .i64)) d2)), (2, (.ptr (4, 0) [])), (5, (.imm true (.int .i64) d6))]) (U := [((4, 0), some ⟨true, kField, .own, d9⟩)]) rfl rfl ⟨e1, e4, e5, trivial⟩ ⟨e7, trivial⟩
 ·rcases y with x | x <;> exact Option.some.inj hz
noncomputable def s_l04Elements_I : FnI := ⟨s_l04Elements_b, Try.f117.results.toList, Try.f117.resultTypes.toList, s_l04Elements_A⟩
noncomputable def s_l04Elements_out (_zp0 : Bool) (_p0 : (Int × (Int × Unit))) (_p1 : (List Int)) : Bool → CallOut := fun r => ⟨(.imm true .bool r), [], []⟩
set_option maxRecDepth 100000 in
theorem s_l04Elements_eq : ∀ (zp0 : Bool) (p0 : (Int × (Int × Unit))) (p1 : (List Int)), denFn s_l04Elements_V s_l04Elements_I ⟨[(.imm true kField p0), (.imm zp0 (.sl (.int .i64)) p1)], []⟩ = (s_l04Elements p0 p1).run fun r => some (s_l04Elements_out zp0 p0 p1 r) := fun _ _ _ => by kernel_rfl
noncomputable def s_l04Elements_G (av : List AV) (rs : List Root) : Tre CallOut :=
 asCons av fun a0_ av0 =>
 asCons av0 fun a1_ av1 =>
 asEnd av1 <|
 asEnd rs <|
 asImmZ true kField a0_ fun d1 =>
 asImm (.sl (.int .i64)) a1_ fun z3 d2 =>
 .mat (s_l04Elements_F d1 d2) fun r => .ret (s_l04Elements_out z3 d1 d2 r)
noncomputable def s_l04Elements_c : Ctr := ⟨[], fun ci => s_l04Elements_G ci.args ci.roots, false⟩
theorem s_l04Elements_env : EnvOK Try.prog .none s_l04Elements_V := (envOK_cons s_l01Size_ok ent157 (envOK_cons s_l00In_ok ent48 envOK_nil))
set_option maxRecDepth 100000 in
theorem s_l04Elements_ok : Contract Try.prog .none 117 s_l04Elements_c := by
 have hl : LoopsOK s_l04Elements_V s_l04Elements_A s_l04Elements_b := (loopsOK_all (n := 1) (by kernel_rfl) fun k hk => by
   match k, hk with
   | 0, _ => exact loopOK_at (id := 2) (L := s_l04Elements_l2_L) (by kernel_rfl) (by kernel_rfl) s_l04Elements_l2_ok)
 refine (contract_of (F := s_l04Elements_I) tau_tys s_l04Elements_env Try.func117 (by kernel_rfl) (by kernel_rfl) (by kernel_rfl) hl []).weaken ?_
 rintro ⟨av, rs⟩ co h
 have h : (s_l04Elements_G av rs).run some = some co := h
 obtain ⟨a0_, av0, rfl, h_0⟩ := asCons_spec h
 obtain ⟨a1_, av1, rfl, h_1⟩ := asCons_spec h_0
 obtain ⟨rfl, h_2⟩ := asEnd_spec h_1
 obtain ⟨rfl, h_3⟩ := asEnd_spec h_2
 obtain ⟨d1, rfl, h_4⟩ := asImmZ_spec h_3
 obtain ⟨z3, d2, rfl, h_5⟩ := asImm_spec h_4
 exact fin_mat (s_l04Elements_eq z3 d1 d2) h_5
end Go.Proofs.Ytldafhnnnabipaa

namespace Go.Proofs.Ytldafhnnnabipaa
open Go Go.Abs Go.Proofs
noncomputable def s_l07Ok_d9f5_l4 (h4_0_1 : TNet) : Int → Tre (Int ⊕ (Bool ⊕ Unit)) := fun s4 =>
 .cond (decide (s4 < (h4_0_1.2.2.2.1.length : Int)))
  (.ite (0 ≤ s4 ∧ s4 < (h4_0_1.2.2.2.1.length : Int)) <|
  .mat (h4_0_1.2.2.2.1[s4.toNat]?) fun x2 =>
  .cond (!decide ((x2.length : Int) = 2))
   (.ret (.inr (.inl false)))
   (.ite (0 ≤ s4 ∧ s4 < (h4_0_1.2.2.2.1.length : Int)) <|
   .mat (h4_0_1.2.2.2.1[s4.toNat]?) fun x3 =>
   let v4 := iwrap .i64 (h4_0_1.2.1 - 1)
   .mat (s_l00Rises_F x3 0 v4) fun r5 =>
   .cond (!r5)
    (.ret (.inr (.inl false)))
    (.cond (decide (s4 > 0))
     (.ite (0 ≤ iwrap .i64 (s4 - 1) ∧ iwrap .i64 (s4 - 1) < (h4_0_1.2.2.2.1.length : Int)) <|
     .mat (h4_0_1.2.2.2.1[(iwrap .i64 (s4 - 1)).toNat]?) fun x6 =>
     .ite ((0 : Int) ≤ 0 ∧ (0 : Int) < (x6.length : Int)) <|
     .mat (x6[0]?) fun x7 =>
     .ite (0 ≤ s4 ∧ s4 < (h4_0_1.2.2.2.1.length : Int)) <|
     .mat (h4_0_1.2.2.2.1[s4.toNat]?) fun x8 =>
     .ite ((0 : Int) ≤ 0 ∧ (0 : Int) < (x8.length : Int)) <|
     .mat (x8[0]?) fun x9 =>
     .cond (decide (x7 > x9))
      (.ret (.inr (.inl false)))
      (.ret (.inl (iwrap .i64 (s4 + 1)))))
     (.ret (.inl (iwrap .i64 (s4 + 1)))))))
  (.ret (.inr (.inr ())))
noncomputable def s_l07Ok_d9f5_l9 (h9_0_1 : TNet) : Int → Tre (Int ⊕ (Bool ⊕ Unit)) := fun s9 =>
 .cond (decide (s9 < (h9_0_1.2.2.2.2.1.length : Int)))
  (.ite (0 ≤ s9 ∧ s9 < (h9_0_1.2.2.2.2.1.length : Int)) <|
  .mat (h9_0_1.2.2.2.2.1[s9.toNat]?) fun x13 =>
  .ite (0 ≤ s9 ∧ s9 < (h9_0_1.2.2.2.1.length : Int)) <|
  .mat (h9_0_1.2.2.2.1[s9.toNat]?) fun x14 =>
  .ite ((0 : Int) ≤ 0 ∧ (0 : Int) < (x14.length : Int)) <|
  .mat (x14[0]?) fun x15 =>
  .mat (s_l07Has_e270_F h9_0_1 x15) fun r16 =>
  .cond (!decide ((x13.length : Int) = r16))
   (.ret (.inr (.inl false)))
   (.ite (0 ≤ s9 ∧ s9 < (h9_0_1.2.2.2.2.1.length : Int)) <|
   .mat (h9_0_1.2.2.2.2.1[s9.toNat]?) fun x17 =>
   .mat (s_l04Elements_F h9_0_1.1 x17) fun r18 =>
   .cond (!r18)
    (.ret (.inr (.inl false)))
    (.ret (.inl (iwrap .i64 (s9 + 1))))))
  (.ret (.inr (.inr ())))
noncomputable def s_l07Ok_d9f5 (p0 : TNet) : Tre Bool :=
 .mat (s_l01Ok_F p0.1) fun r1 =>
 .cond (!r1)
  (.ret false)
  (.cond (!(inR p0.2.1 2 8))
   (.ret false)
   (.cond (!(inR p0.2.2.1 1 3))
    (.ret false)
    (.cond (decide ((p0.2.2.2.1.length : Int) > 14))
     (.ret false)
     (.cond (!decide ((p0.2.2.2.2.1.length : Int) = (p0.2.2.2.1.length : Int)))
      (.ret false)
      (.mat (loopF (s_l07Ok_d9f5_l4 p0) 0) fun l10 =>
      .alt l10
       (fun a11 =>
        .ret a11)
       (fun _ =>
        .mat (loopF (s_l07Ok_d9f5_l9 p0) 0) fun l19 =>
        .alt l19
         (fun a20 =>
          .ret a20)
         (fun _ =>
          .ret true)))))))
noncomputable def s_l07Ok_d9f5_F (p0 : TNet) : Option Bool := (s_l07Ok_d9f5 p0).run some
-- more
theorem s_l07Ok_edges (n : TN6) (hN : 2 ≤ n.2.1 ∧ n.2.1 ≤ 8) (hl : n.2.2.2.1.length ≤ 14) : loopF (s_l07Ok_d9f5_l4 n) 0 = some (cond (allI (edgeOk n.2.1 n.2.2.2.1) 0 n.2.2.2.1) (.inr ()) (.inl false)) := by
 refine all_loop (β := Bool ⊕ Unit) (edgeOk n.2.1 n.2.2.2.1) (.inl false) (.inr ()) ?_ ?_
 ·intro i e he hp
  have hi : i < n.2.2.2.1.length := (List.getElem?_eq_some_iff.1 he).1
  unfold s_l07Ok_d9f5_l4
  rw [run_inb he, Tre.run_cond]
  by_cases h2 : e.length = 2
  case neg =>
   rw [decide_eq_false (by omega), show edgeOk n.2.1 n.2.2.2.1 i e = false from by unfold edgeOk; rw [decide_eq_false h2]; rfl]
   rfl
  obtain ⟨a, b, rfl⟩ := len2 h2
  rw [show (!decide ((([a, b] : List Int).length : Int) = 2)) = false from rfl, cond_false, run_at he]
  dsimp only
  rw [run_some_mat (s_l00Rises_two a b 0 _), Tre.run_cond, iwrap_i64 (by omega) (by omega)]
  rw [show edgeOk n.2.1 n.2.2.2.1 i [a, b] = ((inR a 0 (n.2.1 - 1) && (inR b 0 (n.2.1 - 1) && decide (a < b))) && (decide (i = 0) || decide (e0 (n.2.2.2.1.getD (i - 1) []) ≤ a))) from by unfold edgeOk; rfl]
  generalize (inR a 0 (n.2.1 - 1) && (inR b 0 (n.2.1 - 1) && decide (a < b))) = z
  cases z
  ·rfl
  rw [Bool.not_true, cond_false, Tre.run_cond, Bool.true_and]
  by_cases h0 : i = 0
  ·subst h0; rfl
  obtain ⟨q, hq⟩ : ∃ q, n.2.2.2.1[i - 1]? = some q := ⟨_, List.getElem?_eq_getElem (by omega)⟩
  obtain ⟨c, d, rfl⟩ := len2 (edgeOk_len (hp (i - 1) q (by omega) hq))
  rw [decide_eq_true (by omega), cond_true, iwrap_pred (by omega) (by omega), run_at hq, Tre.run_ite, if_pos ⟨by decide, by simp⟩, Tre.run_mat]
  simp only [List.getElem?_cons_zero, Option.bind_some]
  rw [run_at he, Tre.run_ite, if_pos ⟨by decide, by simp⟩, Tre.run_mat]
  simp only [List.getElem?_cons_zero, Option.bind_some]
  rw [Tre.run_cond, getD_of hq, decide_eq_false h0, Bool.false_or, show e0 [c, d] = c from rfl]
  by_cases h3 : c ≤ a
  ·rw [decide_eq_false (by omega), decide_eq_true h3, cond_false, cond_true, Tre.run_ret, iwrap_succ (by omega)]
  ·rw [decide_eq_true (by omega), decide_eq_false h3]; rfl
 ·unfold s_l07Ok_d9f5_l4
  exact run_out
theorem s_l07Ok_coefs (n : TN6) (hf : fieldOk n.1 = true) (hM : n.2.2.1 ≤ 3) (hl : n.2.2.2.1.length ≤ 14) (hc : n.2.2.2.2.1.length = n.2.2.2.1.length) (h2 : ∀ e ∈ n.2.2.2.1, e.length = 2) : loopF (s_l07Ok_d9f5_l9 n) 0 = some (cond (allI (coefOk n) 0 n.2.2.2.2.1) (.inr ()) (.inl false)) := by
 refine all_loop (β := Bool ⊕ Unit) (coefOk n) (.inl false) (.inr ()) ?_ ?_
 ·intro i x hx _
  have hi : i < n.2.2.2.2.1.length := (List.getElem?_eq_some_iff.1 hx).1
  obtain ⟨e, he⟩ : ∃ e, n.2.2.2.1[i]? = some e := ⟨_, List.getElem?_eq_getElem (by omega)⟩
  obtain ⟨a, b, rfl⟩ := len2 (h2 e (List.mem_of_getElem? he))
  unfold s_l07Ok_d9f5_l9 coefOk
  rw [getD_of he, show e0 [a, b] = a from rfl, run_inb hx, run_at he, Tre.run_ite, if_pos ⟨by decide, by simp⟩, Tre.run_mat]
  simp only [List.getElem?_cons_zero, Option.bind_some]
  rw [run_some_mat (s_l07Has_is n hl h2 a), Tre.run_cond]
  by_cases h : (x.length : Int) = hasV n a
  ·rw [decide_eq_true h, Bool.not_true, cond_false, run_at hx, run_some_mat (s_l04Elements_is hf x ?_), Tre.run_cond]
   ·cases elsOk n.1 x
    ·rfl
    ·simp only [Bool.not_true, Bool.true_and, cond_false, cond_true, Tre.run_ret, iwrap_succ (show i < 4611686018427387904 by omega)]
   ·have := hasV_le n hM hl a; omega
  ·rw [decide_eq_false h]; rfl
 ·unfold s_l07Ok_d9f5_l9
  exact run_out
theorem s_l07Ok_is (n : TN6) : s_l07Ok_d9f5_F n = some (netOk n) := by
 unfold s_l07Ok_d9f5_F s_l07Ok_d9f5 netOk
 rw [run_some_mat (s_l01Ok_is n.1), Tre.run_cond]
 cases hf : fieldOk n.1
 ·rfl
 rw [Bool.not_true, cond_false, Tre.run_cond, Bool.true_and]
 cases hN : inR n.2.1 2 8
 ·rfl
 rw [Bool.not_true, cond_false, Tre.run_cond, Bool.true_and]
 cases hM : inR n.2.2.1 1 3
 ·rfl
 rw [Bool.not_true, cond_false, Tre.run_cond, Bool.true_and]
 by_cases hl : n.2.2.2.1.length ≤ 14
 case neg => rw [decide_eq_true (by omega), decide_eq_false hl]; rfl
 rw [decide_eq_false (by omega), decide_eq_true hl, cond_false, Tre.run_cond, Bool.true_and]
 by_cases hc : n.2.2.2.2.1.length = n.2.2.2.1.length
 case neg => rw [decide_eq_false (by omega), decide_eq_false hc]; rfl
 rw [decide_eq_true (by omega), decide_eq_true hc, Bool.not_true, cond_false, run_some_mat (s_l07Ok_edges n (inR_iff.1 hN) hl), Bool.true_and]
 cases he : allI (edgeOk n.2.1 n.2.2.2.1) 0 n.2.2.2.1
 ·rfl
 rw [cond_true, Tre.run_inr, run_some_mat (s_l07Ok_coefs n hf (inR_iff.1 hM).2 hl hc ?_)]
 ·cases allI (coefOk n) 0 n.2.2.2.2.1 <;> rfl
 ·intro e hm
  obtain ⟨i, hi⟩ := List.mem_iff_getElem?.1 hm
  have := (allI_iff _ 0).1 he i e hi
  rw [Nat.zero_add] at this
  exact edgeOk_len this
noncomputable def s_l07Ok_d9f5_V : Env := ⟨tau, [(135, s_l01Ok_c), (48, s_l00In_c), (173, s_l00Rises_c), (174, s_l07Has_e270_c), (117, s_l04Elements_c)], []⟩
noncomputable def s_l07Ok_d9f5_b : Code := (Try.f121.body).getD .skip
noncomputable def s_l07Ok_d9f5_l4_mk (z4_0 : Bool) (h4_0_1 : TNet) : Int → St := fun x => stOf [(0, (.ptr (0, 0) [])), (3, (.imm true (.int .i64) x))] [((0, 0), some ⟨true, kNet, (.imm z4_0), h4_0_1⟩)]
noncomputable def s_l07Ok_d9f5_l4_out (z4_0 : Bool) (h4_0_1 : TNet) : (Bool ⊕ Unit) → Ex × St
 | .inl x => (.ret, stOf [(0, (.ptr (0, 0) [])), (2, (.imm true .bool x))] [((0, 0), some ⟨true, kNet, (.imm z4_0), h4_0_1⟩)])
 | .inr x => (.exit 0, stOf [(0, (.ptr (0, 0) [])), (2, .dead)] [((0, 0), some ⟨true, kNet, (.imm z4_0), h4_0_1⟩)])
noncomputable def s_l07Ok_d9f5_l4_D (s : St) : Tre (Ex × St) :=
 asPtr (0, 0) [] (s.tmps 0) <|
 asImmZ true (.int .i64) (s.tmps 3) fun d3 =>
 asRoot true kNet (s.roots (0, 0)) fun m5 d6 =>
 asMImm m5 fun z7 =>
 .mat (loopF (s_l07Ok_d9f5_l4 d6) d3) fun x => .alt x (fun a0 => .ret (s_l07Ok_d9f5_l4_out z7 d6 (.inl a0))) (fun b0 => .ret (s_l07Ok_d9f5_l4_out z7 d6 (.inr b0)))
noncomputable def s_l07Ok_d9f5_l4_L : LoopI := ⟨([0, 3], [(0, 0)]), ([0, 2], [(0, 0)]), s_l07Ok_d9f5_l4_D⟩
noncomputable def s_l07Ok_d9f5_l9_mk (z9_0 : Bool) (h9_0_1 : TNet) : Int → St := fun x => stOf [(0, (.ptr (0, 0) [])), (4, (.imm true (.int .i64) x))] [((0, 0), some ⟨true, kNet, (.imm z9_0), h9_0_1⟩)]
noncomputable def s_l07Ok_d9f5_l9_out (z9_0 : Bool) (h9_0_1 : TNet) : (Bool ⊕ Unit) → Ex × St
 | .inl x => (.ret, stOf [(2, (.imm true .bool x))] [((0, 0), some ⟨true, kNet, (.imm z9_0), h9_0_1⟩)])
 | .inr x => (.exit 2, stOf [(2, .dead)] [((0, 0), some ⟨true, kNet, (.imm z9_0), h9_0_1⟩)])
noncomputable def s_l07Ok_d9f5_l9_D (s : St) : Tre (Ex × St) :=
 asPtr (0, 0) [] (s.tmps 0) <|
 asImmZ true (.int .i64) (s.tmps 4) fun d3 =>
 asRoot true kNet (s.roots (0, 0)) fun m5 d6 =>
 asMImm m5 fun z7 =>
 .mat (loopF (s_l07Ok_d9f5_l9 d6) d3) fun x => .alt x (fun a0 => .ret (s_l07Ok_d9f5_l9_out z7 d6 (.inl a0))) (fun b0 => .ret (s_l07Ok_d9f5_l9_out z7 d6 (.inr b0)))
noncomputable def s_l07Ok_d9f5_l9_L : LoopI := ⟨([0, 4], [(0, 0)]), ([2], [(0, 0)]), s_l07Ok_d9f5_l9_D⟩
noncomputable def s_l07Ok_d9f5_A : List (Nat × LoopI) := [(4, s_l07Ok_d9f5_l4_L), (9, s_l07Ok_d9f5_l9_L)]
set_option maxRecDepth 100000 in
theorem s_l07Ok_d9f5_l4_step : ∀ (z4_0 : Bool) (h4_0_1 : TNet) (x : Int) (c : St → Option (Ex × St)), den s_l07Ok_d9f5_V s_l07Ok_d9f5_A (loopAt s_l07Ok_d9f5_b 0) (s_l07Ok_d9f5_l4_mk z4_0 h4_0_1 x) (roundK s_l07Ok_d9f5_l4_L.kp s_l07Ok_d9f5_l4_L.kx c) = (s_l07Ok_d9f5_l4 h4_0_1 x).run (roundR (s_l07Ok_d9f5_l4_mk z4_0 h4_0_1) (s_l07Ok_d9f5_l4_out z4_0 h4_0_1) c) := fun _ _ _ _ => by
 kernel_rfl
theorem s_l07Ok_d9f5_l4_ok : LoopOK s_l07Ok_d9f5_V s_l07Ok_d9f5_A (loopAt s_l07Ok_d9f5_b 0) s_l07Ok_d9f5_l4_L := loopOK_of fun s e s' h => by
 generalize hs : restrict s_l07Ok_d9f5_l4_L.kp s = s1 at h
 have h : (s_l07Ok_d9f5_l4_D s1).run some = some (e, s') := h
 obtain ⟨e1, h_0⟩ := asPtr_spec h
 obtain ⟨d3, e2, h_1⟩ := asImmZ_spec h_0
 obtain ⟨m5, d6, e4, h_2⟩ := asRoot_spec h_1
 obtain ⟨z7, rfl, h_3⟩ := asMImm_spec h_2
 obtain ⟨y, hy, hz⟩ := mat_some h_3
 refine ⟨_, _, s_l07Ok_d9f5_l4_mk z7 d6, s_l07Ok_d9f5_l4_out z7 d6, s_l07Ok_d9f5_l4 d6, d3, y, ?_, hy, ?_, s_l07Ok_d9f5_l4_step z7 d6⟩
 ·subst hs; exact restrict_eq (T := [(0, (.ptr (0, 0) [])), (3, (.imm true (.int .i64) d3))]) (U := [((0, 0), some ⟨true, kNet, (.imm z7), d6⟩)]) rfl rfl ⟨e1, e2, trivial⟩ ⟨e4, trivial⟩
 ·rcases y with x | x <;> exact Option.some.inj hz
set_option maxRecDepth 100000 in
theorem s_l07Ok_d9f5_l9_step : ∀ (z9_0 : Bool) (h9_0_1 : TNet) (x : Int) (c : St → Option (Ex × St)), den s_l07Ok_d9f5_V s_l07Ok_d9f5_A (loopAt s_l07Ok_d9f5_b 1) (s_l07Ok_d9f5_l9_mk z9_0 h9_0_1 x) (roundK s_l07Ok_d9f5_l9_L.kp s_l07Ok_d9f5_l9_L.kx c) = (s_l07Ok_d9f5_l9 h9_0_1 x).run (roundR (s_l07Ok_d9f5_l9_mk z9_0 h9_0_1) (s_l07Ok_d9f5_l9_out z9_0 h9_0_1) c) := fun _ _ _ _ => by
 kernel_rfl
theorem s_l07Ok_d9f5_l9_ok : LoopOK s_l07Ok_d9f5_V s_l07Ok_d9f5_A (loopAt s_l07Ok_d9f5_b 1) s_l07Ok_d9f5_l9_L := loopOK_of fun s e s' h => by
 generalize hs : restrict s_l07Ok_d9f5_l9_L.kp s = s1 at h
 have h : (s_l07Ok_d9f5_l9_D s1).run some = some (e, s') := h
 obtain ⟨e1, h_0⟩ := asPtr_spec h
 obtain ⟨d3, e2, h_1⟩ := asImmZ_spec h_0
 obtain ⟨m5, d6, e4, h_2⟩ := asRoot_spec h_1
 obtain ⟨z7, rfl, h_3⟩ := asMImm_spec h_2
 obtain ⟨y, hy, hz⟩ := mat_some h_3
 refine ⟨_, _, s_l07Ok_d9f5_l9_mk z7 d6, s_l07Ok_d9f5_l9_out z7 d6, s_l07Ok_d9f5_l9 d6, d3, y, ?_, hy, ?_, s_l07Ok_d9f5_l9_step z7 d6⟩
 ·subst hs; exact restrict_eq (T := [(0, (.ptr (0, 0) [])), (4, (.imm true (.int .i64) d3))]) (U := [((0, 0), some ⟨true, kNet, (.imm z7), d6⟩)]) rfl rfl ⟨e1, e2, trivial⟩ ⟨e4, trivial⟩
 ·rcases y with x | x <;> exact Option.some.inj hz
noncomputable def s_l07Ok_d9f5_I : FnI := ⟨s_l07Ok_d9f5_b, Try.f121.results.toList, Try.f121.resultTypes.toList, s_l07Ok_d9f5_A⟩
noncomputable def s_l07Ok_d9f5_out (zp0 : Bool) (p0 : TNet) : Bool → CallOut := fun r => ⟨(.imm true .bool r), [⟨true, kNet, (.imm zp0), p0⟩], []⟩
set_option maxRecDepth 100000 in
theorem s_l07Ok_d9f5_eq : ∀ (zp0 : Bool) (p0 : TNet), denFn s_l07Ok_d9f5_V s_l07Ok_d9f5_I ⟨[(.ptr (0, 0) [])], [⟨true, kNet, (.imm zp0), p0⟩]⟩ = (s_l07Ok_d9f5 p0).run fun r => some (s_l07Ok_d9f5_out zp0 p0 r) := fun _ _ => by kernel_rfl
noncomputable def s_l07Ok_d9f5_G (av : List AV) (rs : List Root) : Tre CallOut :=
 asCons av fun a0_ av0 =>
 asEnd av0 <|
 asCons rs fun r0_ rs0 =>
 asEnd rs0 <|
 asPtr (0, 0) [] a0_ <|
 asRt true kNet r0_ fun m1 d2 =>
 asMImm m1 fun z3 =>
 .mat (s_l07Ok_d9f5_F d2) fun r => .ret (s_l07Ok_d9f5_out z3 d2 r)
noncomputable def s_l07Ok_d9f5_c : Ctr := ⟨[], fun ci => s_l07Ok_d9f5_G ci.args ci.roots, false⟩
theorem s_l07Ok_d9f5_env : EnvOK Try.prog .none s_l07Ok_d9f5_V := (envOK_cons s_l01Ok_ok ent135 (envOK_cons s_l00In_ok ent48 (envOK_cons s_l00Rises_ok ent173 (envOK_cons s_l07Has_e270_ok ent174 (envOK_cons s_l04Elements_ok ent117 envOK_nil)))))
set_option maxRecDepth 100000 in
theorem s_l07Ok_d9f5_ok : Contract Try.prog .none 121 s_l07Ok_d9f5_c := by
 have hl : LoopsOK s_l07Ok_d9f5_V s_l07Ok_d9f5_A s_l07Ok_d9f5_b := (loopsOK_all (n := 2) (by kernel_rfl) fun k hk => by
   match k, hk with
   | 0, _ => exact loopOK_at (id := 4) (L := s_l07Ok_d9f5_l4_L) (by kernel_rfl) (by kernel_rfl) s_l07Ok_d9f5_l4_ok
   | 1, _ => exact loopOK_at (id := 9) (L := s_l07Ok_d9f5_l9_L) (by kernel_rfl) (by kernel_rfl) s_l07Ok_d9f5_l9_ok)
 refine (contract_of (F := s_l07Ok_d9f5_I) tau_tys s_l07Ok_d9f5_env Try.func121 (by kernel_rfl) (by kernel_rfl) (by kernel_rfl) hl []).weaken ?_
 rintro ⟨av, rs⟩ co h
 have h : (s_l07Ok_d9f5_G av rs).run some = some co := h
 obtain ⟨a0_, av0, rfl, h_0⟩ := asCons_spec h
 obtain ⟨rfl, h_1⟩ := asEnd_spec h_0
 obtain ⟨r0_, rs0, rfl, h_2⟩ := asCons_spec h_1
 obtain ⟨rfl, h_3⟩ := asEnd_spec h_2
 obtain ⟨rfl, h_4⟩ := asPtr_spec h_3
 obtain ⟨m1, d2, rfl, h_5⟩ := asRt_spec h_4
 obtain ⟨z3, rfl, h_6⟩ := asMImm_spec h_5
 exact fin_mat (s_l07Ok_d9f5_eq z3 d2) h_6
end Go.Proofs.Ytldafhnnnabipaa

namespace Go.Proofs.Ytldafhnnnabipaa
open Go Go.Abs Go.Proofs
noncomputable def s_l07Node_4c46 (p0 : Int) (p1 : Int) (p2 : TNet) : Tre Int :=
 .mat (s_l07Ok_d9f5_F p2) fun r1 =>
 .cond (!r1)
  (.ret 1)
  (let v2 := inR p0 p1 (iwrap .i64 (p2.2.1 - 1))
  .cond (!v2)
   (.ret 2)
   (.ret 0))
noncomputable def s_l07Node_4c46_F (p0 : Int) (p1 : Int) (p2 : TNet) : Option Int := (s_l07Node_4c46 p0 p1 p2).run some
noncomputable def s_l07Node_4c46_V : Env := ⟨tau, [(121, s_l07Ok_d9f5_c), (48, s_l00In_c)], []⟩
noncomputable def s_l07Node_4c46_b : Code := (Try.f47.body).getD .skip
noncomputable def s_l07Node_4c46_I : FnI := ⟨s_l07Node_4c46_b, Try.f47.results.toList, Try.f47.resultTypes.toList, []⟩
noncomputable def s_l07Node_4c46_out (zp0 : Bool) (_p0 : Int) (_p1 : Int) (p2 : TNet) : Int → CallOut := fun r => ⟨(.imm true (.int .i64) r), [⟨true, kNet, (.imm zp0), p2⟩], []⟩
set_option maxRecDepth 100000 in
theorem s_l07Node_4c46_eq : ∀ (zp0 : Bool) (p0 : Int) (p1 : Int) (p2 : TNet), denFn s_l07Node_4c46_V s_l07Node_4c46_I ⟨[(.ptr (0, 0) []), (.imm true (.int .i64) p0), (.imm true (.int .i64) p1)], [⟨true, kNet, (.imm zp0), p2⟩]⟩ = (s_l07Node_4c46 p0 p1 p2).run fun r => some (s_l07Node_4c46_out zp0 p0 p1 p2 r) := fun _ _ _ _ => by kernel_rfl
noncomputable def s_l07Node_4c46_G (av : List AV) (rs : List Root) : Tre CallOut :=
 asCons av fun a0_ av0 =>
 asCons av0 fun a1_ av1 =>
 asCons av1 fun a2_ av2 =>
 asEnd av2 <|
 asCons rs fun r0_ rs0 =>
 asEnd rs0 <|
 asPtr (0, 0) [] a0_ <|
 asImmZ true (.int .i64) a1_ fun d1 =>
 asImmZ true (.int .i64) a2_ fun d2 =>
 asRt true kNet r0_ fun m3 d4 =>
 asMImm m3 fun z5 =>
 .mat (s_l07Node_4c46_F d1 d2 d4) fun r => .ret (s_l07Node_4c46_out z5 d1 d2 d4 r)
noncomputable def s_l07Node_4c46_c : Ctr := ⟨[], fun ci => s_l07Node_4c46_G ci.args ci.roots, false⟩
theorem s_l07Node_4c46_env : EnvOK Try.prog .none s_l07Node_4c46_V := (envOK_cons s_l07Ok_d9f5_ok ent121 (envOK_cons s_l00In_ok ent48 envOK_nil))
set_option maxRecDepth 100000 in
theorem s_l07Node_4c46_ok : Contract Try.prog .none 47 s_l07Node_4c46_c := by
 have hl : LoopsOK s_l07Node_4c46_V [] s_l07Node_4c46_b := loopsOK_nil (by kernel_rfl)
 refine (contract_of (F := s_l07Node_4c46_I) tau_tys s_l07Node_4c46_env Try.func47 (by kernel_rfl) (by kernel_rfl) (by kernel_rfl) hl []).weaken ?_
 rintro ⟨av, rs⟩ co h
 have h : (s_l07Node_4c46_G av rs).run some = some co := h
 obtain ⟨a0_, av0, rfl, h_0⟩ := asCons_spec h
 obtain ⟨a1_, av1, rfl, h_1⟩ := asCons_spec h_0
 obtain ⟨a2_, av2, rfl, h_2⟩ := asCons_spec h_1
 obtain ⟨rfl, h_3⟩ := asEnd_spec h_2
 obtain ⟨r0_, rs0, rfl, h_4⟩ := asCons_spec h_3
 obtain ⟨rfl, h_5⟩ := asEnd_spec h_4
 obtain ⟨rfl, h_6⟩ := asPtr_spec h_5
 obtain ⟨d1, rfl, h_7⟩ := asImmZ_spec h_6
 obtain ⟨d2, rfl, h_8⟩ := asImmZ_spec h_7
 obtain ⟨m3, d4, rfl, h_9⟩ := asRt_spec h_8
 obtain ⟨z5, rfl, h_10⟩ := asMImm_spec h_9
 exact fin_mat (s_l07Node_4c46_eq z5 d1 d2 d4) h_10
end Go.Proofs.Ytldafhnnnabipaa

namespace Go.Proofs.Ytldafhnnnabipaa
open Go Go.Abs Go.Proofs
noncomputable def s_l07None_d9f5 (p0 : TNet) : Tre (List Bool) :=
 .ite ((.bool : K) = .bool ∧ 0 ≤ (p0.2.2.2.1.length : Int) ∧ (p0.2.2.2.1.length : Int) = (p0.2.2.2.1.length : Int) ∧ (p0.2.2.2.1.length : Int) * (1 : Nat) ≤ 140737488355328 ∧ 1 ≤ 1) <|
 .ret (List.replicate (p0.2.2.2.1.length : Int).toNat false)
noncomputable def s_l07None_d9f5_F (p0 : TNet) : Option (List Bool) := (s_l07None_d9f5 p0).run some
noncomputable def s_l07None_d9f5_V : Env := ⟨tau, [], []⟩
noncomputable def s_l07None_d9f5_b : Code := (Try.f49.body).getD .skip
noncomputable def s_l07None_d9f5_I : FnI := ⟨s_l07None_d9f5_b, Try.f49.results.toList, Try.f49.resultTypes.toList, []⟩
noncomputable def s_l07None_d9f5_out (zp0 : Bool) (p0 : TNet) : (List Bool) → CallOut := fun r => ⟨(.ref (1, 0) []), [⟨true, kNet, (.imm zp0), p0⟩], [⟨false, (.sl .bool), .own, r⟩]⟩
set_option maxRecDepth 100000 in
theorem s_l07None_d9f5_eq : ∀ (zp0 : Bool) (p0 : TNet), denFn s_l07None_d9f5_V s_l07None_d9f5_I ⟨[(.ptr (0, 0) [])], [⟨true, kNet, (.imm zp0), p0⟩]⟩ = (s_l07None_d9f5 p0).run fun r => some (s_l07None_d9f5_out zp0 p0 r) := fun _ _ => by kernel_rfl
noncomputable def s_l07None_d9f5_G (av : List AV) (rs : List Root) : Tre CallOut :=
 asCons av fun a0_ av0 =>
 asEnd av0 <|
 asCons rs fun r0_ rs0 =>
 asEnd rs0 <|
 asPtr (0, 0) [] a0_ <|
 asRt true kNet r0_ fun m1 d2 =>
 asMImm m1 fun z3 =>
 .mat (s_l07None_d9f5_F d2) fun r => .ret (s_l07None_d9f5_out z3 d2 r)
noncomputable def s_l07None_d9f5_c : Ctr := ⟨[], fun ci => s_l07None_d9f5_G ci.args ci.roots, false⟩
theorem s_l07None_d9f5_env : EnvOK Try.prog .none s_l07None_d9f5_V := envOK_nil
set_option maxRecDepth 100000 in
theorem s_l07None_d9f5_ok : Contract Try.prog .none 49 s_l07None_d9f5_c := by
 have hl : LoopsOK s_l07None_d9f5_V [] s_l07None_d9f5_b := loopsOK_nil (by kernel_rfl)
 refine (contract_of (F := s_l07None_d9f5_I) tau_tys s_l07None_d9f5_env Try.func49 (by kernel_rfl) (by kernel_rfl) (by kernel_rfl) hl []).weaken ?_
 rintro ⟨av, rs⟩ co h
 have h : (s_l07None_d9f5_G av rs).run some = some co := h
 obtain ⟨a0_, av0, rfl, h_0⟩ := asCons_spec h
 obtain ⟨rfl, h_1⟩ := asEnd_spec h_0
 obtain ⟨r0_, rs0, rfl, h_2⟩ := asCons_spec h_1
 obtain ⟨rfl, h_3⟩ := asEnd_spec h_2
 obtain ⟨rfl, h_4⟩ := asPtr_spec h_3
 obtain ⟨m1, d2, rfl, h_5⟩ := asRt_spec h_4
 obtain ⟨z3, rfl, h_6⟩ := asMImm_spec h_5
 exact fin_mat (s_l07None_d9f5_eq z3 d2) h_6
end Go.Proofs.Ytldafhnnnabipaa

namespace Go.Proofs.Ytldafhnnnabipaa
open Go Go.Abs Go.Proofs
-- shared
def walkF (es : List (List Int)) : Int → List Int → Option Int
 | a, [] => some a
 | a, k :: l => if e0 (es.getD k.toNat []) = a then walkF es (e1 (es.getD k.toNat [])) l else none
def inE (n : TN6) (k : Int) : Bool := inR k 0 ((n.2.2.2.1.length : Int) - 1)
def pathsCode (n : TN6) (node : Int) (ps : List (List Int)) : Int := if netOk n = true then (if inR node 1 (n.2.1 - 1) = true ∧ (ps.all fun p => p.all (inE n)) = true then 0 else 2) else 1
def arePaths (n : TN6) (node : Int) (ps : List (List Int)) : Bool × Int :=
 if pathsCode n node ps = 0 then ((ps.all fun p => walkF n.2.2.2.1 0 p == some node) && decide ps.flatten.Nodup, 0) else (false, pathsCode n node ps)
def sPath (es : List (List Int)) : Int → List Bool → List Int → (Int × List Bool) ⊕ (Int × List Bool)
 | a, g, [] => .inr (a, g)
 | a, g, k :: l => if g.getD k.toNat true = true then .inl (a, g) else if e0 (es.getD k.toNat []) = a then sPath es (e1 (es.getD k.toNat [])) (g.set k.toNat true) l else .inl (a, g)
def sAll (es : List (List Int)) (node : Int) : List Bool → List (List Int) → Bool
 | _, [] => true
 | g, p :: l => match sPath es 0 g p with
  | .inl _ => false
  | .inr x => if x.1 = node then sAll es node x.2 l else false
def Marks (E : Nat) (g : List Bool) (S : List Int) : Prop := g.length = E ∧ ∀ k : Int, 0 ≤ k → k < E → g.getD k.toNat true = decide (k ∈ S)
theorem Marks.set {E : Nat} {g : List Bool} {S : List Int} (h : Marks E g S) {k : Int} (h0 : 0 ≤ k) (h1 : k < E) : Marks E (g.set k.toNat true) (S ++ [k]) := by
 refine ⟨by rw [List.length_set]; exact h.1, fun j j0 j1 => ?_⟩
 rw [List.getD_eq_getElem?_getD, List.getElem?_set]
 by_cases hj : k.toNat = j.toNat
 ·have : k = j := by omega
  subst this
  rw [if_pos rfl, if_pos (by rw [h.1]; omega)]
  simp
 ·rw [if_neg hj, ← List.getD_eq_getElem?_getD, h.2 j j0 j1]
  have : j ≠ k := by rintro rfl; exact hj rfl
  simp [this]
theorem sPath_law {E : Nat} {es : List (List Int)} : ∀ (l : List Int) (a : Int) (g : List Bool) (S : List Int), Marks E g S → S.Nodup → (∀ k ∈ l, 0 ≤ k ∧ k < E) →
  (∃ b g', sPath es a g l = .inr (b, g') ∧ walkF es a l = some b ∧ (S ++ l).Nodup ∧ Marks E g' (S ++ l)) ∨ (∃ x, sPath es a g l = .inl x ∧ ¬ ((∃ b, walkF es a l = some b) ∧ (S ++ l).Nodup)) := by
 intro l
 induction l with
 | nil => intro a g S hM hS _; exact .inl ⟨a, g, rfl, rfl, by simpa using hS, by simpa using hM⟩
 | cons k l ih =>
  intro a g S hM hS hk
  obtain ⟨k0, k1⟩ := hk k (.head _)
  simp only [sPath, walkF]
  rw [hM.2 k k0 k1]
  by_cases hkS : k ∈ S
  ·rw [if_pos (decide_eq_true hkS)]
   refine .inr ⟨_, rfl, fun h => ?_⟩
   have := List.nodup_append.1 h.2
   exact this.2.2 k hkS k (.head _) rfl
  rw [if_neg (by simp [hkS])]
  by_cases ha : e0 (es.getD k.toNat []) = a
  ·rw [if_pos ha, if_pos ha]
   have hS' : (S ++ [k]).Nodup := by
    rw [List.nodup_append]
    exact ⟨hS, by simp, fun x hx y hy hxy => by rw [List.mem_singleton] at hy; subst hy; subst hxy; exact hkS hx⟩
   have := ih (e1 (es.getD k.toNat [])) (g.set k.toNat true) (S ++ [k]) (hM.set k0 k1) hS' fun j hj => hk j (.tail _ hj)
   rw [List.append_assoc] at this
   exact this
  ·rw [if_neg ha, if_neg ha]
   exact .inr ⟨_, rfl, fun h => by obtain ⟨⟨b, hb⟩, _⟩ := h; cases hb⟩
theorem sAll_law {E : Nat} {es : List (List Int)} {node : Int} : ∀ (l : List (List Int)) (g : List Bool) (S : List Int), Marks E g S → S.Nodup → (∀ p ∈ l, ∀ k ∈ p, 0 ≤ k ∧ k < E) →
  sAll es node g l = ((l.all fun p => walkF es 0 p == some node) && decide (S ++ l.flatten).Nodup) := by
 intro l
 induction l with
 | nil => intro g S _ hS _; simp [sAll, hS]
 | cons p l ih =>
  intro g S hM hS hk
  simp only [sAll, List.all_cons, List.flatten_cons]
  rcases sPath_law p 0 g S hM hS (hk p (.head _)) with ⟨b, g', h1, h2, h3, h4⟩ | ⟨x, h1, h2⟩
  ·rw [h1, h2]
   dsimp only
   by_cases hb : b = node
   ·subst hb
    rw [if_pos rfl, ih g' (S ++ p) h4 h3 fun q hq => hk q (.tail _ hq), List.append_assoc]
    simp
   ·rw [if_neg hb]
    simp [hb]
  ·rw [h1]
   dsimp only
   symm
   rw [Bool.and_eq_false_iff]
   by_cases hw : walkF es 0 p = some node
   ·right
    rw [decide_eq_false]
    intro hn
    refine h2 ⟨⟨node, hw⟩, ?_⟩
    rw [← List.append_assoc] at hn
    exact (List.nodup_append.1 hn).1
   ·left
    simp [hw]
theorem compN_all (zs : List Int) : compN zs = zs.length ↔ ∀ j, j < zs.length → Lib.keeps zs.toArray j = true := by
 unfold compN Lib.compact Lib.compactUpTo
 rw [List.length_map]
 have : ((List.range zs.length).filter (Lib.keeps zs.toArray)).length = (List.range zs.length).length ↔ _ := List.length_filter_eq_length_iff
 rw [List.length_range] at this
 rw [this]
 simp only [List.mem_range]
theorem comp_sorted (zs : List Int) (hs : zs.Pairwise (· ≤ ·)) : compN zs = zs.length ↔ zs.Nodup := by
 have hg : ∀ j (h : j < zs.length), (zs.toArray)[j]! = zs[j] := fun j h => by simp [h]
 rw [compN_all]
 rw [List.pairwise_iff_getElem] at hs
 constructor
 ·intro hk
  rw [List.Nodup, List.pairwise_iff_getElem]
  intro i j hi hj hij
  have h1 := hk j hj
  unfold Lib.keeps at h1
  have h1 := of_decide_eq_true h1
  rw [hg j hj, hg (j - 1) (by omega)] at h1
  have h1 := h1.resolve_left (by omega)
  have h2 := hs (j - 1) j (by omega) hj (by omega)
  have h3 : zs[i] ≤ zs[j - 1] := by
   by_cases he : i = j - 1
   ·subst he; exact Int.le_refl _
   ·exact hs i (j - 1) hi (by omega) (by omega)
  omega
 ·intro hn j hj
  rw [List.Nodup, List.pairwise_iff_getElem] at hn
  unfold Lib.keeps
  apply decide_eq_true
  by_cases h0 : j = 0
  ·exact .inl h0
  ·right
   rw [hg j hj, hg (j - 1) (by omega)]
   exact (hn (j - 1) j (by omega) hj (by omega)).symm
theorem comp_sort (xs : List Int) : decide ((compN (sortI xs) : Int) = ((sortI xs).length : Int)) = decide xs.Nodup := by
 have h1 : (sortI xs).Pairwise (· ≤ ·) := by
  have := List.pairwise_mergeSort (le := fun x y : Int => decide (x ≤ y)) (by intro a b c; simp; omega) (by intro a b; simp; omega) xs
  exact this.imp fun h => of_decide_eq_true h
 have h2 := comp_sorted _ h1
 have h3 : (sortI xs).Nodup ↔ xs.Nodup := (List.mergeSort_perm xs _).nodup_iff
 rw [h3] at h2
 rw [decide_eq_decide, ← h2]
 omega
end Go.Proofs.Ytldafhnnnabipaa

namespace Go.Proofs.Ytldafhnnnabipaa
open Go Go.Abs Go.Proofs
noncomputable def s_ArePathsTo_l8 (h8_0_1 : (List (List Int))) (h8_0_2 : Int) (h8_0_4 : TNet) : Int → Tre (Int ⊕ ((Bool × Int) ⊕ Unit)) := fun s8 =>
 .ite (0 ≤ h8_0_2 ∧ h8_0_2 < (h8_0_1.length : Int)) <|
 .mat (h8_0_1[h8_0_2.toNat]?) fun x2 =>
 .cond (decide (s8 < (x2.length : Int)))
  (.ite (0 ≤ h8_0_2 ∧ h8_0_2 < (h8_0_1.length : Int)) <|
  .mat (h8_0_1[h8_0_2.toNat]?) fun x3 =>
  .ite (0 ≤ s8 ∧ s8 < (x3.length : Int)) <|
  .mat (x3[s8.toNat]?) fun x4 =>
  let v5 := iwrap .i64 ((h8_0_4.2.2.2.1.length : Int) - 1)
  .cond (!(inR x4 0 v5))
   (.ret (.inr (.inl (false, 2))))
   (.ret (.inl (iwrap .i64 (s8 + 1)))))
  (.ret (.inr (.inr ())))
noncomputable def s_ArePathsTo_l5 (h5_0_1 : (List (List Int))) (h5_0_3 : TNet) : Int → Tre (Int ⊕ ((Bool × Int) ⊕ Unit)) := fun s5 =>
 .cond (decide (s5 < (h5_0_1.length : Int)))
  (.mat (loopF (s_ArePathsTo_l8 h5_0_1 s5 h5_0_3) 0) fun l6 =>
  .alt l6
   (fun a7 =>
    .ret (.inr (.inl (a7.1, a7.2))))
   (fun _ =>
    .ret (.inl (iwrap .i64 (s5 + 1)))))
  (.ret (.inr (.inr ())))
noncomputable def s_ArePathsTo_l18 (h18_0_1 : (List (List Int))) (h18_0_2 : Int) (h18_0_5 : TNet) : (Int × Int × (List Bool)) → Tre ((Int × Int × (List Bool)) ⊕ ((Bool × Int × Int × (List Bool)) ⊕ (Int × (List Bool)))) := fun s18 =>
 .ite (0 ≤ h18_0_2 ∧ h18_0_2 < (h18_0_1.length : Int)) <|
 .mat (h18_0_1[h18_0_2.toNat]?) fun x13 =>
 .cond (decide (s18.2.1 < (x13.length : Int)))
  (.ite (0 ≤ h18_0_2 ∧ h18_0_2 < (h18_0_1.length : Int)) <|
  .mat (h18_0_1[h18_0_2.toNat]?) fun x14 =>
  .ite (0 ≤ s18.2.1 ∧ s18.2.1 < (x14.length : Int)) <|
  .mat (x14[s18.2.1.toNat]?) fun x15 =>
  .ite (0 ≤ x15 ∧ x15 < (s18.2.2.length : Int)) <|
  .mat (s18.2.2[x15.toNat]?) fun x16 =>
  .cond x16
   (.ret (.inr (.inl (false, 0, s18.1, s18.2.2))))
   (.ite (0 ≤ x15 ∧ x15 < (h18_0_5.2.2.2.1.length : Int)) <|
   .mat (h18_0_5.2.2.2.1[x15.toNat]?) fun x17 =>
   .ite ((0 : Int) ≤ 0 ∧ (0 : Int) < (x17.length : Int)) <|
   .mat (x17[0]?) fun x18 =>
   .cond (!decide (x18 = s18.1))
    (.ret (.inr (.inl (false, 0, s18.1, s18.2.2))))
    (.ite (0 ≤ x15 ∧ x15 < (s18.2.2.length : Int)) <|
    .mat (s18.2.2[x15.toNat]?) fun _ =>
    let v20 := s18.2.2.set x15.toNat true
    .ite (0 ≤ x15 ∧ x15 < (h18_0_5.2.2.2.1.length : Int)) <|
    .mat (h18_0_5.2.2.2.1[x15.toNat]?) fun x21 =>
    .ite ((0 : Int) ≤ 1 ∧ (1 : Int) < (x21.length : Int)) <|
    .mat (x21[1]?) fun x22 =>
    .ret (.inl (x22, iwrap .i64 (s18.2.1 + 1), v20)))))
  (.ret (.inr (.inr (s18.1, s18.2.2))))
noncomputable def s_ArePathsTo_l14 (h14_0_0 : Int) (h14_0_1 : (List (List Int))) (h14_0_3 : TNet) : (Int × (List Bool)) → Tre ((Int × (List Bool)) ⊕ ((Bool × Int) ⊕ Unit)) := fun s14 =>
 .cond (decide (s14.1 < (h14_0_1.length : Int)))
  (.mat (loopF (s_ArePathsTo_l18 h14_0_1 s14.1 h14_0_3) (0, 0, s14.2)) fun l23 =>
  .alt l23
   (fun a24 =>
    .ret (.inr (.inl (a24.1, a24.2.1))))
   (fun b25 =>
    .cond (!decide (b25.1 = h14_0_0))
     (.ret (.inr (.inl (false, 0))))
     (.ret (.inl (iwrap .i64 (s14.1 + 1), b25.2)))))
  (.ret (.inr (.inr ())))
noncomputable def s_ArePathsTo (p0 : TNet) (p1 : Int) (p2 : (List (List Int))) : Tre (Bool × Int) :=
 .mat (s_l07Node_4c46_F p1 1 p0) fun r1 =>
 .cond (!decide (r1 = 0))
  (.ret (false, r1))
  (.mat (loopF (s_ArePathsTo_l5 p2 p0) 0) fun l9 =>
  .alt l9
   (fun a10 =>
    .ret (a10.1, a10.2))
   (fun _ =>
    .mat (s_l07None_d9f5_F p0) fun r12 =>
    .mat (loopF (s_ArePathsTo_l14 p1 p2 p0) (0, r12)) fun l26 =>
    .alt l26
     (fun a27 =>
      .ret (a27.1, a27.2))
     (fun _ =>
      .ret (true, 0))))
noncomputable def s_ArePathsTo_F (p0 : TNet) (p1 : Int) (p2 : (List (List Int))) : Option (Bool × Int) := (s_ArePathsTo p0 p1 p2).run some
-- more
theorem s_l07Node_is (n : TN6) (node a : Int) : s_l07Node_4c46_F node a n = some (if netOk n = true then (if inR node a (n.2.1 - 1) = true then 0 else 2) else 1) := by
 unfold s_l07Node_4c46_F s_l07Node_4c46
 rw [run_some_mat (s_l07Ok_is n), Tre.run_cond]
 cases hn : netOk n
 ·rfl
 have := (netOk_iff.1 hn).nodes
 rw [Bool.not_true, cond_false]
 dsimp only
 rw [iwrap_i64 (by omega) (by omega), Tre.run_cond, if_pos rfl]
 cases inR node a (n.2.1 - 1) <;> rfl
theorem sArePaths_l8 {n : TN6} (hE : n.2.2.2.1.length ≤ 14) {ps : List (List Int)} {i : Nat} {p : List Int} (hp : ps[i]? = some p) (hl : p.length < 4611686018427387904) : loopF (s_ArePathsTo_l8 ps (i : Int) n) 0 = some (cond (p.all (inE n)) (.inr ()) (.inl (false, 2))) := by
 refine all_loop' (β := (Bool × Int) ⊕ Unit) (xs := p) (inE n) (.inl (false, 2)) (.inr ()) ?_ ?_
 ·intro j k hk
  have hj : j < p.length := (List.getElem?_eq_some_iff.1 hk).1
  unfold s_ArePathsTo_l8
  rw [run_at hp, Tre.run_cond, decide_eq_true (by omega), cond_true, run_at hp, run_at hk]
  dsimp only
  rw [iwrap_i64 (by omega) (by omega), Tre.run_cond, show inR k 0 ((n.2.2.2.1.length : Int) - 1) = inE n k from rfl]
  cases inE n k
  ·rfl
  ·simp only [Bool.not_true, cond_false, cond_true, Tre.run_ret, iwrap_succ (show j < 4611686018427387904 by omega)]
 ·unfold s_ArePathsTo_l8
  rw [run_at hp]
  exact run_out
theorem sArePaths_l5 {n : TN6} (hE : n.2.2.2.1.length ≤ 14) {ps : List (List Int)} (hs : sizeSS ps ≤ 1048576) : loopF (s_ArePathsTo_l5 ps n) 0 = some (cond (ps.all fun p => p.all (inE n)) (.inr ()) (.inl (false, 2))) := by
 have hl : ps.length ≤ 1048576 := by unfold sizeSS at hs; omega
 refine all_loop' (β := (Bool × Int) ⊕ Unit) (xs := ps) (fun p => p.all (inE n)) (.inl (false, 2)) (.inr ()) ?_ ?_
 ·intro i p hp
  have hi : i < ps.length := (List.getElem?_eq_some_iff.1 hp).1
  unfold s_ArePathsTo_l5
  rw [Tre.run_cond, decide_eq_true (by omega), cond_true, run_some_mat (sArePaths_l8 hE hp (by have := sizeSS_mem (List.mem_of_getElem? hp); omega))]
  cases p.all (inE n)
  ·rfl
  ·simp only [cond_true, Tre.run_inr, Tre.run_ret, iwrap_succ (show i < 4611686018427387904 by omega)]
 ·unfold s_ArePathsTo_l5
  exact run_out
theorem sArePaths_l18 {n : TN6} (hn : NetP n) {ps : List (List Int)} {i : Nat} {p : List Int} (hp : ps[i]? = some p) (hl : p.length < 4611686018427387904) (hr : ∀ k ∈ p, 0 ≤ k ∧ k < n.2.2.2.1.length) :
  ∀ (l : List Int) (j : Nat) (a : Int) (g : List Bool), p.drop j = l → j ≤ p.length → g.length = n.2.2.2.1.length →
  loopF (s_ArePathsTo_l18 ps (i : Int) n) (a, (j : Int), g) = some (match sPath n.2.2.2.1 a g l with
   | .inl x => .inl (false, 0, x.1, x.2)
   | .inr x => .inr x) := by
 intro l
 induction l with
 | nil =>
  intro j a g hd hj hg
  have : j = p.length := by have := List.drop_eq_nil_iff.1 hd; omega
  subst this
  refine loopF_done ?_
  unfold s_ArePathsTo_l18
  rw [run_at hp]
  exact run_out
 | cons k l ih =>
  intro j a g hd hj hg
  have hk : p[j]? = some k := by have := congrArg (·[0]?) hd; simpa using this
  have hj' : j < p.length := (List.getElem?_eq_some_iff.1 hk).1
  obtain ⟨k0, k1⟩ := hr k (List.mem_of_getElem? hk)
  obtain ⟨m, rfl⟩ := Int.eq_ofNat_of_zero_le k0
  have hm : m < n.2.2.2.1.length := by omega
  obtain ⟨e, he⟩ : ∃ e, n.2.2.2.1[m]? = some e := ⟨_, List.getElem?_eq_getElem hm⟩
  obtain ⟨c, d, rfl, _⟩ := hn.two he
  obtain ⟨b, hb⟩ : ∃ b, g[m]? = some b := ⟨_, List.getElem?_eq_getElem (by omega)⟩
  simp only [sPath, Int.toNat_natCast]
  rw [getD_of hb, getD_of he, show e0 [c, d] = c from rfl, show e1 [c, d] = d from rfl]
  rw [loopF_eq]
  unfold s_ArePathsTo_l18
  rw [run_at hp, Tre.run_cond, decide_eq_true (by dsimp only; omega), cond_true, run_at hp]
  dsimp only
  rw [run_at hk, run_at hb, Tre.run_cond]
  cases b with
  | true => rfl
  | false =>
   rw [cond_false, run_at he, Tre.run_ite, if_pos ⟨by decide, by simp⟩, Tre.run_mat, if_neg (by decide)]
   simp only [List.getElem?_cons_zero, Option.bind_some]
   rw [Tre.run_cond]
   by_cases hc : c = a
   ·rw [decide_eq_true hc, Bool.not_true, cond_false, run_at hb, if_pos hc]
    rw [run_at he, Tre.run_ite, if_pos ⟨by decide, by simp⟩, Tre.run_mat]
    simp only [List.getElem?_cons_zero, List.getElem?_cons_succ, Option.bind_some]
    rw [Tre.run_ret, Option.bind_some, iwrap_succ (by omega)]
    exact ih (j + 1) d _ (by rw [← List.drop_drop, hd]; rfl) (by omega) (by rw [List.length_set]; exact hg)
   ·rw [decide_eq_false hc, if_neg hc]; rfl
theorem sPath_len {es : List (List Int)} : ∀ (l : List Int) (a : Int) (g : List Bool) (x : Int × List Bool), sPath es a g l = .inr x → x.2.length = g.length := by
 intro l
 induction l with
 | nil => intro a g x h; cases h; rfl
 | cons k l ih =>
  intro a g x h
  simp only [sPath] at h
  split at h
  ·cases h
  ·split at h
   ·rw [ih _ _ _ h, List.length_set]
   ·cases h
theorem sArePaths_l14 {n : TN6} (hn : NetP n) {node : Int} {ps : List (List Int)} (hs : sizeSS ps ≤ 1048576) (hr : ∀ p ∈ ps, ∀ k ∈ p, 0 ≤ k ∧ k < n.2.2.2.1.length) :
  ∀ (l : List (List Int)) (i : Nat) (g : List Bool), ps.drop i = l → i ≤ ps.length → g.length = n.2.2.2.1.length →
  loopF (s_ArePathsTo_l14 node ps n) ((i : Int), g) = some (cond (sAll n.2.2.2.1 node g l) (.inr ()) (.inl (false, 0))) := by
 have hpl : ps.length ≤ 1048576 := by unfold sizeSS at hs; omega
 intro l
 induction l with
 | nil =>
  intro i g hd hi hg
  have : i = ps.length := by have := List.drop_eq_nil_iff.1 hd; omega
  subst this
  refine loopF_done ?_
  unfold s_ArePathsTo_l14
  exact run_out
 | cons p l ih =>
  intro i g hd hi hg
  have hp : ps[i]? = some p := by have := congrArg (·[0]?) hd; simpa using this
  have hi' : i < ps.length := (List.getElem?_eq_some_iff.1 hp).1
  have hl : loopF (s_ArePathsTo_l18 ps (i : Int) n) (0, 0, g) = _ := sArePaths_l18 hn hp (by have := sizeSS_mem (List.mem_of_getElem? hp); omega) (hr p (List.mem_of_getElem? hp)) p 0 0 g rfl (Nat.zero_le _) hg
  rw [loopF_eq]
  unfold s_ArePathsTo_l14
  rw [Tre.run_cond, decide_eq_true (by dsimp only; omega), cond_true]
  dsimp only
  rw [run_some_mat hl]
  simp only [sAll]
  cases hx : sPath n.2.2.2.1 0 g p with
  | inl x => rfl
  | inr x =>
   dsimp only
   rw [Tre.run_inr, Tre.run_cond]
   by_cases hb : x.1 = node
   ·rw [decide_eq_true hb, Bool.not_true, cond_false, Tre.run_ret, Option.bind_some, if_pos hb, iwrap_succ (by omega)]
    exact ih (i + 1) x.2 (by rw [← List.drop_drop, hd]; rfl) (by omega) (by rw [sPath_len _ _ _ _ hx]; exact hg)
   ·rw [decide_eq_false hb, if_neg hb]; rfl
theorem s_ArePathsTo_is (n : TN6) (node : Int) (ps : List (List Int)) (hs : sizeSS ps ≤ 1048576) : s_ArePathsTo_F n node ps = some (arePaths n node ps) := by
 unfold s_ArePathsTo_F s_ArePathsTo arePaths pathsCode
 rw [run_some_mat (s_l07Node_is n node 1), Tre.run_cond]
 cases hn : netOk n
 ·rfl
 have hP := netOk_iff.1 hn
 rw [if_pos rfl, if_pos rfl]
 cases hnode : inR node 1 (n.2.1 - 1)
 ·rfl
 rw [if_pos rfl, decide_eq_true rfl, Bool.not_true, cond_false, run_some_mat (sArePaths_l5 hP.len hs)]
 cases ha : ps.all fun p => p.all (inE n)
 ·rfl
 rw [cond_true, Tre.run_inr, if_pos (show (if true = true ∧ true = true then (0 : Int) else 2) = 0 from rfl)]
 have hr : ∀ p ∈ ps, ∀ k ∈ p, 0 ≤ k ∧ k < n.2.2.2.1.length := by
  intro p hp k hk
  have := List.all_eq_true.1 (List.all_eq_true.1 ha p hp) k hk
  unfold inE at this
  rw [inR_iff] at this
  omega
 have hl := hP.len
 have hnone : s_l07None_d9f5_F n = some (List.replicate n.2.2.2.1.length false) := by
  unfold s_l07None_d9f5_F s_l07None_d9f5
  rw [Tre.run_ite, if_pos ⟨rfl, by omega, rfl, by omega, by omega⟩, Tre.run_ret, Int.toNat_natCast]
 rw [run_some_mat hnone, run_some_mat (show loopF (s_ArePathsTo_l14 node ps n) (0, List.replicate n.2.2.2.1.length false) = _ from sArePaths_l14 hP hs hr ps 0 _ rfl (Nat.zero_le _) (by simp))]
 rw [sAll_law (E := n.2.2.2.1.length) ps _ [] ⟨by simp, fun k k0 k1 => by rw [List.getD_eq_getElem?_getD, List.getElem?_replicate, if_pos (by omega)]; simp⟩ (by simp) hr, List.nil_append]
 generalize (List.all _ _ && _) = z
 cases z <;> rfl
noncomputable def s_ArePathsTo_V : Env := ⟨tau, [(47, s_l07Node_4c46_c), (48, s_l00In_c), (49, s_l07None_d9f5_c)], []⟩
noncomputable def s_ArePathsTo_b : Code := (Try.f9.body).getD .skip
noncomputable def s_ArePathsTo_l8_mk (z8_0 : Bool) (z8_1 : Bool) (h8_0_0 : Int) (h8_0_1 : (List (List Int))) (h8_0_2 : Int) (h8_0_4 : TNet) : Int → St := fun x => stOf [(1, (.imm true (.int .i64) h8_0_0)), (2, (.imm z8_0 (.sl (.sl (.int .i64))) h8_0_1)), (3, (.ptr (5, 0) [])), (9, (.imm true (.int .i64) h8_0_2)), (10, (.imm true (.int .i64) x))] [((5, 0), some ⟨true, kNet, (.imm z8_1), h8_0_4⟩)]
noncomputable def s_ArePathsTo_l8_out (z8_0 : Bool) (z8_1 : Bool) (h8_0_0 : Int) (h8_0_1 : (List (List Int))) (h8_0_2 : Int) (h8_0_4 : TNet) : ((Bool × Int) ⊕ Unit) → Ex × St
 | .inl x => (.ret, stOf [(1, (.imm true (.int .i64) h8_0_0)), (2, (.imm z8_0 (.sl (.sl (.int .i64))) h8_0_1)), (3, (.ptr (5, 0) [])), (6, (.imm true .bool x.1)), (7, (.imm true (.int .i64) x.2)), (9, (.imm true (.int .i64) h8_0_2))] [((5, 0), some ⟨true, kNet, (.imm z8_1), h8_0_4⟩)])
 | .inr x => (.exit 2, stOf [(1, (.imm true (.int .i64) h8_0_0)), (2, (.imm z8_0 (.sl (.sl (.int .i64))) h8_0_1)), (3, (.ptr (5, 0) [])), (6, .dead), (7, .dead), (9, (.imm true (.int .i64) h8_0_2))] [((5, 0), some ⟨true, kNet, (.imm z8_1), h8_0_4⟩)])
noncomputable def s_ArePathsTo_l8_D (s : St) : Tre (Ex × St) :=
 asImmZ true (.int .i64) (s.tmps 1) fun d2 =>
 asImm (.sl (.sl (.int .i64))) (s.tmps 2) fun z5 d4 =>
 asPtr (5, 0) [] (s.tmps 3) <|
 asImmZ true (.int .i64) (s.tmps 9) fun d8 =>
 asImmZ true (.int .i64) (s.tmps 10) fun d10 =>
 asRoot true kNet (s.roots (5, 0)) fun m12 d13 =>
 asMImm m12 fun z14 =>
 .mat (loopF (s_ArePathsTo_l8 d4 d8 d13) d10) fun x => .alt x (fun a0 => .ret (s_ArePathsTo_l8_out z5 z14 d2 d4 d8 d13 (.inl a0))) (fun b0 => .ret (s_ArePathsTo_l8_out z5 z14 d2 d4 d8 d13 (.inr b0)))
noncomputable def s_ArePathsTo_l8_L : LoopI := ⟨([1, 2, 3, 9, 10], [(5, 0)]), ([1, 2, 3, 6, 7, 9], [(5, 0)]), s_ArePathsTo_l8_D⟩
noncomputable def s_ArePathsTo_l5_mk (z5_0 : Bool) (z5_1 : Bool) (h5_0_0 : Int) (h5_0_1 : (List (List Int))) (h5_0_3 : TNet) : Int → St := fun x => stOf [(1, (.imm true (.int .i64) h5_0_0)), (2, (.imm z5_0 (.sl (.sl (.int .i64))) h5_0_1)), (3, (.ptr (5, 0) [])), (9, (.imm true (.int .i64) x))] [((5, 0), some ⟨true, kNet, (.imm z5_1), h5_0_3⟩)]
noncomputable def s_ArePathsTo_l5_out (z5_0 : Bool) (z5_1 : Bool) (h5_0_0 : Int) (h5_0_1 : (List (List Int))) (h5_0_3 : TNet) : ((Bool × Int) ⊕ Unit) → Ex × St
 | .inl x => (.ret, stOf [(1, (.imm true (.int .i64) h5_0_0)), (2, (.imm z5_0 (.sl (.sl (.int .i64))) h5_0_1)), (3, (.ptr (5, 0) [])), (6, (.imm true .bool x.1)), (7, (.imm true (.int .i64) x.2))] [((5, 0), some ⟨true, kNet, (.imm z5_1), h5_0_3⟩)])
 | .inr x => (.exit 0, stOf [(1, (.imm true (.int .i64) h5_0_0)), (2, (.imm z5_0 (.sl (.sl (.int .i64))) h5_0_1)), (3, (.ptr (5, 0) [])), (6, .dead), (7, .dead)] [((5, 0), some ⟨true, kNet, (.imm z5_1), h5_0_3⟩)])
noncomputable def s_ArePathsTo_l5_D (s : St) : Tre (Ex × St) :=
 asImmZ true (.int .i64) (s.tmps 1) fun d2 =>
 asImm (.sl (.sl (.int .i64))) (s.tmps 2) fun z5 d4 =>
 asPtr (5, 0) [] (s.tmps 3) <|
 asImmZ true (.int .i64) (s.tmps 9) fun d8 =>
 asRoot true kNet (s.roots (5, 0)) fun m10 d11 =>
 asMImm m10 fun z12 =>
 .mat (loopF (s_ArePathsTo_l5 d4 d11) d8) fun x => .alt x (fun a0 => .ret (s_ArePathsTo_l5_out z5 z12 d2 d4 d11 (.inl a0))) (fun b0 => .ret (s_ArePathsTo_l5_out z5 z12 d2 d4 d11 (.inr b0)))
noncomputable def s_ArePathsTo_l5_L : LoopI := ⟨([1, 2, 3, 9], [(5, 0)]), ([1, 2, 3, 6, 7], [(5, 0)]), s_ArePathsTo_l5_D⟩
noncomputable def s_ArePathsTo_l18_mk (z18_0 : Bool) (z18_1 : Bool) (h18_0_0 : Int) (h18_0_1 : (List (List Int))) (h18_0_2 : Int) (h18_0_5 : TNet) : (Int × Int × (List Bool)) → St := fun x => stOf [(1, (.imm true (.int .i64) h18_0_0)), (2, (.imm z18_0 (.sl (.sl (.int .i64))) h18_0_1)), (3, (.ptr (5, 0) [])), (11, (.ref (13, 0) [])), (12, (.imm true (.int .i64) h18_0_2)), (13, (.imm true (.int .i64) x.1)), (14, (.imm true (.int .i64) x.2.1))] [((5, 0), some ⟨true, kNet, (.imm z18_1), h18_0_5⟩), ((13, 0), some ⟨false, (.sl .bool), .own, x.2.2⟩)]
noncomputable def s_ArePathsTo_l18_out (z18_0 : Bool) (z18_1 : Bool) (h18_0_0 : Int) (h18_0_1 : (List (List Int))) (h18_0_2 : Int) (h18_0_5 : TNet) : ((Bool × Int × Int × (List Bool)) ⊕ (Int × (List Bool))) → Ex × St
 | .inl x => (.ret, stOf [(1, (.imm true (.int .i64) h18_0_0)), (2, (.imm z18_0 (.sl (.sl (.int .i64))) h18_0_1)), (3, (.ptr (5, 0) [])), (6, (.imm true .bool x.1)), (7, (.imm true (.int .i64) x.2.1)), (11, (.ref (13, 0) [])), (12, (.imm true (.int .i64) h18_0_2)), (13, (.imm true (.int .i64) x.2.2.1))] [((5, 0), some ⟨true, kNet, (.imm z18_1), h18_0_5⟩), ((13, 0), some ⟨false, (.sl .bool), .own, x.2.2.2⟩)])
 | .inr x => (.exit 6, stOf [(1, (.imm true (.int .i64) h18_0_0)), (2, (.imm z18_0 (.sl (.sl (.int .i64))) h18_0_1)), (3, (.ptr (5, 0) [])), (6, .dead), (7, .dead), (11, (.ref (13, 0) [])), (12, (.imm true (.int .i64) h18_0_2)), (13, (.imm true (.int .i64) x.1))] [((5, 0), some ⟨true, kNet, (.imm z18_1), h18_0_5⟩), ((13, 0), some ⟨false, (.sl .bool), .own, x.2⟩)])
noncomputable def s_ArePathsTo_l18_D (s : St) : Tre (Ex × St) :=
 asImmZ true (.int .i64) (s.tmps 1) fun d2 =>
 asImm (.sl (.sl (.int .i64))) (s.tmps 2) fun z5 d4 =>
 asPtr (5, 0) [] (s.tmps 3) <|
 asRef (13, 0) [] (s.tmps 11) <|
 asImmZ true (.int .i64) (s.tmps 12) fun d9 =>
 asImmZ true (.int .i64) (s.tmps 13) fun d11 =>
 asImmZ true (.int .i64) (s.tmps 14) fun d13 =>
 asRoot true kNet (s.roots (5, 0)) fun m15 d16 =>
 asMImm m15 fun z17 =>
 asRoot false (.sl .bool) (s.roots (13, 0)) fun m19 d20 =>
 asM .own m19 <|
 .mat (loopF (s_ArePathsTo_l18 d4 d9 d16) (d11, d13, d20)) fun x => .alt x (fun a0 => .ret (s_ArePathsTo_l18_out z5 z17 d2 d4 d9 d16 (.inl a0))) (fun b0 => .ret (s_ArePathsTo_l18_out z5 z17 d2 d4 d9 d16 (.inr b0)))
noncomputable def s_ArePathsTo_l18_L : LoopI := ⟨([1, 2, 3, 11, 12, 13, 14], [(5, 0), (13, 0)]), ([1, 2, 3, 6, 7, 11, 12, 13], [(5, 0), (13, 0)]), s_ArePathsTo_l18_D⟩
noncomputable def s_ArePathsTo_l14_mk (z14_0 : Bool) (z14_1 : Bool) (h14_0_0 : Int) (h14_0_1 : (List (List Int))) (h14_0_3 : TNet) : (Int × (List Bool)) → St := fun x => stOf [(1, (.imm true (.int .i64) h14_0_0)), (2, (.imm z14_0 (.sl (.sl (.int .i64))) h14_0_1)), (3, (.ptr (5, 0) [])), (11, (.ref (13, 0) [])), (12, (.imm true (.int .i64) x.1))] [((5, 0), some ⟨true, kNet, (.imm z14_1), h14_0_3⟩), ((13, 0), some ⟨false, (.sl .bool), .own, x.2⟩)]
noncomputable def s_ArePathsTo_l14_out (_z14_0 : Bool) (_z14_1 : Bool) (_h14_0_0 : Int) (_h14_0_1 : (List (List Int))) (_h14_0_3 : TNet) : ((Bool × Int) ⊕ Unit) → Ex × St
 | .inl x => (.ret, stOf [(6, (.imm true .bool x.1)), (7, (.imm true (.int .i64) x.2))] [])
 | .inr x => (.exit 4, stOf [(6, .dead), (7, .dead)] [])
noncomputable def s_ArePathsTo_l14_D (s : St) : Tre (Ex × St) :=
 asImmZ true (.int .i64) (s.tmps 1) fun d2 =>
 asImm (.sl (.sl (.int .i64))) (s.tmps 2) fun z5 d4 =>
 asPtr (5, 0) [] (s.tmps 3) <|
 asRef (13, 0) [] (s.tmps 11) <|
 asImmZ true (.int .i64) (s.tmps 12) fun d9 =>
 asRoot true kNet (s.roots (5, 0)) fun m11 d12 =>
 asMImm m11 fun z13 =>
 asRoot false (.sl .bool) (s.roots (13, 0)) fun m15 d16 =>
 asM .own m15 <|
 .mat (loopF (s_ArePathsTo_l14 d2 d4 d12) (d9, d16)) fun x => .alt x (fun a0 => .ret (s_ArePathsTo_l14_out z5 z13 d2 d4 d12 (.inl a0))) (fun b0 => .ret (s_ArePathsTo_l14_out z5 z13 d2 d4 d12 (.inr b0)))
noncomputable def s_ArePathsTo_l14_L : LoopI := ⟨([1, 2, 3, 11, 12], [(5, 0), (13, 0)]), ([6, 7], []), s_ArePathsTo_l14_D⟩
noncomputable def s_ArePathsTo_A : List (Nat × LoopI) := [(8, s_ArePathsTo_l8_L), (5, s_ArePathsTo_l5_L), (18, s_ArePathsTo_l18_L), (14, s_ArePathsTo_l14_L)]
set_option maxRecDepth 100000 in
theorem s_ArePathsTo_l8_step : ∀ (z8_0 : Bool) (z8_1 : Bool) (h8_0_0 : Int) (h8_0_1 : (List (List Int))) (h8_0_2 : Int) (h8_0_4 : TNet) (x : Int) (c : St → Option (Ex × St)), den s_ArePathsTo_V s_ArePathsTo_A (loopAt s_ArePathsTo_b 1) (s_ArePathsTo_l8_mk z8_0 z8_1 h8_0_0 h8_0_1 h8_0_2 h8_0_4 x) (roundK s_ArePathsTo_l8_L.kp s_ArePathsTo_l8_L.kx c) = (s_ArePathsTo_l8 h8_0_1 h8_0_2 h8_0_4 x).run (roundR (s_ArePathsTo_l8_mk z8_0 z8_1 h8_0_0 h8_0_1 h8_0_2 h8_0_4) (s_ArePathsTo_l8_out z8_0 z8_1 h8_0_0 h8_0_1 h8_0_2 h8_0_4) c) := fun _ _ _ _ _ _ _ _ => by
 kernel_rfl
theorem s_ArePathsTo_l8_ok : LoopOK s_ArePathsTo_V s_ArePathsTo_A (loopAt s_ArePathsTo_b 1) s_ArePathsTo_l8_L := loopOK_of fun s e s' h => by
 generalize hs : restrict s_ArePathsTo_l8_L.kp s = s1 at h
 have h : (s_ArePathsTo_l8_D s1).run some = some (e, s') := h
 obtain ⟨d2, e1, h_0⟩ := asImmZ_spec h
 obtain ⟨z5, d4, e3, h_1⟩ := asImm_spec h_0
 obtain ⟨e6, h_2⟩ := asPtr_spec h_1
 obtain ⟨d8, e7, h_3⟩ := asImmZ_spec h_2
 obtain ⟨d10, e9, h_4⟩ := asImmZ_spec h_3
 obtain ⟨m12, d13, e11, h_5⟩ := asRoot_spec h_4
 obtain ⟨z14, rfl, h_6⟩ := asMImm_spec h_5
 obtain ⟨y, hy, hz⟩ := mat_some h_6
 refine ⟨_, _, s_ArePathsTo_l8_mk z5 z14 d2 d4 d8 d13, s_ArePathsTo_l8_out z5 z14 d2 d4 d8 d13, s_ArePathsTo_l8 d4 d8 d13, d10, y, ?_, hy, ?_, s_ArePathsTo_l8_step z5 z14 d2 d4 d8 d13⟩
 ·subst hs; exact restrict_eq (T := [(1, (.imm true (.int .i64) d2)), (2, (.imm z5 (.sl (.sl (.int .i64))) d4)), (3, (.ptr (5, 0) [])), (9, (.imm true (.int .i64) d8)), (10, (.imm true (.int .i64) d10))]) (U := [((5, 0), some ⟨true, kNet, (.imm z14), d13⟩)]) rfl rfl ⟨e1, e3, e6, e7, e9, trivial⟩ ⟨e11, trivial⟩
 ·rcases y with x | x <;> exact Option.some.inj hz
set_option maxRecDepth 100000 in
theorem s_ArePathsTo_l5_step : ∀ (z5_0 : Bool) (z5_1 : Bool) (h5_0_0 : Int) (h5_0_1 : (List (List Int))) (h5_0_3 : TNet) (x : Int) (c : St → Option (Ex × St)), den s_ArePathsTo_V s_ArePathsTo_A (loopAt s_ArePathsTo_b 0) (s_ArePathsTo_l5_mk z5_0 z5_1 h5_0_0 h5_0_1 h5_0_3 x) (roundK s_ArePathsTo_l5_L.kp s_ArePathsTo_l5_L.kx c) = (s_ArePathsTo_l5 h5_0_1 h5_0_3 x).run (roundR (s_ArePathsTo_l5_mk z5_0 z5_1 h5_0_0 h5_0_1 h5_0_3) (s_ArePathsTo_l5_out z5_0 z5_1 h5_0_0 h5_0_1 h5_0_3) c) := fun _ _ _ _ _ _ _ => by
 kernel_rfl
theorem s_ArePathsTo_l5_ok : LoopOK s_ArePathsTo_V s_ArePathsTo_A (loopAt s_ArePathsTo_b 0) s_ArePathsTo_l5_L := loopOK_of fun s e s' h => by
 generalize hs : restrict s_ArePathsTo_l5_L.kp s = s1 at h
 have h : (s_ArePathsTo_l5_D s1).run some = some (e, s') := h
 obtain ⟨d2, e1, h_0⟩ := asImmZ_spec h
 obtain ⟨z5, d4, e3, h_1⟩ := asImm_spec h_0
 obtain ⟨e6, h_2⟩ := asPtr_spec h_1
 obtain ⟨d8, e7, h_3⟩ := asImmZ_spec h_2
 obtain ⟨m10, d11, e9, h_4⟩ := asRoot_spec h_3
 obtain ⟨z12, rfl, h_5⟩ := asMImm_spec h_4
 obtain ⟨y, hy, hz⟩ := mat_some h_5
 refine ⟨_, _, s_ArePathsTo_l5_mk z5 z12 d2 d4 d11, s_ArePathsTo_l5_out z5 z12 d2 d4 d11, s_ArePathsTo_l5 d4 d11, d8, y, ?_, hy, ?_, s_ArePathsTo_l5_step z5 z12 d2 d4 d11⟩
 ·subst hs; exact restrict_eq (T := [(1, (.imm true (.int .i64) d2)), (2, (.imm z5 (.sl (.sl (.int .i64))) d4)), (3, (.ptr (5, 0) [])), (9, (.imm true (.int .i64) d8))]) (U := [((5, 0), some ⟨true, kNet, (.imm z12), d11⟩)]) rfl rfl ⟨e1, e3, e6, e7, trivial⟩ ⟨e9, trivial⟩
 ·rcases y with x | x <;> exact Option.some.inj hz
set_option maxRecDepth 100000 in
theorem s_ArePathsTo_l18_step : ∀ (z18_0 : Bool) (z18_1 : Bool) (h18_0_0 : Int) (h18_0_1 : (List (List Int))) (h18_0_2 : Int) (h18_0_5 : TNet) (x : (Int × Int × (List Bool))) (c : St → Option (Ex × St)), den s_ArePathsTo_V s_ArePathsTo_A (loopAt s_ArePathsTo_b 3) (s_ArePathsTo_l18_mk z18_0 z18_1 h18_0_0 h18_0_1 h18_0_2 h18_0_5 x) (roundK s_ArePathsTo_l18_L.kp s_ArePathsTo_l18_L.kx c) = (s_ArePathsTo_l18 h18_0_1 h18_0_2 h18_0_5 x).run (roundR (s_ArePathsTo_l18_mk z18_0 z18_1 h18_0_0 h18_0_1 h18_0_2 h18_0_5) (s_ArePathsTo_l18_out z18_0 z18_1 h18_0_0 h18_0_1 h18_0_2 h18_0_5) c) := fun _ _ _ _ _ _ _ _ => by
 kernel_rfl
theorem s_ArePathsTo_l18_ok : LoopOK s_ArePathsTo_V s_ArePathsTo_A (loopAt s_ArePathsTo_b 3) s_ArePathsTo_l18_L := loopOK_of fun s e s' h => by
 generalize hs : restrict s_ArePathsTo_l18_L.kp s = s1 at h
 have h : (s_ArePathsTo_l18_D s1).run some = some (e, s') := h
 obtain ⟨d2, e1, h_0⟩ := asImmZ_spec h
 obtain ⟨z5, d4, e3, h_1⟩ := asImm_spec h_0
 obtain ⟨e6, h_2⟩ := asPtr_spec h_1
 obtain ⟨e7, h_3⟩ := asRef_spec h_2
 obtain ⟨d9, e8, h_4⟩ := asImmZ_spec h_3
 obtain ⟨d11, e10, h_5⟩ := asImmZ_spec h_4
 obtain ⟨d13, e12, h_6⟩ := asImmZ_spec h_5
 obtain ⟨m15, d16, e14, h_7⟩ := asRoot_spec h_6
 obtain ⟨z17, rfl, h_8⟩ := asMImm_spec h_7
 obtain ⟨m19, d20, e18, h_9⟩ := asRoot_spec h_8
 obtain ⟨rfl, h_10⟩ := asM_spec h_9
 obtain ⟨y, hy, hz⟩ := mat_some h_10
 refine ⟨_, _, s_ArePathsTo_l18_mk z5 z17 d2 d4 d9 d16, s_ArePathsTo_l18_out z5 z17 d2 d4 d9 d16, s_ArePathsTo_l18 d4 d9 d16, (d11, d13, d20), y, ?_, hy, ?_, s_ArePathsTo_l18_step z5 z17 d2 d4 d9 d16⟩
 ·subst hs; exact restrict_eq (T := [(1, (.imm true (.int .i64) d2)), (2, (.imm z5 (.sl (.sl (.int .i64))) d4)), (3, (.ptr (5, 0) [])), (11, (.ref (13, 0) [])), (12, (.imm true (.int .i64) d9)), (13, (.imm true (.int .i64) d11)), (14, (.imm true (.int .i64) d13))]) (U := [((5, 0), some ⟨true, kNet, (.imm z17), d16⟩), ((13, 0), some ⟨false, (.sl .bool), .own, d20⟩)]) rfl rfl ⟨e1, e3, e6, e7, e8, e10, e12, trivial⟩ ⟨e14, e18, trivial⟩
 ·rcases y with x | x <;> exact Option.some.inj hz
set_option maxRecDepth 100000 in
theorem s_ArePathsTo_l14_step : ∀ (z14_0 : Bool) (z14_1 : Bool) (h14_0_0 : Int) (h14_0_1 : (List (List Int))) (h14_0_3 : TNet) (x : (Int × (List Bool))) (c : St → Option (Ex × St)), den s_ArePathsTo_V s_ArePathsTo_A (loopAt s_ArePathsTo_b 2) (s_ArePathsTo_l14_mk z14_0 z14_1 h14_0_0 h14_0_1 h14_0_3 x) (roundK s_ArePathsTo_l14_L.kp s_ArePathsTo_l14_L.kx c) = (s_ArePathsTo_l14 h14_0_0 h14_0_1 h14_0_3 x).run (roundR (s_ArePathsTo_l14_mk z14_0 z14_1 h14_0_0 h14_0_1 h14_0_3) (s_ArePathsTo_l14_out z14_0 z14_1 h14_0_0 h14_0_1 h14_0_3) c) := fun _ _ _ _ _ _ _ => by
 kernel_rfl
theorem s_ArePathsTo_l14_ok : LoopOK s_ArePathsTo_V s_ArePathsTo_A (loopAt s_ArePathsTo_b 2) s_ArePathsTo_l14_L := loopOK_of fun s e s' h => by
 generalize hs : restrict s_ArePathsTo_l14_L.kp s = s1 at h
 have h : (s_ArePathsTo_l14_D s1).run some = some (e, s') := h
 obtain ⟨d2, e1, h_0⟩ := asImmZ_spec h
 obtain ⟨z5, d4, e3, h_1⟩ := asImm_spec h_0
 obtain ⟨e6, h_2⟩ := asPtr_spec h_1
 obtain ⟨e7, h_3⟩ := asRef_spec h_2
 obtain ⟨d9, e8, h_4⟩ := asImmZ_spec h_3
 obtain ⟨m11, d12, e10, h_5⟩ := asRoot_spec h_4
 obtain ⟨z13, rfl, h_6⟩ := asMImm_spec h_5
 obtain ⟨m15, d16, e14, h_7⟩ := asRoot_spec h_6
 obtain ⟨rfl, h_8⟩ := asM_spec h_7
 obtain ⟨y, hy, hz⟩ := mat_some h_8
 refine ⟨_, _, s_ArePathsTo_l14_mk z5 z13 d2 d4 d12, s_ArePathsTo_l14_out z5 z13 d2 d4 d12, s_ArePathsTo_l14 d2 d4 d12, (d9, d16), y, ?_, hy, ?_, s_ArePathsTo_l14_step z5 z13 d2 d4 d12⟩
 ·subst hs; exact restrict_eq (T := [(1, (.imm true (.int .i64) d2)), (2, (.imm z5 (.sl (.sl (.int .i64))) d4)), (3, (.ptr (5, 0) [])), (11, (.ref (13, 0) [])), (12, (.imm true (.int .i64) d9))]) (U := [((5, 0), some ⟨true, kNet, (.imm z13), d12⟩), ((13, 0), some ⟨false, (.sl .bool), .own, d16⟩)]) rfl rfl ⟨e1, e3, e6, e7, e8, trivial⟩ ⟨e10, e14, trivial⟩
 ·rcases y with x | x <;> exact Option.some.inj hz
noncomputable def s_ArePathsTo_I : FnI := ⟨s_ArePathsTo_b, Try.f9.results.toList, Try.f9.resultTypes.toList, s_ArePathsTo_A⟩
noncomputable def s_ArePathsTo_out (_zp0 : Bool) (_zp1 : Bool) (_p0 : TNet) (_p1 : Int) (_p2 : (List (List Int))) : (Bool × Int) → CallOut := fun r => ⟨(.tcons (.imm true .bool r.1) (.tcons (.imm true (.int .i64) r.2) .tnil)), [], []⟩
set_option maxRecDepth 100000 in
theorem s_ArePathsTo_eq : ∀ (zp0 : Bool) (zp1 : Bool) (p0 : TNet) (p1 : Int) (p2 : (List (List Int))), denFn s_ArePathsTo_V s_ArePathsTo_I ⟨[(.imm zp0 kNet p0), (.imm true (.int .i64) p1), (.imm zp1 (.sl (.sl (.int .i64))) p2)], []⟩ = (s_ArePathsTo p0 p1 p2).run fun r => some (s_ArePathsTo_out zp0 zp1 p0 p1 p2 r) := fun _ _ _ _ _ => by kernel_rfl
noncomputable def s_ArePathsTo_G (av : List AV) (rs : List Root) : Tre CallOut :=
 asCons av fun a0_ av0 =>
 asCons av0 fun a1_ av1 =>
 asCons av1 fun a2_ av2 =>
 asEnd av2 <|
 asEnd rs <|
 asImm kNet a0_ fun z2 d1 =>
 asImmZ true (.int .i64) a1_ fun d3 =>
 asImm (.sl (.sl (.int .i64))) a2_ fun z5 d4 =>
 .mat (s_ArePathsTo_F d1 d3 d4) fun r => .ret (s_ArePathsTo_out z2 z5 d1 d3 d4 r)
noncomputable def s_ArePathsTo_c : Ctr := ⟨[], fun ci => s_ArePathsTo_G ci.args ci.roots, false⟩
theorem s_ArePathsTo_env : EnvOK Try.prog .none s_ArePathsTo_V := (envOK_cons s_l07Node_4c46_ok ent47 (envOK_cons s_l00In_ok ent48 (envOK_cons s_l07None_d9f5_ok ent49 envOK_nil)))
set_option maxRecDepth 100000 in
theorem s_ArePathsTo_ok : Contract Try.prog .none 9 s_ArePathsTo_c := by
 have hl : LoopsOK s_ArePathsTo_V s_ArePathsTo_A s_ArePathsTo_b := (loopsOK_all (n := 4) (by kernel_rfl) fun k hk => by
   match k, hk with
   | 0, _ => exact loopOK_at (id := 5) (L := s_ArePathsTo_l5_L) (by kernel_rfl) (by kernel_rfl) s_ArePathsTo_l5_ok
   | 1, _ => exact loopOK_at (id := 8) (L := s_ArePathsTo_l8_L) (by kernel_rfl) (by kernel_rfl) s_ArePathsTo_l8_ok
   | 2, _ => exact loopOK_at (id := 14) (L := s_ArePathsTo_l14_L) (by kernel_rfl) (by kernel_rfl) s_ArePathsTo_l14_ok
   | 3, _ => exact loopOK_at (id := 18) (L := s_ArePathsTo_l18_L) (by kernel_rfl) (by kernel_rfl) s_ArePathsTo_l18_ok)
 refine (contract_of (F := s_ArePathsTo_I) tau_tys s_ArePathsTo_env Try.func9 (by kernel_rfl) (by kernel_rfl) (by kernel_rfl) hl []).weaken ?_
 rintro ⟨av, rs⟩ co h
 have h : (s_ArePathsTo_G av rs).run some = some co := h
 obtain ⟨a0_, av0, rfl, h_0⟩ := asCons_spec h
 obtain ⟨a1_, av1, rfl, h_1⟩ := asCons_spec h_0
 obtain ⟨a2_, av2, rfl, h_2⟩ := asCons_spec h_1
 obtain ⟨rfl, h_3⟩ := asEnd_spec h_2
 obtain ⟨rfl, h_4⟩ := asEnd_spec h_3
 obtain ⟨z2, d1, rfl, h_5⟩ := asImm_spec h_4
 obtain ⟨d3, rfl, h_6⟩ := asImmZ_spec h_5
 obtain ⟨z5, d4, rfl, h_7⟩ := asImm_spec h_6
 exact fin_mat (s_ArePathsTo_eq z2 z5 d1 d3 d4) h_7
end Go.Proofs.Ytldafhnnnabipaa

namespace Go.Proofs.Ytldafhnnnabipaa
open Go Go.Abs Go.Proofs
noncomputable def slices_Grow_int64_8ac3 (p0 : Int) : Tre (List Int) :=
 .cond (decide (p0 < 0))
  (.fail)
  (.cond (decide (iwrap .i64 (p0 - 0) > 0))
   (.ite ((((.int .i64) : K) = (.int .i64) ∧ 0 ≤ (iwrap .i64 (p0 - 0)) ∧ (iwrap .i64 (p0 - 0)).toNat * 8 ≤ appendMax ∧ 1 ≤ 8)) <|
   let v1 := List.replicate (iwrap .i64 (p0 - 0)).toNat 0
   .ite (0 ≤ (0 : Int) ∧ (0 : Int) ≤ (0 : Int) ∧ (0 : Int) ≤ (v1.length : Int)) <|
   .ret ((v1.drop 0).take 0))
   (.ret []))
noncomputable def slices_Grow_int64_8ac3_F (p0 : Int) : Option (List Int) := (slices_Grow_int64_8ac3 p0).run some
noncomputable def slices_Grow_int64_8ac3_V : Env := ⟨tau, [], []⟩
noncomputable def slices_Grow_int64_8ac3_b : Code := (Try.f122.body).getD .skip
noncomputable def slices_Grow_int64_8ac3_I : FnI := ⟨slices_Grow_int64_8ac3_b, Try.f122.results.toList, Try.f122.resultTypes.toList, []⟩
noncomputable def slices_Grow_int64_8ac3_out (_p0 : Int) : (List Int) → CallOut := fun r => ⟨(.ref (1, 0) []), [], [⟨false, (.sl (.int .i64)), .own, r⟩]⟩
set_option maxRecDepth 100000 in
theorem slices_Grow_int64_8ac3_eq : ∀ (p0 : Int), denFn slices_Grow_int64_8ac3_V slices_Grow_int64_8ac3_I ⟨[.nil, (.imm true (.int .i64) p0)], []⟩ = (slices_Grow_int64_8ac3 p0).run fun r => some (slices_Grow_int64_8ac3_out p0 r) := fun _ => by kernel_rfl
noncomputable def slices_Grow_int64_8ac3_G (av : List AV) (rs : List Root) : Tre CallOut :=
 asCons av fun a0_ av0 =>
 asCons av0 fun a1_ av1 =>
 asEnd av1 <|
 asEnd rs <|
 asNil a0_ <|
 asImmZ true (.int .i64) a1_ fun d1 =>
 .mat (slices_Grow_int64_8ac3_F d1) fun r => .ret (slices_Grow_int64_8ac3_out d1 r)
noncomputable def slices_Grow_int64_8ac3_c : Ctr := ⟨[0], fun ci => slices_Grow_int64_8ac3_G ci.args ci.roots, false⟩
theorem slices_Grow_int64_8ac3_env : EnvOK Try.prog .none slices_Grow_int64_8ac3_V := envOK_nil
set_option maxRecDepth 100000 in
theorem slices_Grow_int64_8ac3_ok : Contract Try.prog .none 122 slices_Grow_int64_8ac3_c := by
 have hl : LoopsOK slices_Grow_int64_8ac3_V [] slices_Grow_int64_8ac3_b := loopsOK_nil (by kernel_rfl)
 refine (contract_of (F := slices_Grow_int64_8ac3_I) tau_tys slices_Grow_int64_8ac3_env Try.func122 (by kernel_rfl) (by kernel_rfl) (by kernel_rfl) hl [0]).weaken ?_
 rintro ⟨av, rs⟩ co h
 have h : (slices_Grow_int64_8ac3_G av rs).run some = some co := h
 obtain ⟨a0_, av0, rfl, h_0⟩ := asCons_spec h
 obtain ⟨a1_, av1, rfl, h_1⟩ := asCons_spec h_0
 obtain ⟨rfl, h_2⟩ := asEnd_spec h_1
 obtain ⟨rfl, h_3⟩ := asEnd_spec h_2
 obtain ⟨rfl, h_4⟩ := asNil_spec h_3
 obtain ⟨d1, rfl, h_5⟩ := asImmZ_spec h_4
 exact fin_mat (slices_Grow_int64_8ac3_eq d1) h_5
end Go.Proofs.Ytldafhnnnabipaa

namespace Go.Proofs.Ytldafhnnnabipaa
open Go Go.Abs Go.Proofs
noncomputable def slices_Concat_int64_l3 (h3_0_2 : (List (List Int))) (h3_0_3 : Int) : (Int × Int) → Tre ((Int × Int) ⊕ Int) := fun s3 =>
 .cond (decide (s3.2 < h3_0_3))
  (.ite (0 ≤ s3.2 ∧ s3.2 < (h3_0_2.length : Int)) <|
  .mat (h3_0_2[s3.2.toNat]?) fun x1 =>
  let v2 := iwrap .i64 (s3.1 + (x1.length : Int))
  .cond (decide (v2 < 0))
   (.fail)
   (.ret (.inl (v2, iwrap .i64 (s3.2 + 1)))))
  (.ret (.inr s3.1))
noncomputable def slices_Concat_int64_l11 (h11_0_0 : (List (List Int))) (h11_0_1 : Int) : (Int × (List Int)) → Tre ((Int × (List Int)) ⊕ (List Int)) := fun s11 =>
 .cond (decide (s11.1 < h11_0_1))
  (.ite (0 ≤ s11.1 ∧ s11.1 < (h11_0_0.length : Int)) <|
  .mat (h11_0_0[s11.1.toNat]?) fun x5 =>
  .ite ((s11.2.length + x5.length) * 8 ≤ appendMax ∧ 1 ≤ 8) <|
  .ret (.inl (iwrap .i64 (s11.1 + 1), s11.2 ++ x5)))
  (.ret (.inr s11.2))
noncomputable def slices_Concat_int64 (p0 : (List (List Int))) : Tre (List Int) :=
 .mat (loopF (slices_Concat_int64_l3 p0 (p0.length : Int)) (0, 0)) fun l3 =>
 .mat (slices_Grow_int64_8ac3_F l3) fun r4 =>
 .mat (loopF (slices_Concat_int64_l11 p0 (p0.length : Int)) (0, r4)) fun l6 =>
 .ret l6
noncomputable def slices_Concat_int64_F (p0 : (List (List Int))) : Option (List Int) := (slices_Concat_int64 p0).run some
-- more
theorem slices_Grow_is (n : Nat) (h : n ≤ 1048576) : slices_Grow_int64_8ac3_F (n : Int) = some [] := by
 unfold slices_Grow_int64_8ac3_F slices_Grow_int64_8ac3
 rw [Tre.run_cond, decide_eq_false (by omega), cond_false, Tre.run_cond, Int.sub_zero, iwrap_i64 (by omega) (by omega)]
 by_cases h0 : n = 0
 ·subst h0; rfl
 ·rw [decide_eq_true (by omega), cond_true, Tre.run_ite, if_pos ⟨rfl, by omega, by unfold appendMax; omega, by decide⟩]
  dsimp only
  rw [Tre.run_ite, if_pos ⟨by decide, by decide, by omega⟩]
  simp [Tre.run_ret]
theorem concat_l3 (p : List (List Int)) (h : sizeSS p ≤ 1048576) : loopF (slices_Concat_int64_l3 p (p.length : Int)) (0, 0) = some (p.flatten.length : Int) := by
 have key : ∀ (l : List (List Int)) (i : Nat) (acc : Nat), p.drop i = l → i ≤ p.length → acc + sizeSS l ≤ 1048576 → loopF (slices_Concat_int64_l3 p (p.length : Int)) ((acc : Int), (i : Int)) = some ((acc + l.flatten.length : Nat) : Int) := by
  intro l
  induction l with
  | nil =>
   intro i acc hd hi _
   have : i = p.length := by have := List.drop_eq_nil_iff.1 hd; omega
   subst this
   refine loopF_done ?_
   unfold slices_Concat_int64_l3
   exact run_out.trans (by simp [Tre.run_ret])
  | cons x l ih =>
   intro i acc hd hi hs
   have hx : p[i]? = some x := by have := congrArg (·[0]?) hd; simpa using this
   have hi' : i < p.length := (List.getElem?_eq_some_iff.1 hx).1
   unfold sizeSS at hs
   simp only [List.length_cons, List.map_cons, List.sum_cons] at hs
   have hpl : p.length ≤ 1048576 := by unfold sizeSS at h; omega
   have h1 : (slices_Concat_int64_l3 p (p.length : Int) ((acc : Int), (i : Int))).run some = some (.inl (((acc + x.length : Nat) : Int), ((i + 1 : Nat) : Int))) := by
    unfold slices_Concat_int64_l3
    rw [run_inb hx]
    dsimp only
    rw [iwrap_i64 (by omega) (by omega), Tre.run_cond, decide_eq_false (by omega), cond_false, Tre.run_ret, iwrap_succ (by omega)]
    push_cast
    rfl
   rw [loopF_step h1, ih (i + 1) (acc + x.length) (by rw [← List.drop_drop, hd]; rfl) (by omega) (by unfold sizeSS; omega)]
   simp only [List.flatten_cons, List.length_append]
   congr 2; omega
 have := key p 0 0 rfl (Nat.zero_le _) (by omega)
 rw [Nat.zero_add] at this
 exact this
theorem slices_Concat_is (p : List (List Int)) (h : sizeSS p ≤ 1048576) : slices_Concat_int64_F p = some p.flatten := by
 have hpl : p.length ≤ 1048576 := by unfold sizeSS at h; omega
 unfold slices_Concat_int64_F slices_Concat_int64
 rw [run_some_mat (concat_l3 p h), run_some_mat (slices_Grow_is _ (by have := sizeSS_flatten p; omega))]
 have := fold_loop (xs := p) (step := slices_Concat_int64_l11 p (p.length : Int)) (fun i acc => ((i : Int), acc)) (fun _ acc x => .inl (acc ++ x)) id (fun i acc => acc = (p.take i).flatten) (by
  intro i acc x hx hI
  have hi : i < p.length := (List.getElem?_eq_some_iff.1 hx).1
  have hsub : (p.take i).flatten.length + x.length ≤ p.flatten.length := by
   have h1 : p.take (i + 1) = p.take i ++ [x] := by rw [List.take_add_one, hx]; rfl
   have h2 : (p.take (i + 1)).flatten.length ≤ p.flatten.length := by
    conv => rhs; rw [← List.take_append_drop (i + 1) p]
    rw [List.flatten_append, List.length_append]; omega
   rw [h1, List.flatten_append, List.length_append] at h2
   simpa using h2
  refine ⟨?_, ?_⟩
  ·unfold slices_Concat_int64_l11
   have := sizeSS_flatten p
   rw [run_inb hx, Tre.run_ite, if_pos ⟨by subst hI; unfold appendMax; dsimp only; omega, by decide⟩, Tre.run_ret, iwrap_succ (by omega)]
  ·intro a ha
   cases ha
   rw [hI, List.take_add_one, hx]; simp)
  (by
  intro acc hI
  unfold slices_Concat_int64_l11
  exact run_out)
  p 0 [] rfl (Nat.zero_le _) rfl
 have key : ∀ (l : List (List Int)) (i : Nat) (acc : List Int), foldE (β := List Int) (fun _ acc x => .inl (acc ++ x)) id i acc l = acc ++ l.flatten := by
  intro l
  induction l with
  | nil => intro i acc; simp [foldE]
  | cons x l ih => intro i acc; simp only [foldE]; rw [ih]; simp
 rw [key] at this
 rw [run_some_mat (show loopF (slices_Concat_int64_l11 p (p.length : Int)) (0, []) = _ from this)]
 rfl
noncomputable def slices_Concat_int64_V : Env := ⟨tau, [(122, slices_Grow_int64_8ac3_c)], []⟩
noncomputable def slices_Concat_int64_b : Code := (Try.f52.body).getD .skip
noncomputable def slices_Concat_int64_l3_mk (z3_0 : Bool) (z3_1 : Bool) (h3_0_0 : (List (List Int))) (h3_0_2 : (List (List Int))) (h3_0_3 : Int) : (Int × Int) → St := fun x => stOf [(0, (.imm z3_0 (.sl (.sl (.int .i64))) h3_0_0)), (3, (.imm true (.int .i64) x.1)), (9, (.imm z3_1 (.sl (.sl (.int .i64))) h3_0_2)), (10, (.imm true (.int .i64) h3_0_3)), (11, (.imm true (.int .i64) x.2))] []
noncomputable def slices_Concat_int64_l3_out (z3_0 : Bool) (_z3_1 : Bool) (h3_0_0 : (List (List Int))) (_h3_0_2 : (List (List Int))) (_h3_0_3 : Int) : Int → Ex × St := fun x => (.exit 0, stOf [(0, (.imm z3_0 (.sl (.sl (.int .i64))) h3_0_0)), (3, (.imm true (.int .i64) x))] [])
noncomputable def slices_Concat_int64_l3_D (s : St) : Tre (Ex × St) :=
 asImm (.sl (.sl (.int .i64))) (s.tmps 0) fun z3 d2 =>
 asImmZ true (.int .i64) (s.tmps 3) fun d5 =>
 asImm (.sl (.sl (.int .i64))) (s.tmps 9) fun z8 d7 =>
 asImmZ true (.int .i64) (s.tmps 10) fun d10 =>
 asImmZ true (.int .i64) (s.tmps 11) fun d12 =>
 .mat (loopF (slices_Concat_int64_l3 d7 d10) (d5, d12)) fun x => .ret (slices_Concat_int64_l3_out z3 z8 d2 d7 d10 x)
noncomputable def slices_Concat_int64_l3_L : LoopI := ⟨([0, 3, 9, 10, 11], []), ([0, 3], []), slices_Concat_int64_l3_D⟩
noncomputable def slices_Concat_int64_l11_mk (z11_0 : Bool) (h11_0_0 : (List (List Int))) (h11_0_1 : Int) : (Int × (List Int)) → St := fun x => stOf [(6, (.ref (8, 0) [])), (25, (.imm z11_0 (.sl (.sl (.int .i64))) h11_0_0)), (26, (.imm true (.int .i64) h11_0_1)), (27, (.imm true (.int .i64) x.1))] [((8, 0), some ⟨false, (.sl (.int .i64)), .own, x.2⟩)]
noncomputable def slices_Concat_int64_l11_out (_z11_0 : Bool) (_h11_0_0 : (List (List Int))) (_h11_0_1 : Int) : (List Int) → Ex × St := fun x => (.exit 2, stOf [(6, (.ref (8, 0) []))] [((8, 0), some ⟨false, (.sl (.int .i64)), .own, x⟩)])
noncomputable def slices_Concat_int64_l11_D (s : St) : Tre (Ex × St) :=
 asRef (8, 0) [] (s.tmps 6) <|
 asImm (.sl (.sl (.int .i64))) (s.tmps 25) fun z4 d3 =>
 asImmZ true (.int .i64) (s.tmps 26) fun d6 =>
 asImmZ true (.int .i64) (s.tmps 27) fun d8 =>
 asRoot false (.sl (.int .i64)) (s.roots (8, 0)) fun m10 d11 =>
 asM .own m10 <|
 .mat (loopF (slices_Concat_int64_l11 d3 d6) (d8, d11)) fun x => .ret (slices_Concat_int64_l11_out z4 d3 d6 x)
noncomputable def slices_Concat_int64_l11_L : LoopI := ⟨([6, 25, 26, 27], [(8, 0)]), ([6], [(8, 0)]), slices_Concat_int64_l11_D⟩
noncomputable def slices_Concat_int64_A : List (Nat × LoopI) := [(3, slices_Concat_int64_l3_L), (11, slices_Concat_int64_l11_L)]
set_option maxRecDepth 100000 in
theorem slices_Concat_int64_l3_step : ∀ (z3_0 : Bool) (z3_1 : Bool) (h3_0_0 : (List (List Int))) (h3_0_2 : (List (List Int))) (h3_0_3 : Int) (x : (Int × Int)) (c : St → Option (Ex × St)), den slices_Concat_int64_V slices_Concat_int64_A (loopAt slices_Concat_int64_b 0) (slices_Concat_int64_l3_mk z3_0 z3_1 h3_0_0 h3_0_2 h3_0_3 x) (roundK slices_Concat_int64_l3_L.kp slices_Concat_int64_l3_L.kx c) = (slices_Concat_int64_l3 h3_0_2 h3_0_3 x).run (roundR (slices_Concat_int64_l3_mk z3_0 z3_1 h3_0_0 h3_0_2 h3_0_3) (slices_Concat_int64_l3_out z3_0 z3_1 h3_0_0 h3_0_2 h3_0_3) c) := fun _ _ _ _ _ _ _ => by
 kernel_rfl
theorem slices_Concat_int64_l3_ok : LoopOK slices_Concat_int64_V slices_Concat_int64_A (loopAt slices_Concat_int64_b 0) slices_Concat_int64_l3_L := loopOK_of fun s e s' h => by
 generalize hs : restrict slices_Concat_int64_l3_L.kp s = s1 at h
 have h : (slices_Concat_int64_l3_D s1).run some = some (e, s') := h
 obtain ⟨z3, d2, e1, h_0⟩ := asImm_spec h
 obtain ⟨d5, e4, h_1⟩ := asImmZ_spec h_0
 obtain ⟨z8, d7, e6, h_2⟩ := asImm_spec h_1
 obtain ⟨d10, e9, h_3⟩ := asImmZ_spec h_2
 obtain ⟨d12, e11, h_4⟩ := asImmZ_spec h_3
 obtain ⟨y, hy, hz⟩ := mat_ret h_4
 refine ⟨_, _, slices_Concat_int64_l3_mk z3 z8 d2 d7 d10, slices_Concat_int64_l3_out z3 z8 d2 d7 d10, slices_Concat_int64_l3 d7 d10, (d5, d12), y, ?_, hy, ?_, slices_Concat_int64_l3_step z3 z8 d2 d7 d10⟩
 ·subst hs; exact restrict_eq (T := [(0, (.imm z3 (.sl (.sl (.int .i64))) d2)), (3, (.imm true (.int .i64) d5)), (9, (.imm z8 (.sl (.sl (.int .i64))) d7)), (10, (.imm true (.int .i64) d10)), (11, (.imm true (.int .i64) d12))]) (U := []) rfl rfl ⟨e1, e4, e6, e9, e11, trivial⟩ trivial
 ·exact Option.some.inj hz
set_option maxRecDepth 100000 in
theorem slices_Concat_int64_l11_step : ∀ (z11_0 : Bool) (h11_0_0 : (List (List Int))) (h11_0_1 : Int) (x : (Int × (List Int))) (c : St → Option (Ex × St)), den slices_Concat_int64_V slices_Concat_int64_A (loopAt slices_Concat_int64_b 1) (slices_Concat_int64_l11_mk z11_0 h11_0_0 h11_0_1 x) (roundK slices_Concat_int64_l11_L.kp slices_Concat_int64_l11_L.kx c) = (slices_Concat_int64_l11 h11_0_0 h11_0_1 x).run (roundR (slices_Concat_int64_l11_mk z11_0 h11_0_0 h11_0_1) (slices_Concat_int64_l11_out z11_0 h11_0_0 h11_0_1) c) := fun _ _ _ _ _ => by
 kernel_rfl
theorem slices_Concat_int64_l11_ok : LoopOK slices_Concat_int64_V slices_Concat_int64_A (loopAt slices_Concat_int64_b 1) slices_Concat_int64_l11_L := loopOK_of fun s e s' h => by
 generalize hs : restrict slices_Concat_int64_l11_L.kp s = s1 at h
 have h : (slices_Concat_int64_l11_D s1).run some = some (e, s') := h
 obtain ⟨e1, h_0⟩ := asRef_spec h
 obtain ⟨z4, d3, e2, h_1⟩ := asImm_spec h_0
 obtain ⟨d6, e5, h_2⟩ := asImmZ_spec h_1
 obtain ⟨d8, e7, h_3⟩ := asImmZ_spec h_2
 obtain ⟨m10, d11, e9, h_4⟩ := asRoot_spec h_3
 obtain ⟨rfl, h_5⟩ := asM_spec h_4
 obtain ⟨y, hy, hz⟩ := mat_ret h_5
 refine ⟨_, _, slices_Concat_int64_l11_mk z4 d3 d6, slices_Concat_int64_l11_out z4 d3 d6, slices_Concat_int64_l11 d3 d6, (d8, d11), y, ?_, hy, ?_, slices_Concat_int64_l11_step z4 d3 d6⟩
 ·subst hs; exact restrict_eq (T := [(6, (.ref (8, 0) [])), (25, (.imm z4 (.sl (.sl (.int .i64))) d3)), (26, (.imm true (.int .i64) d6)), (27, (.imm true (.int .i64) d8))]) (U := [((8, 0), some ⟨false, (.sl (.int .i64)), .own, d11⟩)]) rfl rfl ⟨e1, e2, e5, e7, trivial⟩ ⟨e9, trivial⟩
 ·exact Option.some.inj hz
noncomputable def slices_Concat_int64_I : FnI := ⟨slices_Concat_int64_b, Try.f52.results.toList, Try.f52.resultTypes.toList, slices_Concat_int64_A⟩
noncomputable def slices_Concat_int64_out (_zp0 : Bool) (_p0 : (List (List Int))) : (List Int) → CallOut := fun r => ⟨(.ref (1, 0) []), [], [⟨false, (.sl (.int .i64)), .own, r⟩]⟩
set_option maxRecDepth 100000 in
theorem slices_Concat_int64_eq : ∀ (zp0 : Bool) (p0 : (List (List Int))), denFn slices_Concat_int64_V slices_Concat_int64_I ⟨[(.imm zp0 (.sl (.sl (.int .i64))) p0)], []⟩ = (slices_Concat_int64 p0).run fun r => some (slices_Concat_int64_out zp0 p0 r) := fun _ _ => by kernel_rfl
noncomputable def slices_Concat_int64_G (av : List AV) (rs : List Root) : Tre CallOut :=
 asCons av fun a0_ av0 =>
 asEnd av0 <|
 asEnd rs <|
 asImm (.sl (.sl (.int .i64))) a0_ fun z2 d1 =>
 .mat (slices_Concat_int64_F d1) fun r => .ret (slices_Concat_int64_out z2 d1 r)
noncomputable def slices_Concat_int64_c : Ctr := ⟨[], fun ci => slices_Concat_int64_G ci.args ci.roots, false⟩
theorem slices_Concat_int64_env : EnvOK Try.prog .none slices_Concat_int64_V := (envOK_cons slices_Grow_int64_8ac3_ok ent122 envOK_nil)
set_option maxRecDepth 100000 in
theorem slices_Concat_int64_ok : Contract Try.prog .none 52 slices_Concat_int64_c := by
 have hl : LoopsOK slices_Concat_int64_V slices_Concat_int64_A slices_Concat_int64_b := (loopsOK_all (n := 2) (by kernel_rfl) fun k hk => by
   match k, hk with
   | 0, _ => exact loopOK_at (id := 3) (L := slices_Concat_int64_l3_L) (by kernel_rfl) (by kernel_rfl) slices_Concat_int64_l3_ok
   | 1, _ => exact loopOK_at (id := 11) (L := slices_Concat_int64_l11_L) (by kernel_rfl) (by kernel_rfl) slices_Concat_int64_l11_ok)
 refine (contract_of (F := slices_Concat_int64_I) tau_tys slices_Concat_int64_env Try.func52 (by kernel_rfl) (by kernel_rfl) (by kernel_rfl) hl []).weaken ?_
 rintro ⟨av, rs⟩ co h
 have h : (slices_Concat_int64_G av rs).run some = some co := h
 obtain ⟨a0_, av0, rfl, h_0⟩ := asCons_spec h
 obtain ⟨rfl, h_1⟩ := asEnd_spec h_0
 obtain ⟨rfl, h_2⟩ := asEnd_spec h_1
 obtain ⟨z2, d1, rfl, h_3⟩ := asImm_spec h_2
 exact fin_mat (slices_Concat_int64_eq z2 d1) h_3
end Go.Proofs.Ytldafhnnnabipaa

namespace Go.Proofs.Ytldafhnnnabipaa
open Go Go.Abs Go.Proofs
noncomputable def i_within (p0 : Int) (p1 : Int) (p2 : Int) : Tre Bool :=
 .cond (decide (p0 ≥ p1))
  (.ret (decide (p0 ≤ p2)))
  (.ret false)
noncomputable def i_within_F (p0 : Int) (p1 : Int) (p2 : Int) : Option Bool := (i_within p0 p1 p2).run some
theorem i_within_spec (n a b : Int) : i_within_F n a b = some (inR n a b) := by
 unfold i_within_F i_within inR
 by_cases h : a ≤ n
 ·simp [Tre.run_cond, Tre.run_ret, h]
 ·simp [Tre.run_cond, Tre.run_ret, h]
noncomputable def i_within_V : Env := ⟨tau, [], []⟩
noncomputable def i_within_b : Code := (Try.f57.body).getD .skip
noncomputable def i_within_I : FnI := ⟨i_within_b, Try.f57.results.toList, Try.f57.resultTypes.toList, []⟩
noncomputable def i_within_out (_p0 : Int) (_p1 : Int) (_p2 : Int) : Bool → CallOut := fun r => ⟨(.imm true .bool r), [], []⟩
set_option maxRecDepth 100000 in
theorem i_within_eq : ∀ (p0 : Int) (p1 : Int) (p2 : Int), denFn i_within_V i_within_I ⟨[(.imm true (.int .i64) p0), (.imm true (.int .i64) p1), (.imm true (.int .i64) p2)], []⟩ = (i_within p0 p1 p2).run fun r => some (i_within_out p0 p1 p2 r) := fun _ _ _ => by kernel_rfl
noncomputable def i_within_G (av : List AV) (rs : List Root) : Tre CallOut :=
 asCons av fun a0_ av0 =>
 asCons av0 fun a1_ av1 =>
 asCons av1 fun a2_ av2 =>
 asEnd av2 <|
 asEnd rs <|
 asImmZ true (.int .i64) a0_ fun d1 =>
 asImmZ true (.int .i64) a1_ fun d2 =>
 asImmZ true (.int .i64) a2_ fun d3 =>
 .ret (i_within_out d1 d2 d3 (inR d1 d2 d3))
noncomputable def i_within_c : Ctr := ⟨[], fun ci => i_within_G ci.args ci.roots, false⟩
theorem i_within_env : EnvOK Try.prog .none i_within_V := envOK_nil
set_option maxRecDepth 100000 in
theorem i_within_ok : Contract Try.prog .none 57 i_within_c := by
 have hl : LoopsOK i_within_V [] i_within_b := loopsOK_nil (by kernel_rfl)
 refine (contract_of (F := i_within_I) tau_tys i_within_env Try.func57 (by kernel_rfl) (by kernel_rfl) (by kernel_rfl) hl []).weaken ?_
 rintro ⟨av, rs⟩ co h
 have h : (i_within_G av rs).run some = some co := h
 obtain ⟨a0_, av0, rfl, h_0⟩ := asCons_spec h
 obtain ⟨a1_, av1, rfl, h_1⟩ := asCons_spec h_0
 obtain ⟨a2_, av2, rfl, h_2⟩ := asCons_spec h_1
 obtain ⟨rfl, h_3⟩ := asEnd_spec h_2
 obtain ⟨rfl, h_4⟩ := asEnd_spec h_3
 obtain ⟨d1, rfl, h_5⟩ := asImmZ_spec h_4
 obtain ⟨d2, rfl, h_6⟩ := asImmZ_spec h_5
 obtain ⟨d3, rfl, h_7⟩ := asImmZ_spec h_6
 exact fin_ret (i_within_eq d1 d2 d3) (i_within_spec d1 d2 d3) h_7
end Go.Proofs.Ytldafhnnnabipaa

namespace Go.Proofs.Ytldafhnnnabipaa
open Go Go.Abs Go.Proofs
noncomputable def i_degreeOf_l2 : (Int × Int) → Tre ((Int × Int) ⊕ Int) := fun s2 =>
 .cond (decide (s2.1 > 0))
  (.ret (.inl (ishr .i64 s2.1 1, iwrap .i64 (s2.2 + 1))))
  (.ret (.inr s2.2))
noncomputable def i_degreeOf (p0 : Int) : Tre Int :=
 .mat (loopF i_degreeOf_l2 (p0, -1)) fun l1 =>
 .ret l1
noncomputable def i_degreeOf_F (p0 : Int) : Option Int := (i_degreeOf p0).run some
noncomputable def i_degreeOf_V : Env := ⟨tau, [], []⟩
noncomputable def i_degreeOf_b : Code := (Try.f206.body).getD .skip
noncomputable def i_degreeOf_l2_mk : (Int × Int) → St := fun x => stOf [(0, (.imm true (.int .i64) x.1)), (3, (.imm true (.int .i64) x.2))] []
noncomputable def i_degreeOf_l2_out : Int → Ex × St := fun x => (.exit 0, stOf [(3, (.imm true (.int .i64) x))] [])
noncomputable def i_degreeOf_l2_D (s : St) : Tre (Ex × St) :=
 asImmZ true (.int .i64) (s.tmps 0) fun d2 =>
 asImmZ true (.int .i64) (s.tmps 3) fun d4 =>
 .mat (loopF i_degreeOf_l2 (d2, d4)) fun x => .ret (i_degreeOf_l2_out x)
noncomputable def i_degreeOf_l2_L : LoopI := ⟨([0, 3], []), ([3], []), i_degreeOf_l2_D⟩
noncomputable def i_degreeOf_A : List (Nat × LoopI) := [(2, i_degreeOf_l2_L)]
set_option maxRecDepth 100000 in
theorem i_degreeOf_l2_step : ∀ (x : (Int × Int)) (c : St → Option (Ex × St)), den i_degreeOf_V i_degreeOf_A (loopAt i_degreeOf_b 0) (i_degreeOf_l2_mk x) (roundK i_degreeOf_l2_L.kp i_degreeOf_l2_L.kx c) = (i_degreeOf_l2 x).run (roundR (i_degreeOf_l2_mk) (i_degreeOf_l2_out) c) := fun _ _ => by
 kernel_rfl
theorem i_degreeOf_l2_ok : LoopOK i_degreeOf_V i_degreeOf_A (loopAt i_degreeOf_b 0) i_degreeOf_l2_L := loopOK_of fun s e s' h => by
 generalize hs : restrict i_degreeOf_l2_L.kp s = s1 at h
 have h : (i_degreeOf_l2_D s1).run some = some (e, s') := h
 obtain ⟨d2, e1, h_0⟩ := asImmZ_spec h
 obtain ⟨d4, e3, h_1⟩ := asImmZ_spec h_0
 obtain ⟨y, hy, hz⟩ := mat_ret h_1
 refine ⟨_, _, i_degreeOf_l2_mk, i_degreeOf_l2_out, i_degreeOf_l2, (d2, d4), y, ?_, hy, ?_, i_degreeOf_l2_step⟩
 ·subst hs; exact restrict_eq (T := [(0, (.imm true (.int .i64) d2)), (3, (.imm true (.int .i64) d4))]) (U := []) rfl rfl ⟨e1, e3, trivial⟩ trivial
 ·exact Option.some.inj hz
noncomputable def i_degreeOf_I : FnI := ⟨i_degreeOf_b, Try.f206.results.toList, Try.f206.resultTypes.toList, i_degreeOf_A⟩
noncomputable def i_degreeOf_out (_p0 : Int) : Int → CallOut := fun r => ⟨(.imm true (.int .i64) r), [], []⟩
set_option maxRecDepth 100000 in
theorem i_degreeOf_eq : ∀ (p0 : Int), denFn i_degreeOf_V i_degreeOf_I ⟨[(.imm true (.int .i64) p0)], []⟩ = (i_degreeOf p0).run fun r => some (i_degreeOf_out p0 r) := fun _ => by kernel_rfl
noncomputable def i_degreeOf_G (av : List AV) (rs : List Root) : Tre CallOut :=
 asCons av fun a0_ av0 =>
 asEnd av0 <|
 asEnd rs <|
 asImmZ true (.int .i64) a0_ fun d1 =>
 .mat (i_degreeOf_F d1) fun r => .ret (i_degreeOf_out d1 r)
noncomputable def i_degreeOf_c : Ctr := ⟨[], fun ci => i_degreeOf_G ci.args ci.roots, false⟩
theorem i_degreeOf_env : EnvOK Try.prog .none i_degreeOf_V := envOK_nil
set_option maxRecDepth 100000 in
theorem i_degreeOf_ok : Contract Try.prog .none 206 i_degreeOf_c := by
 have hl : LoopsOK i_degreeOf_V i_degreeOf_A i_degreeOf_b := (loopsOK_all (n := 1) (by kernel_rfl) fun k hk => by
   match k, hk with
   | 0, _ => exact loopOK_at (id := 2) (L := i_degreeOf_l2_L) (by kernel_rfl) (by kernel_rfl) i_degreeOf_l2_ok)
 refine (contract_of (F := i_degreeOf_I) tau_tys i_degreeOf_env Try.func206 (by kernel_rfl) (by kernel_rfl) (by kernel_rfl) hl []).weaken ?_
 rintro ⟨av, rs⟩ co h
 have h : (i_degreeOf_G av rs).run some = some co := h
 obtain ⟨a0_, av0, rfl, h_0⟩ := asCons_spec h
 obtain ⟨rfl, h_1⟩ := asEnd_spec h_0
 obtain ⟨rfl, h_2⟩ := asEnd_spec h_1
 obtain ⟨d1, rfl, h_3⟩ := asImmZ_spec h_2
 exact fin_mat (i_degreeOf_eq d1) h_3
end Go.Proofs.Ytldafhnnnabipaa

namespace Go.Proofs.Ytldafhnnnabipaa
open Go Go.Abs Go.Proofs
noncomputable def i_restOf_l2 (h2_0_1 : Int) (h2_0_2 : Int) : Int → Tre (Int ⊕ Int) := fun s2 =>
 .mat (i_degreeOf_F s2) fun r2 =>
 .cond (decide (r2 ≥ h2_0_2))
  (.mat (i_degreeOf_F s2) fun r3 =>
  .ite (0 ≤ iwrap .i64 (r3 - h2_0_2)) <|
  let v4 := ishl .i64 h2_0_1 (iwrap .i64 (r3 - h2_0_2))
  .ret (.inl (ixor .i64 s2 v4)))
  (.ret (.inr s2))
noncomputable def i_restOf (p0 : Int) (p1 : Int) : Tre Int :=
 .mat (i_degreeOf_F p1) fun r1 =>
 .mat (loopF (i_restOf_l2 p1 r1) p0) fun l5 =>
 .ret l5
noncomputable def i_restOf_F (p0 : Int) (p1 : Int) : Option Int := (i_restOf p0 p1).run some
noncomputable def i_restOf_V : Env := ⟨tau, [(206, i_degreeOf_c)], []⟩
noncomputable def i_restOf_b : Code := (Try.f200.body).getD .skip
noncomputable def i_restOf_l2_mk (h2_0_1 : Int) (h2_0_2 : Int) : Int → St := fun x => stOf [(0, (.imm true (.int .i64) x)), (1, (.imm true (.int .i64) h2_0_1)), (5, (.imm true (.int .i64) h2_0_2))] []
noncomputable def i_restOf_l2_out (_h2_0_1 : Int) (_h2_0_2 : Int) : Int → Ex × St := fun x => (.exit 0, stOf [(0, (.imm true (.int .i64) x))] [])
noncomputable def i_restOf_l2_D (s : St) : Tre (Ex × St) :=
 asImmZ true (.int .i64) (s.tmps 0) fun d2 =>
 asImmZ true (.int .i64) (s.tmps 1) fun d4 =>
 asImmZ true (.int .i64) (s.tmps 5) fun d6 =>
 .mat (loopF (i_restOf_l2 d4 d6) d2) fun x => .ret (i_restOf_l2_out d4 d6 x)
noncomputable def i_restOf_l2_L : LoopI := ⟨([0, 1, 5], []), ([0], []), i_restOf_l2_D⟩
noncomputable def i_restOf_A : List (Nat × LoopI) := [(2, i_restOf_l2_L)]
set_option maxRecDepth 100000 in
theorem i_restOf_l2_step : ∀ (h2_0_1 : Int) (h2_0_2 : Int) (x : Int) (c : St → Option (Ex × St)), den i_restOf_V i_restOf_A (loopAt i_restOf_b 0) (i_restOf_l2_mk h2_0_1 h2_0_2 x) (roundK i_restOf_l2_L.kp i_restOf_l2_L.kx c) = (i_restOf_l2 h2_0_1 h2_0_2 x).run (roundR (i_restOf_l2_mk h2_0_1 h2_0_2) (i_restOf_l2_out h2_0_1 h2_0_2) c) := fun _ _ _ _ => by
 kernel_rfl
theorem i_restOf_l2_ok : LoopOK i_restOf_V i_restOf_A (loopAt i_restOf_b 0) i_restOf_l2_L := loopOK_of fun s e s' h => by
 generalize hs : restrict i_restOf_l2_L.kp s = s1 at h
 have h : (i_restOf_l2_D s1).run some = some (e, s') := h
 obtain ⟨d2, e1, h_0⟩ := asImmZ_spec h
 obtain ⟨d4, e3, h_1⟩ := asImmZ_spec h_0
 obtain ⟨d6, e5, h_2⟩ := asImmZ_spec h_1
 obtain ⟨y, hy, hz⟩ := mat_ret h_2
 refine ⟨_, _, i_restOf_l2_mk d4 d6, i_restOf_l2_out d4 d6, i_restOf_l2 d4 d6, d2, y, ?_, hy, ?_, i_restOf_l2_step d4 d6⟩
 ·subst hs; exact restrict_eq (T := [(0, (.imm true (.int .i64) d2)), (1, (.imm true (.int .i64) d4)), (5, (.imm true (.int .i64) d6))]) (U := []) rfl rfl ⟨e1, e3, e5, trivial⟩ trivial
 ·exact Option.some.inj hz
noncomputable def i_restOf_I : FnI := ⟨i_restOf_b, Try.f200.results.toList, Try.f200.resultTypes.toList, i_restOf_A⟩
noncomputable def i_restOf_out (_p0 : Int) (_p1 : Int) : Int → CallOut := fun r => ⟨(.imm true (.int .i64) r), [], []⟩
set_option maxRecDepth 100000 in
theorem i_restOf_eq : ∀ (p0 : Int) (p1 : Int), denFn i_restOf_V i_restOf_I ⟨[(.imm true (.int .i64) p0), (.imm true (.int .i64) p1)], []⟩ = (i_restOf p0 p1).run fun r => some (i_restOf_out p0 p1 r) := fun _ _ => by kernel_rfl
noncomputable def i_restOf_G (av : List AV) (rs : List Root) : Tre CallOut :=
 asCons av fun a0_ av0 =>
 asCons av0 fun a1_ av1 =>
 asEnd av1 <|
 asEnd rs <|
 asImmZ true (.int .i64) a0_ fun d1 =>
 asImmZ true (.int .i64) a1_ fun d2 =>
 .mat (i_restOf_F d1 d2) fun r => .ret (i_restOf_out d1 d2 r)
noncomputable def i_restOf_c : Ctr := ⟨[], fun ci => i_restOf_G ci.args ci.roots, false⟩
theorem i_restOf_env : EnvOK Try.prog .none i_restOf_V := (envOK_cons i_degreeOf_ok ent206 envOK_nil)
set_option maxRecDepth 100000 in
theorem i_restOf_ok : Contract Try.prog .none 200 i_restOf_c := by
 have hl : LoopsOK i_restOf_V i_restOf_A i_restOf_b := (loopsOK_all (n := 1) (by kernel_rfl) fun k hk => by
   match k, hk with
   | 0, _ => exact loopOK_at (id := 2) (L := i_restOf_l2_L) (by kernel_rfl) (by kernel_rfl) i_restOf_l2_ok)
 refine (contract_of (F := i_restOf_I) tau_tys i_restOf_env Try.func200 (by kernel_rfl) (by kernel_rfl) (by kernel_rfl) hl []).weaken ?_
 rintro ⟨av, rs⟩ co h
 have h : (i_restOf_G av rs).run some = some co := h
 obtain ⟨a0_, av0, rfl, h_0⟩ := asCons_spec h
 obtain ⟨a1_, av1, rfl, h_1⟩ := asCons_spec h_0
 obtain ⟨rfl, h_2⟩ := asEnd_spec h_1
 obtain ⟨rfl, h_3⟩ := asEnd_spec h_2
 obtain ⟨d1, rfl, h_4⟩ := asImmZ_spec h_3
 obtain ⟨d2, rfl, h_5⟩ := asImmZ_spec h_4
 exact fin_mat (i_restOf_eq d1 d2) h_5
end Go.Proofs.Ytldafhnnnabipaa

namespace Go.Proofs.Ytldafhnnnabipaa
open Go Go.Abs Go.Proofs
noncomputable def i_IsIrreducible_l4 (h4_0_0 : Int) : Int → Tre (Int ⊕ (Bool ⊕ Unit)) := fun s4 =>
 .mat (i_degreeOf_F s4) fun r1 =>
 .mat (i_degreeOf_F h4_0_0) fun r2 =>
 .cond (decide (iwrap .i64 (2 * r1) ≤ r2))
  (.mat (i_restOf_F h4_0_0 s4) fun r3 =>
  .cond (decide (r3 = 0))
   (.ret (.inr (.inl false)))
   (.ret (.inl (iwrap .i64 (s4 + 1)))))
  (.ret (.inr (.inr ())))
noncomputable def i_IsIrreducible (p0 : Int) : Tre Bool :=
 .cond (decide (p0 < 2))
  (.ret false)
  (.cond (decide (p0 ≥ 64))
   (.ret false)
   (.mat (loopF (i_IsIrreducible_l4 p0) 2) fun l4 =>
   .alt l4
    (fun a5 =>
     .ret a5)
    (fun _ =>
     .ret true)))
noncomputable def i_IsIrreducible_F (p0 : Int) : Option Bool := (i_IsIrreducible p0).run some
noncomputable def i_IsIrreducible_V : Env := ⟨tau, [(206, i_degreeOf_c), (200, i_restOf_c)], []⟩
noncomputable def i_IsIrreducible_b : Code := (Try.f205.body).getD .skip
noncomputable def i_IsIrreducible_l4_mk (h4_0_0 : Int) : Int → St := fun x => stOf [(0, (.imm true (.int .i64) h4_0_0)), (3, (.imm true (.int .i64) x))] []
noncomputable def i_IsIrreducible_l4_out (_h4_0_0 : Int) : (Bool ⊕ Unit) → Ex × St
 | .inl x => (.ret, stOf [(2, (.imm true .bool x))] [])
 | .inr x => (.exit 0, stOf [(2, .dead)] [])
noncomputable def i_IsIrreducible_l4_D (s : St) : Tre (Ex × St) :=
 asImmZ true (.int .i64) (s.tmps 0) fun d2 =>
 asImmZ true (.int .i64) (s.tmps 3) fun d4 =>
 .mat (loopF (i_IsIrreducible_l4 d2) d4) fun x => .alt x (fun a0 => .ret (i_IsIrreducible_l4_out d2 (.inl a0))) (fun b0 => .ret (i_IsIrreducible_l4_out d2 (.inr b0)))
noncomputable def i_IsIrreducible_l4_L : LoopI := ⟨([0, 3], []), ([2], []), i_IsIrreducible_l4_D⟩
noncomputable def i_IsIrreducible_A : List (Nat × LoopI) := [(4, i_IsIrreducible_l4_L)]
set_option maxRecDepth 100000 in
theorem i_IsIrreducible_l4_step : ∀ (h4_0_0 : Int) (x : Int) (c : St → Option (Ex × St)), den i_IsIrreducible_V i_IsIrreducible_A (loopAt i_IsIrreducible_b 0) (i_IsIrreducible_l4_mk h4_0_0 x) (roundK i_IsIrreducible_l4_L.kp i_IsIrreducible_l4_L.kx c) = (i_IsIrreducible_l4 h4_0_0 x).run (roundR (i_IsIrreducible_l4_mk h4_0_0) (i_IsIrreducible_l4_out h4_0_0) c) := fun _ _ _ => by
 kernel_rfl
theorem i_IsIrreducible_l4_ok : LoopOK i_IsIrreducible_V i_IsIrreducible_A (loopAt i_IsIrreducible_b 0) i_IsIrreducible_l4_L := loopOK_of fun s e s' h => by
 generalize hs : restrict i_IsIrreducible_l4_L.kp s = s1 at h
 have h : (i_IsIrreducible_l4_D s1).run some = some (e, s') := h
 obtain ⟨d2, e1, h_0⟩ := asImmZ_spec h
 obtain ⟨d4, e3, h_1⟩ := asImmZ_spec h_0
 obtain ⟨y, hy, hz⟩ := mat_some h_1
 refine ⟨_, _, i_IsIrreducible_l4_mk d2, i_IsIrreducible_l4_out d2, i_IsIrreducible_l4 d2, d4, y, ?_, hy, ?_, i_IsIrreducible_l4_step d2⟩
 ·subst hs; exact restrict_eq (T := [(0, (.imm true (.int .i64) d2)), (3, (.imm true (.int .i64) d4))]) (U := []) rfl rfl ⟨e1, e3, trivial⟩ trivial
 ·rcases y with x | x <;> exact Option.some.inj hz
noncomputable def i_IsIrreducible_I : FnI := ⟨i_IsIrreducible_b, Try.f205.results.toList, Try.f205.resultTypes.toList, i_IsIrreducible_A⟩
noncomputable def i_IsIrreducible_out (_p0 : Int) : Bool → CallOut := fun r => ⟨(.imm true .bool r), [], []⟩
set_option maxRecDepth 100000 in
theorem i_IsIrreducible_eq : ∀ (p0 : Int), denFn i_IsIrreducible_V i_IsIrreducible_I ⟨[(.imm true (.int .i64) p0)], []⟩ = (i_IsIrreducible p0).run fun r => some (i_IsIrreducible_out p0 r) := fun _ => by kernel_rfl
noncomputable def i_IsIrreducible_G (av : List AV) (rs : List Root) : Tre CallOut :=
 asCons av fun a0_ av0 =>
 asEnd av0 <|
 asEnd rs <|
 asImmZ true (.int .i64) a0_ fun d1 =>
 .mat (i_IsIrreducible_F d1) fun r => .ret (i_IsIrreducible_out d1 r)
noncomputable def i_IsIrreducible_c : Ctr := ⟨[], fun ci => i_IsIrreducible_G ci.args ci.roots, false⟩
theorem i_IsIrreducible_env : EnvOK Try.prog .none i_IsIrreducible_V := (envOK_cons i_degreeOf_ok ent206 (envOK_cons i_restOf_ok ent200 envOK_nil))
set_option maxRecDepth 100000 in
theorem i_IsIrreducible_ok : Contract Try.prog .none 205 i_IsIrreducible_c := by
 have hl : LoopsOK i_IsIrreducible_V i_IsIrreducible_A i_IsIrreducible_b := (loopsOK_all (n := 1) (by kernel_rfl) fun k hk => by
   match k, hk with
   | 0, _ => exact loopOK_at (id := 4) (L := i_IsIrreducible_l4_L) (by kernel_rfl) (by kernel_rfl) i_IsIrreducible_l4_ok)
 refine (contract_of (F := i_IsIrreducible_I) tau_tys i_IsIrreducible_env Try.func205 (by kernel_rfl) (by kernel_rfl) (by kernel_rfl) hl []).weaken ?_
 rintro ⟨av, rs⟩ co h
 have h : (i_IsIrreducible_G av rs).run some = some co := h
 obtain ⟨a0_, av0, rfl, h_0⟩ := asCons_spec h
 obtain ⟨rfl, h_1⟩ := asEnd_spec h_0
 obtain ⟨rfl, h_2⟩ := asEnd_spec h_1
 obtain ⟨d1, rfl, h_3⟩ := asImmZ_spec h_2
 exact fin_mat (i_IsIrreducible_eq d1) h_3
end Go.Proofs.Ytldafhnnnabipaa

namespace Go.Proofs.Ytldafhnnnabipaa
open Go Go.Abs Go.Proofs
noncomputable def i_ValidField (p0 : (Int × (Int × Unit))) : Tre Bool :=
 .cond (inR p0.1 1 5)
  (.mat (i_IsIrreducible_F p0.2.1) fun r1 =>
  .cond r1
   (.mat (i_degreeOf_F p0.2.1) fun r2 =>
   .ret (decide (r2 = p0.1)))
   (.ret false))
  (.ret false)
noncomputable def i_ValidField_F (p0 : (Int × (Int × Unit))) : Option Bool := (i_ValidField p0).run some
-- more
set_option maxRecDepth 100000 in
theorem i_ValidField_is (f : Int × Int × Unit) : i_ValidField_F f = some (fieldOk f) := by
 refine field_of (I := fun _ => none) (D := fun _ => none) ?_ ?_ (by kernel_rfl) f
 ·intro f h
  unfold i_ValidField_F i_ValidField
  rw [Tre.run_cond, h]; rfl
 ·intro f h
  unfold i_ValidField_F i_ValidField
  rw [Tre.run_cond]
  have : i_IsIrreducible_F f.2.1 = some false := by
   unfold i_IsIrreducible_F i_IsIrreducible
   rw [Tre.run_cond]
   by_cases h1 : f.2.1 < 2
   ·rw [decide_eq_true h1]; rfl
   ·rw [decide_eq_false h1, cond_false, Tre.run_cond, decide_eq_true (by omega)]; rfl
  rw [run_some_mat this]
  cases inR f.1 1 5 <;> rfl
noncomputable def i_ValidField_V : Env := ⟨tau, [(57, i_within_c), (205, i_IsIrreducible_c), (206, i_degreeOf_c)], []⟩
noncomputable def i_ValidField_b : Code := (Try.f150.body).getD .skip
noncomputable def i_ValidField_I : FnI := ⟨i_ValidField_b, Try.f150.results.toList, Try.f150.resultTypes.toList, []⟩
noncomputable def i_ValidField_out (_p0 : (Int × (Int × Unit))) : Bool → CallOut := fun r => ⟨(.imm true .bool r), [], []⟩
set_option maxRecDepth 100000 in
theorem i_ValidField_eq : ∀ (p0 : (Int × (Int × Unit))), denFn i_ValidField_V i_ValidField_I ⟨[(.imm true kField p0)], []⟩ = (i_ValidField p0).run fun r => some (i_ValidField_out p0 r) := fun _ => by kernel_rfl
noncomputable def i_ValidField_G (av : List AV) (rs : List Root) : Tre CallOut :=
 asCons av fun a0_ av0 =>
 asEnd av0 <|
 asEnd rs <|
 asImmZ true kField a0_ fun d1 =>
 .mat (i_ValidField_F d1) fun r => .ret (i_ValidField_out d1 r)
noncomputable def i_ValidField_c : Ctr := ⟨[], fun ci => i_ValidField_G ci.args ci.roots, false⟩
theorem i_ValidField_env : EnvOK Try.prog .none i_ValidField_V := (envOK_cons i_within_ok ent57 (envOK_cons i_IsIrreducible_ok ent205 (envOK_cons i_degreeOf_ok ent206 envOK_nil)))
set_option maxRecDepth 100000 in
theorem i_ValidField_ok : Contract Try.prog .none 150 i_ValidField_c := by
 have hl : LoopsOK i_ValidField_V [] i_ValidField_b := loopsOK_nil (by kernel_rfl)
 refine (contract_of (F := i_ValidField_I) tau_tys i_ValidField_env Try.func150 (by kernel_rfl) (by kernel_rfl) (by kernel_rfl) hl []).weaken ?_
 rintro ⟨av, rs⟩ co h
 have h : (i_ValidField_G av rs).run some = some co := h
 obtain ⟨a0_, av0, rfl, h_0⟩ := asCons_spec h
 obtain ⟨rfl, h_1⟩ := asEnd_spec h_0
 obtain ⟨rfl, h_2⟩ := asEnd_spec h_1
 obtain ⟨d1, rfl, h_3⟩ := asImmZ_spec h_2
 exact fin_mat (i_ValidField_eq d1) h_3
end Go.Proofs.Ytldafhnnnabipaa

namespace Go.Proofs.Ytldafhnnnabipaa
open Go Go.Abs Go.Proofs
noncomputable def i_Net_isNode (p0 : TNet) (p1 : Int) : Tre Bool :=
 let v1 := inR p1 0 (iwrap .i64 (p0.2.1 - 1))
 .ret v1
noncomputable def i_Net_isNode_F (p0 : TNet) (p1 : Int) : Option Bool := (i_Net_isNode p0 p1).run some
def i_Net_isNode_S (p0 : TNet) (p1 : Int) : Bool :=
 let v1 := inR p1 0 (iwrap .i64 (p0.2.1 - 1))
 v1
theorem i_Net_isNode_spec (p0 : TNet) (p1 : Int) : i_Net_isNode_F p0 p1 = some (i_Net_isNode_S p0 p1) := rfl
noncomputable def i_Net_isNode_V : Env := ⟨tau, [(57, i_within_c)], []⟩
noncomputable def i_Net_isNode_b : Code := (Try.f176.body).getD .skip
noncomputable def i_Net_isNode_I : FnI := ⟨i_Net_isNode_b, Try.f176.results.toList, Try.f176.resultTypes.toList, []⟩
noncomputable def i_Net_isNode_out (_zp0 : Bool) (_p0 : TNet) (_p1 : Int) : Bool → CallOut := fun r => ⟨(.imm true .bool r), [], []⟩
set_option maxRecDepth 100000 in
theorem i_Net_isNode_eq : ∀ (zp0 : Bool) (p0 : TNet) (p1 : Int), denFn i_Net_isNode_V i_Net_isNode_I ⟨[(.imm zp0 kNet p0), (.imm true (.int .i64) p1)], []⟩ = (i_Net_isNode p0 p1).run fun r => some (i_Net_isNode_out zp0 p0 p1 r) := fun _ _ _ => by kernel_rfl
noncomputable def i_Net_isNode_G (av : List AV) (rs : List Root) : Tre CallOut :=
 asCons av fun a0_ av0 =>
 asCons av0 fun a1_ av1 =>
 asEnd av1 <|
 asEnd rs <|
 asImm kNet a0_ fun z2 d1 =>
 asImmZ true (.int .i64) a1_ fun d3 =>
 .ret (i_Net_isNode_out z2 d1 d3 (i_Net_isNode_S d1 d3))
noncomputable def i_Net_isNode_c : Ctr := ⟨[], fun ci => i_Net_isNode_G ci.args ci.roots, false⟩
theorem i_Net_isNode_env : EnvOK Try.prog .none i_Net_isNode_V := (envOK_cons i_within_ok ent57 envOK_nil)
set_option maxRecDepth 100000 in
theorem i_Net_isNode_ok : Contract Try.prog .none 176 i_Net_isNode_c := by
 have hl : LoopsOK i_Net_isNode_V [] i_Net_isNode_b := loopsOK_nil (by kernel_rfl)
 refine (contract_of (F := i_Net_isNode_I) tau_tys i_Net_isNode_env Try.func176 (by kernel_rfl) (by kernel_rfl) (by kernel_rfl) hl []).weaken ?_
 rintro ⟨av, rs⟩ co h
 have h : (i_Net_isNode_G av rs).run some = some co := h
 obtain ⟨a0_, av0, rfl, h_0⟩ := asCons_spec h
 obtain ⟨a1_, av1, rfl, h_1⟩ := asCons_spec h_0
 obtain ⟨rfl, h_2⟩ := asEnd_spec h_1
 obtain ⟨rfl, h_3⟩ := asEnd_spec h_2
 obtain ⟨z2, d1, rfl, h_4⟩ := asImm_spec h_3
 obtain ⟨d3, rfl, h_5⟩ := asImmZ_spec h_4
 exact fin_ret (i_Net_isNode_eq z2 d1 d3) (i_Net_isNode_spec d1 d3) h_5
end Go.Proofs.Ytldafhnnnabipaa

namespace Go.Proofs.Ytldafhnnnabipaa
open Go Go.Abs Go.Proofs
noncomputable def i_size_int64 (p0 : (List Int)) : Tre Int :=
 .ret (p0.length : Int)
noncomputable def i_size_int64_F (p0 : (List Int)) : Option Int := (i_size_int64 p0).run some
theorem i_size_int64_spec (p0 : (List Int)) : i_size_int64_F p0 = some (p0.length : Int) := rfl
noncomputable def i_size_int64_V : Env := ⟨tau, [], []⟩
noncomputable def i_size_int64_b : Code := (Try.f163.body).getD .skip
noncomputable def i_size_int64_I : FnI := ⟨i_size_int64_b, Try.f163.results.toList, Try.f163.resultTypes.toList, []⟩
noncomputable def i_size_int64_out (_zp0 : Bool) (_p0 : (List Int)) : Int → CallOut := fun r => ⟨(.imm true (.int .i64) r), [], []⟩
set_option maxRecDepth 100000 in
theorem i_size_int64_eq : ∀ (zp0 : Bool) (p0 : (List Int)), denFn i_size_int64_V i_size_int64_I ⟨[(.imm zp0 (.sl (.int .i64)) p0)], []⟩ = (i_size_int64 p0).run fun r => some (i_size_int64_out zp0 p0 r) := fun _ _ => by kernel_rfl
noncomputable def i_size_int64_G (av : List AV) (rs : List Root) : Tre CallOut :=
 asCons av fun a0_ av0 =>
 asEnd av0 <|
 asEnd rs <|
 asImm (.sl (.int .i64)) a0_ fun z2 d1 =>
 .ret (i_size_int64_out z2 d1 (d1.length : Int))
noncomputable def i_size_int64_c : Ctr := ⟨[], fun ci => i_size_int64_G ci.args ci.roots, false⟩
theorem i_size_int64_env : EnvOK Try.prog .none i_size_int64_V := envOK_nil
set_option maxRecDepth 100000 in
theorem i_size_int64_ok : Contract Try.prog .none 163 i_size_int64_c := by
 have hl : LoopsOK i_size_int64_V [] i_size_int64_b := loopsOK_nil (by kernel_rfl)
 refine (contract_of (F := i_size_int64_I) tau_tys i_size_int64_env Try.func163 (by kernel_rfl) (by kernel_rfl) (by kernel_rfl) hl []).weaken ?_
 rintro ⟨av, rs⟩ co h
 have h : (i_size_int64_G av rs).run some = some co := h
 obtain ⟨a0_, av0, rfl, h_0⟩ := asCons_spec h
 obtain ⟨rfl, h_1⟩ := asEnd_spec h_0
 obtain ⟨rfl, h_2⟩ := asEnd_spec h_1
 obtain ⟨z2, d1, rfl, h_3⟩ := asImm_spec h_2
 exact fin_ret (i_size_int64_eq z2 d1) (i_size_int64_spec d1) h_3
end Go.Proofs.Ytldafhnnnabipaa

namespace Go.Proofs.Ytldafhnnnabipaa
open Go Go.Abs Go.Proofs
noncomputable def i_Net_into_l3 (h3_0_0 : Int) (h3_0_1 : (List (List Int))) (h3_0_2 : Int) : (Int × (List Int)) → Tre ((Int × (List Int)) ⊕ (List Int)) := fun s3 =>
 .cond (decide (s3.1 < h3_0_2))
  (.ite (0 ≤ s3.1 ∧ s3.1 < (h3_0_1.length : Int)) <|
  .mat (h3_0_1[s3.1.toNat]?) fun x1 =>
  .ite ((0 : Int) ≤ 1 ∧ (1 : Int) < (x1.length : Int)) <|
  .mat (x1[1]?) fun x2 =>
  .cond (decide (x2 = h3_0_0))
   (.ite ((s3.2.length + 1) * 8 ≤ appendMax ∧ 1 ≤ 8) <|
   .ret (.inl (iwrap .i64 (s3.1 + 1), s3.2 ++ ([s3.1]))))
   (.ret (.inl (iwrap .i64 (s3.1 + 1), s3.2))))
  (.ret (.inr s3.2))
noncomputable def i_Net_into (p0 : TNet) (p1 : Int) : Tre (List Int) :=
 .mat (loopF (i_Net_into_l3 p1 p0.2.2.2.1 (p0.2.2.2.1.length : Int)) (0, [])) fun l3 =>
 .ret l3
noncomputable def i_Net_into_F (p0 : TNet) (p1 : Int) : Option (List Int) := (i_Net_into p0 p1).run some
-- more
theorem i_Net_into_is (n : TN6) (hl : n.2.2.2.1.length ≤ 14) (h2 : ∀ e ∈ n.2.2.2.1, e.length = 2) (node : Int) : i_Net_into_F n node = some (intoV n.2.2.2.1 node) := by
 unfold i_Net_into_F i_Net_into
 rw [run_some_mat (pick_loop (xs := n.2.2.2.1) (fun i e => if e1 e = node then some (i : Int) else none) ?_ ?_)]
 ·rfl
 ·intro i acc e he hacc
  have hi : i < n.2.2.2.1.length := (List.getElem?_eq_some_iff.1 he).1
  obtain ⟨a, b, rfl⟩ := len2 (h2 e (List.mem_of_getElem? he))
  unfold i_Net_into_l3
  rw [run_inb he, Tre.run_ite, if_pos ⟨by decide, by simp⟩, Tre.run_mat]
  dsimp only
  simp only [List.getElem?_cons_succ, List.getElem?_cons_zero, Option.bind_some]
  rw [Tre.run_cond, show e1 [a, b] = b from rfl, iwrap_succ (by omega)]
  by_cases h : b = node
  ·rw [decide_eq_true h, cond_true, Tre.run_ite, if_pos ⟨by unfold appendMax; omega, by decide⟩, if_pos h]; rfl
  ·rw [decide_eq_false h, cond_false, if_neg h]; simp [Tre.run_ret]
 ·intro acc
  unfold i_Net_into_l3
  exact run_out
noncomputable def i_Net_into_V : Env := ⟨tau, [], []⟩
noncomputable def i_Net_into_b : Code := (Try.f224.body).getD .skip
noncomputable def i_Net_into_l3_mk (z3_0 : Bool) (h3_0_0 : Int) (h3_0_1 : (List (List Int))) (h3_0_2 : Int) : (Int × (List Int)) → St := fun x => stOf [(1, (.imm true (.int .i64) h3_0_0)), (5, (.ref (7, 0) [])), (10, (.imm z3_0 (.sl (.sl (.int .i64))) h3_0_1)), (11, (.imm true (.int .i64) h3_0_2)), (12, (.imm true (.int .i64) x.1))] [((7, 0), some ⟨false, (.sl (.int .i64)), .own, x.2⟩)]
noncomputable def i_Net_into_l3_out (_z3_0 : Bool) (_h3_0_0 : Int) (_h3_0_1 : (List (List Int))) (_h3_0_2 : Int) : (List Int) → Ex × St := fun x => (.exit 0, stOf [(5, (.ref (7, 0) []))] [((7, 0), some ⟨false, (.sl (.int .i64)), .own, x⟩)])
noncomputable def i_Net_into_l3_D (s : St) : Tre (Ex × St) :=
 asImmZ true (.int .i64) (s.tmps 1) fun d2 =>
 asRef (7, 0) [] (s.tmps 5) <|
 asImm (.sl (.sl (.int .i64))) (s.tmps 10) fun z6 d5 =>
 asImmZ true (.int .i64) (s.tmps 11) fun d8 =>
 asImmZ true (.int .i64) (s.tmps 12) fun d10 =>
 asRoot false (.sl (.int .i64)) (s.roots (7, 0)) fun m12 d13 =>
 asM .own m12 <|
 .mat (loopF (i_Net_into_l3 d2 d5 d8) (d10, d13)) fun x => .ret (i_Net_into_l3_out z6 d2 d5 d8 x)
noncomputable def i_Net_into_l3_L : LoopI := ⟨([1, 5, 10, 11, 12], [(7, 0)]), ([5], [(7, 0)]), i_Net_into_l3_D⟩
noncomputable def i_Net_into_A : List (Nat × LoopI) := [(3, i_Net_into_l3_L)]
set_option maxRecDepth 100000 in
theorem i_Net_into_l3_step : ∀ (z3_0 : Bool) (h3_0_0 : Int) (h3_0_1 : (List (List Int))) (h3_0_2 : Int) (x : (Int × (List Int))) (c : St → Option (Ex × St)), den i_Net_into_V i_Net_into_A (loopAt i_Net_into_b 0) (i_Net_into_l3_mk z3_0 h3_0_0 h3_0_1 h3_0_2 x) (roundK i_Net_into_l3_L.kp i_Net_into_l3_L.kx c) = (i_Net_into_l3 h3_0_0 h3_0_1 h3_0_2 x).run (roundR (i_Net_into_l3_mk z3_0 h3_0_0 h3_0_1 h3_0_2) (i_Net_into_l3_out z3_0 h3_0_0 h3_0_1 h3_0_2) c) := fun _ _ _ _ _ _ => by
 kernel_rfl
theorem i_Net_into_l3_ok : LoopOK i_Net_into_V i_Net_into_A (loopAt i_Net_into_b 0) i_Net_into_l3_L := loopOK_of fun s e s' h => by
 generalize hs : restrict i_Net_into_l3_L.kp s = s1 at h
 have h : (i_Net_into_l3_D s1).run some = some (e, s') := h
 obtain ⟨d2, e1, h_0⟩ := asImmZ_spec h
 obtain ⟨e3, h_1⟩ := asRef_spec h_0
 obtain ⟨z6, d5, e4, h_2⟩ := asImm_spec h_1
 obtain ⟨d8, e7, h_3⟩ := asImmZ_spec h_2
 obtain ⟨d10, e9, h_4⟩ := asImmZ_spec h_3
 obtain ⟨m12, d13, e11, h_5⟩ := asRoot_spec h_4
 obtain ⟨rfl, h_6⟩ := asM_spec h_5
 obtain ⟨y, hy, hz⟩ := mat_ret h_6
 refine ⟨_, _, i_Net_into_l3_mk z6 d2 d5 d8, i_Net_into_l3_out z6 d2 d5 d8, i_Net_into_l3 d2 d5 d8, (d10, d13), y, ?_, hy, ?_, i_Net_into_l3_step z6 d2 d5 d8⟩
 ·subst hs; exact restrict_eq (T := [(1, (.imm true (.int .i64) d2)), (5, (.ref (7, 0) [])), (10, (.imm z6 (.sl (.sl (.int .i64))) d5)), (11, (.imm true (.int .i64) d8)), (12, (.imm true (.int .i64) d10))]) (U := [((7, 0), some ⟨false, (.sl (.int .i64)), .own, d13⟩)]) rfl rfl ⟨e1, e3, e4, e7, e9, trivial⟩ ⟨e11, trivial⟩
 ·exact Option.some.inj hz
noncomputable def i_Net_into_I : FnI := ⟨i_Net_into_b, Try.f224.results.toList, Try.f224.resultTypes.toList, i_Net_into_A⟩
noncomputable def i_Net_into_out (_zp0 : Bool) (_p0 : TNet) (_p1 : Int) : (List Int) → CallOut := fun r => ⟨(.ref (1, 0) []), [], [⟨false, (.sl (.int .i64)), .own, r⟩]⟩
set_option maxRecDepth 100000 in
theorem i_Net_into_eq : ∀ (zp0 : Bool) (p0 : TNet) (p1 : Int), denFn i_Net_into_V i_Net_into_I ⟨[(.imm zp0 kNet p0), (.imm true (.int .i64) p1)], []⟩ = (i_Net_into p0 p1).run fun r => some (i_Net_into_out zp0 p0 p1 r) := fun _ _ _ => by kernel_rfl
noncomputable def i_Net_into_G (av : List AV) (rs : List Root) : Tre CallOut :=
 asCons av fun a0_ av0 =>
 asCons av0 fun a1_ av1 =>
 asEnd av1 <|
 asEnd rs <|
 asImm kNet a0_ fun z2 d1 =>
 asImmZ true (.int .i64) a1_ fun d3 =>
 .mat (i_Net_into_F d1 d3) fun r => .ret (i_Net_into_out z2 d1 d3 r)
noncomputable def i_Net_into_c : Ctr := ⟨[], fun ci => i_Net_into_G ci.args ci.roots, false⟩
theorem i_Net_into_env : EnvOK Try.prog .none i_Net_into_V := envOK_nil
set_option maxRecDepth 100000 in
theorem i_Net_into_ok : Contract Try.prog .none 224 i_Net_into_c := by
 have hl : LoopsOK i_Net_into_V i_Net_into_A i_Net_into_b := (loopsOK_all (n := 1) (by kernel_rfl) fun k hk => by
   match k, hk with
   | 0, _ => exact loopOK_at (id := 3) (L := i_Net_into_l3_L) (by kernel_rfl) (by kernel_rfl) i_Net_into_l3_ok)
 refine (contract_of (F := i_Net_into_I) tau_tys i_Net_into_env Try.func224 (by kernel_rfl) (by kernel_rfl) (by kernel_rfl) hl []).weaken ?_
 rintro ⟨av, rs⟩ co h
 have h : (i_Net_into_G av rs).run some = some co := h
 obtain ⟨a0_, av0, rfl, h_0⟩ := asCons_spec h
 obtain ⟨a1_, av1, rfl, h_1⟩ := asCons_spec h_0
 obtain ⟨rfl, h_2⟩ := asEnd_spec h_1
 obtain ⟨rfl, h_3⟩ := asEnd_spec h_2
 obtain ⟨z2, d1, rfl, h_4⟩ := asImm_spec h_3
 obtain ⟨d3, rfl, h_5⟩ := asImmZ_spec h_4
 exact fin_mat (i_Net_into_eq z2 d1 d3) h_5
end Go.Proofs.Ytldafhnnnabipaa

namespace Go.Proofs.Ytldafhnnnabipaa
open Go Go.Abs Go.Proofs
noncomputable def i_Net_has (p0 : TNet) (p1 : Int) : Tre Int :=
 .cond (decide (p1 = 0))
  (.ret p0.2.2.1)
  (.mat (i_Net_into_F p0 p1) fun r1 =>
  .ret (r1.length : Int))
noncomputable def i_Net_has_F (p0 : TNet) (p1 : Int) : Option Int := (i_Net_has p0 p1).run some
-- more
theorem i_Net_has_is (n : TN6) (hl : n.2.2.2.1.length ≤ 14) (h2 : ∀ e ∈ n.2.2.2.1, e.length = 2) (node : Int) : i_Net_has_F n node = some (hasV n node) := by
 unfold i_Net_has_F i_Net_has hasV
 rw [Tre.run_cond, run_some_mat (i_Net_into_is n hl h2 node)]
 by_cases h : node = 0
 ·rw [decide_eq_true h, if_pos h]; rfl
 ·rw [decide_eq_false h, if_neg h]; rfl
noncomputable def i_Net_has_V : Env := ⟨tau, [(224, i_Net_into_c), (163, i_size_int64_c)], []⟩
noncomputable def i_Net_has_b : Code := (Try.f214.body).getD .skip
noncomputable def i_Net_has_I : FnI := ⟨i_Net_has_b, Try.f214.results.toList, Try.f214.resultTypes.toList, []⟩
noncomputable def i_Net_has_out (_zp0 : Bool) (_p0 : TNet) (_p1 : Int) : Int → CallOut := fun r => ⟨(.imm true (.int .i64) r), [], []⟩
set_option maxRecDepth 100000 in
theorem i_Net_has_eq : ∀ (zp0 : Bool) (p0 : TNet) (p1 : Int), denFn i_Net_has_V i_Net_has_I ⟨[(.imm zp0 kNet p0), (.imm true (.int .i64) p1)], []⟩ = (i_Net_has p0 p1).run fun r => some (i_Net_has_out zp0 p0 p1 r) := fun _ _ _ => by kernel_rfl
noncomputable def i_Net_has_G (av : List AV) (rs : List Root) : Tre CallOut :=
 asCons av fun a0_ av0 =>
 asCons av0 fun a1_ av1 =>
 asEnd av1 <|
 asEnd rs <|
 asImm kNet a0_ fun z2 d1 =>
 asImmZ true (.int .i64) a1_ fun d3 =>
 .mat (i_Net_has_F d1 d3) fun r => .ret (i_Net_has_out z2 d1 d3 r)
noncomputable def i_Net_has_c : Ctr := ⟨[], fun ci => i_Net_has_G ci.args ci.roots, false⟩
theorem i_Net_has_env : EnvOK Try.prog .none i_Net_has_V := (envOK_cons i_Net_into_ok ent224 (envOK_cons i_size_int64_ok ent163 envOK_nil))
set_option maxRecDepth 100000 in
theorem i_Net_has_ok : Contract Try.prog .none 214 i_Net_has_c := by
 have hl : LoopsOK i_Net_has_V [] i_Net_has_b := loopsOK_nil (by kernel_rfl)
 refine (contract_of (F := i_Net_has_I) tau_tys i_Net_has_env Try.func214 (by kernel_rfl) (by kernel_rfl) (by kernel_rfl) hl []).weaken ?_
 rintro ⟨av, rs⟩ co h
 have h : (i_Net_has_G av rs).run some = some co := h
 obtain ⟨a0_, av0, rfl, h_0⟩ := asCons_spec h
 obtain ⟨a1_, av1, rfl, h_1⟩ := asCons_spec h_0
 obtain ⟨rfl, h_2⟩ := asEnd_spec h_1
 obtain ⟨rfl, h_3⟩ := asEnd_spec h_2
 obtain ⟨z2, d1, rfl, h_4⟩ := asImm_spec h_3
 obtain ⟨d3, rfl, h_5⟩ := asImmZ_spec h_4
 exact fin_mat (i_Net_has_eq z2 d1 d3) h_5
end Go.Proofs.Ytldafhnnnabipaa

namespace Go.Proofs.Ytldafhnnnabipaa
open Go Go.Abs Go.Proofs
noncomputable def i_Field_count (p0 : (Int × (Int × Unit))) : Tre Int :=
 .ite (0 ≤ p0.1) <|
 .ret (ishl .i64 1 p0.1)
noncomputable def i_Field_count_F (p0 : (Int × (Int × Unit))) : Option Int := (i_Field_count p0).run some
noncomputable def i_Field_count_V : Env := ⟨tau, [], []⟩
noncomputable def i_Field_count_b : Code := (Try.f142.body).getD .skip
noncomputable def i_Field_count_I : FnI := ⟨i_Field_count_b, Try.f142.results.toList, Try.f142.resultTypes.toList, []⟩
noncomputable def i_Field_count_out (_p0 : (Int × (Int × Unit))) : Int → CallOut := fun r => ⟨(.imm true (.int .i64) r), [], []⟩
set_option maxRecDepth 100000 in
theorem i_Field_count_eq : ∀ (p0 : (Int × (Int × Unit))), denFn i_Field_count_V i_Field_count_I ⟨[(.imm true kField p0)], []⟩ = (i_Field_count p0).run fun r => some (i_Field_count_out p0 r) := fun _ => by kernel_rfl
noncomputable def i_Field_count_G (av : List AV) (rs : List Root) : Tre CallOut :=
 asCons av fun a0_ av0 =>
 asEnd av0 <|
 asEnd rs <|
 asImmZ true kField a0_ fun d1 =>
 .mat (i_Field_count_F d1) fun r => .ret (i_Field_count_out d1 r)
noncomputable def i_Field_count_c : Ctr := ⟨[], fun ci => i_Field_count_G ci.args ci.roots, false⟩
theorem i_Field_count_env : EnvOK Try.prog .none i_Field_count_V := envOK_nil
set_option maxRecDepth 100000 in
theorem i_Field_count_ok : Contract Try.prog .none 142 i_Field_count_c := by
 have hl : LoopsOK i_Field_count_V [] i_Field_count_b := loopsOK_nil (by kernel_rfl)
 refine (contract_of (F := i_Field_count_I) tau_tys i_Field_count_env Try.func142 (by kernel_rfl) (by kernel_rfl) (by kernel_rfl) hl []).weaken ?_
 rintro ⟨av, rs⟩ co h
 have h : (i_Field_count_G av rs).run some = some co := h
 obtain ⟨a0_, av0, rfl, h_0⟩ := asCons_spec h
 obtain ⟨rfl, h_1⟩ := asEnd_spec h_0
 obtain ⟨rfl, h_2⟩ := asEnd_spec h_1
 obtain ⟨d1, rfl, h_3⟩ := asImmZ_spec h_2
 exact fin_mat (i_Field_count_eq d1) h_3
end Go.Proofs.Ytldafhnnnabipaa

namespace Go.Proofs.Ytldafhnnnabipaa
open Go Go.Abs Go.Proofs
noncomputable def i_Field_hasc1_9fd3 (p0 : Int) (p1 : (Int × (Int × Unit))) : Tre Bool :=
 .mat (i_Field_count_F p1) fun r1 =>
 let v2 := inR p0 0 (iwrap .i64 (r1 - 1))
 .ret (!v2)
noncomputable def i_Field_hasc1_9fd3_F (p0 : Int) (p1 : (Int × (Int × Unit))) : Option Bool := (i_Field_hasc1_9fd3 p0 p1).run some
noncomputable def i_Field_hasc1_9fd3_V : Env := ⟨tau, [(142, i_Field_count_c), (57, i_within_c)], []⟩
noncomputable def i_Field_hasc1_9fd3_b : Code := (Try.f159.body).getD .skip
noncomputable def i_Field_hasc1_9fd3_I : FnI := ⟨i_Field_hasc1_9fd3_b, Try.f159.results.toList, Try.f159.resultTypes.toList, []⟩
noncomputable def i_Field_hasc1_9fd3_out (_p0 : Int) (p1 : (Int × (Int × Unit))) : Bool → CallOut := fun r => ⟨(.imm true .bool r), [⟨true, kField, .own, p1⟩], []⟩
set_option maxRecDepth 100000 in
theorem i_Field_hasc1_9fd3_eq : ∀ (p0 : Int) (p1 : (Int × (Int × Unit))), denFn i_Field_hasc1_9fd3_V i_Field_hasc1_9fd3_I ⟨[(.imm true (.int .i64) p0), (.ptr (0, 0) [])], [⟨true, kField, .own, p1⟩]⟩ = (i_Field_hasc1_9fd3 p0 p1).run fun r => some (i_Field_hasc1_9fd3_out p0 p1 r) := fun _ _ => by kernel_rfl
noncomputable def i_Field_hasc1_9fd3_G (av : List AV) (rs : List Root) : Tre CallOut :=
 asCons av fun a0_ av0 =>
 asCons av0 fun a1_ av1 =>
 asEnd av1 <|
 asCons rs fun r0_ rs0 =>
 asEnd rs0 <|
 asImmZ true (.int .i64) a0_ fun d1 =>
 asPtr (0, 0) [] a1_ <|
 asRt true kField r0_ fun m2 d3 =>
 asM .own m2 <|
 .mat (i_Field_hasc1_9fd3_F d1 d3) fun r => .ret (i_Field_hasc1_9fd3_out d1 d3 r)
noncomputable def i_Field_hasc1_9fd3_c : Ctr := ⟨[], fun ci => i_Field_hasc1_9fd3_G ci.args ci.roots, false⟩
theorem i_Field_hasc1_9fd3_env : EnvOK Try.prog .none i_Field_hasc1_9fd3_V := (envOK_cons i_Field_count_ok ent142 (envOK_cons i_within_ok ent57 envOK_nil))
set_option maxRecDepth 100000 in
theorem i_Field_hasc1_9fd3_ok : Contract Try.prog .none 159 i_Field_hasc1_9fd3_c := by
 have hl : LoopsOK i_Field_hasc1_9fd3_V [] i_Field_hasc1_9fd3_b := loopsOK_nil (by kernel_rfl)
 refine (contract_of (F := i_Field_hasc1_9fd3_I) tau_tys i_Field_hasc1_9fd3_env Try.func159 (by kernel_rfl) (by kernel_rfl) (by kernel_rfl) hl []).weaken ?_
 rintro ⟨av, rs⟩ co h
 have h : (i_Field_hasc1_9fd3_G av rs).run some = some co := h
 obtain ⟨a0_, av0, rfl, h_0⟩ := asCons_spec h
 obtain ⟨a1_, av1, rfl, h_1⟩ := asCons_spec h_0
 obtain ⟨rfl, h_2⟩ := asEnd_spec h_1
 obtain ⟨r0_, rs0, rfl, h_3⟩ := asCons_spec h_2
 obtain ⟨rfl, h_4⟩ := asEnd_spec h_3
 obtain ⟨d1, rfl, h_5⟩ := asImmZ_spec h_4
 obtain ⟨rfl, h_6⟩ := asPtr_spec h_5
 obtain ⟨m2, d3, rfl, h_7⟩ := asRt_spec h_6
 obtain ⟨rfl, h_8⟩ := asM_spec h_7
 exact fin_mat (i_Field_hasc1_9fd3_eq d1 d3) h_8
end Go.Proofs.Ytldafhnnnabipaa

namespace Go.Proofs.Ytldafhnnnabipaa
open Go Go.Abs Go.Proofs
noncomputable def slices_IndexFunc_int64_i_Field_hasc1_l2 (h2_0_0 : (List Int)) (h2_0_1 : Int) (h2_0_3 : (Int × (Int × Unit))) : Int → Tre (Int ⊕ (Int ⊕ Unit)) := fun s2 =>
 .cond (decide (s2 < h2_0_1))
  (.ite (0 ≤ s2 ∧ s2 < (h2_0_0.length : Int)) <|
  .mat (h2_0_0[s2.toNat]?) fun x1 =>
  .mat (i_Field_hasc1_9fd3_F x1 h2_0_3) fun r2 =>
  .cond r2
   (.ret (.inr (.inl s2)))
   (.ret (.inl (iwrap .i64 (s2 + 1)))))
  (.ret (.inr (.inr ())))
noncomputable def slices_IndexFunc_int64_i_Field_hasc1 (p0 : (List Int)) (p1 : (Int × (Int × Unit))) : Tre Int :=
 .mat (loopF (slices_IndexFunc_int64_i_Field_hasc1_l2 p0 (p0.length : Int) p1) 0) fun l3 =>
 .alt l3
  (fun a4 =>
   .ret a4)
  (fun _ =>
   .ret (-1))
noncomputable def slices_IndexFunc_int64_i_Field_hasc1_F (p0 : (List Int)) (p1 : (Int × (Int × Unit))) : Option Int := (slices_IndexFunc_int64_i_Field_hasc1 p0 p1).run some
noncomputable def slices_IndexFunc_int64_i_Field_hasc1_V : Env := ⟨tau, [(159, i_Field_hasc1_9fd3_c)], []⟩
noncomputable def slices_IndexFunc_int64_i_Field_hasc1_b : Code := (Try.f125.body).getD .skip
noncomputable def slices_IndexFunc_int64_i_Field_hasc1_l2_mk (z2_0 : Bool) (h2_0_0 : (List Int)) (h2_0_1 : Int) (h2_0_3 : (Int × (Int × Unit))) : Int → St := fun x => stOf [(0, (.imm z2_0 (.sl (.int .i64)) h2_0_0)), (1, (.fn 159 [(0, 0)])), (7, (.imm true (.int .i64) h2_0_1)), (8, (.imm true (.int .i64) x))] [((0, 0), some ⟨true, kField, .own, h2_0_3⟩)]
noncomputable def slices_IndexFunc_int64_i_Field_hasc1_l2_out (_z2_0 : Bool) (_h2_0_0 : (List Int)) (_h2_0_1 : Int) (h2_0_3 : (Int × (Int × Unit))) : (Int ⊕ Unit) → Ex × St
 | .inl x => (.ret, stOf [(4, (.imm true (.int .i64) x))] [((0, 0), some ⟨true, kField, .own, h2_0_3⟩)])
 | .inr x => (.exit 0, stOf [(4, .dead)] [((0, 0), some ⟨true, kField, .own, h2_0_3⟩)])
noncomputable def slices_IndexFunc_int64_i_Field_hasc1_l2_D (s : St) : Tre (Ex × St) :=
 asImm (.sl (.int .i64)) (s.tmps 0) fun z3 d2 =>
 asFn 159 [(0, 0)] (s.tmps 1) <|
 asImmZ true (.int .i64) (s.tmps 7) fun d6 =>
 asImmZ true (.int .i64) (s.tmps 8) fun d8 =>
 asRoot true kField (s.roots (0, 0)) fun m10 d11 =>
 asM .own m10 <|
 .mat (loopF (slices_IndexFunc_int64_i_Field_hasc1_l2 d2 d6 d11) d8) fun x => .alt x (fun a0 => .ret (slices_IndexFunc_int64_i_Field_hasc1_l2_out z3 d2 d6 d11 (.inl a0))) (fun b0 => .ret (slices_IndexFunc_int64_i_Field_hasc1_l2_out z3 d2 d6 d11 (.inr b0)))
noncomputable def slices_IndexFunc_int64_i_Field_hasc1_l2_L : LoopI := ⟨([0, 1, 7, 8], [(0, 0)]), ([4], [(0, 0)]), slices_IndexFunc_int64_i_Field_hasc1_l2_D⟩
noncomputable def slices_IndexFunc_int64_i_Field_hasc1_A : List (Nat × LoopI) := [(2, slices_IndexFunc_int64_i_Field_hasc1_l2_L)]
set_option maxRecDepth 100000 in
theorem slices_IndexFunc_int64_i_Field_hasc1_l2_step : ∀ (z2_0 : Bool) (h2_0_0 : (List Int)) (h2_0_1 : Int) (h2_0_3 : (Int × (Int × Unit))) (x : Int) (c : St → Option (Ex × St)), den slices_IndexFunc_int64_i_Field_hasc1_V slices_IndexFunc_int64_i_Field_hasc1_A (loopAt slices_IndexFunc_int64_i_Field_hasc1_b 0) (slices_IndexFunc_int64_i_Field_hasc1_l2_mk z2_0 h2_0_0 h2_0_1 h2_0_3 x) (roundK slices_IndexFunc_int64_i_Field_hasc1_l2_L.kp slices_IndexFunc_int64_i_Field_hasc1_l2_L.kx c) = (slices_IndexFunc_int64_i_Field_hasc1_l2 h2_0_0 h2_0_1 h2_0_3 x).run (roundR (slices_IndexFunc_int64_i_Field_hasc1_l2_mk z2_0 h2_0_0 h2_0_1 h2_0_3) (slices_IndexFunc_int64_i_Field_hasc1_l2_out z2_0 h2_0_0 h2_0_1 h2_0_3) c) := fun _ _ _ _ _ _ => by
 kernel_rfl
theorem slices_IndexFunc_int64_i_Field_hasc1_l2_ok : LoopOK slices_IndexFunc_int64_i_Field_hasc1_V slices_IndexFunc_int64_i_Field_hasc1_A (loopAt slices_IndexFunc_int64_i_Field_hasc1_b 0) slices_IndexFunc_int64_i_Field_hasc1_l2_L := loopOK_of fun s e s' h => by
 generalize hs : restrict slices_IndexFunc_int64_i_Field_hasc1_l2_L.kp s = s1 at h
 have h : (slices_IndexFunc_int64_i_Field_hasc1_l2_D s1).run some = some (e, s') := h
 obtain ⟨z3, d2, e1, h_0⟩ := asImm_spec h
 obtain ⟨e4, h_1⟩ := asFn_spec h_0
 obtain ⟨d6, e5, h_2⟩ := asImmZ_spec h_1
 obtain ⟨d8, e7, h_3⟩ := asImmZ_spec h_2
 obtain ⟨m10, d11, e9, h_4⟩ := asRoot_spec h_3
 obtain ⟨rfl, h_5⟩ := asM_spec h_4
 obtain ⟨y, hy, hz⟩ := mat_some h_5
 refine ⟨_, _, slices_IndexFunc_int64_i_Field_hasc1_l2_mk z3 d2 d6 d11, slices_IndexFunc_int64_i_Field_hasc1_l2_out z3 d2 d6 d11, slices_IndexFunc_int64_i_Field_hasc1_l2 d2 d6 d11, d8, y, ?_, hy, ?_, slices_IndexFunc_int64_i_Field_hasc1_l2_step z3 d2 d6 d11⟩
 ·subst hs; exact restrict_eq (T := [(0, (.imm z3 (.sl (.int .i64)) d2)), (1, (.fn 159 [(0, 0)])), (7, (.imm true (.int .i64) d6)), (8, (.imm true (.int .i64) d8))]) (U := [((0, 0), some ⟨true, kField, .own, d11⟩)]) rfl rfl ⟨e1, e4, e5, e7, trivial⟩ ⟨e9, trivial⟩
 ·rcases y with x | x <;> exact Option.some.inj hz
noncomputable def slices_IndexFunc_int64_i_Field_hasc1_I : FnI := ⟨slices_IndexFunc_int64_i_Field_hasc1_b, Try.f125.results.toList, Try.f125.resultTypes.toList, slices_IndexFunc_int64_i_Field_hasc1_A⟩
noncomputable def slices_IndexFunc_int64_i_Field_hasc1_out (_zp0 : Bool) (_p0 : (List Int)) (p1 : (Int × (Int × Unit))) : Int → CallOut := fun r => ⟨(.imm true (.int .i64) r), [⟨true, kField, .own, p1⟩], []⟩
set_option maxRecDepth 100000 in
theorem slices_IndexFunc_int64_i_Field_hasc1_eq : ∀ (zp0 : Bool) (p0 : (List Int)) (p1 : (Int × (Int × Unit))), denFn slices_IndexFunc_int64_i_Field_hasc1_V slices_IndexFunc_int64_i_Field_hasc1_I ⟨[(.imm zp0 (.sl (.int .i64)) p0), (.fn 159 [(0, 0)])], [⟨true, kField, .own, p1⟩]⟩ = (slices_IndexFunc_int64_i_Field_hasc1 p0 p1).run fun r => some (slices_IndexFunc_int64_i_Field_hasc1_out zp0 p0 p1 r) := fun _ _ _ => by kernel_rfl
noncomputable def slices_IndexFunc_int64_i_Field_hasc1_G (av : List AV) (rs : List Root) : Tre CallOut :=
 asCons av fun a0_ av0 =>
 asCons av0 fun a1_ av1 =>
 asEnd av1 <|
 asCons rs fun r0_ rs0 =>
 asEnd rs0 <|
 asImm (.sl (.int .i64)) a0_ fun z2 d1 =>
 asFn 159 [(0, 0)] a1_ <|
 asRt true kField r0_ fun m3 d4 =>
 asM .own m3 <|
 .mat (slices_IndexFunc_int64_i_Field_hasc1_F d1 d4) fun r => .ret (slices_IndexFunc_int64_i_Field_hasc1_out z2 d1 d4 r)
noncomputable def slices_IndexFunc_int64_i_Field_hasc1_c : Ctr := ⟨[0], fun ci => slices_IndexFunc_int64_i_Field_hasc1_G ci.args ci.roots, false⟩
theorem slices_IndexFunc_int64_i_Field_hasc1_env : EnvOK Try.prog .none slices_IndexFunc_int64_i_Field_hasc1_V := (envOK_cons i_Field_hasc1_9fd3_ok ent159 envOK_nil)
set_option maxRecDepth 100000 in
theorem slices_IndexFunc_int64_i_Field_hasc1_ok : Contract Try.prog .none 125 slices_IndexFunc_int64_i_Field_hasc1_c := by
 have hl : LoopsOK slices_IndexFunc_int64_i_Field_hasc1_V slices_IndexFunc_int64_i_Field_hasc1_A slices_IndexFunc_int64_i_Field_hasc1_b := (loopsOK_all (n := 1) (by kernel_rfl) fun k hk => by
   match k, hk with
   | 0, _ => exact loopOK_at (id := 2) (L := slices_IndexFunc_int64_i_Field_hasc1_l2_L) (by kernel_rfl) (by kernel_rfl) slices_IndexFunc_int64_i_Field_hasc1_l2_ok)
 refine (contract_of (F := slices_IndexFunc_int64_i_Field_hasc1_I) tau_tys slices_IndexFunc_int64_i_Field_hasc1_env Try.func125 (by kernel_rfl) (by kernel_rfl) (by kernel_rfl) hl [0]).weaken ?_
 rintro ⟨av, rs⟩ co h
 have h : (slices_IndexFunc_int64_i_Field_hasc1_G av rs).run some = some co := h
 obtain ⟨a0_, av0, rfl, h_0⟩ := asCons_spec h
 obtain ⟨a1_, av1, rfl, h_1⟩ := asCons_spec h_0
 obtain ⟨rfl, h_2⟩ := asEnd_spec h_1
 obtain ⟨r0_, rs0, rfl, h_3⟩ := asCons_spec h_2
 obtain ⟨rfl, h_4⟩ := asEnd_spec h_3
 obtain ⟨z2, d1, rfl, h_5⟩ := asImm_spec h_4
 obtain ⟨rfl, h_6⟩ := asFn_spec h_5
 obtain ⟨m3, d4, rfl, h_7⟩ := asRt_spec h_6
 obtain ⟨rfl, h_8⟩ := asM_spec h_7
 exact fin_mat (slices_IndexFunc_int64_i_Field_hasc1_eq z2 d1 d4) h_8
end Go.Proofs.Ytldafhnnnabipaa

namespace Go.Proofs.Ytldafhnnnabipaa
open Go Go.Abs Go.Proofs
noncomputable def slices_ContainsFunc_int64_i_Field_hasc1 (p0 : (List Int)) (p1 : (Int × (Int × Unit))) : Tre Bool :=
 .mat (slices_IndexFunc_int64_i_Field_hasc1_F p0 p1) fun r1 =>
 .ret (decide (r1 ≥ 0))
noncomputable def slices_ContainsFunc_int64_i_Field_hasc1_F (p0 : (List Int)) (p1 : (Int × (Int × Unit))) : Option Bool := (slices_ContainsFunc_int64_i_Field_hasc1 p0 p1).run some
noncomputable def slices_ContainsFunc_int64_i_Field_hasc1_V : Env := ⟨tau, [(125, slices_IndexFunc_int64_i_Field_hasc1_c)], []⟩
noncomputable def slices_ContainsFunc_int64_i_Field_hasc1_b : Code := (Try.f55.body).getD .skip
noncomputable def slices_ContainsFunc_int64_i_Field_hasc1_I : FnI := ⟨slices_ContainsFunc_int64_i_Field_hasc1_b, Try.f55.results.toList, Try.f55.resultTypes.toList, []⟩
noncomputable def slices_ContainsFunc_int64_i_Field_hasc1_out (_zp0 : Bool) (_p0 : (List Int)) (p1 : (Int × (Int × Unit))) : Bool → CallOut := fun r => ⟨(.imm true .bool r), [⟨true, kField, .own, p1⟩], []⟩
set_option maxRecDepth 100000 in
theorem slices_ContainsFunc_int64_i_Field_hasc1_eq : ∀ (zp0 : Bool) (p0 : (List Int)) (p1 : (Int × (Int × Unit))), denFn slices_ContainsFunc_int64_i_Field_hasc1_V slices_ContainsFunc_int64_i_Field_hasc1_I ⟨[(.imm zp0 (.sl (.int .i64)) p0), (.fn 159 [(0, 0)])], [⟨true, kField, .own, p1⟩]⟩ = (slices_ContainsFunc_int64_i_Field_hasc1 p0 p1).run fun r => some (slices_ContainsFunc_int64_i_Field_hasc1_out zp0 p0 p1 r) := fun _ _ _ => by kernel_rfl
noncomputable def slices_ContainsFunc_int64_i_Field_hasc1_G (av : List AV) (rs : List Root) : Tre CallOut :=
 asCons av fun a0_ av0 =>
 asCons av0 fun a1_ av1 =>
 asEnd av1 <|
 asCons rs fun r0_ rs0 =>
 asEnd rs0 <|
 asImm (.sl (.int .i64)) a0_ fun z2 d1 =>
 asFn 159 [(0, 0)] a1_ <|
 asRt true kField r0_ fun m3 d4 =>
 asM .own m3 <|
 .mat (slices_ContainsFunc_int64_i_Field_hasc1_F d1 d4) fun r => .ret (slices_ContainsFunc_int64_i_Field_hasc1_out z2 d1 d4 r)
noncomputable def slices_ContainsFunc_int64_i_Field_hasc1_c : Ctr := ⟨[0], fun ci => slices_ContainsFunc_int64_i_Field_hasc1_G ci.args ci.roots, false⟩
theorem slices_ContainsFunc_int64_i_Field_hasc1_env : EnvOK Try.prog .none slices_ContainsFunc_int64_i_Field_hasc1_V := (envOK_cons slices_IndexFunc_int64_i_Field_hasc1_ok ent125 envOK_nil)
set_option maxRecDepth 100000 in
theorem slices_ContainsFunc_int64_i_Field_hasc1_ok : Contract Try.prog .none 55 slices_ContainsFunc_int64_i_Field_hasc1_c := by
 have hl : LoopsOK slices_ContainsFunc_int64_i_Field_hasc1_V [] slices_ContainsFunc_int64_i_Field_hasc1_b := loopsOK_nil (by kernel_rfl)
 refine (contract_of (F := slices_ContainsFunc_int64_i_Field_hasc1_I) tau_tys slices_ContainsFunc_int64_i_Field_hasc1_env Try.func55 (by kernel_rfl) (by kernel_rfl) (by kernel_rfl) hl [0]).weaken ?_
 rintro ⟨av, rs⟩ co h
 have h : (slices_ContainsFunc_int64_i_Field_hasc1_G av rs).run some = some co := h
 obtain ⟨a0_, av0, rfl, h_0⟩ := asCons_spec h
 obtain ⟨a1_, av1, rfl, h_1⟩ := asCons_spec h_0
 obtain ⟨rfl, h_2⟩ := asEnd_spec h_1
 obtain ⟨r0_, rs0, rfl, h_3⟩ := asCons_spec h_2
 obtain ⟨rfl, h_4⟩ := asEnd_spec h_3
 obtain ⟨z2, d1, rfl, h_5⟩ := asImm_spec h_4
 obtain ⟨rfl, h_6⟩ := asFn_spec h_5
 obtain ⟨m3, d4, rfl, h_7⟩ := asRt_spec h_6
 obtain ⟨rfl, h_8⟩ := asM_spec h_7
 exact fin_mat (slices_ContainsFunc_int64_i_Field_hasc1_eq z2 d1 d4) h_8
end Go.Proofs.Ytldafhnnnabipaa

namespace Go.Proofs.Ytldafhnnnabipaa
open Go Go.Abs Go.Proofs
noncomputable def i_Field_has (p0 : (Int × (Int × Unit))) (p1 : (List Int)) : Tre Bool :=
 .mat (slices_ContainsFunc_int64_i_Field_hasc1_F p1 p0) fun r1 =>
 .ret (!r1)
noncomputable def i_Field_has_F (p0 : (Int × (Int × Unit))) (p1 : (List Int)) : Option Bool := (i_Field_has p0 p1).run some
-- more
theorem i_Field_hasc1_is {f : TF3} (hf : fieldOk f = true) (x : Int) : i_Field_hasc1_9fd3_F x f = some (!inR x 0 (topF f)) := by
 have := fieldOk_deg hf
 have h1 : i_Field_count_F f = some (ishl .i64 1 f.1) := by
  unfold i_Field_count_F i_Field_count
  rw [Tre.run_ite, if_pos (by omega)]
  rfl
 unfold i_Field_hasc1_9fd3_F i_Field_hasc1_9fd3
 rw [run_some_mat h1, topF_is' hf]
 rfl
theorem i_Field_has_is {f : TF3} (hf : fieldOk f = true) (c : List Int) (hc : c.length < 4611686018427387904) : i_Field_has_F f c = some (elsOk f c) := by
 have h1 : slices_IndexFunc_int64_i_Field_hasc1_F c f = some (idxI (fun x => !inR x 0 (topF f)) 0 c) := by
  unfold slices_IndexFunc_int64_i_Field_hasc1_F slices_IndexFunc_int64_i_Field_hasc1
  rw [Tre.run_mat, find_loop (xs := c) (fun i x => cond (!inR x 0 (topF f)) (some (.inl (i : Int))) none) (.inr ())]
  ·rw [Option.bind_some, ← findE_idx (p := fun x => !inR x 0 (topF f))]
   generalize findE _ _ _ _ = r
   cases r <;> rfl
  ·intro i x hx
   have hi : i < c.length := (List.getElem?_eq_some_iff.1 hx).1
   unfold slices_IndexFunc_int64_i_Field_hasc1_l2
   rw [run_inb hx, run_some_mat (i_Field_hasc1_is hf x), Tre.run_cond]
   cases inR x 0 (topF f)
   ·rfl
   ·simp only [Bool.not_true, cond_false, Tre.run_ret, iwrap_succ (show i < 4611686018427387904 by omega)]
  ·unfold slices_IndexFunc_int64_i_Field_hasc1_l2
   exact run_out
 have h2 : slices_ContainsFunc_int64_i_Field_hasc1_F c f = some (decide (idxI (fun x => !inR x 0 (topF f)) 0 c ≥ 0)) := by
  unfold slices_ContainsFunc_int64_i_Field_hasc1_F slices_ContainsFunc_int64_i_Field_hasc1
  rw [run_some_mat h1]
  rfl
 unfold i_Field_has_F i_Field_has elsOk
 rw [run_some_mat h2, ← idxI_all (p := fun x => inR x 0 (topF f))]
 rfl
noncomputable def i_Field_has_V : Env := ⟨tau, [(55, slices_ContainsFunc_int64_i_Field_hasc1_c)], []⟩
noncomputable def i_Field_has_b : Code := (Try.f98.body).getD .skip
noncomputable def i_Field_has_I : FnI := ⟨i_Field_has_b, Try.f98.results.toList, Try.f98.resultTypes.toList, []⟩
noncomputable def i_Field_has_out (_zp0 : Bool) (_p0 : (Int × (Int × Unit))) (_p1 : (List Int)) : Bool → CallOut := fun r => ⟨(.imm true .bool r), [], []⟩
set_option maxRecDepth 100000 in
theorem i_Field_has_eq : ∀ (zp0 : Bool) (p0 : (Int × (Int × Unit))) (p1 : (List Int)), denFn i_Field_has_V i_Field_has_I ⟨[(.imm true kField p0), (.imm zp0 (.sl (.int .i64)) p1)], []⟩ = (i_Field_has p0 p1).run fun r => some (i_Field_has_out zp0 p0 p1 r) := fun _ _ _ => by kernel_rfl
noncomputable def i_Field_has_G (av : List AV) (rs : List Root) : Tre CallOut :=
 asCons av fun a0_ av0 =>
 asCons av0 fun a1_ av1 =>
 asEnd av1 <|
 asEnd rs <|
 asImmZ true kField a0_ fun d1 =>
 asImm (.sl (.int .i64)) a1_ fun z3 d2 =>
 .mat (i_Field_has_F d1 d2) fun r => .ret (i_Field_has_out z3 d1 d2 r)
noncomputable def i_Field_has_c : Ctr := ⟨[], fun ci => i_Field_has_G ci.args ci.roots, false⟩
theorem i_Field_has_env : EnvOK Try.prog .none i_Field_has_V := (envOK_cons slices_ContainsFunc_int64_i_Field_hasc1_ok ent55 envOK_nil)
set_option maxRecDepth 100000 in
theorem i_Field_has_ok : Contract Try.prog .none 98 i_Field_has_c := by
 have hl : LoopsOK i_Field_has_V [] i_Field_has_b := loopsOK_nil (by kernel_rfl)
 refine (contract_of (F := i_Field_has_I) tau_tys i_Field_has_env Try.func98 (by kernel_rfl) (by kernel_rfl) (by kernel_rfl) hl []).weaken ?_
 rintro ⟨av, rs⟩ co h
 have h : (i_Field_has_G av rs).run some = some co := h
 obtain ⟨a0_, av0, rfl, h_0⟩ := asCons_spec h
 obtain ⟨a1_, av1, rfl, h_1⟩ := asCons_spec h_0
 obtain ⟨rfl, h_2⟩ := asEnd_spec h_1
 obtain ⟨rfl, h_3⟩ := asEnd_spec h_2
 obtain ⟨d1, rfl, h_4⟩ := asImmZ_spec h_3
 obtain ⟨z3, d2, rfl, h_5⟩ := asImm_spec h_4
 exact fin_mat (i_Field_has_eq z3 d1 d2) h_5
end Go.Proofs.Ytldafhnnnabipaa

namespace Go.Proofs.Ytldafhnnnabipaa
open Go Go.Abs Go.Proofs
noncomputable def i_ValidNet_l4 (h4_0_0 : (List (List Int))) (h4_0_1 : Int) (h4_0_3 : TNet) : Int → Tre (Int ⊕ (Bool ⊕ Unit)) := fun s4 =>
 .cond (decide (s4 < h4_0_1))
  (.ite (0 ≤ s4 ∧ s4 < (h4_0_0.length : Int)) <|
  .mat (h4_0_0[s4.toNat]?) fun x2 =>
  .cond (!decide ((x2.length : Int) = 2))
   (.ret (.inr (.inl false)))
   (.ite ((0 : Int) ≤ 0 ∧ (0 : Int) < (x2.length : Int)) <|
   .mat (x2[0]?) fun x3 =>
   .cond (!(i_Net_isNode_S h4_0_3 x3))
    (.ret (.inr (.inl false)))
    (.ite ((0 : Int) ≤ 1 ∧ (1 : Int) < (x2.length : Int)) <|
    .mat (x2[1]?) fun x4 =>
    .cond (!(i_Net_isNode_S h4_0_3 x4))
     (.ret (.inr (.inl false)))
     (.ite ((0 : Int) ≤ 0 ∧ (0 : Int) < (x2.length : Int)) <|
     .mat (x2[0]?) fun x5 =>
     .ite ((0 : Int) ≤ 1 ∧ (1 : Int) < (x2.length : Int)) <|
     .mat (x2[1]?) fun x6 =>
     .cond (decide (x5 ≥ x6))
      (.ret (.inr (.inl false)))
      (.cond (decide (s4 > 0))
       (.ite ((0 : Int) ≤ 0 ∧ (0 : Int) < (x2.length : Int)) <|
       .mat (x2[0]?) fun x7 =>
       .ite (0 ≤ iwrap .i64 (s4 - 1) ∧ iwrap .i64 (s4 - 1) < (h4_0_3.2.2.2.1.length : Int)) <|
       .mat (h4_0_3.2.2.2.1[(iwrap .i64 (s4 - 1)).toNat]?) fun x8 =>
       .ite ((0 : Int) ≤ 0 ∧ (0 : Int) < (x8.length : Int)) <|
       .mat (x8[0]?) fun x9 =>
       .cond (decide (x7 < x9))
        (.ret (.inr (.inl false)))
        (.ret (.inl (iwrap .i64 (s4 + 1)))))
       (.ret (.inl (iwrap .i64 (s4 + 1)))))))))
  (.ret (.inr (.inr ())))
noncomputable def i_ValidNet_l10 (h10_0_0 : (List (List Int))) (h10_0_1 : Int) (h10_0_3 : TNet) : Int → Tre (Int ⊕ (Bool ⊕ Unit)) := fun s10 =>
 .cond (decide (s10 < h10_0_1))
  (.ite (0 ≤ s10 ∧ s10 < (h10_0_0.length : Int)) <|
  .mat (h10_0_0[s10.toNat]?) fun x13 =>
  .ite (0 ≤ s10 ∧ s10 < (h10_0_3.2.2.2.1.length : Int)) <|
  .mat (h10_0_3.2.2.2.1[s10.toNat]?) fun x14 =>
  .ite ((0 : Int) ≤ 0 ∧ (0 : Int) < (x14.length : Int)) <|
  .mat (x14[0]?) fun x15 =>
  .mat (i_Net_has_F h10_0_3 x15) fun r16 =>
  .cond (!decide ((x13.length : Int) = r16))
   (.ret (.inr (.inl false)))
   (.mat (i_Field_has_F h10_0_3.1 x13) fun r17 =>
   .cond (!r17)
    (.ret (.inr (.inl false)))
    (.ret (.inl (iwrap .i64 (s10 + 1))))))
  (.ret (.inr (.inr ())))
noncomputable def i_ValidNet (p0 : TNet) : Tre Bool :=
 .mat (i_ValidField_F p0.1) fun r1 =>
 .cond (!r1)
  (.ret false)
  (.cond (!(inR p0.2.1 2 8))
   (.ret false)
   (.cond (!(inR p0.2.2.1 1 3))
    (.ret false)
    (.cond (decide ((p0.2.2.2.1.length : Int) > 14))
     (.ret false)
     (.cond (!decide ((p0.2.2.2.2.1.length : Int) = (p0.2.2.2.1.length : Int)))
      (.ret false)
      (.mat (loopF (i_ValidNet_l4 p0.2.2.2.1 (p0.2.2.2.1.length : Int) p0) 0) fun l10 =>
      .alt l10
       (fun a11 =>
        .ret a11)
       (fun _ =>
        .mat (loopF (i_ValidNet_l10 p0.2.2.2.2.1 (p0.2.2.2.2.1.length : Int) p0) 0) fun l18 =>
        .alt l18
         (fun a19 =>
          .ret a19)
         (fun _ =>
          .ret true)))))))
noncomputable def i_ValidNet_F (p0 : TNet) : Option Bool := (i_ValidNet p0).run some
-- more
theorem i_ValidNet_edges (n : TN6) (hN : 2 ≤ n.2.1 ∧ n.2.1 ≤ 8) (hl : n.2.2.2.1.length ≤ 14) : loopF (i_ValidNet_l4 n.2.2.2.1 (n.2.2.2.1.length : Int) n) 0 = some (cond (allI (edgeOk n.2.1 n.2.2.2.1) 0 n.2.2.2.1) (.inr ()) (.inl false)) := by
 refine all_loop (β := Bool ⊕ Unit) (edgeOk n.2.1 n.2.2.2.1) (.inl false) (.inr ()) ?_ ?_
 ·intro i e he hp
  have hi : i < n.2.2.2.1.length := (List.getElem?_eq_some_iff.1 he).1
  unfold i_ValidNet_l4
  rw [run_inb he, Tre.run_cond]
  by_cases h2 : e.length = 2
  case neg =>
   rw [decide_eq_false (by omega), show edgeOk n.2.1 n.2.2.2.1 i e = false from by unfold edgeOk; rw [decide_eq_false h2]; rfl]
   rfl
  obtain ⟨a, b, rfl⟩ := len2 h2
  rw [show (!decide ((([a, b] : List Int).length : Int) = 2)) = false from rfl, cond_false]
  have k0 : ∀ (k : Int → Tre (Int ⊕ (Bool ⊕ Unit))), (Tre.ite ((0 : Int) ≤ 0 ∧ (0 : Int) < (([a, b] : List Int).length : Int)) (.mat ([a, b] : List Int)[0]? k)).run some = (k a).run some := fun k => by rw [Tre.run_ite, if_pos ⟨by decide, by simp⟩]; rfl
  have k1 : ∀ (k : Int → Tre (Int ⊕ (Bool ⊕ Unit))), (Tre.ite ((0 : Int) ≤ 1 ∧ (1 : Int) < (([a, b] : List Int).length : Int)) (.mat ([a, b] : List Int)[1]? k)).run some = (k b).run some := fun k => by rw [Tre.run_ite, if_pos ⟨by decide, by simp⟩]; rfl
  rw [show edgeOk n.2.1 n.2.2.2.1 i [a, b] = (inR a 0 (n.2.1 - 1) && (inR b 0 (n.2.1 - 1) && (decide (a < b) && (decide (i = 0) || decide (e0 (n.2.2.2.1.getD (i - 1) []) ≤ a))))) from by
   show (true && ((inR a 0 (n.2.1 - 1) && (inR b 0 (n.2.1 - 1) && decide (a < b))) && (decide (i = 0) || decide (e0 (n.2.2.2.1.getD (i - 1) []) ≤ a)))) = _
   rw [Bool.true_and, Bool.and_assoc, Bool.and_assoc]]
  have hS : ∀ x, i_Net_isNode_S n x = inR x 0 (n.2.1 - 1) := fun x => by unfold i_Net_isNode_S; dsimp only; rw [iwrap_i64 (by omega) (by omega)]
  rw [k0, Tre.run_cond, hS]
  cases inR a 0 (n.2.1 - 1)
  ·rfl
  rw [Bool.not_true, cond_false, k1, Tre.run_cond, hS, Bool.true_and]
  cases inR b 0 (n.2.1 - 1)
  ·rfl
  rw [Bool.not_true, cond_false, k0, k1, Tre.run_cond, Bool.true_and]
  by_cases hab : a < b
  case neg => rw [decide_eq_true (by omega), decide_eq_false hab]; rfl
  rw [decide_eq_false (by omega), decide_eq_true hab, cond_false, Tre.run_cond, Bool.true_and]
  by_cases h0 : i = 0
  ·subst h0; rfl
  obtain ⟨q, hq⟩ : ∃ q, n.2.2.2.1[i - 1]? = some q := ⟨_, List.getElem?_eq_getElem (by omega)⟩
  obtain ⟨c, d, rfl⟩ := len2 (edgeOk_len (hp (i - 1) q (by omega) hq))
  rw [decide_eq_true (by omega), cond_true, k0, iwrap_pred (by omega) (by omega), run_at hq, Tre.run_ite, if_pos ⟨by decide, by simp⟩, Tre.run_mat]
  simp only [List.getElem?_cons_zero, Option.bind_some]
  rw [Tre.run_cond, getD_of hq, decide_eq_false h0, Bool.false_or, show e0 [c, d] = c from rfl]
  by_cases h3 : c ≤ a
  ·rw [decide_eq_false (by omega), decide_eq_true h3, cond_false, cond_true, Tre.run_ret, iwrap_succ (by omega)]
  ·rw [decide_eq_true (by omega), decide_eq_false h3]; rfl
 ·unfold i_ValidNet_l4
  exact run_out
theorem i_ValidNet_coefs (n : TN6) (hf : fieldOk n.1 = true) (hM : n.2.2.1 ≤ 3) (hl : n.2.2.2.1.length ≤ 14) (hc : n.2.2.2.2.1.length = n.2.2.2.1.length) (h2 : ∀ e ∈ n.2.2.2.1, e.length = 2) : loopF (i_ValidNet_l10 n.2.2.2.2.1 (n.2.2.2.2.1.length : Int) n) 0 = some (cond (allI (coefOk n) 0 n.2.2.2.2.1) (.inr ()) (.inl false)) := by
 refine all_loop (β := Bool ⊕ Unit) (coefOk n) (.inl false) (.inr ()) ?_ ?_
 ·intro i x hx _
  have hi : i < n.2.2.2.2.1.length := (List.getElem?_eq_some_iff.1 hx).1
  obtain ⟨e, he⟩ : ∃ e, n.2.2.2.1[i]? = some e := ⟨_, List.getElem?_eq_getElem (by omega)⟩
  obtain ⟨a, b, rfl⟩ := len2 (h2 e (List.mem_of_getElem? he))
  unfold i_ValidNet_l10 coefOk
  rw [getD_of he, show e0 [a, b] = a from rfl, run_inb hx, run_at he, Tre.run_ite, if_pos ⟨by decide, by simp⟩, Tre.run_mat]
  simp only [List.getElem?_cons_zero, Option.bind_some]
  rw [run_some_mat (i_Net_has_is n hl h2 a), Tre.run_cond]
  by_cases h : (x.length : Int) = hasV n a
  ·rw [decide_eq_true h, Bool.not_true, cond_false, run_some_mat (i_Field_has_is hf x ?_), Tre.run_cond]
   ·cases elsOk n.1 x
    ·rfl
    ·simp only [Bool.not_true, Bool.true_and, cond_false, cond_true, Tre.run_ret, iwrap_succ (show i < 4611686018427387904 by omega)]
   ·have := hasV_le n hM hl a; omega
  ·rw [decide_eq_false h]; rfl
 ·unfold i_ValidNet_l10
  exact run_out
theorem i_ValidNet_is (n : TN6) : i_ValidNet_F n = some (netOk n) := by
 unfold i_ValidNet_F i_ValidNet netOk
 rw [run_some_mat (i_ValidField_is n.1), Tre.run_cond]
 cases hf : fieldOk n.1
 ·rfl
 rw [Bool.not_true, cond_false, Tre.run_cond, Bool.true_and]
 cases hN : inR n.2.1 2 8
 ·rfl
 rw [Bool.not_true, cond_false, Tre.run_cond, Bool.true_and]
 cases hM : inR n.2.2.1 1 3
 ·rfl
 rw [Bool.not_true, cond_false, Tre.run_cond, Bool.true_and]
 by_cases hl : n.2.2.2.1.length ≤ 14
 case neg => rw [decide_eq_true (by omega), decide_eq_false hl]; rfl
 rw [decide_eq_false (by omega), decide_eq_true hl, cond_false, Tre.run_cond, Bool.true_and]
 by_cases hc : n.2.2.2.2.1.length = n.2.2.2.1.length
 case neg => rw [decide_eq_false (by omega), decide_eq_false hc]; rfl
 rw [decide_eq_true (by omega), decide_eq_true hc, Bool.not_true, cond_false, run_some_mat (i_ValidNet_edges n (inR_iff.1 hN) hl), Bool.true_and]
 cases he : allI (edgeOk n.2.1 n.2.2.2.1) 0 n.2.2.2.1
 ·rfl
 rw [cond_true, Tre.run_inr, run_some_mat (i_ValidNet_coefs n hf (inR_iff.1 hM).2 hl hc ?_)]
 ·cases allI (coefOk n) 0 n.2.2.2.2.1 <;> rfl
 ·intro e hm
  obtain ⟨i, hi⟩ := List.mem_iff_getElem?.1 hm
  have := (allI_iff _ 0).1 he i e hi
  rw [Nat.zero_add] at this
  exact edgeOk_len this
noncomputable def i_ValidNet_V : Env := ⟨tau, [(150, i_ValidField_c), (57, i_within_c), (176, i_Net_isNode_c), (163, i_size_int64_c), (214, i_Net_has_c), (98, i_Field_has_c)], []⟩
noncomputable def i_ValidNet_b : Code := (Try.f175.body).getD .skip
noncomputable def i_ValidNet_l4_mk (z4_0 : Bool) (z4_1 : Bool) (h4_0_0 : (List (List Int))) (h4_0_1 : Int) (h4_0_3 : TNet) : Int → St := fun x => stOf [(1, (.ptr (3, 0) [])), (39, (.imm z4_0 (.sl (.sl (.int .i64))) h4_0_0)), (40, (.imm true (.int .i64) h4_0_1)), (41, (.imm true (.int .i64) x))] [((3, 0), some ⟨true, kNet, (.imm z4_1), h4_0_3⟩)]
noncomputable def i_ValidNet_l4_out (_z4_0 : Bool) (z4_1 : Bool) (_h4_0_0 : (List (List Int))) (_h4_0_1 : Int) (h4_0_3 : TNet) : (Bool ⊕ Unit) → Ex × St
 | .inl x => (.ret, stOf [(1, (.ptr (3, 0) [])), (2, (.imm true .bool x))] [((3, 0), some ⟨true, kNet, (.imm z4_1), h4_0_3⟩)])
 | .inr x => (.exit 0, stOf [(1, (.ptr (3, 0) [])), (2, .dead)] [((3, 0), some ⟨true, kNet, (.imm z4_1), h4_0_3⟩)])
noncomputable def i_ValidNet_l4_D (s : St) : Tre (Ex × St) :=
 asPtr (3, 0) [] (s.tmps 1) <|
 asImm (.sl (.sl (.int .i64))) (s.tmps 39) fun z4 d3 =>
 asImmZ true (.int .i64) (s.tmps 40) fun d6 =>
 asImmZ true (.int .i64) (s.tmps 41) fun d8 =>
 asRoot true kNet (s.roots (3, 0)) fun m10 d11 =>
 asMImm m10 fun z12 =>
 .mat (loopF (i_ValidNet_l4 d3 d6 d11) d8) fun x => .alt x (fun a0 => .ret (i_ValidNet_l4_out z4 z12 d3 d6 d11 (.inl a0))) (fun b0 => .ret (i_ValidNet_l4_out z4 z12 d3 d6 d11 (.inr b0)))
noncomputable def i_ValidNet_l4_L : LoopI := ⟨([1, 39, 40, 41], [(3, 0)]), ([1, 2], [(3, 0)]), i_ValidNet_l4_D⟩
noncomputable def i_ValidNet_l10_mk (z10_0 : Bool) (z10_1 : Bool) (h10_0_0 : (List (List Int))) (h10_0_1 : Int) (h10_0_3 : TNet) : Int → St := fun x => stOf [(1, (.ptr (3, 0) [])), (94, (.imm z10_0 (.sl (.sl (.int .i64))) h10_0_0)), (95, (.imm true (.int .i64) h10_0_1)), (96, (.imm true (.int .i64) x))] [((3, 0), some ⟨true, kNet, (.imm z10_1), h10_0_3⟩)]
noncomputable def i_ValidNet_l10_out (_z10_0 : Bool) (_z10_1 : Bool) (_h10_0_0 : (List (List Int))) (_h10_0_1 : Int) (_h10_0_3 : TNet) : (Bool ⊕ Unit) → Ex × St
 | .inl x => (.ret, stOf [(2, (.imm true .bool x))] [])
 | .inr x => (.exit 2, stOf [(2, .dead)] [])
noncomputable def i_ValidNet_l10_D (s : St) : Tre (Ex × St) :=
 asPtr (3, 0) [] (s.tmps 1) <|
 asImm (.sl (.sl (.int .i64))) (s.tmps 94) fun z4 d3 =>
 asImmZ true (.int .i64) (s.tmps 95) fun d6 =>
 asImmZ true (.int .i64) (s.tmps 96) fun d8 =>
 asRoot true kNet (s.roots (3, 0)) fun m10 d11 =>
 asMImm m10 fun z12 =>
 .mat (loopF (i_ValidNet_l10 d3 d6 d11) d8) fun x => .alt x (fun a0 => .ret (i_ValidNet_l10_out z4 z12 d3 d6 d11 (.inl a0))) (fun b0 => .ret (i_ValidNet_l10_out z4 z12 d3 d6 d11 (.inr b0)))
noncomputable def i_ValidNet_l10_L : LoopI := ⟨([1, 94, 95, 96], [(3, 0)]), ([2], []), i_ValidNet_l10_D⟩
noncomputable def i_ValidNet_A : List (Nat × LoopI) := [(4, i_ValidNet_l4_L), (10, i_ValidNet_l10_L)]
set_option maxRecDepth 100000 in
theorem i_ValidNet_l4_step : ∀ (z4_0 : Bool) (z4_1 : Bool) (h4_0_0 : (List (List Int))) (h4_0_1 : Int) (h4_0_3 : TNet) (x : Int) (c : St → Option (Ex × St)), den i_ValidNet_V i_ValidNet_A (loopAt i_ValidNet_b 0) (i_ValidNet_l4_mk z4_0 z4_1 h4_0_0 h4_0_1 h4_0_3 x) (roundK i_ValidNet_l4_L.kp i_ValidNet_l4_L.kx c) = (i_ValidNet_l4 h4_0_0 h4_0_1 h4_0_3 x).run (roundR (i_ValidNet_l4_mk z4_0 z4_1 h4_0_0 h4_0_1 h4_0_3) (i_ValidNet_l4_out z4_0 z4_1 h4_0_0 h4_0_1 h4_0_3) c) := fun _ _ _ _ _ _ _ => by
 kernel_rfl
theorem i_ValidNet_l4_ok : LoopOK i_ValidNet_V i_ValidNet_A (loopAt i_ValidNet_b 0) i_ValidNet_l4_L := loopOK_of fun s e s' h => by
 generalize hs : restrict i_ValidNet_l4_L.kp s = s1 at h
 have h : (i_ValidNet_l4_D s1).run some = some (e, s') := h
 obtain ⟨e1, h_0⟩ := asPtr_spec h
 obtain ⟨z4, d3, e2, h_1⟩ := asImm_spec h_0
 obtain ⟨d6, e5, h_2⟩ := asImmZ_spec h_1
 obtain ⟨d8, e7, h_3⟩ := asImmZ_spec h_2
 obtain ⟨m10, d11, e9, h_4⟩ := asRoot_spec h_3
 obtain ⟨z12, rfl, h_5⟩ := asMImm_spec h_4
 obtain ⟨y, hy, hz⟩ := mat_some h_5
 refine ⟨_, _, i_ValidNet_l4_mk z4 z12 d3 d6 d11, i_ValidNet_l4_out z4 z12 d3 d6 d11, i_ValidNet_l4 d3 d6 d11, d8, y, ?_, hy, ?_, i_ValidNet_l4_step z4 z12 d3 d6 d11⟩
 ·subst hs; exact restrict_eq (T := [(1, (.ptr (3, 0) [])), (39, (.imm z4 (.sl (.sl (.int .i64))) d3)), (40, (.imm true (.int .i64) d6)), (41, (.imm true (.int .i64) d8))]) (U := [((3, 0), some ⟨true, kNet, (.imm z12), d11⟩)]) rfl rfl ⟨e1, e2, e5, e7, trivial⟩ ⟨e9, trivial⟩
 ·rcases y with x | x <;> exact Option.some.inj hz
set_option maxRecDepth 100000 in
theorem i_ValidNet_l10_step : ∀ (z10_0 : Bool) (z10_1 : Bool) (h10_0_0 : (List (List Int))) (h10_0_1 : Int) (h10_0_3 : TNet) (x : Int) (c : St → Option (Ex × St)), den i_ValidNet_V i_ValidNet_A (loopAt i_ValidNet_b 1) (i_ValidNet_l10_mk z10_0 z10_1 h10_0_0 h10_0_1 h10_0_3 x) (roundK i_ValidNet_l10_L.kp i_ValidNet_l10_L.kx c) = (i_ValidNet_l10 h10_0_0 h10_0_1 h10_0_3 x).run (roundR (i_ValidNet_l10_mk z10_0 z10_1 h10_0_0 h10_0_1 h10_0_3) (i_ValidNet_l10_out z10_0 z10_1 h10_0_0 h10_0_1 h10_0_3) c) := fun _ _ _ _ _ _ _ => by
 kernel_rfl
theorem i_ValidNet_l10_ok : LoopOK i_ValidNet_V i_ValidNet_A (loopAt i_ValidNet_b 1) i_ValidNet_l10_L := loopOK_of fun s e s' h => by
 generalize hs : restrict i_ValidNet_l10_L.kp s = s1 at h
 have h : (i_ValidNet_l10_D s1).run some = some (e, s') := h
 obtain ⟨e1, h_0⟩ := asPtr_spec h
 obtain ⟨z4, d3, e2, h_1⟩ := asImm_spec h_0
 obtain ⟨d6, e5, h_2⟩ := asImmZ_spec h_1
 obtain ⟨d8, e7, h_3⟩ := asImmZ_spec h_2
 obtain ⟨m10, d11, e9, h_4⟩ := asRoot_spec h_3
 obtain ⟨z12, rfl, h_5⟩ := asMImm_spec h_4
 obtain ⟨y, hy, hz⟩ := mat_some h_5
 refine ⟨_, _, i_ValidNet_l10_mk z4 z12 d3 d6 d11, i_ValidNet_l10_out z4 z12 d3 d6 d11, i_ValidNet_l10 d3 d6 d11, d8, y, ?_, hy, ?_, i_ValidNet_l10_step z4 z12 d3 d6 d11⟩
 ·subst hs; exact restrict_eq (T := [(1, (.ptr (3, 0) [])), (94, (.imm z4 (.sl (.sl (.int .i64))) d3)), (95, (.imm true (.int .i64) d6)), (96, (.imm true (.int .i64) d8))]) (U := [((3, 0), some ⟨true, kNet, (.imm z12), d11⟩)]) rfl rfl ⟨e1, e2, e5, e7, trivial⟩ ⟨e9, trivial⟩
 ·rcases y with x | x <;> exact Option.some.inj hz
noncomputable def i_ValidNet_I : FnI := ⟨i_ValidNet_b, Try.f175.results.toList, Try.f175.resultTypes.toList, i_ValidNet_A⟩
noncomputable def i_ValidNet_out (_zp0 : Bool) (_p0 : TNet) : Bool → CallOut := fun r => ⟨(.imm true .bool r), [], []⟩
set_option maxRecDepth 100000 in
theorem i_ValidNet_eq : ∀ (zp0 : Bool) (p0 : TNet), denFn i_ValidNet_V i_ValidNet_I ⟨[(.imm zp0 kNet p0)], []⟩ = (i_ValidNet p0).run fun r => some (i_ValidNet_out zp0 p0 r) := fun _ _ => by kernel_rfl
noncomputable def i_ValidNet_G (av : List AV) (rs : List Root) : Tre CallOut :=
 asCons av fun a0_ av0 =>
 asEnd av0 <|
 asEnd rs <|
 asImm kNet a0_ fun z2 d1 =>
 .mat (i_ValidNet_F d1) fun r => .ret (i_ValidNet_out z2 d1 r)
noncomputable def i_ValidNet_c : Ctr := ⟨[], fun ci => i_ValidNet_G ci.args ci.roots, false⟩
theorem i_ValidNet_env : EnvOK Try.prog .none i_ValidNet_V := (envOK_cons i_ValidField_ok ent150 (envOK_cons i_within_ok ent57 (envOK_cons i_Net_isNode_ok ent176 (envOK_cons i_size_int64_ok ent163 (envOK_cons i_Net_has_ok ent214 (envOK_cons i_Field_has_ok ent98 envOK_nil))))))
set_option maxRecDepth 100000 in
theorem i_ValidNet_ok : Contract Try.prog .none 175 i_ValidNet_c := by
 have hl : LoopsOK i_ValidNet_V i_ValidNet_A i_ValidNet_b := (loopsOK_all (n := 2) (by kernel_rfl) fun k hk => by
   match k, hk with
   | 0, _ => exact loopOK_at (id := 4) (L := i_ValidNet_l4_L) (by kernel_rfl) (by kernel_rfl) i_ValidNet_l4_ok
   | 1, _ => exact loopOK_at (id := 10) (L := i_ValidNet_l10_L) (by kernel_rfl) (by kernel_rfl) i_ValidNet_l10_ok)
 refine (contract_of (F := i_ValidNet_I) tau_tys i_ValidNet_env Try.func175 (by kernel_rfl) (by kernel_rfl) (by kernel_rfl) hl []).weaken ?_
 rintro ⟨av, rs⟩ co h
 have h : (i_ValidNet_G av rs).run some = some co := h
 obtain ⟨a0_, av0, rfl, h_0⟩ := asCons_spec h
 obtain ⟨rfl, h_1⟩ := asEnd_spec h_0
 obtain ⟨rfl, h_2⟩ := asEnd_spec h_1
 obtain ⟨z2, d1, rfl, h_3⟩ := asImm_spec h_2
 exact fin_mat (i_ValidNet_eq z2 d1) h_3
end Go.Proofs.Ytldafhnnnabipaa

namespace Go.Proofs.Ytldafhnnnabipaa
open Go Go.Abs Go.Proofs
noncomputable def i_size_int64S (p0 : (List (List Int))) : Tre Int :=
 .ret (p0.length : Int)
noncomputable def i_size_int64S_F (p0 : (List (List Int))) : Option Int := (i_size_int64S p0).run some
theorem i_size_int64S_spec (p0 : (List (List Int))) : i_size_int64S_F p0 = some (p0.length : Int) := rfl
noncomputable def i_size_int64S_V : Env := ⟨tau, [], []⟩
noncomputable def i_size_int64S_b : Code := (Try.f58.body).getD .skip
noncomputable def i_size_int64S_I : FnI := ⟨i_size_int64S_b, Try.f58.results.toList, Try.f58.resultTypes.toList, []⟩
noncomputable def i_size_int64S_out (_zp0 : Bool) (_p0 : (List (List Int))) : Int → CallOut := fun r => ⟨(.imm true (.int .i64) r), [], []⟩
set_option maxRecDepth 100000 in
theorem i_size_int64S_eq : ∀ (zp0 : Bool) (p0 : (List (List Int))), denFn i_size_int64S_V i_size_int64S_I ⟨[(.imm zp0 (.sl (.sl (.int .i64))) p0)], []⟩ = (i_size_int64S p0).run fun r => some (i_size_int64S_out zp0 p0 r) := fun _ _ => by kernel_rfl
noncomputable def i_size_int64S_G (av : List AV) (rs : List Root) : Tre CallOut :=
 asCons av fun a0_ av0 =>
 asEnd av0 <|
 asEnd rs <|
 asImm (.sl (.sl (.int .i64))) a0_ fun z2 d1 =>
 .ret (i_size_int64S_out z2 d1 (d1.length : Int))
noncomputable def i_size_int64S_c : Ctr := ⟨[], fun ci => i_size_int64S_G ci.args ci.roots, false⟩
theorem i_size_int64S_env : EnvOK Try.prog .none i_size_int64S_V := envOK_nil
set_option maxRecDepth 100000 in
theorem i_size_int64S_ok : Contract Try.prog .none 58 i_size_int64S_c := by
 have hl : LoopsOK i_size_int64S_V [] i_size_int64S_b := loopsOK_nil (by kernel_rfl)
 refine (contract_of (F := i_size_int64S_I) tau_tys i_size_int64S_env Try.func58 (by kernel_rfl) (by kernel_rfl) (by kernel_rfl) hl []).weaken ?_
 rintro ⟨av, rs⟩ co h
 have h : (i_size_int64S_G av rs).run some = some co := h
 obtain ⟨a0_, av0, rfl, h_0⟩ := asCons_spec h
 obtain ⟨rfl, h_1⟩ := asEnd_spec h_0
 obtain ⟨rfl, h_2⟩ := asEnd_spec h_1
 obtain ⟨z2, d1, rfl, h_3⟩ := asImm_spec h_2
 exact fin_ret (i_size_int64S_eq z2 d1) (i_size_int64S_spec d1) h_3
end Go.Proofs.Ytldafhnnnabipaa

namespace Go.Proofs.Ytldafhnnnabipaa
open Go Go.Abs Go.Proofs
noncomputable def i_ArePathsToc1c1_6f01 (p0 : Int) (p1 : TNet) : Tre Bool :=
 let v1 := (p1.2.2.2.1.length : Int)
 let v2 := inR p0 0 (iwrap .i64 (v1 - 1))
 .ret (!v2)
noncomputable def i_ArePathsToc1c1_6f01_F (p0 : Int) (p1 : TNet) : Option Bool := (i_ArePathsToc1c1_6f01 p0 p1).run some
def i_ArePathsToc1c1_6f01_S (p0 : Int) (p1 : TNet) : Bool :=
 let v1 := (p1.2.2.2.1.length : Int)
 let v2 := inR p0 0 (iwrap .i64 (v1 - 1))
 !v2
theorem i_ArePathsToc1c1_6f01_spec (p0 : Int) (p1 : TNet) : i_ArePathsToc1c1_6f01_F p0 p1 = some (i_ArePathsToc1c1_6f01_S p0 p1) := rfl
noncomputable def i_ArePathsToc1c1_6f01_V : Env := ⟨tau, [(58, i_size_int64S_c), (57, i_within_c)], []⟩
noncomputable def i_ArePathsToc1c1_6f01_b : Code := (Try.f56.body).getD .skip
noncomputable def i_ArePathsToc1c1_6f01_I : FnI := ⟨i_ArePathsToc1c1_6f01_b, Try.f56.results.toList, Try.f56.resultTypes.toList, []⟩
noncomputable def i_ArePathsToc1c1_6f01_out (zp0 : Bool) (_p0 : Int) (p1 : TNet) : Bool → CallOut := fun r => ⟨(.imm true .bool r), [⟨true, kNet, (.imm zp0), p1⟩], []⟩
set_option maxRecDepth 100000 in
theorem i_ArePathsToc1c1_6f01_eq : ∀ (zp0 : Bool) (p0 : Int) (p1 : TNet), denFn i_ArePathsToc1c1_6f01_V i_ArePathsToc1c1_6f01_I ⟨[(.imm true (.int .i64) p0), (.ptr (0, 0) [])], [⟨true, kNet, (.imm zp0), p1⟩]⟩ = (i_ArePathsToc1c1_6f01 p0 p1).run fun r => some (i_ArePathsToc1c1_6f01_out zp0 p0 p1 r) := fun _ _ _ => by kernel_rfl
noncomputable def i_ArePathsToc1c1_6f01_G (av : List AV) (rs : List Root) : Tre CallOut :=
 asCons av fun a0_ av0 =>
 asCons av0 fun a1_ av1 =>
 asEnd av1 <|
 asCons rs fun r0_ rs0 =>
 asEnd rs0 <|
 asImmZ true (.int .i64) a0_ fun d1 =>
 asPtr (0, 0) [] a1_ <|
 asRt true kNet r0_ fun m2 d3 =>
 asMImm m2 fun z4 =>
 .ret (i_ArePathsToc1c1_6f01_out z4 d1 d3 (i_ArePathsToc1c1_6f01_S d1 d3))
noncomputable def i_ArePathsToc1c1_6f01_c : Ctr := ⟨[], fun ci => i_ArePathsToc1c1_6f01_G ci.args ci.roots, false⟩
theorem i_ArePathsToc1c1_6f01_env : EnvOK Try.prog .none i_ArePathsToc1c1_6f01_V := (envOK_cons i_size_int64S_ok ent58 (envOK_cons i_within_ok ent57 envOK_nil))
set_option maxRecDepth 100000 in
theorem i_ArePathsToc1c1_6f01_ok : Contract Try.prog .none 56 i_ArePathsToc1c1_6f01_c := by
 have hl : LoopsOK i_ArePathsToc1c1_6f01_V [] i_ArePathsToc1c1_6f01_b := loopsOK_nil (by kernel_rfl)
 refine (contract_of (F := i_ArePathsToc1c1_6f01_I) tau_tys i_ArePathsToc1c1_6f01_env Try.func56 (by kernel_rfl) (by kernel_rfl) (by kernel_rfl) hl []).weaken ?_
 rintro ⟨av, rs⟩ co h
 have h : (i_ArePathsToc1c1_6f01_G av rs).run some = some co := h
 obtain ⟨a0_, av0, rfl, h_0⟩ := asCons_spec h
 obtain ⟨a1_, av1, rfl, h_1⟩ := asCons_spec h_0
 obtain ⟨rfl, h_2⟩ := asEnd_spec h_1
 obtain ⟨r0_, rs0, rfl, h_3⟩ := asCons_spec h_2
 obtain ⟨rfl, h_4⟩ := asEnd_spec h_3
 obtain ⟨d1, rfl, h_5⟩ := asImmZ_spec h_4
 obtain ⟨rfl, h_6⟩ := asPtr_spec h_5
 obtain ⟨m2, d3, rfl, h_7⟩ := asRt_spec h_6
 obtain ⟨z4, rfl, h_8⟩ := asMImm_spec h_7
 exact fin_ret (i_ArePathsToc1c1_6f01_eq z4 d1 d3) (i_ArePathsToc1c1_6f01_spec d1 d3) h_8
end Go.Proofs.Ytldafhnnnabipaa

namespace Go.Proofs.Ytldafhnnnabipaa
open Go Go.Abs Go.Proofs
noncomputable def slices_IndexFunc_int64_i_ArePathsToc1c1_e2dd_l2 (h2_0_0 : Int) (h2_0_2 : (List Int)) (h2_0_3 : TNet) : Int → Tre (Int ⊕ (Int ⊕ Unit)) := fun s2 =>
 .cond (decide (s2 < h2_0_0))
  (.ite (0 ≤ s2 ∧ s2 < (h2_0_2.length : Int)) <|
  .mat (h2_0_2[s2.toNat]?) fun x1 =>
  let v2 := i_ArePathsToc1c1_6f01_S x1 h2_0_3
  .cond v2
   (.ret (.inr (.inl s2)))
   (.ret (.inl (iwrap .i64 (s2 + 1)))))
  (.ret (.inr (.inr ())))
noncomputable def slices_IndexFunc_int64_i_ArePathsToc1c1_e2dd (p0 : (List Int)) (p1 : TNet) : Tre Int :=
 .mat (loopF (slices_IndexFunc_int64_i_ArePathsToc1c1_e2dd_l2 (p0.length : Int) p0 p1) 0) fun l3 =>
 .alt l3
  (fun a4 =>
   .ret a4)
  (fun _ =>
   .ret (-1))
noncomputable def slices_IndexFunc_int64_i_ArePathsToc1c1_e2dd_F (p0 : (List Int)) (p1 : TNet) : Option Int := (slices_IndexFunc_int64_i_ArePathsToc1c1_e2dd p0 p1).run some
noncomputable def slices_IndexFunc_int64_i_ArePathsToc1c1_e2dd_V : Env := ⟨tau, [(56, i_ArePathsToc1c1_6f01_c)], []⟩
noncomputable def slices_IndexFunc_int64_i_ArePathsToc1c1_e2dd_b : Code := (Try.f125.body).getD .skip
noncomputable def slices_IndexFunc_int64_i_ArePathsToc1c1_e2dd_l2_mk (z2_0 : Bool) (h2_0_0 : Int) (h2_0_2 : (List Int)) (h2_0_3 : TNet) : Int → St := fun x => stOf [(0, (.ref (0, 0) [])), (1, (.fn 56 [(0, 1)])), (7, (.imm true (.int .i64) h2_0_0)), (8, (.imm true (.int .i64) x))] [((0, 0), some ⟨true, (.sl (.int .i64)), .own, h2_0_2⟩), ((0, 1), some ⟨true, kNet, (.imm z2_0), h2_0_3⟩)]
noncomputable def slices_IndexFunc_int64_i_ArePathsToc1c1_e2dd_l2_out (z2_0 : Bool) (_h2_0_0 : Int) (h2_0_2 : (List Int)) (h2_0_3 : TNet) : (Int ⊕ Unit) → Ex × St
 | .inl x => (.ret, stOf [(4, (.imm true (.int .i64) x))] [((0, 0), some ⟨true, (.sl (.int .i64)), .own, h2_0_2⟩), ((0, 1), some ⟨true, kNet, (.imm z2_0), h2_0_3⟩)])
 | .inr x => (.exit 0, stOf [(4, .dead)] [((0, 0), some ⟨true, (.sl (.int .i64)), .own, h2_0_2⟩), ((0, 1), some ⟨true, kNet, (.imm z2_0), h2_0_3⟩)])
noncomputable def slices_IndexFunc_int64_i_ArePathsToc1c1_e2dd_l2_D (s : St) : Tre (Ex × St) :=
 asRef (0, 0) [] (s.tmps 0) <|
 asFn 56 [(0, 1)] (s.tmps 1) <|
 asImmZ true (.int .i64) (s.tmps 7) fun d4 =>
 asImmZ true (.int .i64) (s.tmps 8) fun d6 =>
 asRoot true (.sl (.int .i64)) (s.roots (0, 0)) fun m8 d9 =>
 asM .own m8 <|
 asRoot true kNet (s.roots (0, 1)) fun m11 d12 =>
 asMImm m11 fun z13 =>
 .mat (loopF (slices_IndexFunc_int64_i_ArePathsToc1c1_e2dd_l2 d4 d9 d12) d6) fun x => .alt x (fun a0 => .ret (slices_IndexFunc_int64_i_ArePathsToc1c1_e2dd_l2_out z13 d4 d9 d12 (.inl a0))) (fun b0 => .ret (slices_IndexFunc_int64_i_ArePathsToc1c1_e2dd_l2_out z13 d4 d9 d12 (.inr b0)))
noncomputable def slices_IndexFunc_int64_i_ArePathsToc1c1_e2dd_l2_L : LoopI := ⟨([0, 1, 7, 8], [(0, 0), (0, 1)]), ([4], [(0, 0), (0, 1)]), slices_IndexFunc_int64_i_ArePathsToc1c1_e2dd_l2_D⟩
noncomputable def slices_IndexFunc_int64_i_ArePathsToc1c1_e2dd_A : List (Nat × LoopI) := [(2, slices_IndexFunc_int64_i_ArePathsToc1c1_e2dd_l2_L)]
set_option maxRecDepth 100000 in
theorem slices_IndexFunc_int64_i_ArePathsToc1c1_e2dd_l2_step : ∀ (z2_0 : Bool) (h2_0_0 : Int) (h2_0_2 : (List Int)) (h2_0_3 : TNet) (x : Int) (c : St → Option (Ex × St)), den slices_IndexFunc_int64_i_ArePathsToc1c1_e2dd_V slices_IndexFunc_int64_i_ArePathsToc1c1_e2dd_A (loopAt slices_IndexFunc_int64_i_ArePathsToc1c1_e2dd_b 0) (slices_IndexFunc_int64_i_ArePathsToc1c1_e2dd_l2_mk z2_0 h2_0_0 h2_0_2 h2_0_3 x) (roundK slices_IndexFunc_int64_i_ArePathsToc1c1_e2dd_l2_L.kp slices_IndexFunc_int64_i_ArePathsToc1c1_e2dd_l2_L.kx c) = (slices_IndexFunc_int64_i_ArePathsToc1c1_e2dd_l2 h2_0_0 h2_0_2 h2_0_3 x).run (roundR (slices_IndexFunc_int64_i_ArePathsToc1c1_e2dd_l2_mk z2_0 h2_0_0 h2_0_2 h2_0_3) (slices_IndexFunc_int64_i_ArePathsToc1c1_e2dd_l2_out z2_0 h2_0_0 h2_0_2 h2_0_3) c) := fun _ _ _ _ _ _ => by
 kernel_rfl
theorem slices_IndexFunc_int64_i_ArePathsToc1c1_e2dd_l2_ok : LoopOK slices_IndexFunc_int64_i_ArePathsToc1c1_e2dd_V slices_IndexFunc_int64_i_ArePathsToc1c1_e2dd_A (loopAt slices_IndexFunc_int64_i_ArePathsToc1c1_e2dd_b 0) slices_IndexFunc_int64_i_ArePathsToc1c1_e2dd_l2_L := loopOK_of fun s e s' h => by
 generalize hs : restrict slices_IndexFunc_int64_i_ArePathsToc1c1_e2dd_l2_L.kp s = s1 at h
 have h : (slices_IndexFunc_int64_i_ArePathsToc1c1_e2dd_l2_D s1).run some = some (e, s') := h
 obtain ⟨e1, h_0⟩ := asRef_spec h
 obtain ⟨e2, h_1⟩ := asFn_spec h_0
 obtain ⟨d4, e3, h_2⟩ := asImmZ_spec h_1
 obtain ⟨d6, e5, h_3⟩ := asImmZ_spec h_2
 obtain ⟨m8, d9, e7, h_4⟩ := asRoot_spec h_3
 obtain ⟨rfl, h_5⟩ := asM_spec h_4
 obtain ⟨m11, d12, e10, h_6⟩ := asRoot_spec h_5
 obtain ⟨z13, rfl, h_7⟩ := asMImm_spec h_6
 obtain ⟨y, hy, hz⟩ := mat_some h_7
 refine ⟨_, _, slices_IndexFunc_int64_i_ArePathsToc1c1_e2dd_l2_mk z13 d4 d9 d12, slices_IndexFunc_int64_i_ArePathsToc1c1_e2dd_l2_out z13 d4 d9 d12, slices_IndexFunc_int64_i_ArePathsToc1c1_e2dd_l2 d4 d9 d12, d6, y, ?_, hy, ?_, slices_IndexFunc_int64_i_ArePathsToc1c1_e2dd_l2_step z13 d4 d9 d12⟩
 ·subst hs; exact restrict_eq (T := [(0, (.ref (0, 0) [])), (1, (.fn 56 [(0, 1)])), (7, (.imm true (.int .i64) d4)), (8, (.imm true (.int .i64) d6))]) (U := [((0, 0), some ⟨true, (.sl (.int .i64)), .own, d9⟩), ((0, 1), some ⟨true, kNet, (.imm z13), d12⟩)]) rfl rfl ⟨e1, e2, e3, e5, trivial⟩ ⟨e7, e10, trivial⟩
 ·rcases y with x | x <;> exact Option.some.inj hz
noncomputable def slices_IndexFunc_int64_i_ArePathsToc1c1_e2dd_I : FnI := ⟨slices_IndexFunc_int64_i_ArePathsToc1c1_e2dd_b, Try.f125.results.toList, Try.f125.resultTypes.toList, slices_IndexFunc_int64_i_ArePathsToc1c1_e2dd_A⟩
noncomputable def slices_IndexFunc_int64_i_ArePathsToc1c1_e2dd_out (zp0 : Bool) (p0 : (List Int)) (p1 : TNet) : Int → CallOut := fun r => ⟨(.imm true (.int .i64) r), [⟨true, (.sl (.int .i64)), .own, p0⟩, ⟨true, kNet, (.imm zp0), p1⟩], []⟩
set_option maxRecDepth 100000 in
theorem slices_IndexFunc_int64_i_ArePathsToc1c1_e2dd_eq : ∀ (zp0 : Bool) (p0 : (List Int)) (p1 : TNet), denFn slices_IndexFunc_int64_i_ArePathsToc1c1_e2dd_V slices_IndexFunc_int64_i_ArePathsToc1c1_e2dd_I ⟨[(.ref (0, 0) []), (.fn 56 [(0, 1)])], [⟨true, (.sl (.int .i64)), .own, p0⟩, ⟨true, kNet, (.imm zp0), p1⟩]⟩ = (slices_IndexFunc_int64_i_ArePathsToc1c1_e2dd p0 p1).run fun r => some (slices_IndexFunc_int64_i_ArePathsToc1c1_e2dd_out zp0 p0 p1 r) := fun _ _ _ => by kernel_rfl
noncomputable def slices_IndexFunc_int64_i_ArePathsToc1c1_e2dd_G (av : List AV) (rs : List Root) : Tre CallOut :=
 asCons av fun a0_ av0 =>
 asCons av0 fun a1_ av1 =>
 asEnd av1 <|
 asCons rs fun r0_ rs0 =>
 asCons rs0 fun r1_ rs1 =>
 asEnd rs1 <|
 asRef (0, 0) [] a0_ <|
 asFn 56 [(0, 1)] a1_ <|
 asRt true (.sl (.int .i64)) r0_ fun m1 d2 =>
 asM .own m1 <|
 asRt true kNet r1_ fun m3 d4 =>
 asMImm m3 fun z5 =>
 .mat (slices_IndexFunc_int64_i_ArePathsToc1c1_e2dd_F d2 d4) fun r => .ret (slices_IndexFunc_int64_i_ArePathsToc1c1_e2dd_out z5 d2 d4 r)
noncomputable def slices_IndexFunc_int64_i_ArePathsToc1c1_e2dd_c : Ctr := ⟨[0], fun ci => slices_IndexFunc_int64_i_ArePathsToc1c1_e2dd_G ci.args ci.roots, false⟩
theorem slices_IndexFunc_int64_i_ArePathsToc1c1_e2dd_env : EnvOK Try.prog .none slices_IndexFunc_int64_i_ArePathsToc1c1_e2dd_V := (envOK_cons i_ArePathsToc1c1_6f01_ok ent56 envOK_nil)
set_option maxRecDepth 100000 in
theorem slices_IndexFunc_int64_i_ArePathsToc1c1_e2dd_ok : Contract Try.prog .none 125 slices_IndexFunc_int64_i_ArePathsToc1c1_e2dd_c := by
 have hl : LoopsOK slices_IndexFunc_int64_i_ArePathsToc1c1_e2dd_V slices_IndexFunc_int64_i_ArePathsToc1c1_e2dd_A slices_IndexFunc_int64_i_ArePathsToc1c1_e2dd_b := (loopsOK_all (n := 1) (by kernel_rfl) fun k hk => by
   match k, hk with
   | 0, _ => exact loopOK_at (id := 2) (L := slices_IndexFunc_int64_i_ArePathsToc1c1_e2dd_l2_L) (by kernel_rfl) (by kernel_rfl) slices_IndexFunc_int64_i_ArePathsToc1c1_e2dd_l2_ok)
 refine (contract_of (F := slices_IndexFunc_int64_i_ArePathsToc1c1_e2dd_I) tau_tys slices_IndexFunc_int64_i_ArePathsToc1c1_e2dd_env Try.func125 (by kernel_rfl) (by kernel_rfl) (by kernel_rfl) hl [0]).weaken ?_
 rintro ⟨av, rs⟩ co h
 have h : (slices_IndexFunc_int64_i_ArePathsToc1c1_e2dd_G av rs).run some = some co := h
 obtain ⟨a0_, av0, rfl, h_0⟩ := asCons_spec h
 obtain ⟨a1_, av1, rfl, h_1⟩ := asCons_spec h_0
 obtain ⟨rfl, h_2⟩ := asEnd_spec h_1
 obtain ⟨r0_, rs0, rfl, h_3⟩ := asCons_spec h_2
 obtain ⟨r1_, rs1, rfl, h_4⟩ := asCons_spec h_3
 obtain ⟨rfl, h_5⟩ := asEnd_spec h_4
 obtain ⟨rfl, h_6⟩ := asRef_spec h_5
 obtain ⟨rfl, h_7⟩ := asFn_spec h_6
 obtain ⟨m1, d2, rfl, h_8⟩ := asRt_spec h_7
 obtain ⟨rfl, h_9⟩ := asM_spec h_8
 obtain ⟨m3, d4, rfl, h_10⟩ := asRt_spec h_9
 obtain ⟨z5, rfl, h_11⟩ := asMImm_spec h_10
 exact fin_mat (slices_IndexFunc_int64_i_ArePathsToc1c1_e2dd_eq z5 d2 d4) h_11
end Go.Proofs.Ytldafhnnnabipaa
