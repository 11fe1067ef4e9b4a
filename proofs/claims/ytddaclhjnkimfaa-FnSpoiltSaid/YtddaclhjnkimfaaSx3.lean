/- Part 3 of the proof of FnSpoilt. -/
import Derived.Test.YtddaclhjnkimfaaProg
import Derived.Test.YtddaclhjnkimfaaSx2
namespace Go.Proofs.Ytddaclhjnkimfaa
open Go Go.Abs Go.Proofs
abbrev kField : K := (.pair (.int .i64) (.pair (.int .i64) .unit))
abbrev kMatrix : K := (.pair (.int .i64) (.pair (.sl (.int .i64)) .unit))
abbrev kStation : K := (.pair (.sl (.int .i64)) (.pair (.sl (.int .i64)) .unit))
abbrev kL00Src : K := (.pair (.sl (.int .u8)) (.pair (.int .i64) (.pair (.int .u64) .unit)))
abbrev kDeed : K := (.pair (.int .i64) (.pair (.int .i64) (.pair (.int .i64) (.pair (.int .i64) .unit))))
abbrev kGather : K := (.pair (.int .i64) (.pair (.int .i64) (.pair (.sl (.int .i64)) (.pair (.int .i64) (.pair (.int .i64) .unit)))))
abbrev kL08Plan : K := (.pair .ptr (.pair (.sl kDeed) .unit))
abbrev kPlant : K := (.pair (.sl kStation) (.pair (.sl kField) .unit))
abbrev kL08Run : K := (.pair .ptr (.pair kPlant .unit))
abbrev kWorks : K := (.pair kPlant (.pair kGather .unit))
def tau : List (Nat × TI) := [(2, ⟨(.int .i64), 8, 0⟩), (30, ⟨kGather, 56, 0⟩), (22, ⟨(.sl (.int .i64)), 24, 2⟩), (76, ⟨kDeed, 32, 0⟩), (51, ⟨kPlant, 48, 0⟩), (48, ⟨(.sl kStation), 24, 59⟩), (49, ⟨(.sl kField), 24, 108⟩), (59, ⟨kStation, 48, 0⟩), (73, ⟨kL08Run, 56, 0⟩), (88, ⟨kWorks, 104, 0⟩), (3, ⟨(.int .i64), 8, 0⟩), (108, ⟨kField, 16, 0⟩), (131, ⟨kL00Src, 40, 0⟩), (32, ⟨(.sl kDeed), 24, 76⟩), (44, ⟨(.sl (.int .u8)), 24, 5⟩), (84, ⟨kField, 16, 0⟩), (5, ⟨(.int .u8), 1, 0⟩), (129, ⟨(.int .u64), 8, 0⟩), (80, ⟨.ptr, 8, 0⟩), (142, ⟨(.sl (.int .i64)), 24, 3⟩), (69, ⟨.ptr, 8, 0⟩), (141, ⟨(.sl .str), 24, 9⟩), (1, ⟨.fn, 8, 0⟩), (4, ⟨.bool, 1, 0⟩), (9, ⟨.str, 16, 0⟩), (12, ⟨(.int .u64), 8, 0⟩), (13, ⟨(.pair .str (.pair (.int .u64) .unit)), 24, 0⟩), (21, ⟨(.int .i32), 4, 0⟩), (23, ⟨kGather, 56, 0⟩), (24, ⟨kGather, 56, 0⟩), (25, ⟨(.sl kDeed), 24, 78⟩), (26, ⟨.fn, 8, 0⟩), (27, ⟨.fn, 8, 0⟩), (29, ⟨.fn, 8, 0⟩), (31, ⟨.fn, 8, 0⟩), (33, ⟨.fn, 8, 0⟩), (34, ⟨.fn, 8, 0⟩), (35, ⟨.fn, 8, 0⟩), (36, ⟨.fn, 8, 0⟩), (37, ⟨.fn, 8, 0⟩), (38, ⟨.fn, 8, 0⟩), (39, ⟨.fn, 8, 0⟩), (40, ⟨.fn, 8, 0⟩), (42, ⟨.fn, 8, 0⟩), (43, ⟨.fn, 8, 0⟩), (45, ⟨.fn, 8, 0⟩), (46, ⟨.fn, 8, 0⟩), (47, ⟨.fn, 8, 0⟩), (50, ⟨kPlant, 48, 0⟩), (53, ⟨.fn, 8, 0⟩), (55, ⟨.fn, 8, 0⟩), (56, ⟨kMatrix, 32, 0⟩), (57, ⟨kMatrix, 32, 0⟩), (58, ⟨kStation, 48, 0⟩), (61, ⟨.fn, 8, 0⟩), (62, ⟨.fn, 8, 0⟩), (63, ⟨.fn, 8, 0⟩), (64, ⟨.fn, 8, 0⟩), (65, ⟨.fn, 8, 0⟩), (66, ⟨.ptr, 8, 0⟩), (68, ⟨.fn, 8, 0⟩), (70, ⟨(.int .u64), 8, 0⟩), (71, ⟨.fn, 8, 0⟩), (72, ⟨kL08Run, 56, 0⟩), (74, ⟨.fn, 8, 0⟩), (75, ⟨kDeed, 32, 0⟩), (77, ⟨.fn, 8, 0⟩), (78, ⟨kDeed, 32, 0⟩), (79, ⟨.fn, 8, 0⟩), (82, ⟨.fn, 8, 0⟩), (83, ⟨kField, 16, 0⟩), (85, ⟨.fn, 8, 0⟩), (86, ⟨.fn, 8, 0⟩), (87, ⟨kWorks, 104, 0⟩), (89, ⟨.fn, 8, 0⟩), (90, ⟨.fn, 8, 0⟩), (91, ⟨.fn, 8, 0⟩), (93, ⟨.fn, 8, 0⟩), (94, ⟨.ptr, 8, 0⟩), (95, ⟨kL08Plan, 32, 0⟩), (96, ⟨kL08Plan, 32, 0⟩), (97, ⟨.fn, 8, 0⟩), (98, ⟨.fn, 8, 0⟩), (99, ⟨.fn, 8, 0⟩), (100, ⟨.fn, 8, 0⟩), (101, ⟨.fn, 8, 0⟩), (102, ⟨.fn, 8, 0⟩), (103, ⟨.ptr, 8, 0⟩), (104, ⟨.fn, 8, 0⟩), (105, ⟨.fn, 8, 0⟩), (106, ⟨.fn, 8, 0⟩), (107, ⟨kField, 16, 0⟩), (109, ⟨.fn, 8, 0⟩), (110, ⟨.fn, 8, 0⟩), (111, ⟨.fn, 8, 0⟩), (112, ⟨.fn, 8, 0⟩), (113, ⟨.fn, 8, 0⟩), (114, ⟨.fn, 8, 0⟩), (115, ⟨.fn, 8, 0⟩), (116, ⟨.fn, 8, 0⟩), (117, ⟨.fn, 8, 0⟩), (118, ⟨.fn, 8, 0⟩), (119, ⟨.fn, 8, 0⟩), (120, ⟨.fn, 8, 0⟩), (121, ⟨.fn, 8, 0⟩), (122, ⟨.fn, 8, 0⟩), (123, ⟨.fn, 8, 0⟩), (124, ⟨.fn, 8, 0⟩), (125, ⟨.fn, 8, 0⟩), (126, ⟨.fn, 8, 0⟩), (127, ⟨.fn, 8, 0⟩), (128, ⟨.fn, 8, 0⟩), (130, ⟨kL00Src, 40, 0⟩), (132, ⟨.fn, 8, 0⟩), (133, ⟨(.sl kMatrix), 24, 57⟩), (134, ⟨.fn, 8, 0⟩), (135, ⟨.fn, 8, 0⟩), (136, ⟨.fn, 8, 0⟩), (137, ⟨.fn, 8, 0⟩), (139, ⟨.fn, 8, 0⟩), (140, ⟨.ptr, 8, 0⟩), (144, ⟨.fn, 8, 0⟩), (145, ⟨.fn, 8, 0⟩), (146, ⟨.fn, 8, 0⟩), (147, ⟨.fn, 8, 0⟩), (148, ⟨.fn, 8, 0⟩), (149, ⟨.fn, 8, 0⟩), (150, ⟨.fn, 8, 0⟩), (156, ⟨.fn, 8, 0⟩), (157, ⟨(.int .u32), 4, 0⟩), (160, ⟨.fn, 8, 0⟩), (161, ⟨.ptr, 8, 0⟩), (166, ⟨.fn, 8, 0⟩)]
set_option maxRecDepth 100000 in
theorem tau_tys {E : List (Nat × Ctr)} {Z : List (Nat × List Frz)} : TysOK Try.prog ⟨tau, E, Z⟩ := tysOK_of (tysB_env (by kernel_rfl)) (by kernel_rfl)
theorem ent9 : Enters Try.prog 9 := ⟨Try.f9, Try.func9, by kernel_rfl, by kernel_rfl⟩
theorem ent12 : Enters Try.prog 12 := ⟨Try.f12, Try.func12, by kernel_rfl, by kernel_rfl⟩
theorem ent23 : Enters Try.prog 23 := ⟨Try.f23, Try.func23, by kernel_rfl, by kernel_rfl⟩
theorem ent24 : Enters Try.prog 24 := ⟨Try.f24, Try.func24, by kernel_rfl, by kernel_rfl⟩
theorem ent25 : Enters Try.prog 25 := ⟨Try.f25, Try.func25, by kernel_rfl, by kernel_rfl⟩
theorem ent26 : Enters Try.prog 26 := ⟨Try.f26, Try.func26, by kernel_rfl, by kernel_rfl⟩
theorem ent29 : Enters Try.prog 29 := ⟨Try.f29, Try.func29, by kernel_rfl, by kernel_rfl⟩
theorem ent30 : Enters Try.prog 30 := ⟨Try.f30, Try.func30, by kernel_rfl, by kernel_rfl⟩
theorem ent31 : Enters Try.prog 31 := ⟨Try.f31, Try.func31, by kernel_rfl, by kernel_rfl⟩
theorem ent32 : Enters Try.prog 32 := ⟨Try.f32, Try.func32, by kernel_rfl, by kernel_rfl⟩
theorem ent33 : Enters Try.prog 33 := ⟨Try.f33, Try.func33, by kernel_rfl, by kernel_rfl⟩
theorem ent34 : Enters Try.prog 34 := ⟨Try.f34, Try.func34, by kernel_rfl, by kernel_rfl⟩
theorem ent36 : Enters Try.prog 36 := ⟨Try.f36, Try.func36, by kernel_rfl, by kernel_rfl⟩
theorem ent37 : Enters Try.prog 37 := ⟨Try.f37, Try.func37, by kernel_rfl, by kernel_rfl⟩
theorem ent40 : Enters Try.prog 40 := ⟨Try.f40, Try.func40, by kernel_rfl, by kernel_rfl⟩
theorem ent41 : Enters Try.prog 41 := ⟨Try.f41, Try.func41, by kernel_rfl, by kernel_rfl⟩
theorem ent42 : Enters Try.prog 42 := ⟨Try.f42, Try.func42, by kernel_rfl, by kernel_rfl⟩
theorem ent43 : Enters Try.prog 43 := ⟨Try.f43, Try.func43, by kernel_rfl, by kernel_rfl⟩
theorem ent44 : Enters Try.prog 44 := ⟨Try.f44, Try.func44, by kernel_rfl, by kernel_rfl⟩
theorem ent45 : Enters Try.prog 45 := ⟨Try.f45, Try.func45, by kernel_rfl, by kernel_rfl⟩
theorem ent47 : Enters Try.prog 47 := ⟨Try.f47, Try.func47, by kernel_rfl, by kernel_rfl⟩
theorem ent48 : Enters Try.prog 48 := ⟨Try.f48, Try.func48, by kernel_rfl, by kernel_rfl⟩
theorem ent51 : Enters Try.prog 51 := ⟨Try.f51, Try.func51, by kernel_rfl, by kernel_rfl⟩
theorem ent52 : Enters Try.prog 52 := ⟨Try.f52, Try.func52, by kernel_rfl, by kernel_rfl⟩
theorem ent53 : Enters Try.prog 53 := ⟨Try.f53, Try.func53, by kernel_rfl, by kernel_rfl⟩
theorem ent54 : Enters Try.prog 54 := ⟨Try.f54, Try.func54, by kernel_rfl, by kernel_rfl⟩
theorem ent56 : Enters Try.prog 56 := ⟨Try.f56, Try.func56, by kernel_rfl, by kernel_rfl⟩
theorem ent57 : Enters Try.prog 57 := ⟨Try.f57, Try.func57, by kernel_rfl, by kernel_rfl⟩
theorem ent58 : Enters Try.prog 58 := ⟨Try.f58, Try.func58, by kernel_rfl, by kernel_rfl⟩
theorem ent59 : Enters Try.prog 59 := ⟨Try.f59, Try.func59, by kernel_rfl, by kernel_rfl⟩
theorem ent60 : Enters Try.prog 60 := ⟨Try.f60, Try.func60, by kernel_rfl, by kernel_rfl⟩
theorem ent61 : Enters Try.prog 61 := ⟨Try.f61, Try.func61, by kernel_rfl, by kernel_rfl⟩
theorem ent65 : Enters Try.prog 65 := ⟨Try.f65, Try.func65, by kernel_rfl, by kernel_rfl⟩
theorem ent66 : Enters Try.prog 66 := ⟨Try.f66, Try.func66, by kernel_rfl, by kernel_rfl⟩
theorem ent67 : Enters Try.prog 67 := ⟨Try.f67, Try.func67, by kernel_rfl, by kernel_rfl⟩
theorem ent68 : Enters Try.prog 68 := ⟨Try.f68, Try.func68, by kernel_rfl, by kernel_rfl⟩
theorem ent69 : Enters Try.prog 69 := ⟨Try.f69, Try.func69, by kernel_rfl, by kernel_rfl⟩
theorem ent70 : Enters Try.prog 70 := ⟨Try.f70, Try.func70, by kernel_rfl, by kernel_rfl⟩
theorem ent71 : Enters Try.prog 71 := ⟨Try.f71, Try.func71, by kernel_rfl, by kernel_rfl⟩
theorem ent72 : Enters Try.prog 72 := ⟨Try.f72, Try.func72, by kernel_rfl, by kernel_rfl⟩
theorem ent73 : Enters Try.prog 73 := ⟨Try.f73, Try.func73, by kernel_rfl, by kernel_rfl⟩
theorem ent74 : Enters Try.prog 74 := ⟨Try.f74, Try.func74, by kernel_rfl, by kernel_rfl⟩
theorem ent75 : Enters Try.prog 75 := ⟨Try.f75, Try.func75, by kernel_rfl, by kernel_rfl⟩
theorem ent76 : Enters Try.prog 76 := ⟨Try.f76, Try.func76, by kernel_rfl, by kernel_rfl⟩
theorem ent77 : Enters Try.prog 77 := ⟨Try.f77, Try.func77, by kernel_rfl, by kernel_rfl⟩
theorem ent78 : Enters Try.prog 78 := ⟨Try.f78, Try.func78, by kernel_rfl, by kernel_rfl⟩
theorem ent79 : Enters Try.prog 79 := ⟨Try.f79, Try.func79, by kernel_rfl, by kernel_rfl⟩
theorem ent80 : Enters Try.prog 80 := ⟨Try.f80, Try.func80, by kernel_rfl, by kernel_rfl⟩
theorem ent81 : Enters Try.prog 81 := ⟨Try.f81, Try.func81, by kernel_rfl, by kernel_rfl⟩
theorem ent82 : Enters Try.prog 82 := ⟨Try.f82, Try.func82, by kernel_rfl, by kernel_rfl⟩
theorem ent83 : Enters Try.prog 83 := ⟨Try.f83, Try.func83, by kernel_rfl, by kernel_rfl⟩
theorem ent84 : Enters Try.prog 84 := ⟨Try.f84, Try.func84, by kernel_rfl, by kernel_rfl⟩
theorem ent85 : Enters Try.prog 85 := ⟨Try.f85, Try.func85, by kernel_rfl, by kernel_rfl⟩
theorem ent86 : Enters Try.prog 86 := ⟨Try.f86, Try.func86, by kernel_rfl, by kernel_rfl⟩
theorem ent88 : Enters Try.prog 88 := ⟨Try.f88, Try.func88, by kernel_rfl, by kernel_rfl⟩
theorem ent89 : Enters Try.prog 89 := ⟨Try.f89, Try.func89, by kernel_rfl, by kernel_rfl⟩
theorem ent90 : Enters Try.prog 90 := ⟨Try.f90, Try.func90, by kernel_rfl, by kernel_rfl⟩
theorem ent91 : Enters Try.prog 91 := ⟨Try.f91, Try.func91, by kernel_rfl, by kernel_rfl⟩
theorem ent92 : Enters Try.prog 92 := ⟨Try.f92, Try.func92, by kernel_rfl, by kernel_rfl⟩
theorem ent93 : Enters Try.prog 93 := ⟨Try.f93, Try.func93, by kernel_rfl, by kernel_rfl⟩
theorem ent97 : Enters Try.prog 97 := ⟨Try.f97, Try.func97, by kernel_rfl, by kernel_rfl⟩
theorem ent98 : Enters Try.prog 98 := ⟨Try.f98, Try.func98, by kernel_rfl, by kernel_rfl⟩
theorem ent99 : Enters Try.prog 99 := ⟨Try.f99, Try.func99, by kernel_rfl, by kernel_rfl⟩
theorem ent100 : Enters Try.prog 100 := ⟨Try.f100, Try.func100, by kernel_rfl, by kernel_rfl⟩
theorem ent101 : Enters Try.prog 101 := ⟨Try.f101, Try.func101, by kernel_rfl, by kernel_rfl⟩
theorem ent102 : Enters Try.prog 102 := ⟨Try.f102, Try.func102, by kernel_rfl, by kernel_rfl⟩
theorem ent103 : Enters Try.prog 103 := ⟨Try.f103, Try.func103, by kernel_rfl, by kernel_rfl⟩
theorem ent104 : Enters Try.prog 104 := ⟨Try.f104, Try.func104, by kernel_rfl, by kernel_rfl⟩
theorem ent105 : Enters Try.prog 105 := ⟨Try.f105, Try.func105, by kernel_rfl, by kernel_rfl⟩
theorem ent106 : Enters Try.prog 106 := ⟨Try.f106, Try.func106, by kernel_rfl, by kernel_rfl⟩
theorem ent107 : Enters Try.prog 107 := ⟨Try.f107, Try.func107, by kernel_rfl, by kernel_rfl⟩
theorem ent108 : Enters Try.prog 108 := ⟨Try.f108, Try.func108, by kernel_rfl, by kernel_rfl⟩
theorem ent109 : Enters Try.prog 109 := ⟨Try.f109, Try.func109, by kernel_rfl, by kernel_rfl⟩
theorem ent110 : Enters Try.prog 110 := ⟨Try.f110, Try.func110, by kernel_rfl, by kernel_rfl⟩
theorem ent111 : Enters Try.prog 111 := ⟨Try.f111, Try.func111, by kernel_rfl, by kernel_rfl⟩
theorem ent113 : Enters Try.prog 113 := ⟨Try.f113, Try.func113, by kernel_rfl, by kernel_rfl⟩
theorem ent116 : Enters Try.prog 116 := ⟨Try.f116, Try.func116, by kernel_rfl, by kernel_rfl⟩
theorem ent117 : Enters Try.prog 117 := ⟨Try.f117, Try.func117, by kernel_rfl, by kernel_rfl⟩
theorem ent118 : Enters Try.prog 118 := ⟨Try.f118, Try.func118, by kernel_rfl, by kernel_rfl⟩
theorem ent119 : Enters Try.prog 119 := ⟨Try.f119, Try.func119, by kernel_rfl, by kernel_rfl⟩
theorem ent120 : Enters Try.prog 120 := ⟨Try.f120, Try.func120, by kernel_rfl, by kernel_rfl⟩
abbrev TStation := ((List Int) × ((List Int) × Unit))
abbrev TL00Src := ((List Int) × (Int × (Int × Unit)))
abbrev TDeed := (Int × (Int × (Int × (Int × Unit))))
abbrev TGather := (Int × (Int × TL00Src))
abbrev TPlant := ((List TStation) × ((List (Int × (Int × Unit))) × Unit))
abbrev TWorks := (TPlant × (TGather × Unit))
end Go.Proofs.Ytddaclhjnkimfaa

namespace Go.Proofs.Ytddaclhjnkimfaa
open Go Go.Abs Go.Proofs
noncomputable def l_a2Long (p0 : (List Int)) (p1 : (List Int)) : Tre Bool :=
 .cond (decide ((p0.length : Int) > 3000))
  (.ret true)
  (.ret (decide ((p1.length : Int) > 3000)))
noncomputable def l_a2Long_F (p0 : (List Int)) (p1 : (List Int)) : Option Bool := (l_a2Long p0 p1).run some
def l_a2Long_S (p0 : (List Int)) (p1 : (List Int)) : Bool :=
 cond (decide ((p0.length : Int) > 3000))
  (true)
  (decide ((p1.length : Int) > 3000))
theorem l_a2Long_spec (p0 : (List Int)) (p1 : (List Int)) : l_a2Long_F p0 p1 = some (l_a2Long_S p0 p1) := (run_cond_some rfl rfl)
noncomputable def l_a2Long_V : Env := ⟨tau, [], []⟩
noncomputable def l_a2Long_b : Code := (Try.f23.body).getD .skip
noncomputable def l_a2Long_I : FnI := ⟨l_a2Long_b, Try.f23.results.toList, Try.f23.resultTypes.toList, []⟩
noncomputable def l_a2Long_out (_zp0 : Bool) (_zp1 : Bool) (_p0 : (List Int)) (_p1 : (List Int)) : Bool → CallOut := fun r => ⟨(.imm true .bool r), [], []⟩
set_option maxRecDepth 100000 in
theorem l_a2Long_eq : ∀ (zp0 : Bool) (zp1 : Bool) (p0 : (List Int)) (p1 : (List Int)), denFn l_a2Long_V l_a2Long_I ⟨[(.imm zp0 (.sl (.int .u8)) p0), (.imm zp1 (.sl (.int .u8)) p1)], []⟩ = (l_a2Long p0 p1).run fun r => some (l_a2Long_out zp0 zp1 p0 p1 r) := fun _ _ _ _ => by kernel_rfl
noncomputable def l_a2Long_G (av : List AV) (rs : List Root) : Tre CallOut :=
 asCons av fun a0_ av0 =>
 asCons av0 fun a1_ av1 =>
 asEnd av1 <|
 asEnd rs <|
 asImm (.sl (.int .u8)) a0_ fun z2 d1 =>
 asImm (.sl (.int .u8)) a1_ fun z4 d3 =>
 .ret (l_a2Long_out z2 z4 d1 d3 (l_a2Long_S d1 d3))
noncomputable def l_a2Long_c : Ctr := ⟨[], fun ci => l_a2Long_G ci.args ci.roots⟩
theorem l_a2Long_env : EnvOK Try.prog l_a2Long_V := envOK_nil
set_option maxRecDepth 100000 in
theorem l_a2Long_ok : Contract Try.prog 23 l_a2Long_c := by
 have hl : LoopsOK l_a2Long_V [] l_a2Long_b := loopsOK_nil (by kernel_rfl)
 refine (contract_of (F := l_a2Long_I) tau_tys l_a2Long_env Try.func23 (by kernel_rfl) (by kernel_rfl) (by kernel_rfl) hl []).weaken ?_
 rintro ⟨av, rs⟩ co h
 have h : (l_a2Long_G av rs).run some = some co := h
 obtain ⟨a0_, av0, rfl, h_0⟩ := asCons_spec h
 obtain ⟨a1_, av1, rfl, h_1⟩ := asCons_spec h_0
 obtain ⟨rfl, h_2⟩ := asEnd_spec h_1
 obtain ⟨rfl, h_3⟩ := asEnd_spec h_2
 obtain ⟨z2, d1, rfl, h_4⟩ := asImm_spec h_3
 obtain ⟨z4, d3, rfl, h_5⟩ := asImm_spec h_4
 exact fin_ret (l_a2Long_eq z2 z4 d1 d3) (l_a2Long_spec d1 d3) h_5
end Go.Proofs.Ytddaclhjnkimfaa

namespace Go.Proofs.Ytddaclhjnkimfaa
open Go Go.Abs Go.Proofs
noncomputable def s_l00From (p0 : (List Int)) : Tre TL00Src :=
 .ret (p0, (0, (0, ())))
noncomputable def s_l00From_F (p0 : (List Int)) : Option TL00Src := (s_l00From p0).run some
theorem s_l00From_spec (p0 : (List Int)) : s_l00From_F p0 = some (p0, (0, (0, ()))) := rfl
noncomputable def s_l00From_V : Env := ⟨tau, [], []⟩
noncomputable def s_l00From_b : Code := (Try.f57.body).getD .skip
noncomputable def s_l00From_I : FnI := ⟨s_l00From_b, Try.f57.results.toList, Try.f57.resultTypes.toList, []⟩
noncomputable def s_l00From_out (zp0 : Bool) (_p0 : (List Int)) : TL00Src → CallOut := fun r => ⟨(.ptr (1, 0) []), [], [⟨true, kL00Src, (.imm zp0), r⟩]⟩
set_option maxRecDepth 100000 in
theorem s_l00From_eq : ∀ (zp0 : Bool) (p0 : (List Int)), denFn s_l00From_V s_l00From_I ⟨[(.imm zp0 (.sl (.int .u8)) p0)], []⟩ = (s_l00From p0).run fun r => some (s_l00From_out zp0 p0 r) := fun _ _ => by kernel_rfl
noncomputable def s_l00From_G (av : List AV) (rs : List Root) : Tre CallOut :=
 asCons av fun a0_ av0 =>
 asEnd av0 <|
 asEnd rs <|
 asImm (.sl (.int .u8)) a0_ fun z2 d1 =>
 .ret (s_l00From_out z2 d1 (d1, (0, (0, ()))))
noncomputable def s_l00From_c : Ctr := ⟨[], fun ci => s_l00From_G ci.args ci.roots⟩
theorem s_l00From_env : EnvOK Try.prog s_l00From_V := envOK_nil
set_option maxRecDepth 100000 in
theorem s_l00From_ok : Contract Try.prog 57 s_l00From_c := by
 have hl : LoopsOK s_l00From_V [] s_l00From_b := loopsOK_nil (by kernel_rfl)
 refine (contract_of (F := s_l00From_I) tau_tys s_l00From_env Try.func57 (by kernel_rfl) (by kernel_rfl) (by kernel_rfl) hl []).weaken ?_
 rintro ⟨av, rs⟩ co h
 have h : (s_l00From_G av rs).run some = some co := h
 obtain ⟨a0_, av0, rfl, h_0⟩ := asCons_spec h
 obtain ⟨rfl, h_1⟩ := asEnd_spec h_0
 obtain ⟨rfl, h_2⟩ := asEnd_spec h_1
 obtain ⟨z2, d1, rfl, h_3⟩ := asImm_spec h_2
 exact fin_ret (s_l00From_eq z2 d1) (s_l00From_spec d1) h_3
end Go.Proofs.Ytddaclhjnkimfaa

namespace Go.Proofs.Ytddaclhjnkimfaa
open Go Go.Abs Go.Proofs
noncomputable def s_l00Src_next_6913 (p0 : TL00Src) : Tre (Int × TL00Src) :=
 .cond (decide (p0.2.1 < (p0.1.length : Int)))
  (.ite (0 ≤ p0.2.1 ∧ p0.2.1 < (p0.1.length : Int)) <|
  .mat (p0.1[p0.2.1.toNat]?) fun x1 =>
  let v2 := iwrap .u64 (p0.2.2.1 * 6364136223846793005)
  let v3 := iwrap .u64 (iwrap .i64 x1)
  let v4 := iwrap .u64 ((iwrap .u64 (v2 + v3)) + 1442695040888963407)
  .cond (decide (iwrap .i64 (p0.2.1 + 1) ≤ (p0.1.length : Int)))
   (.ret (iwrap .i64 x1, (p0.1, (iwrap .i64 (p0.2.1 + 1), (v4, p0.2.2.2)))))
   (let v5 := iand .u64 (ishr .u64 v4 40) 255
   .ret (iwrap .i64 v5, (p0.1, (iwrap .i64 (p0.2.1 + 1), (v4, p0.2.2.2))))))
  (let v6 := iwrap .u64 (p0.2.2.1 * 6364136223846793005)
  let v7 := iwrap .u64 ((iwrap .u64 (v6 + 0)) + 1442695040888963407)
  .cond (decide (iwrap .i64 (p0.2.1 + 1) ≤ (p0.1.length : Int)))
   (.ret (0, (p0.1, (iwrap .i64 (p0.2.1 + 1), (v7, p0.2.2.2)))))
   (let v8 := iand .u64 (ishr .u64 v7 40) 255
   .ret (iwrap .i64 v8, (p0.1, (iwrap .i64 (p0.2.1 + 1), (v7, p0.2.2.2))))))
noncomputable def s_l00Src_next_6913_F (p0 : TL00Src) : Option (Int × TL00Src) := (s_l00Src_next_6913 p0).run some
noncomputable def s_l00Src_next_6913_V : Env := ⟨tau, [], []⟩
noncomputable def s_l00Src_next_6913_b : Code := (Try.f113.body).getD .skip
noncomputable def s_l00Src_next_6913_I : FnI := ⟨s_l00Src_next_6913_b, Try.f113.results.toList, Try.f113.resultTypes.toList, []⟩
noncomputable def s_l00Src_next_6913_out (zp0 : Bool) (_p0 : TL00Src) : (Int × TL00Src) → CallOut := fun r => ⟨(.imm true (.int .i64) r.1), [⟨true, kL00Src, (.imm zp0), r.2⟩], []⟩
set_option maxRecDepth 100000 in
theorem s_l00Src_next_6913_eq : ∀ (zp0 : Bool) (p0 : TL00Src), denFn s_l00Src_next_6913_V s_l00Src_next_6913_I ⟨[(.ptr (0, 0) [])], [⟨true, kL00Src, (.imm zp0), p0⟩]⟩ = (s_l00Src_next_6913 p0).run fun r => some (s_l00Src_next_6913_out zp0 p0 r) := fun _ _ => by kernel_rfl
noncomputable def s_l00Src_next_6913_G (av : List AV) (rs : List Root) : Tre CallOut :=
 asCons av fun a0_ av0 =>
 asEnd av0 <|
 asCons rs fun r0_ rs0 =>
 asEnd rs0 <|
 asPtr (0, 0) [] a0_ <|
 asRt true kL00Src r0_ fun m1 d2 =>
 asMImm m1 fun z3 =>
 .mat (s_l00Src_next_6913_F d2) fun r => .ret (s_l00Src_next_6913_out z3 d2 r)
noncomputable def s_l00Src_next_6913_c : Ctr := ⟨[], fun ci => s_l00Src_next_6913_G ci.args ci.roots⟩
theorem s_l00Src_next_6913_env : EnvOK Try.prog s_l00Src_next_6913_V := envOK_nil
set_option maxRecDepth 100000 in
theorem s_l00Src_next_6913_ok : Contract Try.prog 113 s_l00Src_next_6913_c := by
 have hl : LoopsOK s_l00Src_next_6913_V [] s_l00Src_next_6913_b := loopsOK_nil (by kernel_rfl)
 refine (contract_of (F := s_l00Src_next_6913_I) tau_tys s_l00Src_next_6913_env Try.func113 (by kernel_rfl) (by kernel_rfl) (by kernel_rfl) hl []).weaken ?_
 rintro ⟨av, rs⟩ co h
 have h : (s_l00Src_next_6913_G av rs).run some = some co := h
 obtain ⟨a0_, av0, rfl, h_0⟩ := asCons_spec h
 obtain ⟨rfl, h_1⟩ := asEnd_spec h_0
 obtain ⟨r0_, rs0, rfl, h_2⟩ := asCons_spec h_1
 obtain ⟨rfl, h_3⟩ := asEnd_spec h_2
 obtain ⟨rfl, h_4⟩ := asPtr_spec h_3
 obtain ⟨m1, d2, rfl, h_5⟩ := asRt_spec h_4
 obtain ⟨z3, rfl, h_6⟩ := asMImm_spec h_5
 exact fin_mat (s_l00Src_next_6913_eq z3 d2) h_6
end Go.Proofs.Ytddaclhjnkimfaa

namespace Go.Proofs.Ytddaclhjnkimfaa
open Go Go.Abs Go.Proofs
noncomputable def s_l00Src_pick_9f69 (p0 : Int) (p1 : TL00Src) : Tre (Int × TL00Src) :=
 .cond (decide (p0 ≤ 1))
  (.ret (0, p1))
  (.mat (s_l00Src_next_6913_F p1) fun r1 =>
  .cond (decide (p0 > 200))
   (.mat (s_l00Src_next_6913_F r1.2) fun r2 =>
   let v3 := iwrap .i64 ((iwrap .i64 (r1.1 * 256)) + r2.1)
   .ifn (p0 = 0) <|
   .ret (Int.tmod v3 p0, r2.2))
   (.ifn (p0 = 0) <|
   .ret (Int.tmod r1.1 p0, r1.2)))
noncomputable def s_l00Src_pick_9f69_F (p0 : Int) (p1 : TL00Src) : Option (Int × TL00Src) := (s_l00Src_pick_9f69 p0 p1).run some
noncomputable def s_l00Src_pick_9f69_V : Env := ⟨tau, [(113, s_l00Src_next_6913_c)], []⟩
noncomputable def s_l00Src_pick_9f69_b : Code := (Try.f90.body).getD .skip
noncomputable def s_l00Src_pick_9f69_I : FnI := ⟨s_l00Src_pick_9f69_b, Try.f90.results.toList, Try.f90.resultTypes.toList, []⟩
noncomputable def s_l00Src_pick_9f69_out (zp0 : Bool) (_p0 : Int) (_p1 : TL00Src) : (Int × TL00Src) → CallOut := fun r => ⟨(.imm true (.int .i64) r.1), [⟨true, kL00Src, (.imm zp0), r.2⟩], []⟩
set_option maxRecDepth 100000 in
theorem s_l00Src_pick_9f69_eq : ∀ (zp0 : Bool) (p0 : Int) (p1 : TL00Src), denFn s_l00Src_pick_9f69_V s_l00Src_pick_9f69_I ⟨[(.ptr (0, 0) []), (.imm true (.int .i64) p0)], [⟨true, kL00Src, (.imm zp0), p1⟩]⟩ = (s_l00Src_pick_9f69 p0 p1).run fun r => some (s_l00Src_pick_9f69_out zp0 p0 p1 r) := fun _ _ _ => by kernel_rfl
noncomputable def s_l00Src_pick_9f69_G (av : List AV) (rs : List Root) : Tre CallOut :=
 asCons av fun a0_ av0 =>
 asCons av0 fun a1_ av1 =>
 asEnd av1 <|
 asCons rs fun r0_ rs0 =>
 asEnd rs0 <|
 asPtr (0, 0) [] a0_ <|
 asImmZ true (.int .i64) a1_ fun d1 =>
 asRt true kL00Src r0_ fun m2 d3 =>
 asMImm m2 fun z4 =>
 .mat (s_l00Src_pick_9f69_F d1 d3) fun r => .ret (s_l00Src_pick_9f69_out z4 d1 d3 r)
noncomputable def s_l00Src_pick_9f69_c : Ctr := ⟨[], fun ci => s_l00Src_pick_9f69_G ci.args ci.roots⟩
theorem s_l00Src_pick_9f69_env : EnvOK Try.prog s_l00Src_pick_9f69_V := (envOK_cons s_l00Src_next_6913_ok ent113 envOK_nil)
set_option maxRecDepth 100000 in
theorem s_l00Src_pick_9f69_ok : Contract Try.prog 90 s_l00Src_pick_9f69_c := by
 have hl : LoopsOK s_l00Src_pick_9f69_V [] s_l00Src_pick_9f69_b := loopsOK_nil (by kernel_rfl)
 refine (contract_of (F := s_l00Src_pick_9f69_I) tau_tys s_l00Src_pick_9f69_env Try.func90 (by kernel_rfl) (by kernel_rfl) (by kernel_rfl) hl []).weaken ?_
 rintro ⟨av, rs⟩ co h
 have h : (s_l00Src_pick_9f69_G av rs).run some = some co := h
 obtain ⟨a0_, av0, rfl, h_0⟩ := asCons_spec h
 obtain ⟨a1_, av1, rfl, h_1⟩ := asCons_spec h_0
 obtain ⟨rfl, h_2⟩ := asEnd_spec h_1
 obtain ⟨r0_, rs0, rfl, h_3⟩ := asCons_spec h_2
 obtain ⟨rfl, h_4⟩ := asEnd_spec h_3
 obtain ⟨rfl, h_5⟩ := asPtr_spec h_4
 obtain ⟨d1, rfl, h_6⟩ := asImmZ_spec h_5
 obtain ⟨m2, d3, rfl, h_7⟩ := asRt_spec h_6
 obtain ⟨z4, rfl, h_8⟩ := asMImm_spec h_7
 exact fin_mat (s_l00Src_pick_9f69_eq z4 d1 d3) h_8
end Go.Proofs.Ytddaclhjnkimfaa

namespace Go.Proofs.Ytddaclhjnkimfaa
open Go Go.Abs Go.Proofs
noncomputable def s_l00Src_one_9f69 (p0 : Int) (p1 : TL00Src) : Tre (Bool × TL00Src) :=
 .mat (s_l00Src_pick_9f69_F p0 p1) fun r1 =>
 .ret (decide (r1.1 = 0), r1.2)
noncomputable def s_l00Src_one_9f69_F (p0 : Int) (p1 : TL00Src) : Option (Bool × TL00Src) := (s_l00Src_one_9f69 p0 p1).run some
noncomputable def s_l00Src_one_9f69_V : Env := ⟨tau, [(90, s_l00Src_pick_9f69_c)], []⟩
noncomputable def s_l00Src_one_9f69_b : Code := (Try.f91.body).getD .skip
noncomputable def s_l00Src_one_9f69_I : FnI := ⟨s_l00Src_one_9f69_b, Try.f91.results.toList, Try.f91.resultTypes.toList, []⟩
noncomputable def s_l00Src_one_9f69_out (zp0 : Bool) (_p0 : Int) (_p1 : TL00Src) : (Bool × TL00Src) → CallOut := fun r => ⟨(.imm true .bool r.1), [⟨true, kL00Src, (.imm zp0), r.2⟩], []⟩
set_option maxRecDepth 100000 in
theorem s_l00Src_one_9f69_eq : ∀ (zp0 : Bool) (p0 : Int) (p1 : TL00Src), denFn s_l00Src_one_9f69_V s_l00Src_one_9f69_I ⟨[(.ptr (0, 0) []), (.imm true (.int .i64) p0)], [⟨true, kL00Src, (.imm zp0), p1⟩]⟩ = (s_l00Src_one_9f69 p0 p1).run fun r => some (s_l00Src_one_9f69_out zp0 p0 p1 r) := fun _ _ _ => by kernel_rfl
noncomputable def s_l00Src_one_9f69_G (av : List AV) (rs : List Root) : Tre CallOut :=
 asCons av fun a0_ av0 =>
 asCons av0 fun a1_ av1 =>
 asEnd av1 <|
 asCons rs fun r0_ rs0 =>
 asEnd rs0 <|
 asPtr (0, 0) [] a0_ <|
 asImmZ true (.int .i64) a1_ fun d1 =>
 asRt true kL00Src r0_ fun m2 d3 =>
 asMImm m2 fun z4 =>
 .mat (s_l00Src_one_9f69_F d1 d3) fun r => .ret (s_l00Src_one_9f69_out z4 d1 d3 r)
noncomputable def s_l00Src_one_9f69_c : Ctr := ⟨[], fun ci => s_l00Src_one_9f69_G ci.args ci.roots⟩
theorem s_l00Src_one_9f69_env : EnvOK Try.prog s_l00Src_one_9f69_V := (envOK_cons s_l00Src_pick_9f69_ok ent90 envOK_nil)
set_option maxRecDepth 100000 in
theorem s_l00Src_one_9f69_ok : Contract Try.prog 91 s_l00Src_one_9f69_c := by
 have hl : LoopsOK s_l00Src_one_9f69_V [] s_l00Src_one_9f69_b := loopsOK_nil (by kernel_rfl)
 refine (contract_of (F := s_l00Src_one_9f69_I) tau_tys s_l00Src_one_9f69_env Try.func91 (by kernel_rfl) (by kernel_rfl) (by kernel_rfl) hl []).weaken ?_
 rintro ⟨av, rs⟩ co h
 have h : (s_l00Src_one_9f69_G av rs).run some = some co := h
 obtain ⟨a0_, av0, rfl, h_0⟩ := asCons_spec h
 obtain ⟨a1_, av1, rfl, h_1⟩ := asCons_spec h_0
 obtain ⟨rfl, h_2⟩ := asEnd_spec h_1
 obtain ⟨r0_, rs0, rfl, h_3⟩ := asCons_spec h_2
 obtain ⟨rfl, h_4⟩ := asEnd_spec h_3
 obtain ⟨rfl, h_5⟩ := asPtr_spec h_4
 obtain ⟨d1, rfl, h_6⟩ := asImmZ_spec h_5
 obtain ⟨m2, d3, rfl, h_7⟩ := asRt_spec h_6
 obtain ⟨z4, rfl, h_8⟩ := asMImm_spec h_7
 exact fin_mat (s_l00Src_one_9f69_eq z4 d1 d3) h_8
end Go.Proofs.Ytddaclhjnkimfaa

namespace Go.Proofs.Ytddaclhjnkimfaa
open Go Go.Abs Go.Proofs
noncomputable def s_l08Drawn_6913_l6 : (Int × TL00Src × TGather) → Tre ((Int × TL00Src × TGather) ⊕ (TL00Src × TGather)) := fun s6 =>
 .cond (decide (s6.1 < s6.2.2.1))
  (.ite (0 ≤ iwrap .u64 s6.2.2.2.1) <|
  let v6 := ishl .i64 1 (iwrap .u64 s6.2.2.2.1)
  .mat (s_l00Src_pick_9f69_F v6 s6.2.1) fun r7 =>
  .ite ((s6.2.2.2.2.1.length + 1) * 8 ≤ appendMax ∧ 1 ≤ 8) <|
  .ret (.inl (iwrap .i64 (s6.1 + 1), r7.2, (s6.2.2.1, (s6.2.2.2.1, (s6.2.2.2.2.1 ++ ([r7.1]), s6.2.2.2.2.2))))))
  (.ret (.inr (s6.2.1, s6.2.2)))
noncomputable def s_l08Drawn_6913 (p0 : TL00Src) : Tre (Int × Int × (Int × (Int × Unit)) × TL00Src × (List Int)) :=
 .mat (s_l00Src_pick_9f69_F 3 p0) fun r1 =>
 .mat (s_l00Src_pick_9f69_F 3 r1.2) fun r2 =>
 .mat (s_l00Src_pick_9f69_F 3 r2.2) fun r3 =>
 .mat (s_l00Src_pick_9f69_F 2 r3.2) fun r4 =>
 .mat (s_l00Src_one_9f69_F 8 r4.2) fun r5 =>
 .cond r5.1
  (.mat (loopF s_l08Drawn_6913_l6 (0, r5.2, (4, (6, ([], (r3.1, (iwrap .i64 (1 + r4.1), ()))))))) fun l8 =>
  .ret (l8.2.1, l8.2.2.1, l8.2.2.2.2, l8.1, l8.2.2.2.1))
  (.mat (loopF s_l08Drawn_6913_l6 (0, r5.2, (iwrap .i64 (1 + r1.1), (iwrap .i64 (1 + r2.1), ([], (r3.1, (iwrap .i64 (1 + r4.1), ()))))))) fun l9 =>
  .ret (l9.2.1, l9.2.2.1, l9.2.2.2.2, l9.1, l9.2.2.2.1))
noncomputable def s_l08Drawn_6913_F (p0 : TL00Src) : Option (Int × Int × (Int × (Int × Unit)) × TL00Src × (List Int)) := (s_l08Drawn_6913 p0).run some
noncomputable def s_l08Drawn_6913_V : Env := ⟨tau, [(90, s_l00Src_pick_9f69_c), (91, s_l00Src_one_9f69_c)], []⟩
noncomputable def s_l08Drawn_6913_b : Code := (Try.f56.body).getD .skip
noncomputable def s_l08Drawn_6913_l6_mk (z6_0 : Bool) (h6_0_2 : TGather) : (Int × TL00Src × TGather) → St := fun x => stOf [(0, (.ptr (0, 0) [])), (2, (.ptr (4, 0) [])), (3, (.ptr (5, 0) [])), (4, (.imm true (.int .i64) x.1))] [((0, 0), some ⟨true, kL00Src, (.imm z6_0), x.2.1⟩), ((4, 0), some ⟨true, kGather, .own, h6_0_2⟩), ((5, 0), some ⟨true, kGather, .own, x.2.2⟩)]
noncomputable def s_l08Drawn_6913_l6_out (z6_0 : Bool) (h6_0_2 : TGather) : (TL00Src × TGather) → Ex × St := fun x => (.exit 0, stOf [(2, (.ptr (4, 0) [])), (3, (.ptr (5, 0) []))] [((0, 0), some ⟨true, kL00Src, (.imm z6_0), x.1⟩), ((4, 0), some ⟨true, kGather, .own, h6_0_2⟩), ((5, 0), some ⟨true, kGather, .own, x.2⟩)])
noncomputable def s_l08Drawn_6913_l6_D (s : St) : Tre (Ex × St) :=
 asPtr (0, 0) [] (s.tmps 0) <|
 asPtr (4, 0) [] (s.tmps 2) <|
 asPtr (5, 0) [] (s.tmps 3) <|
 asImmZ true (.int .i64) (s.tmps 4) fun d5 =>
 asRoot true kL00Src (s.roots (0, 0)) fun m7 d8 =>
 asMImm m7 fun z9 =>
 asRoot true kGather (s.roots (4, 0)) fun m11 d12 =>
 asM .own m11 <|
 asRoot true kGather (s.roots (5, 0)) fun m14 d15 =>
 asM .own m14 <|
 .mat (loopF s_l08Drawn_6913_l6 (d5, d8, d15)) fun x => .ret (s_l08Drawn_6913_l6_out z9 d12 x)
noncomputable def s_l08Drawn_6913_l6_L : LoopI := ⟨([0, 2, 3, 4], [(0, 0), (4, 0), (5, 0)]), ([2, 3], [(0, 0), (4, 0), (5, 0)]), s_l08Drawn_6913_l6_D⟩
noncomputable def s_l08Drawn_6913_A : List (Nat × LoopI) := [(6, s_l08Drawn_6913_l6_L)]
set_option maxRecDepth 100000 in
theorem s_l08Drawn_6913_l6_step : ∀ (z6_0 : Bool) (h6_0_2 : TGather) (x : (Int × TL00Src × TGather)) (c : St → Option (Ex × St)), den s_l08Drawn_6913_V s_l08Drawn_6913_A (loopAt s_l08Drawn_6913_b 0) (s_l08Drawn_6913_l6_mk z6_0 h6_0_2 x) (roundK s_l08Drawn_6913_l6_L.kp s_l08Drawn_6913_l6_L.kx c) = (s_l08Drawn_6913_l6 x).run (roundR (s_l08Drawn_6913_l6_mk z6_0 h6_0_2) (s_l08Drawn_6913_l6_out z6_0 h6_0_2) c) := fun _ _ _ _ => by
 kernel_rfl
theorem s_l08Drawn_6913_l6_ok : LoopOK s_l08Drawn_6913_V s_l08Drawn_6913_A (loopAt s_l08Drawn_6913_b 0) s_l08Drawn_6913_l6_L := loopOK_of fun s e s' h => by
 generalize hs : restrict s_l08Drawn_6913_l6_L.kp s = s1 at h
 have h : (s_l08Drawn_6913_l6_D s1).run some = some (e, s') := h
 obtain ⟨e1, h_0⟩ := asPtr_spec h
 obtain ⟨e2, h_1⟩ := asPtr_spec h_0
 obtain ⟨e3, h_2⟩ := asPtr_spec h_1
 obtain ⟨d5, e4, h_3⟩ := asImmZ_spec h_2
 obtain ⟨m7, d8, e6, h_4⟩ := asRoot_spec h_3
 obtain ⟨z9, rfl, h_5⟩ := asMImm_spec h_4
 obtain ⟨m11, d12, e10, h_6⟩ := asRoot_spec h_5
 obtain ⟨rfl, h_7⟩ := asM_spec h_6
 obtain ⟨m14, d15, e13, h_8⟩ := asRoot_spec h_7
 obtain ⟨rfl, h_9⟩ := asM_spec h_8
 obtain ⟨y, hy, hz⟩ := mat_ret h_9
 refine ⟨_, _, s_l08Drawn_6913_l6_mk z9 d12, s_l08Drawn_6913_l6_out z9 d12, s_l08Drawn_6913_l6, (d5, d8, d15), y, ?_, hy, ?_, s_l08Drawn_6913_l6_step z9 d12⟩
 ·subst hs; exact restrict_eq (T := [(0, (.ptr (0, 0) [])), (2, (.ptr (4, 0) [])), (3, (.ptr (5, 0) [])), (4, (.imm true (.int .i64) d5))]) (U := [((0, 0), some ⟨true, kL00Src, (.imm z9), d8⟩), ((4, 0), some ⟨true, kGather, .own, d12⟩), ((5, 0), some ⟨true, kGather, .own, d15⟩)]) rfl rfl ⟨e1, e2, e3, e4, trivial⟩ ⟨e6, e10, e13, trivial⟩
 ·exact Option.some.inj hz
noncomputable def s_l08Drawn_6913_I : FnI := ⟨s_l08Drawn_6913_b, Try.f56.results.toList, Try.f56.resultTypes.toList, s_l08Drawn_6913_A⟩
noncomputable def s_l08Drawn_6913_out (zp0 : Bool) (_p0 : TL00Src) : (Int × Int × (Int × (Int × Unit)) × TL00Src × (List Int)) → CallOut := fun r => ⟨(.pair (.imm true (.int .i64) r.1) (.pair (.imm true (.int .i64) r.2.1) (.pair (.ref (1, 0) []) (.imm true kField r.2.2.1)))), [⟨true, kL00Src, (.imm zp0), r.2.2.2.1⟩], [⟨false, (.sl (.int .i64)), .own, r.2.2.2.2⟩]⟩
set_option maxRecDepth 100000 in
theorem s_l08Drawn_6913_eq : ∀ (zp0 : Bool) (p0 : TL00Src), denFn s_l08Drawn_6913_V s_l08Drawn_6913_I ⟨[(.ptr (0, 0) [])], [⟨true, kL00Src, (.imm zp0), p0⟩]⟩ = (s_l08Drawn_6913 p0).run fun r => some (s_l08Drawn_6913_out zp0 p0 r) := fun _ _ => by kernel_rfl
noncomputable def s_l08Drawn_6913_G (av : List AV) (rs : List Root) : Tre CallOut :=
 asCons av fun a0_ av0 =>
 asEnd av0 <|
 asCons rs fun r0_ rs0 =>
 asEnd rs0 <|
 asPtr (0, 0) [] a0_ <|
 asRt true kL00Src r0_ fun m1 d2 =>
 asMImm m1 fun z3 =>
 .mat (s_l08Drawn_6913_F d2) fun r => .ret (s_l08Drawn_6913_out z3 d2 r)
noncomputable def s_l08Drawn_6913_c : Ctr := ⟨[], fun ci => s_l08Drawn_6913_G ci.args ci.roots⟩
theorem s_l08Drawn_6913_env : EnvOK Try.prog s_l08Drawn_6913_V := (envOK_cons s_l00Src_pick_9f69_ok ent90 (envOK_cons s_l00Src_one_9f69_ok ent91 envOK_nil))
set_option maxRecDepth 100000 in
theorem s_l08Drawn_6913_ok : Contract Try.prog 56 s_l08Drawn_6913_c := by
 have hl : LoopsOK s_l08Drawn_6913_V s_l08Drawn_6913_A s_l08Drawn_6913_b := (loopsOK_all (n := 1) (by kernel_rfl) fun k hk => by
   match k, hk with
   | 0, _ => exact loopOK_at (id := 6) (L := s_l08Drawn_6913_l6_L) (by kernel_rfl) (by kernel_rfl) s_l08Drawn_6913_l6_ok)
 refine (contract_of (F := s_l08Drawn_6913_I) tau_tys s_l08Drawn_6913_env Try.func56 (by kernel_rfl) (by kernel_rfl) (by kernel_rfl) hl []).weaken ?_
 rintro ⟨av, rs⟩ co h
 have h : (s_l08Drawn_6913_G av rs).run some = some co := h
 obtain ⟨a0_, av0, rfl, h_0⟩ := asCons_spec h
 obtain ⟨rfl, h_1⟩ := asEnd_spec h_0
 obtain ⟨r0_, rs0, rfl, h_2⟩ := asCons_spec h_1
 obtain ⟨rfl, h_3⟩ := asEnd_spec h_2
 obtain ⟨rfl, h_4⟩ := asPtr_spec h_3
 obtain ⟨m1, d2, rfl, h_5⟩ := asRt_spec h_4
 obtain ⟨z3, rfl, h_6⟩ := asMImm_spec h_5
 exact fin_mat (s_l08Drawn_6913_eq z3 d2) h_6
end Go.Proofs.Ytddaclhjnkimfaa

namespace Go.Proofs.Ytddaclhjnkimfaa
open Go Go.Abs Go.Proofs
noncomputable def s_A2Gather (p0 : (List Int)) : Tre (Int × Int × (Int × (Int × Unit)) × (List Int)) :=
 .mat (s_l08Drawn_6913_F (p0, (0, (0, ())))) fun r1 =>
 .ret (r1.1, r1.2.1, r1.2.2.1, r1.2.2.2.2)
noncomputable def s_A2Gather_F (p0 : (List Int)) : Option (Int × Int × (Int × (Int × Unit)) × (List Int)) := (s_A2Gather p0).run some
noncomputable def s_A2Gather_V : Env := ⟨tau, [(57, s_l00From_c), (56, s_l08Drawn_6913_c)], []⟩
noncomputable def s_A2Gather_b : Code := (Try.f24.body).getD .skip
noncomputable def s_A2Gather_I : FnI := ⟨s_A2Gather_b, Try.f24.results.toList, Try.f24.resultTypes.toList, []⟩
noncomputable def s_A2Gather_out (_zp0 : Bool) (_p0 : (List Int)) : (Int × Int × (Int × (Int × Unit)) × (List Int)) → CallOut := fun r => ⟨(.pair (.imm true (.int .i64) r.1) (.pair (.imm true (.int .i64) r.2.1) (.pair (.ref (1, 0) []) (.imm true kField r.2.2.1)))), [], [⟨false, (.sl (.int .i64)), .own, r.2.2.2⟩]⟩
set_option maxRecDepth 100000 in
theorem s_A2Gather_eq : ∀ (zp0 : Bool) (p0 : (List Int)), denFn s_A2Gather_V s_A2Gather_I ⟨[(.imm zp0 (.sl (.int .u8)) p0)], []⟩ = (s_A2Gather p0).run fun r => some (s_A2Gather_out zp0 p0 r) := fun _ _ => by kernel_rfl
noncomputable def s_A2Gather_G (av : List AV) (rs : List Root) : Tre CallOut :=
 asCons av fun a0_ av0 =>
 asEnd av0 <|
 asEnd rs <|
 asImm (.sl (.int .u8)) a0_ fun z2 d1 =>
 .mat (s_A2Gather_F d1) fun r => .ret (s_A2Gather_out z2 d1 r)
noncomputable def s_A2Gather_c : Ctr := ⟨[], fun ci => s_A2Gather_G ci.args ci.roots⟩
theorem s_A2Gather_env : EnvOK Try.prog s_A2Gather_V := (envOK_cons s_l00From_ok ent57 (envOK_cons s_l08Drawn_6913_ok ent56 envOK_nil))
set_option maxRecDepth 100000 in
theorem s_A2Gather_ok : Contract Try.prog 24 s_A2Gather_c := by
 have hl : LoopsOK s_A2Gather_V [] s_A2Gather_b := loopsOK_nil (by kernel_rfl)
 refine (contract_of (F := s_A2Gather_I) tau_tys s_A2Gather_env Try.func24 (by kernel_rfl) (by kernel_rfl) (by kernel_rfl) hl []).weaken ?_
 rintro ⟨av, rs⟩ co h
 have h : (s_A2Gather_G av rs).run some = some co := h
 obtain ⟨a0_, av0, rfl, h_0⟩ := asCons_spec h
 obtain ⟨rfl, h_1⟩ := asEnd_spec h_0
 obtain ⟨rfl, h_2⟩ := asEnd_spec h_1
 obtain ⟨z2, d1, rfl, h_3⟩ := asImm_spec h_2
 exact fin_mat (s_A2Gather_eq z2 d1) h_3
end Go.Proofs.Ytddaclhjnkimfaa

namespace Go.Proofs.Ytddaclhjnkimfaa
open Go Go.Abs Go.Proofs
noncomputable def s_l08Source_9aa7_l3 (h3_0_1 : TGather) : (Int × (List Int)) → Tre ((Int × (List Int)) ⊕ (List Int)) := fun s3 =>
 .cond (decide (s3.1 < (h3_0_1.2.2.1.length : Int)))
  (.ite (0 ≤ iwrap .u64 s3.1) <|
  let v1 := ishl .i64 1 (iwrap .u64 s3.1)
  .ite (0 ≤ s3.1 ∧ s3.1 < (h3_0_1.2.2.1.length : Int)) <|
  .mat (h3_0_1.2.2.1[s3.1.toNat]?) fun x2 =>
  .ite (0 ≤ iwrap .u64 h3_0_1.1) <|
  let v3 := ishl .i64 x2 (iwrap .u64 h3_0_1.1)
  .ite ((s3.2.length + 1) * 8 ≤ appendMax ∧ 1 ≤ 8) <|
  let v4 := s3.2 ++ ([ior .i64 v1 v3])
  .ret (.inl (iwrap .i64 (s3.1 + 1), v4)))
  (.ret (.inr s3.2))
noncomputable def s_l08Source_9aa7 (p0 : TGather) : Tre (List Int) :=
 .mat (loopF (s_l08Source_9aa7_l3 p0) (0, [])) fun l5 =>
 .ret l5
noncomputable def s_l08Source_9aa7_F (p0 : TGather) : Option (List Int) := (s_l08Source_9aa7 p0).run some
def srcL (g : Int × Int × List Int × Int × Int × Unit) : List Int := foldE (β := List Int) (fun (i : Nat) acc x => .inl (acc ++ [ior .i64 (ishl .i64 1 (i : Int)) (ishl .i64 x g.1)])) id 0 [] g.2.2.1
def srcR (g : Int × Int × List Int × Int × Int × Unit) : Option (List Int) := askO (inR g.1 0 1048576 && decide (g.2.2.1.length ≤ 1048576)) (srcL g)
theorem s_l08Source_9aa7_spec (p0 : Int × Int × List Int × Int × Int × Unit) (y : List Int) (h : srcR p0 = some y) : s_l08Source_9aa7_F p0 = some y := by
 obtain ⟨hok, rfl⟩ := askO_some h
 simp only [Bool.and_eq_true, decide_eq_true_eq, inR_iff] at hok
 obtain ⟨hk, hl⟩ := hok
 unfold s_l08Source_9aa7_F s_l08Source_9aa7
 have hu : iwrap .u64 p0.1 = p0.1 := iwrap_u64 (by omega) (by omega)
 have := fold_loop (xs := p0.2.2.1) (step := s_l08Source_9aa7_l3 p0) (fun i acc => ((i : Int), acc)) (fun i acc x => .inl (acc ++ [ior .i64 (ishl .i64 1 (i : Int)) (ishl .i64 x p0.1)])) id (fun i acc => acc.length = i) (by
  intro i acc x hx hI
  have hi : i < p0.2.2.1.length := (List.getElem?_eq_some_iff.1 hx).1
  refine ⟨?_, fun a ha => by cases ha; simp [hI]⟩
  unfold s_l08Source_9aa7_l3
  have hui : iwrap .u64 (i : Int) = (i : Int) := iwrap_u64 (by omega) (by omega)
  rw [Tre.run_cond]
  show cond (decide ((i : Int) < (p0.2.2.1.length : Int))) _ _ = _
  rw [show decide ((i : Int) < (p0.2.2.1.length : Int)) = true from by simpa using hi, cond_true]
  dsimp only
  rw [hui, hu, Tre.run_ite, if_pos (by omega), run_at hx, Tre.run_ite, if_pos (by omega), Tre.run_ite, if_pos (by unfold appendMax; omega), Tre.run_ret, iwrap_succ (by omega)])
  (by
  intro acc _
  unfold s_l08Source_9aa7_l3
  exact run_out) p0.2.2.1 0 [] rfl (Nat.zero_le _) rfl
 have h1 : loopF (s_l08Source_9aa7_l3 p0) (0, []) = some (srcL p0) := this
 rw [run_some_mat h1]
 rfl
theorem srcL_len (g : Int × Int × List Int × Int × Int × Unit) : (srcL g).length = g.2.2.1.length := by
 have key : ∀ (l : List Int) (i : Nat) (acc : List Int), (foldE (β := List Int) (fun (i : Nat) acc x => .inl (acc ++ [ior .i64 (ishl .i64 1 (i : Int)) (ishl .i64 x g.1)])) id i acc l).length = acc.length + l.length := by
  intro l
  induction l with
  | nil => intro i acc; rfl
  | cons x l ih => intro i acc; simp only [foldE]; rw [ih]; simp; omega
 unfold srcL
 rw [key]
 simp
noncomputable def s_l08Source_9aa7_V : Env := ⟨tau, [], []⟩
noncomputable def s_l08Source_9aa7_b : Code := (Try.f108.body).getD .skip
noncomputable def s_l08Source_9aa7_l3_mk (z3_0 : Bool) (h3_0_1 : TGather) : (Int × (List Int)) → St := fun x => stOf [(0, (.ptr (0, 0) [])), (3, (.ref (5, 0) [])), (4, (.imm true (.int .i64) x.1))] [((0, 0), some ⟨true, kGather, (.imm z3_0), h3_0_1⟩), ((5, 0), some ⟨false, (.sl (.int .i64)), .own, x.2⟩)]
noncomputable def s_l08Source_9aa7_l3_out (z3_0 : Bool) (h3_0_1 : TGather) : (List Int) → Ex × St := fun x => (.exit 0, stOf [(3, (.ref (5, 0) []))] [((0, 0), some ⟨true, kGather, (.imm z3_0), h3_0_1⟩), ((5, 0), some ⟨false, (.sl (.int .i64)), .own, x⟩)])
noncomputable def s_l08Source_9aa7_l3_D (s : St) : Tre (Ex × St) :=
 asPtr (0, 0) [] (s.tmps 0) <|
 asRef (5, 0) [] (s.tmps 3) <|
 asImmZ true (.int .i64) (s.tmps 4) fun d4 =>
 asRoot true kGather (s.roots (0, 0)) fun m6 d7 =>
 asMImm m6 fun z8 =>
 asRoot false (.sl (.int .i64)) (s.roots (5, 0)) fun m10 d11 =>
 asM .own m10 <|
 .mat (loopF (s_l08Source_9aa7_l3 d7) (d4, d11)) fun x => .ret (s_l08Source_9aa7_l3_out z8 d7 x)
noncomputable def s_l08Source_9aa7_l3_L : LoopI := ⟨([0, 3, 4], [(0, 0), (5, 0)]), ([3], [(0, 0), (5, 0)]), s_l08Source_9aa7_l3_D⟩
noncomputable def s_l08Source_9aa7_A : List (Nat × LoopI) := [(3, s_l08Source_9aa7_l3_L)]
set_option maxRecDepth 100000 in
theorem s_l08Source_9aa7_l3_step : ∀ (z3_0 : Bool) (h3_0_1 : TGather) (x : (Int × (List Int))) (c : St → Option (Ex × St)), den s_l08Source_9aa7_V s_l08Source_9aa7_A (loopAt s_l08Source_9aa7_b 0) (s_l08Source_9aa7_l3_mk z3_0 h3_0_1 x) (roundK s_l08Source_9aa7_l3_L.kp s_l08Source_9aa7_l3_L.kx c) = (s_l08Source_9aa7_l3 h3_0_1 x).run (roundR (s_l08Source_9aa7_l3_mk z3_0 h3_0_1) (s_l08Source_9aa7_l3_out z3_0 h3_0_1) c) := fun _ _ _ _ => by
 kernel_rfl
theorem s_l08Source_9aa7_l3_ok : LoopOK s_l08Source_9aa7_V s_l08Source_9aa7_A (loopAt s_l08Source_9aa7_b 0) s_l08Source_9aa7_l3_L := loopOK_of fun s e s' h => by
 generalize hs : restrict s_l08Source_9aa7_l3_L.kp s = s1 at h
 have h : (s_l08Source_9aa7_l3_D s1).run some = some (e, s') := h
 obtain ⟨e1, h_0⟩ := asPtr_spec h
 obtain ⟨e2, h_1⟩ := asRef_spec h_0
 obtain ⟨d4, e3, h_2⟩ := asImmZ_spec h_1
 obtain ⟨m6, d7, e5, h_3⟩ := asRoot_spec h_2
 obtain ⟨z8, rfl, h_4⟩ := asMImm_spec h_3
 obtain ⟨m10, d11, e9, h_5⟩ := asRoot_spec h_4
 obtain ⟨rfl, h_6⟩ := asM_spec h_5
 obtain ⟨y, hy, hz⟩ := mat_ret h_6
 refine ⟨_, _, s_l08Source_9aa7_l3_mk z8 d7, s_l08Source_9aa7_l3_out z8 d7, s_l08Source_9aa7_l3 d7, (d4, d11), y, ?_, hy, ?_, s_l08Source_9aa7_l3_step z8 d7⟩
 ·subst hs; exact restrict_eq (T := [(0, (.ptr (0, 0) [])), (3, (.ref (5, 0) [])), (4, (.imm true (.int .i64) d4))]) (U := [((0, 0), some ⟨true, kGather, (.imm z8), d7⟩), ((5, 0), some ⟨false, (.sl (.int .i64)), .own, d11⟩)]) rfl rfl ⟨e1, e2, e3, trivial⟩ ⟨e5, e9, trivial⟩
 ·exact Option.some.inj hz
noncomputable def s_l08Source_9aa7_I : FnI := ⟨s_l08Source_9aa7_b, Try.f108.results.toList, Try.f108.resultTypes.toList, s_l08Source_9aa7_A⟩
noncomputable def s_l08Source_9aa7_out (zp0 : Bool) (p0 : TGather) : (List Int) → CallOut := fun r => ⟨(.ref (1, 0) []), [⟨true, kGather, (.imm zp0), p0⟩], [⟨false, (.sl (.int .i64)), .own, r⟩]⟩
set_option maxRecDepth 100000 in
theorem s_l08Source_9aa7_eq : ∀ (zp0 : Bool) (p0 : TGather), denFn s_l08Source_9aa7_V s_l08Source_9aa7_I ⟨[(.ptr (0, 0) [])], [⟨true, kGather, (.imm zp0), p0⟩]⟩ = (s_l08Source_9aa7 p0).run fun r => some (s_l08Source_9aa7_out zp0 p0 r) := fun _ _ => by kernel_rfl
noncomputable def s_l08Source_9aa7_G (av : List AV) (rs : List Root) : Tre CallOut :=
 asCons av fun a0_ av0 =>
 asEnd av0 <|
 asCons rs fun r0_ rs0 =>
 asEnd rs0 <|
 asPtr (0, 0) [] a0_ <|
 asRt true kGather r0_ fun m1 d2 =>
 asMImm m1 fun z3 =>
 .mat (srcR d2) fun r => .ret (s_l08Source_9aa7_out z3 d2 r)
noncomputable def s_l08Source_9aa7_c : Ctr := ⟨[], fun ci => s_l08Source_9aa7_G ci.args ci.roots⟩
theorem s_l08Source_9aa7_env : EnvOK Try.prog s_l08Source_9aa7_V := envOK_nil
set_option maxRecDepth 100000 in
theorem s_l08Source_9aa7_ok : Contract Try.prog 108 s_l08Source_9aa7_c := by
 have hl : LoopsOK s_l08Source_9aa7_V s_l08Source_9aa7_A s_l08Source_9aa7_b := (loopsOK_all (n := 1) (by kernel_rfl) fun k hk => by
   match k, hk with
   | 0, _ => exact loopOK_at (id := 3) (L := s_l08Source_9aa7_l3_L) (by kernel_rfl) (by kernel_rfl) s_l08Source_9aa7_l3_ok)
 refine (contract_of (F := s_l08Source_9aa7_I) tau_tys s_l08Source_9aa7_env Try.func108 (by kernel_rfl) (by kernel_rfl) (by kernel_rfl) hl []).weaken ?_
 rintro ⟨av, rs⟩ co h
 have h : (s_l08Source_9aa7_G av rs).run some = some co := h
 obtain ⟨a0_, av0, rfl, h_0⟩ := asCons_spec h
 obtain ⟨rfl, h_1⟩ := asEnd_spec h_0
 obtain ⟨r0_, rs0, rfl, h_2⟩ := asCons_spec h_1
 obtain ⟨rfl, h_3⟩ := asEnd_spec h_2
 obtain ⟨rfl, h_4⟩ := asPtr_spec h_3
 obtain ⟨m1, d2, rfl, h_5⟩ := asRt_spec h_4
 obtain ⟨z3, rfl, h_6⟩ := asMImm_spec h_5
 exact fin_opt (s_l08Source_9aa7_eq z3 d2) (s_l08Source_9aa7_spec d2) h_6
end Go.Proofs.Ytddaclhjnkimfaa

namespace Go.Proofs.Ytddaclhjnkimfaa
open Go Go.Abs Go.Proofs
noncomputable def s_l02Bit (p0 : Int) (p1 : Int) : Tre Int :=
 .ite (0 ≤ iwrap .u64 p1) <|
 let v1 := ishr .i64 p0 (iwrap .u64 p1)
 .ret (iand .i64 v1 1)
noncomputable def s_l02Bit_F (p0 : Int) (p1 : Int) : Option Int := (s_l02Bit p0 p1).run some
def bitR (x j : Int) : Option Int := askO (inR j 0 9223372036854775807) (iand .i64 (ishr .i64 x j) 1)
theorem s_l02Bit_spec (p0 p1 : Int) (y : Int) (h : bitR p0 p1 = some y) : s_l02Bit_F p0 p1 = some y := by
 obtain ⟨hl, rfl⟩ := askO_some h
 rw [inR_iff] at hl
 unfold s_l02Bit_F s_l02Bit
 rw [iwrap_u64 hl.1 (by omega), Tre.run_ite, if_pos hl.1]
 rfl
theorem bitR_nat {x : Int} {j : Nat} (h : j ≤ 1048576) : bitR x (j : Int) = some (iand .i64 (ishr .i64 x j) 1) := askO_true (by rw [inR_iff]; omega)
noncomputable def s_l02Bit_V : Env := ⟨tau, [], []⟩
noncomputable def s_l02Bit_b : Code := (Try.f100.body).getD .skip
noncomputable def s_l02Bit_I : FnI := ⟨s_l02Bit_b, Try.f100.results.toList, Try.f100.resultTypes.toList, []⟩
noncomputable def s_l02Bit_out (_p0 : Int) (_p1 : Int) : Int → CallOut := fun r => ⟨(.imm true (.int .i64) r), [], []⟩
set_option maxRecDepth 100000 in
theorem s_l02Bit_eq : ∀ (p0 : Int) (p1 : Int), denFn s_l02Bit_V s_l02Bit_I ⟨[(.imm true (.int .i64) p0), (.imm true (.int .i64) p1)], []⟩ = (s_l02Bit p0 p1).run fun r => some (s_l02Bit_out p0 p1 r) := fun _ _ => by kernel_rfl
noncomputable def s_l02Bit_G (av : List AV) (rs : List Root) : Tre CallOut :=
 asCons av fun a0_ av0 =>
 asCons av0 fun a1_ av1 =>
 asEnd av1 <|
 asEnd rs <|
 asImmZ true (.int .i64) a0_ fun d1 =>
 asImmZ true (.int .i64) a1_ fun d2 =>
 .mat (bitR d1 d2) fun r => .ret (s_l02Bit_out d1 d2 r)
noncomputable def s_l02Bit_c : Ctr := ⟨[], fun ci => s_l02Bit_G ci.args ci.roots⟩
theorem s_l02Bit_env : EnvOK Try.prog s_l02Bit_V := envOK_nil
set_option maxRecDepth 100000 in
theorem s_l02Bit_ok : Contract Try.prog 100 s_l02Bit_c := by
 have hl : LoopsOK s_l02Bit_V [] s_l02Bit_b := loopsOK_nil (by kernel_rfl)
 refine (contract_of (F := s_l02Bit_I) tau_tys s_l02Bit_env Try.func100 (by kernel_rfl) (by kernel_rfl) (by kernel_rfl) hl []).weaken ?_
 rintro ⟨av, rs⟩ co h
 have h : (s_l02Bit_G av rs).run some = some co := h
 obtain ⟨a0_, av0, rfl, h_0⟩ := asCons_spec h
 obtain ⟨a1_, av1, rfl, h_1⟩ := asCons_spec h_0
 obtain ⟨rfl, h_2⟩ := asEnd_spec h_1
 obtain ⟨rfl, h_3⟩ := asEnd_spec h_2
 obtain ⟨d1, rfl, h_4⟩ := asImmZ_spec h_3
 obtain ⟨d2, rfl, h_5⟩ := asImmZ_spec h_4
 exact fin_opt (s_l02Bit_eq d1 d2) (s_l02Bit_spec d1 d2) h_5
end Go.Proofs.Ytddaclhjnkimfaa

namespace Go.Proofs.Ytddaclhjnkimfaa
open Go Go.Abs Go.Proofs
noncomputable def s_l02Times_l3 (h3_0_0 : Int) (h3_0_1 : (List Int)) : (Int × Int) → Tre ((Int × Int) ⊕ Int) := fun s3 =>
 .cond (decide (s3.2 < (h3_0_1.length : Int)))
  (.mat (bitR h3_0_0 s3.2) fun r1 =>
  .cond (decide (r1 = 1))
   (.ite (0 ≤ s3.2 ∧ s3.2 < (h3_0_1.length : Int)) <|
   .mat (h3_0_1[s3.2.toNat]?) fun x2 =>
   .ret (.inl (ixor .i64 s3.1 x2, iwrap .i64 (s3.2 + 1))))
   (.ret (.inl (s3.1, iwrap .i64 (s3.2 + 1)))))
  (.ret (.inr s3.1))
noncomputable def s_l02Times (p0 : Int) (p1 : (List Int)) : Tre Int :=
 .mat (loopF (s_l02Times_l3 p0 p1) (0, 0)) fun l3 =>
 .ret l3
noncomputable def s_l02Times_F (p0 : Int) (p1 : (List Int)) : Option Int := (s_l02Times p0 p1).run some
def timesR (a : Int) (xs : List Int) : Option Int := lim xs.length (timesL a xs)
theorem s_l02Times_spec (p0 : Int) (p1 : List Int) (y : Int) (h : timesR p0 p1 = some y) : s_l02Times_F p0 p1 = some y := by
 obtain ⟨hl, rfl⟩ := lim_some h
 unfold s_l02Times_F s_l02Times
 rw [Tre.run_mat]
 have := fold_loop' (xs := p1) (step := s_l02Times_l3 p0 p1) (fun i acc => (acc, (i : Int))) (fun i acc x => .inl (cond (bitAt p0 (i : Int)) (ixor .i64 acc x) acc)) id (by
  intro i acc x hx
  have hi : i < p1.length := (List.getElem?_eq_some_iff.1 hx).1
  unfold s_l02Times_l3
  rw [Tre.run_cond, show decide (((acc, (i : Int)) : Int × Int).2 < (p1.length : Int)) = true from by simpa using hi, cond_true, run_some_mat (bitR_nat (by omega) : bitR p0 (i : Int) = _), Tre.run_cond]
  show cond (bitAt p0 (i : Int)) _ _ = _
  cases bitAt p0 (i : Int)
  ·rw [cond_false, Tre.run_ret, iwrap_succ (by omega)]; rfl
  ·rw [cond_true, run_at hx, Tre.run_ret, iwrap_succ (by omega)]; rfl)
  (by
  intro acc
  unfold s_l02Times_l3
  exact run_out) 0
 rw [show ((0 : Int), (0 : Int)) = (0, ((0 : Nat) : Int)) from rfl, this]
 rfl
noncomputable def s_l02Times_V : Env := ⟨tau, [(100, s_l02Bit_c)], []⟩
noncomputable def s_l02Times_b : Code := (Try.f73.body).getD .skip
noncomputable def s_l02Times_l3_mk (z3_0 : Bool) (h3_0_0 : Int) (h3_0_1 : (List Int)) : (Int × Int) → St := fun x => stOf [(0, (.imm true (.int .i64) h3_0_0)), (1, (.imm z3_0 (.sl (.int .i64)) h3_0_1)), (5, (.imm true (.int .i64) x.1)), (6, (.imm true (.int .i64) x.2))] []
noncomputable def s_l02Times_l3_out (_z3_0 : Bool) (_h3_0_0 : Int) (_h3_0_1 : (List Int)) : Int → Ex × St := fun x => (.exit 0, stOf [(5, (.imm true (.int .i64) x))] [])
noncomputable def s_l02Times_l3_D (s : St) : Tre (Ex × St) :=
 asImmZ true (.int .i64) (s.tmps 0) fun d2 =>
 asImm (.sl (.int .i64)) (s.tmps 1) fun z5 d4 =>
 asImmZ true (.int .i64) (s.tmps 5) fun d7 =>
 asImmZ true (.int .i64) (s.tmps 6) fun d9 =>
 .mat (loopF (s_l02Times_l3 d2 d4) (d7, d9)) fun x => .ret (s_l02Times_l3_out z5 d2 d4 x)
noncomputable def s_l02Times_l3_L : LoopI := ⟨([0, 1, 5, 6], []), ([5], []), s_l02Times_l3_D⟩
noncomputable def s_l02Times_A : List (Nat × LoopI) := [(3, s_l02Times_l3_L)]
set_option maxRecDepth 100000 in
theorem s_l02Times_l3_step : ∀ (z3_0 : Bool) (h3_0_0 : Int) (h3_0_1 : (List Int)) (x : (Int × Int)) (c : St → Option (Ex × St)), den s_l02Times_V s_l02Times_A (loopAt s_l02Times_b 0) (s_l02Times_l3_mk z3_0 h3_0_0 h3_0_1 x) (roundK s_l02Times_l3_L.kp s_l02Times_l3_L.kx c) = (s_l02Times_l3 h3_0_0 h3_0_1 x).run (roundR (s_l02Times_l3_mk z3_0 h3_0_0 h3_0_1) (s_l02Times_l3_out z3_0 h3_0_0 h3_0_1) c) := fun _ _ _ _ _ => by
 kernel_rfl
theorem s_l02Times_l3_ok : LoopOK s_l02Times_V s_l02Times_A (loopAt s_l02Times_b 0) s_l02Times_l3_L := loopOK_of fun s e s' h => by
 generalize hs : restrict s_l02Times_l3_L.kp s = s1 at h
 have h : (s_l02Times_l3_D s1).run some = some (e, s') := h
 obtain ⟨d2, e1, h_0⟩ := asImmZ_spec h
 obtain ⟨z5, d4, e3, h_1⟩ := asImm_spec h_0
 obtain ⟨d7, e6, h_2⟩ := asImmZ_spec h_1
 obtain ⟨d9, e8, h_3⟩ := asImmZ_spec h_2
 obtain ⟨y, hy, hz⟩ := mat_ret h_3
 refine ⟨_, _, s_l02Times_l3_mk z5 d2 d4, s_l02Times_l3_out z5 d2 d4, s_l02Times_l3 d2 d4, (d7, d9), y, ?_, hy, ?_, s_l02Times_l3_step z5 d2 d4⟩
 ·subst hs; exact restrict_eq (T := [(0, (.imm true (.int .i64) d2)), (1, (.imm z5 (.sl (.int .i64)) d4)), (5, (.imm true (.int .i64) d7)), (6, (.imm true (.int .i64) d9))]) (U := []) rfl rfl ⟨e1, e3, e6, e8, trivial⟩ trivial
 ·exact Option.some.inj hz
noncomputable def s_l02Times_I : FnI := ⟨s_l02Times_b, Try.f73.results.toList, Try.f73.resultTypes.toList, s_l02Times_A⟩
noncomputable def s_l02Times_out (_zp0 : Bool) (_p0 : Int) (_p1 : (List Int)) : Int → CallOut := fun r => ⟨(.imm true (.int .i64) r), [], []⟩
set_option maxRecDepth 100000 in
theorem s_l02Times_eq : ∀ (zp0 : Bool) (p0 : Int) (p1 : (List Int)), denFn s_l02Times_V s_l02Times_I ⟨[(.imm true (.int .i64) p0), (.imm zp0 (.sl (.int .i64)) p1)], []⟩ = (s_l02Times p0 p1).run fun r => some (s_l02Times_out zp0 p0 p1 r) := fun _ _ _ => by kernel_rfl
noncomputable def s_l02Times_G (av : List AV) (rs : List Root) : Tre CallOut :=
 asCons av fun a0_ av0 =>
 asCons av0 fun a1_ av1 =>
 asEnd av1 <|
 asEnd rs <|
 asImmZ true (.int .i64) a0_ fun d1 =>
 asImm (.sl (.int .i64)) a1_ fun z3 d2 =>
 .mat (timesR d1 d2) fun r => .ret (s_l02Times_out z3 d1 d2 r)
noncomputable def s_l02Times_c : Ctr := ⟨[], fun ci => s_l02Times_G ci.args ci.roots⟩
theorem s_l02Times_env : EnvOK Try.prog s_l02Times_V := (envOK_cons s_l02Bit_ok ent100 envOK_nil)
set_option maxRecDepth 100000 in
theorem s_l02Times_ok : Contract Try.prog 73 s_l02Times_c := by
 have hl : LoopsOK s_l02Times_V s_l02Times_A s_l02Times_b := (loopsOK_all (n := 1) (by kernel_rfl) fun k hk => by
   match k, hk with
   | 0, _ => exact loopOK_at (id := 3) (L := s_l02Times_l3_L) (by kernel_rfl) (by kernel_rfl) s_l02Times_l3_ok)
 refine (contract_of (F := s_l02Times_I) tau_tys s_l02Times_env Try.func73 (by kernel_rfl) (by kernel_rfl) (by kernel_rfl) hl []).weaken ?_
 rintro ⟨av, rs⟩ co h
 have h : (s_l02Times_G av rs).run some = some co := h
 obtain ⟨a0_, av0, rfl, h_0⟩ := asCons_spec h
 obtain ⟨a1_, av1, rfl, h_1⟩ := asCons_spec h_0
 obtain ⟨rfl, h_2⟩ := asEnd_spec h_1
 obtain ⟨rfl, h_3⟩ := asEnd_spec h_2
 obtain ⟨d1, rfl, h_4⟩ := asImmZ_spec h_3
 obtain ⟨z3, d2, rfl, h_5⟩ := asImm_spec h_4
 exact fin_opt (s_l02Times_eq z3 d1 d2) (s_l02Times_spec d1 d2) h_5
end Go.Proofs.Ytddaclhjnkimfaa

namespace Go.Proofs.Ytddaclhjnkimfaa
open Go Go.Abs Go.Proofs
noncomputable def s_l00In (p0 : Int) (p1 : Int) (p2 : Int) : Tre Bool :=
 .cond (decide (p0 ≥ p1))
  (.ret (decide (p0 ≤ p2)))
  (.ret false)
noncomputable def s_l00In_F (p0 : Int) (p1 : Int) (p2 : Int) : Option Bool := (s_l00In p0 p1 p2).run some
theorem s_l00In_spec (n a b : Int) : s_l00In_F n a b = some (inR n a b) := by
 unfold s_l00In_F s_l00In inR
 by_cases h : a ≤ n
 ·simp [Tre.run_cond, Tre.run_ret, h]
 ·simp [Tre.run_cond, Tre.run_ret, h]
noncomputable def s_l00In_V : Env := ⟨tau, [], []⟩
noncomputable def s_l00In_b : Code := (Try.f72.body).getD .skip
noncomputable def s_l00In_I : FnI := ⟨s_l00In_b, Try.f72.results.toList, Try.f72.resultTypes.toList, []⟩
noncomputable def s_l00In_out (_p0 : Int) (_p1 : Int) (_p2 : Int) : Bool → CallOut := fun r => ⟨(.imm true .bool r), [], []⟩
set_option maxRecDepth 100000 in
theorem s_l00In_eq : ∀ (p0 : Int) (p1 : Int) (p2 : Int), denFn s_l00In_V s_l00In_I ⟨[(.imm true (.int .i64) p0), (.imm true (.int .i64) p1), (.imm true (.int .i64) p2)], []⟩ = (s_l00In p0 p1 p2).run fun r => some (s_l00In_out p0 p1 p2 r) := fun _ _ _ => by kernel_rfl
noncomputable def s_l00In_G (av : List AV) (rs : List Root) : Tre CallOut :=
 asCons av fun a0_ av0 =>
 asCons av0 fun a1_ av1 =>
 asCons av1 fun a2_ av2 =>
 asEnd av2 <|
 asEnd rs <|
 asImmZ true (.int .i64) a0_ fun d1 =>
 asImmZ true (.int .i64) a1_ fun d2 =>
 asImmZ true (.int .i64) a2_ fun d3 =>
 .ret (s_l00In_out d1 d2 d3 (inR d1 d2 d3))
noncomputable def s_l00In_c : Ctr := ⟨[], fun ci => s_l00In_G ci.args ci.roots⟩
theorem s_l00In_env : EnvOK Try.prog s_l00In_V := envOK_nil
set_option maxRecDepth 100000 in
theorem s_l00In_ok : Contract Try.prog 72 s_l00In_c := by
 have hl : LoopsOK s_l00In_V [] s_l00In_b := loopsOK_nil (by kernel_rfl)
 refine (contract_of (F := s_l00In_I) tau_tys s_l00In_env Try.func72 (by kernel_rfl) (by kernel_rfl) (by kernel_rfl) hl []).weaken ?_
 rintro ⟨av, rs⟩ co h
 have h : (s_l00In_G av rs).run some = some co := h
 obtain ⟨a0_, av0, rfl, h_0⟩ := asCons_spec h
 obtain ⟨a1_, av1, rfl, h_1⟩ := asCons_spec h_0
 obtain ⟨a2_, av2, rfl, h_2⟩ := asCons_spec h_1
 obtain ⟨rfl, h_3⟩ := asEnd_spec h_2
 obtain ⟨rfl, h_4⟩ := asEnd_spec h_3
 obtain ⟨d1, rfl, h_5⟩ := asImmZ_spec h_4
 obtain ⟨d2, rfl, h_6⟩ := asImmZ_spec h_5
 obtain ⟨d3, rfl, h_7⟩ := asImmZ_spec h_6
 exact fin_ret (s_l00In_eq d1 d2 d3) (s_l00In_spec d1 d2 d3) h_7
end Go.Proofs.Ytddaclhjnkimfaa

namespace Go.Proofs.Ytddaclhjnkimfaa
open Go Go.Abs Go.Proofs
noncomputable def s_l08Ok_9aa7_l4 (h4_0_1 : TGather) : Int → Tre (Int ⊕ (Bool ⊕ Unit)) := fun s4 =>
 .cond (decide (s4 < (h4_0_1.2.2.1.length : Int)))
  (.ite (0 ≤ s4 ∧ s4 < (h4_0_1.2.2.1.length : Int)) <|
  .mat (h4_0_1.2.2.1[s4.toNat]?) fun x1 =>
  .ite (0 ≤ iwrap .u64 h4_0_1.2.1) <|
  let v2 := ishl .i64 1 (iwrap .u64 h4_0_1.2.1)
  let v3 := inR x1 0 (iwrap .i64 (v2 - 1))
  .cond (!v3)
   (.ret (.inr (.inl false)))
   (.ret (.inl (iwrap .i64 (s4 + 1)))))
  (.ret (.inr (.inr ())))
noncomputable def s_l08Ok_9aa7 (p0 : TGather) : Tre Bool :=
 .cond (!(inR p0.1 1 4))
  (.ret false)
  (.cond (!(inR p0.2.1 1 6))
   (.ret false)
   (.cond (!decide ((p0.2.2.1.length : Int) = p0.1))
    (.ret false)
    (.mat (loopF (s_l08Ok_9aa7_l4 p0) 0) fun l4 =>
    .alt l4
     (fun a5 =>
      .ret a5)
     (fun _ =>
      .cond (inR p0.2.2.2.1 0 3)
       (.ret (inR p0.2.2.2.2.1 1 3))
       (.ret false)))))
noncomputable def s_l08Ok_9aa7_F (p0 : TGather) : Option Bool := (s_l08Ok_9aa7 p0).run some
def isG (p : Int × Int × List Int × Int × Int × Unit) : Bool := inR p.1 1 4 && inR p.2.1 1 6 && decide ((p.2.2.1.length : Int) = p.1) && p.2.2.1.all (inP p.2.1) && inR p.2.2.2.1 0 3 && inR p.2.2.2.2.1 1 3
def okG (p : Int × Int × List Int × Int × Int × Unit) : Option Bool := lim p.2.2.1.length (isG p)
theorem s_l08Ok_9aa7_l4_all (p0 : Int × Int × List Int × Int × Int × Unit) (h : inR p0.2.1 1 6 = true) (hl : p0.2.2.1.length ≤ 1048576) : loopF (s_l08Ok_9aa7_l4 p0) 0 = some (cond (p0.2.2.1.all (inP p0.2.1)) (.inr ()) (.inl false)) := by
 rw [inR_iff] at h
 have hw : iwrap .u64 p0.2.1 = p0.2.1 := iwrap_u64 (by omega) (by omega)
 rw [find_loop (xs := p0.2.2.1) (fun _ x => cond (inP p0.2.1 x) none (some (.inl false))) (.inr ()), findE_all]
 ·intro i x hx
  have hi : i < p0.2.2.1.length := (List.getElem?_eq_some_iff.1 hx).1
  unfold s_l08Ok_9aa7_l4
  rw [run_inb hx, hw, Tre.run_ite, if_pos (by omega), Tre.run_cond]
  show cond (!inP p0.2.1 x) _ _ = _
  cases inP p0.2.1 x
  ·rfl
  ·simp only [Bool.not_true, cond_false, cond_true, Tre.run_ret, iwrap_succ (show i < 4611686018427387904 by omega)]
 ·unfold s_l08Ok_9aa7_l4
  exact run_out
theorem s_l08Ok_9aa7_spec (p0 : Int × Int × List Int × Int × Int × Unit) (y : Bool) (h : okG p0 = some y) : s_l08Ok_9aa7_F p0 = some y := by
 obtain ⟨hl, rfl⟩ := lim_some h
 unfold s_l08Ok_9aa7_F s_l08Ok_9aa7 isG
 simp only [Tre.run_cond, Tre.run_mat, Tre.run_ret]
 cases h1 : inR p0.1 1 4
 ·rfl
 cases h2 : inR p0.2.1 1 6
 ·rfl
 cases h3 : decide ((p0.2.2.1.length : Int) = p0.1)
 ·rfl
 simp only [Bool.not_true, cond_false, Bool.true_and]
 rw [s_l08Ok_9aa7_l4_all p0 h2 hl, Option.bind_some]
 cases p0.2.2.1.all (inP p0.2.1)
 ·rfl
 cases h4 : inR p0.2.2.2.1 0 3
 ·simp [Tre.run_inr, Tre.run_cond, Tre.run_ret, h4]
 ·simp [Tre.run_inr, Tre.run_cond, Tre.run_ret, h4]
noncomputable def s_l08Ok_9aa7_V : Env := ⟨tau, [(72, s_l00In_c)], []⟩
noncomputable def s_l08Ok_9aa7_b : Code := (Try.f83.body).getD .skip
noncomputable def s_l08Ok_9aa7_l4_mk (z4_0 : Bool) (h4_0_1 : TGather) : Int → St := fun x => stOf [(0, (.ptr (0, 0) [])), (3, (.imm true (.int .i64) x))] [((0, 0), some ⟨true, kGather, (.imm z4_0), h4_0_1⟩)]
noncomputable def s_l08Ok_9aa7_l4_out (z4_0 : Bool) (h4_0_1 : TGather) : (Bool ⊕ Unit) → Ex × St
 | .inl x => (.ret, stOf [(0, (.ptr (0, 0) [])), (2, (.imm true .bool x))] [((0, 0), some ⟨true, kGather, (.imm z4_0), h4_0_1⟩)])
 | .inr x => (.exit 0, stOf [(0, (.ptr (0, 0) [])), (2, .dead)] [((0, 0), some ⟨true, kGather, (.imm z4_0), h4_0_1⟩)])
noncomputable def s_l08Ok_9aa7_l4_D (s : St) : Tre (Ex × St) :=
 asPtr (0, 0) [] (s.tmps 0) <|
 asImmZ true (.int .i64) (s.tmps 3) fun d3 =>
 asRoot true kGather (s.roots (0, 0)) fun m5 d6 =>
 asMImm m5 fun z7 =>
 .mat (loopF (s_l08Ok_9aa7_l4 d6) d3) fun x => .alt x (fun a0 => .ret (s_l08Ok_9aa7_l4_out z7 d6 (.inl a0))) (fun b0 => .ret (s_l08Ok_9aa7_l4_out z7 d6 (.inr b0)))
noncomputable def s_l08Ok_9aa7_l4_L : LoopI := ⟨([0, 3], [(0, 0)]), ([0, 2], [(0, 0)]), s_l08Ok_9aa7_l4_D⟩
noncomputable def s_l08Ok_9aa7_A : List (Nat × LoopI) := [(4, s_l08Ok_9aa7_l4_L)]
set_option maxRecDepth 100000 in
theorem s_l08Ok_9aa7_l4_step : ∀ (z4_0 : Bool) (h4_0_1 : TGather) (x : Int) (c : St → Option (Ex × St)), den s_l08Ok_9aa7_V s_l08Ok_9aa7_A (loopAt s_l08Ok_9aa7_b 0) (s_l08Ok_9aa7_l4_mk z4_0 h4_0_1 x) (roundK s_l08Ok_9aa7_l4_L.kp s_l08Ok_9aa7_l4_L.kx c) = (s_l08Ok_9aa7_l4 h4_0_1 x).run (roundR (s_l08Ok_9aa7_l4_mk z4_0 h4_0_1) (s_l08Ok_9aa7_l4_out z4_0 h4_0_1) c) := fun _ _ _ _ => by
 kernel_rfl
theorem s_l08Ok_9aa7_l4_ok : LoopOK s_l08Ok_9aa7_V s_l08Ok_9aa7_A (loopAt s_l08Ok_9aa7_b 0) s_l08Ok_9aa7_l4_L := loopOK_of fun s e s' h => by
 generalize hs : restrict s_l08Ok_9aa7_l4_L.kp s = s1 at h
 have h : (s_l08Ok_9aa7_l4_D s1).run some = some (e, s') := h
 obtain ⟨e1, h_0⟩ := asPtr_spec h
 obtain ⟨d3, e2, h_1⟩ := asImmZ_spec h_0
 obtain ⟨m5, d6, e4, h_2⟩ := asRoot_spec h_1
 obtain ⟨z7, rfl, h_3⟩ := asMImm_spec h_2
 obtain ⟨y, hy, hz⟩ := mat_some h_3
 refine ⟨_, _, s_l08Ok_9aa7_l4_mk z7 d6, s_l08Ok_9aa7_l4_out z7 d6, s_l08Ok_9aa7_l4 d6, d3, y, ?_, hy, ?_, s_l08Ok_9aa7_l4_step z7 d6⟩
 ·subst hs; exact restrict_eq (T := [(0, (.ptr (0, 0) [])), (3, (.imm true (.int .i64) d3))]) (U := [((0, 0), some ⟨true, kGather, (.imm z7), d6⟩)]) rfl rfl ⟨e1, e2, trivial⟩ ⟨e4, trivial⟩
 ·rcases y with x | x <;> exact Option.some.inj hz
noncomputable def s_l08Ok_9aa7_I : FnI := ⟨s_l08Ok_9aa7_b, Try.f83.results.toList, Try.f83.resultTypes.toList, s_l08Ok_9aa7_A⟩
noncomputable def s_l08Ok_9aa7_out (zp0 : Bool) (p0 : TGather) : Bool → CallOut := fun r => ⟨(.imm true .bool r), [⟨true, kGather, (.imm zp0), p0⟩], []⟩
set_option maxRecDepth 100000 in
theorem s_l08Ok_9aa7_eq : ∀ (zp0 : Bool) (p0 : TGather), denFn s_l08Ok_9aa7_V s_l08Ok_9aa7_I ⟨[(.ptr (0, 0) [])], [⟨true, kGather, (.imm zp0), p0⟩]⟩ = (s_l08Ok_9aa7 p0).run fun r => some (s_l08Ok_9aa7_out zp0 p0 r) := fun _ _ => by kernel_rfl
noncomputable def s_l08Ok_9aa7_G (av : List AV) (rs : List Root) : Tre CallOut :=
 asCons av fun a0_ av0 =>
 asEnd av0 <|
 asCons rs fun r0_ rs0 =>
 asEnd rs0 <|
 asPtr (0, 0) [] a0_ <|
 asRt true kGather r0_ fun m1 d2 =>
 asMImm m1 fun z3 =>
 .mat (okG d2) fun r => .ret (s_l08Ok_9aa7_out z3 d2 r)
noncomputable def s_l08Ok_9aa7_c : Ctr := ⟨[], fun ci => s_l08Ok_9aa7_G ci.args ci.roots⟩
theorem s_l08Ok_9aa7_env : EnvOK Try.prog s_l08Ok_9aa7_V := (envOK_cons s_l00In_ok ent72 envOK_nil)
set_option maxRecDepth 100000 in
theorem s_l08Ok_9aa7_ok : Contract Try.prog 83 s_l08Ok_9aa7_c := by
 have hl : LoopsOK s_l08Ok_9aa7_V s_l08Ok_9aa7_A s_l08Ok_9aa7_b := (loopsOK_all (n := 1) (by kernel_rfl) fun k hk => by
   match k, hk with
   | 0, _ => exact loopOK_at (id := 4) (L := s_l08Ok_9aa7_l4_L) (by kernel_rfl) (by kernel_rfl) s_l08Ok_9aa7_l4_ok)
 refine (contract_of (F := s_l08Ok_9aa7_I) tau_tys s_l08Ok_9aa7_env Try.func83 (by kernel_rfl) (by kernel_rfl) (by kernel_rfl) hl []).weaken ?_
 rintro ⟨av, rs⟩ co h
 have h : (s_l08Ok_9aa7_G av rs).run some = some co := h
 obtain ⟨a0_, av0, rfl, h_0⟩ := asCons_spec h
 obtain ⟨rfl, h_1⟩ := asEnd_spec h_0
 obtain ⟨r0_, rs0, rfl, h_2⟩ := asCons_spec h_1
 obtain ⟨rfl, h_3⟩ := asEnd_spec h_2
 obtain ⟨rfl, h_4⟩ := asPtr_spec h_3
 obtain ⟨m1, d2, rfl, h_5⟩ := asRt_spec h_4
 obtain ⟨z3, rfl, h_6⟩ := asMImm_spec h_5
 exact fin_opt (s_l08Ok_9aa7_eq z3 d2) (s_l08Ok_9aa7_spec d2) h_6
end Go.Proofs.Ytddaclhjnkimfaa

namespace Go.Proofs.Ytddaclhjnkimfaa
open Go Go.Abs Go.Proofs
noncomputable def s_l08Words : Tre ((List ByteArray) × (List Int)) :=
 .ret ([(⟨#[]⟩ : ByteArray), (⟨#[115, 101, 110, 100]⟩ : ByteArray), (⟨#[100, 101, 108, 105, 118, 101, 114]⟩ : ByteArray), (⟨#[99, 111, 112, 121]⟩ : ByteArray), (⟨#[100, 114, 111, 112]⟩ : ByteArray), (⟨#[115, 112, 111, 105, 108]⟩ : ByteArray), (⟨#[115, 97, 118, 101]⟩ : ByteArray), (⟨#[99, 114, 97, 115, 104]⟩ : ByteArray), (⟨#[102, 111, 114, 103, 101, 116]⟩ : ByteArray)], [0, 3, 1, 1, 1, 2, 1, 1, 1])
noncomputable def s_l08Words_F : Option ((List ByteArray) × (List Int)) := (s_l08Words).run some
def s_l08Words_S : ((List ByteArray) × (List Int)) :=
 ([(⟨#[]⟩ : ByteArray), (⟨#[115, 101, 110, 100]⟩ : ByteArray), (⟨#[100, 101, 108, 105, 118, 101, 114]⟩ : ByteArray), (⟨#[99, 111, 112, 121]⟩ : ByteArray), (⟨#[100, 114, 111, 112]⟩ : ByteArray), (⟨#[115, 112, 111, 105, 108]⟩ : ByteArray), (⟨#[115, 97, 118, 101]⟩ : ByteArray), (⟨#[99, 114, 97, 115, 104]⟩ : ByteArray), (⟨#[102, 111, 114, 103, 101, 116]⟩ : ByteArray)], [0, 3, 1, 1, 1, 2, 1, 1, 1])
theorem s_l08Words_spec : s_l08Words_F = some s_l08Words_S := rfl
noncomputable def s_l08Words_V : Env := ⟨tau, [], []⟩
noncomputable def s_l08Words_b : Code := (Try.f107.body).getD .skip
noncomputable def s_l08Words_I : FnI := ⟨s_l08Words_b, Try.f107.results.toList, Try.f107.resultTypes.toList, []⟩
noncomputable def s_l08Words_out : ((List ByteArray) × (List Int)) → CallOut := fun r => ⟨(.tcons (.ref (1, 0) []) (.tcons (.ref (1, 1) []) .tnil)), [], [⟨false, (.sl .str), .own, r.1⟩, ⟨false, (.sl (.int .i64)), .own, r.2⟩]⟩
set_option maxRecDepth 100000 in
theorem s_l08Words_eq : denFn s_l08Words_V s_l08Words_I ⟨[], []⟩ = (s_l08Words).run fun r => some (s_l08Words_out r) := by kernel_rfl
noncomputable def s_l08Words_G (av : List AV) (rs : List Root) : Tre CallOut :=
 asEnd av <|
 asEnd rs <|
 .ret (s_l08Words_out s_l08Words_S)
noncomputable def s_l08Words_c : Ctr := ⟨[], fun ci => s_l08Words_G ci.args ci.roots⟩
theorem s_l08Words_env : EnvOK Try.prog s_l08Words_V := envOK_nil
set_option maxRecDepth 100000 in
theorem s_l08Words_ok : Contract Try.prog 107 s_l08Words_c := by
 have hl : LoopsOK s_l08Words_V [] s_l08Words_b := loopsOK_nil (by kernel_rfl)
 refine (contract_of (F := s_l08Words_I) tau_tys s_l08Words_env Try.func107 (by kernel_rfl) (by kernel_rfl) (by kernel_rfl) hl []).weaken ?_
 rintro ⟨av, rs⟩ co h
 have h : (s_l08Words_G av rs).run some = some co := h
 obtain ⟨rfl, h_0⟩ := asEnd_spec h
 obtain ⟨rfl, h_1⟩ := asEnd_spec h_0
 exact fin_ret (s_l08Words_eq) (s_l08Words_spec) h_1
end Go.Proofs.Ytddaclhjnkimfaa

namespace Go.Proofs.Ytddaclhjnkimfaa
open Go Go.Abs Go.Proofs
noncomputable def s_l08Deed (p0 : TDeed) : Tre Bool :=
 .cond (!(inR p0.1 1 8))
  (.ret false)
  (.cond (!(inR p0.2.1 0 9999))
   (.ret false)
   (.cond (!(inR p0.2.2.1 0 9999))
    (.ret false)
    (.cond (!(inR p0.2.2.2.1 0 9999))
     (.ret false)
     (.ite (0 ≤ p0.1 ∧ p0.1 < (s_l08Words_S.2.length : Int)) <|
     .mat (s_l08Words_S.2[p0.1.toNat]?) fun x1 =>
     .cond (decide (x1 > 1))
      (.ite (0 ≤ p0.1 ∧ p0.1 < (s_l08Words_S.2.length : Int)) <|
      .mat (s_l08Words_S.2[p0.1.toNat]?) fun x2 =>
      .cond (decide (x2 > 2))
       (.ret true)
       (.ret (decide (p0.2.2.2.1 = 0))))
      (.cond (decide (p0.2.2.1 = 0))
       (.ite (0 ≤ p0.1 ∧ p0.1 < (s_l08Words_S.2.length : Int)) <|
       .mat (s_l08Words_S.2[p0.1.toNat]?) fun x3 =>
       .cond (decide (x3 > 2))
        (.ret true)
        (.ret (decide (p0.2.2.2.1 = 0))))
       (.ret false))))))
noncomputable def s_l08Deed_F (p0 : TDeed) : Option Bool := (s_l08Deed p0).run some
def vDeed (p : Int × Int × Int × Int × Unit) : Bool :=
 inR p.1 1 8 && inR p.2.1 0 9999 && inR p.2.2.1 0 9999 && inR p.2.2.2.1 0 9999 &&
  (decide (p.1 = 1) || decide (p.1 = 5) || decide (p.2.2.1 = 0)) && (decide (p.1 = 1) || decide (p.2.2.2.1 = 0))
theorem kind_cases {k : Int} (h : inR k 1 8 = true) : k = 1 ∨ k = 2 ∨ k = 3 ∨ k = 4 ∨ k = 5 ∨ k = 6 ∨ k = 7 ∨ k = 8 := by
 rw [inR_iff] at h
 omega
theorem s_l08Deed_spec (p0 : Int × Int × Int × Int × Unit) : s_l08Deed_F p0 = some (vDeed p0) := by
 obtain ⟨k, a, b, c, ⟨⟩⟩ := p0
 unfold s_l08Deed_F s_l08Deed vDeed
 simp only [Tre.run_cond, Tre.run_ret, Tre.run_ite, Tre.run_mat]
 cases h1 : inR k 1 8 <;> simp only [Bool.not_true, Bool.not_false, cond_true, cond_false, Bool.false_and, Bool.true_and]
 cases h2 : inR a 0 9999 <;> simp only [Bool.not_true, Bool.not_false, cond_true, cond_false, Bool.false_and, Bool.true_and]
 cases h3 : inR b 0 9999 <;> simp only [Bool.not_true, Bool.not_false, cond_true, cond_false, Bool.false_and, Bool.true_and]
 cases h4 : inR c 0 9999 <;> simp only [Bool.not_true, Bool.not_false, cond_true, cond_false, Bool.false_and, Bool.true_and]
 rcases kind_cases h1 with rfl | rfl | rfl | rfl | rfl | rfl | rfl | rfl <;> (simp [s_l08Words_S]; try (by_cases hb : b = 0 <;> simp [hb]))
noncomputable def s_l08Deed_V : Env := ⟨tau, [(72, s_l00In_c), (107, s_l08Words_c)], []⟩
noncomputable def s_l08Deed_b : Code := (Try.f84.body).getD .skip
noncomputable def s_l08Deed_I : FnI := ⟨s_l08Deed_b, Try.f84.results.toList, Try.f84.resultTypes.toList, []⟩
noncomputable def s_l08Deed_out (_p0 : TDeed) : Bool → CallOut := fun r => ⟨(.imm true .bool r), [], []⟩
set_option maxRecDepth 100000 in
theorem s_l08Deed_eq : ∀ (p0 : TDeed), denFn s_l08Deed_V s_l08Deed_I ⟨[(.imm true kDeed p0)], []⟩ = (s_l08Deed p0).run fun r => some (s_l08Deed_out p0 r) := fun _ => by kernel_rfl
noncomputable def s_l08Deed_G (av : List AV) (rs : List Root) : Tre CallOut :=
 asCons av fun a0_ av0 =>
 asEnd av0 <|
 asEnd rs <|
 asImmZ true kDeed a0_ fun d1 =>
 .ret (s_l08Deed_out d1 (vDeed d1))
noncomputable def s_l08Deed_c : Ctr := ⟨[], fun ci => s_l08Deed_G ci.args ci.roots⟩
theorem s_l08Deed_env : EnvOK Try.prog s_l08Deed_V := (envOK_cons s_l00In_ok ent72 (envOK_cons s_l08Words_ok ent107 envOK_nil))
set_option maxRecDepth 100000 in
theorem s_l08Deed_ok : Contract Try.prog 84 s_l08Deed_c := by
 have hl : LoopsOK s_l08Deed_V [] s_l08Deed_b := loopsOK_nil (by kernel_rfl)
 refine (contract_of (F := s_l08Deed_I) tau_tys s_l08Deed_env Try.func84 (by kernel_rfl) (by kernel_rfl) (by kernel_rfl) hl []).weaken ?_
 rintro ⟨av, rs⟩ co h
 have h : (s_l08Deed_G av rs).run some = some co := h
 obtain ⟨a0_, av0, rfl, h_0⟩ := asCons_spec h
 obtain ⟨rfl, h_1⟩ := asEnd_spec h_0
 obtain ⟨rfl, h_2⟩ := asEnd_spec h_1
 obtain ⟨d1, rfl, h_3⟩ := asImmZ_spec h_2
 exact fin_ret (s_l08Deed_eq d1) (s_l08Deed_spec d1) h_3
end Go.Proofs.Ytddaclhjnkimfaa

namespace Go.Proofs.Ytddaclhjnkimfaa
open Go Go.Abs Go.Proofs
noncomputable def s_l08Run_send_9d6c (p0 : TDeed) (p1 : (TPlant × Unit)) (_p2 : TGather) : Tre (Int × (TPlant × Unit)) :=
 .cond (decide (p0.2.1 ≥ (p1.1.1.length : Int)))
  (.ret (2, p1))
  (.cond (decide (p0.2.2.1 ≥ (p1.1.1.length : Int)))
   (.ret (2, p1))
   (.cond (decide (p0.2.1 = p0.2.2.1))
    (.ret (2, p1))
    (.cond (decide (p0.2.2.1 = 0))
     (.ret (2, p1))
     (.ite (0 ≤ p0.2.1 ∧ p0.2.1 < (p1.1.1.length : Int)) <|
     .mat (p1.1.1[p0.2.1.toNat]?) fun _ =>
     .mat (p1.1.1[p0.2.1.toNat]?) fun x2 =>
     let v3 := iwrap .u64 (x2.1.length : Int)
     .ite (0 ≤ v3) <|
     .cond (decide (p0.2.2.2.1 ≥ ishl .i64 1 v3))
      (.ret (2, p1))
      (.cond (decide (p0.2.2.2.1 = 0))
       (.ret (4, p1))
       (.cond (decide ((p1.1.2.1.length : Int) = 12))
        (.ret (3, p1))
        (.mat (p1.1.1[p0.2.1.toNat]?) fun x4 =>
        .mat (timesR p0.2.2.2.1 x4.1) fun r5 =>
        .ite ((p1.1.2.1.length + 1) * 16 ≤ appendMax ∧ 1 ≤ 16) <|
        let v6 := p1.1.2.1 ++ ([(p0.2.2.1, (r5, ()))])
        .ret (0, ((p1.1.1, (v6, p1.1.2.2)), p1.2)))))))))
noncomputable def s_l08Run_send_9d6c_F (p0 : TDeed) (p1 : (TPlant × Unit)) (p2 : TGather) : Option (Int × (TPlant × Unit)) := (s_l08Run_send_9d6c p0 p1 p2).run some
abbrev G8 := Int × Int × List Int × Int × Int × Unit
abbrev D8 := Int × Int × Int × Int × Unit
abbrev P8 := List (List Int × List Int × Unit) × List (Int × Int × Unit) × Unit
def colsG (g : G8) : Nat := (g.1 + g.2.1).toNat
def statG (g : G8) : Int := 1 + g.2.2.2.1 + g.2.2.2.2.1
def okRow (b : Nat) (x : Int) : Bool := decide (0 ≤ x) && decide (x < ((2 ^ b : Nat) : Int))
def okS (k b : Nat) (xs : List Int) : Bool := decide (xs.length ≤ k) && xs.all (okRow b)
def okP (k : Nat) (g : G8) (p : P8) : Bool :=
 decide ((p.1.length : Int) = statG g) && p.1.all (fun s => okS k (colsG g) s.1 && okS k (colsG g) s.2.1) && decide (p.2.1.length ≤ 12) && p.2.1.all (fun x => inR x.1 0 (statG g - 1) && okRow (colsG g) x.2.1)
theorem isG_spec {g : G8} (h : isG g = true) : 1 ≤ g.1 ∧ g.1 ≤ 4 ∧ 1 ≤ g.2.1 ∧ g.2.1 ≤ 6 ∧ 0 ≤ g.2.2.2.1 ∧ g.2.2.2.1 ≤ 3 ∧ 1 ≤ g.2.2.2.2.1 ∧ g.2.2.2.2.1 ≤ 3 ∧ (g.2.2.1.length : Int) = g.1 := by
 unfold isG at h
 simp only [Bool.and_eq_true, inR_iff, decide_eq_true_eq] at h
 obtain ⟨⟨⟨⟨⟨h1, h2⟩, h3⟩, _⟩, h5⟩, h6⟩ := h
 exact ⟨h1.1, h1.2, h2.1, h2.2, h5.1, h5.2, h6.1, h6.2, h3⟩
theorem vDeed_rng {d : D8} (h : vDeed d = true) : (0 ≤ d.2.1 ∧ d.2.1 ≤ 9999) ∧ (0 ≤ d.2.2.1 ∧ d.2.2.1 ≤ 9999) ∧ (0 ≤ d.2.2.2.1 ∧ d.2.2.2.1 ≤ 9999) ∧ inR d.1 1 8 = true := by
 unfold vDeed at h
 simp only [Bool.and_eq_true] at h
 obtain ⟨⟨⟨⟨⟨h0, h1⟩, h2⟩, h3⟩, _⟩, _⟩ := h
 exact ⟨inR_iff.1 h1, inR_iff.1 h2, inR_iff.1 h3, h0⟩
theorem okP_spec {k : Nat} {g : G8} {p : P8} (h : okP k g p = true) : (p.1.length : Int) = statG g ∧ (∀ s ∈ p.1, okS k (colsG g) s.1 = true ∧ okS k (colsG g) s.2.1 = true) ∧ p.2.1.length ≤ 12 ∧ ∀ x ∈ p.2.1, (0 ≤ x.1 ∧ x.1 ≤ statG g - 1) ∧ okRow (colsG g) x.2.1 = true := by
 unfold okP at h
 simp only [Bool.and_eq_true, decide_eq_true_eq, List.all_eq_true] at h
 obtain ⟨⟨⟨h1, h2⟩, h3⟩, h4⟩ := h
 exact ⟨h1, h2, h3, fun x hx => ⟨inR_iff.1 (h4 x hx).1, (h4 x hx).2⟩⟩
theorem okP_mk {k : Nat} {g : G8} {p : P8} (h1 : (p.1.length : Int) = statG g) (h2 : ∀ s ∈ p.1, okS k (colsG g) s.1 = true ∧ okS k (colsG g) s.2.1 = true) (h3 : p.2.1.length ≤ 12)
  (h4 : ∀ x ∈ p.2.1, (0 ≤ x.1 ∧ x.1 ≤ statG g - 1) ∧ okRow (colsG g) x.2.1 = true) : okP k g p = true := by
 unfold okP
 simp only [Bool.and_eq_true, decide_eq_true_eq, List.all_eq_true]
 exact ⟨⟨⟨h1, h2⟩, h3⟩, fun x hx => ⟨inR_iff.2 (h4 x hx).1, (h4 x hx).2⟩⟩
theorem okS_spec {k b : Nat} {xs : List Int} : okS k b xs = true ↔ xs.length ≤ k ∧ ∀ x ∈ xs, okRow b x = true := by
 unfold okS
 simp only [Bool.and_eq_true, decide_eq_true_eq, List.all_eq_true]
theorem okS_rows {k b c : Nat} {xs : List Int} (h : okS k b xs = true) (hk : k ≤ 1048576) (hb : b ≤ c) : okRows c xs = true := by
 obtain ⟨h1, h2⟩ := okS_spec.1 h
 unfold okRows
 simp only [Bool.and_eq_true, decide_eq_true_eq, List.all_eq_true]
 refine ⟨by omega, fun x hx => ?_⟩
 have := h2 x hx
 unfold okRow at this
 simp only [Bool.and_eq_true, decide_eq_true_eq] at this
 have hp := pow_le hb
 exact ⟨this.1, by omega⟩
theorem okS_mono {k k' b : Nat} {xs : List Int} (h : okS k b xs = true) (hk : k ≤ k') : okS k' b xs = true := by
 obtain ⟨h1, h2⟩ := okS_spec.1 h
 exact okS_spec.2 ⟨by omega, h2⟩
theorem okP_mono {k k' : Nat} {g : G8} {p : P8} (h : okP k g p = true) (hk : k ≤ k') : okP k' g p = true := by
 obtain ⟨h1, h2, h3, h4⟩ := okP_spec h
 exact okP_mk h1 (fun s hs => ⟨okS_mono (h2 s hs).1 hk, okS_mono (h2 s hs).2 hk⟩) h3 h4
theorem colsG_le {g : G8} (h : isG g = true) : colsG g ≤ 10 ∧ ((colsG g : Nat) : Int) = g.1 + g.2.1 := by
 have := isG_spec h
 unfold colsG
 omega
def sendM (d : D8) (p : P8) : Int × P8 :=
 cond (decide (d.2.1 ≥ (p.1.length : Int)) || (decide (d.2.2.1 ≥ (p.1.length : Int)) || (decide (d.2.1 = d.2.2.1) || decide (d.2.2.1 = 0)))) (2, p)
  (match p.1[d.2.1.toNat]? with
   | none => (2, p)
   | some s => cond (decide (d.2.2.2.1 ≥ ishl .i64 1 (s.1.length : Int))) (2, p) (cond (decide (d.2.2.2.1 = 0)) (4, p) (cond (decide ((p.2.1.length : Int) = 12)) (3, p) (0, (p.1, p.2.1 ++ [(d.2.2.1, timesL d.2.2.2.1 s.1, ())], ())))))
def sendR (d : D8) (p : P8 × Unit) (g : G8) : Option (Int × (P8 × Unit)) := askO (isG g && vDeed d && okP 1000 g p.1) ((sendM d p.1).1, (sendM d p.1).2, ())
theorem s_l08Run_send_9d6c_spec (p0 : D8) (p1 : P8 × Unit) (p2 : G8) (y : Int × (P8 × Unit)) (h : sendR p0 p1 p2 = some y) : s_l08Run_send_9d6c_F p0 p1 p2 = some y := by
 obtain ⟨hok, rfl⟩ := askO_some h
 simp only [Bool.and_eq_true] at hok
 obtain ⟨⟨hg, hd⟩, hp⟩ := hok
 obtain ⟨⟨a0, a1⟩, ⟨b0, b1⟩, ⟨c0, c1⟩, _⟩ := vDeed_rng hd
 obtain ⟨l1, l2, l3, l4⟩ := okP_spec hp
 obtain ⟨⟨st, wi, ⟨⟩⟩, ⟨⟩⟩ := p1
 obtain ⟨kk, a, b, c, ⟨⟩⟩ := p0
 unfold s_l08Run_send_9d6c_F s_l08Run_send_9d6c sendM
 simp only at *
 by_cases h1 : a ≥ (st.length : Int)
 ·simp only [Tre.run_cond, decide_eq_true h1, cond_true, Tre.run_ret, Bool.true_or]
 by_cases h2 : b ≥ (st.length : Int)
 ·simp only [Tre.run_cond, decide_eq_true h2, decide_eq_false h1, cond_true, cond_false, Tre.run_ret, Bool.true_or, Bool.false_or]
 by_cases h3 : a = b
 ·simp only [Tre.run_cond, decide_eq_true h3, decide_eq_false h1, decide_eq_false h2, cond_true, cond_false, Tre.run_ret, Bool.true_or, Bool.false_or]
 by_cases h4 : b = 0
 ·simp only [Tre.run_cond, decide_eq_true h4, decide_eq_false h1, decide_eq_false h2, decide_eq_false h3, cond_true, cond_false, Tre.run_ret, Bool.false_or]
 obtain ⟨i, rfl⟩ := Int.eq_ofNat_of_zero_le a0
 have hi : i < st.length := by omega
 obtain ⟨s, hs⟩ : ∃ s, st[i]? = some s := ⟨_, List.getElem?_eq_getElem hi⟩
 have hs1 := (okS_spec.1 (l2 s (List.mem_of_getElem? hs)).1).1
 have hw : iwrap .u64 (s.1.length : Int) = (s.1.length : Int) := iwrap_u64 (by omega) (by omega)
 simp only [Tre.run_cond, decide_eq_false h1, decide_eq_false h2, decide_eq_false h3, decide_eq_false h4, cond_false, Bool.false_or, Int.toNat_natCast, hs]
 rw [Tre.run_ite, if_pos ⟨a0, by omega⟩, run_some_mat rfl, run_some_mat rfl]
 simp only [hw]
 rw [Tre.run_ite, if_pos (by omega)]
 simp only [Tre.run_cond]
 cases decide (c ≥ ishl .i64 1 (s.1.length : Int))
 ·cases decide (c = 0)
  ·cases decide ((wi.length : Int) = 12)
   ·simp only [cond_false]
    rw [run_some_mat rfl, run_some_mat (show timesR c s.1 = some _ from lim_of (by omega)), Tre.run_ite, if_pos (by unfold appendMax; omega)]
    rfl
   ·rfl
  ·rfl
 ·rfl
noncomputable def s_l08Run_send_9d6c_V : Env := ⟨tau, [(73, s_l02Times_c)], []⟩
noncomputable def s_l08Run_send_9d6c_b : Code := (Try.f109.body).getD .skip
noncomputable def s_l08Run_send_9d6c_I : FnI := ⟨s_l08Run_send_9d6c_b, Try.f109.results.toList, Try.f109.resultTypes.toList, []⟩
noncomputable def s_l08Run_send_9d6c_out (zp0 : Bool) (_p0 : TDeed) (_p1 : (TPlant × Unit)) (p2 : TGather) : (Int × (TPlant × Unit)) → CallOut := fun r => ⟨(.imm true (.int .i64) r.1), [⟨true, kL08Run, .own, ((some (0, 1) : Option RName), r.2)⟩, ⟨true, kGather, (.imm zp0), p2⟩], []⟩
set_option maxRecDepth 100000 in
theorem s_l08Run_send_9d6c_eq : ∀ (zp0 : Bool) (p0 : TDeed) (p1 : (TPlant × Unit)) (p2 : TGather), denFn s_l08Run_send_9d6c_V s_l08Run_send_9d6c_I ⟨[(.ptr (0, 0) []), (.imm true kDeed p0)], [⟨true, kL08Run, .own, ((some (0, 1) : Option RName), p1)⟩, ⟨true, kGather, (.imm zp0), p2⟩]⟩ = (s_l08Run_send_9d6c p0 p1 p2).run fun r => some (s_l08Run_send_9d6c_out zp0 p0 p1 p2 r) := fun _ _ _ _ => by kernel_rfl
noncomputable def s_l08Run_send_9d6c_G (av : List AV) (rs : List Root) : Tre CallOut :=
 asCons av fun a0_ av0 =>
 asCons av0 fun a1_ av1 =>
 asEnd av1 <|
 asCons rs fun r0_ rs0 =>
 asCons rs0 fun r1_ rs1 =>
 asEnd rs1 <|
 asPtr (0, 0) [] a0_ <|
 asImmZ true kDeed a1_ fun d1 =>
 asRt true kL08Run r0_ fun m2 d3 =>
 asM .own m2 <|
 asProd d3 fun d4 d5 =>
 asD d4 (some (0, 1) : Option RName) <|
 asRt true kGather r1_ fun m6 d7 =>
 asMImm m6 fun z8 =>
 .mat (sendR d1 d5 d7) fun r => .ret (s_l08Run_send_9d6c_out z8 d1 d5 d7 r)
noncomputable def s_l08Run_send_9d6c_c : Ctr := ⟨[], fun ci => s_l08Run_send_9d6c_G ci.args ci.roots⟩
theorem s_l08Run_send_9d6c_env : EnvOK Try.prog s_l08Run_send_9d6c_V := (envOK_cons s_l02Times_ok ent73 envOK_nil)
set_option maxRecDepth 100000 in
theorem s_l08Run_send_9d6c_ok : Contract Try.prog 109 s_l08Run_send_9d6c_c := by
 have hl : LoopsOK s_l08Run_send_9d6c_V [] s_l08Run_send_9d6c_b := loopsOK_nil (by kernel_rfl)
 refine (contract_of (F := s_l08Run_send_9d6c_I) tau_tys s_l08Run_send_9d6c_env Try.func109 (by kernel_rfl) (by kernel_rfl) (by kernel_rfl) hl []).weaken ?_
 rintro ⟨av, rs⟩ co h
 have h : (s_l08Run_send_9d6c_G av rs).run some = some co := h
 obtain ⟨a0_, av0, rfl, h_0⟩ := asCons_spec h
 obtain ⟨a1_, av1, rfl, h_1⟩ := asCons_spec h_0
 obtain ⟨rfl, h_2⟩ := asEnd_spec h_1
 obtain ⟨r0_, rs0, rfl, h_3⟩ := asCons_spec h_2
 obtain ⟨r1_, rs1, rfl, h_4⟩ := asCons_spec h_3
 obtain ⟨rfl, h_5⟩ := asEnd_spec h_4
 obtain ⟨rfl, h_6⟩ := asPtr_spec h_5
 obtain ⟨d1, rfl, h_7⟩ := asImmZ_spec h_6
 obtain ⟨m2, d3, rfl, h_8⟩ := asRt_spec h_7
 obtain ⟨rfl, h_9⟩ := asM_spec h_8
 obtain ⟨d4, d5, rfl, h_10⟩ := asProd_spec h_9
 obtain ⟨rfl, h_11⟩ := asD_spec h_10
 obtain ⟨m6, d7, rfl, h_12⟩ := asRt_spec h_11
 obtain ⟨z8, rfl, h_13⟩ := asMImm_spec h_12
 exact fin_opt (s_l08Run_send_9d6c_eq z8 d1 d5 d7) (s_l08Run_send_9d6c_spec d1 d5 d7) h_13
end Go.Proofs.Ytddaclhjnkimfaa

namespace Go.Proofs.Ytddaclhjnkimfaa
open Go Go.Abs Go.Proofs
noncomputable def s_l08Cols_9aa7 (p0 : TGather) : Tre Int :=
 let v1 := iwrap .i64 (p0.1 + p0.2.1)
 .ret v1
noncomputable def s_l08Cols_9aa7_F (p0 : TGather) : Option Int := (s_l08Cols_9aa7 p0).run some
def s_l08Cols_9aa7_S (p0 : TGather) : Int :=
 let v1 := iwrap .i64 (p0.1 + p0.2.1)
 v1
theorem s_l08Cols_9aa7_spec (p0 : TGather) : s_l08Cols_9aa7_F p0 = some (s_l08Cols_9aa7_S p0) := rfl
noncomputable def s_l08Cols_9aa7_V : Env := ⟨tau, [], []⟩
noncomputable def s_l08Cols_9aa7_b : Code := (Try.f89.body).getD .skip
noncomputable def s_l08Cols_9aa7_I : FnI := ⟨s_l08Cols_9aa7_b, Try.f89.results.toList, Try.f89.resultTypes.toList, []⟩
noncomputable def s_l08Cols_9aa7_out (zp0 : Bool) (p0 : TGather) : Int → CallOut := fun r => ⟨(.imm true (.int .i64) r), [⟨true, kGather, (.imm zp0), p0⟩], []⟩
set_option maxRecDepth 100000 in
theorem s_l08Cols_9aa7_eq : ∀ (zp0 : Bool) (p0 : TGather), denFn s_l08Cols_9aa7_V s_l08Cols_9aa7_I ⟨[(.ptr (0, 0) [])], [⟨true, kGather, (.imm zp0), p0⟩]⟩ = (s_l08Cols_9aa7 p0).run fun r => some (s_l08Cols_9aa7_out zp0 p0 r) := fun _ _ => by kernel_rfl
noncomputable def s_l08Cols_9aa7_G (av : List AV) (rs : List Root) : Tre CallOut :=
 asCons av fun a0_ av0 =>
 asEnd av0 <|
 asCons rs fun r0_ rs0 =>
 asEnd rs0 <|
 asPtr (0, 0) [] a0_ <|
 asRt true kGather r0_ fun m1 d2 =>
 asMImm m1 fun z3 =>
 .ret (s_l08Cols_9aa7_out z3 d2 (s_l08Cols_9aa7_S d2))
noncomputable def s_l08Cols_9aa7_c : Ctr := ⟨[], fun ci => s_l08Cols_9aa7_G ci.args ci.roots⟩
theorem s_l08Cols_9aa7_env : EnvOK Try.prog s_l08Cols_9aa7_V := envOK_nil
set_option maxRecDepth 100000 in
theorem s_l08Cols_9aa7_ok : Contract Try.prog 89 s_l08Cols_9aa7_c := by
 have hl : LoopsOK s_l08Cols_9aa7_V [] s_l08Cols_9aa7_b := loopsOK_nil (by kernel_rfl)
 refine (contract_of (F := s_l08Cols_9aa7_I) tau_tys s_l08Cols_9aa7_env Try.func89 (by kernel_rfl) (by kernel_rfl) (by kernel_rfl) hl []).weaken ?_
 rintro ⟨av, rs⟩ co h
 have h : (s_l08Cols_9aa7_G av rs).run some = some co := h
 obtain ⟨a0_, av0, rfl, h_0⟩ := asCons_spec h
 obtain ⟨rfl, h_1⟩ := asEnd_spec h_0
 obtain ⟨r0_, rs0, rfl, h_2⟩ := asCons_spec h_1
 obtain ⟨rfl, h_3⟩ := asEnd_spec h_2
 obtain ⟨rfl, h_4⟩ := asPtr_spec h_3
 obtain ⟨m1, d2, rfl, h_5⟩ := asRt_spec h_4
 obtain ⟨z3, rfl, h_6⟩ := asMImm_spec h_5
 exact fin_ret (s_l08Cols_9aa7_eq z3 d2) (s_l08Cols_9aa7_spec d2) h_6
end Go.Proofs.Ytddaclhjnkimfaa

namespace Go.Proofs.Ytddaclhjnkimfaa
open Go Go.Abs Go.Proofs
noncomputable def s_l00Own (p0 : (List Int)) : Tre (List Int) :=
 .ite ((0 + p0.length) * 8 ≤ appendMax ∧ 1 ≤ 8) <|
 .ret ([] ++ p0)
noncomputable def s_l00Own_F (p0 : (List Int)) : Option (List Int) := (s_l00Own p0).run some
theorem s_l00Own_spec (p0 : List Int) (y : List Int) (h : cloneR p0 = some y) : s_l00Own_F p0 = some y := by
 obtain ⟨hl, rfl⟩ := lim_some h
 have hb : (0 + p0.length) * 8 ≤ appendMax ∧ 1 ≤ 8 := by unfold appendMax; omega
 unfold s_l00Own_F s_l00Own
 rw [Tre.run_ite, if_pos hb]
 rfl
noncomputable def s_l00Own_V : Env := ⟨tau, [], []⟩
noncomputable def s_l00Own_b : Code := (Try.f111.body).getD .skip
noncomputable def s_l00Own_I : FnI := ⟨s_l00Own_b, Try.f111.results.toList, Try.f111.resultTypes.toList, []⟩
noncomputable def s_l00Own_out (_zp0 : Bool) (_p0 : (List Int)) : (List Int) → CallOut := fun r => ⟨(.ref (1, 0) []), [], [⟨false, (.sl (.int .i64)), .own, r⟩]⟩
set_option maxRecDepth 100000 in
theorem s_l00Own_eq : ∀ (zp0 : Bool) (p0 : (List Int)), denFn s_l00Own_V s_l00Own_I ⟨[(.imm zp0 (.sl (.int .i64)) p0)], []⟩ = (s_l00Own p0).run fun r => some (s_l00Own_out zp0 p0 r) := fun _ _ => by kernel_rfl
noncomputable def s_l00Own_G (av : List AV) (rs : List Root) : Tre CallOut :=
 asCons av fun a0_ av0 =>
 asEnd av0 <|
 asEnd rs <|
 asImm (.sl (.int .i64)) a0_ fun z2 d1 =>
 .mat (cloneR d1) fun r => .ret (s_l00Own_out z2 d1 r)
noncomputable def s_l00Own_c : Ctr := ⟨[], fun ci => s_l00Own_G ci.args ci.roots⟩
theorem s_l00Own_env : EnvOK Try.prog s_l00Own_V := envOK_nil
set_option maxRecDepth 100000 in
theorem s_l00Own_ok : Contract Try.prog 111 s_l00Own_c := by
 have hl : LoopsOK s_l00Own_V [] s_l00Own_b := loopsOK_nil (by kernel_rfl)
 refine (contract_of (F := s_l00Own_I) tau_tys s_l00Own_env Try.func111 (by kernel_rfl) (by kernel_rfl) (by kernel_rfl) hl []).weaken ?_
 rintro ⟨av, rs⟩ co h
 have h : (s_l00Own_G av rs).run some = some co := h
 obtain ⟨a0_, av0, rfl, h_0⟩ := asCons_spec h
 obtain ⟨rfl, h_1⟩ := asEnd_spec h_0
 obtain ⟨rfl, h_2⟩ := asEnd_spec h_1
 obtain ⟨z2, d1, rfl, h_3⟩ := asImm_spec h_2
 exact fin_opt (s_l00Own_eq z2 d1) (s_l00Own_spec d1) h_3
end Go.Proofs.Ytddaclhjnkimfaa

namespace Go.Proofs.Ytddaclhjnkimfaa
open Go Go.Abs Go.Proofs
noncomputable def s_l02Echelon_l8 (h8_0_1 : Int) (h8_0_4 : (List Int)) : (Int × Int) → Tre ((Int × Int) ⊕ Int) := fun s8 =>
 .cond (decide (s8.2 < (h8_0_4.length : Int)))
  (.cond (decide (s8.1 < 0))
   (.ite (0 ≤ s8.2 ∧ s8.2 < (h8_0_4.length : Int)) <|
   .mat (h8_0_4[s8.2.toNat]?) fun x2 =>
   .mat (bitR x2 h8_0_1) fun r3 =>
   .cond (decide (r3 = 1))
    (.ret (.inl (s8.2, iwrap .i64 (s8.2 + 1))))
    (.ret (.inl (s8.1, iwrap .i64 (s8.2 + 1)))))
   (.ret (.inr s8.1)))
  (.ret (.inr s8.1))
noncomputable def s_l02Echelon_l16 (h16_0_1 : Int) (h16_0_2 : Int) : (Int × (List Int)) → Tre ((Int × (List Int)) ⊕ (List Int)) := fun s16 =>
 .cond (decide (s16.1 < (s16.2.length : Int)))
  (.ite (0 ≤ s16.1 ∧ s16.1 < (s16.2.length : Int)) <|
  .mat (s16.2[s16.1.toNat]?) fun x7 =>
  .mat (bitR x7 h16_0_1) fun r8 =>
  .cond (decide (r8 = 1))
   (.ite (0 ≤ s16.1 ∧ s16.1 < (s16.2.length : Int)) <|
   .mat (s16.2[s16.1.toNat]?) fun x9 =>
   .ite (0 ≤ s16.1 ∧ s16.1 < (s16.2.length : Int)) <|
   .mat (s16.2[s16.1.toNat]?) fun _ =>
   let v11 := s16.2.set s16.1.toNat (ixor .i64 x9 h16_0_2)
   .ret (.inl (iwrap .i64 (s16.1 + 1), v11)))
   (.ret (.inl (iwrap .i64 (s16.1 + 1), s16.2))))
  (.ret (.inr s16.2))
noncomputable def s_l02Echelon_l21 (h21_0_1 : Int) (h21_0_2 : Int) : (Int × (List Int)) → Tre ((Int × (List Int)) ⊕ (List Int)) := fun s21 =>
 .cond (decide (s21.1 < (s21.2.length : Int)))
  (.ite (0 ≤ s21.1 ∧ s21.1 < (s21.2.length : Int)) <|
  .mat (s21.2[s21.1.toNat]?) fun x13 =>
  .mat (bitR x13 h21_0_1) fun r14 =>
  .cond (decide (r14 = 1))
   (.ite (0 ≤ s21.1 ∧ s21.1 < (s21.2.length : Int)) <|
   .mat (s21.2[s21.1.toNat]?) fun x15 =>
   .ite (0 ≤ s21.1 ∧ s21.1 < (s21.2.length : Int)) <|
   .mat (s21.2[s21.1.toNat]?) fun _ =>
   let v17 := s21.2.set s21.1.toNat (ixor .i64 x15 h21_0_2)
   .ret (.inl (iwrap .i64 (s21.1 + 1), v17)))
   (.ret (.inl (iwrap .i64 (s21.1 + 1), s21.2))))
  (.ret (.inr s21.2))
noncomputable def s_l02Echelon_l4 (h4_0_0 : Int) : (Int × (List Int) × (List Int)) → Tre ((Int × (List Int) × (List Int)) ⊕ (List Int)) := fun s4 =>
 .cond (decide (s4.1 < h4_0_0))
  (.mat (loopF (s_l02Echelon_l8 s4.1 s4.2.1) (-1, 0)) fun l4 =>
  .cond (decide (l4 < 0))
   (.ret (.inl (iwrap .i64 (s4.1 + 1), s4.2.1, s4.2.2)))
   (.ite (0 ≤ l4 ∧ l4 < (s4.2.1.length : Int)) <|
   .mat (s4.2.1[l4.toNat]?) fun x5 =>
   .ite (0 ≤ l4 ∧ l4 < (s4.2.1.length : Int)) <|
   .mat (s4.2.1[l4.toNat]?) fun _ =>
   .mat (loopF (s_l02Echelon_l16 s4.1 x5) (0, s4.2.1.set l4.toNat 0)) fun l12 =>
   .mat (loopF (s_l02Echelon_l21 s4.1 x5) (0, s4.2.2)) fun l18 =>
   .ite ((l18.length + 1) * 8 ≤ appendMax ∧ 1 ≤ 8) <|
   .ret (.inl (iwrap .i64 (s4.1 + 1), l12, l18 ++ ([x5])))))
  (.ret (.inr s4.2.2))
noncomputable def s_l02Echelon (p0 : Int) (p1 : (List Int)) : Tre (List Int) :=
 .mat (cloneR p1) fun r1 =>
 .mat (loopF (s_l02Echelon_l4 p0) (0, r1, [])) fun l19 =>
 .ret l19
noncomputable def s_l02Echelon_F (p0 : Int) (p1 : (List Int)) : Option (List Int) := (s_l02Echelon p0 p1).run some
noncomputable def echB (m : Int) (xs : List Int) : Option (List Int) := askO (inR m 0 62 && okRows m.toNat xs) (echI xs)
theorem s_l02Echelon_find (c : Nat) (hc : c ≤ 62) (xs : List Int) (hl : xs.length ≤ 1048576) : loopF (s_l02Echelon_l8 (c : Int) xs) (-1, 0) = some (idxI (fun x => bitAt x (c : Int)) 0 xs) := by
 have := fold_loop (xs := xs) (step := s_l02Echelon_l8 (c : Int) xs) (fun i acc => (acc, (i : Int))) (fun i acc x => cond (decide (acc < 0)) (.inl (cond (bitAt x (c : Int)) (i : Int) acc)) (.inr acc)) id (fun _ _ => True) (by
  intro i acc x hx _
  refine ⟨?_, fun _ _ => trivial⟩
  have hi : i < xs.length := (List.getElem?_eq_some_iff.1 hx).1
  unfold s_l02Echelon_l8
  rw [Tre.run_cond, show decide (((acc, (i : Int)) : Int × Int).2 < (xs.length : Int)) = true from by simpa using hi, cond_true, Tre.run_cond]
  by_cases h0 : acc < 0
  ·rw [show decide (acc < 0) = true from by simpa using h0]
   rw [cond_true, run_at hx, run_some_mat (bitR_nat (by omega) : bitR x (c : Int) = _), Tre.run_cond]
   show cond (bitAt x (c : Int)) _ _ = _
   cases bitAt x (c : Int)
   ·rw [cond_false, Tre.run_ret, iwrap_succ (by omega)]; rfl
   ·rw [cond_true, Tre.run_ret, iwrap_succ (by omega)]; rfl
  ·rw [show decide (acc < 0) = false from by simpa using h0]
   rfl)
  (by
  intro acc _
  unfold s_l02Echelon_l8
  exact run_out) xs 0 (-1) rfl (Nat.zero_le _) trivial
 rw [show (((-1 : Int), (0 : Int)) : Int × Int) = (-1, ((0 : Nat) : Int)) from rfl, this]
 have key : ∀ (l : List Int) (i : Nat), foldE (β := Int) (fun (i : Nat) (acc : Int) x => cond (decide (acc < 0)) (.inl (cond (bitAt x (c : Int)) (i : Int) acc)) (.inr acc)) id i (-1) l = idxI (fun x => bitAt x (c : Int)) i l := by
  intro l
  induction l with
  | nil => intro i; rfl
  | cons x l ih =>
   intro i
   simp only [foldE, idxI, show decide ((-1 : Int) < 0) = true from rfl, cond_true]
   cases bitAt x (c : Int)
   ·exact ih (i + 1)
   ·have hn : decide ((i : Int) < 0) = false := by simp
    cases l with
    | nil => rfl
    | cons y l => simp only [foldE, cond_true, hn, cond_false]
 rw [key]
theorem s_l02Echelon_elim (c r : Nat) (hc : c ≤ 62) (hr : r < 2 ^ 62) (l : List Nat) (hb : ∀ n ∈ l, n < 2 ^ 62) (hl : l.length ≤ 1048576) : loopF (s_l02Echelon_l16 (c : Int) (r : Int)) (0, up l) = some (up (l.map (elimB c r))) := by
 have := part_loop (step := s_l02Echelon_l16 (c : Int) (r : Int)) (fun _ x => elimB c r x) l id (by
  intro i x hx
  have hi : i < l.length := (List.getElem?_eq_some_iff.1 hx).1
  have hx2 := up_at (part_at (g := fun _ x => elimB c r x) (i := i) hx)
  rw [if_neg (Nat.lt_irrefl i)] at hx2
  have hlen : (up (partB (fun _ x => elimB c r x) i l)).length = l.length := by rw [up_len, part_len]
  have hxb := hb x (List.mem_of_getElem? hx)
  rw [← part_set hx]
  unfold s_l02Echelon_l16
  rw [run_inb hx2, run_some_mat (bitR_nat (by omega) : bitR (x : Int) (c : Int) = _), Tre.run_cond]
  show cond (bitAt (x : Int) (c : Int)) _ _ = _
  rw [bitAt_nat (by omega) (by omega)]
  have he : elimB c r x = cond (x.testBit c) (x ^^^ r) x := rfl
  rw [he]
  cases x.testBit c
  ·rw [cond_false, Tre.run_ret, iwrap_succ (by omega)]
   refine congrArg (fun z => some (Sum.inl (((i + 1 : Nat) : Int), z))) ?_
   rw [cond_false, ← up_set]
   exact (List.ext_getElem? fun j => by
    rw [List.getElem?_set]
    by_cases hj : i = j
    ·subst hj; rw [if_pos rfl, hx2, if_pos (List.getElem?_eq_some_iff.1 hx2).1]
    ·rw [if_neg hj]).symm
  ·rw [cond_true, run_at hx2, run_at hx2, Tre.run_ret, iwrap_succ (by omega), ixor_nat (by omega) (by omega), Int.toNat_natCast, cond_true, ← up_set])
  (by
  unfold s_l02Echelon_l16
  have : ((partB (fun _ x => elimB c r x) l.length l).length : Int) = (l.length : Int) := by rw [part_len]
  show (Tre.cond (decide ((l.length : Int) < ((up (partB (fun _ x => elimB c r x) l.length l)).length : Int))) _ _).run some = _
  rw [up_len, part_len]
  exact run_out)
 rw [this, mapIdx_const]
 rfl
theorem s_l02Echelon_l21_eq : s_l02Echelon_l21 = s_l02Echelon_l16 := rfl
theorem s_l02Echelon_loop (m : Nat) (hm : m ≤ 62) (orig : List Nat) : ∀ (n c : Nat) (E : List (Nat × Nat)) (R : List Nat), c + n = m → Inv orig c E R → E.length ≤ c → R.length ≤ 1048576 → (∀ x ∈ R, x < 2 ^ m) → (∀ a ∈ E, a.2 < 2 ^ m) →
  ∃ E' : List Nat, loopF (s_l02Echelon_l4 (m : Int)) ((c : Int), up R, up (E.map (·.2))) = some (up E') ∧ IsEch orig E' := by
 intro n
 have hp := pow_le hm
 induction n with
 | zero =>
  intro c E R hc hI _ _ hR _
  have : c = m := hc
  subst this
  refine ⟨E.map (·.2), loopF_done ?_, hI.done fun x hx => zero_of_bits (hR x hx) (hI.low x hx)⟩
  unfold s_l02Echelon_l4
  exact run_out
 | succ n ih =>
  intro c E R hc hI hE hl hR hEb
  have hcm : c < m := by omega
  have hstep : ∀ E2 R2, Inv orig (c + 1) E2 R2 → E2.length ≤ c + 1 → R2.length ≤ 1048576 → (∀ x ∈ R2, x < 2 ^ m) → (∀ a ∈ E2, a.2 < 2 ^ m) → (s_l02Echelon_l4 (m : Int) ((c : Int), up R, up (E.map (·.2)))).run some = some (.inl (((c + 1 : Nat) : Int), up R2, up (E2.map (·.2)))) →
    ∃ E' : List Nat, loopF (s_l02Echelon_l4 (m : Int)) ((c : Int), up R, up (E.map (·.2))) = some (up E') ∧ IsEch orig E' := by
   intro E2 R2 h1 h2 h3 h4 h5 h6
   rw [loopF_step h6]
   exact ih (c + 1) E2 R2 (by omega) h1 h2 h3 h4 h5
  have hfind := s_l02Echelon_find c (by omega) (up R) (by rw [up_len]; exact hl)
  have hw : iwrap .i64 ((c : Int) + 1) = ((c + 1 : Nat) : Int) := iwrap_succ (by omega)
  have hdec : decide ((c : Int) < (m : Int)) = true := by simpa using hcm
  rcases idxI_cases (fun x => bitAt x (c : Int)) (up R) 0 with ⟨h1, h2⟩ | ⟨k, x, h1, h2, h3⟩
  ·refine hstep E R (hI.skip fun x hx => ?_) (by omega) hl hR hEb ?_
   ·have := h2 (x : Int) (List.mem_map.2 ⟨x, hx, rfl⟩)
    have hxb := hR x hx
    rwa [bitAt_nat (by omega) (by omega)] at this
   ·unfold s_l02Echelon_l4
    rw [Tre.run_cond]
    show cond (decide ((c : Int) < (m : Int))) _ _ = _
    rw [hdec, cond_true, run_some_mat (hfind.trans (by rw [h1])), Tre.run_cond]
    simp only [show decide ((-1 : Int) < 0) = true from rfl, cond_true, Tre.run_ret, hw]
  ·obtain ⟨r, hr1, rfl⟩ : ∃ r : Nat, R[k]? = some r ∧ (r : Int) = x := by
    simp only [up, List.getElem?_map, Option.map_eq_some_iff] at h1
    exact h1
   have hrm : r ∈ R := List.mem_of_getElem? hr1
   have hrb := hR r hrm
   rw [bitAt_nat (by omega) (by omega)] at h2
   rw [Nat.zero_add] at h3
   have hk : k < R.length := (List.getElem?_eq_some_iff.1 hr1).1
   have hE2 : ((E.map fun a => (a.1, elimB c r a.2)) ++ [(c, r)]).map (·.2) = (E.map (·.2)).map (elimB c r) ++ [r] := by simp [List.map_map, Function.comp_def]
   refine hstep (E.map (fun a => (a.1, elimB c r a.2)) ++ [(c, r)]) ((R.set k 0).map (elimB c r)) (hI.step hrm h2 ?_ ?_) (by simp; omega) (by simpa using hl) ?_ ?_ ?_
   ·intro y hy
    obtain ⟨x, hx, rfl⟩ := List.mem_map.1 hy
    rcases List.mem_or_eq_of_mem_set hx with hx | rfl
    ·exact .inr ⟨x, hx, rfl⟩
    ·exact .inl (by unfold elimB; simp)
   ·intro x hx
    obtain ⟨j, hj⟩ := List.getElem?_of_mem hx
    by_cases hjk : k = j
    ·subst hjk; rw [hr1] at hj; exact .inl (Option.some.inj hj).symm
    ·refine .inr (List.mem_map.2 ⟨x, List.mem_of_getElem? (i := j) ?_, rfl⟩)
     rw [List.getElem?_set, if_neg hjk, hj]
   ·intro y hy
    obtain ⟨x, hx, rfl⟩ := List.mem_map.1 hy
    refine elimB_lt hrb ?_
    rcases List.mem_or_eq_of_mem_set hx with hx | rfl
    ·exact hR x hx
    ·exact Nat.two_pow_pos m
   ·intro a ha
    rcases List.mem_append.1 ha with ha | ha
    ·obtain ⟨b, hb, rfl⟩ := List.mem_map.1 ha
     exact elimB_lt hrb (hEb b hb)
    ·simp only [List.mem_singleton] at ha; subst ha; exact hrb
   ·have e1 := s_l02Echelon_elim c r (by omega) (by omega) (R.set k 0) (fun x hx => by
     rcases List.mem_or_eq_of_mem_set hx with hx | rfl
     ·have := hR x hx; omega
     ·decide) (by simpa using hl)
    have e2 : loopF (s_l02Echelon_l21 (c : Int) (r : Int)) (0, up (E.map (·.2))) = some (up ((E.map (·.2)).map (elimB c r))) := by
     rw [s_l02Echelon_l21_eq]
     exact s_l02Echelon_elim c r (by omega) (by omega) (E.map (·.2)) (fun x hx => by
     obtain ⟨a, ha, rfl⟩ := List.mem_map.1 hx
     have := hEb a ha
     omega) (by simp; omega)
    unfold s_l02Echelon_l4
    rw [Tre.run_cond]
    show cond (decide ((c : Int) < (m : Int))) _ _ = _
    rw [hdec, cond_true, run_some_mat (hfind.trans (by rw [h3])), Tre.run_cond]
    rw [show decide ((k : Int) < 0) = false from by simp, cond_false, run_at h1, run_at h1, Int.toNat_natCast]
    rw [show (up R).set k 0 = up (R.set k 0) from up_set R k 0, run_some_mat e1, run_some_mat e2]
    rw [Tre.run_ite, if_pos (by unfold appendMax; rw [up_len]; simp; omega), Tre.run_ret, hw, hE2]
    simp [up]
theorem s_l02Echelon_spec (p0 : Int) (p1 : List Int) (y : List Int) (h : echB p0 p1 = some y) : s_l02Echelon_F p0 p1 = some y := by
 obtain ⟨hl, rfl⟩ := askO_some h
 rw [Bool.and_eq_true, inR_iff] at hl
 obtain ⟨m, rfl⟩ : ∃ m : Nat, p0 = (m : Int) := ⟨p0.toNat, by omega⟩
 obtain ⟨ns, rfl, hlen, hb, hn⟩ := okRows_up hl.2
 rw [Int.toNat_natCast] at hb
 obtain ⟨E, h1, h2⟩ := s_l02Echelon_loop m (by omega) ns m 0 [] ns (by omega) (Inv.start ns) (Nat.zero_le _) hlen hb (fun a ha => by cases ha)
 unfold s_l02Echelon_F s_l02Echelon
 have e1 : cloneR (up ns) = some (up ns) := lim_of (by rw [up_len]; exact hlen)
 have h1 : loopF (s_l02Echelon_l4 (m : Int)) (0, up ns, []) = some (up E) := h1
 rw [run_some_mat e1, run_some_mat h1]
 unfold echI
 rw [hn, ech_of h2]
 rfl
noncomputable def s_l02Echelon_V : Env := ⟨tau, [(111, s_l00Own_c), (100, s_l02Bit_c)], []⟩
noncomputable def s_l02Echelon_b : Code := (Try.f88.body).getD .skip
noncomputable def s_l02Echelon_l8_mk (h8_0_0 : Int) (h8_0_1 : Int) (h8_0_4 : (List Int)) (h8_0_5 : (List Int)) : (Int × Int) → St := fun x => stOf [(0, (.imm true (.int .i64) h8_0_0)), (5, (.ref (7, 0) [])), (6, (.ref (8, 0) [])), (7, (.imm true (.int .i64) h8_0_1)), (8, (.imm true (.int .i64) x.1)), (9, (.imm true (.int .i64) x.2))] [((7, 0), some ⟨false, (.sl (.int .i64)), .own, h8_0_4⟩), ((8, 0), some ⟨false, (.sl (.int .i64)), .own, h8_0_5⟩)]
noncomputable def s_l02Echelon_l8_out (h8_0_0 : Int) (h8_0_1 : Int) (h8_0_4 : (List Int)) (h8_0_5 : (List Int)) : Int → Ex × St := fun x => (.exit 2, stOf [(0, (.imm true (.int .i64) h8_0_0)), (5, (.ref (7, 0) [])), (6, (.ref (8, 0) [])), (7, (.imm true (.int .i64) h8_0_1)), (8, (.imm true (.int .i64) x))] [((7, 0), some ⟨false, (.sl (.int .i64)), .own, h8_0_4⟩), ((8, 0), some ⟨false, (.sl (.int .i64)), .own, h8_0_5⟩)])
noncomputable def s_l02Echelon_l8_D (s : St) : Tre (Ex × St) :=
 asImmZ true (.int .i64) (s.tmps 0) fun d2 =>
 asRef (7, 0) [] (s.tmps 5) <|
 asRef (8, 0) [] (s.tmps 6) <|
 asImmZ true (.int .i64) (s.tmps 7) fun d6 =>
 asImmZ true (.int .i64) (s.tmps 8) fun d8 =>
 asImmZ true (.int .i64) (s.tmps 9) fun d10 =>
 asRoot false (.sl (.int .i64)) (s.roots (7, 0)) fun m12 d13 =>
 asM .own m12 <|
 asRoot false (.sl (.int .i64)) (s.roots (8, 0)) fun m15 d16 =>
 asM .own m15 <|
 .mat (loopF (s_l02Echelon_l8 d6 d13) (d8, d10)) fun x => .ret (s_l02Echelon_l8_out d2 d6 d13 d16 x)
noncomputable def s_l02Echelon_l8_L : LoopI := ⟨([0, 5, 6, 7, 8, 9], [(7, 0), (8, 0)]), ([0, 5, 6, 7, 8], [(7, 0), (8, 0)]), s_l02Echelon_l8_D⟩
noncomputable def s_l02Echelon_l16_mk (h16_0_0 : Int) (h16_0_1 : Int) (h16_0_2 : Int) (h16_0_5 : (List Int)) : (Int × (List Int)) → St := fun x => stOf [(0, (.imm true (.int .i64) h16_0_0)), (5, (.ref (7, 0) [])), (6, (.ref (8, 0) [])), (7, (.imm true (.int .i64) h16_0_1)), (10, (.imm true (.int .i64) h16_0_2)), (11, (.imm true (.int .i64) x.1))] [((7, 0), some ⟨false, (.sl (.int .i64)), .own, x.2⟩), ((8, 0), some ⟨false, (.sl (.int .i64)), .own, h16_0_5⟩)]
noncomputable def s_l02Echelon_l16_out (h16_0_0 : Int) (h16_0_1 : Int) (h16_0_2 : Int) (h16_0_5 : (List Int)) : (List Int) → Ex × St := fun x => (.exit 4, stOf [(0, (.imm true (.int .i64) h16_0_0)), (5, (.ref (7, 0) [])), (6, (.ref (8, 0) [])), (7, (.imm true (.int .i64) h16_0_1)), (10, (.imm true (.int .i64) h16_0_2))] [((7, 0), some ⟨false, (.sl (.int .i64)), .own, x⟩), ((8, 0), some ⟨false, (.sl (.int .i64)), .own, h16_0_5⟩)])
noncomputable def s_l02Echelon_l16_D (s : St) : Tre (Ex × St) :=
 asImmZ true (.int .i64) (s.tmps 0) fun d2 =>
 asRef (7, 0) [] (s.tmps 5) <|
 asRef (8, 0) [] (s.tmps 6) <|
 asImmZ true (.int .i64) (s.tmps 7) fun d6 =>
 asImmZ true (.int .i64) (s.tmps 10) fun d8 =>
 asImmZ true (.int .i64) (s.tmps 11) fun d10 =>
 asRoot false (.sl (.int .i64)) (s.roots (7, 0)) fun m12 d13 =>
 asM .own m12 <|
 asRoot false (.sl (.int .i64)) (s.roots (8, 0)) fun m15 d16 =>
 asM .own m15 <|
 .mat (loopF (s_l02Echelon_l16 d6 d8) (d10, d13)) fun x => .ret (s_l02Echelon_l16_out d2 d6 d8 d16 x)
noncomputable def s_l02Echelon_l16_L : LoopI := ⟨([0, 5, 6, 7, 10, 11], [(7, 0), (8, 0)]), ([0, 5, 6, 7, 10], [(7, 0), (8, 0)]), s_l02Echelon_l16_D⟩
noncomputable def s_l02Echelon_l21_mk (h21_0_0 : Int) (h21_0_1 : Int) (h21_0_2 : Int) (h21_0_4 : (List Int)) : (Int × (List Int)) → St := fun x => stOf [(0, (.imm true (.int .i64) h21_0_0)), (5, (.ref (7, 0) [])), (6, (.ref (8, 0) [])), (7, (.imm true (.int .i64) h21_0_1)), (10, (.imm true (.int .i64) h21_0_2)), (12, (.imm true (.int .i64) x.1))] [((7, 0), some ⟨false, (.sl (.int .i64)), .own, h21_0_4⟩), ((8, 0), some ⟨false, (.sl (.int .i64)), .own, x.2⟩)]
noncomputable def s_l02Echelon_l21_out (h21_0_0 : Int) (h21_0_1 : Int) (h21_0_2 : Int) (h21_0_4 : (List Int)) : (List Int) → Ex × St := fun x => (.exit 6, stOf [(0, (.imm true (.int .i64) h21_0_0)), (5, (.ref (7, 0) [])), (6, (.ref (8, 0) [])), (7, (.imm true (.int .i64) h21_0_1)), (10, (.imm true (.int .i64) h21_0_2))] [((7, 0), some ⟨false, (.sl (.int .i64)), .own, h21_0_4⟩), ((8, 0), some ⟨false, (.sl (.int .i64)), .own, x⟩)])
noncomputable def s_l02Echelon_l21_D (s : St) : Tre (Ex × St) :=
 asImmZ true (.int .i64) (s.tmps 0) fun d2 =>
 asRef (7, 0) [] (s.tmps 5) <|
 asRef (8, 0) [] (s.tmps 6) <|
 asImmZ true (.int .i64) (s.tmps 7) fun d6 =>
 asImmZ true (.int .i64) (s.tmps 10) fun d8 =>
 asImmZ true (.int .i64) (s.tmps 12) fun d10 =>
 asRoot false (.sl (.int .i64)) (s.roots (7, 0)) fun m12 d13 =>
 asM .own m12 <|
 asRoot false (.sl (.int .i64)) (s.roots (8, 0)) fun m15 d16 =>
 asM .own m15 <|
 .mat (loopF (s_l02Echelon_l21 d6 d8) (d10, d16)) fun x => .ret (s_l02Echelon_l21_out d2 d6 d8 d13 x)
noncomputable def s_l02Echelon_l21_L : LoopI := ⟨([0, 5, 6, 7, 10, 12], [(7, 0), (8, 0)]), ([0, 5, 6, 7, 10], [(7, 0), (8, 0)]), s_l02Echelon_l21_D⟩
noncomputable def s_l02Echelon_l4_mk (h4_0_0 : Int) : (Int × (List Int) × (List Int)) → St := fun x => stOf [(0, (.imm true (.int .i64) h4_0_0)), (5, (.ref (7, 0) [])), (6, (.ref (8, 0) [])), (7, (.imm true (.int .i64) x.1))] [((7, 0), some ⟨false, (.sl (.int .i64)), .own, x.2.1⟩), ((8, 0), some ⟨false, (.sl (.int .i64)), .own, x.2.2⟩)]
noncomputable def s_l02Echelon_l4_out (_h4_0_0 : Int) : (List Int) → Ex × St := fun x => (.exit 0, stOf [(6, (.ref (8, 0) []))] [((8, 0), some ⟨false, (.sl (.int .i64)), .own, x⟩)])
noncomputable def s_l02Echelon_l4_D (s : St) : Tre (Ex × St) :=
 asImmZ true (.int .i64) (s.tmps 0) fun d2 =>
 asRef (7, 0) [] (s.tmps 5) <|
 asRef (8, 0) [] (s.tmps 6) <|
 asImmZ true (.int .i64) (s.tmps 7) fun d6 =>
 asRoot false (.sl (.int .i64)) (s.roots (7, 0)) fun m8 d9 =>
 asM .own m8 <|
 asRoot false (.sl (.int .i64)) (s.roots (8, 0)) fun m11 d12 =>
 asM .own m11 <|
 .mat (loopF (s_l02Echelon_l4 d2) (d6, d9, d12)) fun x => .ret (s_l02Echelon_l4_out d2 x)
noncomputable def s_l02Echelon_l4_L : LoopI := ⟨([0, 5, 6, 7], [(7, 0), (8, 0)]), ([6], [(8, 0)]), s_l02Echelon_l4_D⟩
noncomputable def s_l02Echelon_A : List (Nat × LoopI) := [(8, s_l02Echelon_l8_L), (16, s_l02Echelon_l16_L), (21, s_l02Echelon_l21_L), (4, s_l02Echelon_l4_L)]
set_option maxRecDepth 100000 in
theorem s_l02Echelon_l8_step : ∀ (h8_0_0 : Int) (h8_0_1 : Int) (h8_0_4 : (List Int)) (h8_0_5 : (List Int)) (x : (Int × Int)) (c : St → Option (Ex × St)), den s_l02Echelon_V s_l02Echelon_A (loopAt s_l02Echelon_b 1) (s_l02Echelon_l8_mk h8_0_0 h8_0_1 h8_0_4 h8_0_5 x) (roundK s_l02Echelon_l8_L.kp s_l02Echelon_l8_L.kx c) = (s_l02Echelon_l8 h8_0_1 h8_0_4 x).run (roundR (s_l02Echelon_l8_mk h8_0_0 h8_0_1 h8_0_4 h8_0_5) (s_l02Echelon_l8_out h8_0_0 h8_0_1 h8_0_4 h8_0_5) c) := fun _ _ _ _ _ _ => by
 kernel_rfl
theorem s_l02Echelon_l8_ok : LoopOK s_l02Echelon_V s_l02Echelon_A (loopAt s_l02Echelon_b 1) s_l02Echelon_l8_L := loopOK_of fun s e s' h => by
 generalize hs : restrict s_l02Echelon_l8_L.kp s = s1 at h
 have h : (s_l02Echelon_l8_D s1).run some = some (e, s') := h
 obtain ⟨d2, e1, h_0⟩ := asImmZ_spec h
 obtain ⟨e3, h_1⟩ := asRef_spec h_0
 obtain ⟨e4, h_2⟩ := asRef_spec h_1
 obtain ⟨d6, e5, h_3⟩ := asImmZ_spec h_2
 obtain ⟨d8, e7, h_4⟩ := asImmZ_spec h_3
 obtain ⟨d10, e9, h_5⟩ := asImmZ_spec h_4
 obtain ⟨m12, d13, e11, h_6⟩ := asRoot_spec h_5
 obtain ⟨rfl, h_7⟩ := asM_spec h_6
 obtain ⟨m15, d16, e14, h_8⟩ := asRoot_spec h_7
 obtain ⟨rfl, h_9⟩ := asM_spec h_8
 obtain ⟨y, hy, hz⟩ := mat_ret h_9
 refine ⟨_, _, s_l02Echelon_l8_mk d2 d6 d13 d16, s_l02Echelon_l8_out d2 d6 d13 d16, s_l02Echelon_l8 d6 d13, (d8, d10), y, ?_, hy, ?_, s_l02Echelon_l8_step d2 d6 d13 d16⟩
 ·subst hs; exact restrict_eq (T := [(0, (.imm true (.int .i64) d2)), (5, (.ref (7, 0) [])), (6, (.ref (8, 0) [])), (7, (.imm true (.int .i64) d6)), (8, (.imm true (.int .i64) d8)), (9, (.imm true (.int .i64) d10))]) (U := [((7, 0), some ⟨false, (.sl (.int .i64)), .own, d13⟩), ((8, 0), some ⟨false, (.sl (.int .i64)), .own, d16⟩)]) rfl rfl ⟨e1, e3, e4, e5, e7, e9, trivial⟩ ⟨e11, e14, trivial⟩
 ·exact Option.some.inj hz
set_option maxRecDepth 100000 in
theorem s_l02Echelon_l16_step : ∀ (h16_0_0 : Int) (h16_0_1 : Int) (h16_0_2 : Int) (h16_0_5 : (List Int)) (x : (Int × (List Int))) (c : St → Option (Ex × St)), den s_l02Echelon_V s_l02Echelon_A (loopAt s_l02Echelon_b 2) (s_l02Echelon_l16_mk h16_0_0 h16_0_1 h16_0_2 h16_0_5 x) (roundK s_l02Echelon_l16_L.kp s_l02Echelon_l16_L.kx c) = (s_l02Echelon_l16 h16_0_1 h16_0_2 x).run (roundR (s_l02Echelon_l16_mk h16_0_0 h16_0_1 h16_0_2 h16_0_5) (s_l02Echelon_l16_out h16_0_0 h16_0_1 h16_0_2 h16_0_5) c) := fun _ _ _ _ _ _ => by
 kernel_rfl
theorem s_l02Echelon_l16_ok : LoopOK s_l02Echelon_V s_l02Echelon_A (loopAt s_l02Echelon_b 2) s_l02Echelon_l16_L := loopOK_of fun s e s' h => by
 generalize hs : restrict s_l02Echelon_l16_L.kp s = s1 at h
 have h : (s_l02Echelon_l16_D s1).run some = some (e, s') := h
 obtain ⟨d2, e1, h_0⟩ := asImmZ_spec h
 obtain ⟨e3, h_1⟩ := asRef_spec h_0
 obtain ⟨e4, h_2⟩ := asRef_spec h_1
 obtain ⟨d6, e5, h_3⟩ := asImmZ_spec h_2
 obtain ⟨d8, e7, h_4⟩ := asImmZ_spec h_3
 obtain ⟨d10, e9, h_5⟩ := asImmZ_spec h_4
 obtain ⟨m12, d13, e11, h_6⟩ := asRoot_spec h_5
 obtain ⟨rfl, h_7⟩ := asM_spec h_6
 obtain ⟨m15, d16, e14, h_8⟩ := asRoot_spec h_7
 obtain ⟨rfl, h_9⟩ := asM_spec h_8
 obtain ⟨y, hy, hz⟩ := mat_ret h_9
 refine ⟨_, _, s_l02Echelon_l16_mk d2 d6 d8 d16, s_l02Echelon_l16_out d2 d6 d8 d16, s_l02Echelon_l16 d6 d8, (d10, d13), y, ?_, hy, ?_, s_l02Echelon_l16_step d2 d6 d8 d16⟩
 ·subst hs; exact restrict_eq (T := [(0, (.imm true (.int .i64) d2)), (5, (.ref (7, 0) [])), (6, (.ref (8, 0) [])), (7, (.imm true (.int .i64) d6)), (10, (.imm true (.int .i64) d8)), (11, (.imm true (.int .i64) d10))]) (U := [((7, 0), some ⟨false, (.sl (.int .i64)), .own, d13⟩), ((8, 0), some ⟨false, (.sl (.int .i64)), .own, d16⟩)]) rfl rfl ⟨e1, e3, e4, e5, e7, e9, trivial⟩ ⟨e11, e14, trivial⟩
 ·exact Option.some.inj hz
set_option maxRecDepth 100000 in
theorem s_l02Echelon_l21_step : ∀ (h21_0_0 : Int) (h21_0_1 : Int) (h21_0_2 : Int) (h21_0_4 : (List Int)) (x : (Int × (List Int))) (c : St → Option (Ex × St)), den s_l02Echelon_V s_l02Echelon_A (loopAt s_l02Echelon_b 3) (s_l02Echelon_l21_mk h21_0_0 h21_0_1 h21_0_2 h21_0_4 x) (roundK s_l02Echelon_l21_L.kp s_l02Echelon_l21_L.kx c) = (s_l02Echelon_l21 h21_0_1 h21_0_2 x).run (roundR (s_l02Echelon_l21_mk h21_0_0 h21_0_1 h21_0_2 h21_0_4) (s_l02Echelon_l21_out h21_0_0 h21_0_1 h21_0_2 h21_0_4) c) := fun _ _ _ _ _ _ => by
 kernel_rfl
theorem s_l02Echelon_l21_ok : LoopOK s_l02Echelon_V s_l02Echelon_A (loopAt s_l02Echelon_b 3) s_l02Echelon_l21_L := loopOK_of fun s e s' h => by
 generalize hs : restrict s_l02Echelon_l21_L.kp s = s1 at h
 have h : (s_l02Echelon_l21_D s1).run some = some (e, s') := h
 obtain ⟨d2, e1, h_0⟩ := asImmZ_spec h
 obtain ⟨e3, h_1⟩ := asRef_spec h_0
 obtain ⟨e4, h_2⟩ := asRef_spec h_1
 obtain ⟨d6, e5, h_3⟩ := asImmZ_spec h_2
 obtain ⟨d8, e7, h_4⟩ := asImmZ_spec h_3
 obtain ⟨d10, e9, h_5⟩ := asImmZ_spec h_4
 obtain ⟨m12, d13, e11, h_6⟩ := asRoot_spec h_5
 obtain ⟨rfl, h_7⟩ := asM_spec h_6
 obtain ⟨m15, d16, e14, h_8⟩ := asRoot_spec h_7
 obtain ⟨rfl, h_9⟩ := asM_spec h_8
 obtain ⟨y, hy, hz⟩ := mat_ret h_9
 refine ⟨_, _, s_l02Echelon_l21_mk d2 d6 d8 d13, s_l02Echelon_l21_out d2 d6 d8 d13, s_l02Echelon_l21 d6 d8, (d10, d16), y, ?_, hy, ?_, s_l02Echelon_l21_step d2 d6 d8 d13⟩
 ·subst hs; exact restrict_eq (T := [(0, (.imm true (.int .i64) d2)), (5, (.ref (7, 0) [])), (6, (.ref (8, 0) [])), (7, (.imm true (.int .i64) d6)), (10, (.imm true (.int .i64) d8)), (12, (.imm true (.int .i64) d10))]) (U := [((7, 0), some ⟨false, (.sl (.int .i64)), .own, d13⟩), ((8, 0), some ⟨false, (.sl (.int .i64)), .own, d16⟩)]) rfl rfl ⟨e1, e3, e4, e5, e7, e9, trivial⟩ ⟨e11, e14, trivial⟩
 ·exact Option.some.inj hz
set_option maxRecDepth 100000 in
theorem s_l02Echelon_l4_step : ∀ (h4_0_0 : Int) (x : (Int × (List Int) × (List Int))) (c : St → Option (Ex × St)), den s_l02Echelon_V s_l02Echelon_A (loopAt s_l02Echelon_b 0) (s_l02Echelon_l4_mk h4_0_0 x) (roundK s_l02Echelon_l4_L.kp s_l02Echelon_l4_L.kx c) = (s_l02Echelon_l4 h4_0_0 x).run (roundR (s_l02Echelon_l4_mk h4_0_0) (s_l02Echelon_l4_out h4_0_0) c) := fun _ _ _ => by
 kernel_rfl
theorem s_l02Echelon_l4_ok : LoopOK s_l02Echelon_V s_l02Echelon_A (loopAt s_l02Echelon_b 0) s_l02Echelon_l4_L := loopOK_of fun s e s' h => by
 generalize hs : restrict s_l02Echelon_l4_L.kp s = s1 at h
 have h : (s_l02Echelon_l4_D s1).run some = some (e, s') := h
 obtain ⟨d2, e1, h_0⟩ := asImmZ_spec h
 obtain ⟨e3, h_1⟩ := asRef_spec h_0
 obtain ⟨e4, h_2⟩ := asRef_spec h_1
 obtain ⟨d6, e5, h_3⟩ := asImmZ_spec h_2
 obtain ⟨m8, d9, e7, h_4⟩ := asRoot_spec h_3
 obtain ⟨rfl, h_5⟩ := asM_spec h_4
 obtain ⟨m11, d12, e10, h_6⟩ := asRoot_spec h_5
 obtain ⟨rfl, h_7⟩ := asM_spec h_6
 obtain ⟨y, hy, hz⟩ := mat_ret h_7
 refine ⟨_, _, s_l02Echelon_l4_mk d2, s_l02Echelon_l4_out d2, s_l02Echelon_l4 d2, (d6, d9, d12), y, ?_, hy, ?_, s_l02Echelon_l4_step d2⟩
 ·subst hs; exact restrict_eq (T := [(0, (.imm true (.int .i64) d2)), (5, (.ref (7, 0) [])), (6, (.ref (8, 0) [])), (7, (.imm true (.int .i64) d6))]) (U := [((7, 0), some ⟨false, (.sl (.int .i64)), .own, d9⟩), ((8, 0), some ⟨false, (.sl (.int .i64)), .own, d12⟩)]) rfl rfl ⟨e1, e3, e4, e5, trivial⟩ ⟨e7, e10, trivial⟩
 ·exact Option.some.inj hz
noncomputable def s_l02Echelon_I : FnI := ⟨s_l02Echelon_b, Try.f88.results.toList, Try.f88.resultTypes.toList, s_l02Echelon_A⟩
noncomputable def s_l02Echelon_out (_zp0 : Bool) (_p0 : Int) (_p1 : (List Int)) : (List Int) → CallOut := fun r => ⟨(.ref (1, 0) []), [], [⟨false, (.sl (.int .i64)), .own, r⟩]⟩
set_option maxRecDepth 100000 in
theorem s_l02Echelon_eq : ∀ (zp0 : Bool) (p0 : Int) (p1 : (List Int)), denFn s_l02Echelon_V s_l02Echelon_I ⟨[(.imm true (.int .i64) p0), (.imm zp0 (.sl (.int .i64)) p1)], []⟩ = (s_l02Echelon p0 p1).run fun r => some (s_l02Echelon_out zp0 p0 p1 r) := fun _ _ _ => by kernel_rfl
noncomputable def s_l02Echelon_G (av : List AV) (rs : List Root) : Tre CallOut :=
 asCons av fun a0_ av0 =>
 asCons av0 fun a1_ av1 =>
 asEnd av1 <|
 asEnd rs <|
 asImmZ true (.int .i64) a0_ fun d1 =>
 asImm (.sl (.int .i64)) a1_ fun z3 d2 =>
 .mat (echB d1 d2) fun r => .ret (s_l02Echelon_out z3 d1 d2 r)
noncomputable def s_l02Echelon_c : Ctr := ⟨[], fun ci => s_l02Echelon_G ci.args ci.roots⟩
theorem s_l02Echelon_env : EnvOK Try.prog s_l02Echelon_V := (envOK_cons s_l00Own_ok ent111 (envOK_cons s_l02Bit_ok ent100 envOK_nil))
set_option maxRecDepth 100000 in
theorem s_l02Echelon_ok : Contract Try.prog 88 s_l02Echelon_c := by
 have hl : LoopsOK s_l02Echelon_V s_l02Echelon_A s_l02Echelon_b := (loopsOK_all (n := 4) (by kernel_rfl) fun k hk => by
   match k, hk with
   | 0, _ => exact loopOK_at (id := 4) (L := s_l02Echelon_l4_L) (by kernel_rfl) (by kernel_rfl) s_l02Echelon_l4_ok
   | 1, _ => exact loopOK_at (id := 8) (L := s_l02Echelon_l8_L) (by kernel_rfl) (by kernel_rfl) s_l02Echelon_l8_ok
   | 2, _ => exact loopOK_at (id := 16) (L := s_l02Echelon_l16_L) (by kernel_rfl) (by kernel_rfl) s_l02Echelon_l16_ok
   | 3, _ => exact loopOK_at (id := 21) (L := s_l02Echelon_l21_L) (by kernel_rfl) (by kernel_rfl) s_l02Echelon_l21_ok)
 refine (contract_of (F := s_l02Echelon_I) tau_tys s_l02Echelon_env Try.func88 (by kernel_rfl) (by kernel_rfl) (by kernel_rfl) hl []).weaken ?_
 rintro ⟨av, rs⟩ co h
 have h : (s_l02Echelon_G av rs).run some = some co := h
 obtain ⟨a0_, av0, rfl, h_0⟩ := asCons_spec h
 obtain ⟨a1_, av1, rfl, h_1⟩ := asCons_spec h_0
 obtain ⟨rfl, h_2⟩ := asEnd_spec h_1
 obtain ⟨rfl, h_3⟩ := asEnd_spec h_2
 obtain ⟨d1, rfl, h_4⟩ := asImmZ_spec h_3
 obtain ⟨z3, d2, rfl, h_5⟩ := asImm_spec h_4
 exact fin_opt (s_l02Echelon_eq z3 d1 d2) (s_l02Echelon_spec d1 d2) h_5
end Go.Proofs.Ytddaclhjnkimfaa

namespace Go.Proofs.Ytddaclhjnkimfaa
open Go Go.Abs Go.Proofs
noncomputable def s_l02Rank (p0 : Int) (p1 : (List Int)) : Tre Int :=
 .mat (echB p0 p1) fun r1 =>
 .ret (r1.length : Int)
noncomputable def s_l02Rank_F (p0 : Int) (p1 : (List Int)) : Option Int := (s_l02Rank p0 p1).run some
noncomputable def rankR (m : Int) (xs : List Int) : Option Int := askO (inR m 0 62 && okRows m.toNat xs) ((echI xs).length : Int)
theorem s_l02Rank_spec (p0 : Int) (p1 : List Int) (y : Int) (h : rankR p0 p1 = some y) : s_l02Rank_F p0 p1 = some y := by
 obtain ⟨hl, rfl⟩ := askO_some h
 unfold s_l02Rank_F s_l02Rank
 rw [run_some_mat (show echB p0 p1 = some _ from askO_true hl)]
 rfl
noncomputable def s_l02Rank_V : Env := ⟨tau, [(88, s_l02Echelon_c)], []⟩
noncomputable def s_l02Rank_b : Code := (Try.f74.body).getD .skip
noncomputable def s_l02Rank_I : FnI := ⟨s_l02Rank_b, Try.f74.results.toList, Try.f74.resultTypes.toList, []⟩
noncomputable def s_l02Rank_out (_zp0 : Bool) (_p0 : Int) (_p1 : (List Int)) : Int → CallOut := fun r => ⟨(.imm true (.int .i64) r), [], []⟩
set_option maxRecDepth 100000 in
theorem s_l02Rank_eq : ∀ (zp0 : Bool) (p0 : Int) (p1 : (List Int)), denFn s_l02Rank_V s_l02Rank_I ⟨[(.imm true (.int .i64) p0), (.imm zp0 (.sl (.int .i64)) p1)], []⟩ = (s_l02Rank p0 p1).run fun r => some (s_l02Rank_out zp0 p0 p1 r) := fun _ _ _ => by kernel_rfl
noncomputable def s_l02Rank_G (av : List AV) (rs : List Root) : Tre CallOut :=
 asCons av fun a0_ av0 =>
 asCons av0 fun a1_ av1 =>
 asEnd av1 <|
 asEnd rs <|
 asImmZ true (.int .i64) a0_ fun d1 =>
 asImm (.sl (.int .i64)) a1_ fun z3 d2 =>
 .mat (rankR d1 d2) fun r => .ret (s_l02Rank_out z3 d1 d2 r)
noncomputable def s_l02Rank_c : Ctr := ⟨[], fun ci => s_l02Rank_G ci.args ci.roots⟩
theorem s_l02Rank_env : EnvOK Try.prog s_l02Rank_V := (envOK_cons s_l02Echelon_ok ent88 envOK_nil)
set_option maxRecDepth 100000 in
theorem s_l02Rank_ok : Contract Try.prog 74 s_l02Rank_c := by
 have hl : LoopsOK s_l02Rank_V [] s_l02Rank_b := loopsOK_nil (by kernel_rfl)
 refine (contract_of (F := s_l02Rank_I) tau_tys s_l02Rank_env Try.func74 (by kernel_rfl) (by kernel_rfl) (by kernel_rfl) hl []).weaken ?_
 rintro ⟨av, rs⟩ co h
 have h : (s_l02Rank_G av rs).run some = some co := h
 obtain ⟨a0_, av0, rfl, h_0⟩ := asCons_spec h
 obtain ⟨a1_, av1, rfl, h_1⟩ := asCons_spec h_0
 obtain ⟨rfl, h_2⟩ := asEnd_spec h_1
 obtain ⟨rfl, h_3⟩ := asEnd_spec h_2
 obtain ⟨d1, rfl, h_4⟩ := asImmZ_spec h_3
 obtain ⟨z3, d2, rfl, h_5⟩ := asImm_spec h_4
 exact fin_opt (s_l02Rank_eq z3 d1 d2) (s_l02Rank_spec d1 d2) h_5
end Go.Proofs.Ytddaclhjnkimfaa

namespace Go.Proofs.Ytddaclhjnkimfaa
open Go Go.Abs Go.Proofs
noncomputable def s_l08Run_come_c0b8 (p0 : (Int × (Int × Unit))) (p1 : (TPlant × Unit)) (p2 : TGather) : Tre (TPlant × Unit) :=
 .ite (0 ≤ p0.1 ∧ p0.1 < (p1.1.1.length : Int)) <|
 .mat (p1.1.1[p0.1.toNat]?) fun _ =>
 .mat (p1.1.1[p0.1.toNat]?) fun x2 =>
 .mat (cloneR x2.1) fun r3 =>
 .ite ((r3.length + 1) * 8 ≤ appendMax ∧ 1 ≤ 8) <|
 .mat (rankR (s_l08Cols_9aa7_S p2) (r3 ++ ([p0.2.1]))) fun r4 =>
 .cond (decide (r4 = ((r3 ++ ([p0.2.1])).length : Int)))
  (.mat (p1.1.1[p0.1.toNat]?) fun x5 =>
  let v6 := p1.1.1.set p0.1.toNat (r3 ++ ([p0.2.1]), x5.2)
  .ret ((v6, p1.1.2), p1.2))
  (.ret p1)
noncomputable def s_l08Run_come_c0b8_F (p0 : (Int × (Int × Unit))) (p1 : (TPlant × Unit)) (p2 : TGather) : Option (TPlant × Unit) := (s_l08Run_come_c0b8 p0 p1 p2).run some
noncomputable def comeM (x : Int × Int × Unit) (st : List (List Int × List Int × Unit)) : List (List Int × List Int × Unit) :=
 match st[x.1.toNat]? with
 | none => st
 | some s => cond (decide (((echI (s.1 ++ [x.2.1])).length : Int) = ((s.1 ++ [x.2.1]).length : Int))) (st.set x.1.toNat (s.1 ++ [x.2.1], s.2)) st
def okX (g : G8) (x : Int × Int × Unit) : Bool := inR x.1 0 (statG g - 1) && okRow (colsG g) x.2.1
noncomputable def comeR (x : Int × Int × Unit) (p : P8 × Unit) (g : G8) : Option (P8 × Unit) := askO (isG g && okX g x && okP 1000 g p.1) ((comeM x p.1.1, p.1.2), ())
theorem cols_S {g : G8} (h : isG g = true) : s_l08Cols_9aa7_S g = (colsG g : Int) := by
 have h1 := isG_spec h
 rw [(colsG_le h).2]
 unfold s_l08Cols_9aa7_S
 exact iwrap_i64 (by omega) (by omega)
theorem okS_add {k b : Nat} {xs : List Int} {x : Int} (h : okS k b xs = true) (hx : okRow b x = true) : okS (k + 1) b (xs ++ [x]) = true := by
 obtain ⟨h1, h2⟩ := okS_spec.1 h
 refine okS_spec.2 ⟨by simp; omega, fun y hy => ?_⟩
 rcases List.mem_append.1 hy with hy | hy
 ·exact h2 y hy
 ·simp only [List.mem_singleton] at hy; rw [hy]; exact hx
theorem s_l08Run_come_c0b8_spec (p0 : Int × Int × Unit) (p1 : P8 × Unit) (p2 : G8) (y : P8 × Unit) (h : comeR p0 p1 p2 = some y) : s_l08Run_come_c0b8_F p0 p1 p2 = some y := by
 obtain ⟨hok, rfl⟩ := askO_some h
 simp only [Bool.and_eq_true] at hok
 obtain ⟨⟨hg, hx⟩, hp⟩ := hok
 obtain ⟨l1, l2, l3, l4⟩ := okP_spec hp
 unfold okX at hx
 rw [Bool.and_eq_true, inR_iff] at hx
 obtain ⟨⟨x0, x1⟩, hr⟩ := hx
 obtain ⟨⟨st, wi, ⟨⟩⟩, ⟨⟩⟩ := p1
 obtain ⟨t, r, ⟨⟩⟩ := p0
 simp only at *
 obtain ⟨i, rfl⟩ := Int.eq_ofNat_of_zero_le x0
 have hi : i < st.length := by omega
 obtain ⟨s, hs⟩ : ∃ s, st[i]? = some s := ⟨_, List.getElem?_eq_getElem hi⟩
 have hs1 := (l2 s (List.mem_of_getElem? hs)).1
 have hlen := (okS_spec.1 hs1).1
 unfold s_l08Run_come_c0b8_F s_l08Run_come_c0b8 comeM
 simp only [Int.toNat_natCast, hs]
 rw [Tre.run_ite, if_pos ⟨x0, by omega⟩, run_some_mat rfl, run_some_mat rfl, run_some_mat (show cloneR s.1 = some s.1 from lim_of (by omega)), Tre.run_ite, if_pos (by unfold appendMax; omega), cols_S hg]
 rw [run_some_mat (show rankR (colsG p2 : Int) (s.1 ++ [r]) = some _ from askO_true (by
  rw [Bool.and_eq_true, inR_iff, Int.toNat_natCast]
  exact ⟨by have := (colsG_le hg).1; omega, okS_rows (okS_add hs1 hr) (by omega) (Nat.le_refl _)⟩)), Tre.run_cond]
 cases decide (((echI (s.1 ++ [r])).length : Int) = ((s.1 ++ [r]).length : Int))
 ·rfl
 ·rw [cond_true, cond_true, run_some_mat rfl]; rfl
theorem comeM_ok {k : Nat} {g : G8} {p : P8} {x : Int × Int × Unit} (hp : okP k g p = true) (hx : okX g x = true) : okP (k + 1) g (comeM x p.1, p.2) = true := by
 obtain ⟨l1, l2, l3, l4⟩ := okP_spec hp
 unfold okX at hx
 rw [Bool.and_eq_true] at hx
 have h0 := okP_mono hp (Nat.le_succ k)
 unfold comeM
 cases hs : p.1[x.1.toNat]? with
 | none => exact h0
 | some s =>
  simp only
  cases decide (((echI (s.1 ++ [x.2.1])).length : Int) = ((s.1 ++ [x.2.1]).length : Int))
  ·exact h0
  ·have hm := l2 s (List.mem_of_getElem? hs)
   refine okP_mk (by simpa using l1) (fun s' hs' => ?_) l3 l4
   rcases List.mem_or_eq_of_mem_set hs' with hs' | rfl
   ·exact ⟨okS_mono (l2 s' hs').1 (Nat.le_succ k), okS_mono (l2 s' hs').2 (Nat.le_succ k)⟩
   ·exact ⟨okS_add hm.1 hx.2, okS_mono hm.2 (Nat.le_succ k)⟩
noncomputable def s_l08Run_come_c0b8_V : Env := ⟨tau, [(111, s_l00Own_c), (89, s_l08Cols_9aa7_c), (74, s_l02Rank_c)], []⟩
noncomputable def s_l08Run_come_c0b8_b : Code := (Try.f119.body).getD .skip
noncomputable def s_l08Run_come_c0b8_I : FnI := ⟨s_l08Run_come_c0b8_b, Try.f119.results.toList, Try.f119.resultTypes.toList, []⟩
noncomputable def s_l08Run_come_c0b8_out (zp0 : Bool) (_p0 : (Int × (Int × Unit))) (_p1 : (TPlant × Unit)) (p2 : TGather) : (TPlant × Unit) → CallOut := fun r => ⟨.tnil, [⟨true, kL08Run, .own, ((some (0, 1) : Option RName), r)⟩, ⟨true, kGather, (.imm zp0), p2⟩], []⟩
set_option maxRecDepth 100000 in
theorem s_l08Run_come_c0b8_eq : ∀ (zp0 : Bool) (p0 : (Int × (Int × Unit))) (p1 : (TPlant × Unit)) (p2 : TGather), denFn s_l08Run_come_c0b8_V s_l08Run_come_c0b8_I ⟨[(.ptr (0, 0) []), (.imm true kField p0)], [⟨true, kL08Run, .own, ((some (0, 1) : Option RName), p1)⟩, ⟨true, kGather, (.imm zp0), p2⟩]⟩ = (s_l08Run_come_c0b8 p0 p1 p2).run fun r => some (s_l08Run_come_c0b8_out zp0 p0 p1 p2 r) := fun _ _ _ _ => by kernel_rfl
noncomputable def s_l08Run_come_c0b8_G (av : List AV) (rs : List Root) : Tre CallOut :=
 asCons av fun a0_ av0 =>
 asCons av0 fun a1_ av1 =>
 asEnd av1 <|
 asCons rs fun r0_ rs0 =>
 asCons rs0 fun r1_ rs1 =>
 asEnd rs1 <|
 asPtr (0, 0) [] a0_ <|
 asImmZ true kField a1_ fun d1 =>
 asRt true kL08Run r0_ fun m2 d3 =>
 asM .own m2 <|
 asProd d3 fun d4 d5 =>
 asD d4 (some (0, 1) : Option RName) <|
 asRt true kGather r1_ fun m6 d7 =>
 asMImm m6 fun z8 =>
 .mat (comeR d1 d5 d7) fun r => .ret (s_l08Run_come_c0b8_out z8 d1 d5 d7 r)
noncomputable def s_l08Run_come_c0b8_c : Ctr := ⟨[], fun ci => s_l08Run_come_c0b8_G ci.args ci.roots⟩
theorem s_l08Run_come_c0b8_env : EnvOK Try.prog s_l08Run_come_c0b8_V := (envOK_cons s_l00Own_ok ent111 (envOK_cons s_l08Cols_9aa7_ok ent89 (envOK_cons s_l02Rank_ok ent74 envOK_nil)))
set_option maxRecDepth 100000 in
theorem s_l08Run_come_c0b8_ok : Contract Try.prog 119 s_l08Run_come_c0b8_c := by
 have hl : LoopsOK s_l08Run_come_c0b8_V [] s_l08Run_come_c0b8_b := loopsOK_nil (by kernel_rfl)
 refine (contract_of (F := s_l08Run_come_c0b8_I) tau_tys s_l08Run_come_c0b8_env Try.func119 (by kernel_rfl) (by kernel_rfl) (by kernel_rfl) hl []).weaken ?_
 rintro ⟨av, rs⟩ co h
 have h : (s_l08Run_come_c0b8_G av rs).run some = some co := h
 obtain ⟨a0_, av0, rfl, h_0⟩ := asCons_spec h
 obtain ⟨a1_, av1, rfl, h_1⟩ := asCons_spec h_0
 obtain ⟨rfl, h_2⟩ := asEnd_spec h_1
 obtain ⟨r0_, rs0, rfl, h_3⟩ := asCons_spec h_2
 obtain ⟨r1_, rs1, rfl, h_4⟩ := asCons_spec h_3
 obtain ⟨rfl, h_5⟩ := asEnd_spec h_4
 obtain ⟨rfl, h_6⟩ := asPtr_spec h_5
 obtain ⟨d1, rfl, h_7⟩ := asImmZ_spec h_6
 obtain ⟨m2, d3, rfl, h_8⟩ := asRt_spec h_7
 obtain ⟨rfl, h_9⟩ := asM_spec h_8
 obtain ⟨d4, d5, rfl, h_10⟩ := asProd_spec h_9
 obtain ⟨rfl, h_11⟩ := asD_spec h_10
 obtain ⟨m6, d7, rfl, h_12⟩ := asRt_spec h_11
 obtain ⟨z8, rfl, h_13⟩ := asMImm_spec h_12
 exact fin_opt (s_l08Run_come_c0b8_eq z8 d1 d5 d7) (s_l08Run_come_c0b8_spec d1 d5 d7) h_13
end Go.Proofs.Ytddaclhjnkimfaa

namespace Go.Proofs.Ytddaclhjnkimfaa
open Go Go.Abs Go.Proofs
noncomputable def s_l08Run_wire_9d6c (p0 : TDeed) (p1 : (TPlant × Unit)) (p2 : TGather) : Tre (Int × (TPlant × Unit)) :=
 .cond (decide (p0.2.1 ≥ (p1.1.2.1.length : Int)))
  (.ret (2, p1))
  (.cond (decide (p0.1 = 5))
   (.cond (decide (p0.2.2.1 = 0))
    (.ret (2, p1))
    (let v1 := iwrap .u64 (s_l08Cols_9aa7_S p2)
    .ite (0 ≤ v1) <|
    .cond (decide (p0.2.2.1 ≥ ishl .i64 1 v1))
     (.ret (2, p1))
     (.ite (0 ≤ p0.2.1 ∧ p0.2.1 < (p1.1.2.1.length : Int)) <|
     .mat (p1.1.2.1[p0.2.1.toNat]?) fun x2 =>
     let v3 := ixor .i64 x2.2.1 p0.2.2.1
     .ite (0 ≤ p0.2.1 ∧ p0.2.1 < (p1.1.2.1.length : Int)) <|
     .mat (p1.1.2.1[p0.2.1.toNat]?) fun x4 =>
     let v5 := p1.1.2.1.set p0.2.1.toNat (x4.1, (v3, x4.2.2))
     .ret (0, ((p1.1.1, (v5, p1.1.2.2)), p1.2)))))
   (.cond (decide (p0.1 = 3))
    (.ite (0 ≤ p0.2.1 ∧ p0.2.1 < (p1.1.2.1.length : Int)) <|
    .mat (p1.1.2.1[p0.2.1.toNat]?) fun x6 =>
    .mat (comeR x6 p1 p2) fun r7 =>
    .ret (0, r7))
    (.cond (decide (p0.1 = 2))
     (.ite (0 ≤ p0.2.1 ∧ p0.2.1 < (p1.1.2.1.length : Int)) <|
     .mat (p1.1.2.1[p0.2.1.toNat]?) fun x8 =>
     .mat (comeR x8 p1 p2) fun r9 =>
     .ite (0 ≤ iwrap .i64 (p0.2.1 + 1) ∧ iwrap .i64 (p0.2.1 + 1) ≤ (r9.1.2.1.length : Int) ∧ (r9.1.2.1.length : Int) ≤ (r9.1.2.1.length : Int)) <|
     .ite ((0 + ((r9.1.2.1.drop ((iwrap .i64 (p0.2.1 + 1)).toNat)).take (((r9.1.2.1.length : Int) - (iwrap .i64 (p0.2.1 + 1))).toNat)).length) * 16 ≤ appendMax ∧ 1 ≤ 16) <|
     let v10 := [] ++ ((r9.1.2.1.drop ((iwrap .i64 (p0.2.1 + 1)).toNat)).take (((r9.1.2.1.length : Int) - (iwrap .i64 (p0.2.1 + 1))).toNat))
     .ite (0 ≤ (0 : Int) ∧ (0 : Int) ≤ p0.2.1 ∧ p0.2.1 ≤ (r9.1.2.1.length : Int)) <|
     .ite ((0 + ((r9.1.2.1.drop 0).take ((p0.2.1 - 0).toNat)).length) * 16 ≤ appendMax ∧ 1 ≤ 16) <|
     let v11 := [] ++ ((r9.1.2.1.drop 0).take ((p0.2.1 - 0).toNat))
     .ite ((v11.length + v10.length) * 16 ≤ appendMax ∧ 1 ≤ 16) <|
     .ret (0, ((r9.1.1, (v11 ++ v10, r9.1.2.2)), r9.2)))
     (.ite (0 ≤ iwrap .i64 (p0.2.1 + 1) ∧ iwrap .i64 (p0.2.1 + 1) ≤ (p1.1.2.1.length : Int) ∧ (p1.1.2.1.length : Int) ≤ (p1.1.2.1.length : Int)) <|
     .ite ((0 + ((p1.1.2.1.drop ((iwrap .i64 (p0.2.1 + 1)).toNat)).take (((p1.1.2.1.length : Int) - (iwrap .i64 (p0.2.1 + 1))).toNat)).length) * 16 ≤ appendMax ∧ 1 ≤ 16) <|
     let v12 := [] ++ ((p1.1.2.1.drop ((iwrap .i64 (p0.2.1 + 1)).toNat)).take (((p1.1.2.1.length : Int) - (iwrap .i64 (p0.2.1 + 1))).toNat))
     .ite (0 ≤ (0 : Int) ∧ (0 : Int) ≤ p0.2.1 ∧ p0.2.1 ≤ (p1.1.2.1.length : Int)) <|
     .ite ((0 + ((p1.1.2.1.drop 0).take ((p0.2.1 - 0).toNat)).length) * 16 ≤ appendMax ∧ 1 ≤ 16) <|
     let v13 := [] ++ ((p1.1.2.1.drop 0).take ((p0.2.1 - 0).toNat))
     .ite ((v13.length + v12.length) * 16 ≤ appendMax ∧ 1 ≤ 16) <|
     .ret (0, ((p1.1.1, (v13 ++ v12, p1.1.2.2)), p1.2))))))
noncomputable def s_l08Run_wire_9d6c_F (p0 : TDeed) (p1 : (TPlant × Unit)) (p2 : TGather) : Option (Int × (TPlant × Unit)) := (s_l08Run_wire_9d6c p0 p1 p2).run some
noncomputable def wireM (g : G8) (d : D8) (p : P8) : Int × P8 :=
 cond (decide (d.2.1 ≥ (p.2.1.length : Int))) (2, p)
  (match p.2.1[d.2.1.toNat]? with
   | none => (2, p)
   | some x => cond (decide (d.1 = 5))
     (cond (decide (d.2.2.1 = 0) || decide (d.2.2.1 ≥ ishl .i64 1 (colsG g : Int))) (2, p) (0, (p.1, p.2.1.set d.2.1.toNat (x.1, ixor .i64 x.2.1 d.2.2.1, ()), ())))
     (0, (cond (decide (d.1 = 4)) p.1 (comeM x p.1), cond (decide (d.1 = 3)) p.2.1 (p.2.1.take d.2.1.toNat ++ p.2.1.drop (d.2.1.toNat + 1)), ())))
noncomputable def wireR (d : D8) (p : P8 × Unit) (g : G8) : Option (Int × (P8 × Unit)) := askO (isG g && vDeed d && inR d.1 2 5 && okP 1000 g p.1) ((wireM g d p.1).1, (wireM g d p.1).2, ())
theorem okX_of {k : Nat} {g : G8} {p : P8} {i : Nat} {x : Int × Int × Unit} (hp : okP k g p = true) (hx : p.2.1[i]? = some x) : okX g x = true := by
 have h := (okP_spec hp).2.2.2 x (List.mem_of_getElem? hx)
 unfold okX
 rw [Bool.and_eq_true, inR_iff]; exact h
theorem s_l08Run_wire_9d6c_spec (p0 : D8) (p1 : P8 × Unit) (p2 : G8) (y : Int × (P8 × Unit)) (h : wireR p0 p1 p2 = some y) : s_l08Run_wire_9d6c_F p0 p1 p2 = some y := by
 obtain ⟨hok, rfl⟩ := askO_some h
 simp only [Bool.and_eq_true] at hok
 obtain ⟨⟨⟨hg, hd⟩, hk⟩, hp⟩ := hok
 obtain ⟨⟨a0, a1⟩, ⟨b0, b1⟩, ⟨c0, c1⟩, _⟩ := vDeed_rng hd
 have hp0 := hp
 obtain ⟨l1, l2, l3, l4⟩ := okP_spec hp
 obtain ⟨⟨st, wi, ⟨⟩⟩, ⟨⟩⟩ := p1
 obtain ⟨kk, a, b, c, ⟨⟩⟩ := p0
 have hc := colsG_le hg
 have hw : iwrap .u64 (s_l08Cols_9aa7_S p2) = (colsG p2 : Int) := by rw [cols_S hg]; exact iwrap_u64 (by omega) (by omega)
 unfold s_l08Run_wire_9d6c_F s_l08Run_wire_9d6c wireM
 simp only at *
 by_cases h1 : a ≥ (wi.length : Int)
 ·simp only [Tre.run_cond, decide_eq_true h1, cond_true, Tre.run_ret]
 obtain ⟨i, rfl⟩ := Int.eq_ofNat_of_zero_le a0
 have hi : i < wi.length := by omega
 obtain ⟨x, hx⟩ : ∃ x, wi[i]? = some x := ⟨_, List.getElem?_eq_getElem hi⟩
 have hxx : okX p2 x = true := okX_of hp0 hx
 have hcome : comeR x ((st, wi, ()), ()) p2 = some ((comeM x st, wi, ()), ()) := askO_true (by rw [Bool.and_eq_true, Bool.and_eq_true]; exact ⟨⟨hg, hxx⟩, hp0⟩)
 have hi1 : iwrap .i64 ((i : Int) + 1) = ((i + 1 : Nat) : Int) := iwrap_succ (by omega)
 have hin : 0 ≤ (i : Int) ∧ (i : Int) < (wi.length : Int) := ⟨a0, by omega⟩
 have e1 : (wi.drop (i + 1)).take ((wi.length : Int) - ((i + 1 : Nat) : Int)).toNat = wi.drop (i + 1) := List.take_of_length_le (by rw [List.length_drop]; omega)
 have e2 : (wi.drop 0).take ((i : Int) - 0).toNat = wi.take i := by rw [List.drop_zero, Int.sub_zero, Int.toNat_natCast]
 have e3 : (wi.drop (i + 1)).length ≤ 12 := by rw [List.length_drop]; omega
 have e4 : (wi.take i).length ≤ 12 := by rw [List.length_take]; omega
 have hk : kk = 2 ∨ kk = 3 ∨ kk = 4 ∨ kk = 5 := by rw [inR_iff] at hk; omega
 have c1' : 0 ≤ ((i + 1 : Nat) : Int) ∧ ((i + 1 : Nat) : Int) ≤ (wi.length : Int) ∧ (wi.length : Int) ≤ (wi.length : Int) := by omega
 have c2' : 0 ≤ (0 : Int) ∧ (0 : Int) ≤ (i : Int) ∧ (i : Int) ≤ (wi.length : Int) := by omega
 have c3' : (0 + (wi.drop (i + 1)).length) * 16 ≤ appendMax ∧ 1 ≤ 16 := by unfold appendMax; omega
 have c4' : (0 + (wi.take i).length) * 16 ≤ appendMax ∧ 1 ≤ 16 := by unfold appendMax; omega
 have c5' : ((wi.take i).length + (wi.drop (i + 1)).length) * 16 ≤ appendMax ∧ 1 ≤ 16 := by unfold appendMax; omega
 rw [Tre.run_cond, decide_eq_false h1, cond_false, cond_false]
 simp only [Int.toNat_natCast, hx]
 rcases hk with rfl | rfl | rfl | rfl
 ·rw [Tre.run_cond, show decide ((2 : Int) = 5) = false from rfl, show decide ((2 : Int) = 3) = false from rfl, show decide ((2 : Int) = 4) = false from rfl, show decide ((2 : Int) = 2) = true from rfl, cond_false, Tre.run_cond, cond_false, Tre.run_cond, cond_true, Tre.run_ite, if_pos hin, run_some_mat rfl, run_some_mat hcome]
  simp only [hi1, Int.toNat_natCast, e1, e2, List.nil_append]
  rw [Tre.run_ite, if_pos c1', Tre.run_ite, if_pos c3', Tre.run_ite, if_pos c2', Tre.run_ite, if_pos c4', Tre.run_ite, if_pos c5', Tre.run_ret]
  rfl
 ·rw [Tre.run_cond, show decide ((3 : Int) = 5) = false from rfl, show decide ((3 : Int) = 3) = true from rfl, show decide ((3 : Int) = 4) = false from rfl, cond_false, Tre.run_cond, cond_true, Tre.run_ite, if_pos hin, run_some_mat rfl, run_some_mat hcome]
  rfl
 ·rw [Tre.run_cond, show decide ((4 : Int) = 5) = false from rfl, show decide ((4 : Int) = 3) = false from rfl, show decide ((4 : Int) = 2) = false from rfl, cond_false, Tre.run_cond, cond_false, Tre.run_cond, cond_false]
  simp only [hi1, Int.toNat_natCast, e1, e2, List.nil_append]
  rw [Tre.run_ite, if_pos c1', Tre.run_ite, if_pos c3', Tre.run_ite, if_pos c2', Tre.run_ite, if_pos c4', Tre.run_ite, if_pos c5', Tre.run_ret]
  rfl
 ·rw [Tre.run_cond, show decide ((5 : Int) = 5) = true from rfl, cond_true, Tre.run_cond]
  by_cases hb : b = 0
  ·simp only [decide_eq_true hb, cond_true, Tre.run_ret, Bool.true_or]
  ·rw [decide_eq_false hb, cond_false]
   simp only [hw]
   rw [Tre.run_ite, if_pos (by omega), Tre.run_cond]
   cases decide (b ≥ ishl .i64 1 (colsG p2 : Int))
   ·rw [cond_false, Tre.run_ite, if_pos hin, run_some_mat rfl]
    rw [Tre.run_ite, if_pos hin, run_some_mat rfl]
    rfl
   ·rfl
theorem shl_cols {b : Nat} (hb : b ≤ 10) : ishl .i64 1 (b : Int) = ((2 ^ b : Nat) : Int) := by
 have h := pow_le hb
 unfold ishl
 rw [Int.toNat_natCast, Nat.min_eq_left (by show b ≤ 64; omega)]
 have h2 : ((1 : Int) * 2 ^ b) = ((2 ^ b : Nat) : Int) := by rw [Int.one_mul]; simp
 rw [h2]
 have h3 : 2 ^ b ≤ 1024 := h
 generalize 2 ^ b = n at h3
 exact iwrap_i64 (by omega) (by omega)
theorem okRow_nat {b : Nat} {x : Int} : okRow b x = true ↔ ∃ n : Nat, x = (n : Int) ∧ n < 2 ^ b := by
 unfold okRow
 simp only [Bool.and_eq_true, decide_eq_true_eq]
 constructor
 ·rintro ⟨h1, h2⟩
  exact ⟨x.toNat, by omega, by omega⟩
 ·rintro ⟨n, rfl, h⟩
  omega
theorem wireM_ok {k : Nat} {g : G8} {d : D8} {p : P8} (hg : isG g = true) (hd : vDeed d = true) (hp : okP k g p = true) : okP (k + 1) g (wireM g d p).2 = true := by
 obtain ⟨l1, l2, l3, l4⟩ := okP_spec hp
 have h0 := okP_mono hp (Nat.le_succ k)
 have hc := (colsG_le hg).1
 obtain ⟨_, ⟨b0, _⟩, _, _⟩ := vDeed_rng hd
 unfold wireM
 cases decide (d.2.1 ≥ (p.2.1.length : Int))
 case true => exact h0
 simp only [cond_false]
 cases hx : p.2.1[d.2.1.toNat]? with
 | none => exact h0
 | some x =>
  have hxx : okX g x = true := okX_of hp hx
  simp only
  cases decide (d.1 = 5)
  ·simp only [cond_false]
   have hcm := comeM_ok hp hxx
   obtain ⟨m1, m2, m3, m4⟩ := okP_spec hcm
   have hst : ∀ q : Bool, ((cond q p.1 (comeM x p.1)).length : Int) = statG g ∧ ∀ s ∈ cond q p.1 (comeM x p.1), okS (k + 1) (colsG g) s.1 = true ∧ okS (k + 1) (colsG g) s.2.1 = true := by
    intro q
    cases q
    ·exact ⟨m1, m2⟩
    ·exact ⟨l1, (okP_spec h0).2.1⟩
   refine okP_mk (hst _).1 (hst _).2 ?_ ?_
   ·show (cond (decide (d.1 = 3)) p.2.1 (p.2.1.take d.2.1.toNat ++ p.2.1.drop (d.2.1.toNat + 1))).length ≤ 12
    cases decide (d.1 = 3)
    ·simp; omega
    ·exact l3
   ·intro z hz
    refine l4 z ?_
    have hz : z ∈ cond (decide (d.1 = 3)) p.2.1 (p.2.1.take d.2.1.toNat ++ p.2.1.drop (d.2.1.toNat + 1)) := hz
    revert hz
    cases decide (d.1 = 3)
    ·intro hz
     rcases List.mem_append.1 hz with hz | hz
     ·exact List.mem_of_mem_take hz
     ·exact List.mem_of_mem_drop hz
    ·exact id
  ·simp only [cond_true]
   by_cases hb : (decide (d.2.2.1 = 0) || decide (d.2.2.1 ≥ ishl .i64 1 (colsG g : Int))) = true
   ·rw [hb]; exact h0
   ·rw [Bool.not_eq_true] at hb
    rw [hb]
    rw [Bool.or_eq_false_iff] at hb
    have h2 := of_decide_eq_false hb.2
    rw [shl_cols hc] at h2
    unfold okX at hxx
    rw [Bool.and_eq_true, inR_iff] at hxx
    obtain ⟨n, hn, hn2⟩ := okRow_nat.1 hxx.2
    obtain ⟨m, hm⟩ := Int.eq_ofNat_of_zero_le b0
    have hp2 := pow_le (c := 62) (b := colsG g) (by omega)
    refine okP_mk l1 (okP_spec h0).2.1 (by simpa using l3) ?_
    intro z hz
    rcases List.mem_or_eq_of_mem_set hz with hz | rfl
    ·exact l4 z hz
    ·refine ⟨hxx.1, okRow_nat.2 ⟨n ^^^ m, ?_, Nat.xor_lt_two_pow hn2 (by omega)⟩⟩
     show ixor .i64 x.2.1 d.2.2.1 = _
     rw [hn, hm, ixor_nat (by omega) (by omega)]
noncomputable def s_l08Run_wire_9d6c_V : Env := ⟨tau, [(89, s_l08Cols_9aa7_c), (119, s_l08Run_come_c0b8_c)], []⟩
noncomputable def s_l08Run_wire_9d6c_b : Code := (Try.f110.body).getD .skip
noncomputable def s_l08Run_wire_9d6c_I : FnI := ⟨s_l08Run_wire_9d6c_b, Try.f110.results.toList, Try.f110.resultTypes.toList, []⟩
noncomputable def s_l08Run_wire_9d6c_out (zp0 : Bool) (_p0 : TDeed) (_p1 : (TPlant × Unit)) (p2 : TGather) : (Int × (TPlant × Unit)) → CallOut := fun r => ⟨(.imm true (.int .i64) r.1), [⟨true, kL08Run, .own, ((some (0, 1) : Option RName), r.2)⟩, ⟨true, kGather, (.imm zp0), p2⟩], []⟩
set_option maxRecDepth 100000 in
theorem s_l08Run_wire_9d6c_eq : ∀ (zp0 : Bool) (p0 : TDeed) (p1 : (TPlant × Unit)) (p2 : TGather), denFn s_l08Run_wire_9d6c_V s_l08Run_wire_9d6c_I ⟨[(.ptr (0, 0) []), (.imm true kDeed p0)], [⟨true, kL08Run, .own, ((some (0, 1) : Option RName), p1)⟩, ⟨true, kGather, (.imm zp0), p2⟩]⟩ = (s_l08Run_wire_9d6c p0 p1 p2).run fun r => some (s_l08Run_wire_9d6c_out zp0 p0 p1 p2 r) := fun _ _ _ _ => by kernel_rfl
noncomputable def s_l08Run_wire_9d6c_G (av : List AV) (rs : List Root) : Tre CallOut :=
 asCons av fun a0_ av0 =>
 asCons av0 fun a1_ av1 =>
 asEnd av1 <|
 asCons rs fun r0_ rs0 =>
 asCons rs0 fun r1_ rs1 =>
 asEnd rs1 <|
 asPtr (0, 0) [] a0_ <|
 asImmZ true kDeed a1_ fun d1 =>
 asRt true kL08Run r0_ fun m2 d3 =>
 asM .own m2 <|
 asProd d3 fun d4 d5 =>
 asD d4 (some (0, 1) : Option RName) <|
 asRt true kGather r1_ fun m6 d7 =>
 asMImm m6 fun z8 =>
 .mat (wireR d1 d5 d7) fun r => .ret (s_l08Run_wire_9d6c_out z8 d1 d5 d7 r)
noncomputable def s_l08Run_wire_9d6c_c : Ctr := ⟨[], fun ci => s_l08Run_wire_9d6c_G ci.args ci.roots⟩
theorem s_l08Run_wire_9d6c_env : EnvOK Try.prog s_l08Run_wire_9d6c_V := (envOK_cons s_l08Cols_9aa7_ok ent89 (envOK_cons s_l08Run_come_c0b8_ok ent119 envOK_nil))
set_option maxRecDepth 100000 in
theorem s_l08Run_wire_9d6c_ok : Contract Try.prog 110 s_l08Run_wire_9d6c_c := by
 have hl : LoopsOK s_l08Run_wire_9d6c_V [] s_l08Run_wire_9d6c_b := loopsOK_nil (by kernel_rfl)
 refine (contract_of (F := s_l08Run_wire_9d6c_I) tau_tys s_l08Run_wire_9d6c_env Try.func110 (by kernel_rfl) (by kernel_rfl) (by kernel_rfl) hl []).weaken ?_
 rintro ⟨av, rs⟩ co h
 have h : (s_l08Run_wire_9d6c_G av rs).run some = some co := h
 obtain ⟨a0_, av0, rfl, h_0⟩ := asCons_spec h
 obtain ⟨a1_, av1, rfl, h_1⟩ := asCons_spec h_0
 obtain ⟨rfl, h_2⟩ := asEnd_spec h_1
 obtain ⟨r0_, rs0, rfl, h_3⟩ := asCons_spec h_2
 obtain ⟨r1_, rs1, rfl, h_4⟩ := asCons_spec h_3
 obtain ⟨rfl, h_5⟩ := asEnd_spec h_4
 obtain ⟨rfl, h_6⟩ := asPtr_spec h_5
 obtain ⟨d1, rfl, h_7⟩ := asImmZ_spec h_6
 obtain ⟨m2, d3, rfl, h_8⟩ := asRt_spec h_7
 obtain ⟨rfl, h_9⟩ := asM_spec h_8
 obtain ⟨d4, d5, rfl, h_10⟩ := asProd_spec h_9
 obtain ⟨rfl, h_11⟩ := asD_spec h_10
 obtain ⟨m6, d7, rfl, h_12⟩ := asRt_spec h_11
 obtain ⟨z8, rfl, h_13⟩ := asMImm_spec h_12
 exact fin_opt (s_l08Run_wire_9d6c_eq z8 d1 d5 d7) (s_l08Run_wire_9d6c_spec d1 d5 d7) h_13
end Go.Proofs.Ytddaclhjnkimfaa

namespace Go.Proofs.Ytddaclhjnkimfaa
open Go Go.Abs Go.Proofs
noncomputable def s_l08Run_do_9d6c (p0 : TDeed) (p1 : (TPlant × Unit)) (p2 : TGather) : Tre (Int × (TPlant × Unit)) :=
 .cond (decide (p0.1 = 1))
  (.mat (sendR p0 p1 p2) fun r1 =>
  .ret (r1.1, r1.2))
  (.cond (decide (p0.1 = 2))
   (.cond (decide (p0.1 = 2))
    (.mat (wireR p0 p1 p2) fun r2 =>
    .ret (r2.1, r2.2))
    (.cond (decide (p0.2.1 ≥ (p1.1.1.length : Int)))
     (.ret (2, p1))
     (.ite (0 ≤ p0.2.1 ∧ p0.2.1 < (p1.1.1.length : Int)) <|
     .cond (decide (p0.1 = 6))
      (.mat (p1.1.1[p0.2.1.toNat]?) fun _ =>
      .mat (p1.1.1[p0.2.1.toNat]?) fun x4 =>
      .mat (cloneR x4.1) fun r5 =>
      .mat (p1.1.1[p0.2.1.toNat]?) fun x6 =>
      let v7 := p1.1.1.set p0.2.1.toNat (x6.1, (r5, x6.2.2))
      .ret (0, ((v7, p1.1.2), p1.2)))
      (.cond (decide (p0.1 = 7))
       (.mat (p1.1.1[p0.2.1.toNat]?) fun _ =>
       .mat (p1.1.1[p0.2.1.toNat]?) fun x9 =>
       .mat (cloneR x9.2.1) fun r10 =>
       .mat (p1.1.1[p0.2.1.toNat]?) fun x11 =>
       let v12 := p1.1.1.set p0.2.1.toNat (r10, x11.2)
       .ret (0, ((v12, p1.1.2), p1.2)))
       (.mat (p1.1.1[p0.2.1.toNat]?) fun x13 =>
       let v14 := p1.1.1.set p0.2.1.toNat ([], x13.2)
       .ret (0, ((v14, p1.1.2), p1.2)))))))
   (.cond (decide (p0.1 = 3))
    (.cond (decide (p0.1 = 3))
     (.mat (wireR p0 p1 p2) fun r15 =>
     .ret (r15.1, r15.2))
     (.cond (decide (p0.2.1 ≥ (p1.1.1.length : Int)))
      (.ret (2, p1))
      (.ite (0 ≤ p0.2.1 ∧ p0.2.1 < (p1.1.1.length : Int)) <|
      .cond (decide (p0.1 = 6))
       (.mat (p1.1.1[p0.2.1.toNat]?) fun _ =>
       .mat (p1.1.1[p0.2.1.toNat]?) fun x17 =>
       .mat (cloneR x17.1) fun r18 =>
       .mat (p1.1.1[p0.2.1.toNat]?) fun x19 =>
       let v20 := p1.1.1.set p0.2.1.toNat (x19.1, (r18, x19.2.2))
       .ret (0, ((v20, p1.1.2), p1.2)))
       (.cond (decide (p0.1 = 7))
        (.mat (p1.1.1[p0.2.1.toNat]?) fun _ =>
        .mat (p1.1.1[p0.2.1.toNat]?) fun x22 =>
        .mat (cloneR x22.2.1) fun r23 =>
        .mat (p1.1.1[p0.2.1.toNat]?) fun x24 =>
        let v25 := p1.1.1.set p0.2.1.toNat (r23, x24.2)
        .ret (0, ((v25, p1.1.2), p1.2)))
        (.mat (p1.1.1[p0.2.1.toNat]?) fun x26 =>
        let v27 := p1.1.1.set p0.2.1.toNat ([], x26.2)
        .ret (0, ((v27, p1.1.2), p1.2)))))))
    (.cond (decide (p0.1 = 4))
     (.cond (decide (p0.1 = 4))
      (.mat (wireR p0 p1 p2) fun r28 =>
      .ret (r28.1, r28.2))
      (.cond (decide (p0.2.1 ≥ (p1.1.1.length : Int)))
       (.ret (2, p1))
       (.ite (0 ≤ p0.2.1 ∧ p0.2.1 < (p1.1.1.length : Int)) <|
       .cond (decide (p0.1 = 6))
        (.mat (p1.1.1[p0.2.1.toNat]?) fun _ =>
        .mat (p1.1.1[p0.2.1.toNat]?) fun x30 =>
        .mat (cloneR x30.1) fun r31 =>
        .mat (p1.1.1[p0.2.1.toNat]?) fun x32 =>
        let v33 := p1.1.1.set p0.2.1.toNat (x32.1, (r31, x32.2.2))
        .ret (0, ((v33, p1.1.2), p1.2)))
        (.cond (decide (p0.1 = 7))
         (.mat (p1.1.1[p0.2.1.toNat]?) fun _ =>
         .mat (p1.1.1[p0.2.1.toNat]?) fun x35 =>
         .mat (cloneR x35.2.1) fun r36 =>
         .mat (p1.1.1[p0.2.1.toNat]?) fun x37 =>
         let v38 := p1.1.1.set p0.2.1.toNat (r36, x37.2)
         .ret (0, ((v38, p1.1.2), p1.2)))
         (.mat (p1.1.1[p0.2.1.toNat]?) fun x39 =>
         let v40 := p1.1.1.set p0.2.1.toNat ([], x39.2)
         .ret (0, ((v40, p1.1.2), p1.2)))))))
     (.cond (decide (p0.1 = 5))
      (.mat (wireR p0 p1 p2) fun r41 =>
      .ret (r41.1, r41.2))
      (.cond (decide (p0.2.1 ≥ (p1.1.1.length : Int)))
       (.ret (2, p1))
       (.ite (0 ≤ p0.2.1 ∧ p0.2.1 < (p1.1.1.length : Int)) <|
       .cond (decide (p0.1 = 6))
        (.mat (p1.1.1[p0.2.1.toNat]?) fun _ =>
        .mat (p1.1.1[p0.2.1.toNat]?) fun x43 =>
        .mat (cloneR x43.1) fun r44 =>
        .mat (p1.1.1[p0.2.1.toNat]?) fun x45 =>
        let v46 := p1.1.1.set p0.2.1.toNat (x45.1, (r44, x45.2.2))
        .ret (0, ((v46, p1.1.2), p1.2)))
        (.cond (decide (p0.1 = 7))
         (.mat (p1.1.1[p0.2.1.toNat]?) fun _ =>
         .mat (p1.1.1[p0.2.1.toNat]?) fun x48 =>
         .mat (cloneR x48.2.1) fun r49 =>
         .mat (p1.1.1[p0.2.1.toNat]?) fun x50 =>
         let v51 := p1.1.1.set p0.2.1.toNat (r49, x50.2)
         .ret (0, ((v51, p1.1.2), p1.2)))
         (.mat (p1.1.1[p0.2.1.toNat]?) fun x52 =>
         let v53 := p1.1.1.set p0.2.1.toNat ([], x52.2)
         .ret (0, ((v53, p1.1.2), p1.2))))))))))
noncomputable def s_l08Run_do_9d6c_F (p0 : TDeed) (p1 : (TPlant × Unit)) (p2 : TGather) : Option (Int × (TPlant × Unit)) := (s_l08Run_do_9d6c p0 p1 p2).run some
noncomputable def doM (g : G8) (d : D8) (p : P8) : Int × P8 :=
 cond (decide (d.1 = 1)) (sendM d p) (cond (inR d.1 2 5) (wireM g d p) (cond (decide (d.2.1 ≥ (p.1.length : Int))) (2, p)
  (match p.1[d.2.1.toNat]? with
   | none => (2, p)
   | some s => (0, (p.1.set d.2.1.toNat (cond (decide (d.1 = 6)) (s.1, s.1, ()) (cond (decide (d.1 = 7)) (s.2.1, s.2) ([], s.2))), p.2)))))
noncomputable def doR (d : D8) (p : P8 × Unit) (g : G8) : Option (Int × (P8 × Unit)) := askO (isG g && vDeed d && okP 1000 g p.1) ((doM g d p.1).1, (doM g d p.1).2, ())
theorem s_l08Run_do_9d6c_spec (p0 : D8) (p1 : P8 × Unit) (p2 : G8) (y : Int × (P8 × Unit)) (h : doR p0 p1 p2 = some y) : s_l08Run_do_9d6c_F p0 p1 p2 = some y := by
 obtain ⟨hok, rfl⟩ := askO_some h
 have hsend : sendR p0 p1 p2 = some _ := askO_true hok
 have hwire : inR p0.1 2 5 = true → wireR p0 p1 p2 = some _ := fun hk => askO_true (by
  simp only [Bool.and_eq_true] at hok ⊢
  exact ⟨⟨hok.1, hk⟩, hok.2⟩)
 simp only [Bool.and_eq_true] at hok
 obtain ⟨⟨hg, hd⟩, hp⟩ := hok
 obtain ⟨⟨a0, a1⟩, _, _, hk⟩ := vDeed_rng hd
 obtain ⟨l1, l2, l3, l4⟩ := okP_spec hp
 obtain ⟨kk, a, b, c, ⟨⟩⟩ := p0
 unfold s_l08Run_do_9d6c_F s_l08Run_do_9d6c doM
 simp only at *
 rcases kind_cases hk with rfl | rfl | rfl | rfl | rfl | rfl | rfl | rfl
 ·rw [Tre.run_cond, show decide ((1 : Int) = 1) = true from rfl, cond_true, run_some_mat hsend]; rfl
 ·simp only [Tre.run_cond, show decide ((2 : Int) = 1) = false from rfl, show decide ((2 : Int) = 2) = true from rfl, cond_true, cond_false]
  rw [run_some_mat (hwire rfl)]; rfl
 ·simp only [Tre.run_cond, show decide ((3 : Int) = 1) = false from rfl, show decide ((3 : Int) = 2) = false from rfl, show decide ((3 : Int) = 3) = true from rfl, cond_true, cond_false]
  rw [run_some_mat (hwire rfl)]; rfl
 ·simp only [Tre.run_cond, show decide ((4 : Int) = 1) = false from rfl, show decide ((4 : Int) = 2) = false from rfl, show decide ((4 : Int) = 3) = false from rfl, show decide ((4 : Int) = 4) = true from rfl, cond_true, cond_false]
  rw [run_some_mat (hwire rfl)]; rfl
 ·simp only [Tre.run_cond, show decide ((5 : Int) = 1) = false from rfl, show decide ((5 : Int) = 2) = false from rfl, show decide ((5 : Int) = 3) = false from rfl, show decide ((5 : Int) = 4) = false from rfl, show decide ((5 : Int) = 5) = true from rfl, cond_true, cond_false]
  rw [run_some_mat (hwire rfl)]; rfl
 all_goals
  simp only [Tre.run_cond, show decide ((6 : Int) = 1) = false from rfl, show decide ((6 : Int) = 2) = false from rfl, show decide ((6 : Int) = 3) = false from rfl, show decide ((6 : Int) = 4) = false from rfl, show decide ((6 : Int) = 5) = false from rfl, show decide ((6 : Int) = 6) = true from rfl, show inR 6 2 5 = false from rfl,
   show decide ((7 : Int) = 1) = false from rfl, show decide ((7 : Int) = 2) = false from rfl, show decide ((7 : Int) = 3) = false from rfl, show decide ((7 : Int) = 4) = false from rfl, show decide ((7 : Int) = 5) = false from rfl, show decide ((7 : Int) = 6) = false from rfl, show decide ((7 : Int) = 7) = true from rfl, show inR 7 2 5 = false from rfl,
   show decide ((8 : Int) = 1) = false from rfl, show decide ((8 : Int) = 2) = false from rfl, show decide ((8 : Int) = 3) = false from rfl, show decide ((8 : Int) = 4) = false from rfl, show decide ((8 : Int) = 5) = false from rfl, show decide ((8 : Int) = 6) = false from rfl, show decide ((8 : Int) = 7) = false from rfl, show inR 8 2 5 = false from rfl, cond_true, cond_false]
  by_cases h1 : a ≥ (p1.1.1.length : Int)
  ·rw [decide_eq_true h1]; rfl
  obtain ⟨i, rfl⟩ := Int.eq_ofNat_of_zero_le a0
  have hi : i < p1.1.1.length := by omega
  obtain ⟨s, hs⟩ : ∃ s, p1.1.1[i]? = some s := ⟨_, List.getElem?_eq_getElem hi⟩
  have hm := l2 s (List.mem_of_getElem? hs)
  have k1 := (okS_spec.1 hm.1).1
  have k2 := (okS_spec.1 hm.2).1
  have c1 : cloneR s.1 = some s.1 := lim_of (by omega)
  have c2 : cloneR s.2.1 = some s.2.1 := lim_of (by omega)
  rw [decide_eq_false h1, cond_false, cond_false]
  simp only [Int.toNat_natCast, hs]
  rw [Tre.run_ite, if_pos ⟨a0, by omega⟩]
  try simp only [decide_true]
 ·rw [Tre.run_cond, cond_true, run_some_mat rfl, run_some_mat rfl, run_some_mat c1, run_some_mat rfl]; rfl
 ·rw [Tre.run_cond, cond_false, Tre.run_cond, cond_true, run_some_mat rfl, run_some_mat rfl, run_some_mat c2, run_some_mat rfl]; rfl
 ·rw [Tre.run_cond, cond_false, Tre.run_cond, cond_false, run_some_mat rfl]; rfl
theorem times_ok {k b : Nat} {a : Int} {xs : List Int} (hb : b ≤ 62) (h : okS k b xs = true) : okRow b (timesL a xs) = true := by
 obtain ⟨_, h2⟩ := okS_spec.1 h
 have hx : ∃ ns : List Nat, xs = up ns ∧ ∀ n ∈ ns, n < 2 ^ b := by
  refine ⟨xs.map Int.toNat, ?_, ?_⟩
  ·unfold up
   rw [List.map_map]
   refine ((List.map_congr_left fun x hx => ?_).trans (List.map_id _)).symm
   obtain ⟨n, rfl, _⟩ := okRow_nat.1 (h2 x hx)
   rfl
  ·intro n hn
   obtain ⟨x, hx, rfl⟩ := List.mem_map.1 hn
   obtain ⟨m, rfl, hm⟩ := okRow_nat.1 (h2 x hx)
   exact hm
 obtain ⟨ns, rfl, hn⟩ := hx
 obtain ⟨t, h1, h2⟩ := timesL_nat a hb ns 0 0 (Nat.two_pow_pos b) hn
 exact okRow_nat.2 ⟨t, h1, h2⟩
theorem sendM_ok {k : Nat} {g : G8} {d : D8} {p : P8} (hg : isG g = true) (hd : vDeed d = true) (hp : okP k g p = true) : okP (k + 1) g (sendM d p).2 = true := by
 obtain ⟨l1, l2, l3, l4⟩ := okP_spec hp
 have h0 := okP_mono hp (Nat.le_succ k)
 have hc := (colsG_le hg).1
 obtain ⟨_, ⟨b0, _⟩, _, _⟩ := vDeed_rng hd
 unfold sendM
 by_cases h1 : d.2.1 ≥ (p.1.length : Int)
 ·rw [decide_eq_true h1]; exact h0
 by_cases h2 : d.2.2.1 ≥ (p.1.length : Int)
 ·rw [decide_eq_true h2, Bool.true_or, Bool.or_true]; exact h0
 rw [decide_eq_false h1, decide_eq_false h2, Bool.false_or, Bool.false_or]
 cases (decide (d.2.1 = d.2.2.1) || decide (d.2.2.1 = 0))
 case true => exact h0
 rw [cond_false]
 cases hs : p.1[d.2.1.toNat]? with
 | none => exact h0
 | some s =>
  simp only
  cases decide (d.2.2.2.1 ≥ ishl .i64 1 (s.1.length : Int))
  case true => exact h0
  cases decide (d.2.2.2.1 = 0)
  case true => exact h0
  by_cases h5 : (p.2.1.length : Int) = 12
  ·rw [decide_eq_true h5]; exact h0
  rw [decide_eq_false h5]
  simp only [cond_false]
  have hm := l2 s (List.mem_of_getElem? hs)
  refine okP_mk l1 (okP_spec h0).2.1 (by simp; omega) (fun x hx => ?_)
  rcases List.mem_append.1 hx with hx | hx
  ·exact l4 x hx
  ·simp only [List.mem_singleton] at hx
   subst hx
   exact ⟨⟨b0, by omega⟩, times_ok (by omega) hm.1⟩
theorem doM_ok {k : Nat} {g : G8} {d : D8} {p : P8} (hg : isG g = true) (hd : vDeed d = true) (hp : okP k g p = true) : okP (k + 1) g (doM g d p).2 = true := by
 obtain ⟨l1, l2, l3, l4⟩ := okP_spec hp
 have h0 := okP_mono hp (Nat.le_succ k)
 unfold doM
 cases decide (d.1 = 1)
 case true => exact sendM_ok hg hd hp
 cases inR d.1 2 5
 case true => exact wireM_ok hg hd hp
 cases decide (d.2.1 ≥ (p.1.length : Int))
 case true => exact h0
 simp only [cond_false]
 cases hs : p.1[d.2.1.toNat]? with
 | none => exact h0
 | some s =>
  simp only
  have hm := l2 s (List.mem_of_getElem? hs)
  have hn : okS (k + 1) (colsG g) [] = true := okS_spec.2 ⟨Nat.zero_le _, fun x hx => by cases hx⟩
  refine okP_mk (by simpa using l1) (fun s' hs' => ?_) l3 l4
  rcases List.mem_or_eq_of_mem_set hs' with hs' | rfl
  ·exact ⟨okS_mono (l2 s' hs').1 (Nat.le_succ k), okS_mono (l2 s' hs').2 (Nat.le_succ k)⟩
  ·cases decide (d.1 = 6)
   ·cases decide (d.1 = 7)
    ·exact ⟨hn, okS_mono hm.2 (Nat.le_succ k)⟩
    ·exact ⟨okS_mono hm.2 (Nat.le_succ k), okS_mono hm.2 (Nat.le_succ k)⟩
   ·exact ⟨okS_mono hm.1 (Nat.le_succ k), okS_mono hm.1 (Nat.le_succ k)⟩
noncomputable def s_l08Run_do_9d6c_V : Env := ⟨tau, [(109, s_l08Run_send_9d6c_c), (110, s_l08Run_wire_9d6c_c), (111, s_l00Own_c)], []⟩
noncomputable def s_l08Run_do_9d6c_b : Code := (Try.f86.body).getD .skip
noncomputable def s_l08Run_do_9d6c_I : FnI := ⟨s_l08Run_do_9d6c_b, Try.f86.results.toList, Try.f86.resultTypes.toList, []⟩
noncomputable def s_l08Run_do_9d6c_out (zp0 : Bool) (_p0 : TDeed) (_p1 : (TPlant × Unit)) (p2 : TGather) : (Int × (TPlant × Unit)) → CallOut := fun r => ⟨(.imm true (.int .i64) r.1), [⟨true, kL08Run, .own, ((some (0, 1) : Option RName), r.2)⟩, ⟨true, kGather, (.imm zp0), p2⟩], []⟩
set_option maxRecDepth 100000 in
theorem s_l08Run_do_9d6c_eq : ∀ (zp0 : Bool) (p0 : TDeed) (p1 : (TPlant × Unit)) (p2 : TGather), denFn s_l08Run_do_9d6c_V s_l08Run_do_9d6c_I ⟨[(.ptr (0, 0) []), (.imm true kDeed p0)], [⟨true, kL08Run, .own, ((some (0, 1) : Option RName), p1)⟩, ⟨true, kGather, (.imm zp0), p2⟩]⟩ = (s_l08Run_do_9d6c p0 p1 p2).run fun r => some (s_l08Run_do_9d6c_out zp0 p0 p1 p2 r) := fun _ _ _ _ => by kernel_rfl
noncomputable def s_l08Run_do_9d6c_G (av : List AV) (rs : List Root) : Tre CallOut :=
 asCons av fun a0_ av0 =>
 asCons av0 fun a1_ av1 =>
 asEnd av1 <|
 asCons rs fun r0_ rs0 =>
 asCons rs0 fun r1_ rs1 =>
 asEnd rs1 <|
 asPtr (0, 0) [] a0_ <|
 asImmZ true kDeed a1_ fun d1 =>
 asRt true kL08Run r0_ fun m2 d3 =>
 asM .own m2 <|
 asProd d3 fun d4 d5 =>
 asD d4 (some (0, 1) : Option RName) <|
 asRt true kGather r1_ fun m6 d7 =>
 asMImm m6 fun z8 =>
 .mat (doR d1 d5 d7) fun r => .ret (s_l08Run_do_9d6c_out z8 d1 d5 d7 r)
noncomputable def s_l08Run_do_9d6c_c : Ctr := ⟨[], fun ci => s_l08Run_do_9d6c_G ci.args ci.roots⟩
theorem s_l08Run_do_9d6c_env : EnvOK Try.prog s_l08Run_do_9d6c_V := (envOK_cons s_l08Run_send_9d6c_ok ent109 (envOK_cons s_l08Run_wire_9d6c_ok ent110 (envOK_cons s_l00Own_ok ent111 envOK_nil)))
set_option maxRecDepth 100000 in
theorem s_l08Run_do_9d6c_ok : Contract Try.prog 86 s_l08Run_do_9d6c_c := by
 have hl : LoopsOK s_l08Run_do_9d6c_V [] s_l08Run_do_9d6c_b := loopsOK_nil (by kernel_rfl)
 refine (contract_of (F := s_l08Run_do_9d6c_I) tau_tys s_l08Run_do_9d6c_env Try.func86 (by kernel_rfl) (by kernel_rfl) (by kernel_rfl) hl []).weaken ?_
 rintro ⟨av, rs⟩ co h
 have h : (s_l08Run_do_9d6c_G av rs).run some = some co := h
 obtain ⟨a0_, av0, rfl, h_0⟩ := asCons_spec h
 obtain ⟨a1_, av1, rfl, h_1⟩ := asCons_spec h_0
 obtain ⟨rfl, h_2⟩ := asEnd_spec h_1
 obtain ⟨r0_, rs0, rfl, h_3⟩ := asCons_spec h_2
 obtain ⟨r1_, rs1, rfl, h_4⟩ := asCons_spec h_3
 obtain ⟨rfl, h_5⟩ := asEnd_spec h_4
 obtain ⟨rfl, h_6⟩ := asPtr_spec h_5
 obtain ⟨d1, rfl, h_7⟩ := asImmZ_spec h_6
 obtain ⟨m2, d3, rfl, h_8⟩ := asRt_spec h_7
 obtain ⟨rfl, h_9⟩ := asM_spec h_8
 obtain ⟨d4, d5, rfl, h_10⟩ := asProd_spec h_9
 obtain ⟨rfl, h_11⟩ := asD_spec h_10
 obtain ⟨m6, d7, rfl, h_12⟩ := asRt_spec h_11
 obtain ⟨z8, rfl, h_13⟩ := asMImm_spec h_12
 exact fin_opt (s_l08Run_do_9d6c_eq z8 d1 d5 d7) (s_l08Run_do_9d6c_spec d1 d5 d7) h_13
end Go.Proofs.Ytddaclhjnkimfaa

namespace Go.Proofs.Ytddaclhjnkimfaa
open Go Go.Abs Go.Proofs
noncomputable def s_l08Begin_9aa7_l4 (h4_0_1 : TGather) : (Int × (TPlant × Unit)) → Tre ((Int × (TPlant × Unit)) ⊕ (TPlant × Unit)) := fun s4 =>
 let v3 := iwrap .i64 (h4_0_1.2.2.2.1 + h4_0_1.2.2.2.2.1)
 .cond (decide (s4.1 < v3))
  (.ite ((s4.2.1.1.length + 1) * 48 ≤ appendMax ∧ 1 ≤ 48) <|
  let v4 := s4.2.1.1 ++ ([([], ([], ()))])
  .ret (.inl (iwrap .i64 (s4.1 + 1), ((v4, s4.2.1.2), s4.2.2))))
  (.ret (.inr s4.2))
noncomputable def s_l08Begin_9aa7 (p0 : TGather) : Tre (TPlant × Unit) :=
 .mat (srcR p0) fun r1 =>
 .mat (srcR p0) fun r2 =>
 .mat (loopF (s_l08Begin_9aa7_l4 p0) (0, (([(r1, (r2, ()))], ([], ())), ()))) fun l5 =>
 .ret l5
noncomputable def s_l08Begin_9aa7_F (p0 : TGather) : Option (TPlant × Unit) := (s_l08Begin_9aa7 p0).run some
def beginM (g : G8) : P8 := ((srcL g, srcL g, ()) :: List.replicate (g.2.2.2.1 + g.2.2.2.2.1).toNat ([], [], ()), [], ())
def beginR (g : G8) : Option (P8 × Unit) := askO (isG g) (beginM g, ())
theorem src_some {g : G8} (h : isG g = true) : srcR g = some (srcL g) := by
 have := isG_spec h
 exact askO_true (by rw [Bool.and_eq_true, inR_iff, decide_eq_true_eq]; omega)
theorem s_l08Begin_9aa7_spec (p0 : G8) (y : P8 × Unit) (h : beginR p0 = some y) : s_l08Begin_9aa7_F p0 = some y := by
 obtain ⟨hg, rfl⟩ := askO_some h
 have hb := isG_spec hg
 obtain ⟨n, hn⟩ := Int.eq_ofNat_of_zero_le (show 0 ≤ p0.2.2.2.1 + p0.2.2.2.2.1 by omega)
 have hw : iwrap .i64 (p0.2.2.2.1 + p0.2.2.2.2.1) = (n : Int) := by rw [hn]; exact iwrap_i64 (by omega) (by omega)
 unfold s_l08Begin_9aa7_F s_l08Begin_9aa7
 rw [run_some_mat (src_some hg), run_some_mat (src_some hg)]
 have key : ∀ (m i : Nat) (l : List (List Int × List Int × Unit)), i + m = n → l.length ≤ i + 1 → loopF (s_l08Begin_9aa7_l4 p0) ((i : Int), ((l, [], ()), ())) = some ((l ++ List.replicate m ([], [], ()), [], ()), ()) := by
  intro m
  induction m with
  | zero =>
   intro i l hi _
   rw [List.replicate_zero, List.append_nil]
   refine loopF_done ?_
   unfold s_l08Begin_9aa7_l4
   dsimp only
   rw [hw, Tre.run_cond, show decide ((i : Int) < (n : Int)) = false from by simp; omega]
   rfl
  | succ m ih =>
   intro i l hi hl
   have hstep : (s_l08Begin_9aa7_l4 p0 ((i : Int), ((l, [], ()), ()))).run some = some (.inl (((i + 1 : Nat) : Int), ((l ++ [([], [], ())], [], ()), ()))) := by
    unfold s_l08Begin_9aa7_l4
    dsimp only
    rw [hw, Tre.run_cond, show decide ((i : Int) < (n : Int)) = true from by simp; omega, cond_true, Tre.run_ite, if_pos (by unfold appendMax; omega), Tre.run_ret, iwrap_succ (by omega)]
   rw [loopF_step hstep, ih (i + 1) _ (by omega) (by simp; omega), List.replicate_succ, List.append_assoc]
   rfl
 have := key n 0 [(srcL p0, srcL p0, ())] (by omega) (by simp)
 rw [run_some_mat (x := ((beginM p0), ())) (by
  have h2 : beginM p0 = ([(srcL p0, srcL p0, ())] ++ List.replicate n ([], [], ()), [], ()) := by unfold beginM; rw [hn, Int.toNat_natCast]; rfl
  rw [h2]; exact this)]
 rfl
theorem ior_nat {a b : Nat} (ha : a < 2 ^ 63) (hb : b < 2 ^ 63) : ior .i64 (a : Int) (b : Int) = ((a ||| b : Nat) : Int) := by
 have hx : a ||| b < 2 ^ 63 := Nat.or_lt_two_pow ha hb
 have : (BitVec.ofInt 64 (a : Int) ||| BitVec.ofInt 64 (b : Int)).toNat = a ||| b := by
  rw [BitVec.toNat_or, ofInt_nat (by omega), ofInt_nat (by omega)]
 unfold ior
 show iwrap .i64 (((BitVec.ofInt 64 (a : Int) ||| BitVec.ofInt 64 (b : Int)).toNat : Nat) : Int) = _
 rw [this, iwrap_nat (by omega)]
theorem ishl_nat {a j : Nat} (hj : j ≤ 62) (h : a * 2 ^ j < 2 ^ 63) : ishl .i64 (a : Int) (j : Int) = ((a * 2 ^ j : Nat) : Int) := by
 unfold ishl
 rw [Int.toNat_natCast, show min j (IntKind.bits .i64) = j from Nat.min_eq_left (by show j ≤ 64; omega)]
 have h2 : ((a : Int) * 2 ^ j) = ((a * 2 ^ j : Nat) : Int) := by push_cast; rfl
 rw [h2]
 exact iwrap_nat (by omega)
theorem src_rows {m b : Nat} (hm : m ≤ 4) (hb : b ≤ 6) : ∀ (l : List Int) (i : Nat) (acc : List Int), i + l.length ≤ m → (∀ x ∈ l, inP (b : Int) x = true) → (∀ y ∈ acc, okRow (m + b) y = true) →
  (foldE (β := List Int) (fun (i : Nat) acc x => .inl (acc ++ [ior .i64 (ishl .i64 1 (i : Int)) (ishl .i64 x (m : Int))])) id i acc l).length = acc.length + l.length ∧
  ∀ y ∈ foldE (β := List Int) (fun (i : Nat) acc x => .inl (acc ++ [ior .i64 (ishl .i64 1 (i : Int)) (ishl .i64 x (m : Int))])) id i acc l, okRow (m + b) y = true := by
 intro l
 induction l with
 | nil => intro i acc _ _ h; exact ⟨rfl, h⟩
 | cons x l ih =>
  intro i acc hi hl ha
  simp only [List.length_cons] at hi
  simp only [foldE]
  have hx : okRow (m + b) (ior .i64 (ishl .i64 1 (i : Int)) (ishl .i64 x (m : Int))) = true := by
   obtain ⟨n, rfl, hn⟩ := inP_nat (by omega) (hl x (by simp))
   have p1 : 2 ^ i * 1 ≤ 2 ^ m := by rw [Nat.mul_one]; exact pow_le (by omega)
   have p2 : 2 ^ m ≤ 2 ^ (m + b) := pow_le (by omega)
   have p3 : 2 ^ (m + b) ≤ 2 ^ 10 := pow_le (by omega)
   have p4 : n * 2 ^ m < 2 ^ (m + b) := by
    rw [Nat.pow_add, Nat.mul_comm (2 ^ m)]
    exact Nat.mul_lt_mul_of_pos_right hn (Nat.two_pow_pos m)
   have p5 : 2 ^ i < 2 ^ (m + b) := Nat.pow_lt_pow_right (by decide) (by omega)
   have e1 : ishl .i64 1 (i : Int) = ((1 * 2 ^ i : Nat) : Int) := ishl_nat (a := 1) (by omega) (by omega)
   have e2 : ishl .i64 (n : Int) (m : Int) = ((n * 2 ^ m : Nat) : Int) := ishl_nat (by omega) (by omega)
   rw [e1, e2, ior_nat (by omega) (by omega)]
   exact okRow_nat.2 ⟨_, rfl, Nat.or_lt_two_pow (by omega) p4⟩
  have := ih (i + 1) (acc ++ [ior .i64 (ishl .i64 1 (i : Int)) (ishl .i64 x (m : Int))]) (by omega) (fun y hy => hl y (by simp [hy])) (fun y hy => by
   rcases List.mem_append.1 hy with hy | hy
   ·exact ha y hy
   ·simp only [List.mem_singleton] at hy; rw [hy]; exact hx)
  refine ⟨?_, this.2⟩
  rw [this.1]
  simp
  omega
theorem beginM_ok {g : G8} (hg : isG g = true) : okP 4 g (beginM g) = true := by
 have hb := isG_spec hg
 have hc := colsG_le hg
 have hsrc : okS 4 (colsG g) (srcL g) = true := by
  have hall : g.2.2.1.all (inP g.2.1) = true := by
   unfold isG at hg
   simp only [Bool.and_eq_true] at hg
   exact hg.1.1.2
  obtain ⟨m, hm⟩ := Int.eq_ofNat_of_zero_le (show 0 ≤ g.1 by omega)
  obtain ⟨b, hb2⟩ := Int.eq_ofNat_of_zero_le (show 0 ≤ g.2.1 by omega)
  have hcm : colsG g = m + b := by unfold colsG; omega
  rw [hcm]
  unfold srcL
  rw [hm]
  have := src_rows (m := m) (b := b) (by omega) (by omega) g.2.2.1 0 [] (by omega) (fun x hx => by rw [← hb2]; exact List.all_eq_true.1 hall x hx) (fun y hy => by cases hy)
  exact okS_spec.2 ⟨by rw [this.1]; simp; omega, this.2⟩
 have hn : okS 4 (colsG g) [] = true := okS_spec.2 ⟨Nat.zero_le _, fun x hx => by cases hx⟩
 refine okP_mk ?_ (fun s hs => ?_) (Nat.zero_le _) (fun x hx => by cases hx)
 ·unfold beginM statG
  simp only [List.length_cons, List.length_replicate]
  omega
 ·unfold beginM at hs
  rcases List.mem_cons.1 hs with rfl | hs
  ·exact ⟨hsrc, hsrc⟩
  ·rw [(List.mem_replicate.1 hs).2]; exact ⟨hn, hn⟩
noncomputable def s_l08Begin_9aa7_V : Env := ⟨tau, [(108, s_l08Source_9aa7_c)], []⟩
noncomputable def s_l08Begin_9aa7_b : Code := (Try.f85.body).getD .skip
noncomputable def s_l08Begin_9aa7_l4_mk (z4_0 : Bool) (h4_0_1 : TGather) : (Int × (TPlant × Unit)) → St := fun x => stOf [(0, (.ptr (0, 0) [])), (3, (.ptr (9, 0) [])), (4, (.imm true (.int .i64) x.1))] [((0, 0), some ⟨true, kGather, (.imm z4_0), h4_0_1⟩), ((9, 0), some ⟨true, kL08Run, .own, ((some (0, 0) : Option RName), x.2)⟩)]
noncomputable def s_l08Begin_9aa7_l4_out (z4_0 : Bool) (h4_0_1 : TGather) : (TPlant × Unit) → Ex × St := fun x => (.exit 0, stOf [(3, (.ptr (9, 0) []))] [((0, 0), some ⟨true, kGather, (.imm z4_0), h4_0_1⟩), ((9, 0), some ⟨true, kL08Run, .own, ((some (0, 0) : Option RName), x)⟩)])
noncomputable def s_l08Begin_9aa7_l4_D (s : St) : Tre (Ex × St) :=
 asPtr (0, 0) [] (s.tmps 0) <|
 asPtr (9, 0) [] (s.tmps 3) <|
 asImmZ true (.int .i64) (s.tmps 4) fun d4 =>
 asRoot true kGather (s.roots (0, 0)) fun m6 d7 =>
 asMImm m6 fun z8 =>
 asRoot true kL08Run (s.roots (9, 0)) fun m10 d11 =>
 asM .own m10 <|
 asProd d11 fun d12 d13 =>
 asD d12 (some (0, 0) : Option RName) <|
 .mat (loopF (s_l08Begin_9aa7_l4 d7) (d4, d13)) fun x => .ret (s_l08Begin_9aa7_l4_out z8 d7 x)
noncomputable def s_l08Begin_9aa7_l4_L : LoopI := ⟨([0, 3, 4], [(0, 0), (9, 0)]), ([3], [(0, 0), (9, 0)]), s_l08Begin_9aa7_l4_D⟩
noncomputable def s_l08Begin_9aa7_A : List (Nat × LoopI) := [(4, s_l08Begin_9aa7_l4_L)]
set_option maxRecDepth 100000 in
theorem s_l08Begin_9aa7_l4_step : ∀ (z4_0 : Bool) (h4_0_1 : TGather) (x : (Int × (TPlant × Unit))) (c : St → Option (Ex × St)), den s_l08Begin_9aa7_V s_l08Begin_9aa7_A (loopAt s_l08Begin_9aa7_b 0) (s_l08Begin_9aa7_l4_mk z4_0 h4_0_1 x) (roundK s_l08Begin_9aa7_l4_L.kp s_l08Begin_9aa7_l4_L.kx c) = (s_l08Begin_9aa7_l4 h4_0_1 x).run (roundR (s_l08Begin_9aa7_l4_mk z4_0 h4_0_1) (s_l08Begin_9aa7_l4_out z4_0 h4_0_1) c) := fun _ _ _ _ => by
 kernel_rfl
theorem s_l08Begin_9aa7_l4_ok : LoopOK s_l08Begin_9aa7_V s_l08Begin_9aa7_A (loopAt s_l08Begin_9aa7_b 0) s_l08Begin_9aa7_l4_L := loopOK_of fun s e s' h => by
 generalize hs : restrict s_l08Begin_9aa7_l4_L.kp s = s1 at h
 have h : (s_l08Begin_9aa7_l4_D s1).run some = some (e, s') := h
 obtain ⟨e1, h_0⟩ := asPtr_spec h
 obtain ⟨e2, h_1⟩ := asPtr_spec h_0
 obtain ⟨d4, e3, h_2⟩ := asImmZ_spec h_1
 obtain ⟨m6, d7, e5, h_3⟩ := asRoot_spec h_2
 obtain ⟨z8, rfl, h_4⟩ := asMImm_spec h_3
 obtain ⟨m10, d11, e9, h_5⟩ := asRoot_spec h_4
 obtain ⟨rfl, h_6⟩ := asM_spec h_5
 obtain ⟨d12, d13, rfl, h_7⟩ := asProd_spec h_6
 obtain ⟨rfl, h_8⟩ := asD_spec h_7
 obtain ⟨y, hy, hz⟩ := mat_ret h_8
 refine ⟨_, _, s_l08Begin_9aa7_l4_mk z8 d7, s_l08Begin_9aa7_l4_out z8 d7, s_l08Begin_9aa7_l4 d7, (d4, d13), y, ?_, hy, ?_, s_l08Begin_9aa7_l4_step z8 d7⟩
 ·subst hs; exact restrict_eq (T := [(0, (.ptr (0, 0) [])), (3, (.ptr (9, 0) [])), (4, (.imm true (.int .i64) d4))]) (U := [((0, 0), some ⟨true, kGather, (.imm z8), d7⟩), ((9, 0), some ⟨true, kL08Run, .own, ((some (0, 0) : Option RName), d13)⟩)]) rfl rfl ⟨e1, e2, e3, trivial⟩ ⟨e5, e9, trivial⟩
 ·exact Option.some.inj hz
noncomputable def s_l08Begin_9aa7_I : FnI := ⟨s_l08Begin_9aa7_b, Try.f85.results.toList, Try.f85.resultTypes.toList, s_l08Begin_9aa7_A⟩
noncomputable def s_l08Begin_9aa7_out (zp0 : Bool) (p0 : TGather) : (TPlant × Unit) → CallOut := fun r => ⟨(.ptr (1, 0) []), [⟨true, kGather, (.imm zp0), p0⟩], [⟨true, kL08Run, .own, ((some (0, 0) : Option RName), r)⟩]⟩
set_option maxRecDepth 100000 in
theorem s_l08Begin_9aa7_eq : ∀ (zp0 : Bool) (p0 : TGather), denFn s_l08Begin_9aa7_V s_l08Begin_9aa7_I ⟨[(.ptr (0, 0) [])], [⟨true, kGather, (.imm zp0), p0⟩]⟩ = (s_l08Begin_9aa7 p0).run fun r => some (s_l08Begin_9aa7_out zp0 p0 r) := fun _ _ => by kernel_rfl
noncomputable def s_l08Begin_9aa7_G (av : List AV) (rs : List Root) : Tre CallOut :=
 asCons av fun a0_ av0 =>
 asEnd av0 <|
 asCons rs fun r0_ rs0 =>
 asEnd rs0 <|
 asPtr (0, 0) [] a0_ <|
 asRt true kGather r0_ fun m1 d2 =>
 asMImm m1 fun z3 =>
 .mat (beginR d2) fun r => .ret (s_l08Begin_9aa7_out z3 d2 r)
noncomputable def s_l08Begin_9aa7_c : Ctr := ⟨[], fun ci => s_l08Begin_9aa7_G ci.args ci.roots⟩
theorem s_l08Begin_9aa7_env : EnvOK Try.prog s_l08Begin_9aa7_V := (envOK_cons s_l08Source_9aa7_ok ent108 envOK_nil)
set_option maxRecDepth 100000 in
theorem s_l08Begin_9aa7_ok : Contract Try.prog 85 s_l08Begin_9aa7_c := by
 have hl : LoopsOK s_l08Begin_9aa7_V s_l08Begin_9aa7_A s_l08Begin_9aa7_b := (loopsOK_all (n := 1) (by kernel_rfl) fun k hk => by
   match k, hk with
   | 0, _ => exact loopOK_at (id := 4) (L := s_l08Begin_9aa7_l4_L) (by kernel_rfl) (by kernel_rfl) s_l08Begin_9aa7_l4_ok)
 refine (contract_of (F := s_l08Begin_9aa7_I) tau_tys s_l08Begin_9aa7_env Try.func85 (by kernel_rfl) (by kernel_rfl) (by kernel_rfl) hl []).weaken ?_
 rintro ⟨av, rs⟩ co h
 have h : (s_l08Begin_9aa7_G av rs).run some = some co := h
 obtain ⟨a0_, av0, rfl, h_0⟩ := asCons_spec h
 obtain ⟨rfl, h_1⟩ := asEnd_spec h_0
 obtain ⟨r0_, rs0, rfl, h_2⟩ := asCons_spec h_1
 obtain ⟨rfl, h_3⟩ := asEnd_spec h_2
 obtain ⟨rfl, h_4⟩ := asPtr_spec h_3
 obtain ⟨m1, d2, rfl, h_5⟩ := asRt_spec h_4
 obtain ⟨z3, rfl, h_6⟩ := asMImm_spec h_5
 exact fin_opt (s_l08Begin_9aa7_eq z3 d2) (s_l08Begin_9aa7_spec d2) h_6
end Go.Proofs.Ytddaclhjnkimfaa

namespace Go.Proofs.Ytddaclhjnkimfaa
open Go Go.Abs Go.Proofs
noncomputable def s_l00Src_among_e38a (p0 : TL00Src) (p1 : (List Int)) : Tre (Int × TL00Src) :=
 .mat (s_l00Src_pick_9f69_F (p1.length : Int) p0) fun r1 =>
 .ite (0 ≤ r1.1 ∧ r1.1 < (p1.length : Int)) <|
 .mat (p1[r1.1.toNat]?) fun x2 =>
 .ret (x2, r1.2)
noncomputable def s_l00Src_among_e38a_F (p0 : TL00Src) (p1 : (List Int)) : Option (Int × TL00Src) := (s_l00Src_among_e38a p0 p1).run some
noncomputable def s_l00Src_among_e38a_V : Env := ⟨tau, [(90, s_l00Src_pick_9f69_c)], []⟩
noncomputable def s_l00Src_among_e38a_b : Code := (Try.f92.body).getD .skip
noncomputable def s_l00Src_among_e38a_I : FnI := ⟨s_l00Src_among_e38a_b, Try.f92.results.toList, Try.f92.resultTypes.toList, []⟩
noncomputable def s_l00Src_among_e38a_out (zp0 : Bool) (_p0 : TL00Src) (p1 : (List Int)) : (Int × TL00Src) → CallOut := fun r => ⟨(.imm true (.int .i64) r.1), [⟨true, kL00Src, (.imm zp0), r.2⟩, ⟨false, (.sl (.int .i64)), .own, p1⟩], []⟩
set_option maxRecDepth 100000 in
theorem s_l00Src_among_e38a_eq : ∀ (zp0 : Bool) (p0 : TL00Src) (p1 : (List Int)), denFn s_l00Src_among_e38a_V s_l00Src_among_e38a_I ⟨[(.ptr (0, 0) []), (.ref (0, 1) [])], [⟨true, kL00Src, (.imm zp0), p0⟩, ⟨false, (.sl (.int .i64)), .own, p1⟩]⟩ = (s_l00Src_among_e38a p0 p1).run fun r => some (s_l00Src_among_e38a_out zp0 p0 p1 r) := fun _ _ _ => by kernel_rfl
noncomputable def s_l00Src_among_e38a_G (av : List AV) (rs : List Root) : Tre CallOut :=
 asCons av fun a0_ av0 =>
 asCons av0 fun a1_ av1 =>
 asEnd av1 <|
 asCons rs fun r0_ rs0 =>
 asCons rs0 fun r1_ rs1 =>
 asEnd rs1 <|
 asPtr (0, 0) [] a0_ <|
 asRef (0, 1) [] a1_ <|
 asRt true kL00Src r0_ fun m1 d2 =>
 asMImm m1 fun z3 =>
 asRt false (.sl (.int .i64)) r1_ fun m4 d5 =>
 asM .own m4 <|
 .mat (s_l00Src_among_e38a_F d2 d5) fun r => .ret (s_l00Src_among_e38a_out z3 d2 d5 r)
noncomputable def s_l00Src_among_e38a_c : Ctr := ⟨[1], fun ci => s_l00Src_among_e38a_G ci.args ci.roots⟩
theorem s_l00Src_among_e38a_env : EnvOK Try.prog s_l00Src_among_e38a_V := (envOK_cons s_l00Src_pick_9f69_ok ent90 envOK_nil)
set_option maxRecDepth 100000 in
theorem s_l00Src_among_e38a_ok : Contract Try.prog 92 s_l00Src_among_e38a_c := by
 have hl : LoopsOK s_l00Src_among_e38a_V [] s_l00Src_among_e38a_b := loopsOK_nil (by kernel_rfl)
 refine (contract_of (F := s_l00Src_among_e38a_I) tau_tys s_l00Src_among_e38a_env Try.func92 (by kernel_rfl) (by kernel_rfl) (by kernel_rfl) hl [1]).weaken ?_
 rintro ⟨av, rs⟩ co h
 have h : (s_l00Src_among_e38a_G av rs).run some = some co := h
 obtain ⟨a0_, av0, rfl, h_0⟩ := asCons_spec h
 obtain ⟨a1_, av1, rfl, h_1⟩ := asCons_spec h_0
 obtain ⟨rfl, h_2⟩ := asEnd_spec h_1
 obtain ⟨r0_, rs0, rfl, h_3⟩ := asCons_spec h_2
 obtain ⟨r1_, rs1, rfl, h_4⟩ := asCons_spec h_3
 obtain ⟨rfl, h_5⟩ := asEnd_spec h_4
 obtain ⟨rfl, h_6⟩ := asPtr_spec h_5
 obtain ⟨rfl, h_7⟩ := asRef_spec h_6
 obtain ⟨m1, d2, rfl, h_8⟩ := asRt_spec h_7
 obtain ⟨z3, rfl, h_9⟩ := asMImm_spec h_8
 obtain ⟨m4, d5, rfl, h_10⟩ := asRt_spec h_9
 obtain ⟨rfl, h_11⟩ := asM_spec h_10
 exact fin_mat (s_l00Src_among_e38a_eq z3 d2 d5) h_11
end Go.Proofs.Ytddaclhjnkimfaa

namespace Go.Proofs.Ytddaclhjnkimfaa
open Go Go.Abs Go.Proofs
noncomputable def s_l00Max (p0 : Int) (p1 : Int) : Tre Int :=
 .cond (decide (p0 > p1))
  (.ret p0)
  (.ret p1)
noncomputable def s_l00Max_F (p0 : Int) (p1 : Int) : Option Int := (s_l00Max p0 p1).run some
def s_l00Max_S (p0 : Int) (p1 : Int) : Int :=
 cond (decide (p0 > p1))
  (p0)
  (p1)
theorem s_l00Max_spec (p0 : Int) (p1 : Int) : s_l00Max_F p0 p1 = some (s_l00Max_S p0 p1) := (run_cond_some rfl rfl)
noncomputable def s_l00Max_V : Env := ⟨tau, [], []⟩
noncomputable def s_l00Max_b : Code := (Try.f93.body).getD .skip
noncomputable def s_l00Max_I : FnI := ⟨s_l00Max_b, Try.f93.results.toList, Try.f93.resultTypes.toList, []⟩
noncomputable def s_l00Max_out (_p0 : Int) (_p1 : Int) : Int → CallOut := fun r => ⟨(.imm true (.int .i64) r), [], []⟩
set_option maxRecDepth 100000 in
theorem s_l00Max_eq : ∀ (p0 : Int) (p1 : Int), denFn s_l00Max_V s_l00Max_I ⟨[(.imm true (.int .i64) p0), (.imm true (.int .i64) p1)], []⟩ = (s_l00Max p0 p1).run fun r => some (s_l00Max_out p0 p1 r) := fun _ _ => by kernel_rfl
noncomputable def s_l00Max_G (av : List AV) (rs : List Root) : Tre CallOut :=
 asCons av fun a0_ av0 =>
 asCons av0 fun a1_ av1 =>
 asEnd av1 <|
 asEnd rs <|
 asImmZ true (.int .i64) a0_ fun d1 =>
 asImmZ true (.int .i64) a1_ fun d2 =>
 .ret (s_l00Max_out d1 d2 (s_l00Max_S d1 d2))
noncomputable def s_l00Max_c : Ctr := ⟨[], fun ci => s_l00Max_G ci.args ci.roots⟩
theorem s_l00Max_env : EnvOK Try.prog s_l00Max_V := envOK_nil
set_option maxRecDepth 100000 in
theorem s_l00Max_ok : Contract Try.prog 93 s_l00Max_c := by
 have hl : LoopsOK s_l00Max_V [] s_l00Max_b := loopsOK_nil (by kernel_rfl)
 refine (contract_of (F := s_l00Max_I) tau_tys s_l00Max_env Try.func93 (by kernel_rfl) (by kernel_rfl) (by kernel_rfl) hl []).weaken ?_
 rintro ⟨av, rs⟩ co h
 have h : (s_l00Max_G av rs).run some = some co := h
 obtain ⟨a0_, av0, rfl, h_0⟩ := asCons_spec h
 obtain ⟨a1_, av1, rfl, h_1⟩ := asCons_spec h_0
 obtain ⟨rfl, h_2⟩ := asEnd_spec h_1
 obtain ⟨rfl, h_3⟩ := asEnd_spec h_2
 obtain ⟨d1, rfl, h_4⟩ := asImmZ_spec h_3
 obtain ⟨d2, rfl, h_5⟩ := asImmZ_spec h_4
 exact fin_ret (s_l00Max_eq d1 d2) (s_l00Max_spec d1 d2) h_5
end Go.Proofs.Ytddaclhjnkimfaa

namespace Go.Proofs.Ytddaclhjnkimfaa
open Go Go.Abs Go.Proofs
set_option maxHeartbeats 4000000 in
noncomputable def s_l08Deeds_ad92_l5 (h5_0_0 : Bool) (h5_0_1 : Int) (h5_0_4 : TGather) : (Int × TL00Src × (List TDeed) × (TPlant × Unit)) → Tre ((Int × TL00Src × (List TDeed) × (TPlant × Unit)) ⊕ (TL00Src × (List TDeed))) := fun s5 =>
 .cond (decide (s5.1 > 0))
  (.mat (s_l00Src_among_e38a_F s5.2.1 ([1, 1, 1, 1, 1, 2, 2, 2, 2, 2, 2, 3, 4, 5, 6, 7, 8, 1, 2, 2])) fun r5 =>
  .cond h5_0_0
   (.cond (decide (r5.1 = 5))
    (.mat (s_l00Src_pick_9f69_F 12 r5.2) fun r6 =>
    let v7 := iwrap .i64 (Int.tdiv r6.1 11)
    let v8 := iwrap .i64 ((s5.2.2.2.1.2.1.length : Int) + v7)
    .mat (s_l00Src_pick_9f69_F v8 r6.2) fun r9 =>
    .ite ((s5.2.2.1.length + 1) * 32 ≤ appendMax ∧ 1 ≤ 32) <|
    let v10 := s5.2.2.1 ++ ([(2, (r9.1, (0, (0, ()))))])
    .mat (doR (2, (r9.1, (0, (0, ())))) s5.2.2.2 h5_0_4) fun r11 =>
    .ret (.inl (iwrap .i64 (s5.1 - 1), r9.2, v10, r11.2)))
    (.cond (decide (r5.1 = 8))
     (.mat (s_l00Src_one_9f69_F 2 r5.2) fun r12 =>
     .cond r12.1
      (.mat (s_l00Src_pick_9f69_F 12 r12.2) fun r13 =>
      let v14 := iwrap .i64 (Int.tdiv r13.1 11)
      let v15 := iwrap .i64 ((s5.2.2.2.1.2.1.length : Int) + v14)
      .mat (s_l00Src_pick_9f69_F v15 r13.2) fun r16 =>
      .ite ((s5.2.2.1.length + 1) * 32 ≤ appendMax ∧ 1 ≤ 32) <|
      let v17 := s5.2.2.1 ++ ([(2, (r16.1, (0, (0, ()))))])
      .mat (doR (2, (r16.1, (0, (0, ())))) s5.2.2.2 h5_0_4) fun r18 =>
      .ret (.inl (iwrap .i64 (s5.1 - 1), r16.2, v17, r18.2)))
      (.cond (decide (r5.1 = 1))
       (.mat (s_l00Src_pick_9f69_F h5_0_1 r12.2) fun r19 =>
       .mat (s_l00Src_one_9f69_F 2 r19.2) fun r20 =>
       .cond r20.1
        (let v21 := s_l00Max_S (iwrap .i64 (h5_0_1 - 1)) 1
        .mat (s_l00Src_pick_9f69_F v21 r20.2) fun r22 =>
        .ite (0 ≤ (0 : Int) ∧ (0 : Int) < (s5.2.2.2.1.1.length : Int)) <|
        .mat (s5.2.2.2.1.1[0]?) fun _ =>
        .mat (s5.2.2.2.1.1[0]?) fun x24 =>
        let v25 := iwrap .u64 (x24.1.length : Int)
        .ite (0 ≤ v25) <|
        .mat (s_l00Src_pick_9f69_F (ishl .i64 1 v25) r22.2) fun r26 =>
        .cond (decide (r26.1 = 0))
         (.mat (s_l00Src_one_9f69_F 2 r26.2) fun r27 =>
         .cond r27.1
          (.ite (0 ≤ (0 : Int) ∧ (0 : Int) < (s5.2.2.2.1.1.length : Int)) <|
          .mat (s5.2.2.2.1.1[0]?) fun _ =>
          .mat (s5.2.2.2.1.1[0]?) fun x29 =>
          let v30 := iwrap .u64 (x29.1.length : Int)
          .ite (0 ≤ v30) <|
          let v31 := iwrap .i64 ((ishl .i64 1 v30) - 1)
          .ite ((s5.2.2.1.length + 1) * 32 ≤ appendMax ∧ 1 ≤ 32) <|
          let v32 := s5.2.2.1 ++ ([(r5.1, (0, (iwrap .i64 (1 + r22.1), (v31, ()))))])
          .mat (doR (r5.1, (0, (iwrap .i64 (1 + r22.1), (v31, ())))) s5.2.2.2 h5_0_4) fun r33 =>
          .ret (.inl (iwrap .i64 (s5.1 - 1), r27.2, v32, r33.2)))
          (.ite ((s5.2.2.1.length + 1) * 32 ≤ appendMax ∧ 1 ≤ 32) <|
          let v34 := s5.2.2.1 ++ ([(r5.1, (0, (iwrap .i64 (1 + r22.1), (r26.1, ()))))])
          .mat (doR (r5.1, (0, (iwrap .i64 (1 + r22.1), (r26.1, ())))) s5.2.2.2 h5_0_4) fun r35 =>
          .ret (.inl (iwrap .i64 (s5.1 - 1), r27.2, v34, r35.2))))
         (.ite ((s5.2.2.1.length + 1) * 32 ≤ appendMax ∧ 1 ≤ 32) <|
         let v36 := s5.2.2.1 ++ ([(r5.1, (0, (iwrap .i64 (1 + r22.1), (r26.1, ()))))])
         .mat (doR (r5.1, (0, (iwrap .i64 (1 + r22.1), (r26.1, ())))) s5.2.2.2 h5_0_4) fun r37 =>
         .ret (.inl (iwrap .i64 (s5.1 - 1), r26.2, v36, r37.2))))
        (let v38 := s_l00Max_S (iwrap .i64 (h5_0_1 - 1)) 1
        .mat (s_l00Src_pick_9f69_F v38 r20.2) fun r39 =>
        .ite (0 ≤ r19.1 ∧ r19.1 < (s5.2.2.2.1.1.length : Int)) <|
        .mat (s5.2.2.2.1.1[r19.1.toNat]?) fun _ =>
        .mat (s5.2.2.2.1.1[r19.1.toNat]?) fun x41 =>
        let v42 := iwrap .u64 (x41.1.length : Int)
        .ite (0 ≤ v42) <|
        .mat (s_l00Src_pick_9f69_F (ishl .i64 1 v42) r39.2) fun r43 =>
        .cond (decide (r43.1 = 0))
         (.mat (s_l00Src_one_9f69_F 2 r43.2) fun r44 =>
         .cond r44.1
          (.ite (0 ≤ r19.1 ∧ r19.1 < (s5.2.2.2.1.1.length : Int)) <|
          .mat (s5.2.2.2.1.1[r19.1.toNat]?) fun _ =>
          .mat (s5.2.2.2.1.1[r19.1.toNat]?) fun x46 =>
          let v47 := iwrap .u64 (x46.1.length : Int)
          .ite (0 ≤ v47) <|
          let v48 := iwrap .i64 ((ishl .i64 1 v47) - 1)
          .ite ((s5.2.2.1.length + 1) * 32 ≤ appendMax ∧ 1 ≤ 32) <|
          let v49 := s5.2.2.1 ++ ([(r5.1, (r19.1, (iwrap .i64 (1 + r39.1), (v48, ()))))])
          .mat (doR (r5.1, (r19.1, (iwrap .i64 (1 + r39.1), (v48, ())))) s5.2.2.2 h5_0_4) fun r50 =>
          .ret (.inl (iwrap .i64 (s5.1 - 1), r44.2, v49, r50.2)))
          (.ite ((s5.2.2.1.length + 1) * 32 ≤ appendMax ∧ 1 ≤ 32) <|
          let v51 := s5.2.2.1 ++ ([(r5.1, (r19.1, (iwrap .i64 (1 + r39.1), (r43.1, ()))))])
          .mat (doR (r5.1, (r19.1, (iwrap .i64 (1 + r39.1), (r43.1, ())))) s5.2.2.2 h5_0_4) fun r52 =>
          .ret (.inl (iwrap .i64 (s5.1 - 1), r44.2, v51, r52.2))))
         (.ite ((s5.2.2.1.length + 1) * 32 ≤ appendMax ∧ 1 ≤ 32) <|
         let v53 := s5.2.2.1 ++ ([(r5.1, (r19.1, (iwrap .i64 (1 + r39.1), (r43.1, ()))))])
         .mat (doR (r5.1, (r19.1, (iwrap .i64 (1 + r39.1), (r43.1, ())))) s5.2.2.2 h5_0_4) fun r54 =>
         .ret (.inl (iwrap .i64 (s5.1 - 1), r43.2, v53, r54.2)))))
       (.cond (decide (r5.1 = 6))
        (.cond (decide (r5.1 = 6))
         (.mat (s_l00Src_pick_9f69_F h5_0_1 r12.2) fun r55 =>
         .ite ((s5.2.2.1.length + 1) * 32 ≤ appendMax ∧ 1 ≤ 32) <|
         let v56 := s5.2.2.1 ++ ([(r5.1, (r55.1, (0, (0, ()))))])
         .mat (doR (r5.1, (r55.1, (0, (0, ())))) s5.2.2.2 h5_0_4) fun r57 =>
         .ret (.inl (iwrap .i64 (s5.1 - 1), r55.2, v56, r57.2)))
         (.mat (s_l00Src_pick_9f69_F 12 r12.2) fun r58 =>
         let v59 := iwrap .i64 (Int.tdiv r58.1 11)
         let v60 := iwrap .i64 ((s5.2.2.2.1.2.1.length : Int) + v59)
         .mat (s_l00Src_pick_9f69_F v60 r58.2) fun r61 =>
         .cond (decide (r5.1 = 5))
          (let v62 := iwrap .u64 (s_l08Cols_9aa7_S h5_0_4)
          .ite (0 ≤ v62) <|
          .mat (s_l00Src_pick_9f69_F (ishl .i64 1 v62) r61.2) fun r63 =>
          .ite ((s5.2.2.1.length + 1) * 32 ≤ appendMax ∧ 1 ≤ 32) <|
          let v64 := s5.2.2.1 ++ ([(r5.1, (r61.1, (r63.1, (0, ()))))])
          .mat (doR (r5.1, (r61.1, (r63.1, (0, ())))) s5.2.2.2 h5_0_4) fun r65 =>
          .ret (.inl (iwrap .i64 (s5.1 - 1), r63.2, v64, r65.2)))
          (.ite ((s5.2.2.1.length + 1) * 32 ≤ appendMax ∧ 1 ≤ 32) <|
          let v66 := s5.2.2.1 ++ ([(r5.1, (r61.1, (0, (0, ()))))])
          .mat (doR (r5.1, (r61.1, (0, (0, ())))) s5.2.2.2 h5_0_4) fun r67 =>
          .ret (.inl (iwrap .i64 (s5.1 - 1), r61.2, v66, r67.2)))))
        (.cond (decide (r5.1 = 7))
         (.cond (decide (r5.1 = 7))
          (.mat (s_l00Src_pick_9f69_F h5_0_1 r12.2) fun r68 =>
          .ite ((s5.2.2.1.length + 1) * 32 ≤ appendMax ∧ 1 ≤ 32) <|
          let v69 := s5.2.2.1 ++ ([(r5.1, (r68.1, (0, (0, ()))))])
          .mat (doR (r5.1, (r68.1, (0, (0, ())))) s5.2.2.2 h5_0_4) fun r70 =>
          .ret (.inl (iwrap .i64 (s5.1 - 1), r68.2, v69, r70.2)))
          (.mat (s_l00Src_pick_9f69_F 12 r12.2) fun r71 =>
          let v72 := iwrap .i64 (Int.tdiv r71.1 11)
          let v73 := iwrap .i64 ((s5.2.2.2.1.2.1.length : Int) + v72)
          .mat (s_l00Src_pick_9f69_F v73 r71.2) fun r74 =>
          .cond (decide (r5.1 = 5))
           (let v75 := iwrap .u64 (s_l08Cols_9aa7_S h5_0_4)
           .ite (0 ≤ v75) <|
           .mat (s_l00Src_pick_9f69_F (ishl .i64 1 v75) r74.2) fun r76 =>
           .ite ((s5.2.2.1.length + 1) * 32 ≤ appendMax ∧ 1 ≤ 32) <|
           let v77 := s5.2.2.1 ++ ([(r5.1, (r74.1, (r76.1, (0, ()))))])
           .mat (doR (r5.1, (r74.1, (r76.1, (0, ())))) s5.2.2.2 h5_0_4) fun r78 =>
           .ret (.inl (iwrap .i64 (s5.1 - 1), r76.2, v77, r78.2)))
           (.ite ((s5.2.2.1.length + 1) * 32 ≤ appendMax ∧ 1 ≤ 32) <|
           let v79 := s5.2.2.1 ++ ([(r5.1, (r74.1, (0, (0, ()))))])
           .mat (doR (r5.1, (r74.1, (0, (0, ())))) s5.2.2.2 h5_0_4) fun r80 =>
           .ret (.inl (iwrap .i64 (s5.1 - 1), r74.2, v79, r80.2)))))
         (.cond (decide (r5.1 = 8))
          (.mat (s_l00Src_pick_9f69_F h5_0_1 r12.2) fun r81 =>
          .ite ((s5.2.2.1.length + 1) * 32 ≤ appendMax ∧ 1 ≤ 32) <|
          let v82 := s5.2.2.1 ++ ([(r5.1, (r81.1, (0, (0, ()))))])
          .mat (doR (r5.1, (r81.1, (0, (0, ())))) s5.2.2.2 h5_0_4) fun r83 =>
          .ret (.inl (iwrap .i64 (s5.1 - 1), r81.2, v82, r83.2)))
          (.mat (s_l00Src_pick_9f69_F 12 r12.2) fun r84 =>
          let v85 := iwrap .i64 (Int.tdiv r84.1 11)
          let v86 := iwrap .i64 ((s5.2.2.2.1.2.1.length : Int) + v85)
          .mat (s_l00Src_pick_9f69_F v86 r84.2) fun r87 =>
          .cond (decide (r5.1 = 5))
           (let v88 := iwrap .u64 (s_l08Cols_9aa7_S h5_0_4)
           .ite (0 ≤ v88) <|
           .mat (s_l00Src_pick_9f69_F (ishl .i64 1 v88) r87.2) fun r89 =>
           .ite ((s5.2.2.1.length + 1) * 32 ≤ appendMax ∧ 1 ≤ 32) <|
           let v90 := s5.2.2.1 ++ ([(r5.1, (r87.1, (r89.1, (0, ()))))])
           .mat (doR (r5.1, (r87.1, (r89.1, (0, ())))) s5.2.2.2 h5_0_4) fun r91 =>
           .ret (.inl (iwrap .i64 (s5.1 - 1), r89.2, v90, r91.2)))
           (.ite ((s5.2.2.1.length + 1) * 32 ≤ appendMax ∧ 1 ≤ 32) <|
           let v92 := s5.2.2.1 ++ ([(r5.1, (r87.1, (0, (0, ()))))])
           .mat (doR (r5.1, (r87.1, (0, (0, ())))) s5.2.2.2 h5_0_4) fun r93 =>
           .ret (.inl (iwrap .i64 (s5.1 - 1), r87.2, v92, r93.2)))))))))
     (.cond (decide (r5.1 = 1))
      (.mat (s_l00Src_pick_9f69_F h5_0_1 r5.2) fun r94 =>
      .mat (s_l00Src_one_9f69_F 2 r94.2) fun r95 =>
      .cond r95.1
       (let v96 := s_l00Max_S (iwrap .i64 (h5_0_1 - 1)) 1
       .mat (s_l00Src_pick_9f69_F v96 r95.2) fun r97 =>
       .ite (0 ≤ (0 : Int) ∧ (0 : Int) < (s5.2.2.2.1.1.length : Int)) <|
       .mat (s5.2.2.2.1.1[0]?) fun _ =>
       .mat (s5.2.2.2.1.1[0]?) fun x99 =>
       let v100 := iwrap .u64 (x99.1.length : Int)
       .ite (0 ≤ v100) <|
       .mat (s_l00Src_pick_9f69_F (ishl .i64 1 v100) r97.2) fun r101 =>
       .cond (decide (r101.1 = 0))
        (.mat (s_l00Src_one_9f69_F 2 r101.2) fun r102 =>
        .cond r102.1
         (.ite (0 ≤ (0 : Int) ∧ (0 : Int) < (s5.2.2.2.1.1.length : Int)) <|
         .mat (s5.2.2.2.1.1[0]?) fun _ =>
         .mat (s5.2.2.2.1.1[0]?) fun x104 =>
         let v105 := iwrap .u64 (x104.1.length : Int)
         .ite (0 ≤ v105) <|
         let v106 := iwrap .i64 ((ishl .i64 1 v105) - 1)
         .ite ((s5.2.2.1.length + 1) * 32 ≤ appendMax ∧ 1 ≤ 32) <|
         let v107 := s5.2.2.1 ++ ([(r5.1, (0, (iwrap .i64 (1 + r97.1), (v106, ()))))])
         .mat (doR (r5.1, (0, (iwrap .i64 (1 + r97.1), (v106, ())))) s5.2.2.2 h5_0_4) fun r108 =>
         .ret (.inl (iwrap .i64 (s5.1 - 1), r102.2, v107, r108.2)))
         (.ite ((s5.2.2.1.length + 1) * 32 ≤ appendMax ∧ 1 ≤ 32) <|
         let v109 := s5.2.2.1 ++ ([(r5.1, (0, (iwrap .i64 (1 + r97.1), (r101.1, ()))))])
         .mat (doR (r5.1, (0, (iwrap .i64 (1 + r97.1), (r101.1, ())))) s5.2.2.2 h5_0_4) fun r110 =>
         .ret (.inl (iwrap .i64 (s5.1 - 1), r102.2, v109, r110.2))))
        (.ite ((s5.2.2.1.length + 1) * 32 ≤ appendMax ∧ 1 ≤ 32) <|
        let v111 := s5.2.2.1 ++ ([(r5.1, (0, (iwrap .i64 (1 + r97.1), (r101.1, ()))))])
        .mat (doR (r5.1, (0, (iwrap .i64 (1 + r97.1), (r101.1, ())))) s5.2.2.2 h5_0_4) fun r112 =>
        .ret (.inl (iwrap .i64 (s5.1 - 1), r101.2, v111, r112.2))))
       (let v113 := s_l00Max_S (iwrap .i64 (h5_0_1 - 1)) 1
       .mat (s_l00Src_pick_9f69_F v113 r95.2) fun r114 =>
       .ite (0 ≤ r94.1 ∧ r94.1 < (s5.2.2.2.1.1.length : Int)) <|
       .mat (s5.2.2.2.1.1[r94.1.toNat]?) fun _ =>
       .mat (s5.2.2.2.1.1[r94.1.toNat]?) fun x116 =>
       let v117 := iwrap .u64 (x116.1.length : Int)
       .ite (0 ≤ v117) <|
       .mat (s_l00Src_pick_9f69_F (ishl .i64 1 v117) r114.2) fun r118 =>
       .cond (decide (r118.1 = 0))
        (.mat (s_l00Src_one_9f69_F 2 r118.2) fun r119 =>
        .cond r119.1
         (.ite (0 ≤ r94.1 ∧ r94.1 < (s5.2.2.2.1.1.length : Int)) <|
         .mat (s5.2.2.2.1.1[r94.1.toNat]?) fun _ =>
         .mat (s5.2.2.2.1.1[r94.1.toNat]?) fun x121 =>
         let v122 := iwrap .u64 (x121.1.length : Int)
         .ite (0 ≤ v122) <|
         let v123 := iwrap .i64 ((ishl .i64 1 v122) - 1)
         .ite ((s5.2.2.1.length + 1) * 32 ≤ appendMax ∧ 1 ≤ 32) <|
         let v124 := s5.2.2.1 ++ ([(r5.1, (r94.1, (iwrap .i64 (1 + r114.1), (v123, ()))))])
         .mat (doR (r5.1, (r94.1, (iwrap .i64 (1 + r114.1), (v123, ())))) s5.2.2.2 h5_0_4) fun r125 =>
         .ret (.inl (iwrap .i64 (s5.1 - 1), r119.2, v124, r125.2)))
         (.ite ((s5.2.2.1.length + 1) * 32 ≤ appendMax ∧ 1 ≤ 32) <|
         let v126 := s5.2.2.1 ++ ([(r5.1, (r94.1, (iwrap .i64 (1 + r114.1), (r118.1, ()))))])
         .mat (doR (r5.1, (r94.1, (iwrap .i64 (1 + r114.1), (r118.1, ())))) s5.2.2.2 h5_0_4) fun r127 =>
         .ret (.inl (iwrap .i64 (s5.1 - 1), r119.2, v126, r127.2))))
        (.ite ((s5.2.2.1.length + 1) * 32 ≤ appendMax ∧ 1 ≤ 32) <|
        let v128 := s5.2.2.1 ++ ([(r5.1, (r94.1, (iwrap .i64 (1 + r114.1), (r118.1, ()))))])
        .mat (doR (r5.1, (r94.1, (iwrap .i64 (1 + r114.1), (r118.1, ())))) s5.2.2.2 h5_0_4) fun r129 =>
        .ret (.inl (iwrap .i64 (s5.1 - 1), r118.2, v128, r129.2)))))
      (.cond (decide (r5.1 = 6))
       (.cond (decide (r5.1 = 6))
        (.mat (s_l00Src_pick_9f69_F h5_0_1 r5.2) fun r130 =>
        .ite ((s5.2.2.1.length + 1) * 32 ≤ appendMax ∧ 1 ≤ 32) <|
        let v131 := s5.2.2.1 ++ ([(r5.1, (r130.1, (0, (0, ()))))])
        .mat (doR (r5.1, (r130.1, (0, (0, ())))) s5.2.2.2 h5_0_4) fun r132 =>
        .ret (.inl (iwrap .i64 (s5.1 - 1), r130.2, v131, r132.2)))
        (.mat (s_l00Src_pick_9f69_F 12 r5.2) fun r133 =>
        let v134 := iwrap .i64 (Int.tdiv r133.1 11)
        let v135 := iwrap .i64 ((s5.2.2.2.1.2.1.length : Int) + v134)
        .mat (s_l00Src_pick_9f69_F v135 r133.2) fun r136 =>
        .cond (decide (r5.1 = 5))
         (let v137 := iwrap .u64 (s_l08Cols_9aa7_S h5_0_4)
         .ite (0 ≤ v137) <|
         .mat (s_l00Src_pick_9f69_F (ishl .i64 1 v137) r136.2) fun r138 =>
         .ite ((s5.2.2.1.length + 1) * 32 ≤ appendMax ∧ 1 ≤ 32) <|
         let v139 := s5.2.2.1 ++ ([(r5.1, (r136.1, (r138.1, (0, ()))))])
         .mat (doR (r5.1, (r136.1, (r138.1, (0, ())))) s5.2.2.2 h5_0_4) fun r140 =>
         .ret (.inl (iwrap .i64 (s5.1 - 1), r138.2, v139, r140.2)))
         (.ite ((s5.2.2.1.length + 1) * 32 ≤ appendMax ∧ 1 ≤ 32) <|
         let v141 := s5.2.2.1 ++ ([(r5.1, (r136.1, (0, (0, ()))))])
         .mat (doR (r5.1, (r136.1, (0, (0, ())))) s5.2.2.2 h5_0_4) fun r142 =>
         .ret (.inl (iwrap .i64 (s5.1 - 1), r136.2, v141, r142.2)))))
       (.cond (decide (r5.1 = 7))
        (.cond (decide (r5.1 = 7))
         (.mat (s_l00Src_pick_9f69_F h5_0_1 r5.2) fun r143 =>
         .ite ((s5.2.2.1.length + 1) * 32 ≤ appendMax ∧ 1 ≤ 32) <|
         let v144 := s5.2.2.1 ++ ([(r5.1, (r143.1, (0, (0, ()))))])
         .mat (doR (r5.1, (r143.1, (0, (0, ())))) s5.2.2.2 h5_0_4) fun r145 =>
         .ret (.inl (iwrap .i64 (s5.1 - 1), r143.2, v144, r145.2)))
         (.mat (s_l00Src_pick_9f69_F 12 r5.2) fun r146 =>
         let v147 := iwrap .i64 (Int.tdiv r146.1 11)
         let v148 := iwrap .i64 ((s5.2.2.2.1.2.1.length : Int) + v147)
         .mat (s_l00Src_pick_9f69_F v148 r146.2) fun r149 =>
         .cond (decide (r5.1 = 5))
          (let v150 := iwrap .u64 (s_l08Cols_9aa7_S h5_0_4)
          .ite (0 ≤ v150) <|
          .mat (s_l00Src_pick_9f69_F (ishl .i64 1 v150) r149.2) fun r151 =>
          .ite ((s5.2.2.1.length + 1) * 32 ≤ appendMax ∧ 1 ≤ 32) <|
          let v152 := s5.2.2.1 ++ ([(r5.1, (r149.1, (r151.1, (0, ()))))])
          .mat (doR (r5.1, (r149.1, (r151.1, (0, ())))) s5.2.2.2 h5_0_4) fun r153 =>
          .ret (.inl (iwrap .i64 (s5.1 - 1), r151.2, v152, r153.2)))
          (.ite ((s5.2.2.1.length + 1) * 32 ≤ appendMax ∧ 1 ≤ 32) <|
          let v154 := s5.2.2.1 ++ ([(r5.1, (r149.1, (0, (0, ()))))])
          .mat (doR (r5.1, (r149.1, (0, (0, ())))) s5.2.2.2 h5_0_4) fun r155 =>
          .ret (.inl (iwrap .i64 (s5.1 - 1), r149.2, v154, r155.2)))))
        (.cond (decide (r5.1 = 8))
         (.mat (s_l00Src_pick_9f69_F h5_0_1 r5.2) fun r156 =>
         .ite ((s5.2.2.1.length + 1) * 32 ≤ appendMax ∧ 1 ≤ 32) <|
         let v157 := s5.2.2.1 ++ ([(r5.1, (r156.1, (0, (0, ()))))])
         .mat (doR (r5.1, (r156.1, (0, (0, ())))) s5.2.2.2 h5_0_4) fun r158 =>
         .ret (.inl (iwrap .i64 (s5.1 - 1), r156.2, v157, r158.2)))
         (.mat (s_l00Src_pick_9f69_F 12 r5.2) fun r159 =>
         let v160 := iwrap .i64 (Int.tdiv r159.1 11)
         let v161 := iwrap .i64 ((s5.2.2.2.1.2.1.length : Int) + v160)
         .mat (s_l00Src_pick_9f69_F v161 r159.2) fun r162 =>
         .cond (decide (r5.1 = 5))
          (let v163 := iwrap .u64 (s_l08Cols_9aa7_S h5_0_4)
          .ite (0 ≤ v163) <|
          .mat (s_l00Src_pick_9f69_F (ishl .i64 1 v163) r162.2) fun r164 =>
          .ite ((s5.2.2.1.length + 1) * 32 ≤ appendMax ∧ 1 ≤ 32) <|
          let v165 := s5.2.2.1 ++ ([(r5.1, (r162.1, (r164.1, (0, ()))))])
          .mat (doR (r5.1, (r162.1, (r164.1, (0, ())))) s5.2.2.2 h5_0_4) fun r166 =>
          .ret (.inl (iwrap .i64 (s5.1 - 1), r164.2, v165, r166.2)))
          (.ite ((s5.2.2.1.length + 1) * 32 ≤ appendMax ∧ 1 ≤ 32) <|
          let v167 := s5.2.2.1 ++ ([(r5.1, (r162.1, (0, (0, ()))))])
          .mat (doR (r5.1, (r162.1, (0, (0, ())))) s5.2.2.2 h5_0_4) fun r168 =>
          .ret (.inl (iwrap .i64 (s5.1 - 1), r162.2, v167, r168.2))))))))))
   (.cond (decide (r5.1 = 8))
    (.mat (s_l00Src_one_9f69_F 2 r5.2) fun r169 =>
    .cond r169.1
     (.mat (s_l00Src_pick_9f69_F 12 r169.2) fun r170 =>
     let v171 := iwrap .i64 (Int.tdiv r170.1 11)
     let v172 := iwrap .i64 ((s5.2.2.2.1.2.1.length : Int) + v171)
     .mat (s_l00Src_pick_9f69_F v172 r170.2) fun r173 =>
     .ite ((s5.2.2.1.length + 1) * 32 ≤ appendMax ∧ 1 ≤ 32) <|
     let v174 := s5.2.2.1 ++ ([(2, (r173.1, (0, (0, ()))))])
     .mat (doR (2, (r173.1, (0, (0, ())))) s5.2.2.2 h5_0_4) fun r175 =>
     .ret (.inl (iwrap .i64 (s5.1 - 1), r173.2, v174, r175.2)))
     (.cond (decide (r5.1 = 1))
      (.mat (s_l00Src_pick_9f69_F h5_0_1 r169.2) fun r176 =>
      .mat (s_l00Src_one_9f69_F 2 r176.2) fun r177 =>
      .cond r177.1
       (let v178 := s_l00Max_S (iwrap .i64 (h5_0_1 - 1)) 1
       .mat (s_l00Src_pick_9f69_F v178 r177.2) fun r179 =>
       .ite (0 ≤ (0 : Int) ∧ (0 : Int) < (s5.2.2.2.1.1.length : Int)) <|
       .mat (s5.2.2.2.1.1[0]?) fun _ =>
       .mat (s5.2.2.2.1.1[0]?) fun x181 =>
       let v182 := iwrap .u64 (x181.1.length : Int)
       .ite (0 ≤ v182) <|
       .mat (s_l00Src_pick_9f69_F (ishl .i64 1 v182) r179.2) fun r183 =>
       .cond (decide (r183.1 = 0))
        (.mat (s_l00Src_one_9f69_F 2 r183.2) fun r184 =>
        .cond r184.1
         (.ite (0 ≤ (0 : Int) ∧ (0 : Int) < (s5.2.2.2.1.1.length : Int)) <|
         .mat (s5.2.2.2.1.1[0]?) fun _ =>
         .mat (s5.2.2.2.1.1[0]?) fun x186 =>
         let v187 := iwrap .u64 (x186.1.length : Int)
         .ite (0 ≤ v187) <|
         let v188 := iwrap .i64 ((ishl .i64 1 v187) - 1)
         .ite ((s5.2.2.1.length + 1) * 32 ≤ appendMax ∧ 1 ≤ 32) <|
         let v189 := s5.2.2.1 ++ ([(r5.1, (0, (iwrap .i64 (1 + r179.1), (v188, ()))))])
         .mat (doR (r5.1, (0, (iwrap .i64 (1 + r179.1), (v188, ())))) s5.2.2.2 h5_0_4) fun r190 =>
         .ret (.inl (iwrap .i64 (s5.1 - 1), r184.2, v189, r190.2)))
         (.ite ((s5.2.2.1.length + 1) * 32 ≤ appendMax ∧ 1 ≤ 32) <|
         let v191 := s5.2.2.1 ++ ([(r5.1, (0, (iwrap .i64 (1 + r179.1), (r183.1, ()))))])
         .mat (doR (r5.1, (0, (iwrap .i64 (1 + r179.1), (r183.1, ())))) s5.2.2.2 h5_0_4) fun r192 =>
         .ret (.inl (iwrap .i64 (s5.1 - 1), r184.2, v191, r192.2))))
        (.ite ((s5.2.2.1.length + 1) * 32 ≤ appendMax ∧ 1 ≤ 32) <|
        let v193 := s5.2.2.1 ++ ([(r5.1, (0, (iwrap .i64 (1 + r179.1), (r183.1, ()))))])
        .mat (doR (r5.1, (0, (iwrap .i64 (1 + r179.1), (r183.1, ())))) s5.2.2.2 h5_0_4) fun r194 =>
        .ret (.inl (iwrap .i64 (s5.1 - 1), r183.2, v193, r194.2))))
       (let v195 := s_l00Max_S (iwrap .i64 (h5_0_1 - 1)) 1
       .mat (s_l00Src_pick_9f69_F v195 r177.2) fun r196 =>
       .ite (0 ≤ r176.1 ∧ r176.1 < (s5.2.2.2.1.1.length : Int)) <|
       .mat (s5.2.2.2.1.1[r176.1.toNat]?) fun _ =>
       .mat (s5.2.2.2.1.1[r176.1.toNat]?) fun x198 =>
       let v199 := iwrap .u64 (x198.1.length : Int)
       .ite (0 ≤ v199) <|
       .mat (s_l00Src_pick_9f69_F (ishl .i64 1 v199) r196.2) fun r200 =>
       .cond (decide (r200.1 = 0))
        (.mat (s_l00Src_one_9f69_F 2 r200.2) fun r201 =>
        .cond r201.1
         (.ite (0 ≤ r176.1 ∧ r176.1 < (s5.2.2.2.1.1.length : Int)) <|
         .mat (s5.2.2.2.1.1[r176.1.toNat]?) fun _ =>
         .mat (s5.2.2.2.1.1[r176.1.toNat]?) fun x203 =>
         let v204 := iwrap .u64 (x203.1.length : Int)
         .ite (0 ≤ v204) <|
         let v205 := iwrap .i64 ((ishl .i64 1 v204) - 1)
         .ite ((s5.2.2.1.length + 1) * 32 ≤ appendMax ∧ 1 ≤ 32) <|
         let v206 := s5.2.2.1 ++ ([(r5.1, (r176.1, (iwrap .i64 (1 + r196.1), (v205, ()))))])
         .mat (doR (r5.1, (r176.1, (iwrap .i64 (1 + r196.1), (v205, ())))) s5.2.2.2 h5_0_4) fun r207 =>
         .ret (.inl (iwrap .i64 (s5.1 - 1), r201.2, v206, r207.2)))
         (.ite ((s5.2.2.1.length + 1) * 32 ≤ appendMax ∧ 1 ≤ 32) <|
         let v208 := s5.2.2.1 ++ ([(r5.1, (r176.1, (iwrap .i64 (1 + r196.1), (r200.1, ()))))])
         .mat (doR (r5.1, (r176.1, (iwrap .i64 (1 + r196.1), (r200.1, ())))) s5.2.2.2 h5_0_4) fun r209 =>
         .ret (.inl (iwrap .i64 (s5.1 - 1), r201.2, v208, r209.2))))
        (.ite ((s5.2.2.1.length + 1) * 32 ≤ appendMax ∧ 1 ≤ 32) <|
        let v210 := s5.2.2.1 ++ ([(r5.1, (r176.1, (iwrap .i64 (1 + r196.1), (r200.1, ()))))])
        .mat (doR (r5.1, (r176.1, (iwrap .i64 (1 + r196.1), (r200.1, ())))) s5.2.2.2 h5_0_4) fun r211 =>
        .ret (.inl (iwrap .i64 (s5.1 - 1), r200.2, v210, r211.2)))))
      (.cond (decide (r5.1 = 6))
       (.cond (decide (r5.1 = 6))
        (.mat (s_l00Src_pick_9f69_F h5_0_1 r169.2) fun r212 =>
        .ite ((s5.2.2.1.length + 1) * 32 ≤ appendMax ∧ 1 ≤ 32) <|
        let v213 := s5.2.2.1 ++ ([(r5.1, (r212.1, (0, (0, ()))))])
        .mat (doR (r5.1, (r212.1, (0, (0, ())))) s5.2.2.2 h5_0_4) fun r214 =>
        .ret (.inl (iwrap .i64 (s5.1 - 1), r212.2, v213, r214.2)))
        (.mat (s_l00Src_pick_9f69_F 12 r169.2) fun r215 =>
        let v216 := iwrap .i64 (Int.tdiv r215.1 11)
        let v217 := iwrap .i64 ((s5.2.2.2.1.2.1.length : Int) + v216)
        .mat (s_l00Src_pick_9f69_F v217 r215.2) fun r218 =>
        .cond (decide (r5.1 = 5))
         (let v219 := iwrap .u64 (s_l08Cols_9aa7_S h5_0_4)
         .ite (0 ≤ v219) <|
         .mat (s_l00Src_pick_9f69_F (ishl .i64 1 v219) r218.2) fun r220 =>
         .ite ((s5.2.2.1.length + 1) * 32 ≤ appendMax ∧ 1 ≤ 32) <|
         let v221 := s5.2.2.1 ++ ([(r5.1, (r218.1, (r220.1, (0, ()))))])
         .mat (doR (r5.1, (r218.1, (r220.1, (0, ())))) s5.2.2.2 h5_0_4) fun r222 =>
         .ret (.inl (iwrap .i64 (s5.1 - 1), r220.2, v221, r222.2)))
         (.ite ((s5.2.2.1.length + 1) * 32 ≤ appendMax ∧ 1 ≤ 32) <|
         let v223 := s5.2.2.1 ++ ([(r5.1, (r218.1, (0, (0, ()))))])
         .mat (doR (r5.1, (r218.1, (0, (0, ())))) s5.2.2.2 h5_0_4) fun r224 =>
         .ret (.inl (iwrap .i64 (s5.1 - 1), r218.2, v223, r224.2)))))
       (.cond (decide (r5.1 = 7))
        (.cond (decide (r5.1 = 7))
         (.mat (s_l00Src_pick_9f69_F h5_0_1 r169.2) fun r225 =>
         .ite ((s5.2.2.1.length + 1) * 32 ≤ appendMax ∧ 1 ≤ 32) <|
         let v226 := s5.2.2.1 ++ ([(r5.1, (r225.1, (0, (0, ()))))])
         .mat (doR (r5.1, (r225.1, (0, (0, ())))) s5.2.2.2 h5_0_4) fun r227 =>
         .ret (.inl (iwrap .i64 (s5.1 - 1), r225.2, v226, r227.2)))
         (.mat (s_l00Src_pick_9f69_F 12 r169.2) fun r228 =>
         let v229 := iwrap .i64 (Int.tdiv r228.1 11)
         let v230 := iwrap .i64 ((s5.2.2.2.1.2.1.length : Int) + v229)
         .mat (s_l00Src_pick_9f69_F v230 r228.2) fun r231 =>
         .cond (decide (r5.1 = 5))
          (let v232 := iwrap .u64 (s_l08Cols_9aa7_S h5_0_4)
          .ite (0 ≤ v232) <|
          .mat (s_l00Src_pick_9f69_F (ishl .i64 1 v232) r231.2) fun r233 =>
          .ite ((s5.2.2.1.length + 1) * 32 ≤ appendMax ∧ 1 ≤ 32) <|
          let v234 := s5.2.2.1 ++ ([(r5.1, (r231.1, (r233.1, (0, ()))))])
          .mat (doR (r5.1, (r231.1, (r233.1, (0, ())))) s5.2.2.2 h5_0_4) fun r235 =>
          .ret (.inl (iwrap .i64 (s5.1 - 1), r233.2, v234, r235.2)))
          (.ite ((s5.2.2.1.length + 1) * 32 ≤ appendMax ∧ 1 ≤ 32) <|
          let v236 := s5.2.2.1 ++ ([(r5.1, (r231.1, (0, (0, ()))))])
          .mat (doR (r5.1, (r231.1, (0, (0, ())))) s5.2.2.2 h5_0_4) fun r237 =>
          .ret (.inl (iwrap .i64 (s5.1 - 1), r231.2, v236, r237.2)))))
        (.cond (decide (r5.1 = 8))
         (.mat (s_l00Src_pick_9f69_F h5_0_1 r169.2) fun r238 =>
         .ite ((s5.2.2.1.length + 1) * 32 ≤ appendMax ∧ 1 ≤ 32) <|
         let v239 := s5.2.2.1 ++ ([(r5.1, (r238.1, (0, (0, ()))))])
         .mat (doR (r5.1, (r238.1, (0, (0, ())))) s5.2.2.2 h5_0_4) fun r240 =>
         .ret (.inl (iwrap .i64 (s5.1 - 1), r238.2, v239, r240.2)))
         (.mat (s_l00Src_pick_9f69_F 12 r169.2) fun r241 =>
         let v242 := iwrap .i64 (Int.tdiv r241.1 11)
         let v243 := iwrap .i64 ((s5.2.2.2.1.2.1.length : Int) + v242)
         .mat (s_l00Src_pick_9f69_F v243 r241.2) fun r244 =>
         .cond (decide (r5.1 = 5))
          (let v245 := iwrap .u64 (s_l08Cols_9aa7_S h5_0_4)
          .ite (0 ≤ v245) <|
          .mat (s_l00Src_pick_9f69_F (ishl .i64 1 v245) r244.2) fun r246 =>
          .ite ((s5.2.2.1.length + 1) * 32 ≤ appendMax ∧ 1 ≤ 32) <|
          let v247 := s5.2.2.1 ++ ([(r5.1, (r244.1, (r246.1, (0, ()))))])
          .mat (doR (r5.1, (r244.1, (r246.1, (0, ())))) s5.2.2.2 h5_0_4) fun r248 =>
          .ret (.inl (iwrap .i64 (s5.1 - 1), r246.2, v247, r248.2)))
          (.ite ((s5.2.2.1.length + 1) * 32 ≤ appendMax ∧ 1 ≤ 32) <|
          let v249 := s5.2.2.1 ++ ([(r5.1, (r244.1, (0, (0, ()))))])
          .mat (doR (r5.1, (r244.1, (0, (0, ())))) s5.2.2.2 h5_0_4) fun r250 =>
          .ret (.inl (iwrap .i64 (s5.1 - 1), r244.2, v249, r250.2)))))))))
    (.cond (decide (r5.1 = 1))
     (.mat (s_l00Src_pick_9f69_F h5_0_1 r5.2) fun r251 =>
     .mat (s_l00Src_one_9f69_F 2 r251.2) fun r252 =>
     .cond r252.1
      (let v253 := s_l00Max_S (iwrap .i64 (h5_0_1 - 1)) 1
      .mat (s_l00Src_pick_9f69_F v253 r252.2) fun r254 =>
      .ite (0 ≤ (0 : Int) ∧ (0 : Int) < (s5.2.2.2.1.1.length : Int)) <|
      .mat (s5.2.2.2.1.1[0]?) fun _ =>
      .mat (s5.2.2.2.1.1[0]?) fun x256 =>
      let v257 := iwrap .u64 (x256.1.length : Int)
      .ite (0 ≤ v257) <|
      .mat (s_l00Src_pick_9f69_F (ishl .i64 1 v257) r254.2) fun r258 =>
      .cond (decide (r258.1 = 0))
       (.mat (s_l00Src_one_9f69_F 2 r258.2) fun r259 =>
       .cond r259.1
        (.ite (0 ≤ (0 : Int) ∧ (0 : Int) < (s5.2.2.2.1.1.length : Int)) <|
        .mat (s5.2.2.2.1.1[0]?) fun _ =>
        .mat (s5.2.2.2.1.1[0]?) fun x261 =>
        let v262 := iwrap .u64 (x261.1.length : Int)
        .ite (0 ≤ v262) <|
        let v263 := iwrap .i64 ((ishl .i64 1 v262) - 1)
        .ite ((s5.2.2.1.length + 1) * 32 ≤ appendMax ∧ 1 ≤ 32) <|
        let v264 := s5.2.2.1 ++ ([(r5.1, (0, (iwrap .i64 (1 + r254.1), (v263, ()))))])
        .mat (doR (r5.1, (0, (iwrap .i64 (1 + r254.1), (v263, ())))) s5.2.2.2 h5_0_4) fun r265 =>
        .ret (.inl (iwrap .i64 (s5.1 - 1), r259.2, v264, r265.2)))
        (.ite ((s5.2.2.1.length + 1) * 32 ≤ appendMax ∧ 1 ≤ 32) <|
        let v266 := s5.2.2.1 ++ ([(r5.1, (0, (iwrap .i64 (1 + r254.1), (r258.1, ()))))])
        .mat (doR (r5.1, (0, (iwrap .i64 (1 + r254.1), (r258.1, ())))) s5.2.2.2 h5_0_4) fun r267 =>
        .ret (.inl (iwrap .i64 (s5.1 - 1), r259.2, v266, r267.2))))
       (.ite ((s5.2.2.1.length + 1) * 32 ≤ appendMax ∧ 1 ≤ 32) <|
       let v268 := s5.2.2.1 ++ ([(r5.1, (0, (iwrap .i64 (1 + r254.1), (r258.1, ()))))])
       .mat (doR (r5.1, (0, (iwrap .i64 (1 + r254.1), (r258.1, ())))) s5.2.2.2 h5_0_4) fun r269 =>
       .ret (.inl (iwrap .i64 (s5.1 - 1), r258.2, v268, r269.2))))
      (let v270 := s_l00Max_S (iwrap .i64 (h5_0_1 - 1)) 1
      .mat (s_l00Src_pick_9f69_F v270 r252.2) fun r271 =>
      .ite (0 ≤ r251.1 ∧ r251.1 < (s5.2.2.2.1.1.length : Int)) <|
      .mat (s5.2.2.2.1.1[r251.1.toNat]?) fun _ =>
      .mat (s5.2.2.2.1.1[r251.1.toNat]?) fun x273 =>
      let v274 := iwrap .u64 (x273.1.length : Int)
      .ite (0 ≤ v274) <|
      .mat (s_l00Src_pick_9f69_F (ishl .i64 1 v274) r271.2) fun r275 =>
      .cond (decide (r275.1 = 0))
       (.mat (s_l00Src_one_9f69_F 2 r275.2) fun r276 =>
       .cond r276.1
        (.ite (0 ≤ r251.1 ∧ r251.1 < (s5.2.2.2.1.1.length : Int)) <|
        .mat (s5.2.2.2.1.1[r251.1.toNat]?) fun _ =>
        .mat (s5.2.2.2.1.1[r251.1.toNat]?) fun x278 =>
        let v279 := iwrap .u64 (x278.1.length : Int)
        .ite (0 ≤ v279) <|
        let v280 := iwrap .i64 ((ishl .i64 1 v279) - 1)
        .ite ((s5.2.2.1.length + 1) * 32 ≤ appendMax ∧ 1 ≤ 32) <|
        let v281 := s5.2.2.1 ++ ([(r5.1, (r251.1, (iwrap .i64 (1 + r271.1), (v280, ()))))])
        .mat (doR (r5.1, (r251.1, (iwrap .i64 (1 + r271.1), (v280, ())))) s5.2.2.2 h5_0_4) fun r282 =>
        .ret (.inl (iwrap .i64 (s5.1 - 1), r276.2, v281, r282.2)))
        (.ite ((s5.2.2.1.length + 1) * 32 ≤ appendMax ∧ 1 ≤ 32) <|
        let v283 := s5.2.2.1 ++ ([(r5.1, (r251.1, (iwrap .i64 (1 + r271.1), (r275.1, ()))))])
        .mat (doR (r5.1, (r251.1, (iwrap .i64 (1 + r271.1), (r275.1, ())))) s5.2.2.2 h5_0_4) fun r284 =>
        .ret (.inl (iwrap .i64 (s5.1 - 1), r276.2, v283, r284.2))))
       (.ite ((s5.2.2.1.length + 1) * 32 ≤ appendMax ∧ 1 ≤ 32) <|
       let v285 := s5.2.2.1 ++ ([(r5.1, (r251.1, (iwrap .i64 (1 + r271.1), (r275.1, ()))))])
       .mat (doR (r5.1, (r251.1, (iwrap .i64 (1 + r271.1), (r275.1, ())))) s5.2.2.2 h5_0_4) fun r286 =>
       .ret (.inl (iwrap .i64 (s5.1 - 1), r275.2, v285, r286.2)))))
     (.cond (decide (r5.1 = 6))
      (.cond (decide (r5.1 = 6))
       (.mat (s_l00Src_pick_9f69_F h5_0_1 r5.2) fun r287 =>
       .ite ((s5.2.2.1.length + 1) * 32 ≤ appendMax ∧ 1 ≤ 32) <|
       let v288 := s5.2.2.1 ++ ([(r5.1, (r287.1, (0, (0, ()))))])
       .mat (doR (r5.1, (r287.1, (0, (0, ())))) s5.2.2.2 h5_0_4) fun r289 =>
       .ret (.inl (iwrap .i64 (s5.1 - 1), r287.2, v288, r289.2)))
       (.mat (s_l00Src_pick_9f69_F 12 r5.2) fun r290 =>
       let v291 := iwrap .i64 (Int.tdiv r290.1 11)
       let v292 := iwrap .i64 ((s5.2.2.2.1.2.1.length : Int) + v291)
       .mat (s_l00Src_pick_9f69_F v292 r290.2) fun r293 =>
       .cond (decide (r5.1 = 5))
        (let v294 := iwrap .u64 (s_l08Cols_9aa7_S h5_0_4)
        .ite (0 ≤ v294) <|
        .mat (s_l00Src_pick_9f69_F (ishl .i64 1 v294) r293.2) fun r295 =>
        .ite ((s5.2.2.1.length + 1) * 32 ≤ appendMax ∧ 1 ≤ 32) <|
        let v296 := s5.2.2.1 ++ ([(r5.1, (r293.1, (r295.1, (0, ()))))])
        .mat (doR (r5.1, (r293.1, (r295.1, (0, ())))) s5.2.2.2 h5_0_4) fun r297 =>
        .ret (.inl (iwrap .i64 (s5.1 - 1), r295.2, v296, r297.2)))
        (.ite ((s5.2.2.1.length + 1) * 32 ≤ appendMax ∧ 1 ≤ 32) <|
        let v298 := s5.2.2.1 ++ ([(r5.1, (r293.1, (0, (0, ()))))])
        .mat (doR (r5.1, (r293.1, (0, (0, ())))) s5.2.2.2 h5_0_4) fun r299 =>
        .ret (.inl (iwrap .i64 (s5.1 - 1), r293.2, v298, r299.2)))))
      (.cond (decide (r5.1 = 7))
       (.cond (decide (r5.1 = 7))
        (.mat (s_l00Src_pick_9f69_F h5_0_1 r5.2) fun r300 =>
        .ite ((s5.2.2.1.length + 1) * 32 ≤ appendMax ∧ 1 ≤ 32) <|
        let v301 := s5.2.2.1 ++ ([(r5.1, (r300.1, (0, (0, ()))))])
        .mat (doR (r5.1, (r300.1, (0, (0, ())))) s5.2.2.2 h5_0_4) fun r302 =>
        .ret (.inl (iwrap .i64 (s5.1 - 1), r300.2, v301, r302.2)))
        (.mat (s_l00Src_pick_9f69_F 12 r5.2) fun r303 =>
        let v304 := iwrap .i64 (Int.tdiv r303.1 11)
        let v305 := iwrap .i64 ((s5.2.2.2.1.2.1.length : Int) + v304)
        .mat (s_l00Src_pick_9f69_F v305 r303.2) fun r306 =>
        .cond (decide (r5.1 = 5))
         (let v307 := iwrap .u64 (s_l08Cols_9aa7_S h5_0_4)
         .ite (0 ≤ v307) <|
         .mat (s_l00Src_pick_9f69_F (ishl .i64 1 v307) r306.2) fun r308 =>
         .ite ((s5.2.2.1.length + 1) * 32 ≤ appendMax ∧ 1 ≤ 32) <|
         let v309 := s5.2.2.1 ++ ([(r5.1, (r306.1, (r308.1, (0, ()))))])
         .mat (doR (r5.1, (r306.1, (r308.1, (0, ())))) s5.2.2.2 h5_0_4) fun r310 =>
         .ret (.inl (iwrap .i64 (s5.1 - 1), r308.2, v309, r310.2)))
         (.ite ((s5.2.2.1.length + 1) * 32 ≤ appendMax ∧ 1 ≤ 32) <|
         let v311 := s5.2.2.1 ++ ([(r5.1, (r306.1, (0, (0, ()))))])
         .mat (doR (r5.1, (r306.1, (0, (0, ())))) s5.2.2.2 h5_0_4) fun r312 =>
         .ret (.inl (iwrap .i64 (s5.1 - 1), r306.2, v311, r312.2)))))
       (.cond (decide (r5.1 = 8))
        (.mat (s_l00Src_pick_9f69_F h5_0_1 r5.2) fun r313 =>
        .ite ((s5.2.2.1.length + 1) * 32 ≤ appendMax ∧ 1 ≤ 32) <|
        let v314 := s5.2.2.1 ++ ([(r5.1, (r313.1, (0, (0, ()))))])
        .mat (doR (r5.1, (r313.1, (0, (0, ())))) s5.2.2.2 h5_0_4) fun r315 =>
        .ret (.inl (iwrap .i64 (s5.1 - 1), r313.2, v314, r315.2)))
        (.mat (s_l00Src_pick_9f69_F 12 r5.2) fun r316 =>
        let v317 := iwrap .i64 (Int.tdiv r316.1 11)
        let v318 := iwrap .i64 ((s5.2.2.2.1.2.1.length : Int) + v317)
        .mat (s_l00Src_pick_9f69_F v318 r316.2) fun r319 =>
        .cond (decide (r5.1 = 5))
         (let v320 := iwrap .u64 (s_l08Cols_9aa7_S h5_0_4)
         .ite (0 ≤ v320) <|
         .mat (s_l00Src_pick_9f69_F (ishl .i64 1 v320) r319.2) fun r321 =>
         .ite ((s5.2.2.1.length + 1) * 32 ≤ appendMax ∧ 1 ≤ 32) <|
         let v322 := s5.2.2.1 ++ ([(r5.1, (r319.1, (r321.1, (0, ()))))])
         .mat (doR (r5.1, (r319.1, (r321.1, (0, ())))) s5.2.2.2 h5_0_4) fun r323 =>
         .ret (.inl (iwrap .i64 (s5.1 - 1), r321.2, v322, r323.2)))
         (.ite ((s5.2.2.1.length + 1) * 32 ≤ appendMax ∧ 1 ≤ 32) <|
         let v324 := s5.2.2.1 ++ ([(r5.1, (r319.1, (0, (0, ()))))])
         .mat (doR (r5.1, (r319.1, (0, (0, ())))) s5.2.2.2 h5_0_4) fun r325 =>
         .ret (.inl (iwrap .i64 (s5.1 - 1), r319.2, v324, r325.2))))))))))
  (.ret (.inr (s5.2.1, s5.2.2.1)))
noncomputable def s_l08Deeds_ad92 (p0 : Int) (p1 : Bool) (p2 : TL00Src) (p3 : TGather) : Tre (TL00Src × (List TDeed)) :=
 .mat (beginR p3) fun r1 =>
 let v2 := iwrap .i64 (1 + p3.2.2.2.1)
 let v3 := iwrap .i64 (v2 + p3.2.2.2.2.1)
 .mat (s_l00Src_pick_9f69_F (iwrap .i64 (p0 + 1)) p2) fun r4 =>
 .mat (loopF (s_l08Deeds_ad92_l5 p1 v3 p3) (r4.1, r4.2, [], r1)) fun l326 =>
 .ret (l326.1, l326.2)
noncomputable def s_l08Deeds_ad92_F (p0 : Int) (p1 : Bool) (p2 : TL00Src) (p3 : TGather) : Option (TL00Src × (List TDeed)) := (s_l08Deeds_ad92 p0 p1 p2 p3).run some
noncomputable def s_l08Deeds_ad92_V : Env := ⟨tau, [(85, s_l08Begin_9aa7_c), (90, s_l00Src_pick_9f69_c), (92, s_l00Src_among_e38a_c), (86, s_l08Run_do_9d6c_c), (91, s_l00Src_one_9f69_c), (93, s_l00Max_c), (89, s_l08Cols_9aa7_c)], []⟩
noncomputable def s_l08Deeds_ad92_b : Code := (Try.f58.body).getD .skip
noncomputable def s_l08Deeds_ad92_l5_mk (z5_0 : Bool) (z5_1 : Bool) (h5_0_0 : Bool) (h5_0_1 : Int) (h5_0_4 : TGather) : (Int × TL00Src × (List TDeed) × (TPlant × Unit)) → St := fun x => stOf [(0, (.ptr (0, 0) [])), (1, (.ptr (0, 1) [])), (3, (.imm true .bool h5_0_0)), (9, (.ref (11, 0) [])), (10, (.ptr (18, 0) [])), (11, (.imm true (.int .i64) h5_0_1)), (12, (.imm true (.int .i64) x.1))] [((0, 0), some ⟨true, kL00Src, (.imm z5_0), x.2.1⟩), ((0, 1), some ⟨true, kGather, (.imm z5_1), h5_0_4⟩), ((11, 0), some ⟨false, (.sl kDeed), .own, x.2.2.1⟩), ((18, 0), some ⟨true, kL08Run, .own, ((some (0, 1) : Option RName), x.2.2.2)⟩)]
noncomputable def s_l08Deeds_ad92_l5_out (z5_0 : Bool) (z5_1 : Bool) (_h5_0_0 : Bool) (_h5_0_1 : Int) (h5_0_4 : TGather) : (TL00Src × (List TDeed)) → Ex × St := fun x => (.exit 0, stOf [(9, (.ref (11, 0) []))] [((0, 0), some ⟨true, kL00Src, (.imm z5_0), x.1⟩), ((0, 1), some ⟨true, kGather, (.imm z5_1), h5_0_4⟩), ((11, 0), some ⟨false, (.sl kDeed), .own, x.2⟩)])
noncomputable def s_l08Deeds_ad92_l5_D (s : St) : Tre (Ex × St) :=
 asPtr (0, 0) [] (s.tmps 0) <|
 asPtr (0, 1) [] (s.tmps 1) <|
 asImmZ true .bool (s.tmps 3) fun d4 =>
 asRef (11, 0) [] (s.tmps 9) <|
 asPtr (18, 0) [] (s.tmps 10) <|
 asImmZ true (.int .i64) (s.tmps 11) fun d8 =>
 asImmZ true (.int .i64) (s.tmps 12) fun d10 =>
 asRoot true kL00Src (s.roots (0, 0)) fun m12 d13 =>
 asMImm m12 fun z14 =>
 asRoot true kGather (s.roots (0, 1)) fun m16 d17 =>
 asMImm m16 fun z18 =>
 asRoot false (.sl kDeed) (s.roots (11, 0)) fun m20 d21 =>
 asM .own m20 <|
 asRoot true kL08Run (s.roots (18, 0)) fun m23 d24 =>
 asM .own m23 <|
 asProd d24 fun d25 d26 =>
 asD d25 (some (0, 1) : Option RName) <|
 .mat (loopF (s_l08Deeds_ad92_l5 d4 d8 d17) (d10, d13, d21, d26)) fun x => .ret (s_l08Deeds_ad92_l5_out z14 z18 d4 d8 d17 x)
noncomputable def s_l08Deeds_ad92_l5_L : LoopI := ⟨([0, 1, 3, 9, 10, 11, 12], [(0, 0), (0, 1), (11, 0), (18, 0)]), ([9], [(0, 0), (0, 1), (11, 0)]), s_l08Deeds_ad92_l5_D⟩
noncomputable def s_l08Deeds_ad92_A : List (Nat × LoopI) := [(5, s_l08Deeds_ad92_l5_L)]
set_option maxRecDepth 100000 in
theorem s_l08Deeds_ad92_l5_step : ∀ (z5_0 : Bool) (z5_1 : Bool) (h5_0_0 : Bool) (h5_0_1 : Int) (h5_0_4 : TGather) (x : (Int × TL00Src × (List TDeed) × (TPlant × Unit))) (c : St → Option (Ex × St)), den s_l08Deeds_ad92_V s_l08Deeds_ad92_A (loopAt s_l08Deeds_ad92_b 0) (s_l08Deeds_ad92_l5_mk z5_0 z5_1 h5_0_0 h5_0_1 h5_0_4 x) (roundK s_l08Deeds_ad92_l5_L.kp s_l08Deeds_ad92_l5_L.kx c) = (s_l08Deeds_ad92_l5 h5_0_0 h5_0_1 h5_0_4 x).run (roundR (s_l08Deeds_ad92_l5_mk z5_0 z5_1 h5_0_0 h5_0_1 h5_0_4) (s_l08Deeds_ad92_l5_out z5_0 z5_1 h5_0_0 h5_0_1 h5_0_4) c) := fun _ _ _ _ _ _ _ => by
 kernel_rfl
theorem s_l08Deeds_ad92_l5_ok : LoopOK s_l08Deeds_ad92_V s_l08Deeds_ad92_A (loopAt s_l08Deeds_ad92_b 0) s_l08Deeds_ad92_l5_L := loopOK_of fun s e s' h => by
 generalize hs : restrict s_l08Deeds_ad92_l5_L.kp s = s1 at h
 have h : (s_l08Deeds_ad92_l5_D s1).run some = some (e, s') := h
 obtain ⟨e1, h_0⟩ := asPtr_spec h
 obtain ⟨e2, h_1⟩ := asPtr_spec h_0
 obtain ⟨d4, e3, h_2⟩ := asImmZ_spec h_1
 obtain ⟨e5, h_3⟩ := asRef_spec h_2
 obtain ⟨e6, h_4⟩ := asPtr_spec h_3
 obtain ⟨d8, e7, h_5⟩ := asImmZ_spec h_4
 obtain ⟨d10, e9, h_6⟩ := asImmZ_spec h_5
 obtain ⟨m12, d13, e11, h_7⟩ := asRoot_spec h_6
 obtain ⟨z14, rfl, h_8⟩ := asMImm_spec h_7
 obtain ⟨m16, d17, e15, h_9⟩ := asRoot_spec h_8
 obtain ⟨z18, rfl, h_10⟩ := asMImm_spec h_9
 obtain ⟨m20, d21, e19, h_11⟩ := asRoot_spec h_10
 obtain ⟨rfl, h_12⟩ := asM_spec h_11
 obtain ⟨m23, d24, e22, h_13⟩ := asRoot_spec h_12
 obtain ⟨rfl, h_14⟩ := asM_spec h_13
 obtain ⟨d25, d26, rfl, h_15⟩ := asProd_spec h_14
 obtain ⟨rfl, h_16⟩ := asD_spec h_15
 obtain ⟨y, hy, hz⟩ := mat_ret h_16
 refine ⟨_, _, s_l08Deeds_ad92_l5_mk z14 z18 d4 d8 d17, s_l08Deeds_ad92_l5_out z14 z18 d4 d8 d17, s_l08Deeds_ad92_l5 d4 d8 d17, (d10, d13, d21, d26), y, ?_, hy, ?_, s_l08Deeds_ad92_l5_step z14 z18 d4 d8 d17⟩
 ·subst hs; exact restrict_eq (T := [(0, (.ptr (0, 0) [])), (1, (.ptr (0, 1) [])), (3, (.imm true .bool d4)), (9, (.ref (11, 0) [])), (10, (.ptr (18, 0) [])), (11, (.imm true (.int .i64) d8)), (12, (.imm true (.int .i64) d10))]) (U := [((0, 0), some ⟨true, kL00Src, (.imm z14), d13⟩), ((0, 1), some ⟨true, kGather, (.imm z18), d17⟩), ((11, 0), some ⟨false, (.sl kDeed), .own, d21⟩), ((18, 0), some ⟨true, kL08Run, .own, ((some (0, 1) : Option RName), d26)⟩)]) rfl rfl ⟨e1, e2, e3, e5, e6, e7, e9, trivial⟩ ⟨e11, e15, e19, e22, trivial⟩
 ·exact Option.some.inj hz
noncomputable def s_l08Deeds_ad92_I : FnI := ⟨s_l08Deeds_ad92_b, Try.f58.results.toList, Try.f58.resultTypes.toList, s_l08Deeds_ad92_A⟩
noncomputable def s_l08Deeds_ad92_out (zp0 : Bool) (zp1 : Bool) (_p0 : Int) (_p1 : Bool) (_p2 : TL00Src) (p3 : TGather) : (TL00Src × (List TDeed)) → CallOut := fun r => ⟨(.ref (1, 0) []), [⟨true, kL00Src, (.imm zp0), r.1⟩, ⟨true, kGather, (.imm zp1), p3⟩], [⟨false, (.sl kDeed), .own, r.2⟩]⟩
set_option maxRecDepth 100000 in
theorem s_l08Deeds_ad92_eq : ∀ (zp0 : Bool) (zp1 : Bool) (p0 : Int) (p1 : Bool) (p2 : TL00Src) (p3 : TGather), denFn s_l08Deeds_ad92_V s_l08Deeds_ad92_I ⟨[(.ptr (0, 0) []), (.ptr (0, 1) []), (.imm true (.int .i64) p0), (.imm true .bool p1)], [⟨true, kL00Src, (.imm zp0), p2⟩, ⟨true, kGather, (.imm zp1), p3⟩]⟩ = (s_l08Deeds_ad92 p0 p1 p2 p3).run fun r => some (s_l08Deeds_ad92_out zp0 zp1 p0 p1 p2 p3 r) := fun _ _ _ _ _ _ => by kernel_rfl
noncomputable def s_l08Deeds_ad92_G (av : List AV) (rs : List Root) : Tre CallOut :=
 asCons av fun a0_ av0 =>
 asCons av0 fun a1_ av1 =>
 asCons av1 fun a2_ av2 =>
 asCons av2 fun a3_ av3 =>
 asEnd av3 <|
 asCons rs fun r0_ rs0 =>
 asCons rs0 fun r1_ rs1 =>
 asEnd rs1 <|
 asPtr (0, 0) [] a0_ <|
 asPtr (0, 1) [] a1_ <|
 asImmZ true (.int .i64) a2_ fun d1 =>
 asImmZ true .bool a3_ fun d2 =>
 asRt true kL00Src r0_ fun m3 d4 =>
 asMImm m3 fun z5 =>
 asRt true kGather r1_ fun m6 d7 =>
 asMImm m6 fun z8 =>
 .mat (s_l08Deeds_ad92_F d1 d2 d4 d7) fun r => .ret (s_l08Deeds_ad92_out z5 z8 d1 d2 d4 d7 r)
noncomputable def s_l08Deeds_ad92_c : Ctr := ⟨[], fun ci => s_l08Deeds_ad92_G ci.args ci.roots⟩
theorem s_l08Deeds_ad92_env : EnvOK Try.prog s_l08Deeds_ad92_V := (envOK_cons s_l08Begin_9aa7_ok ent85 (envOK_cons s_l00Src_pick_9f69_ok ent90 (envOK_cons s_l00Src_among_e38a_ok ent92 (envOK_cons s_l08Run_do_9d6c_ok ent86 (envOK_cons s_l00Src_one_9f69_ok ent91 (envOK_cons s_l00Max_ok ent93 (envOK_cons s_l08Cols_9aa7_ok ent89 envOK_nil)))))))
set_option maxRecDepth 100000 in
theorem s_l08Deeds_ad92_ok : Contract Try.prog 58 s_l08Deeds_ad92_c := by
 have hl : LoopsOK s_l08Deeds_ad92_V s_l08Deeds_ad92_A s_l08Deeds_ad92_b := (loopsOK_all (n := 1) (by kernel_rfl) fun k hk => by
   match k, hk with
   | 0, _ => exact loopOK_at (id := 5) (L := s_l08Deeds_ad92_l5_L) (by kernel_rfl) (by kernel_rfl) s_l08Deeds_ad92_l5_ok)
 refine (contract_of (F := s_l08Deeds_ad92_I) tau_tys s_l08Deeds_ad92_env Try.func58 (by kernel_rfl) (by kernel_rfl) (by kernel_rfl) hl []).weaken ?_
 rintro ⟨av, rs⟩ co h
 have h : (s_l08Deeds_ad92_G av rs).run some = some co := h
 obtain ⟨a0_, av0, rfl, h_0⟩ := asCons_spec h
 obtain ⟨a1_, av1, rfl, h_1⟩ := asCons_spec h_0
 obtain ⟨a2_, av2, rfl, h_2⟩ := asCons_spec h_1
 obtain ⟨a3_, av3, rfl, h_3⟩ := asCons_spec h_2
 obtain ⟨rfl, h_4⟩ := asEnd_spec h_3
 obtain ⟨r0_, rs0, rfl, h_5⟩ := asCons_spec h_4
 obtain ⟨r1_, rs1, rfl, h_6⟩ := asCons_spec h_5
 obtain ⟨rfl, h_7⟩ := asEnd_spec h_6
 obtain ⟨rfl, h_8⟩ := asPtr_spec h_7
 obtain ⟨rfl, h_9⟩ := asPtr_spec h_8
 obtain ⟨d1, rfl, h_10⟩ := asImmZ_spec h_9
 obtain ⟨d2, rfl, h_11⟩ := asImmZ_spec h_10
 obtain ⟨m3, d4, rfl, h_12⟩ := asRt_spec h_11
 obtain ⟨z5, rfl, h_13⟩ := asMImm_spec h_12
 obtain ⟨m6, d7, rfl, h_14⟩ := asRt_spec h_13
 obtain ⟨z8, rfl, h_15⟩ := asMImm_spec h_14
 exact fin_mat (s_l08Deeds_ad92_eq z5 z8 d1 d2 d4 d7) h_15
end Go.Proofs.Ytddaclhjnkimfaa

namespace Go.Proofs.Ytddaclhjnkimfaa
open Go Go.Abs Go.Proofs
noncomputable def s_A2Deeds (p0 : (List Int)) (p1 : TGather) (p2 : Bool) : Tre (List TDeed) :=
 .mat (s_l08Deeds_ad92_F 30 p2 (p0, (0, (0, ()))) p1) fun r1 =>
 .ret r1.2
noncomputable def s_A2Deeds_F (p0 : (List Int)) (p1 : TGather) (p2 : Bool) : Option (List TDeed) := (s_A2Deeds p0 p1 p2).run some
noncomputable def s_A2Deeds_V : Env := ⟨tau, [(57, s_l00From_c), (58, s_l08Deeds_ad92_c)], []⟩
noncomputable def s_A2Deeds_b : Code := (Try.f25.body).getD .skip
noncomputable def s_A2Deeds_I : FnI := ⟨s_A2Deeds_b, Try.f25.results.toList, Try.f25.resultTypes.toList, []⟩
noncomputable def s_A2Deeds_out (_zp0 : Bool) (_zp1 : Bool) (_p0 : (List Int)) (_p1 : TGather) (_p2 : Bool) : (List TDeed) → CallOut := fun r => ⟨(.ref (1, 0) []), [], [⟨false, (.sl kDeed), .own, r⟩]⟩
set_option maxRecDepth 100000 in
theorem s_A2Deeds_eq : ∀ (zp0 : Bool) (zp1 : Bool) (p0 : (List Int)) (p1 : TGather) (p2 : Bool), denFn s_A2Deeds_V s_A2Deeds_I ⟨[(.imm zp0 (.sl (.int .u8)) p0), (.imm zp1 kGather p1), (.imm true .bool p2)], []⟩ = (s_A2Deeds p0 p1 p2).run fun r => some (s_A2Deeds_out zp0 zp1 p0 p1 p2 r) := fun _ _ _ _ _ => by kernel_rfl
noncomputable def s_A2Deeds_G (av : List AV) (rs : List Root) : Tre CallOut :=
 asCons av fun a0_ av0 =>
 asCons av0 fun a1_ av1 =>
 asCons av1 fun a2_ av2 =>
 asEnd av2 <|
 asEnd rs <|
 asImm (.sl (.int .u8)) a0_ fun z2 d1 =>
 asImm kGather a1_ fun z4 d3 =>
 asImmZ true .bool a2_ fun d5 =>
 .mat (s_A2Deeds_F d1 d3 d5) fun r => .ret (s_A2Deeds_out z2 z4 d1 d3 d5 r)
noncomputable def s_A2Deeds_c : Ctr := ⟨[], fun ci => s_A2Deeds_G ci.args ci.roots⟩
theorem s_A2Deeds_env : EnvOK Try.prog s_A2Deeds_V := (envOK_cons s_l00From_ok ent57 (envOK_cons s_l08Deeds_ad92_ok ent58 envOK_nil))
set_option maxRecDepth 100000 in
theorem s_A2Deeds_ok : Contract Try.prog 25 s_A2Deeds_c := by
 have hl : LoopsOK s_A2Deeds_V [] s_A2Deeds_b := loopsOK_nil (by kernel_rfl)
 refine (contract_of (F := s_A2Deeds_I) tau_tys s_A2Deeds_env Try.func25 (by kernel_rfl) (by kernel_rfl) (by kernel_rfl) hl []).weaken ?_
 rintro ⟨av, rs⟩ co h
 have h : (s_A2Deeds_G av rs).run some = some co := h
 obtain ⟨a0_, av0, rfl, h_0⟩ := asCons_spec h
 obtain ⟨a1_, av1, rfl, h_1⟩ := asCons_spec h_0
 obtain ⟨a2_, av2, rfl, h_2⟩ := asCons_spec h_1
 obtain ⟨rfl, h_3⟩ := asEnd_spec h_2
 obtain ⟨rfl, h_4⟩ := asEnd_spec h_3
 obtain ⟨z2, d1, rfl, h_5⟩ := asImm_spec h_4
 obtain ⟨z4, d3, rfl, h_6⟩ := asImm_spec h_5
 obtain ⟨d5, rfl, h_7⟩ := asImmZ_spec h_6
 exact fin_mat (s_A2Deeds_eq z2 z4 d1 d3 d5) h_7
end Go.Proofs.Ytddaclhjnkimfaa

namespace Go.Proofs.Ytddaclhjnkimfaa
open Go Go.Abs Go.Proofs
noncomputable def l_a2At (p0 : (List Int)) (p1 : Int) (p2 : Int) : Tre Int :=
 .cond (decide (p1 ≥ (p0.length : Int)))
  (.ret 0)
  (.cond (decide (p2 < 1))
   (.ret 0)
   (.ite (0 ≤ p1 ∧ p1 < (p0.length : Int)) <|
   .mat (p0[p1.toNat]?) fun x1 =>
   .ifn (p2 = 0) <|
   let v2 := Int.tmod (iwrap .i64 x1) p2
   .ret v2))
noncomputable def l_a2At_F (p0 : (List Int)) (p1 : Int) (p2 : Int) : Option Int := (l_a2At p0 p1 p2).run some
noncomputable def l_a2At_V : Env := ⟨tau, [], []⟩
noncomputable def l_a2At_b : Code := (Try.f34.body).getD .skip
noncomputable def l_a2At_I : FnI := ⟨l_a2At_b, Try.f34.results.toList, Try.f34.resultTypes.toList, []⟩
noncomputable def l_a2At_out (_zp0 : Bool) (_p0 : (List Int)) (_p1 : Int) (_p2 : Int) : Int → CallOut := fun r => ⟨(.imm true (.int .i64) r), [], []⟩
set_option maxRecDepth 100000 in
theorem l_a2At_eq : ∀ (zp0 : Bool) (p0 : (List Int)) (p1 : Int) (p2 : Int), denFn l_a2At_V l_a2At_I ⟨[(.imm zp0 (.sl (.int .u8)) p0), (.imm true (.int .i64) p1), (.imm true (.int .i64) p2)], []⟩ = (l_a2At p0 p1 p2).run fun r => some (l_a2At_out zp0 p0 p1 p2 r) := fun _ _ _ _ => by kernel_rfl
noncomputable def l_a2At_G (av : List AV) (rs : List Root) : Tre CallOut :=
 asCons av fun a0_ av0 =>
 asCons av0 fun a1_ av1 =>
 asCons av1 fun a2_ av2 =>
 asEnd av2 <|
 asEnd rs <|
 asImm (.sl (.int .u8)) a0_ fun z2 d1 =>
 asImmZ true (.int .i64) a1_ fun d3 =>
 asImmZ true (.int .i64) a2_ fun d4 =>
 .mat (l_a2At_F d1 d3 d4) fun r => .ret (l_a2At_out z2 d1 d3 d4 r)
noncomputable def l_a2At_c : Ctr := ⟨[], fun ci => l_a2At_G ci.args ci.roots⟩
theorem l_a2At_env : EnvOK Try.prog l_a2At_V := envOK_nil
set_option maxRecDepth 100000 in
theorem l_a2At_ok : Contract Try.prog 34 l_a2At_c := by
 have hl : LoopsOK l_a2At_V [] l_a2At_b := loopsOK_nil (by kernel_rfl)
 refine (contract_of (F := l_a2At_I) tau_tys l_a2At_env Try.func34 (by kernel_rfl) (by kernel_rfl) (by kernel_rfl) hl []).weaken ?_
 rintro ⟨av, rs⟩ co h
 have h : (l_a2At_G av rs).run some = some co := h
 obtain ⟨a0_, av0, rfl, h_0⟩ := asCons_spec h
 obtain ⟨a1_, av1, rfl, h_1⟩ := asCons_spec h_0
 obtain ⟨a2_, av2, rfl, h_2⟩ := asCons_spec h_1
 obtain ⟨rfl, h_3⟩ := asEnd_spec h_2
 obtain ⟨rfl, h_4⟩ := asEnd_spec h_3
 obtain ⟨z2, d1, rfl, h_5⟩ := asImm_spec h_4
 obtain ⟨d3, rfl, h_6⟩ := asImmZ_spec h_5
 obtain ⟨d4, rfl, h_7⟩ := asImmZ_spec h_6
 exact fin_mat (l_a2At_eq z2 d1 d3 d4) h_7
end Go.Proofs.Ytddaclhjnkimfaa

namespace Go.Proofs.Ytddaclhjnkimfaa
open Go Go.Abs Go.Proofs
noncomputable def i_within (p0 : Int) (p1 : Int) (p2 : Int) : Tre Bool :=
 .cond (decide (p0 ≥ p1))
  (.ret (decide (p0 ≤ p2)))
  (.ret false)
noncomputable def i_within_F (p0 : Int) (p1 : Int) (p2 : Int) : Option Bool := (i_within p0 p1 p2).run some
theorem i_within_spec (n a b : Int) : i_within_F n a b = some (inR n a b) := by
 unfold i_within_F i_within inR
 by_cases h : a ≤ n
 ·simp [Tre.run_cond, Tre.run_ret, h]
 ·simp [Tre.run_cond, Tre.run_ret, h]
noncomputable def i_within_V : Env := ⟨tau, [], []⟩
noncomputable def i_within_b : Code := (Try.f70.body).getD .skip
noncomputable def i_within_I : FnI := ⟨i_within_b, Try.f70.results.toList, Try.f70.resultTypes.toList, []⟩
noncomputable def i_within_out (_p0 : Int) (_p1 : Int) (_p2 : Int) : Bool → CallOut := fun r => ⟨(.imm true .bool r), [], []⟩
set_option maxRecDepth 100000 in
theorem i_within_eq : ∀ (p0 : Int) (p1 : Int) (p2 : Int), denFn i_within_V i_within_I ⟨[(.imm true (.int .i64) p0), (.imm true (.int .i64) p1), (.imm true (.int .i64) p2)], []⟩ = (i_within p0 p1 p2).run fun r => some (i_within_out p0 p1 p2 r) := fun _ _ _ => by kernel_rfl
noncomputable def i_within_G (av : List AV) (rs : List Root) : Tre CallOut :=
 asCons av fun a0_ av0 =>
 asCons av0 fun a1_ av1 =>
 asCons av1 fun a2_ av2 =>
 asEnd av2 <|
 asEnd rs <|
 asImmZ true (.int .i64) a0_ fun d1 =>
 asImmZ true (.int .i64) a1_ fun d2 =>
 asImmZ true (.int .i64) a2_ fun d3 =>
 .ret (i_within_out d1 d2 d3 (inR d1 d2 d3))
noncomputable def i_within_c : Ctr := ⟨[], fun ci => i_within_G ci.args ci.roots⟩
theorem i_within_env : EnvOK Try.prog i_within_V := envOK_nil
set_option maxRecDepth 100000 in
theorem i_within_ok : Contract Try.prog 70 i_within_c := by
 have hl : LoopsOK i_within_V [] i_within_b := loopsOK_nil (by kernel_rfl)
 refine (contract_of (F := i_within_I) tau_tys i_within_env Try.func70 (by kernel_rfl) (by kernel_rfl) (by kernel_rfl) hl []).weaken ?_
 rintro ⟨av, rs⟩ co h
 have h : (i_within_G av rs).run some = some co := h
 obtain ⟨a0_, av0, rfl, h_0⟩ := asCons_spec h
 obtain ⟨a1_, av1, rfl, h_1⟩ := asCons_spec h_0
 obtain ⟨a2_, av2, rfl, h_2⟩ := asCons_spec h_1
 obtain ⟨rfl, h_3⟩ := asEnd_spec h_2
 obtain ⟨rfl, h_4⟩ := asEnd_spec h_3
 obtain ⟨d1, rfl, h_5⟩ := asImmZ_spec h_4
 obtain ⟨d2, rfl, h_6⟩ := asImmZ_spec h_5
 obtain ⟨d3, rfl, h_7⟩ := asImmZ_spec h_6
 exact fin_ret (i_within_eq d1 d2 d3) (i_within_spec d1 d2 d3) h_7
end Go.Proofs.Ytddaclhjnkimfaa

namespace Go.Proofs.Ytddaclhjnkimfaa
open Go Go.Abs Go.Proofs
noncomputable def i_size_int64 (p0 : (List Int)) : Tre Int :=
 .ret (p0.length : Int)
noncomputable def i_size_int64_F (p0 : (List Int)) : Option Int := (i_size_int64 p0).run some
theorem i_size_int64_spec (p0 : (List Int)) : i_size_int64_F p0 = some (p0.length : Int) := rfl
noncomputable def i_size_int64_V : Env := ⟨tau, [], []⟩
noncomputable def i_size_int64_b : Code := (Try.f52.body).getD .skip
noncomputable def i_size_int64_I : FnI := ⟨i_size_int64_b, Try.f52.results.toList, Try.f52.resultTypes.toList, []⟩
noncomputable def i_size_int64_out (_zp0 : Bool) (_p0 : (List Int)) : Int → CallOut := fun r => ⟨(.imm true (.int .i64) r), [], []⟩
set_option maxRecDepth 100000 in
theorem i_size_int64_eq : ∀ (zp0 : Bool) (p0 : (List Int)), denFn i_size_int64_V i_size_int64_I ⟨[(.imm zp0 (.sl (.int .i64)) p0)], []⟩ = (i_size_int64 p0).run fun r => some (i_size_int64_out zp0 p0 r) := fun _ _ => by kernel_rfl
noncomputable def i_size_int64_G (av : List AV) (rs : List Root) : Tre CallOut :=
 asCons av fun a0_ av0 =>
 asEnd av0 <|
 asEnd rs <|
 asImm (.sl (.int .i64)) a0_ fun z2 d1 =>
 .ret (i_size_int64_out z2 d1 (d1.length : Int))
noncomputable def i_size_int64_c : Ctr := ⟨[], fun ci => i_size_int64_G ci.args ci.roots⟩
theorem i_size_int64_env : EnvOK Try.prog i_size_int64_V := envOK_nil
set_option maxRecDepth 100000 in
theorem i_size_int64_ok : Contract Try.prog 52 i_size_int64_c := by
 have hl : LoopsOK i_size_int64_V [] i_size_int64_b := loopsOK_nil (by kernel_rfl)
 refine (contract_of (F := i_size_int64_I) tau_tys i_size_int64_env Try.func52 (by kernel_rfl) (by kernel_rfl) (by kernel_rfl) hl []).weaken ?_
 rintro ⟨av, rs⟩ co h
 have h : (i_size_int64_G av rs).run some = some co := h
 obtain ⟨a0_, av0, rfl, h_0⟩ := asCons_spec h
 obtain ⟨rfl, h_1⟩ := asEnd_spec h_0
 obtain ⟨rfl, h_2⟩ := asEnd_spec h_1
 obtain ⟨z2, d1, rfl, h_3⟩ := asImm_spec h_2
 exact fin_ret (i_size_int64_eq z2 d1) (i_size_int64_spec d1) h_3
end Go.Proofs.Ytddaclhjnkimfaa

namespace Go.Proofs.Ytddaclhjnkimfaa
open Go Go.Abs Go.Proofs
noncomputable def i_Gather_isDatac1_9af1 (p0 : Int) (p1 : TGather) : Tre Bool :=
 .ite (0 ≤ p1.2.1) <|
 let v1 := iwrap .i64 ((ishl .i64 1 p1.2.1) - 1)
 .ret (!(inR p0 0 v1))
noncomputable def i_Gather_isDatac1_9af1_F (p0 : Int) (p1 : TGather) : Option Bool := (i_Gather_isDatac1_9af1 p0 p1).run some
def noD (x : Int) (p : Int × Int × List Int × Int × Int × Unit) : Option Bool := askO (decide (0 ≤ p.2.1)) (!inP p.2.1 x)
theorem i_Gather_isDatac1_9af1_spec (p0 : Int) (p1 : Int × Int × List Int × Int × Int × Unit) (y : Bool) (h : noD p0 p1 = some y) : i_Gather_isDatac1_9af1_F p0 p1 = some y := by
 obtain ⟨hl, rfl⟩ := askO_some h
 unfold i_Gather_isDatac1_9af1_F i_Gather_isDatac1_9af1
 rw [Tre.run_ite, if_pos (of_decide_eq_true hl)]
 rfl
noncomputable def i_Gather_isDatac1_9af1_V : Env := ⟨tau, [(70, i_within_c)], []⟩
noncomputable def i_Gather_isDatac1_9af1_b : Code := (Try.f99.body).getD .skip
noncomputable def i_Gather_isDatac1_9af1_I : FnI := ⟨i_Gather_isDatac1_9af1_b, Try.f99.results.toList, Try.f99.resultTypes.toList, []⟩
noncomputable def i_Gather_isDatac1_9af1_out (zp0 : Bool) (_p0 : Int) (p1 : TGather) : Bool → CallOut := fun r => ⟨(.imm true .bool r), [⟨true, kGather, (.imm zp0), p1⟩], []⟩
set_option maxRecDepth 100000 in
theorem i_Gather_isDatac1_9af1_eq : ∀ (zp0 : Bool) (p0 : Int) (p1 : TGather), denFn i_Gather_isDatac1_9af1_V i_Gather_isDatac1_9af1_I ⟨[(.imm true (.int .i64) p0), (.ptr (0, 0) [])], [⟨true, kGather, (.imm zp0), p1⟩]⟩ = (i_Gather_isDatac1_9af1 p0 p1).run fun r => some (i_Gather_isDatac1_9af1_out zp0 p0 p1 r) := fun _ _ _ => by kernel_rfl
noncomputable def i_Gather_isDatac1_9af1_G (av : List AV) (rs : List Root) : Tre CallOut :=
 asCons av fun a0_ av0 =>
 asCons av0 fun a1_ av1 =>
 asEnd av1 <|
 asCons rs fun r0_ rs0 =>
 asEnd rs0 <|
 asImmZ true (.int .i64) a0_ fun d1 =>
 asPtr (0, 0) [] a1_ <|
 asRt true kGather r0_ fun m2 d3 =>
 asMImm m2 fun z4 =>
 .mat (noD d1 d3) fun r => .ret (i_Gather_isDatac1_9af1_out z4 d1 d3 r)
noncomputable def i_Gather_isDatac1_9af1_c : Ctr := ⟨[], fun ci => i_Gather_isDatac1_9af1_G ci.args ci.roots⟩
theorem i_Gather_isDatac1_9af1_env : EnvOK Try.prog i_Gather_isDatac1_9af1_V := (envOK_cons i_within_ok ent70 envOK_nil)
set_option maxRecDepth 100000 in
theorem i_Gather_isDatac1_9af1_ok : Contract Try.prog 99 i_Gather_isDatac1_9af1_c := by
 have hl : LoopsOK i_Gather_isDatac1_9af1_V [] i_Gather_isDatac1_9af1_b := loopsOK_nil (by kernel_rfl)
 refine (contract_of (F := i_Gather_isDatac1_9af1_I) tau_tys i_Gather_isDatac1_9af1_env Try.func99 (by kernel_rfl) (by kernel_rfl) (by kernel_rfl) hl []).weaken ?_
 rintro ⟨av, rs⟩ co h
 have h : (i_Gather_isDatac1_9af1_G av rs).run some = some co := h
 obtain ⟨a0_, av0, rfl, h_0⟩ := asCons_spec h
 obtain ⟨a1_, av1, rfl, h_1⟩ := asCons_spec h_0
 obtain ⟨rfl, h_2⟩ := asEnd_spec h_1
 obtain ⟨r0_, rs0, rfl, h_3⟩ := asCons_spec h_2
 obtain ⟨rfl, h_4⟩ := asEnd_spec h_3
 obtain ⟨d1, rfl, h_5⟩ := asImmZ_spec h_4
 obtain ⟨rfl, h_6⟩ := asPtr_spec h_5
 obtain ⟨m2, d3, rfl, h_7⟩ := asRt_spec h_6
 obtain ⟨z4, rfl, h_8⟩ := asMImm_spec h_7
 exact fin_opt (i_Gather_isDatac1_9af1_eq z4 d1 d3) (i_Gather_isDatac1_9af1_spec d1 d3) h_8
end Go.Proofs.Ytddaclhjnkimfaa

namespace Go.Proofs.Ytddaclhjnkimfaa
open Go Go.Abs Go.Proofs
noncomputable def slices_IndexFunc_int64_i_Gather_isDatac1_l2 (h2_0_0 : (List Int)) (h2_0_1 : Int) (h2_0_3 : TGather) : Int → Tre (Int ⊕ (Int ⊕ Unit)) := fun s2 =>
 .cond (decide (s2 < h2_0_1))
  (.ite (0 ≤ s2 ∧ s2 < (h2_0_0.length : Int)) <|
  .mat (h2_0_0[s2.toNat]?) fun x1 =>
  .mat (noD x1 h2_0_3) fun r2 =>
  .cond r2
   (.ret (.inr (.inl s2)))
   (.ret (.inl (iwrap .i64 (s2 + 1)))))
  (.ret (.inr (.inr ())))
noncomputable def slices_IndexFunc_int64_i_Gather_isDatac1 (p0 : (List Int)) (p1 : TGather) : Tre Int :=
 .mat (loopF (slices_IndexFunc_int64_i_Gather_isDatac1_l2 p0 (p0.length : Int) p1) 0) fun l3 =>
 .alt l3
  (fun a4 =>
   .ret a4)
  (fun _ =>
   .ret (-1))
noncomputable def slices_IndexFunc_int64_i_Gather_isDatac1_F (p0 : (List Int)) (p1 : TGather) : Option Int := (slices_IndexFunc_int64_i_Gather_isDatac1 p0 p1).run some
def idxD (xs : List Int) (p : Int × Int × List Int × Int × Int × Unit) : Option Int := askO (decide (0 ≤ p.2.1) && decide (xs.length ≤ 1048576)) (idxI (fun x => !inP p.2.1 x) 0 xs)
theorem slices_IndexFunc_int64_i_Gather_isDatac1_spec (p0 : List Int) (p1 : Int × Int × List Int × Int × Int × Unit) (y : Int) (h : idxD p0 p1 = some y) : slices_IndexFunc_int64_i_Gather_isDatac1_F p0 p1 = some y := by
 obtain ⟨hl, rfl⟩ := askO_some h
 rw [Bool.and_eq_true] at hl
 obtain ⟨hm, hl⟩ := hl
 have hl := of_decide_eq_true hl
 unfold slices_IndexFunc_int64_i_Gather_isDatac1_F slices_IndexFunc_int64_i_Gather_isDatac1
 rw [Tre.run_mat, find_loop (xs := p0) (fun i x => cond (!inP p1.2.1 x) (some (.inl (i : Int))) none) (.inr ())]
 ·rw [Option.bind_some, ← findE_idx (p := fun x => !inP p1.2.1 x)]
  generalize findE _ _ _ _ = r
  cases r <;> rfl
 ·intro i x hx
  have hi : i < p0.length := (List.getElem?_eq_some_iff.1 hx).1
  unfold slices_IndexFunc_int64_i_Gather_isDatac1_l2
  rw [run_inb hx, run_some_mat (show noD x p1 = some _ from askO_true hm), Tre.run_cond]
  cases inP p1.2.1 x
  ·rfl
  ·simp only [Bool.not_true, cond_false, Tre.run_ret, iwrap_succ (show i < 4611686018427387904 by omega)]
 ·unfold slices_IndexFunc_int64_i_Gather_isDatac1_l2
  exact run_out
noncomputable def slices_IndexFunc_int64_i_Gather_isDatac1_V : Env := ⟨tau, [(99, i_Gather_isDatac1_9af1_c)], []⟩
noncomputable def slices_IndexFunc_int64_i_Gather_isDatac1_b : Code := (Try.f98.body).getD .skip
noncomputable def slices_IndexFunc_int64_i_Gather_isDatac1_l2_mk (z2_0 : Bool) (z2_1 : Bool) (h2_0_0 : (List Int)) (h2_0_1 : Int) (h2_0_3 : TGather) : Int → St := fun x => stOf [(0, (.imm z2_0 (.sl (.int .i64)) h2_0_0)), (1, (.fn 99 [(0, 0)])), (7, (.imm true (.int .i64) h2_0_1)), (8, (.imm true (.int .i64) x))] [((0, 0), some ⟨true, kGather, (.imm z2_1), h2_0_3⟩)]
noncomputable def slices_IndexFunc_int64_i_Gather_isDatac1_l2_out (_z2_0 : Bool) (z2_1 : Bool) (_h2_0_0 : (List Int)) (_h2_0_1 : Int) (h2_0_3 : TGather) : (Int ⊕ Unit) → Ex × St
 | .inl x => (.ret, stOf [(4, (.imm true (.int .i64) x))] [((0, 0), some ⟨true, kGather, (.imm z2_1), h2_0_3⟩)])
 | .inr x => (.exit 0, stOf [(4, .dead)] [((0, 0), some ⟨true, kGather, (.imm z2_1), h2_0_3⟩)])
noncomputable def slices_IndexFunc_int64_i_Gather_isDatac1_l2_D (s : St) : Tre (Ex × St) :=
 asImm (.sl (.int .i64)) (s.tmps 0) fun z3 d2 =>
 asFn 99 [(0, 0)] (s.tmps 1) <|
 asImmZ true (.int .i64) (s.tmps 7) fun d6 =>
 asImmZ true (.int .i64) (s.tmps 8) fun d8 =>
 asRoot true kGather (s.roots (0, 0)) fun m10 d11 =>
 asMImm m10 fun z12 =>
 .mat (loopF (slices_IndexFunc_int64_i_Gather_isDatac1_l2 d2 d6 d11) d8) fun x => .alt x (fun a0 => .ret (slices_IndexFunc_int64_i_Gather_isDatac1_l2_out z3 z12 d2 d6 d11 (.inl a0))) (fun b0 => .ret (slices_IndexFunc_int64_i_Gather_isDatac1_l2_out z3 z12 d2 d6 d11 (.inr b0)))
noncomputable def slices_IndexFunc_int64_i_Gather_isDatac1_l2_L : LoopI := ⟨([0, 1, 7, 8], [(0, 0)]), ([4], [(0, 0)]), slices_IndexFunc_int64_i_Gather_isDatac1_l2_D⟩
noncomputable def slices_IndexFunc_int64_i_Gather_isDatac1_A : List (Nat × LoopI) := [(2, slices_IndexFunc_int64_i_Gather_isDatac1_l2_L)]
set_option maxRecDepth 100000 in
theorem slices_IndexFunc_int64_i_Gather_isDatac1_l2_step : ∀ (z2_0 : Bool) (z2_1 : Bool) (h2_0_0 : (List Int)) (h2_0_1 : Int) (h2_0_3 : TGather) (x : Int) (c : St → Option (Ex × St)), den slices_IndexFunc_int64_i_Gather_isDatac1_V slices_IndexFunc_int64_i_Gather_isDatac1_A (loopAt slices_IndexFunc_int64_i_Gather_isDatac1_b 0) (slices_IndexFunc_int64_i_Gather_isDatac1_l2_mk z2_0 z2_1 h2_0_0 h2_0_1 h2_0_3 x) (roundK slices_IndexFunc_int64_i_Gather_isDatac1_l2_L.kp slices_IndexFunc_int64_i_Gather_isDatac1_l2_L.kx c) = (slices_IndexFunc_int64_i_Gather_isDatac1_l2 h2_0_0 h2_0_1 h2_0_3 x).run (roundR (slices_IndexFunc_int64_i_Gather_isDatac1_l2_mk z2_0 z2_1 h2_0_0 h2_0_1 h2_0_3) (slices_IndexFunc_int64_i_Gather_isDatac1_l2_out z2_0 z2_1 h2_0_0 h2_0_1 h2_0_3) c) := fun _ _ _ _ _ _ _ => by
 kernel_rfl
theorem slices_IndexFunc_int64_i_Gather_isDatac1_l2_ok : LoopOK slices_IndexFunc_int64_i_Gather_isDatac1_V slices_IndexFunc_int64_i_Gather_isDatac1_A (loopAt slices_IndexFunc_int64_i_Gather_isDatac1_b 0) slices_IndexFunc_int64_i_Gather_isDatac1_l2_L := loopOK_of fun s e s' h => by
 generalize hs : restrict slices_IndexFunc_int64_i_Gather_isDatac1_l2_L.kp s = s1 at h
 have h : (slices_IndexFunc_int64_i_Gather_isDatac1_l2_D s1).run some = some (e, s') := h
 obtain ⟨z3, d2, e1, h_0⟩ := asImm_spec h
 obtain ⟨e4, h_1⟩ := asFn_spec h_0
 obtain ⟨d6, e5, h_2⟩ := asImmZ_spec h_1
 obtain ⟨d8, e7, h_3⟩ := asImmZ_spec h_2
 obtain ⟨m10, d11, e9, h_4⟩ := asRoot_spec h_3
 obtain ⟨z12, rfl, h_5⟩ := asMImm_spec h_4
 obtain ⟨y, hy, hz⟩ := mat_some h_5
 refine ⟨_, _, slices_IndexFunc_int64_i_Gather_isDatac1_l2_mk z3 z12 d2 d6 d11, slices_IndexFunc_int64_i_Gather_isDatac1_l2_out z3 z12 d2 d6 d11, slices_IndexFunc_int64_i_Gather_isDatac1_l2 d2 d6 d11, d8, y, ?_, hy, ?_, slices_IndexFunc_int64_i_Gather_isDatac1_l2_step z3 z12 d2 d6 d11⟩
 ·subst hs; exact restrict_eq (T := [(0, (.imm z3 (.sl (.int .i64)) d2)), (1, (.fn 99 [(0, 0)])), (7, (.imm true (.int .i64) d6)), (8, (.imm true (.int .i64) d8))]) (U := [((0, 0), some ⟨true, kGather, (.imm z12), d11⟩)]) rfl rfl ⟨e1, e4, e5, e7, trivial⟩ ⟨e9, trivial⟩
 ·rcases y with x | x <;> exact Option.some.inj hz
noncomputable def slices_IndexFunc_int64_i_Gather_isDatac1_I : FnI := ⟨slices_IndexFunc_int64_i_Gather_isDatac1_b, Try.f98.results.toList, Try.f98.resultTypes.toList, slices_IndexFunc_int64_i_Gather_isDatac1_A⟩
noncomputable def slices_IndexFunc_int64_i_Gather_isDatac1_out (_zp0 : Bool) (zp1 : Bool) (_p0 : (List Int)) (p1 : TGather) : Int → CallOut := fun r => ⟨(.imm true (.int .i64) r), [⟨true, kGather, (.imm zp1), p1⟩], []⟩
set_option maxRecDepth 100000 in
theorem slices_IndexFunc_int64_i_Gather_isDatac1_eq : ∀ (zp0 : Bool) (zp1 : Bool) (p0 : (List Int)) (p1 : TGather), denFn slices_IndexFunc_int64_i_Gather_isDatac1_V slices_IndexFunc_int64_i_Gather_isDatac1_I ⟨[(.imm zp0 (.sl (.int .i64)) p0), (.fn 99 [(0, 0)])], [⟨true, kGather, (.imm zp1), p1⟩]⟩ = (slices_IndexFunc_int64_i_Gather_isDatac1 p0 p1).run fun r => some (slices_IndexFunc_int64_i_Gather_isDatac1_out zp0 zp1 p0 p1 r) := fun _ _ _ _ => by kernel_rfl
noncomputable def slices_IndexFunc_int64_i_Gather_isDatac1_G (av : List AV) (rs : List Root) : Tre CallOut :=
 asCons av fun a0_ av0 =>
 asCons av0 fun a1_ av1 =>
 asEnd av1 <|
 asCons rs fun r0_ rs0 =>
 asEnd rs0 <|
 asImm (.sl (.int .i64)) a0_ fun z2 d1 =>
 asFn 99 [(0, 0)] a1_ <|
 asRt true kGather r0_ fun m3 d4 =>
 asMImm m3 fun z5 =>
 .mat (idxD d1 d4) fun r => .ret (slices_IndexFunc_int64_i_Gather_isDatac1_out z2 z5 d1 d4 r)
noncomputable def slices_IndexFunc_int64_i_Gather_isDatac1_c : Ctr := ⟨[], fun ci => slices_IndexFunc_int64_i_Gather_isDatac1_G ci.args ci.roots⟩
theorem slices_IndexFunc_int64_i_Gather_isDatac1_env : EnvOK Try.prog slices_IndexFunc_int64_i_Gather_isDatac1_V := (envOK_cons i_Gather_isDatac1_9af1_ok ent99 envOK_nil)
set_option maxRecDepth 100000 in
theorem slices_IndexFunc_int64_i_Gather_isDatac1_ok : Contract Try.prog 98 slices_IndexFunc_int64_i_Gather_isDatac1_c := by
 have hl : LoopsOK slices_IndexFunc_int64_i_Gather_isDatac1_V slices_IndexFunc_int64_i_Gather_isDatac1_A slices_IndexFunc_int64_i_Gather_isDatac1_b := (loopsOK_all (n := 1) (by kernel_rfl) fun k hk => by
   match k, hk with
   | 0, _ => exact loopOK_at (id := 2) (L := slices_IndexFunc_int64_i_Gather_isDatac1_l2_L) (by kernel_rfl) (by kernel_rfl) slices_IndexFunc_int64_i_Gather_isDatac1_l2_ok)
 refine (contract_of (F := slices_IndexFunc_int64_i_Gather_isDatac1_I) tau_tys slices_IndexFunc_int64_i_Gather_isDatac1_env Try.func98 (by kernel_rfl) (by kernel_rfl) (by kernel_rfl) hl []).weaken ?_
 rintro ⟨av, rs⟩ co h
 have h : (slices_IndexFunc_int64_i_Gather_isDatac1_G av rs).run some = some co := h
 obtain ⟨a0_, av0, rfl, h_0⟩ := asCons_spec h
 obtain ⟨a1_, av1, rfl, h_1⟩ := asCons_spec h_0
 obtain ⟨rfl, h_2⟩ := asEnd_spec h_1
 obtain ⟨r0_, rs0, rfl, h_3⟩ := asCons_spec h_2
 obtain ⟨rfl, h_4⟩ := asEnd_spec h_3
 obtain ⟨z2, d1, rfl, h_5⟩ := asImm_spec h_4
 obtain ⟨rfl, h_6⟩ := asFn_spec h_5
 obtain ⟨m3, d4, rfl, h_7⟩ := asRt_spec h_6
 obtain ⟨z5, rfl, h_8⟩ := asMImm_spec h_7
 exact fin_opt (slices_IndexFunc_int64_i_Gather_isDatac1_eq z2 z5 d1 d4) (slices_IndexFunc_int64_i_Gather_isDatac1_spec d1 d4) h_8
end Go.Proofs.Ytddaclhjnkimfaa

namespace Go.Proofs.Ytddaclhjnkimfaa
open Go Go.Abs Go.Proofs
noncomputable def slices_ContainsFunc_int64_i_Gather_isDatac1 (p0 : (List Int)) (p1 : TGather) : Tre Bool :=
 .mat (idxD p0 p1) fun r1 =>
 .ret (decide (r1 ≥ 0))
noncomputable def slices_ContainsFunc_int64_i_Gather_isDatac1_F (p0 : (List Int)) (p1 : TGather) : Option Bool := (slices_ContainsFunc_int64_i_Gather_isDatac1 p0 p1).run some
def hasD (xs : List Int) (p : Int × Int × List Int × Int × Int × Unit) : Option Bool := askO (decide (0 ≤ p.2.1) && decide (xs.length ≤ 1048576)) (xs.any fun x => !inP p.2.1 x)
theorem slices_ContainsFunc_int64_i_Gather_isDatac1_spec (p0 : List Int) (p1 : Int × Int × List Int × Int × Int × Unit) (y : Bool) (h : hasD p0 p1 = some y) : slices_ContainsFunc_int64_i_Gather_isDatac1_F p0 p1 = some y := by
 obtain ⟨hl, rfl⟩ := askO_some h
 unfold slices_ContainsFunc_int64_i_Gather_isDatac1_F slices_ContainsFunc_int64_i_Gather_isDatac1
 rw [run_some_mat (show idxD p0 p1 = some _ from askO_true hl), Tre.run_ret, idxI_any]
noncomputable def slices_ContainsFunc_int64_i_Gather_isDatac1_V : Env := ⟨tau, [(98, slices_IndexFunc_int64_i_Gather_isDatac1_c)], []⟩
noncomputable def slices_ContainsFunc_int64_i_Gather_isDatac1_b : Code := (Try.f68.body).getD .skip
noncomputable def slices_ContainsFunc_int64_i_Gather_isDatac1_I : FnI := ⟨slices_ContainsFunc_int64_i_Gather_isDatac1_b, Try.f68.results.toList, Try.f68.resultTypes.toList, []⟩
noncomputable def slices_ContainsFunc_int64_i_Gather_isDatac1_out (_zp0 : Bool) (zp1 : Bool) (_p0 : (List Int)) (p1 : TGather) : Bool → CallOut := fun r => ⟨(.imm true .bool r), [⟨true, kGather, (.imm zp1), p1⟩], []⟩
set_option maxRecDepth 100000 in
theorem slices_ContainsFunc_int64_i_Gather_isDatac1_eq : ∀ (zp0 : Bool) (zp1 : Bool) (p0 : (List Int)) (p1 : TGather), denFn slices_ContainsFunc_int64_i_Gather_isDatac1_V slices_ContainsFunc_int64_i_Gather_isDatac1_I ⟨[(.imm zp0 (.sl (.int .i64)) p0), (.fn 99 [(0, 0)])], [⟨true, kGather, (.imm zp1), p1⟩]⟩ = (slices_ContainsFunc_int64_i_Gather_isDatac1 p0 p1).run fun r => some (slices_ContainsFunc_int64_i_Gather_isDatac1_out zp0 zp1 p0 p1 r) := fun _ _ _ _ => by kernel_rfl
noncomputable def slices_ContainsFunc_int64_i_Gather_isDatac1_G (av : List AV) (rs : List Root) : Tre CallOut :=
 asCons av fun a0_ av0 =>
 asCons av0 fun a1_ av1 =>
 asEnd av1 <|
 asCons rs fun r0_ rs0 =>
 asEnd rs0 <|
 asImm (.sl (.int .i64)) a0_ fun z2 d1 =>
 asFn 99 [(0, 0)] a1_ <|
 asRt true kGather r0_ fun m3 d4 =>
 asMImm m3 fun z5 =>
 .mat (hasD d1 d4) fun r => .ret (slices_ContainsFunc_int64_i_Gather_isDatac1_out z2 z5 d1 d4 r)
noncomputable def slices_ContainsFunc_int64_i_Gather_isDatac1_c : Ctr := ⟨[], fun ci => slices_ContainsFunc_int64_i_Gather_isDatac1_G ci.args ci.roots⟩
theorem slices_ContainsFunc_int64_i_Gather_isDatac1_env : EnvOK Try.prog slices_ContainsFunc_int64_i_Gather_isDatac1_V := (envOK_cons slices_IndexFunc_int64_i_Gather_isDatac1_ok ent98 envOK_nil)
set_option maxRecDepth 100000 in
theorem slices_ContainsFunc_int64_i_Gather_isDatac1_ok : Contract Try.prog 68 slices_ContainsFunc_int64_i_Gather_isDatac1_c := by
 have hl : LoopsOK slices_ContainsFunc_int64_i_Gather_isDatac1_V [] slices_ContainsFunc_int64_i_Gather_isDatac1_b := loopsOK_nil (by kernel_rfl)
 refine (contract_of (F := slices_ContainsFunc_int64_i_Gather_isDatac1_I) tau_tys slices_ContainsFunc_int64_i_Gather_isDatac1_env Try.func68 (by kernel_rfl) (by kernel_rfl) (by kernel_rfl) hl []).weaken ?_
 rintro ⟨av, rs⟩ co h
 have h : (slices_ContainsFunc_int64_i_Gather_isDatac1_G av rs).run some = some co := h
 obtain ⟨a0_, av0, rfl, h_0⟩ := asCons_spec h
 obtain ⟨a1_, av1, rfl, h_1⟩ := asCons_spec h_0
 obtain ⟨rfl, h_2⟩ := asEnd_spec h_1
 obtain ⟨r0_, rs0, rfl, h_3⟩ := asCons_spec h_2
 obtain ⟨rfl, h_4⟩ := asEnd_spec h_3
 obtain ⟨z2, d1, rfl, h_5⟩ := asImm_spec h_4
 obtain ⟨rfl, h_6⟩ := asFn_spec h_5
 obtain ⟨m3, d4, rfl, h_7⟩ := asRt_spec h_6
 obtain ⟨z5, rfl, h_8⟩ := asMImm_spec h_7
 exact fin_opt (slices_ContainsFunc_int64_i_Gather_isDatac1_eq z2 z5 d1 d4) (slices_ContainsFunc_int64_i_Gather_isDatac1_spec d1 d4) h_8
end Go.Proofs.Ytddaclhjnkimfaa

namespace Go.Proofs.Ytddaclhjnkimfaa
open Go Go.Abs Go.Proofs
noncomputable def i_Gather_isData (p0 : TGather) (p1 : (List Int)) : Tre Bool :=
 .cond (decide ((p1.length : Int) = p0.1))
  (.mat (hasD p1 p0) fun r1 =>
  .ret (!r1))
  (.ret false)
noncomputable def i_Gather_isData_F (p0 : TGather) (p1 : (List Int)) : Option Bool := (i_Gather_isData p0 p1).run some
def isDat (p : Int × Int × List Int × Int × Int × Unit) (xs : List Int) : Option Bool := askO (decide (0 ≤ p.2.1) && decide (xs.length ≤ 1048576)) (decide ((xs.length : Int) = p.1) && xs.all (inP p.2.1))
theorem i_Gather_isData_spec (p0 : Int × Int × List Int × Int × Int × Unit) (p1 : List Int) (y : Bool) (h : isDat p0 p1 = some y) : i_Gather_isData_F p0 p1 = some y := by
 obtain ⟨hl, rfl⟩ := askO_some h
 unfold i_Gather_isData_F i_Gather_isData
 rw [Tre.run_cond, run_some_mat (show hasD p1 p0 = some _ from askO_true hl), Tre.run_ret, Tre.run_ret]
 cases decide ((p1.length : Int) = p0.1)
 ·rfl
 ·simp [List.not_any_eq_all_not]
noncomputable def i_Gather_isData_V : Env := ⟨tau, [(52, i_size_int64_c), (68, slices_ContainsFunc_int64_i_Gather_isDatac1_c)], []⟩
noncomputable def i_Gather_isData_b : Code := (Try.f71.body).getD .skip
noncomputable def i_Gather_isData_I : FnI := ⟨i_Gather_isData_b, Try.f71.results.toList, Try.f71.resultTypes.toList, []⟩
noncomputable def i_Gather_isData_out (_zp0 : Bool) (_zp1 : Bool) (_p0 : TGather) (_p1 : (List Int)) : Bool → CallOut := fun r => ⟨(.imm true .bool r), [], []⟩
set_option maxRecDepth 100000 in
theorem i_Gather_isData_eq : ∀ (zp0 : Bool) (zp1 : Bool) (p0 : TGather) (p1 : (List Int)), denFn i_Gather_isData_V i_Gather_isData_I ⟨[(.imm zp0 kGather p0), (.imm zp1 (.sl (.int .i64)) p1)], []⟩ = (i_Gather_isData p0 p1).run fun r => some (i_Gather_isData_out zp0 zp1 p0 p1 r) := fun _ _ _ _ => by kernel_rfl
noncomputable def i_Gather_isData_G (av : List AV) (rs : List Root) : Tre CallOut :=
 asCons av fun a0_ av0 =>
 asCons av0 fun a1_ av1 =>
 asEnd av1 <|
 asEnd rs <|
 asImm kGather a0_ fun z2 d1 =>
 asImm (.sl (.int .i64)) a1_ fun z4 d3 =>
 .mat (isDat d1 d3) fun r => .ret (i_Gather_isData_out z2 z4 d1 d3 r)
noncomputable def i_Gather_isData_c : Ctr := ⟨[], fun ci => i_Gather_isData_G ci.args ci.roots⟩
theorem i_Gather_isData_env : EnvOK Try.prog i_Gather_isData_V := (envOK_cons i_size_int64_ok ent52 (envOK_cons slices_ContainsFunc_int64_i_Gather_isDatac1_ok ent68 envOK_nil))
set_option maxRecDepth 100000 in
theorem i_Gather_isData_ok : Contract Try.prog 71 i_Gather_isData_c := by
 have hl : LoopsOK i_Gather_isData_V [] i_Gather_isData_b := loopsOK_nil (by kernel_rfl)
 refine (contract_of (F := i_Gather_isData_I) tau_tys i_Gather_isData_env Try.func71 (by kernel_rfl) (by kernel_rfl) (by kernel_rfl) hl []).weaken ?_
 rintro ⟨av, rs⟩ co h
 have h : (i_Gather_isData_G av rs).run some = some co := h
 obtain ⟨a0_, av0, rfl, h_0⟩ := asCons_spec h
 obtain ⟨a1_, av1, rfl, h_1⟩ := asCons_spec h_0
 obtain ⟨rfl, h_2⟩ := asEnd_spec h_1
 obtain ⟨rfl, h_3⟩ := asEnd_spec h_2
 obtain ⟨z2, d1, rfl, h_4⟩ := asImm_spec h_3
 obtain ⟨z4, d3, rfl, h_5⟩ := asImm_spec h_4
 exact fin_opt (i_Gather_isData_eq z2 z4 d1 d3) (i_Gather_isData_spec d1 d3) h_5
end Go.Proofs.Ytddaclhjnkimfaa

namespace Go.Proofs.Ytddaclhjnkimfaa
open Go Go.Abs Go.Proofs
noncomputable def i_ValidGather (p0 : TGather) : Tre Bool :=
 .cond (inR p0.1 1 4)
  (.cond (inR p0.2.1 1 6)
   (.mat (isDat p0 p0.2.2.1) fun r1 =>
   .cond r1
    (.cond (inR p0.2.2.2.1 0 3)
     (.ret (inR p0.2.2.2.2.1 1 3))
     (.ret false))
    (.ret false))
   (.ret false))
  (.ret false)
noncomputable def i_ValidGather_F (p0 : TGather) : Option Bool := (i_ValidGather p0).run some
theorem i_ValidGather_spec (p0 : Int × Int × List Int × Int × Int × Unit) (y : Bool) (h : okG p0 = some y) : i_ValidGather_F p0 = some y := by
 obtain ⟨hl, rfl⟩ := lim_some h
 unfold i_ValidGather_F i_ValidGather isG
 simp only [Tre.run_cond, Tre.run_ret]
 cases h1 : inR p0.1 1 4
 ·rfl
 cases h2 : inR p0.2.1 1 6
 ·rfl
 rw [inR_iff] at h2
 rw [run_some_mat (show isDat p0 p0.2.2.1 = some _ from askO_true (by simp; omega))]
 simp only [cond_true, Bool.true_and, Tre.run_cond, Tre.run_ret]
 cases decide ((p0.2.2.1.length : Int) = p0.1)
 ·rfl
 cases p0.2.2.1.all (inP p0.2.1)
 ·rfl
 cases inR p0.2.2.2.1 0 3 <;> rfl
noncomputable def i_ValidGather_V : Env := ⟨tau, [(70, i_within_c), (71, i_Gather_isData_c)], []⟩
noncomputable def i_ValidGather_b : Code := (Try.f60.body).getD .skip
noncomputable def i_ValidGather_I : FnI := ⟨i_ValidGather_b, Try.f60.results.toList, Try.f60.resultTypes.toList, []⟩
noncomputable def i_ValidGather_out (_zp0 : Bool) (_p0 : TGather) : Bool → CallOut := fun r => ⟨(.imm true .bool r), [], []⟩
set_option maxRecDepth 100000 in
theorem i_ValidGather_eq : ∀ (zp0 : Bool) (p0 : TGather), denFn i_ValidGather_V i_ValidGather_I ⟨[(.imm zp0 kGather p0)], []⟩ = (i_ValidGather p0).run fun r => some (i_ValidGather_out zp0 p0 r) := fun _ _ => by kernel_rfl
noncomputable def i_ValidGather_G (av : List AV) (rs : List Root) : Tre CallOut :=
 asCons av fun a0_ av0 =>
 asEnd av0 <|
 asEnd rs <|
 asImm kGather a0_ fun z2 d1 =>
 .mat (okG d1) fun r => .ret (i_ValidGather_out z2 d1 r)
noncomputable def i_ValidGather_c : Ctr := ⟨[], fun ci => i_ValidGather_G ci.args ci.roots⟩
theorem i_ValidGather_env : EnvOK Try.prog i_ValidGather_V := (envOK_cons i_within_ok ent70 (envOK_cons i_Gather_isData_ok ent71 envOK_nil))
set_option maxRecDepth 100000 in
theorem i_ValidGather_ok : Contract Try.prog 60 i_ValidGather_c := by
 have hl : LoopsOK i_ValidGather_V [] i_ValidGather_b := loopsOK_nil (by kernel_rfl)
 refine (contract_of (F := i_ValidGather_I) tau_tys i_ValidGather_env Try.func60 (by kernel_rfl) (by kernel_rfl) (by kernel_rfl) hl []).weaken ?_
 rintro ⟨av, rs⟩ co h
 have h : (i_ValidGather_G av rs).run some = some co := h
 obtain ⟨a0_, av0, rfl, h_0⟩ := asCons_spec h
 obtain ⟨rfl, h_1⟩ := asEnd_spec h_0
 obtain ⟨rfl, h_2⟩ := asEnd_spec h_1
 obtain ⟨z2, d1, rfl, h_3⟩ := asImm_spec h_2
 exact fin_opt (i_ValidGather_eq z2 d1) (i_ValidGather_spec d1) h_3
end Go.Proofs.Ytddaclhjnkimfaa

namespace Go.Proofs.Ytddaclhjnkimfaa
open Go Go.Abs Go.Proofs
noncomputable def i_deedWord (p0 : Int) : Tre (ByteArray × Int) :=
 .cond (decide (p0 = 1))
  (.ret ((⟨#[115, 101, 110, 100]⟩ : ByteArray), 3))
  (.cond (decide (p0 = 2))
   (.ret ((⟨#[100, 101, 108, 105, 118, 101, 114]⟩ : ByteArray), 1))
   (.cond (decide (p0 = 3))
    (.ret ((⟨#[99, 111, 112, 121]⟩ : ByteArray), 1))
    (.cond (decide (p0 = 4))
     (.ret ((⟨#[100, 114, 111, 112]⟩ : ByteArray), 1))
     (.cond (decide (p0 = 5))
      (.ret ((⟨#[115, 112, 111, 105, 108]⟩ : ByteArray), 2))
      (.cond (decide (p0 = 6))
       (.ret ((⟨#[115, 97, 118, 101]⟩ : ByteArray), 1))
       (.cond (decide (p0 = 7))
        (.ret ((⟨#[99, 114, 97, 115, 104]⟩ : ByteArray), 1))
        (.cond (decide (p0 = 8))
         (.ret ((⟨#[102, 111, 114, 103, 101, 116]⟩ : ByteArray), 1))
         (.ret ((⟨#[]⟩ : ByteArray), 0)))))))))
noncomputable def i_deedWord_F (p0 : Int) : Option (ByteArray × Int) := (i_deedWord p0).run some
def i_deedWord_S (p0 : Int) : (ByteArray × Int) :=
 cond (decide (p0 = 1))
  (((⟨#[115, 101, 110, 100]⟩ : ByteArray), 3))
  (cond (decide (p0 = 2))
   (((⟨#[100, 101, 108, 105, 118, 101, 114]⟩ : ByteArray), 1))
   (cond (decide (p0 = 3))
    (((⟨#[99, 111, 112, 121]⟩ : ByteArray), 1))
    (cond (decide (p0 = 4))
     (((⟨#[100, 114, 111, 112]⟩ : ByteArray), 1))
     (cond (decide (p0 = 5))
      (((⟨#[115, 112, 111, 105, 108]⟩ : ByteArray), 2))
      (cond (decide (p0 = 6))
       (((⟨#[115, 97, 118, 101]⟩ : ByteArray), 1))
       (cond (decide (p0 = 7))
        (((⟨#[99, 114, 97, 115, 104]⟩ : ByteArray), 1))
        (cond (decide (p0 = 8))
         (((⟨#[102, 111, 114, 103, 101, 116]⟩ : ByteArray), 1))
         (((⟨#[]⟩ : ByteArray), 0)))))))))
theorem i_deedWord_spec (p0 : Int) : i_deedWord_F p0 = some (i_deedWord_S p0) := (run_cond_some rfl (run_cond_some rfl (run_cond_some rfl (run_cond_some rfl (run_cond_some rfl (run_cond_some rfl (run_cond_some rfl (run_cond_some rfl rfl))))))))
noncomputable def i_deedWord_V : Env := ⟨tau, [], []⟩
noncomputable def i_deedWord_b : Code := (Try.f102.body).getD .skip
noncomputable def i_deedWord_I : FnI := ⟨i_deedWord_b, Try.f102.results.toList, Try.f102.resultTypes.toList, []⟩
noncomputable def i_deedWord_out (_p0 : Int) : (ByteArray × Int) → CallOut := fun r => ⟨(.tcons (.imm true .str r.1) (.tcons (.imm true (.int .i64) r.2) .tnil)), [], []⟩
set_option maxRecDepth 100000 in
theorem i_deedWord_eq : ∀ (p0 : Int), denFn i_deedWord_V i_deedWord_I ⟨[(.imm true (.int .i64) p0)], []⟩ = (i_deedWord p0).run fun r => some (i_deedWord_out p0 r) := fun _ => by kernel_rfl
noncomputable def i_deedWord_G (av : List AV) (rs : List Root) : Tre CallOut :=
 asCons av fun a0_ av0 =>
 asEnd av0 <|
 asEnd rs <|
 asImmZ true (.int .i64) a0_ fun d1 =>
 .ret (i_deedWord_out d1 (i_deedWord_S d1))
noncomputable def i_deedWord_c : Ctr := ⟨[], fun ci => i_deedWord_G ci.args ci.roots⟩
theorem i_deedWord_env : EnvOK Try.prog i_deedWord_V := envOK_nil
set_option maxRecDepth 100000 in
theorem i_deedWord_ok : Contract Try.prog 102 i_deedWord_c := by
 have hl : LoopsOK i_deedWord_V [] i_deedWord_b := loopsOK_nil (by kernel_rfl)
 refine (contract_of (F := i_deedWord_I) tau_tys i_deedWord_env Try.func102 (by kernel_rfl) (by kernel_rfl) (by kernel_rfl) hl []).weaken ?_
 rintro ⟨av, rs⟩ co h
 have h : (i_deedWord_G av rs).run some = some co := h
 obtain ⟨a0_, av0, rfl, h_0⟩ := asCons_spec h
 obtain ⟨rfl, h_1⟩ := asEnd_spec h_0
 obtain ⟨rfl, h_2⟩ := asEnd_spec h_1
 obtain ⟨d1, rfl, h_3⟩ := asImmZ_spec h_2
 exact fin_ret (i_deedWord_eq d1) (i_deedWord_spec d1) h_3
end Go.Proofs.Ytddaclhjnkimfaa

namespace Go.Proofs.Ytddaclhjnkimfaa
open Go Go.Abs Go.Proofs
noncomputable def i_Deed_numbers (p0 : TDeed) : Tre (List Int) :=
 .ret ([p0.2.1, p0.2.2.1, p0.2.2.2.1])
noncomputable def i_Deed_numbers_F (p0 : TDeed) : Option (List Int) := (i_Deed_numbers p0).run some
theorem i_Deed_numbers_spec (p0 : TDeed) : i_Deed_numbers_F p0 = some ([p0.2.1, p0.2.2.1, p0.2.2.2.1]) := rfl
noncomputable def i_Deed_numbers_V : Env := ⟨tau, [], []⟩
noncomputable def i_Deed_numbers_b : Code := (Try.f103.body).getD .skip
noncomputable def i_Deed_numbers_I : FnI := ⟨i_Deed_numbers_b, Try.f103.results.toList, Try.f103.resultTypes.toList, []⟩
noncomputable def i_Deed_numbers_out (_p0 : TDeed) : (List Int) → CallOut := fun r => ⟨(.ref (1, 0) []), [], [⟨false, (.sl (.int .i64)), .own, r⟩]⟩
set_option maxRecDepth 100000 in
theorem i_Deed_numbers_eq : ∀ (p0 : TDeed), denFn i_Deed_numbers_V i_Deed_numbers_I ⟨[(.imm true kDeed p0)], []⟩ = (i_Deed_numbers p0).run fun r => some (i_Deed_numbers_out p0 r) := fun _ => by kernel_rfl
noncomputable def i_Deed_numbers_G (av : List AV) (rs : List Root) : Tre CallOut :=
 asCons av fun a0_ av0 =>
 asEnd av0 <|
 asEnd rs <|
 asImmZ true kDeed a0_ fun d1 =>
 .ret (i_Deed_numbers_out d1 ([d1.2.1, d1.2.2.1, d1.2.2.2.1]))
noncomputable def i_Deed_numbers_c : Ctr := ⟨[], fun ci => i_Deed_numbers_G ci.args ci.roots⟩
theorem i_Deed_numbers_env : EnvOK Try.prog i_Deed_numbers_V := envOK_nil
set_option maxRecDepth 100000 in
theorem i_Deed_numbers_ok : Contract Try.prog 103 i_Deed_numbers_c := by
 have hl : LoopsOK i_Deed_numbers_V [] i_Deed_numbers_b := loopsOK_nil (by kernel_rfl)
 refine (contract_of (F := i_Deed_numbers_I) tau_tys i_Deed_numbers_env Try.func103 (by kernel_rfl) (by kernel_rfl) (by kernel_rfl) hl []).weaken ?_
 rintro ⟨av, rs⟩ co h
 have h : (i_Deed_numbers_G av rs).run some = some co := h
 obtain ⟨a0_, av0, rfl, h_0⟩ := asCons_spec h
 obtain ⟨rfl, h_1⟩ := asEnd_spec h_0
 obtain ⟨rfl, h_2⟩ := asEnd_spec h_1
 obtain ⟨d1, rfl, h_3⟩ := asImmZ_spec h_2
 exact fin_ret (i_Deed_numbers_eq d1) (i_Deed_numbers_spec d1) h_3
end Go.Proofs.Ytddaclhjnkimfaa

namespace Go.Proofs.Ytddaclhjnkimfaa
open Go Go.Abs Go.Proofs
noncomputable def i_ValidDeed_l3 (h3_0_1 : Int) (h3_0_2 : Int) (h3_0_4 : (List Int)) : Int → Tre (Int ⊕ (Bool ⊕ Unit)) := fun s3 =>
 .cond (decide (s3 < h3_0_2))
  (.ite (0 ≤ s3 ∧ s3 < (h3_0_4.length : Int)) <|
  .mat (h3_0_4[s3.toNat]?) fun x2 =>
  .cond (!(inR x2 0 9999))
   (.ret (.inr (.inl false)))
   (.cond (decide (s3 ≥ h3_0_1))
    (.cond (!decide (x2 = 0))
     (.ret (.inr (.inl false)))
     (.ret (.inl (iwrap .i64 (s3 + 1)))))
    (.ret (.inl (iwrap .i64 (s3 + 1))))))
  (.ret (.inr (.inr ())))
noncomputable def i_ValidDeed (p0 : TDeed) : Tre Bool :=
 let v1 := [p0.2.1, p0.2.2.1, p0.2.2.2.1]
 .mat (loopF (i_ValidDeed_l3 ((i_deedWord_S p0.1).2) (v1.length : Int) v1) 0) fun l3 =>
 .alt l3
  (fun a4 =>
   .ret a4)
  (fun _ =>
   .ret (!(((i_deedWord_S p0.1).1).toList == (⟨#[]⟩ : ByteArray).toList)))
noncomputable def i_ValidDeed_F (p0 : TDeed) : Option Bool := (i_ValidDeed p0).run some
def okNums (m a b c : Int) : Bool := inR a 0 9999 && (decide (0 < m) || decide (a = 0)) && (inR b 0 9999 && (decide (1 < m) || decide (b = 0))) && (inR c 0 9999 && (decide (2 < m) || decide (c = 0)))
theorem i_ValidDeed_l3_at (m : Int) (v : List Int) (i : Nat) (x : Int) (hx : v[i]? = some x) (hv : v.length = 3) : loopF (i_ValidDeed_l3 m (v.length : Int) v) (i : Int) =
  if (inR x 0 9999 && (decide ((i : Int) < m) || decide (x = 0))) = true then loopF (i_ValidDeed_l3 m (v.length : Int) v) ((i + 1 : Nat) : Int) else some (.inl false) := by
 rw [loopF_eq]
 have hi : i < v.length := (List.getElem?_eq_some_iff.1 hx).1
 have hw : iwrap .i64 ((i : Int) + 1) = ((i + 1 : Nat) : Int) := by rw [iwrap_i64 (by omega) (by omega)]; rfl
 unfold i_ValidDeed_l3
 simp only [Tre.run_cond, Tre.run_ret, Tre.run_ite, Tre.run_mat, Int.toNat_natCast, hx, hw, Option.bind_some]
 rw [show decide ((i : Int) < (v.length : Int)) = true from by simp; omega, cond_true, if_pos ⟨by omega, by omega⟩]
 cases h1 : inR x 0 9999
 ·simp
 ·by_cases h2 : (i : Int) < m
  ·have h2' : ¬ m ≤ (i : Int) := by omega
   simp [h2, h2']
  ·have h2' : m ≤ (i : Int) := by omega
   by_cases h3 : x = 0 <;> simp [h2, h2', h3]
theorem i_ValidDeed_l3_end (m : Int) (v : List Int) (i : Nat) (hi : i = v.length) : loopF (i_ValidDeed_l3 m (v.length : Int) v) (i : Int) = some (.inr ()) := by
 rw [loopF_eq]
 unfold i_ValidDeed_l3
 simp [Tre.run_cond, Tre.run_ret, hi]
theorem i_ValidDeed_l3_all (m a b c : Int) : loopF (i_ValidDeed_l3 m ([a, b, c].length : Int) [a, b, c]) 0 = some (if okNums m a b c = true then .inr () else .inl false) := by
 have h0 := i_ValidDeed_l3_at m [a, b, c] 0 a rfl rfl
 have h1 := i_ValidDeed_l3_at m [a, b, c] 1 b rfl rfl
 have h2 := i_ValidDeed_l3_at m [a, b, c] 2 c rfl rfl
 have h3 := i_ValidDeed_l3_end m [a, b, c] 3 rfl
 refine h0.trans ?_
 unfold okNums
 cases (inR a 0 9999 && (decide (((0 : Nat) : Int) < m) || decide (a = 0))) <;> simp only [Bool.false_and, Bool.true_and, if_false, if_true, Bool.false_eq_true]
 refine h1.trans ?_
 cases (inR b 0 9999 && (decide (((1 : Nat) : Int) < m) || decide (b = 0))) <;> simp only [Bool.false_and, Bool.true_and, if_false, if_true, Bool.false_eq_true]
 refine h2.trans ?_
 cases (inR c 0 9999 && (decide (((2 : Nat) : Int) < m) || decide (c = 0))) <;> simp only [Bool.false_and, Bool.true_and, if_false, if_true, Bool.false_eq_true]
 exact h3
theorem i_ValidDeed_spec (p0 : Int × Int × Int × Int × Unit) : i_ValidDeed_F p0 = some (vDeed p0) := by
 obtain ⟨k, a, b, c, ⟨⟩⟩ := p0
 unfold i_ValidDeed_F i_ValidDeed vDeed
 dsimp only
 rw [Tre.run_mat, i_ValidDeed_l3_all, Option.bind_some]
 have hk : inR k 1 8 = false → i_deedWord_S k = ((⟨#[]⟩ : ByteArray), 0) := by
  intro h
  rw [inR_false] at h
  unfold i_deedWord_S
  have e : ∀ j : Int, 1 ≤ j → j ≤ 8 → decide (k = j) = false := fun j h1 h2 => by simp; omega
  simp [e]
 have hn : ∀ m a b c : Int, 0 ≤ m → okNums m a b c = (inR a 0 9999 && inR b 0 9999 && inR c 0 9999 && (decide (0 < m) || decide (a = 0)) && (decide (1 < m) || decide (b = 0)) && (decide (2 < m) || decide (c = 0))) := by
  intro m a b c _
  unfold okNums
  generalize decide (0 < m) = m0
  generalize decide (1 < m) = m1
  generalize decide (2 < m) = m2
  cases inR a 0 9999 <;> cases inR b 0 9999 <;> cases inR c 0 9999 <;> simp [Bool.and_assoc]
 cases h1 : inR k 1 8 with
 | false =>
  rw [hk h1]
  simp only [Bool.false_and]
  split <;> simp [Tre.run_ret, Tre.run_inl, Tre.run_inr]
 | true =>
  rcases kind_cases h1 with rfl | rfl | rfl | rfl | rfl | rfl | rfl | rfl <;>
   (simp only [i_deedWord_S]; simp [hn]; cases inR a 0 9999 <;> cases inR b 0 9999 <;> cases inR c 0 9999 <;> by_cases hb : b = 0 <;> by_cases hc : c = 0 <;> simp [hb, hc, Tre.run_ret, Tre.run_inl, Tre.run_inr])
noncomputable def i_ValidDeed_V : Env := ⟨tau, [(102, i_deedWord_c), (103, i_Deed_numbers_c), (70, i_within_c)], []⟩
noncomputable def i_ValidDeed_b : Code := (Try.f77.body).getD .skip
noncomputable def i_ValidDeed_l3_mk (h3_0_0 : ByteArray) (h3_0_1 : Int) (h3_0_2 : Int) (h3_0_4 : (List Int)) : Int → St := fun x => stOf [(3, (.imm true .str h3_0_0)), (4, (.imm true (.int .i64) h3_0_1)), (14, (.ref (16, 0) [])), (15, (.imm true (.int .i64) h3_0_2)), (16, (.imm true (.int .i64) x))] [((16, 0), some ⟨false, (.sl (.int .i64)), .own, h3_0_4⟩)]
noncomputable def i_ValidDeed_l3_out (h3_0_0 : ByteArray) (_h3_0_1 : Int) (_h3_0_2 : Int) (_h3_0_4 : (List Int)) : (Bool ⊕ Unit) → Ex × St
 | .inl x => (.ret, stOf [(2, (.imm true .bool x)), (3, (.imm true .str h3_0_0))] [])
 | .inr x => (.exit 0, stOf [(2, .dead), (3, (.imm true .str h3_0_0))] [])
noncomputable def i_ValidDeed_l3_D (s : St) : Tre (Ex × St) :=
 asImmZ true .str (s.tmps 3) fun d2 =>
 asImmZ true (.int .i64) (s.tmps 4) fun d4 =>
 asRef (16, 0) [] (s.tmps 14) <|
 asImmZ true (.int .i64) (s.tmps 15) fun d7 =>
 asImmZ true (.int .i64) (s.tmps 16) fun d9 =>
 asRoot false (.sl (.int .i64)) (s.roots (16, 0)) fun m11 d12 =>
 asM .own m11 <|
 .mat (loopF (i_ValidDeed_l3 d4 d7 d12) d9) fun x => .alt x (fun a0 => .ret (i_ValidDeed_l3_out d2 d4 d7 d12 (.inl a0))) (fun b0 => .ret (i_ValidDeed_l3_out d2 d4 d7 d12 (.inr b0)))
noncomputable def i_ValidDeed_l3_L : LoopI := ⟨([3, 4, 14, 15, 16], [(16, 0)]), ([2, 3], []), i_ValidDeed_l3_D⟩
noncomputable def i_ValidDeed_A : List (Nat × LoopI) := [(3, i_ValidDeed_l3_L)]
set_option maxRecDepth 100000 in
theorem i_ValidDeed_l3_step : ∀ (h3_0_0 : ByteArray) (h3_0_1 : Int) (h3_0_2 : Int) (h3_0_4 : (List Int)) (x : Int) (c : St → Option (Ex × St)), den i_ValidDeed_V i_ValidDeed_A (loopAt i_ValidDeed_b 0) (i_ValidDeed_l3_mk h3_0_0 h3_0_1 h3_0_2 h3_0_4 x) (roundK i_ValidDeed_l3_L.kp i_ValidDeed_l3_L.kx c) = (i_ValidDeed_l3 h3_0_1 h3_0_2 h3_0_4 x).run (roundR (i_ValidDeed_l3_mk h3_0_0 h3_0_1 h3_0_2 h3_0_4) (i_ValidDeed_l3_out h3_0_0 h3_0_1 h3_0_2 h3_0_4) c) := fun _ _ _ _ _ _ => by
 kernel_rfl
theorem i_ValidDeed_l3_ok : LoopOK i_ValidDeed_V i_ValidDeed_A (loopAt i_ValidDeed_b 0) i_ValidDeed_l3_L := loopOK_of fun s e s' h => by
 generalize hs : restrict i_ValidDeed_l3_L.kp s = s1 at h
 have h : (i_ValidDeed_l3_D s1).run some = some (e, s') := h
 obtain ⟨d2, e1, h_0⟩ := asImmZ_spec h
 obtain ⟨d4, e3, h_1⟩ := asImmZ_spec h_0
 obtain ⟨e5, h_2⟩ := asRef_spec h_1
 obtain ⟨d7, e6, h_3⟩ := asImmZ_spec h_2
 obtain ⟨d9, e8, h_4⟩ := asImmZ_spec h_3
 obtain ⟨m11, d12, e10, h_5⟩ := asRoot_spec h_4
 obtain ⟨rfl, h_6⟩ := asM_spec h_5
 obtain ⟨y, hy, hz⟩ := mat_some h_6
 refine ⟨_, _, i_ValidDeed_l3_mk d2 d4 d7 d12, i_ValidDeed_l3_out d2 d4 d7 d12, i_ValidDeed_l3 d4 d7 d12, d9, y, ?_, hy, ?_, i_ValidDeed_l3_step d2 d4 d7 d12⟩
 ·subst hs; exact restrict_eq (T := [(3, (.imm true .str d2)), (4, (.imm true (.int .i64) d4)), (14, (.ref (16, 0) [])), (15, (.imm true (.int .i64) d7)), (16, (.imm true (.int .i64) d9))]) (U := [((16, 0), some ⟨false, (.sl (.int .i64)), .own, d12⟩)]) rfl rfl ⟨e1, e3, e5, e6, e8, trivial⟩ ⟨e10, trivial⟩
 ·rcases y with x | x <;> exact Option.some.inj hz
noncomputable def i_ValidDeed_I : FnI := ⟨i_ValidDeed_b, Try.f77.results.toList, Try.f77.resultTypes.toList, i_ValidDeed_A⟩
noncomputable def i_ValidDeed_out (_p0 : TDeed) : Bool → CallOut := fun r => ⟨(.imm true .bool r), [], []⟩
set_option maxRecDepth 100000 in
theorem i_ValidDeed_eq : ∀ (p0 : TDeed), denFn i_ValidDeed_V i_ValidDeed_I ⟨[(.imm true kDeed p0)], []⟩ = (i_ValidDeed p0).run fun r => some (i_ValidDeed_out p0 r) := fun _ => by kernel_rfl
noncomputable def i_ValidDeed_G (av : List AV) (rs : List Root) : Tre CallOut :=
 asCons av fun a0_ av0 =>
 asEnd av0 <|
 asEnd rs <|
 asImmZ true kDeed a0_ fun d1 =>
 .ret (i_ValidDeed_out d1 (vDeed d1))
noncomputable def i_ValidDeed_c : Ctr := ⟨[], fun ci => i_ValidDeed_G ci.args ci.roots⟩
theorem i_ValidDeed_env : EnvOK Try.prog i_ValidDeed_V := (envOK_cons i_deedWord_ok ent102 (envOK_cons i_Deed_numbers_ok ent103 (envOK_cons i_within_ok ent70 envOK_nil)))
set_option maxRecDepth 100000 in
theorem i_ValidDeed_ok : Contract Try.prog 77 i_ValidDeed_c := by
 have hl : LoopsOK i_ValidDeed_V i_ValidDeed_A i_ValidDeed_b := (loopsOK_all (n := 1) (by kernel_rfl) fun k hk => by
   match k, hk with
   | 0, _ => exact loopOK_at (id := 3) (L := i_ValidDeed_l3_L) (by kernel_rfl) (by kernel_rfl) i_ValidDeed_l3_ok)
 refine (contract_of (F := i_ValidDeed_I) tau_tys i_ValidDeed_env Try.func77 (by kernel_rfl) (by kernel_rfl) (by kernel_rfl) hl []).weaken ?_
 rintro ⟨av, rs⟩ co h
 have h : (i_ValidDeed_G av rs).run some = some co := h
 obtain ⟨a0_, av0, rfl, h_0⟩ := asCons_spec h
 obtain ⟨rfl, h_1⟩ := asEnd_spec h_0
 obtain ⟨rfl, h_2⟩ := asEnd_spec h_1
 obtain ⟨d1, rfl, h_3⟩ := asImmZ_spec h_2
 exact fin_ret (i_ValidDeed_eq d1) (i_ValidDeed_spec d1) h_3
end Go.Proofs.Ytddaclhjnkimfaa

namespace Go.Proofs.Ytddaclhjnkimfaa
open Go Go.Abs Go.Proofs
noncomputable def i_deedsCodec1 (p0 : TDeed) : Tre Bool :=
 .ret (!(vDeed p0))
noncomputable def i_deedsCodec1_F (p0 : TDeed) : Option Bool := (i_deedsCodec1 p0).run some
theorem i_deedsCodec1_spec (p0 : TDeed) : i_deedsCodec1_F p0 = some (!(vDeed p0)) := rfl
noncomputable def i_deedsCodec1_V : Env := ⟨tau, [(77, i_ValidDeed_c)], []⟩
noncomputable def i_deedsCodec1_b : Code := (Try.f76.body).getD .skip
noncomputable def i_deedsCodec1_I : FnI := ⟨i_deedsCodec1_b, Try.f76.results.toList, Try.f76.resultTypes.toList, []⟩
noncomputable def i_deedsCodec1_out (_p0 : TDeed) : Bool → CallOut := fun r => ⟨(.imm true .bool r), [], []⟩
set_option maxRecDepth 100000 in
theorem i_deedsCodec1_eq : ∀ (p0 : TDeed), denFn i_deedsCodec1_V i_deedsCodec1_I ⟨[(.imm true kDeed p0)], []⟩ = (i_deedsCodec1 p0).run fun r => some (i_deedsCodec1_out p0 r) := fun _ => by kernel_rfl
noncomputable def i_deedsCodec1_G (av : List AV) (rs : List Root) : Tre CallOut :=
 asCons av fun a0_ av0 =>
 asEnd av0 <|
 asEnd rs <|
 asImmZ true kDeed a0_ fun d1 =>
 .ret (i_deedsCodec1_out d1 (!(vDeed d1)))
noncomputable def i_deedsCodec1_c : Ctr := ⟨[], fun ci => i_deedsCodec1_G ci.args ci.roots⟩
theorem i_deedsCodec1_env : EnvOK Try.prog i_deedsCodec1_V := (envOK_cons i_ValidDeed_ok ent77 envOK_nil)
set_option maxRecDepth 100000 in
theorem i_deedsCodec1_ok : Contract Try.prog 76 i_deedsCodec1_c := by
 have hl : LoopsOK i_deedsCodec1_V [] i_deedsCodec1_b := loopsOK_nil (by kernel_rfl)
 refine (contract_of (F := i_deedsCodec1_I) tau_tys i_deedsCodec1_env Try.func76 (by kernel_rfl) (by kernel_rfl) (by kernel_rfl) hl []).weaken ?_
 rintro ⟨av, rs⟩ co h
 have h : (i_deedsCodec1_G av rs).run some = some co := h
 obtain ⟨a0_, av0, rfl, h_0⟩ := asCons_spec h
 obtain ⟨rfl, h_1⟩ := asEnd_spec h_0
 obtain ⟨rfl, h_2⟩ := asEnd_spec h_1
 obtain ⟨d1, rfl, h_3⟩ := asImmZ_spec h_2
 exact fin_ret (i_deedsCodec1_eq d1) (i_deedsCodec1_spec d1) h_3
end Go.Proofs.Ytddaclhjnkimfaa
