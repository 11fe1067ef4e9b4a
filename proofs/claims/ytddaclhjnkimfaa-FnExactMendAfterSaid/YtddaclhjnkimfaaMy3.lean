/- Part 3 of the proof of FnExactMendAfter. -/
import Derived.Test.YtddaclhjnkimfaaProg
import Derived.Test.YtddaclhjnkimfaaMy2
namespace Go.Proofs.Ytddaclhjnkimfaa
open Go Go.Abs Go.Proofs
abbrev kField : K := (.pair (.int .i64) (.pair (.int .i64) .unit))
abbrev kMatrix : K := (.pair (.int .i64) (.pair (.sl (.int .i64)) .unit))
abbrev kStation : K := (.pair (.sl (.int .i64)) (.pair (.sl (.int .i64)) .unit))
abbrev kL00Src : K := (.pair (.sl (.int .u8)) (.pair (.int .i64) (.pair (.int .u64) .unit)))
abbrev kDeed : K := (.pair (.int .i64) (.pair (.int .i64) (.pair (.int .i64) (.pair (.int .i64) .unit))))
abbrev kGather : K := (.pair (.int .i64) (.pair (.int .i64) (.pair (.sl (.int .i64)) (.pair (.int .i64) (.pair (.int .i64) .unit)))))
abbrev kL08Plan : K := (.pair .ptr (.pair (.sl kDeed) .unit))
abbrev kPlant : K := (.pair (.sl kStation) (.pair (.sl kField) .unit))
abbrev kL08Run : K := (.pair .ptr (.pair kPlant .unit))
abbrev kWorks : K := (.pair kPlant (.pair kGather .unit))
def tau : List (Nat × TI) := [(2, ⟨(.int .i64), 8, 0⟩), (76, ⟨kDeed, 32, 0⟩), (22, ⟨(.sl (.int .i64)), 24, 2⟩), (30, ⟨kGather, 56, 0⟩), (49, ⟨(.sl kField), 24, 108⟩), (51, ⟨kPlant, 48, 0⟩), (48, ⟨(.sl kStation), 24, 59⟩), (73, ⟨kL08Run, 56, 0⟩), (59, ⟨kStation, 48, 0⟩), (88, ⟨kWorks, 104, 0⟩), (3, ⟨(.int .i64), 8, 0⟩), (108, ⟨kField, 16, 0⟩), (24, ⟨kGather, 56, 0⟩), (32, ⟨(.sl kDeed), 24, 76⟩), (78, ⟨kDeed, 32, 0⟩), (84, ⟨kField, 16, 0⟩), (80, ⟨.ptr, 8, 0⟩), (142, ⟨(.sl (.int .i64)), 24, 3⟩), (69, ⟨.ptr, 8, 0⟩), (25, ⟨(.sl kDeed), 24, 78⟩), (141, ⟨(.sl .str), 24, 9⟩), (1, ⟨.fn, 8, 0⟩), (4, ⟨.bool, 1, 0⟩), (5, ⟨(.int .u8), 1, 0⟩), (9, ⟨.str, 16, 0⟩), (12, ⟨(.int .u64), 8, 0⟩), (13, ⟨(.pair .str (.pair (.int .u64) .unit)), 24, 0⟩), (21, ⟨(.int .i32), 4, 0⟩), (23, ⟨kGather, 56, 0⟩), (26, ⟨.fn, 8, 0⟩), (27, ⟨.fn, 8, 0⟩), (29, ⟨.fn, 8, 0⟩), (31, ⟨.fn, 8, 0⟩), (33, ⟨.fn, 8, 0⟩), (34, ⟨.fn, 8, 0⟩), (35, ⟨.fn, 8, 0⟩), (36, ⟨.fn, 8, 0⟩), (37, ⟨.fn, 8, 0⟩), (38, ⟨.fn, 8, 0⟩), (39, ⟨.fn, 8, 0⟩), (40, ⟨.fn, 8, 0⟩), (42, ⟨.fn, 8, 0⟩), (43, ⟨.fn, 8, 0⟩), (44, ⟨(.sl (.int .u8)), 24, 5⟩), (45, ⟨.fn, 8, 0⟩), (46, ⟨.fn, 8, 0⟩), (47, ⟨.fn, 8, 0⟩), (50, ⟨kPlant, 48, 0⟩), (53, ⟨.fn, 8, 0⟩), (55, ⟨.fn, 8, 0⟩), (56, ⟨kMatrix, 32, 0⟩), (57, ⟨kMatrix, 32, 0⟩), (58, ⟨kStation, 48, 0⟩), (61, ⟨.fn, 8, 0⟩), (62, ⟨.fn, 8, 0⟩), (63, ⟨.fn, 8, 0⟩), (64, ⟨.fn, 8, 0⟩), (65, ⟨.fn, 8, 0⟩), (66, ⟨.ptr, 8, 0⟩), (68, ⟨.fn, 8, 0⟩), (70, ⟨(.int .u64), 8, 0⟩), (71, ⟨.fn, 8, 0⟩), (72, ⟨kL08Run, 56, 0⟩), (74, ⟨.fn, 8, 0⟩), (75, ⟨kDeed, 32, 0⟩), (77, ⟨.fn, 8, 0⟩), (79, ⟨.fn, 8, 0⟩), (82, ⟨.fn, 8, 0⟩), (83, ⟨kField, 16, 0⟩), (85, ⟨.fn, 8, 0⟩), (86, ⟨.fn, 8, 0⟩), (87, ⟨kWorks, 104, 0⟩), (89, ⟨.fn, 8, 0⟩), (90, ⟨.fn, 8, 0⟩), (91, ⟨.fn, 8, 0⟩), (93, ⟨.fn, 8, 0⟩), (94, ⟨.ptr, 8, 0⟩), (95, ⟨kL08Plan, 32, 0⟩), (96, ⟨kL08Plan, 32, 0⟩), (97, ⟨.fn, 8, 0⟩), (98, ⟨.fn, 8, 0⟩), (99, ⟨.fn, 8, 0⟩), (100, ⟨.fn, 8, 0⟩), (101, ⟨.fn, 8, 0⟩), (102, ⟨.fn, 8, 0⟩), (103, ⟨.ptr, 8, 0⟩), (104, ⟨.fn, 8, 0⟩), (105, ⟨.fn, 8, 0⟩), (106, ⟨.fn, 8, 0⟩), (107, ⟨kField, 16, 0⟩), (109, ⟨.fn, 8, 0⟩), (110, ⟨.fn, 8, 0⟩), (111, ⟨.fn, 8, 0⟩), (112, ⟨.fn, 8, 0⟩), (113, ⟨.fn, 8, 0⟩), (114, ⟨.fn, 8, 0⟩), (115, ⟨.fn, 8, 0⟩), (116, ⟨.fn, 8, 0⟩), (117, ⟨.fn, 8, 0⟩), (118, ⟨.fn, 8, 0⟩), (119, ⟨.fn, 8, 0⟩), (120, ⟨.fn, 8, 0⟩), (121, ⟨.fn, 8, 0⟩), (122, ⟨.fn, 8, 0⟩), (123, ⟨.fn, 8, 0⟩), (124, ⟨.fn, 8, 0⟩), (125, ⟨.fn, 8, 0⟩), (126, ⟨.fn, 8, 0⟩), (127, ⟨.fn, 8, 0⟩), (128, ⟨.fn, 8, 0⟩), (129, ⟨(.int .u64), 8, 0⟩), (130, ⟨kL00Src, 40, 0⟩), (131, ⟨kL00Src, 40, 0⟩), (132, ⟨.fn, 8, 0⟩), (133, ⟨(.sl kMatrix), 24, 57⟩), (134, ⟨.fn, 8, 0⟩), (135, ⟨.fn, 8, 0⟩), (136, ⟨.fn, 8, 0⟩), (137, ⟨.fn, 8, 0⟩), (139, ⟨.fn, 8, 0⟩), (140, ⟨.ptr, 8, 0⟩), (144, ⟨.fn, 8, 0⟩), (145, ⟨.fn, 8, 0⟩), (146, ⟨.fn, 8, 0⟩), (147, ⟨.fn, 8, 0⟩), (148, ⟨.fn, 8, 0⟩), (149, ⟨.fn, 8, 0⟩), (150, ⟨.fn, 8, 0⟩), (156, ⟨.fn, 8, 0⟩), (157, ⟨(.int .u32), 4, 0⟩), (160, ⟨.fn, 8, 0⟩), (161, ⟨.ptr, 8, 0⟩), (166, ⟨.fn, 8, 0⟩)]
set_option maxRecDepth 100000 in
theorem tau_tys {E : List (Nat × Ctr)} {Z : List (Nat × List Frz)} : TysOK Try.prog ⟨tau, E, Z⟩ := tysOK_of (tysB_env (by kernel_rfl)) (by kernel_rfl)
theorem ent7 : Enters Try.prog 7 := ⟨Try.f7, Try.func7, by kernel_rfl, by kernel_rfl⟩
theorem ent8 : Enters Try.prog 8 := ⟨Try.f8, Try.func8, by kernel_rfl, by kernel_rfl⟩
theorem ent9 : Enters Try.prog 9 := ⟨Try.f9, Try.func9, by kernel_rfl, by kernel_rfl⟩
theorem ent10 : Enters Try.prog 10 := ⟨Try.f10, Try.func10, by kernel_rfl, by kernel_rfl⟩
theorem ent11 : Enters Try.prog 11 := ⟨Try.f11, Try.func11, by kernel_rfl, by kernel_rfl⟩
theorem ent12 : Enters Try.prog 12 := ⟨Try.f12, Try.func12, by kernel_rfl, by kernel_rfl⟩
theorem ent13 : Enters Try.prog 13 := ⟨Try.f13, Try.func13, by kernel_rfl, by kernel_rfl⟩
theorem ent14 : Enters Try.prog 14 := ⟨Try.f14, Try.func14, by kernel_rfl, by kernel_rfl⟩
theorem ent15 : Enters Try.prog 15 := ⟨Try.f15, Try.func15, by kernel_rfl, by kernel_rfl⟩
theorem ent16 : Enters Try.prog 16 := ⟨Try.f16, Try.func16, by kernel_rfl, by kernel_rfl⟩
theorem ent17 : Enters Try.prog 17 := ⟨Try.f17, Try.func17, by kernel_rfl, by kernel_rfl⟩
theorem ent18 : Enters Try.prog 18 := ⟨Try.f18, Try.func18, by kernel_rfl, by kernel_rfl⟩
theorem ent19 : Enters Try.prog 19 := ⟨Try.f19, Try.func19, by kernel_rfl, by kernel_rfl⟩
theorem ent35 : Enters Try.prog 35 := ⟨Try.f35, Try.func35, by kernel_rfl, by kernel_rfl⟩
theorem ent36 : Enters Try.prog 36 := ⟨Try.f36, Try.func36, by kernel_rfl, by kernel_rfl⟩
theorem ent37 : Enters Try.prog 37 := ⟨Try.f37, Try.func37, by kernel_rfl, by kernel_rfl⟩
theorem ent38 : Enters Try.prog 38 := ⟨Try.f38, Try.func38, by kernel_rfl, by kernel_rfl⟩
theorem ent39 : Enters Try.prog 39 := ⟨Try.f39, Try.func39, by kernel_rfl, by kernel_rfl⟩
theorem ent40 : Enters Try.prog 40 := ⟨Try.f40, Try.func40, by kernel_rfl, by kernel_rfl⟩
theorem ent41 : Enters Try.prog 41 := ⟨Try.f41, Try.func41, by kernel_rfl, by kernel_rfl⟩
theorem ent42 : Enters Try.prog 42 := ⟨Try.f42, Try.func42, by kernel_rfl, by kernel_rfl⟩
theorem ent43 : Enters Try.prog 43 := ⟨Try.f43, Try.func43, by kernel_rfl, by kernel_rfl⟩
theorem ent44 : Enters Try.prog 44 := ⟨Try.f44, Try.func44, by kernel_rfl, by kernel_rfl⟩
theorem ent45 : Enters Try.prog 45 := ⟨Try.f45, Try.func45, by kernel_rfl, by kernel_rfl⟩
theorem ent46 : Enters Try.prog 46 := ⟨Try.f46, Try.func46, by kernel_rfl, by kernel_rfl⟩
theorem ent47 : Enters Try.prog 47 := ⟨Try.f47, Try.func47, by kernel_rfl, by kernel_rfl⟩
theorem ent48 : Enters Try.prog 48 := ⟨Try.f48, Try.func48, by kernel_rfl, by kernel_rfl⟩
theorem ent52 : Enters Try.prog 52 := ⟨Try.f52, Try.func52, by kernel_rfl, by kernel_rfl⟩
theorem ent53 : Enters Try.prog 53 := ⟨Try.f53, Try.func53, by kernel_rfl, by kernel_rfl⟩
theorem ent60 : Enters Try.prog 60 := ⟨Try.f60, Try.func60, by kernel_rfl, by kernel_rfl⟩
theorem ent61 : Enters Try.prog 61 := ⟨Try.f61, Try.func61, by kernel_rfl, by kernel_rfl⟩
theorem ent65 : Enters Try.prog 65 := ⟨Try.f65, Try.func65, by kernel_rfl, by kernel_rfl⟩
theorem ent68 : Enters Try.prog 68 := ⟨Try.f68, Try.func68, by kernel_rfl, by kernel_rfl⟩
theorem ent70 : Enters Try.prog 70 := ⟨Try.f70, Try.func70, by kernel_rfl, by kernel_rfl⟩
theorem ent71 : Enters Try.prog 71 := ⟨Try.f71, Try.func71, by kernel_rfl, by kernel_rfl⟩
theorem ent72 : Enters Try.prog 72 := ⟨Try.f72, Try.func72, by kernel_rfl, by kernel_rfl⟩
theorem ent73 : Enters Try.prog 73 := ⟨Try.f73, Try.func73, by kernel_rfl, by kernel_rfl⟩
theorem ent74 : Enters Try.prog 74 := ⟨Try.f74, Try.func74, by kernel_rfl, by kernel_rfl⟩
theorem ent75 : Enters Try.prog 75 := ⟨Try.f75, Try.func75, by kernel_rfl, by kernel_rfl⟩
theorem ent76 : Enters Try.prog 76 := ⟨Try.f76, Try.func76, by kernel_rfl, by kernel_rfl⟩
theorem ent77 : Enters Try.prog 77 := ⟨Try.f77, Try.func77, by kernel_rfl, by kernel_rfl⟩
theorem ent78 : Enters Try.prog 78 := ⟨Try.f78, Try.func78, by kernel_rfl, by kernel_rfl⟩
theorem ent79 : Enters Try.prog 79 := ⟨Try.f79, Try.func79, by kernel_rfl, by kernel_rfl⟩
theorem ent80 : Enters Try.prog 80 := ⟨Try.f80, Try.func80, by kernel_rfl, by kernel_rfl⟩
theorem ent81 : Enters Try.prog 81 := ⟨Try.f81, Try.func81, by kernel_rfl, by kernel_rfl⟩
theorem ent82 : Enters Try.prog 82 := ⟨Try.f82, Try.func82, by kernel_rfl, by kernel_rfl⟩
theorem ent83 : Enters Try.prog 83 := ⟨Try.f83, Try.func83, by kernel_rfl, by kernel_rfl⟩
theorem ent84 : Enters Try.prog 84 := ⟨Try.f84, Try.func84, by kernel_rfl, by kernel_rfl⟩
theorem ent85 : Enters Try.prog 85 := ⟨Try.f85, Try.func85, by kernel_rfl, by kernel_rfl⟩
theorem ent86 : Enters Try.prog 86 := ⟨Try.f86, Try.func86, by kernel_rfl, by kernel_rfl⟩
theorem ent88 : Enters Try.prog 88 := ⟨Try.f88, Try.func88, by kernel_rfl, by kernel_rfl⟩
theorem ent89 : Enters Try.prog 89 := ⟨Try.f89, Try.func89, by kernel_rfl, by kernel_rfl⟩
theorem ent98 : Enters Try.prog 98 := ⟨Try.f98, Try.func98, by kernel_rfl, by kernel_rfl⟩
theorem ent99 : Enters Try.prog 99 := ⟨Try.f99, Try.func99, by kernel_rfl, by kernel_rfl⟩
theorem ent100 : Enters Try.prog 100 := ⟨Try.f100, Try.func100, by kernel_rfl, by kernel_rfl⟩
theorem ent101 : Enters Try.prog 101 := ⟨Try.f101, Try.func101, by kernel_rfl, by kernel_rfl⟩
theorem ent102 : Enters Try.prog 102 := ⟨Try.f102, Try.func102, by kernel_rfl, by kernel_rfl⟩
theorem ent103 : Enters Try.prog 103 := ⟨Try.f103, Try.func103, by kernel_rfl, by kernel_rfl⟩
theorem ent104 : Enters Try.prog 104 := ⟨Try.f104, Try.func104, by kernel_rfl, by kernel_rfl⟩
theorem ent105 : Enters Try.prog 105 := ⟨Try.f105, Try.func105, by kernel_rfl, by kernel_rfl⟩
theorem ent106 : Enters Try.prog 106 := ⟨Try.f106, Try.func106, by kernel_rfl, by kernel_rfl⟩
theorem ent107 : Enters Try.prog 107 := ⟨Try.f107, Try.func107, by kernel_rfl, by kernel_rfl⟩
theorem ent108 : Enters Try.prog 108 := ⟨Try.f108, Try.func108, by kernel_rfl, by kernel_rfl⟩
theorem ent109 : Enters Try.prog 109 := ⟨Try.f109, Try.func109, by kernel_rfl, by kernel_rfl⟩
theorem ent110 : Enters Try.prog 110 := ⟨Try.f110, Try.func110, by kernel_rfl, by kernel_rfl⟩
theorem ent111 : Enters Try.prog 111 := ⟨Try.f111, Try.func111, by kernel_rfl, by kernel_rfl⟩
theorem ent116 : Enters Try.prog 116 := ⟨Try.f116, Try.func116, by kernel_rfl, by kernel_rfl⟩
theorem ent117 : Enters Try.prog 117 := ⟨Try.f117, Try.func117, by kernel_rfl, by kernel_rfl⟩
theorem ent118 : Enters Try.prog 118 := ⟨Try.f118, Try.func118, by kernel_rfl, by kernel_rfl⟩
theorem ent119 : Enters Try.prog 119 := ⟨Try.f119, Try.func119, by kernel_rfl, by kernel_rfl⟩
theorem ent120 : Enters Try.prog 120 := ⟨Try.f120, Try.func120, by kernel_rfl, by kernel_rfl⟩
abbrev TStation := ((List Int) × ((List Int) × Unit))
abbrev TL00Src := ((List Int) × (Int × (Int × Unit)))
abbrev TDeed := (Int × (Int × (Int × (Int × Unit))))
abbrev TGather := (Int × (Int × TL00Src))
abbrev TPlant := ((List TStation) × ((List (Int × (Int × Unit))) × Unit))
abbrev TWorks := (TPlant × (TGather × Unit))
end Go.Proofs.Ytddaclhjnkimfaa

namespace Go.Proofs.Ytddaclhjnkimfaa
open Go Go.Abs Go.Proofs
noncomputable def l_szInt64S (p0 : (List Int)) (p1 : Int) : Tre Int :=
  let v1 := iwrap .i64 (p1 - (p0.length : Int))
  .cond (decide (v1 < 0))
    (.ret (-1))
    (.ret v1)
noncomputable def l_szInt64S_F (p0 : (List Int)) (p1 : Int) : Option Int := (l_szInt64S p0 p1).run some
def l_szInt64S_S (p0 : (List Int)) (p1 : Int) : Int :=
  let v1 := iwrap .i64 (p1 - (p0.length : Int))
  cond (decide (v1 < 0))
    (-1)
    (v1)
theorem l_szInt64S_spec (p0 : (List Int)) (p1 : Int) : l_szInt64S_F p0 p1 = some (l_szInt64S_S p0 p1) := (run_cond_some rfl rfl)
-- more
theorem l_szInt64S_len {xs : List Int} (h : xs.length ≤ maxLen) (hn : ¬ l_szInt64S_S xs 1048576 < 0) : xs.length ≤ 1048576 := by
  unfold maxLen at h
  unfold l_szInt64S_S at hn
  dsimp only at hn
  rw [iwrap_i64 (by omega) (by omega)] at hn
  by_cases h2 : (1048576 : Int) - xs.length < 0
  · simp [h2] at hn
  · omega
noncomputable def l_szInt64S_V : Env := ⟨tau, [], []⟩
noncomputable def l_szInt64S_b : Code := (Try.f35.body).getD .skip
noncomputable def l_szInt64S_I : FnI := ⟨l_szInt64S_b, Try.f35.results.toList, Try.f35.resultTypes.toList, []⟩
noncomputable def l_szInt64S_out (_zp0 : Bool) (_p0 : (List Int)) (_p1 : Int) : Int → CallOut := fun r => ⟨(.imm true (.int .i64) r), [], []⟩
set_option maxRecDepth 100000 in
theorem l_szInt64S_eq : ∀ (zp0 : Bool) (p0 : (List Int)) (p1 : Int), denFn l_szInt64S_V l_szInt64S_I ⟨[(.imm zp0 (.sl (.int .i64)) p0), (.imm true (.int .i64) p1)], []⟩ = (l_szInt64S p0 p1).run fun r => some (l_szInt64S_out zp0 p0 p1 r) := fun _ _ _ => by kernel_rfl
noncomputable def l_szInt64S_G (av : List AV) (rs : List Root) : Tre CallOut :=
  asCons av fun a0_ av0 =>
  asCons av0 fun a1_ av1 =>
  asEnd av1 <|
  asEnd rs <|
  asImm (.sl (.int .i64)) a0_ fun z2 d1 =>
  asImmZ true (.int .i64) a1_ fun d3 =>
  .ret (l_szInt64S_out z2 d1 d3 (l_szInt64S_S d1 d3))
noncomputable def l_szInt64S_c : Ctr := ⟨[], fun ci => l_szInt64S_G ci.args ci.roots⟩
theorem l_szInt64S_env : EnvOK Try.prog l_szInt64S_V := envOK_nil
set_option maxRecDepth 100000 in
theorem l_szInt64S_ok : Contract Try.prog 35 l_szInt64S_c := by
  have hl : LoopsOK l_szInt64S_V [] l_szInt64S_b := loopsOK_nil (by kernel_rfl)
  refine (contract_of (F := l_szInt64S_I) tau_tys l_szInt64S_env Try.func35 (by kernel_rfl) (by kernel_rfl) (by kernel_rfl) hl []).weaken ?_
  rintro ⟨av, rs⟩ co h
  have h : (l_szInt64S_G av rs).run some = some co := h
  obtain ⟨a0_, av0, rfl, h_0⟩ := asCons_spec h
  obtain ⟨a1_, av1, rfl, h_1⟩ := asCons_spec h_0
  obtain ⟨rfl, h_2⟩ := asEnd_spec h_1
  obtain ⟨rfl, h_3⟩ := asEnd_spec h_2
  obtain ⟨z2, d1, rfl, h_4⟩ := asImm_spec h_3
  obtain ⟨d3, rfl, h_5⟩ := asImmZ_spec h_4
  exact fin_ret (l_szInt64S_eq z2 d1 d3) (l_szInt64S_spec d1 d3) h_5
end Go.Proofs.Ytddaclhjnkimfaa

namespace Go.Proofs.Ytddaclhjnkimfaa
open Go Go.Abs Go.Proofs
noncomputable def l_szGather (p0 : TGather) (p1 : Int) : Tre Int :=
  .cond (decide ((l_szInt64S_S p0.2.2.1 p1) < 0))
    (.ret (-1))
    (.ret (l_szInt64S_S p0.2.2.1 p1))
noncomputable def l_szGather_F (p0 : TGather) (p1 : Int) : Option Int := (l_szGather p0 p1).run some
def l_szGather_S (p0 : TGather) (p1 : Int) : Int :=
  cond (decide ((l_szInt64S_S p0.2.2.1 p1) < 0))
    (-1)
    ((l_szInt64S_S p0.2.2.1 p1))
theorem l_szGather_spec (p0 : TGather) (p1 : Int) : l_szGather_F p0 p1 = some (l_szGather_S p0 p1) := (run_cond_some rfl rfl)
-- more
theorem l_szGather_len {p : Int × Int × List Int × Int × Int × Unit} (h : p.2.2.1.length ≤ maxLen) (hn : ¬ l_szGather_S p 1048576 < 0) : p.2.2.1.length ≤ 1048576 := by
  refine l_szInt64S_len h fun h2 => hn ?_
  unfold l_szGather_S
  rw [show decide (l_szInt64S_S p.2.2.1 1048576 < 0) = true from by simpa using h2, cond_true]
  decide
theorem l_szGather_le {p : Int × Int × List Int × Int × Int × Unit} (h : p.2.2.1.length ≤ 1048576) : l_szGather_S p 1048576 ≤ 1048576 := by
  have h2 : l_szInt64S_S p.2.2.1 1048576 ≤ 1048576 := by
    unfold l_szInt64S_S
    dsimp only
    rw [iwrap_i64 (by omega) (by omega)]
    cases decide ((1048576 : Int) - p.2.2.1.length < 0)
    · rw [cond_false]; omega
    · rw [cond_true]; decide
  unfold l_szGather_S
  cases decide (l_szInt64S_S p.2.2.1 1048576 < 0)
  · exact h2
  · rw [cond_true]; decide
noncomputable def l_szGather_V : Env := ⟨tau, [(35, l_szInt64S_c)], []⟩
noncomputable def l_szGather_b : Code := (Try.f7.body).getD .skip
noncomputable def l_szGather_I : FnI := ⟨l_szGather_b, Try.f7.results.toList, Try.f7.resultTypes.toList, []⟩
noncomputable def l_szGather_out (_zp0 : Bool) (_p0 : TGather) (_p1 : Int) : Int → CallOut := fun r => ⟨(.imm true (.int .i64) r), [], []⟩
set_option maxRecDepth 100000 in
theorem l_szGather_eq : ∀ (zp0 : Bool) (p0 : TGather) (p1 : Int), denFn l_szGather_V l_szGather_I ⟨[(.imm zp0 kGather p0), (.imm true (.int .i64) p1)], []⟩ = (l_szGather p0 p1).run fun r => some (l_szGather_out zp0 p0 p1 r) := fun _ _ _ => by kernel_rfl
noncomputable def l_szGather_G (av : List AV) (rs : List Root) : Tre CallOut :=
  asCons av fun a0_ av0 =>
  asCons av0 fun a1_ av1 =>
  asEnd av1 <|
  asEnd rs <|
  asImm kGather a0_ fun z2 d1 =>
  asImmZ true (.int .i64) a1_ fun d3 =>
  .ret (l_szGather_out z2 d1 d3 (l_szGather_S d1 d3))
noncomputable def l_szGather_c : Ctr := ⟨[], fun ci => l_szGather_G ci.args ci.roots⟩
theorem l_szGather_env : EnvOK Try.prog l_szGather_V := (envOK_cons l_szInt64S_ok ent35 envOK_nil)
set_option maxRecDepth 100000 in
theorem l_szGather_ok : Contract Try.prog 7 l_szGather_c := by
  have hl : LoopsOK l_szGather_V [] l_szGather_b := loopsOK_nil (by kernel_rfl)
  refine (contract_of (F := l_szGather_I) tau_tys l_szGather_env Try.func7 (by kernel_rfl) (by kernel_rfl) (by kernel_rfl) hl []).weaken ?_
  rintro ⟨av, rs⟩ co h
  have h : (l_szGather_G av rs).run some = some co := h
  obtain ⟨a0_, av0, rfl, h_0⟩ := asCons_spec h
  obtain ⟨a1_, av1, rfl, h_1⟩ := asCons_spec h_0
  obtain ⟨rfl, h_2⟩ := asEnd_spec h_1
  obtain ⟨rfl, h_3⟩ := asEnd_spec h_2
  obtain ⟨z2, d1, rfl, h_4⟩ := asImm_spec h_3
  obtain ⟨d3, rfl, h_5⟩ := asImmZ_spec h_4
  exact fin_ret (l_szGather_eq z2 d1 d3) (l_szGather_spec d1 d3) h_5
end Go.Proofs.Ytddaclhjnkimfaa

namespace Go.Proofs.Ytddaclhjnkimfaa
open Go Go.Abs Go.Proofs
noncomputable def l_szDeedS (p0 : (List TDeed)) (p1 : Int) : Tre Int :=
  let v1 := iwrap .i64 (p1 - (p0.length : Int))
  .cond (decide (v1 < 0))
    (.ret (-1))
    (.ret v1)
noncomputable def l_szDeedS_F (p0 : (List TDeed)) (p1 : Int) : Option Int := (l_szDeedS p0 p1).run some
def l_szDeedS_S (p0 : (List TDeed)) (p1 : Int) : Int :=
  let v1 := iwrap .i64 (p1 - (p0.length : Int))
  cond (decide (v1 < 0))
    (-1)
    (v1)
theorem l_szDeedS_spec (p0 : (List TDeed)) (p1 : Int) : l_szDeedS_F p0 p1 = some (l_szDeedS_S p0 p1) := (run_cond_some rfl rfl)
-- more
theorem l_szDeedS_len {xs : List (Int × Int × Int × Int × Unit)} {n : Int} (h : xs.length ≤ maxLen) (hn : n ≤ 1048576) (h0 : 0 ≤ n) (hs : ¬ l_szDeedS_S xs n < 0) : xs.length ≤ 1048576 := by
  unfold maxLen at h
  unfold l_szDeedS_S at hs
  dsimp only at hs
  rw [iwrap_i64 (by omega) (by omega)] at hs
  by_cases h2 : n - (xs.length : Int) < 0
  · simp [h2] at hs
  · omega
noncomputable def l_szDeedS_V : Env := ⟨tau, [], []⟩
noncomputable def l_szDeedS_b : Code := (Try.f8.body).getD .skip
noncomputable def l_szDeedS_I : FnI := ⟨l_szDeedS_b, Try.f8.results.toList, Try.f8.resultTypes.toList, []⟩
noncomputable def l_szDeedS_out (_zp0 : Bool) (_p0 : (List TDeed)) (_p1 : Int) : Int → CallOut := fun r => ⟨(.imm true (.int .i64) r), [], []⟩
set_option maxRecDepth 100000 in
theorem l_szDeedS_eq : ∀ (zp0 : Bool) (p0 : (List TDeed)) (p1 : Int), denFn l_szDeedS_V l_szDeedS_I ⟨[(.imm zp0 (.sl kDeed) p0), (.imm true (.int .i64) p1)], []⟩ = (l_szDeedS p0 p1).run fun r => some (l_szDeedS_out zp0 p0 p1 r) := fun _ _ _ => by kernel_rfl
noncomputable def l_szDeedS_G (av : List AV) (rs : List Root) : Tre CallOut :=
  asCons av fun a0_ av0 =>
  asCons av0 fun a1_ av1 =>
  asEnd av1 <|
  asEnd rs <|
  asImm (.sl kDeed) a0_ fun z2 d1 =>
  asImmZ true (.int .i64) a1_ fun d3 =>
  .ret (l_szDeedS_out z2 d1 d3 (l_szDeedS_S d1 d3))
noncomputable def l_szDeedS_c : Ctr := ⟨[], fun ci => l_szDeedS_G ci.args ci.roots⟩
theorem l_szDeedS_env : EnvOK Try.prog l_szDeedS_V := envOK_nil
set_option maxRecDepth 100000 in
theorem l_szDeedS_ok : Contract Try.prog 8 l_szDeedS_c := by
  have hl : LoopsOK l_szDeedS_V [] l_szDeedS_b := loopsOK_nil (by kernel_rfl)
  refine (contract_of (F := l_szDeedS_I) tau_tys l_szDeedS_env Try.func8 (by kernel_rfl) (by kernel_rfl) (by kernel_rfl) hl []).weaken ?_
  rintro ⟨av, rs⟩ co h
  have h : (l_szDeedS_G av rs).run some = some co := h
  obtain ⟨a0_, av0, rfl, h_0⟩ := asCons_spec h
  obtain ⟨a1_, av1, rfl, h_1⟩ := asCons_spec h_0
  obtain ⟨rfl, h_2⟩ := asEnd_spec h_1
  obtain ⟨rfl, h_3⟩ := asEnd_spec h_2
  obtain ⟨z2, d1, rfl, h_4⟩ := asImm_spec h_3
  obtain ⟨d3, rfl, h_5⟩ := asImmZ_spec h_4
  exact fin_ret (l_szDeedS_eq z2 d1 d3) (l_szDeedS_spec d1 d3) h_5
end Go.Proofs.Ytddaclhjnkimfaa

namespace Go.Proofs.Ytddaclhjnkimfaa
open Go Go.Abs Go.Proofs
noncomputable def l_toInt64S_l3 (h3_0_0 : (List Int)) : (Int × (List Int)) → Tre ((Int × (List Int)) ⊕ (List Int)) := fun s3 =>
  .cond (decide (s3.1 < (h3_0_0.length : Int)))
    (.ite (0 ≤ s3.1 ∧ s3.1 < (h3_0_0.length : Int)) <|
    .mat (h3_0_0[s3.1.toNat]?) fun x1 =>
    .ite (0 ≤ s3.1 ∧ s3.1 < (s3.2.length : Int)) <|
    .mat (s3.2[s3.1.toNat]?) fun _ =>
    let v3 := s3.2.set s3.1.toNat x1
    .ret (.inl (iwrap .i64 (s3.1 + 1), v3)))
    (.ret (.inr s3.2))
noncomputable def l_toInt64S (p0 : (List Int)) : Tre (List Int) :=
  .ite (((.int .i64) : K) = (.int .i64) ∧ 0 ≤ (p0.length : Int) ∧ (p0.length : Int) = (p0.length : Int) ∧ (p0.length : Int) * (8 : Nat) ≤ 140737488355328 ∧ 1 ≤ 8) <|
  .mat (loopF (l_toInt64S_l3 p0) (0, List.replicate (p0.length : Int).toNat 0)) fun l4 =>
  .ret l4
noncomputable def l_toInt64S_F (p0 : (List Int)) : Option (List Int) := (l_toInt64S p0).run some
theorem l_toInt64S_spec (p0 : List Int) (y : List Int) (h : cloneR p0 = some y) : l_toInt64S_F p0 = some y := by
  obtain ⟨hl, rfl⟩ := lim_some h
  unfold l_toInt64S_F l_toInt64S
  rw [Tre.run_ite, if_pos ⟨rfl, by omega, rfl, by omega, by omega⟩, Tre.run_mat]
  have := fold_loop (xs := p0) (step := l_toInt64S_l3 p0) (fun i acc => ((i : Int), acc)) (fun i acc x => .inl (acc.set i x)) id (fun i acc => acc.length = p0.length) (by
    intro i acc x hx hI
    have hi : i < p0.length := (List.getElem?_eq_some_iff.1 hx).1
    refine ⟨?_, fun a ha => by cases ha; simpa using hI⟩
    unfold l_toInt64S_l3
    rw [run_inb hx]
    rw [show acc.length = p0.length from hI] 
    rw [Tre.run_ite, if_pos ⟨by dsimp only; omega, by dsimp only; omega⟩, Tre.run_mat]
    dsimp only
    rw [Int.toNat_natCast, List.getElem?_eq_getElem (by omega : i < acc.length), Option.bind_some, Tre.run_ret, iwrap_succ (by omega)])
    (by
    intro acc hI
    unfold l_toInt64S_l3
    exact run_out)
    p0 0 (List.replicate p0.length 0) rfl (Nat.zero_le _) (by simp)
  rw [Int.toNat_natCast]
  rw [show ((0 : Int), List.replicate p0.length (0 : Int)) = (((0 : Nat) : Int), List.replicate p0.length 0) from rfl, this, foldE_set _ _ _ _ (by simp)]
  simp [Tre.run_ret]
noncomputable def l_toInt64S_V : Env := ⟨tau, [], []⟩
noncomputable def l_toInt64S_b : Code := (Try.f38.body).getD .skip
noncomputable def l_toInt64S_l3_mk (z3_0 : Bool) (h3_0_0 : (List Int)) : (Int × (List Int)) → St := fun x => stOf [(0, (.imm z3_0 (.sl (.int .i64)) h3_0_0)), (3, (.ref (5, 0) [])), (4, (.imm true (.int .i64) x.1))] [((5, 0), some ⟨false, (.sl (.int .i64)), .own, x.2⟩)]
noncomputable def l_toInt64S_l3_out (_z3_0 : Bool) (_h3_0_0 : (List Int)) : (List Int) → Ex × St := fun x => (.exit 0, stOf [(3, (.ref (5, 0) []))] [((5, 0), some ⟨false, (.sl (.int .i64)), .own, x⟩)])
noncomputable def l_toInt64S_l3_D (s : St) : Tre (Ex × St) :=
  asImm (.sl (.int .i64)) (s.tmps 0) fun z3 d2 =>
  asRef (5, 0) [] (s.tmps 3) <|
  asImmZ true (.int .i64) (s.tmps 4) fun d6 =>
  asRoot false (.sl (.int .i64)) (s.roots (5, 0)) fun m8 d9 =>
  asM .own m8 <|
  .mat (loopF (l_toInt64S_l3 d2) (d6, d9)) fun x => .ret (l_toInt64S_l3_out z3 d2 x)
noncomputable def l_toInt64S_l3_L : LoopI := ⟨([0, 3, 4], [(5, 0)]), ([3], [(5, 0)]), l_toInt64S_l3_D⟩
noncomputable def l_toInt64S_A : List (Nat × LoopI) := [(3, l_toInt64S_l3_L)]
set_option maxRecDepth 100000 in
theorem l_toInt64S_l3_step : ∀ (z3_0 : Bool) (h3_0_0 : (List Int)) (x : (Int × (List Int))) (c : St → Option (Ex × St)), den l_toInt64S_V l_toInt64S_A (loopAt l_toInt64S_b 0) (l_toInt64S_l3_mk z3_0 h3_0_0 x) (roundK l_toInt64S_l3_L.kp l_toInt64S_l3_L.kx c) = (l_toInt64S_l3 h3_0_0 x).run (roundR (l_toInt64S_l3_mk z3_0 h3_0_0) (l_toInt64S_l3_out z3_0 h3_0_0) c) := fun _ _ _ _ => by
  kernel_rfl
theorem l_toInt64S_l3_ok : LoopOK l_toInt64S_V l_toInt64S_A (loopAt l_toInt64S_b 0) l_toInt64S_l3_L := loopOK_of fun s e s' h => by
  generalize hs : restrict l_toInt64S_l3_L.kp s = s1 at h
  have h : (l_toInt64S_l3_D s1).run some = some (e, s') := h
  obtain ⟨z3, d2, e1, h_0⟩ := asImm_spec h
  obtain ⟨e4, h_1⟩ := asRef_spec h_0
  obtain ⟨d6, e5, h_2⟩ := asImmZ_spec h_1
  obtain ⟨m8, d9, e7, h_3⟩ := asRoot_spec h_2
  obtain ⟨rfl, h_4⟩ := asM_spec h_3
  obtain ⟨y, hy, hz⟩ := mat_ret h_4
  refine ⟨_, _, l_toInt64S_l3_mk z3 d2, l_toInt64S_l3_out z3 d2, l_toInt64S_l3 d2, (d6, d9), y, ?_, hy, ?_, l_toInt64S_l3_step z3 d2⟩
  · subst hs; exact restrict_eq (T := [(0, (.imm z3 (.sl (.int .i64)) d2)), (3, (.ref (5, 0) [])), (4, (.imm true (.int .i64) d6))]) (U := [((5, 0), some ⟨false, (.sl (.int .i64)), .own, d9⟩)]) rfl rfl ⟨e1, e4, e5, trivial⟩ ⟨e7, trivial⟩
  · exact Option.some.inj hz
noncomputable def l_toInt64S_I : FnI := ⟨l_toInt64S_b, Try.f38.results.toList, Try.f38.resultTypes.toList, l_toInt64S_A⟩
noncomputable def l_toInt64S_out (_zp0 : Bool) (_p0 : (List Int)) : (List Int) → CallOut := fun r => ⟨(.ref (1, 0) []), [], [⟨false, (.sl (.int .i64)), .own, r⟩]⟩
set_option maxRecDepth 100000 in
theorem l_toInt64S_eq : ∀ (zp0 : Bool) (p0 : (List Int)), denFn l_toInt64S_V l_toInt64S_I ⟨[(.imm zp0 (.sl (.int .i64)) p0)], []⟩ = (l_toInt64S p0).run fun r => some (l_toInt64S_out zp0 p0 r) := fun _ _ => by kernel_rfl
noncomputable def l_toInt64S_G (av : List AV) (rs : List Root) : Tre CallOut :=
  asCons av fun a0_ av0 =>
  asEnd av0 <|
  asEnd rs <|
  asImm (.sl (.int .i64)) a0_ fun z2 d1 =>
  .mat (cloneR d1) fun r => .ret (l_toInt64S_out z2 d1 r)
noncomputable def l_toInt64S_c : Ctr := ⟨[], fun ci => l_toInt64S_G ci.args ci.roots⟩
theorem l_toInt64S_env : EnvOK Try.prog l_toInt64S_V := envOK_nil
set_option maxRecDepth 100000 in
theorem l_toInt64S_ok : Contract Try.prog 38 l_toInt64S_c := by
  have hl : LoopsOK l_toInt64S_V l_toInt64S_A l_toInt64S_b := (loopsOK_all (n := 1) (by kernel_rfl) fun k hk => by
      match k, hk with
      | 0, _ => exact loopOK_at (id := 3) (L := l_toInt64S_l3_L) (by kernel_rfl) (by kernel_rfl) l_toInt64S_l3_ok)
  refine (contract_of (F := l_toInt64S_I) tau_tys l_toInt64S_env Try.func38 (by kernel_rfl) (by kernel_rfl) (by kernel_rfl) hl []).weaken ?_
  rintro ⟨av, rs⟩ co h
  have h : (l_toInt64S_G av rs).run some = some co := h
  obtain ⟨a0_, av0, rfl, h_0⟩ := asCons_spec h
  obtain ⟨rfl, h_1⟩ := asEnd_spec h_0
  obtain ⟨rfl, h_2⟩ := asEnd_spec h_1
  obtain ⟨z2, d1, rfl, h_3⟩ := asImm_spec h_2
  exact fin_opt (l_toInt64S_eq z2 d1) (l_toInt64S_spec d1) h_3
end Go.Proofs.Ytddaclhjnkimfaa

namespace Go.Proofs.Ytddaclhjnkimfaa
open Go Go.Abs Go.Proofs
noncomputable def l_toGather (p0 : TGather) : Tre (Int × Int × (Int × (Int × Unit)) × (List Int)) :=
  .mat (cloneR p0.2.2.1) fun r1 =>
  .ret (p0.1, p0.2.1, p0.2.2.2, r1)
noncomputable def l_toGather_F (p0 : TGather) : Option (Int × Int × (Int × (Int × Unit)) × (List Int)) := (l_toGather p0).run some
def toG (p0 : Int × Int × List Int × Int × Int × Unit) : Option (Int × Int × (Int × Int × Unit) × List Int) := lim p0.2.2.1.length (p0.1, p0.2.1, p0.2.2.2, p0.2.2.1)
theorem l_toGather_spec (p0 : Int × Int × List Int × Int × Int × Unit) (y : Int × Int × (Int × Int × Unit) × List Int) (h : toG p0 = some y) : l_toGather_F p0 = some y := by
  obtain ⟨hl, rfl⟩ := lim_some h
  unfold l_toGather_F l_toGather
  rw [run_some_mat (show cloneR p0.2.2.1 = some _ from lim_of hl)]
  rfl
noncomputable def l_toGather_V : Env := ⟨tau, [(38, l_toInt64S_c)], []⟩
noncomputable def l_toGather_b : Code := (Try.f10.body).getD .skip
noncomputable def l_toGather_I : FnI := ⟨l_toGather_b, Try.f10.results.toList, Try.f10.resultTypes.toList, []⟩
noncomputable def l_toGather_out (_zp0 : Bool) (_p0 : TGather) : (Int × Int × (Int × (Int × Unit)) × (List Int)) → CallOut := fun r => ⟨(.pair (.imm true (.int .i64) r.1) (.pair (.imm true (.int .i64) r.2.1) (.pair (.ref (1, 0) []) (.imm true kField r.2.2.1)))), [], [⟨false, (.sl (.int .i64)), .own, r.2.2.2⟩]⟩
set_option maxRecDepth 100000 in
theorem l_toGather_eq : ∀ (zp0 : Bool) (p0 : TGather), denFn l_toGather_V l_toGather_I ⟨[(.imm zp0 kGather p0)], []⟩ = (l_toGather p0).run fun r => some (l_toGather_out zp0 p0 r) := fun _ _ => by kernel_rfl
noncomputable def l_toGather_G (av : List AV) (rs : List Root) : Tre CallOut :=
  asCons av fun a0_ av0 =>
  asEnd av0 <|
  asEnd rs <|
  asImm kGather a0_ fun z2 d1 =>
  .mat (toG d1) fun r => .ret (l_toGather_out z2 d1 r)
noncomputable def l_toGather_c : Ctr := ⟨[], fun ci => l_toGather_G ci.args ci.roots⟩
theorem l_toGather_env : EnvOK Try.prog l_toGather_V := (envOK_cons l_toInt64S_ok ent38 envOK_nil)
set_option maxRecDepth 100000 in
theorem l_toGather_ok : Contract Try.prog 10 l_toGather_c := by
  have hl : LoopsOK l_toGather_V [] l_toGather_b := loopsOK_nil (by kernel_rfl)
  refine (contract_of (F := l_toGather_I) tau_tys l_toGather_env Try.func10 (by kernel_rfl) (by kernel_rfl) (by kernel_rfl) hl []).weaken ?_
  rintro ⟨av, rs⟩ co h
  have h : (l_toGather_G av rs).run some = some co := h
  obtain ⟨a0_, av0, rfl, h_0⟩ := asCons_spec h
  obtain ⟨rfl, h_1⟩ := asEnd_spec h_0
  obtain ⟨rfl, h_2⟩ := asEnd_spec h_1
  obtain ⟨z2, d1, rfl, h_3⟩ := asImm_spec h_2
  exact fin_opt (l_toGather_eq z2 d1) (l_toGather_spec d1) h_3
end Go.Proofs.Ytddaclhjnkimfaa

namespace Go.Proofs.Ytddaclhjnkimfaa
open Go Go.Abs Go.Proofs
noncomputable def l_toDeed (_p0 : TDeed) : Tre Unit :=
  .ret ()
noncomputable def l_toDeed_F (p0 : TDeed) : Option Unit := (l_toDeed p0).run some
theorem l_toDeed_spec (p0 : TDeed) : l_toDeed_F p0 = some () := rfl
noncomputable def l_toDeed_V : Env := ⟨tau, [], []⟩
noncomputable def l_toDeed_b : Code := (Try.f39.body).getD .skip
noncomputable def l_toDeed_I : FnI := ⟨l_toDeed_b, Try.f39.results.toList, Try.f39.resultTypes.toList, []⟩
noncomputable def l_toDeed_out (p0 : TDeed) : Unit → CallOut := fun _ => ⟨(.imm true kDeed p0), [], []⟩
set_option maxRecDepth 100000 in
theorem l_toDeed_eq : ∀ (p0 : TDeed), denFn l_toDeed_V l_toDeed_I ⟨[(.imm true kDeed p0)], []⟩ = (l_toDeed p0).run fun r => some (l_toDeed_out p0 r) := fun _ => by kernel_rfl
noncomputable def l_toDeed_G (av : List AV) (rs : List Root) : Tre CallOut :=
  asCons av fun a0_ av0 =>
  asEnd av0 <|
  asEnd rs <|
  asImmZ true kDeed a0_ fun d1 =>
  .ret (l_toDeed_out d1 ())
noncomputable def l_toDeed_c : Ctr := ⟨[], fun ci => l_toDeed_G ci.args ci.roots⟩
theorem l_toDeed_env : EnvOK Try.prog l_toDeed_V := envOK_nil
set_option maxRecDepth 100000 in
theorem l_toDeed_ok : Contract Try.prog 39 l_toDeed_c := by
  have hl : LoopsOK l_toDeed_V [] l_toDeed_b := loopsOK_nil (by kernel_rfl)
  refine (contract_of (F := l_toDeed_I) tau_tys l_toDeed_env Try.func39 (by kernel_rfl) (by kernel_rfl) (by kernel_rfl) hl []).weaken ?_
  rintro ⟨av, rs⟩ co h
  have h : (l_toDeed_G av rs).run some = some co := h
  obtain ⟨a0_, av0, rfl, h_0⟩ := asCons_spec h
  obtain ⟨rfl, h_1⟩ := asEnd_spec h_0
  obtain ⟨rfl, h_2⟩ := asEnd_spec h_1
  obtain ⟨d1, rfl, h_3⟩ := asImmZ_spec h_2
  exact fin_ret (l_toDeed_eq d1) (l_toDeed_spec d1) h_3
end Go.Proofs.Ytddaclhjnkimfaa

namespace Go.Proofs.Ytddaclhjnkimfaa
open Go Go.Abs Go.Proofs
noncomputable def l_toDeedS_l3 (h3_0_0 : (List TDeed)) : (Int × (List TDeed)) → Tre ((Int × (List TDeed)) ⊕ (List TDeed)) := fun s3 =>
  .cond (decide (s3.1 < (h3_0_0.length : Int)))
    (.ite (0 ≤ s3.1 ∧ s3.1 < (h3_0_0.length : Int)) <|
    .mat (h3_0_0[s3.1.toNat]?) fun x1 =>
    .ite (0 ≤ s3.1 ∧ s3.1 < (s3.2.length : Int)) <|
    .mat (s3.2[s3.1.toNat]?) fun _ =>
    let v3 := s3.2.set s3.1.toNat x1
    .ret (.inl (iwrap .i64 (s3.1 + 1), v3)))
    (.ret (.inr s3.2))
noncomputable def l_toDeedS (p0 : (List TDeed)) : Tre (List TDeed) :=
  .ite ((kDeed : K) = kDeed ∧ 0 ≤ (p0.length : Int) ∧ (p0.length : Int) = (p0.length : Int) ∧ (p0.length : Int) * (32 : Nat) ≤ 140737488355328 ∧ 1 ≤ 32) <|
  .mat (loopF (l_toDeedS_l3 p0) (0, List.replicate (p0.length : Int).toNat (0, (0, (0, (0, ())))))) fun l4 =>
  .ret l4
noncomputable def l_toDeedS_F (p0 : (List TDeed)) : Option (List TDeed) := (l_toDeedS p0).run some
theorem l_toDeedS_spec (p0 : List (Int × Int × Int × Int × Unit)) (y : List (Int × Int × Int × Int × Unit)) (h : cloneR p0 = some y) : l_toDeedS_F p0 = some y := by
  obtain ⟨hl, rfl⟩ := lim_some h
  unfold l_toDeedS_F l_toDeedS
  rw [Tre.run_ite, if_pos ⟨rfl, by omega, rfl, by omega, by omega⟩, Tre.run_mat]
  have := fold_loop (xs := p0) (step := l_toDeedS_l3 p0) (fun i acc => ((i : Int), acc)) (fun i acc x => .inl (acc.set i x)) id (fun i acc => acc.length = p0.length) (by
    intro i acc x hx hI
    have hi : i < p0.length := (List.getElem?_eq_some_iff.1 hx).1
    refine ⟨?_, fun a ha => by cases ha; simpa using hI⟩
    unfold l_toDeedS_l3
    rw [run_inb hx]
    rw [show acc.length = p0.length from hI] 
    rw [Tre.run_ite, if_pos ⟨by dsimp only; omega, by dsimp only; omega⟩, Tre.run_mat]
    dsimp only
    rw [Int.toNat_natCast, List.getElem?_eq_getElem (by omega : i < acc.length), Option.bind_some, Tre.run_ret, iwrap_succ (by omega)])
    (by
    intro acc hI
    unfold l_toDeedS_l3
    exact run_out)
    p0 0 (List.replicate p0.length (0, 0, 0, 0, ())) rfl (Nat.zero_le _) (by simp)
  rw [Int.toNat_natCast]
  rw [show ((0 : Int), List.replicate p0.length ((0, 0, 0, 0, ()) : Int × Int × Int × Int × Unit)) = (((0 : Nat) : Int), List.replicate p0.length (0, 0, 0, 0, ())) from rfl, this, foldE_set _ _ _ _ (by simp)]
  simp [Tre.run_ret]
noncomputable def l_toDeedS_V : Env := ⟨tau, [(39, l_toDeed_c)], []⟩
noncomputable def l_toDeedS_b : Code := (Try.f11.body).getD .skip
noncomputable def l_toDeedS_l3_mk (z3_0 : Bool) (h3_0_0 : (List TDeed)) : (Int × (List TDeed)) → St := fun x => stOf [(0, (.imm z3_0 (.sl kDeed) h3_0_0)), (3, (.ref (5, 0) [])), (4, (.imm true (.int .i64) x.1))] [((5, 0), some ⟨false, (.sl kDeed), .own, x.2⟩)]
noncomputable def l_toDeedS_l3_out (_z3_0 : Bool) (_h3_0_0 : (List TDeed)) : (List TDeed) → Ex × St := fun x => (.exit 0, stOf [(3, (.ref (5, 0) []))] [((5, 0), some ⟨false, (.sl kDeed), .own, x⟩)])
noncomputable def l_toDeedS_l3_D (s : St) : Tre (Ex × St) :=
  asImm (.sl kDeed) (s.tmps 0) fun z3 d2 =>
  asRef (5, 0) [] (s.tmps 3) <|
  asImmZ true (.int .i64) (s.tmps 4) fun d6 =>
  asRoot false (.sl kDeed) (s.roots (5, 0)) fun m8 d9 =>
  asM .own m8 <|
  .mat (loopF (l_toDeedS_l3 d2) (d6, d9)) fun x => .ret (l_toDeedS_l3_out z3 d2 x)
noncomputable def l_toDeedS_l3_L : LoopI := ⟨([0, 3, 4], [(5, 0)]), ([3], [(5, 0)]), l_toDeedS_l3_D⟩
noncomputable def l_toDeedS_A : List (Nat × LoopI) := [(3, l_toDeedS_l3_L)]
set_option maxRecDepth 100000 in
theorem l_toDeedS_l3_step : ∀ (z3_0 : Bool) (h3_0_0 : (List TDeed)) (x : (Int × (List TDeed))) (c : St → Option (Ex × St)), den l_toDeedS_V l_toDeedS_A (loopAt l_toDeedS_b 0) (l_toDeedS_l3_mk z3_0 h3_0_0 x) (roundK l_toDeedS_l3_L.kp l_toDeedS_l3_L.kx c) = (l_toDeedS_l3 h3_0_0 x).run (roundR (l_toDeedS_l3_mk z3_0 h3_0_0) (l_toDeedS_l3_out z3_0 h3_0_0) c) := fun _ _ _ _ => by
  kernel_rfl
theorem l_toDeedS_l3_ok : LoopOK l_toDeedS_V l_toDeedS_A (loopAt l_toDeedS_b 0) l_toDeedS_l3_L := loopOK_of fun s e s' h => by
  generalize hs : restrict l_toDeedS_l3_L.kp s = s1 at h
  have h : (l_toDeedS_l3_D s1).run some = some (e, s') := h
  obtain ⟨z3, d2, e1, h_0⟩ := asImm_spec h
  obtain ⟨e4, h_1⟩ := asRef_spec h_0
  obtain ⟨d6, e5, h_2⟩ := asImmZ_spec h_1
  obtain ⟨m8, d9, e7, h_3⟩ := asRoot_spec h_2
  obtain ⟨rfl, h_4⟩ := asM_spec h_3
  obtain ⟨y, hy, hz⟩ := mat_ret h_4
  refine ⟨_, _, l_toDeedS_l3_mk z3 d2, l_toDeedS_l3_out z3 d2, l_toDeedS_l3 d2, (d6, d9), y, ?_, hy, ?_, l_toDeedS_l3_step z3 d2⟩
  · subst hs; exact restrict_eq (T := [(0, (.imm z3 (.sl kDeed) d2)), (3, (.ref (5, 0) [])), (4, (.imm true (.int .i64) d6))]) (U := [((5, 0), some ⟨false, (.sl kDeed), .own, d9⟩)]) rfl rfl ⟨e1, e4, e5, trivial⟩ ⟨e7, trivial⟩
  · exact Option.some.inj hz
noncomputable def l_toDeedS_I : FnI := ⟨l_toDeedS_b, Try.f11.results.toList, Try.f11.resultTypes.toList, l_toDeedS_A⟩
noncomputable def l_toDeedS_out (_zp0 : Bool) (_p0 : (List TDeed)) : (List TDeed) → CallOut := fun r => ⟨(.ref (1, 0) []), [], [⟨false, (.sl kDeed), .own, r⟩]⟩
set_option maxRecDepth 100000 in
theorem l_toDeedS_eq : ∀ (zp0 : Bool) (p0 : (List TDeed)), denFn l_toDeedS_V l_toDeedS_I ⟨[(.imm zp0 (.sl kDeed) p0)], []⟩ = (l_toDeedS p0).run fun r => some (l_toDeedS_out zp0 p0 r) := fun _ _ => by kernel_rfl
noncomputable def l_toDeedS_G (av : List AV) (rs : List Root) : Tre CallOut :=
  asCons av fun a0_ av0 =>
  asEnd av0 <|
  asEnd rs <|
  asImm (.sl kDeed) a0_ fun z2 d1 =>
  .mat (cloneR d1) fun r => .ret (l_toDeedS_out z2 d1 r)
noncomputable def l_toDeedS_c : Ctr := ⟨[], fun ci => l_toDeedS_G ci.args ci.roots⟩
theorem l_toDeedS_env : EnvOK Try.prog l_toDeedS_V := (envOK_cons l_toDeed_ok ent39 envOK_nil)
set_option maxRecDepth 100000 in
theorem l_toDeedS_ok : Contract Try.prog 11 l_toDeedS_c := by
  have hl : LoopsOK l_toDeedS_V l_toDeedS_A l_toDeedS_b := (loopsOK_all (n := 1) (by kernel_rfl) fun k hk => by
      match k, hk with
      | 0, _ => exact loopOK_at (id := 3) (L := l_toDeedS_l3_L) (by kernel_rfl) (by kernel_rfl) l_toDeedS_l3_ok)
  refine (contract_of (F := l_toDeedS_I) tau_tys l_toDeedS_env Try.func11 (by kernel_rfl) (by kernel_rfl) (by kernel_rfl) hl []).weaken ?_
  rintro ⟨av, rs⟩ co h
  have h : (l_toDeedS_G av rs).run some = some co := h
  obtain ⟨a0_, av0, rfl, h_0⟩ := asCons_spec h
  obtain ⟨rfl, h_1⟩ := asEnd_spec h_0
  obtain ⟨rfl, h_2⟩ := asEnd_spec h_1
  obtain ⟨z2, d1, rfl, h_3⟩ := asImm_spec h_2
  exact fin_opt (l_toDeedS_eq z2 d1) (l_toDeedS_spec d1) h_3
end Go.Proofs.Ytddaclhjnkimfaa

namespace Go.Proofs.Ytddaclhjnkimfaa
open Go Go.Abs Go.Proofs
noncomputable def s_l00In (p0 : Int) (p1 : Int) (p2 : Int) : Tre Bool :=
  .cond (decide (p0 ≥ p1))
    (.ret (decide (p0 ≤ p2)))
    (.ret false)
noncomputable def s_l00In_F (p0 : Int) (p1 : Int) (p2 : Int) : Option Bool := (s_l00In p0 p1 p2).run some
theorem s_l00In_spec (n a b : Int) : s_l00In_F n a b = some (inR n a b) := by
  unfold s_l00In_F s_l00In inR
  by_cases h : a ≤ n
  · simp [Tre.run_cond, Tre.run_ret, h]
  · simp [Tre.run_cond, Tre.run_ret, h]
noncomputable def s_l00In_V : Env := ⟨tau, [], []⟩
noncomputable def s_l00In_b : Code := (Try.f72.body).getD .skip
noncomputable def s_l00In_I : FnI := ⟨s_l00In_b, Try.f72.results.toList, Try.f72.resultTypes.toList, []⟩
noncomputable def s_l00In_out (_p0 : Int) (_p1 : Int) (_p2 : Int) : Bool → CallOut := fun r => ⟨(.imm true .bool r), [], []⟩
set_option maxRecDepth 100000 in
theorem s_l00In_eq : ∀ (p0 : Int) (p1 : Int) (p2 : Int), denFn s_l00In_V s_l00In_I ⟨[(.imm true (.int .i64) p0), (.imm true (.int .i64) p1), (.imm true (.int .i64) p2)], []⟩ = (s_l00In p0 p1 p2).run fun r => some (s_l00In_out p0 p1 p2 r) := fun _ _ _ => by kernel_rfl
noncomputable def s_l00In_G (av : List AV) (rs : List Root) : Tre CallOut :=
  asCons av fun a0_ av0 =>
  asCons av0 fun a1_ av1 =>
  asCons av1 fun a2_ av2 =>
  asEnd av2 <|
  asEnd rs <|
  asImmZ true (.int .i64) a0_ fun d1 =>
  asImmZ true (.int .i64) a1_ fun d2 =>
  asImmZ true (.int .i64) a2_ fun d3 =>
  .ret (s_l00In_out d1 d2 d3 (inR d1 d2 d3))
noncomputable def s_l00In_c : Ctr := ⟨[], fun ci => s_l00In_G ci.args ci.roots⟩
theorem s_l00In_env : EnvOK Try.prog s_l00In_V := envOK_nil
set_option maxRecDepth 100000 in
theorem s_l00In_ok : Contract Try.prog 72 s_l00In_c := by
  have hl : LoopsOK s_l00In_V [] s_l00In_b := loopsOK_nil (by kernel_rfl)
  refine (contract_of (F := s_l00In_I) tau_tys s_l00In_env Try.func72 (by kernel_rfl) (by kernel_rfl) (by kernel_rfl) hl []).weaken ?_
  rintro ⟨av, rs⟩ co h
  have h : (s_l00In_G av rs).run some = some co := h
  obtain ⟨a0_, av0, rfl, h_0⟩ := asCons_spec h
  obtain ⟨a1_, av1, rfl, h_1⟩ := asCons_spec h_0
  obtain ⟨a2_, av2, rfl, h_2⟩ := asCons_spec h_1
  obtain ⟨rfl, h_3⟩ := asEnd_spec h_2
  obtain ⟨rfl, h_4⟩ := asEnd_spec h_3
  obtain ⟨d1, rfl, h_5⟩ := asImmZ_spec h_4
  obtain ⟨d2, rfl, h_6⟩ := asImmZ_spec h_5
  obtain ⟨d3, rfl, h_7⟩ := asImmZ_spec h_6
  exact fin_ret (s_l00In_eq d1 d2 d3) (s_l00In_spec d1 d2 d3) h_7
end Go.Proofs.Ytddaclhjnkimfaa

namespace Go.Proofs.Ytddaclhjnkimfaa
open Go Go.Abs Go.Proofs
noncomputable def s_l08Ok_9aa7_l4 (h4_0_1 : TGather) : Int → Tre (Int ⊕ (Bool ⊕ Unit)) := fun s4 =>
  .cond (decide (s4 < (h4_0_1.2.2.1.length : Int)))
    (.ite (0 ≤ s4 ∧ s4 < (h4_0_1.2.2.1.length : Int)) <|
    .mat (h4_0_1.2.2.1[s4.toNat]?) fun x1 =>
    .ite (0 ≤ iwrap .u64 h4_0_1.2.1) <|
    let v2 := ishl .i64 1 (iwrap .u64 h4_0_1.2.1)
    let v3 := inR x1 0 (iwrap .i64 (v2 - 1))
    .cond (!v3)
      (.ret (.inr (.inl false)))
      (.ret (.inl (iwrap .i64 (s4 + 1)))))
    (.ret (.inr (.inr ())))
noncomputable def s_l08Ok_9aa7 (p0 : TGather) : Tre Bool :=
  .cond (!(inR p0.1 1 4))
    (.ret false)
    (.cond (!(inR p0.2.1 1 6))
      (.ret false)
      (.cond (!decide ((p0.2.2.1.length : Int) = p0.1))
        (.ret false)
        (.mat (loopF (s_l08Ok_9aa7_l4 p0) 0) fun l4 =>
        .alt l4
          (fun a5 =>
            .ret a5)
          (fun _ =>
            .cond (inR p0.2.2.2.1 0 3)
              (.ret (inR p0.2.2.2.2.1 1 3))
              (.ret false)))))
noncomputable def s_l08Ok_9aa7_F (p0 : TGather) : Option Bool := (s_l08Ok_9aa7 p0).run some
def isG (p : Int × Int × List Int × Int × Int × Unit) : Bool := inR p.1 1 4 && inR p.2.1 1 6 && decide ((p.2.2.1.length : Int) = p.1) && p.2.2.1.all (inP p.2.1) && inR p.2.2.2.1 0 3 && inR p.2.2.2.2.1 1 3
def okG (p : Int × Int × List Int × Int × Int × Unit) : Option Bool := lim p.2.2.1.length (isG p)
theorem s_l08Ok_9aa7_l4_all (p0 : Int × Int × List Int × Int × Int × Unit) (h : inR p0.2.1 1 6 = true) (hl : p0.2.2.1.length ≤ 1048576) : loopF (s_l08Ok_9aa7_l4 p0) 0 = some (cond (p0.2.2.1.all (inP p0.2.1)) (.inr ()) (.inl false)) := by
  rw [inR_iff] at h
  have hw : iwrap .u64 p0.2.1 = p0.2.1 := iwrap_u64 (by omega) (by omega)
  rw [find_loop (xs := p0.2.2.1) (fun _ x => cond (inP p0.2.1 x) none (some (.inl false))) (.inr ()), findE_all]
  · intro i x hx
    have hi : i < p0.2.2.1.length := (List.getElem?_eq_some_iff.1 hx).1
    unfold s_l08Ok_9aa7_l4
    rw [run_inb hx, hw, Tre.run_ite, if_pos (by omega), Tre.run_cond]
    show cond (!inP p0.2.1 x) _ _ = _
    cases inP p0.2.1 x
    · rfl
    · simp only [Bool.not_true, cond_false, cond_true, Tre.run_ret, iwrap_succ (show i < 4611686018427387904 by omega)]
  · unfold s_l08Ok_9aa7_l4
    exact run_out
theorem s_l08Ok_9aa7_spec (p0 : Int × Int × List Int × Int × Int × Unit) (y : Bool) (h : okG p0 = some y) : s_l08Ok_9aa7_F p0 = some y := by
  obtain ⟨hl, rfl⟩ := lim_some h
  unfold s_l08Ok_9aa7_F s_l08Ok_9aa7 isG
  simp only [Tre.run_cond, Tre.run_mat, Tre.run_ret]
  cases h1 : inR p0.1 1 4
  · rfl
  cases h2 : inR p0.2.1 1 6
  · rfl
  cases h3 : decide ((p0.2.2.1.length : Int) = p0.1)
  · rfl
  simp only [Bool.not_true, cond_false, Bool.true_and]
  rw [s_l08Ok_9aa7_l4_all p0 h2 hl, Option.bind_some]
  cases p0.2.2.1.all (inP p0.2.1)
  · rfl
  cases h4 : inR p0.2.2.2.1 0 3
  · simp [Tre.run_inr, Tre.run_cond, Tre.run_ret, h4]
  · simp [Tre.run_inr, Tre.run_cond, Tre.run_ret, h4]
noncomputable def s_l08Ok_9aa7_V : Env := ⟨tau, [(72, s_l00In_c)], []⟩
noncomputable def s_l08Ok_9aa7_b : Code := (Try.f83.body).getD .skip
noncomputable def s_l08Ok_9aa7_l4_mk (z4_0 : Bool) (h4_0_1 : TGather) : Int → St := fun x => stOf [(0, (.ptr (0, 0) [])), (3, (.imm true (.int .i64) x))] [((0, 0), some ⟨true, kGather, (.imm z4_0), h4_0_1⟩)]
noncomputable def s_l08Ok_9aa7_l4_out (z4_0 : Bool) (h4_0_1 : TGather) : (Bool ⊕ Unit) → Ex × St
  | .inl x => (.ret, stOf [(0, (.ptr (0, 0) [])), (2, (.imm true .bool x))] [((0, 0), some ⟨true, kGather, (.imm z4_0), h4_0_1⟩)])
  | .inr x => (.exit 0, stOf [(0, (.ptr (0, 0) [])), (2, .dead)] [((0, 0), some ⟨true, kGather, (.imm z4_0), h4_0_1⟩)])
noncomputable def s_l08Ok_9aa7_l4_D (s : St) : Tre (Ex × St) :=
  asPtr (0, 0) [] (s.tmps 0) <|
  asImmZ true (.int .i64) (s.tmps 3) fun d3 =>
  asRoot true kGather (s.roots (0, 0)) fun m5 d6 =>
  asMImm m5 fun z7 =>
  .mat (loopF (s_l08Ok_9aa7_l4 d6) d3) fun x => .alt x (fun a0 => .ret (s_l08Ok_9aa7_l4_out z7 d6 (.inl a0))) (fun b0 => .ret (s_l08Ok_9aa7_l4_out z7 d6 (.inr b0)))
noncomputable def s_l08Ok_9aa7_l4_L : LoopI := ⟨([0, 3], [(0, 0)]), ([0, 2], [(0, 0)]), s_l08Ok_9aa7_l4_D⟩
noncomputable def s_l08Ok_9aa7_A : List (Nat × LoopI) := [(4, s_l08Ok_9aa7_l4_L)]
set_option maxRecDepth 100000 in
theorem s_l08Ok_9aa7_l4_step : ∀ (z4_0 : Bool) (h4_0_1 : TGather) (x : Int) (c : St → Option (Ex × St)), den s_l08Ok_9aa7_V s_l08Ok_9aa7_A (loopAt s_l08Ok_9aa7_b 0) (s_l08Ok_9aa7_l4_mk z4_0 h4_0_1 x) (roundK s_l08Ok_9aa7_l4_L.kp s_l08Ok_9aa7_l4_L.kx c) = (s_l08Ok_9aa7_l4 h4_0_1 x).run (roundR (s_l08Ok_9aa7_l4_mk z4_0 h4_0_1) (s_l08Ok_9aa7_l4_out z4_0 h4_0_1) c) := fun _ _ _ _ => by
  kernel_rfl
theorem s_l08Ok_9aa7_l4_ok : LoopOK s_l08Ok_9aa7_V s_l08Ok_9aa7_A (loopAt s_l08Ok_9aa7_b 0) s_l08Ok_9aa7_l4_L := loopOK_of fun s e s' h => by
  generalize hs : restrict s_l08Ok_9aa7_l4_L.kp s = s1 at h
  have h : (s_l08Ok_9aa7_l4_D s1).run some = some (e, s') := h
  obtain ⟨e1, h_0⟩ := asPtr_spec h
  obtain ⟨d3, e2, h_1⟩ := asImmZ_spec h_0
  obtain ⟨m5, d6, e4, h_2⟩ := asRoot_spec h_1
  obtain ⟨z7, rfl, h_3⟩ := asMImm_spec h_2
  obtain ⟨y, hy, hz⟩ := mat_some h_3
  refine ⟨_, _, s_l08Ok_9aa7_l4_mk z7 d6, s_l08Ok_9aa7_l4_out z7 d6, s_l08Ok_9aa7_l4 d6, d3, y, ?_, hy, ?_, s_l08Ok_9aa7_l4_step z7 d6⟩
  · subst hs; exact restrict_eq (T := [(0, (.ptr (0, 0) [])), (3, (.imm true (.int .i64) d3))]) (U := [((0, 0), some ⟨true, kGather, (.imm z7), d6⟩)]) rfl rfl ⟨e1, e2, trivial⟩ ⟨e4, trivial⟩
  · rcases y with x | x <;> exact Option.some.inj hz
noncomputable def s_l08Ok_9aa7_I : FnI := ⟨s_l08Ok_9aa7_b, Try.f83.results.toList, Try.f83.resultTypes.toList, s_l08Ok_9aa7_A⟩
noncomputable def s_l08Ok_9aa7_out (zp0 : Bool) (p0 : TGather) : Bool → CallOut := fun r => ⟨(.imm true .bool r), [⟨true, kGather, (.imm zp0), p0⟩], []⟩
set_option maxRecDepth 100000 in
theorem s_l08Ok_9aa7_eq : ∀ (zp0 : Bool) (p0 : TGather), denFn s_l08Ok_9aa7_V s_l08Ok_9aa7_I ⟨[(.ptr (0, 0) [])], [⟨true, kGather, (.imm zp0), p0⟩]⟩ = (s_l08Ok_9aa7 p0).run fun r => some (s_l08Ok_9aa7_out zp0 p0 r) := fun _ _ => by kernel_rfl
noncomputable def s_l08Ok_9aa7_G (av : List AV) (rs : List Root) : Tre CallOut :=
  asCons av fun a0_ av0 =>
  asEnd av0 <|
  asCons rs fun r0_ rs0 =>
  asEnd rs0 <|
  asPtr (0, 0) [] a0_ <|
  asRt true kGather r0_ fun m1 d2 =>
  asMImm m1 fun z3 =>
  .mat (okG d2) fun r => .ret (s_l08Ok_9aa7_out z3 d2 r)
noncomputable def s_l08Ok_9aa7_c : Ctr := ⟨[], fun ci => s_l08Ok_9aa7_G ci.args ci.roots⟩
theorem s_l08Ok_9aa7_env : EnvOK Try.prog s_l08Ok_9aa7_V := (envOK_cons s_l00In_ok ent72 envOK_nil)
set_option maxRecDepth 100000 in
theorem s_l08Ok_9aa7_ok : Contract Try.prog 83 s_l08Ok_9aa7_c := by
  have hl : LoopsOK s_l08Ok_9aa7_V s_l08Ok_9aa7_A s_l08Ok_9aa7_b := (loopsOK_all (n := 1) (by kernel_rfl) fun k hk => by
      match k, hk with
      | 0, _ => exact loopOK_at (id := 4) (L := s_l08Ok_9aa7_l4_L) (by kernel_rfl) (by kernel_rfl) s_l08Ok_9aa7_l4_ok)
  refine (contract_of (F := s_l08Ok_9aa7_I) tau_tys s_l08Ok_9aa7_env Try.func83 (by kernel_rfl) (by kernel_rfl) (by kernel_rfl) hl []).weaken ?_
  rintro ⟨av, rs⟩ co h
  have h : (s_l08Ok_9aa7_G av rs).run some = some co := h
  obtain ⟨a0_, av0, rfl, h_0⟩ := asCons_spec h
  obtain ⟨rfl, h_1⟩ := asEnd_spec h_0
  obtain ⟨r0_, rs0, rfl, h_2⟩ := asCons_spec h_1
  obtain ⟨rfl, h_3⟩ := asEnd_spec h_2
  obtain ⟨rfl, h_4⟩ := asPtr_spec h_3
  obtain ⟨m1, d2, rfl, h_5⟩ := asRt_spec h_4
  obtain ⟨z3, rfl, h_6⟩ := asMImm_spec h_5
  exact fin_opt (s_l08Ok_9aa7_eq z3 d2) (s_l08Ok_9aa7_spec d2) h_6
end Go.Proofs.Ytddaclhjnkimfaa

namespace Go.Proofs.Ytddaclhjnkimfaa
open Go Go.Abs Go.Proofs
noncomputable def s_l08Words : Tre ((List ByteArray) × (List Int)) :=
  .ret ([(⟨#[]⟩ : ByteArray), (⟨#[115, 101, 110, 100]⟩ : ByteArray), (⟨#[100, 101, 108, 105, 118, 101, 114]⟩ : ByteArray), (⟨#[99, 111, 112, 121]⟩ : ByteArray), (⟨#[100, 114, 111, 112]⟩ : ByteArray), (⟨#[115, 112, 111, 105, 108]⟩ : ByteArray), (⟨#[115, 97, 118, 101]⟩ : ByteArray), (⟨#[99, 114, 97, 115, 104]⟩ : ByteArray), (⟨#[102, 111, 114, 103, 101, 116]⟩ : ByteArray)], [0, 3, 1, 1, 1, 2, 1, 1, 1])
noncomputable def s_l08Words_F : Option ((List ByteArray) × (List Int)) := (s_l08Words).run some
def s_l08Words_S : ((List ByteArray) × (List Int)) :=
  ([(⟨#[]⟩ : ByteArray), (⟨#[115, 101, 110, 100]⟩ : ByteArray), (⟨#[100, 101, 108, 105, 118, 101, 114]⟩ : ByteArray), (⟨#[99, 111, 112, 121]⟩ : ByteArray), (⟨#[100, 114, 111, 112]⟩ : ByteArray), (⟨#[115, 112, 111, 105, 108]⟩ : ByteArray), (⟨#[115, 97, 118, 101]⟩ : ByteArray), (⟨#[99, 114, 97, 115, 104]⟩ : ByteArray), (⟨#[102, 111, 114, 103, 101, 116]⟩ : ByteArray)], [0, 3, 1, 1, 1, 2, 1, 1, 1])
theorem s_l08Words_spec : s_l08Words_F = some s_l08Words_S := rfl
noncomputable def s_l08Words_V : Env := ⟨tau, [], []⟩
noncomputable def s_l08Words_b : Code := (Try.f107.body).getD .skip
noncomputable def s_l08Words_I : FnI := ⟨s_l08Words_b, Try.f107.results.toList, Try.f107.resultTypes.toList, []⟩
noncomputable def s_l08Words_out : ((List ByteArray) × (List Int)) → CallOut := fun r => ⟨(.tcons (.ref (1, 0) []) (.tcons (.ref (1, 1) []) .tnil)), [], [⟨false, (.sl .str), .own, r.1⟩, ⟨false, (.sl (.int .i64)), .own, r.2⟩]⟩
set_option maxRecDepth 100000 in
theorem s_l08Words_eq : denFn s_l08Words_V s_l08Words_I ⟨[], []⟩ = (s_l08Words).run fun r => some (s_l08Words_out r) := by kernel_rfl
noncomputable def s_l08Words_G (av : List AV) (rs : List Root) : Tre CallOut :=
  asEnd av <|
  asEnd rs <|
  .ret (s_l08Words_out s_l08Words_S)
noncomputable def s_l08Words_c : Ctr := ⟨[], fun ci => s_l08Words_G ci.args ci.roots⟩
theorem s_l08Words_env : EnvOK Try.prog s_l08Words_V := envOK_nil
set_option maxRecDepth 100000 in
theorem s_l08Words_ok : Contract Try.prog 107 s_l08Words_c := by
  have hl : LoopsOK s_l08Words_V [] s_l08Words_b := loopsOK_nil (by kernel_rfl)
  refine (contract_of (F := s_l08Words_I) tau_tys s_l08Words_env Try.func107 (by kernel_rfl) (by kernel_rfl) (by kernel_rfl) hl []).weaken ?_
  rintro ⟨av, rs⟩ co h
  have h : (s_l08Words_G av rs).run some = some co := h
  obtain ⟨rfl, h_0⟩ := asEnd_spec h
  obtain ⟨rfl, h_1⟩ := asEnd_spec h_0
  exact fin_ret (s_l08Words_eq) (s_l08Words_spec) h_1
end Go.Proofs.Ytddaclhjnkimfaa

namespace Go.Proofs.Ytddaclhjnkimfaa
open Go Go.Abs Go.Proofs
noncomputable def s_l08Deed (p0 : TDeed) : Tre Bool :=
  .cond (!(inR p0.1 1 8))
    (.ret false)
    (.cond (!(inR p0.2.1 0 9999))
      (.ret false)
      (.cond (!(inR p0.2.2.1 0 9999))
        (.ret false)
        (.cond (!(inR p0.2.2.2.1 0 9999))
          (.ret false)
          (.ite (0 ≤ p0.1 ∧ p0.1 < (s_l08Words_S.2.length : Int)) <|
          .mat (s_l08Words_S.2[p0.1.toNat]?) fun x1 =>
          .cond (decide (x1 > 1))
            (.ite (0 ≤ p0.1 ∧ p0.1 < (s_l08Words_S.2.length : Int)) <|
            .mat (s_l08Words_S.2[p0.1.toNat]?) fun x2 =>
            .cond (decide (x2 > 2))
              (.ret true)
              (.ret (decide (p0.2.2.2.1 = 0))))
            (.cond (decide (p0.2.2.1 = 0))
              (.ite (0 ≤ p0.1 ∧ p0.1 < (s_l08Words_S.2.length : Int)) <|
              .mat (s_l08Words_S.2[p0.1.toNat]?) fun x3 =>
              .cond (decide (x3 > 2))
                (.ret true)
                (.ret (decide (p0.2.2.2.1 = 0))))
              (.ret false))))))
noncomputable def s_l08Deed_F (p0 : TDeed) : Option Bool := (s_l08Deed p0).run some
def vDeed (p : Int × Int × Int × Int × Unit) : Bool :=
  inR p.1 1 8 && inR p.2.1 0 9999 && inR p.2.2.1 0 9999 && inR p.2.2.2.1 0 9999 &&
    (decide (p.1 = 1) || decide (p.1 = 5) || decide (p.2.2.1 = 0)) && (decide (p.1 = 1) || decide (p.2.2.2.1 = 0))
theorem kind_cases {k : Int} (h : inR k 1 8 = true) : k = 1 ∨ k = 2 ∨ k = 3 ∨ k = 4 ∨ k = 5 ∨ k = 6 ∨ k = 7 ∨ k = 8 := by
  rw [inR_iff] at h
  omega
theorem s_l08Deed_spec (p0 : Int × Int × Int × Int × Unit) : s_l08Deed_F p0 = some (vDeed p0) := by
  obtain ⟨k, a, b, c, ⟨⟩⟩ := p0
  unfold s_l08Deed_F s_l08Deed vDeed
  simp only [Tre.run_cond, Tre.run_ret, Tre.run_ite, Tre.run_mat]
  cases h1 : inR k 1 8 <;> simp only [Bool.not_true, Bool.not_false, cond_true, cond_false, Bool.false_and, Bool.true_and]
  cases h2 : inR a 0 9999 <;> simp only [Bool.not_true, Bool.not_false, cond_true, cond_false, Bool.false_and, Bool.true_and]
  cases h3 : inR b 0 9999 <;> simp only [Bool.not_true, Bool.not_false, cond_true, cond_false, Bool.false_and, Bool.true_and]
  cases h4 : inR c 0 9999 <;> simp only [Bool.not_true, Bool.not_false, cond_true, cond_false, Bool.false_and, Bool.true_and]
  rcases kind_cases h1 with rfl | rfl | rfl | rfl | rfl | rfl | rfl | rfl <;> (simp [s_l08Words_S]; try (by_cases hb : b = 0 <;> simp [hb]))
noncomputable def s_l08Deed_V : Env := ⟨tau, [(72, s_l00In_c), (107, s_l08Words_c)], []⟩
noncomputable def s_l08Deed_b : Code := (Try.f84.body).getD .skip
noncomputable def s_l08Deed_I : FnI := ⟨s_l08Deed_b, Try.f84.results.toList, Try.f84.resultTypes.toList, []⟩
noncomputable def s_l08Deed_out (_p0 : TDeed) : Bool → CallOut := fun r => ⟨(.imm true .bool r), [], []⟩
set_option maxRecDepth 100000 in
theorem s_l08Deed_eq : ∀ (p0 : TDeed), denFn s_l08Deed_V s_l08Deed_I ⟨[(.imm true kDeed p0)], []⟩ = (s_l08Deed p0).run fun r => some (s_l08Deed_out p0 r) := fun _ => by kernel_rfl
noncomputable def s_l08Deed_G (av : List AV) (rs : List Root) : Tre CallOut :=
  asCons av fun a0_ av0 =>
  asEnd av0 <|
  asEnd rs <|
  asImmZ true kDeed a0_ fun d1 =>
  .ret (s_l08Deed_out d1 (vDeed d1))
noncomputable def s_l08Deed_c : Ctr := ⟨[], fun ci => s_l08Deed_G ci.args ci.roots⟩
theorem s_l08Deed_env : EnvOK Try.prog s_l08Deed_V := (envOK_cons s_l00In_ok ent72 (envOK_cons s_l08Words_ok ent107 envOK_nil))
set_option maxRecDepth 100000 in
theorem s_l08Deed_ok : Contract Try.prog 84 s_l08Deed_c := by
  have hl : LoopsOK s_l08Deed_V [] s_l08Deed_b := loopsOK_nil (by kernel_rfl)
  refine (contract_of (F := s_l08Deed_I) tau_tys s_l08Deed_env Try.func84 (by kernel_rfl) (by kernel_rfl) (by kernel_rfl) hl []).weaken ?_
  rintro ⟨av, rs⟩ co h
  have h : (s_l08Deed_G av rs).run some = some co := h
  obtain ⟨a0_, av0, rfl, h_0⟩ := asCons_spec h
  obtain ⟨rfl, h_1⟩ := asEnd_spec h_0
  obtain ⟨rfl, h_2⟩ := asEnd_spec h_1
  obtain ⟨d1, rfl, h_3⟩ := asImmZ_spec h_2
  exact fin_ret (s_l08Deed_eq d1) (s_l08Deed_spec d1) h_3
end Go.Proofs.Ytddaclhjnkimfaa

namespace Go.Proofs.Ytddaclhjnkimfaa
open Go Go.Abs Go.Proofs
noncomputable def s_l08Source_9aa7_l3 (h3_0_1 : TGather) : (Int × (List Int)) → Tre ((Int × (List Int)) ⊕ (List Int)) := fun s3 =>
  .cond (decide (s3.1 < (h3_0_1.2.2.1.length : Int)))
    (.ite (0 ≤ iwrap .u64 s3.1) <|
    let v1 := ishl .i64 1 (iwrap .u64 s3.1)
    .ite (0 ≤ s3.1 ∧ s3.1 < (h3_0_1.2.2.1.length : Int)) <|
    .mat (h3_0_1.2.2.1[s3.1.toNat]?) fun x2 =>
    .ite (0 ≤ iwrap .u64 h3_0_1.1) <|
    let v3 := ishl .i64 x2 (iwrap .u64 h3_0_1.1)
    .ite ((s3.2.length + 1) * 8 ≤ appendMax ∧ 1 ≤ 8) <|
    let v4 := s3.2 ++ ([ior .i64 v1 v3])
    .ret (.inl (iwrap .i64 (s3.1 + 1), v4)))
    (.ret (.inr s3.2))
noncomputable def s_l08Source_9aa7 (p0 : TGather) : Tre (List Int) :=
  .mat (loopF (s_l08Source_9aa7_l3 p0) (0, [])) fun l5 =>
  .ret l5
noncomputable def s_l08Source_9aa7_F (p0 : TGather) : Option (List Int) := (s_l08Source_9aa7 p0).run some
def srcL (g : Int × Int × List Int × Int × Int × Unit) : List Int := foldE (β := List Int) (fun (i : Nat) acc x => .inl (acc ++ [ior .i64 (ishl .i64 1 (i : Int)) (ishl .i64 x g.1)])) id 0 [] g.2.2.1
def srcR (g : Int × Int × List Int × Int × Int × Unit) : Option (List Int) := askO (inR g.1 0 1048576 && decide (g.2.2.1.length ≤ 1048576)) (srcL g)
theorem s_l08Source_9aa7_spec (p0 : Int × Int × List Int × Int × Int × Unit) (y : List Int) (h : srcR p0 = some y) : s_l08Source_9aa7_F p0 = some y := by
  obtain ⟨hok, rfl⟩ := askO_some h
  simp only [Bool.and_eq_true, decide_eq_true_eq, inR_iff] at hok
  obtain ⟨hk, hl⟩ := hok
  unfold s_l08Source_9aa7_F s_l08Source_9aa7
  have hu : iwrap .u64 p0.1 = p0.1 := iwrap_u64 (by omega) (by omega)
  have := fold_loop (xs := p0.2.2.1) (step := s_l08Source_9aa7_l3 p0) (fun i acc => ((i : Int), acc)) (fun i acc x => .inl (acc ++ [ior .i64 (ishl .i64 1 (i : Int)) (ishl .i64 x p0.1)])) id (fun i acc => acc.length = i) (by
    intro i acc x hx hI
    have hi : i < p0.2.2.1.length := (List.getElem?_eq_some_iff.1 hx).1
    refine ⟨?_, fun a ha => by cases ha; simp [hI]⟩
    unfold s_l08Source_9aa7_l3
    have hui : iwrap .u64 (i : Int) = (i : Int) := iwrap_u64 (by omega) (by omega)
    rw [Tre.run_cond]
    show cond (decide ((i : Int) < (p0.2.2.1.length : Int))) _ _ = _
    rw [show decide ((i : Int) < (p0.2.2.1.length : Int)) = true from by simpa using hi, cond_true]
    dsimp only
    rw [hui, hu, Tre.run_ite, if_pos (by omega), run_at hx, Tre.run_ite, if_pos (by omega), Tre.run_ite, if_pos (by unfold appendMax; omega), Tre.run_ret, iwrap_succ (by omega)])
    (by
    intro acc _
    unfold s_l08Source_9aa7_l3
    exact run_out) p0.2.2.1 0 [] rfl (Nat.zero_le _) rfl
  have h1 : loopF (s_l08Source_9aa7_l3 p0) (0, []) = some (srcL p0) := this
  rw [run_some_mat h1]
  rfl
noncomputable def s_l08Source_9aa7_V : Env := ⟨tau, [], []⟩
noncomputable def s_l08Source_9aa7_b : Code := (Try.f108.body).getD .skip
noncomputable def s_l08Source_9aa7_l3_mk (z3_0 : Bool) (h3_0_1 : TGather) : (Int × (List Int)) → St := fun x => stOf [(0, (.ptr (0, 0) [])), (3, (.ref (5, 0) [])), (4, (.imm true (.int .i64) x.1))] [((0, 0), some ⟨true, kGather, (.imm z3_0), h3_0_1⟩), ((5, 0), some ⟨false, (.sl (.int .i64)), .own, x.2⟩)]
noncomputable def s_l08Source_9aa7_l3_out (z3_0 : Bool) (h3_0_1 : TGather) : (List Int) → Ex × St := fun x => (.exit 0, stOf [(3, (.ref (5, 0) []))] [((0, 0), some ⟨true, kGather, (.imm z3_0), h3_0_1⟩), ((5, 0), some ⟨false, (.sl (.int .i64)), .own, x⟩)])
noncomputable def s_l08Source_9aa7_l3_D (s : St) : Tre (Ex × St) :=
  asPtr (0, 0) [] (s.tmps 0) <|
  asRef (5, 0) [] (s.tmps 3) <|
  asImmZ true (.int .i64) (s.tmps 4) fun d4 =>
  asRoot true kGather (s.roots (0, 0)) fun m6 d7 =>
  asMImm m6 fun z8 =>
  asRoot false (.sl (.int .i64)) (s.roots (5, 0)) fun m10 d11 =>
  asM .own m10 <|
  .mat (loopF (s_l08Source_9aa7_l3 d7) (d4, d11)) fun x => .ret (s_l08Source_9aa7_l3_out z8 d7 x)
noncomputable def s_l08Source_9aa7_l3_L : LoopI := ⟨([0, 3, 4], [(0, 0), (5, 0)]), ([3], [(0, 0), (5, 0)]), s_l08Source_9aa7_l3_D⟩
noncomputable def s_l08Source_9aa7_A : List (Nat × LoopI) := [(3, s_l08Source_9aa7_l3_L)]
set_option maxRecDepth 100000 in
theorem s_l08Source_9aa7_l3_step : ∀ (z3_0 : Bool) (h3_0_1 : TGather) (x : (Int × (List Int))) (c : St → Option (Ex × St)), den s_l08Source_9aa7_V s_l08Source_9aa7_A (loopAt s_l08Source_9aa7_b 0) (s_l08Source_9aa7_l3_mk z3_0 h3_0_1 x) (roundK s_l08Source_9aa7_l3_L.kp s_l08Source_9aa7_l3_L.kx c) = (s_l08Source_9aa7_l3 h3_0_1 x).run (roundR (s_l08Source_9aa7_l3_mk z3_0 h3_0_1) (s_l08Source_9aa7_l3_out z3_0 h3_0_1) c) := fun _ _ _ _ => by
  kernel_rfl
theorem s_l08Source_9aa7_l3_ok : LoopOK s_l08Source_9aa7_V s_l08Source_9aa7_A (loopAt s_l08Source_9aa7_b 0) s_l08Source_9aa7_l3_L := loopOK_of fun s e s' h => by
  generalize hs : restrict s_l08Source_9aa7_l3_L.kp s = s1 at h
  have h : (s_l08Source_9aa7_l3_D s1).run some = some (e, s') := h
  obtain ⟨e1, h_0⟩ := asPtr_spec h
  obtain ⟨e2, h_1⟩ := asRef_spec h_0
  obtain ⟨d4, e3, h_2⟩ := asImmZ_spec h_1
  obtain ⟨m6, d7, e5, h_3⟩ := asRoot_spec h_2
  obtain ⟨z8, rfl, h_4⟩ := asMImm_spec h_3
  obtain ⟨m10, d11, e9, h_5⟩ := asRoot_spec h_4
  obtain ⟨rfl, h_6⟩ := asM_spec h_5
  obtain ⟨y, hy, hz⟩ := mat_ret h_6
  refine ⟨_, _, s_l08Source_9aa7_l3_mk z8 d7, s_l08Source_9aa7_l3_out z8 d7, s_l08Source_9aa7_l3 d7, (d4, d11), y, ?_, hy, ?_, s_l08Source_9aa7_l3_step z8 d7⟩
  · subst hs; exact restrict_eq (T := [(0, (.ptr (0, 0) [])), (3, (.ref (5, 0) [])), (4, (.imm true (.int .i64) d4))]) (U := [((0, 0), some ⟨true, kGather, (.imm z8), d7⟩), ((5, 0), some ⟨false, (.sl (.int .i64)), .own, d11⟩)]) rfl rfl ⟨e1, e2, e3, trivial⟩ ⟨e5, e9, trivial⟩
  · exact Option.some.inj hz
noncomputable def s_l08Source_9aa7_I : FnI := ⟨s_l08Source_9aa7_b, Try.f108.results.toList, Try.f108.resultTypes.toList, s_l08Source_9aa7_A⟩
noncomputable def s_l08Source_9aa7_out (zp0 : Bool) (p0 : TGather) : (List Int) → CallOut := fun r => ⟨(.ref (1, 0) []), [⟨true, kGather, (.imm zp0), p0⟩], [⟨false, (.sl (.int .i64)), .own, r⟩]⟩
set_option maxRecDepth 100000 in
theorem s_l08Source_9aa7_eq : ∀ (zp0 : Bool) (p0 : TGather), denFn s_l08Source_9aa7_V s_l08Source_9aa7_I ⟨[(.ptr (0, 0) [])], [⟨true, kGather, (.imm zp0), p0⟩]⟩ = (s_l08Source_9aa7 p0).run fun r => some (s_l08Source_9aa7_out zp0 p0 r) := fun _ _ => by kernel_rfl
noncomputable def s_l08Source_9aa7_G (av : List AV) (rs : List Root) : Tre CallOut :=
  asCons av fun a0_ av0 =>
  asEnd av0 <|
  asCons rs fun r0_ rs0 =>
  asEnd rs0 <|
  asPtr (0, 0) [] a0_ <|
  asRt true kGather r0_ fun m1 d2 =>
  asMImm m1 fun z3 =>
  .mat (srcR d2) fun r => .ret (s_l08Source_9aa7_out z3 d2 r)
noncomputable def s_l08Source_9aa7_c : Ctr := ⟨[], fun ci => s_l08Source_9aa7_G ci.args ci.roots⟩
theorem s_l08Source_9aa7_env : EnvOK Try.prog s_l08Source_9aa7_V := envOK_nil
set_option maxRecDepth 100000 in
theorem s_l08Source_9aa7_ok : Contract Try.prog 108 s_l08Source_9aa7_c := by
  have hl : LoopsOK s_l08Source_9aa7_V s_l08Source_9aa7_A s_l08Source_9aa7_b := (loopsOK_all (n := 1) (by kernel_rfl) fun k hk => by
      match k, hk with
      | 0, _ => exact loopOK_at (id := 3) (L := s_l08Source_9aa7_l3_L) (by kernel_rfl) (by kernel_rfl) s_l08Source_9aa7_l3_ok)
  refine (contract_of (F := s_l08Source_9aa7_I) tau_tys s_l08Source_9aa7_env Try.func108 (by kernel_rfl) (by kernel_rfl) (by kernel_rfl) hl []).weaken ?_
  rintro ⟨av, rs⟩ co h
  have h : (s_l08Source_9aa7_G av rs).run some = some co := h
  obtain ⟨a0_, av0, rfl, h_0⟩ := asCons_spec h
  obtain ⟨rfl, h_1⟩ := asEnd_spec h_0
  obtain ⟨r0_, rs0, rfl, h_2⟩ := asCons_spec h_1
  obtain ⟨rfl, h_3⟩ := asEnd_spec h_2
  obtain ⟨rfl, h_4⟩ := asPtr_spec h_3
  obtain ⟨m1, d2, rfl, h_5⟩ := asRt_spec h_4
  obtain ⟨z3, rfl, h_6⟩ := asMImm_spec h_5
  exact fin_opt (s_l08Source_9aa7_eq z3 d2) (s_l08Source_9aa7_spec d2) h_6
end Go.Proofs.Ytddaclhjnkimfaa

namespace Go.Proofs.Ytddaclhjnkimfaa
open Go Go.Abs Go.Proofs
noncomputable def s_l02Bit (p0 : Int) (p1 : Int) : Tre Int :=
  .ite (0 ≤ iwrap .u64 p1) <|
  let v1 := ishr .i64 p0 (iwrap .u64 p1)
  .ret (iand .i64 v1 1)
noncomputable def s_l02Bit_F (p0 : Int) (p1 : Int) : Option Int := (s_l02Bit p0 p1).run some
def bitR (x j : Int) : Option Int := askO (inR j 0 9223372036854775807) (iand .i64 (ishr .i64 x j) 1)
theorem s_l02Bit_spec (p0 p1 : Int) (y : Int) (h : bitR p0 p1 = some y) : s_l02Bit_F p0 p1 = some y := by
  obtain ⟨hl, rfl⟩ := askO_some h
  rw [inR_iff] at hl
  unfold s_l02Bit_F s_l02Bit
  rw [iwrap_u64 hl.1 (by omega), Tre.run_ite, if_pos hl.1]
  rfl
theorem bitR_nat {x : Int} {j : Nat} (h : j ≤ 1048576) : bitR x (j : Int) = some (iand .i64 (ishr .i64 x j) 1) := askO_true (by rw [inR_iff]; omega)
noncomputable def s_l02Bit_V : Env := ⟨tau, [], []⟩
noncomputable def s_l02Bit_b : Code := (Try.f100.body).getD .skip
noncomputable def s_l02Bit_I : FnI := ⟨s_l02Bit_b, Try.f100.results.toList, Try.f100.resultTypes.toList, []⟩
noncomputable def s_l02Bit_out (_p0 : Int) (_p1 : Int) : Int → CallOut := fun r => ⟨(.imm true (.int .i64) r), [], []⟩
set_option maxRecDepth 100000 in
theorem s_l02Bit_eq : ∀ (p0 : Int) (p1 : Int), denFn s_l02Bit_V s_l02Bit_I ⟨[(.imm true (.int .i64) p0), (.imm true (.int .i64) p1)], []⟩ = (s_l02Bit p0 p1).run fun r => some (s_l02Bit_out p0 p1 r) := fun _ _ => by kernel_rfl
noncomputable def s_l02Bit_G (av : List AV) (rs : List Root) : Tre CallOut :=
  asCons av fun a0_ av0 =>
  asCons av0 fun a1_ av1 =>
  asEnd av1 <|
  asEnd rs <|
  asImmZ true (.int .i64) a0_ fun d1 =>
  asImmZ true (.int .i64) a1_ fun d2 =>
  .mat (bitR d1 d2) fun r => .ret (s_l02Bit_out d1 d2 r)
noncomputable def s_l02Bit_c : Ctr := ⟨[], fun ci => s_l02Bit_G ci.args ci.roots⟩
theorem s_l02Bit_env : EnvOK Try.prog s_l02Bit_V := envOK_nil
set_option maxRecDepth 100000 in
theorem s_l02Bit_ok : Contract Try.prog 100 s_l02Bit_c := by
  have hl : LoopsOK s_l02Bit_V [] s_l02Bit_b := loopsOK_nil (by kernel_rfl)
  refine (contract_of (F := s_l02Bit_I) tau_tys s_l02Bit_env Try.func100 (by kernel_rfl) (by kernel_rfl) (by kernel_rfl) hl []).weaken ?_
  rintro ⟨av, rs⟩ co h
  have h : (s_l02Bit_G av rs).run some = some co := h
  obtain ⟨a0_, av0, rfl, h_0⟩ := asCons_spec h
  obtain ⟨a1_, av1, rfl, h_1⟩ := asCons_spec h_0
  obtain ⟨rfl, h_2⟩ := asEnd_spec h_1
  obtain ⟨rfl, h_3⟩ := asEnd_spec h_2
  obtain ⟨d1, rfl, h_4⟩ := asImmZ_spec h_3
  obtain ⟨d2, rfl, h_5⟩ := asImmZ_spec h_4
  exact fin_opt (s_l02Bit_eq d1 d2) (s_l02Bit_spec d1 d2) h_5
end Go.Proofs.Ytddaclhjnkimfaa

namespace Go.Proofs.Ytddaclhjnkimfaa
open Go Go.Abs Go.Proofs
noncomputable def s_l02Times_l3 (h3_0_0 : Int) (h3_0_1 : (List Int)) : (Int × Int) → Tre ((Int × Int) ⊕ Int) := fun s3 =>
  .cond (decide (s3.2 < (h3_0_1.length : Int)))
    (.mat (bitR h3_0_0 s3.2) fun r1 =>
    .cond (decide (r1 = 1))
      (.ite (0 ≤ s3.2 ∧ s3.2 < (h3_0_1.length : Int)) <|
      .mat (h3_0_1[s3.2.toNat]?) fun x2 =>
      .ret (.inl (ixor .i64 s3.1 x2, iwrap .i64 (s3.2 + 1))))
      (.ret (.inl (s3.1, iwrap .i64 (s3.2 + 1)))))
    (.ret (.inr s3.1))
noncomputable def s_l02Times (p0 : Int) (p1 : (List Int)) : Tre Int :=
  .mat (loopF (s_l02Times_l3 p0 p1) (0, 0)) fun l3 =>
  .ret l3
noncomputable def s_l02Times_F (p0 : Int) (p1 : (List Int)) : Option Int := (s_l02Times p0 p1).run some
def timesR (a : Int) (xs : List Int) : Option Int := lim xs.length (timesL a xs)
theorem s_l02Times_spec (p0 : Int) (p1 : List Int) (y : Int) (h : timesR p0 p1 = some y) : s_l02Times_F p0 p1 = some y := by
  obtain ⟨hl, rfl⟩ := lim_some h
  unfold s_l02Times_F s_l02Times
  rw [Tre.run_mat]
  have := fold_loop' (xs := p1) (step := s_l02Times_l3 p0 p1) (fun i acc => (acc, (i : Int))) (fun i acc x => .inl (cond (bitAt p0 (i : Int)) (ixor .i64 acc x) acc)) id (by
    intro i acc x hx
    have hi : i < p1.length := (List.getElem?_eq_some_iff.1 hx).1
    unfold s_l02Times_l3
    rw [Tre.run_cond, show decide (((acc, (i : Int)) : Int × Int).2 < (p1.length : Int)) = true from by simpa using hi, cond_true, run_some_mat (bitR_nat (by omega) : bitR p0 (i : Int) = _), Tre.run_cond]
    show cond (bitAt p0 (i : Int)) _ _ = _
    cases bitAt p0 (i : Int)
    · rw [cond_false, Tre.run_ret, iwrap_succ (by omega)]; rfl
    · rw [cond_true, run_at hx, Tre.run_ret, iwrap_succ (by omega)]; rfl)
    (by
    intro acc
    unfold s_l02Times_l3
    exact run_out) 0
  rw [show ((0 : Int), (0 : Int)) = (0, ((0 : Nat) : Int)) from rfl, this]
  rfl
noncomputable def s_l02Times_V : Env := ⟨tau, [(100, s_l02Bit_c)], []⟩
noncomputable def s_l02Times_b : Code := (Try.f73.body).getD .skip
noncomputable def s_l02Times_l3_mk (z3_0 : Bool) (h3_0_0 : Int) (h3_0_1 : (List Int)) : (Int × Int) → St := fun x => stOf [(0, (.imm true (.int .i64) h3_0_0)), (1, (.imm z3_0 (.sl (.int .i64)) h3_0_1)), (5, (.imm true (.int .i64) x.1)), (6, (.imm true (.int .i64) x.2))] []
noncomputable def s_l02Times_l3_out (_z3_0 : Bool) (_h3_0_0 : Int) (_h3_0_1 : (List Int)) : Int → Ex × St := fun x => (.exit 0, stOf [(5, (.imm true (.int .i64) x))] [])
noncomputable def s_l02Times_l3_D (s : St) : Tre (Ex × St) :=
  asImmZ true (.int .i64) (s.tmps 0) fun d2 =>
  asImm (.sl (.int .i64)) (s.tmps 1) fun z5 d4 =>
  asImmZ true (.int .i64) (s.tmps 5) fun d7 =>
  asImmZ true (.int .i64) (s.tmps 6) fun d9 =>
  .mat (loopF (s_l02Times_l3 d2 d4) (d7, d9)) fun x => .ret (s_l02Times_l3_out z5 d2 d4 x)
noncomputable def s_l02Times_l3_L : LoopI := ⟨([0, 1, 5, 6], []), ([5], []), s_l02Times_l3_D⟩
noncomputable def s_l02Times_A : List (Nat × LoopI) := [(3, s_l02Times_l3_L)]
set_option maxRecDepth 100000 in
theorem s_l02Times_l3_step : ∀ (z3_0 : Bool) (h3_0_0 : Int) (h3_0_1 : (List Int)) (x : (Int × Int)) (c : St → Option (Ex × St)), den s_l02Times_V s_l02Times_A (loopAt s_l02Times_b 0) (s_l02Times_l3_mk z3_0 h3_0_0 h3_0_1 x) (roundK s_l02Times_l3_L.kp s_l02Times_l3_L.kx c) = (s_l02Times_l3 h3_0_0 h3_0_1 x).run (roundR (s_l02Times_l3_mk z3_0 h3_0_0 h3_0_1) (s_l02Times_l3_out z3_0 h3_0_0 h3_0_1) c) := fun _ _ _ _ _ => by
  kernel_rfl
theorem s_l02Times_l3_ok : LoopOK s_l02Times_V s_l02Times_A (loopAt s_l02Times_b 0) s_l02Times_l3_L := loopOK_of fun s e s' h => by
  generalize hs : restrict s_l02Times_l3_L.kp s = s1 at h
  have h : (s_l02Times_l3_D s1).run some = some (e, s') := h
  obtain ⟨d2, e1, h_0⟩ := asImmZ_spec h
  obtain ⟨z5, d4, e3, h_1⟩ := asImm_spec h_0
  obtain ⟨d7, e6, h_2⟩ := asImmZ_spec h_1
  obtain ⟨d9, e8, h_3⟩ := asImmZ_spec h_2
  obtain ⟨y, hy, hz⟩ := mat_ret h_3
  refine ⟨_, _, s_l02Times_l3_mk z5 d2 d4, s_l02Times_l3_out z5 d2 d4, s_l02Times_l3 d2 d4, (d7, d9), y, ?_, hy, ?_, s_l02Times_l3_step z5 d2 d4⟩
  · subst hs; exact restrict_eq (T := [(0, (.imm true (.int .i64) d2)), (1, (.imm z5 (.sl (.int .i64)) d4)), (5, (.imm true (.int .i64) d7)), (6, (.imm true (.int .i64) d9))]) (U := []) rfl rfl ⟨e1, e3, e6, e8, trivial⟩ trivial
  · exact Option.some.inj hz
noncomputable def s_l02Times_I : FnI := ⟨s_l02Times_b, Try.f73.results.toList, Try.f73.resultTypes.toList, s_l02Times_A⟩
noncomputable def s_l02Times_out (_zp0 : Bool) (_p0 : Int) (_p1 : (List Int)) : Int → CallOut := fun r => ⟨(.imm true (.int .i64) r), [], []⟩
set_option maxRecDepth 100000 in
theorem s_l02Times_eq : ∀ (zp0 : Bool) (p0 : Int) (p1 : (List Int)), denFn s_l02Times_V s_l02Times_I ⟨[(.imm true (.int .i64) p0), (.imm zp0 (.sl (.int .i64)) p1)], []⟩ = (s_l02Times p0 p1).run fun r => some (s_l02Times_out zp0 p0 p1 r) := fun _ _ _ => by kernel_rfl
noncomputable def s_l02Times_G (av : List AV) (rs : List Root) : Tre CallOut :=
  asCons av fun a0_ av0 =>
  asCons av0 fun a1_ av1 =>
  asEnd av1 <|
  asEnd rs <|
  asImmZ true (.int .i64) a0_ fun d1 =>
  asImm (.sl (.int .i64)) a1_ fun z3 d2 =>
  .mat (timesR d1 d2) fun r => .ret (s_l02Times_out z3 d1 d2 r)
noncomputable def s_l02Times_c : Ctr := ⟨[], fun ci => s_l02Times_G ci.args ci.roots⟩
theorem s_l02Times_env : EnvOK Try.prog s_l02Times_V := (envOK_cons s_l02Bit_ok ent100 envOK_nil)
set_option maxRecDepth 100000 in
theorem s_l02Times_ok : Contract Try.prog 73 s_l02Times_c := by
  have hl : LoopsOK s_l02Times_V s_l02Times_A s_l02Times_b := (loopsOK_all (n := 1) (by kernel_rfl) fun k hk => by
      match k, hk with
      | 0, _ => exact loopOK_at (id := 3) (L := s_l02Times_l3_L) (by kernel_rfl) (by kernel_rfl) s_l02Times_l3_ok)
  refine (contract_of (F := s_l02Times_I) tau_tys s_l02Times_env Try.func73 (by kernel_rfl) (by kernel_rfl) (by kernel_rfl) hl []).weaken ?_
  rintro ⟨av, rs⟩ co h
  have h : (s_l02Times_G av rs).run some = some co := h
  obtain ⟨a0_, av0, rfl, h_0⟩ := asCons_spec h
  obtain ⟨a1_, av1, rfl, h_1⟩ := asCons_spec h_0
  obtain ⟨rfl, h_2⟩ := asEnd_spec h_1
  obtain ⟨rfl, h_3⟩ := asEnd_spec h_2
  obtain ⟨d1, rfl, h_4⟩ := asImmZ_spec h_3
  obtain ⟨z3, d2, rfl, h_5⟩ := asImm_spec h_4
  exact fin_opt (s_l02Times_eq z3 d1 d2) (s_l02Times_spec d1 d2) h_5
end Go.Proofs.Ytddaclhjnkimfaa

namespace Go.Proofs.Ytddaclhjnkimfaa
open Go Go.Abs Go.Proofs
noncomputable def s_l08Run_send_9d6c (p0 : TDeed) (p1 : (TPlant × Unit)) (_p2 : TGather) : Tre (Int × (TPlant × Unit)) :=
  .cond (decide (p0.2.1 ≥ (p1.1.1.length : Int)))
    (.ret (2, p1))
    (.cond (decide (p0.2.2.1 ≥ (p1.1.1.length : Int)))
      (.ret (2, p1))
      (.cond (decide (p0.2.1 = p0.2.2.1))
        (.ret (2, p1))
        (.cond (decide (p0.2.2.1 = 0))
          (.ret (2, p1))
          (.ite (0 ≤ p0.2.1 ∧ p0.2.1 < (p1.1.1.length : Int)) <|
          .mat (p1.1.1[p0.2.1.toNat]?) fun _ =>
          .mat (p1.1.1[p0.2.1.toNat]?) fun x2 =>
          let v3 := iwrap .u64 (x2.1.length : Int)
          .ite (0 ≤ v3) <|
          .cond (decide (p0.2.2.2.1 ≥ ishl .i64 1 v3))
            (.ret (2, p1))
            (.cond (decide (p0.2.2.2.1 = 0))
              (.ret (4, p1))
              (.cond (decide ((p1.1.2.1.length : Int) = 12))
                (.ret (3, p1))
                (.mat (p1.1.1[p0.2.1.toNat]?) fun x4 =>
                .mat (timesR p0.2.2.2.1 x4.1) fun r5 =>
                .ite ((p1.1.2.1.length + 1) * 16 ≤ appendMax ∧ 1 ≤ 16) <|
                let v6 := p1.1.2.1 ++ ([(p0.2.2.1, (r5, ()))])
                .ret (0, ((p1.1.1, (v6, p1.1.2.2)), p1.2)))))))))
noncomputable def s_l08Run_send_9d6c_F (p0 : TDeed) (p1 : (TPlant × Unit)) (p2 : TGather) : Option (Int × (TPlant × Unit)) := (s_l08Run_send_9d6c p0 p1 p2).run some
abbrev G8 := Int × Int × List Int × Int × Int × Unit
abbrev D8 := Int × Int × Int × Int × Unit
abbrev P8 := List (List Int × List Int × Unit) × List (Int × Int × Unit) × Unit
def colsG (g : G8) : Nat := (g.1 + g.2.1).toNat
def statG (g : G8) : Int := 1 + g.2.2.2.1 + g.2.2.2.2.1
def okRow (b : Nat) (x : Int) : Bool := decide (0 ≤ x) && decide (x < ((2 ^ b : Nat) : Int))
def okS (k b : Nat) (xs : List Int) : Bool := decide (xs.length ≤ k) && xs.all (okRow b)
def okP (k : Nat) (g : G8) (p : P8) : Bool :=
  decide ((p.1.length : Int) = statG g) && p.1.all (fun s => okS k (colsG g) s.1 && okS k (colsG g) s.2.1) && decide (p.2.1.length ≤ 12) && p.2.1.all (fun x => inR x.1 0 (statG g - 1) && okRow (colsG g) x.2.1)
theorem isG_spec {g : G8} (h : isG g = true) : 1 ≤ g.1 ∧ g.1 ≤ 4 ∧ 1 ≤ g.2.1 ∧ g.2.1 ≤ 6 ∧ 0 ≤ g.2.2.2.1 ∧ g.2.2.2.1 ≤ 3 ∧ 1 ≤ g.2.2.2.2.1 ∧ g.2.2.2.2.1 ≤ 3 ∧ (g.2.2.1.length : Int) = g.1 := by
  unfold isG at h
  simp only [Bool.and_eq_true, inR_iff, decide_eq_true_eq] at h
  obtain ⟨⟨⟨⟨⟨h1, h2⟩, h3⟩, _⟩, h5⟩, h6⟩ := h
  exact ⟨h1.1, h1.2, h2.1, h2.2, h5.1, h5.2, h6.1, h6.2, h3⟩
theorem vDeed_rng {d : D8} (h : vDeed d = true) : (0 ≤ d.2.1 ∧ d.2.1 ≤ 9999) ∧ (0 ≤ d.2.2.1 ∧ d.2.2.1 ≤ 9999) ∧ (0 ≤ d.2.2.2.1 ∧ d.2.2.2.1 ≤ 9999) ∧ inR d.1 1 8 = true := by
  unfold vDeed at h
  simp only [Bool.and_eq_true] at h
  obtain ⟨⟨⟨⟨⟨h0, h1⟩, h2⟩, h3⟩, _⟩, _⟩ := h
  exact ⟨inR_iff.1 h1, inR_iff.1 h2, inR_iff.1 h3, h0⟩
theorem okP_spec {k : Nat} {g : G8} {p : P8} (h : okP k g p = true) : (p.1.length : Int) = statG g ∧ (∀ s ∈ p.1, okS k (colsG g) s.1 = true ∧ okS k (colsG g) s.2.1 = true) ∧ p.2.1.length ≤ 12 ∧ ∀ x ∈ p.2.1, (0 ≤ x.1 ∧ x.1 ≤ statG g - 1) ∧ okRow (colsG g) x.2.1 = true := by
  unfold okP at h
  simp only [Bool.and_eq_true, decide_eq_true_eq, List.all_eq_true] at h
  obtain ⟨⟨⟨h1, h2⟩, h3⟩, h4⟩ := h
  exact ⟨h1, h2, h3, fun x hx => ⟨inR_iff.1 (h4 x hx).1, (h4 x hx).2⟩⟩
theorem okP_mk {k : Nat} {g : G8} {p : P8} (h1 : (p.1.length : Int) = statG g) (h2 : ∀ s ∈ p.1, okS k (colsG g) s.1 = true ∧ okS k (colsG g) s.2.1 = true) (h3 : p.2.1.length ≤ 12)
    (h4 : ∀ x ∈ p.2.1, (0 ≤ x.1 ∧ x.1 ≤ statG g - 1) ∧ okRow (colsG g) x.2.1 = true) : okP k g p = true := by
  unfold okP
  simp only [Bool.and_eq_true, decide_eq_true_eq, List.all_eq_true]
  exact ⟨⟨⟨h1, h2⟩, h3⟩, fun x hx => ⟨inR_iff.2 (h4 x hx).1, (h4 x hx).2⟩⟩
theorem okS_spec {k b : Nat} {xs : List Int} : okS k b xs = true ↔ xs.length ≤ k ∧ ∀ x ∈ xs, okRow b x = true := by
  unfold okS
  simp only [Bool.and_eq_true, decide_eq_true_eq, List.all_eq_true]
theorem okS_rows {k b c : Nat} {xs : List Int} (h : okS k b xs = true) (hk : k ≤ 1048576) (hb : b ≤ c) : okRows c xs = true := by
  obtain ⟨h1, h2⟩ := okS_spec.1 h
  unfold okRows
  simp only [Bool.and_eq_true, decide_eq_true_eq, List.all_eq_true]
  refine ⟨by omega, fun x hx => ?_⟩
  have := h2 x hx
  unfold okRow at this
  simp only [Bool.and_eq_true, decide_eq_true_eq] at this
  have hp := pow_le hb
  exact ⟨this.1, by omega⟩
theorem okS_mono {k k' b : Nat} {xs : List Int} (h : okS k b xs = true) (hk : k ≤ k') : okS k' b xs = true := by
  obtain ⟨h1, h2⟩ := okS_spec.1 h
  exact okS_spec.2 ⟨by omega, h2⟩
theorem okP_mono {k k' : Nat} {g : G8} {p : P8} (h : okP k g p = true) (hk : k ≤ k') : okP k' g p = true := by
  obtain ⟨h1, h2, h3, h4⟩ := okP_spec h
  exact okP_mk h1 (fun s hs => ⟨okS_mono (h2 s hs).1 hk, okS_mono (h2 s hs).2 hk⟩) h3 h4
theorem colsG_le {g : G8} (h : isG g = true) : colsG g ≤ 10 ∧ ((colsG g : Nat) : Int) = g.1 + g.2.1 := by
  have := isG_spec h
  unfold colsG
  omega
def sendM (d : D8) (p : P8) : Int × P8 :=
  cond (decide (d.2.1 ≥ (p.1.length : Int)) || (decide (d.2.2.1 ≥ (p.1.length : Int)) || (decide (d.2.1 = d.2.2.1) || decide (d.2.2.1 = 0)))) (2, p)
    (match p.1[d.2.1.toNat]? with
      | none => (2, p)
      | some s => cond (decide (d.2.2.2.1 ≥ ishl .i64 1 (s.1.length : Int))) (2, p) (cond (decide (d.2.2.2.1 = 0)) (4, p) (cond (decide ((p.2.1.length : Int) = 12)) (3, p) (0, (p.1, p.2.1 ++ [(d.2.2.1, timesL d.2.2.2.1 s.1, ())], ())))))
def sendR (d : D8) (p : P8 × Unit) (g : G8) : Option (Int × (P8 × Unit)) := askO (isG g && vDeed d && okP 1000 g p.1) ((sendM d p.1).1, (sendM d p.1).2, ())
theorem s_l08Run_send_9d6c_spec (p0 : D8) (p1 : P8 × Unit) (p2 : G8) (y : Int × (P8 × Unit)) (h : sendR p0 p1 p2 = some y) : s_l08Run_send_9d6c_F p0 p1 p2 = some y := by
  obtain ⟨hok, rfl⟩ := askO_some h
  simp only [Bool.and_eq_true] at hok
  obtain ⟨⟨hg, hd⟩, hp⟩ := hok
  obtain ⟨⟨a0, a1⟩, ⟨b0, b1⟩, ⟨c0, c1⟩, _⟩ := vDeed_rng hd
  obtain ⟨l1, l2, l3, l4⟩ := okP_spec hp
  obtain ⟨⟨st, wi, ⟨⟩⟩, ⟨⟩⟩ := p1
  obtain ⟨kk, a, b, c, ⟨⟩⟩ := p0
  unfold s_l08Run_send_9d6c_F s_l08Run_send_9d6c sendM
  simp only at *
  by_cases h1 : a ≥ (st.length : Int)
  · simp only [Tre.run_cond, decide_eq_true h1, cond_true, Tre.run_ret, Bool.true_or]
  by_cases h2 : b ≥ (st.length : Int)
  · simp only [Tre.run_cond, decide_eq_true h2, decide_eq_false h1, cond_true, cond_false, Tre.run_ret, Bool.true_or, Bool.false_or]
  by_cases h3 : a = b
  · simp only [Tre.run_cond, decide_eq_true h3, decide_eq_false h1, decide_eq_false h2, cond_true, cond_false, Tre.run_ret, Bool.true_or, Bool.false_or]
  by_cases h4 : b = 0
  · simp only [Tre.run_cond, decide_eq_true h4, decide_eq_false h1, decide_eq_false h2, decide_eq_false h3, cond_true, cond_false, Tre.run_ret, Bool.false_or]
  obtain ⟨i, rfl⟩ := Int.eq_ofNat_of_zero_le a0
  have hi : i < st.length := by omega
  obtain ⟨s, hs⟩ : ∃ s, st[i]? = some s := ⟨_, List.getElem?_eq_getElem hi⟩
  have hs1 := (okS_spec.1 (l2 s (List.mem_of_getElem? hs)).1).1
  have hw : iwrap .u64 (s.1.length : Int) = (s.1.length : Int) := iwrap_u64 (by omega) (by omega)
  simp only [Tre.run_cond, decide_eq_false h1, decide_eq_false h2, decide_eq_false h3, decide_eq_false h4, cond_false, Bool.false_or, Int.toNat_natCast, hs]
  rw [Tre.run_ite, if_pos ⟨a0, by omega⟩, run_some_mat rfl, run_some_mat rfl]
  simp only [hw]
  rw [Tre.run_ite, if_pos (by omega)]
  simp only [Tre.run_cond]
  cases decide (c ≥ ishl .i64 1 (s.1.length : Int))
  · cases decide (c = 0)
    · cases decide ((wi.length : Int) = 12)
      · simp only [cond_false]
        rw [run_some_mat rfl, run_some_mat (show timesR c s.1 = some _ from lim_of (by omega)), Tre.run_ite, if_pos (by unfold appendMax; omega)]
        rfl
      · rfl
    · rfl
  · rfl
noncomputable def s_l08Run_send_9d6c_V : Env := ⟨tau, [(73, s_l02Times_c)], []⟩
noncomputable def s_l08Run_send_9d6c_b : Code := (Try.f109.body).getD .skip
noncomputable def s_l08Run_send_9d6c_I : FnI := ⟨s_l08Run_send_9d6c_b, Try.f109.results.toList, Try.f109.resultTypes.toList, []⟩
noncomputable def s_l08Run_send_9d6c_out (zp0 : Bool) (_p0 : TDeed) (_p1 : (TPlant × Unit)) (p2 : TGather) : (Int × (TPlant × Unit)) → CallOut := fun r => ⟨(.imm true (.int .i64) r.1), [⟨true, kL08Run, .own, ((some (0, 1) : Option RName), r.2)⟩, ⟨true, kGather, (.imm zp0), p2⟩], []⟩
set_option maxRecDepth 100000 in
theorem s_l08Run_send_9d6c_eq : ∀ (zp0 : Bool) (p0 : TDeed) (p1 : (TPlant × Unit)) (p2 : TGather), denFn s_l08Run_send_9d6c_V s_l08Run_send_9d6c_I ⟨[(.ptr (0, 0) []), (.imm true kDeed p0)], [⟨true, kL08Run, .own, ((some (0, 1) : Option RName), p1)⟩, ⟨true, kGather, (.imm zp0), p2⟩]⟩ = (s_l08Run_send_9d6c p0 p1 p2).run fun r => some (s_l08Run_send_9d6c_out zp0 p0 p1 p2 r) := fun _ _ _ _ => by kernel_rfl
noncomputable def s_l08Run_send_9d6c_G (av : List AV) (rs : List Root) : Tre CallOut :=
  asCons av fun a0_ av0 =>
  asCons av0 fun a1_ av1 =>
  asEnd av1 <|
  asCons rs fun r0_ rs0 =>
  asCons rs0 fun r1_ rs1 =>
  asEnd rs1 <|
  asPtr (0, 0) [] a0_ <|
  asImmZ true kDeed a1_ fun d1 =>
  asRt true kL08Run r0_ fun m2 d3 =>
  asM .own m2 <|
  asProd d3 fun d4 d5 =>
  asD d4 (some (0, 1) : Option RName) <|
  asRt true kGather r1_ fun m6 d7 =>
  asMImm m6 fun z8 =>
  .mat (sendR d1 d5 d7) fun r => .ret (s_l08Run_send_9d6c_out z8 d1 d5 d7 r)
noncomputable def s_l08Run_send_9d6c_c : Ctr := ⟨[], fun ci => s_l08Run_send_9d6c_G ci.args ci.roots⟩
theorem s_l08Run_send_9d6c_env : EnvOK Try.prog s_l08Run_send_9d6c_V := (envOK_cons s_l02Times_ok ent73 envOK_nil)
set_option maxRecDepth 100000 in
theorem s_l08Run_send_9d6c_ok : Contract Try.prog 109 s_l08Run_send_9d6c_c := by
  have hl : LoopsOK s_l08Run_send_9d6c_V [] s_l08Run_send_9d6c_b := loopsOK_nil (by kernel_rfl)
  refine (contract_of (F := s_l08Run_send_9d6c_I) tau_tys s_l08Run_send_9d6c_env Try.func109 (by kernel_rfl) (by kernel_rfl) (by kernel_rfl) hl []).weaken ?_
  rintro ⟨av, rs⟩ co h
  have h : (s_l08Run_send_9d6c_G av rs).run some = some co := h
  obtain ⟨a0_, av0, rfl, h_0⟩ := asCons_spec h
  obtain ⟨a1_, av1, rfl, h_1⟩ := asCons_spec h_0
  obtain ⟨rfl, h_2⟩ := asEnd_spec h_1
  obtain ⟨r0_, rs0, rfl, h_3⟩ := asCons_spec h_2
  obtain ⟨r1_, rs1, rfl, h_4⟩ := asCons_spec h_3
  obtain ⟨rfl, h_5⟩ := asEnd_spec h_4
  obtain ⟨rfl, h_6⟩ := asPtr_spec h_5
  obtain ⟨d1, rfl, h_7⟩ := asImmZ_spec h_6
  obtain ⟨m2, d3, rfl, h_8⟩ := asRt_spec h_7
  obtain ⟨rfl, h_9⟩ := asM_spec h_8
  obtain ⟨d4, d5, rfl, h_10⟩ := asProd_spec h_9
  obtain ⟨rfl, h_11⟩ := asD_spec h_10
  obtain ⟨m6, d7, rfl, h_12⟩ := asRt_spec h_11
  obtain ⟨z8, rfl, h_13⟩ := asMImm_spec h_12
  exact fin_opt (s_l08Run_send_9d6c_eq z8 d1 d5 d7) (s_l08Run_send_9d6c_spec d1 d5 d7) h_13
end Go.Proofs.Ytddaclhjnkimfaa

namespace Go.Proofs.Ytddaclhjnkimfaa
open Go Go.Abs Go.Proofs
noncomputable def s_l08Cols_9aa7 (p0 : TGather) : Tre Int :=
  let v1 := iwrap .i64 (p0.1 + p0.2.1)
  .ret v1
noncomputable def s_l08Cols_9aa7_F (p0 : TGather) : Option Int := (s_l08Cols_9aa7 p0).run some
def s_l08Cols_9aa7_S (p0 : TGather) : Int :=
  let v1 := iwrap .i64 (p0.1 + p0.2.1)
  v1
theorem s_l08Cols_9aa7_spec (p0 : TGather) : s_l08Cols_9aa7_F p0 = some (s_l08Cols_9aa7_S p0) := rfl
noncomputable def s_l08Cols_9aa7_V : Env := ⟨tau, [], []⟩
noncomputable def s_l08Cols_9aa7_b : Code := (Try.f89.body).getD .skip
noncomputable def s_l08Cols_9aa7_I : FnI := ⟨s_l08Cols_9aa7_b, Try.f89.results.toList, Try.f89.resultTypes.toList, []⟩
noncomputable def s_l08Cols_9aa7_out (zp0 : Bool) (p0 : TGather) : Int → CallOut := fun r => ⟨(.imm true (.int .i64) r), [⟨true, kGather, (.imm zp0), p0⟩], []⟩
set_option maxRecDepth 100000 in
theorem s_l08Cols_9aa7_eq : ∀ (zp0 : Bool) (p0 : TGather), denFn s_l08Cols_9aa7_V s_l08Cols_9aa7_I ⟨[(.ptr (0, 0) [])], [⟨true, kGather, (.imm zp0), p0⟩]⟩ = (s_l08Cols_9aa7 p0).run fun r => some (s_l08Cols_9aa7_out zp0 p0 r) := fun _ _ => by kernel_rfl
noncomputable def s_l08Cols_9aa7_G (av : List AV) (rs : List Root) : Tre CallOut :=
  asCons av fun a0_ av0 =>
  asEnd av0 <|
  asCons rs fun r0_ rs0 =>
  asEnd rs0 <|
  asPtr (0, 0) [] a0_ <|
  asRt true kGather r0_ fun m1 d2 =>
  asMImm m1 fun z3 =>
  .ret (s_l08Cols_9aa7_out z3 d2 (s_l08Cols_9aa7_S d2))
noncomputable def s_l08Cols_9aa7_c : Ctr := ⟨[], fun ci => s_l08Cols_9aa7_G ci.args ci.roots⟩
theorem s_l08Cols_9aa7_env : EnvOK Try.prog s_l08Cols_9aa7_V := envOK_nil
set_option maxRecDepth 100000 in
theorem s_l08Cols_9aa7_ok : Contract Try.prog 89 s_l08Cols_9aa7_c := by
  have hl : LoopsOK s_l08Cols_9aa7_V [] s_l08Cols_9aa7_b := loopsOK_nil (by kernel_rfl)
  refine (contract_of (F := s_l08Cols_9aa7_I) tau_tys s_l08Cols_9aa7_env Try.func89 (by kernel_rfl) (by kernel_rfl) (by kernel_rfl) hl []).weaken ?_
  rintro ⟨av, rs⟩ co h
  have h : (s_l08Cols_9aa7_G av rs).run some = some co := h
  obtain ⟨a0_, av0, rfl, h_0⟩ := asCons_spec h
  obtain ⟨rfl, h_1⟩ := asEnd_spec h_0
  obtain ⟨r0_, rs0, rfl, h_2⟩ := asCons_spec h_1
  obtain ⟨rfl, h_3⟩ := asEnd_spec h_2
  obtain ⟨rfl, h_4⟩ := asPtr_spec h_3
  obtain ⟨m1, d2, rfl, h_5⟩ := asRt_spec h_4
  obtain ⟨z3, rfl, h_6⟩ := asMImm_spec h_5
  exact fin_ret (s_l08Cols_9aa7_eq z3 d2) (s_l08Cols_9aa7_spec d2) h_6
end Go.Proofs.Ytddaclhjnkimfaa

namespace Go.Proofs.Ytddaclhjnkimfaa
open Go Go.Abs Go.Proofs
noncomputable def s_l00Own (p0 : (List Int)) : Tre (List Int) :=
  .ite ((0 + p0.length) * 8 ≤ appendMax ∧ 1 ≤ 8) <|
  .ret ([] ++ p0)
noncomputable def s_l00Own_F (p0 : (List Int)) : Option (List Int) := (s_l00Own p0).run some
theorem s_l00Own_spec (p0 : List Int) (y : List Int) (h : cloneR p0 = some y) : s_l00Own_F p0 = some y := by
  obtain ⟨hl, rfl⟩ := lim_some h
  have hb : (0 + p0.length) * 8 ≤ appendMax ∧ 1 ≤ 8 := by unfold appendMax; omega
  unfold s_l00Own_F s_l00Own
  rw [Tre.run_ite, if_pos hb]
  rfl
noncomputable def s_l00Own_V : Env := ⟨tau, [], []⟩
noncomputable def s_l00Own_b : Code := (Try.f111.body).getD .skip
noncomputable def s_l00Own_I : FnI := ⟨s_l00Own_b, Try.f111.results.toList, Try.f111.resultTypes.toList, []⟩
noncomputable def s_l00Own_out (_zp0 : Bool) (_p0 : (List Int)) : (List Int) → CallOut := fun r => ⟨(.ref (1, 0) []), [], [⟨false, (.sl (.int .i64)), .own, r⟩]⟩
set_option maxRecDepth 100000 in
theorem s_l00Own_eq : ∀ (zp0 : Bool) (p0 : (List Int)), denFn s_l00Own_V s_l00Own_I ⟨[(.imm zp0 (.sl (.int .i64)) p0)], []⟩ = (s_l00Own p0).run fun r => some (s_l00Own_out zp0 p0 r) := fun _ _ => by kernel_rfl
noncomputable def s_l00Own_G (av : List AV) (rs : List Root) : Tre CallOut :=
  asCons av fun a0_ av0 =>
  asEnd av0 <|
  asEnd rs <|
  asImm (.sl (.int .i64)) a0_ fun z2 d1 =>
  .mat (cloneR d1) fun r => .ret (s_l00Own_out z2 d1 r)
noncomputable def s_l00Own_c : Ctr := ⟨[], fun ci => s_l00Own_G ci.args ci.roots⟩
theorem s_l00Own_env : EnvOK Try.prog s_l00Own_V := envOK_nil
set_option maxRecDepth 100000 in
theorem s_l00Own_ok : Contract Try.prog 111 s_l00Own_c := by
  have hl : LoopsOK s_l00Own_V [] s_l00Own_b := loopsOK_nil (by kernel_rfl)
  refine (contract_of (F := s_l00Own_I) tau_tys s_l00Own_env Try.func111 (by kernel_rfl) (by kernel_rfl) (by kernel_rfl) hl []).weaken ?_
  rintro ⟨av, rs⟩ co h
  have h : (s_l00Own_G av rs).run some = some co := h
  obtain ⟨a0_, av0, rfl, h_0⟩ := asCons_spec h
  obtain ⟨rfl, h_1⟩ := asEnd_spec h_0
  obtain ⟨rfl, h_2⟩ := asEnd_spec h_1
  obtain ⟨z2, d1, rfl, h_3⟩ := asImm_spec h_2
  exact fin_opt (s_l00Own_eq z2 d1) (s_l00Own_spec d1) h_3
end Go.Proofs.Ytddaclhjnkimfaa

namespace Go.Proofs.Ytddaclhjnkimfaa
open Go Go.Abs Go.Proofs
noncomputable def s_l02Echelon_l8 (h8_0_1 : Int) (h8_0_4 : (List Int)) : (Int × Int) → Tre ((Int × Int) ⊕ Int) := fun s8 =>
  .cond (decide (s8.2 < (h8_0_4.length : Int)))
    (.cond (decide (s8.1 < 0))
      (.ite (0 ≤ s8.2 ∧ s8.2 < (h8_0_4.length : Int)) <|
      .mat (h8_0_4[s8.2.toNat]?) fun x2 =>
      .mat (bitR x2 h8_0_1) fun r3 =>
      .cond (decide (r3 = 1))
        (.ret (.inl (s8.2, iwrap .i64 (s8.2 + 1))))
        (.ret (.inl (s8.1, iwrap .i64 (s8.2 + 1)))))
      (.ret (.inr s8.1)))
    (.ret (.inr s8.1))
noncomputable def s_l02Echelon_l16 (h16_0_1 : Int) (h16_0_2 : Int) : (Int × (List Int)) → Tre ((Int × (List Int)) ⊕ (List Int)) := fun s16 =>
  .cond (decide (s16.1 < (s16.2.length : Int)))
    (.ite (0 ≤ s16.1 ∧ s16.1 < (s16.2.length : Int)) <|
    .mat (s16.2[s16.1.toNat]?) fun x7 =>
    .mat (bitR x7 h16_0_1) fun r8 =>
    .cond (decide (r8 = 1))
      (.ite (0 ≤ s16.1 ∧ s16.1 < (s16.2.length : Int)) <|
      .mat (s16.2[s16.1.toNat]?) fun x9 =>
      .ite (0 ≤ s16.1 ∧ s16.1 < (s16.2.length : Int)) <|
      .mat (s16.2[s16.1.toNat]?) fun _ =>
      let v11 := s16.2.set s16.1.toNat (ixor .i64 x9 h16_0_2)
      .ret (.inl (iwrap .i64 (s16.1 + 1), v11)))
      (.ret (.inl (iwrap .i64 (s16.1 + 1), s16.2))))
    (.ret (.inr s16.2))
noncomputable def s_l02Echelon_l21 (h21_0_1 : Int) (h21_0_2 : Int) : (Int × (List Int)) → Tre ((Int × (List Int)) ⊕ (List Int)) := fun s21 =>
  .cond (decide (s21.1 < (s21.2.length : Int)))
    (.ite (0 ≤ s21.1 ∧ s21.1 < (s21.2.length : Int)) <|
    .mat (s21.2[s21.1.toNat]?) fun x13 =>
    .mat (bitR x13 h21_0_1) fun r14 =>
    .cond (decide (r14 = 1))
      (.ite (0 ≤ s21.1 ∧ s21.1 < (s21.2.length : Int)) <|
      .mat (s21.2[s21.1.toNat]?) fun x15 =>
      .ite (0 ≤ s21.1 ∧ s21.1 < (s21.2.length : Int)) <|
      .mat (s21.2[s21.1.toNat]?) fun _ =>
      let v17 := s21.2.set s21.1.toNat (ixor .i64 x15 h21_0_2)
      .ret (.inl (iwrap .i64 (s21.1 + 1), v17)))
      (.ret (.inl (iwrap .i64 (s21.1 + 1), s21.2))))
    (.ret (.inr s21.2))
noncomputable def s_l02Echelon_l4 (h4_0_0 : Int) : (Int × (List Int) × (List Int)) → Tre ((Int × (List Int) × (List Int)) ⊕ (List Int)) := fun s4 =>
  .cond (decide (s4.1 < h4_0_0))
    (.mat (loopF (s_l02Echelon_l8 s4.1 s4.2.1) (-1, 0)) fun l4 =>
    .cond (decide (l4 < 0))
      (.ret (.inl (iwrap .i64 (s4.1 + 1), s4.2.1, s4.2.2)))
      (.ite (0 ≤ l4 ∧ l4 < (s4.2.1.length : Int)) <|
      .mat (s4.2.1[l4.toNat]?) fun x5 =>
      .ite (0 ≤ l4 ∧ l4 < (s4.2.1.length : Int)) <|
      .mat (s4.2.1[l4.toNat]?) fun _ =>
      .mat (loopF (s_l02Echelon_l16 s4.1 x5) (0, s4.2.1.set l4.toNat 0)) fun l12 =>
      .mat (loopF (s_l02Echelon_l21 s4.1 x5) (0, s4.2.2)) fun l18 =>
      .ite ((l18.length + 1) * 8 ≤ appendMax ∧ 1 ≤ 8) <|
      .ret (.inl (iwrap .i64 (s4.1 + 1), l12, l18 ++ ([x5])))))
    (.ret (.inr s4.2.2))
noncomputable def s_l02Echelon (p0 : Int) (p1 : (List Int)) : Tre (List Int) :=
  .mat (cloneR p1) fun r1 =>
  .mat (loopF (s_l02Echelon_l4 p0) (0, r1, [])) fun l19 =>
  .ret l19
noncomputable def s_l02Echelon_F (p0 : Int) (p1 : (List Int)) : Option (List Int) := (s_l02Echelon p0 p1).run some
noncomputable def echB (m : Int) (xs : List Int) : Option (List Int) := askO (inR m 0 62 && okRows m.toNat xs) (echI xs)
theorem s_l02Echelon_find (c : Nat) (hc : c ≤ 62) (xs : List Int) (hl : xs.length ≤ 1048576) : loopF (s_l02Echelon_l8 (c : Int) xs) (-1, 0) = some (idxI (fun x => bitAt x (c : Int)) 0 xs) := by
  have := fold_loop (xs := xs) (step := s_l02Echelon_l8 (c : Int) xs) (fun i acc => (acc, (i : Int))) (fun i acc x => cond (decide (acc < 0)) (.inl (cond (bitAt x (c : Int)) (i : Int) acc)) (.inr acc)) id (fun _ _ => True) (by
    intro i acc x hx _
    refine ⟨?_, fun _ _ => trivial⟩
    have hi : i < xs.length := (List.getElem?_eq_some_iff.1 hx).1
    unfold s_l02Echelon_l8
    rw [Tre.run_cond, show decide (((acc, (i : Int)) : Int × Int).2 < (xs.length : Int)) = true from by simpa using hi, cond_true, Tre.run_cond]
    by_cases h0 : acc < 0
    · rw [show decide (acc < 0) = true from by simpa using h0]
      rw [cond_true, run_at hx, run_some_mat (bitR_nat (by omega) : bitR x (c : Int) = _), Tre.run_cond]
      show cond (bitAt x (c : Int)) _ _ = _
      cases bitAt x (c : Int)
      · rw [cond_false, Tre.run_ret, iwrap_succ (by omega)]; rfl
      · rw [cond_true, Tre.run_ret, iwrap_succ (by omega)]; rfl
    · rw [show decide (acc < 0) = false from by simpa using h0]
      rfl)
    (by
    intro acc _
    unfold s_l02Echelon_l8
    exact run_out) xs 0 (-1) rfl (Nat.zero_le _) trivial
  rw [show (((-1 : Int), (0 : Int)) : Int × Int) = (-1, ((0 : Nat) : Int)) from rfl, this]
  have key : ∀ (l : List Int) (i : Nat), foldE (β := Int) (fun (i : Nat) (acc : Int) x => cond (decide (acc < 0)) (.inl (cond (bitAt x (c : Int)) (i : Int) acc)) (.inr acc)) id i (-1) l = idxI (fun x => bitAt x (c : Int)) i l := by
    intro l
    induction l with
    | nil => intro i; rfl
    | cons x l ih =>
      intro i
      simp only [foldE, idxI, show decide ((-1 : Int) < 0) = true from rfl, cond_true]
      cases bitAt x (c : Int)
      · exact ih (i + 1)
      · have hn : decide ((i : Int) < 0) = false := by simp
        cases l with
        | nil => rfl
        | cons y l => simp only [foldE, cond_true, hn, cond_false]
  rw [key]
theorem s_l02Echelon_elim (c r : Nat) (hc : c ≤ 62) (hr : r < 2 ^ 62) (l : List Nat) (hb : ∀ n ∈ l, n < 2 ^ 62) (hl : l.length ≤ 1048576) : loopF (s_l02Echelon_l16 (c : Int) (r : Int)) (0, up l) = some (up (l.map (elimB c r))) := by
  have := part_loop (step := s_l02Echelon_l16 (c : Int) (r : Int)) (fun _ x => elimB c r x) l id (by
    intro i x hx
    have hi : i < l.length := (List.getElem?_eq_some_iff.1 hx).1
    have hx2 := up_at (part_at (g := fun _ x => elimB c r x) (i := i) hx)
    rw [if_neg (Nat.lt_irrefl i)] at hx2
    have hlen : (up (partB (fun _ x => elimB c r x) i l)).length = l.length := by rw [up_len, part_len]
    have hxb := hb x (List.mem_of_getElem? hx)
    rw [← part_set hx]
    unfold s_l02Echelon_l16
    rw [run_inb hx2, run_some_mat (bitR_nat (by omega) : bitR (x : Int) (c : Int) = _), Tre.run_cond]
    show cond (bitAt (x : Int) (c : Int)) _ _ = _
    rw [bitAt_nat (by omega) (by omega)]
    have he : elimB c r x = cond (x.testBit c) (x ^^^ r) x := rfl
    rw [he]
    cases x.testBit c
    · rw [cond_false, Tre.run_ret, iwrap_succ (by omega)]
      refine congrArg (fun z => some (Sum.inl (((i + 1 : Nat) : Int), z))) ?_
      rw [cond_false, ← up_set]
      exact (List.ext_getElem? fun j => by
        rw [List.getElem?_set]
        by_cases hj : i = j
        · subst hj; rw [if_pos rfl, hx2, if_pos (List.getElem?_eq_some_iff.1 hx2).1]
        · rw [if_neg hj]).symm
    · rw [cond_true, run_at hx2, run_at hx2, Tre.run_ret, iwrap_succ (by omega), ixor_nat (by omega) (by omega), Int.toNat_natCast, cond_true, ← up_set])
    (by
    unfold s_l02Echelon_l16
    have : ((partB (fun _ x => elimB c r x) l.length l).length : Int) = (l.length : Int) := by rw [part_len]
    show (Tre.cond (decide ((l.length : Int) < ((up (partB (fun _ x => elimB c r x) l.length l)).length : Int))) _ _).run some = _
    rw [up_len, part_len]
    exact run_out)
  rw [this, mapIdx_const]
  rfl
theorem s_l02Echelon_l21_eq : s_l02Echelon_l21 = s_l02Echelon_l16 := rfl
theorem s_l02Echelon_loop (m : Nat) (hm : m ≤ 62) (orig : List Nat) : ∀ (n c : Nat) (E : List (Nat × Nat)) (R : List Nat), c + n = m → Inv orig c E R → E.length ≤ c → R.length ≤ 1048576 → (∀ x ∈ R, x < 2 ^ m) → (∀ a ∈ E, a.2 < 2 ^ m) →
    ∃ E' : List Nat, loopF (s_l02Echelon_l4 (m : Int)) ((c : Int), up R, up (E.map (·.2))) = some (up E') ∧ IsEch orig E' := by
  intro n
  have hp := pow_le hm
  induction n with
  | zero =>
    intro c E R hc hI _ _ hR _
    have : c = m := hc
    subst this
    refine ⟨E.map (·.2), loopF_done ?_, hI.done fun x hx => zero_of_bits (hR x hx) (hI.low x hx)⟩
    unfold s_l02Echelon_l4
    exact run_out
  | succ n ih =>
    intro c E R hc hI hE hl hR hEb
    have hcm : c < m := by omega
    have hstep : ∀ E2 R2, Inv orig (c + 1) E2 R2 → E2.length ≤ c + 1 → R2.length ≤ 1048576 → (∀ x ∈ R2, x < 2 ^ m) → (∀ a ∈ E2, a.2 < 2 ^ m) → (s_l02Echelon_l4 (m : Int) ((c : Int), up R, up (E.map (·.2)))).run some = some (.inl (((c + 1 : Nat) : Int), up R2, up (E2.map (·.2)))) →
        ∃ E' : List Nat, loopF (s_l02Echelon_l4 (m : Int)) ((c : Int), up R, up (E.map (·.2))) = some (up E') ∧ IsEch orig E' := by
      intro E2 R2 h1 h2 h3 h4 h5 h6
      rw [loopF_step h6]
      exact ih (c + 1) E2 R2 (by omega) h1 h2 h3 h4 h5
    have hfind := s_l02Echelon_find c (by omega) (up R) (by rw [up_len]; exact hl)
    have hw : iwrap .i64 ((c : Int) + 1) = ((c + 1 : Nat) : Int) := iwrap_succ (by omega)
    have hdec : decide ((c : Int) < (m : Int)) = true := by simpa using hcm
    rcases idxI_cases (fun x => bitAt x (c : Int)) (up R) 0 with ⟨h1, h2⟩ | ⟨k, x, h1, h2, h3⟩
    · refine hstep E R (hI.skip fun x hx => ?_) (by omega) hl hR hEb ?_
      · have := h2 (x : Int) (List.mem_map.2 ⟨x, hx, rfl⟩)
        have hxb := hR x hx
        rwa [bitAt_nat (by omega) (by omega)] at this
      · unfold s_l02Echelon_l4
        rw [Tre.run_cond]
        show cond (decide ((c : Int) < (m : Int))) _ _ = _
        rw [hdec, cond_true, run_some_mat (hfind.trans (by rw [h1])), Tre.run_cond]
        simp only [show decide ((-1 : Int) < 0) = true from rfl, cond_true, Tre.run_ret, hw]
    · obtain ⟨r, hr1, rfl⟩ : ∃ r : Nat, R[k]? = some r ∧ (r : Int) = x := by
        simp only [up, List.getElem?_map, Option.map_eq_some_iff] at h1
        exact h1
      have hrm : r ∈ R := List.mem_of_getElem? hr1
      have hrb := hR r hrm
      rw [bitAt_nat (by omega) (by omega)] at h2
      rw [Nat.zero_add] at h3
      have hk : k < R.length := (List.getElem?_eq_some_iff.1 hr1).1
      have hE2 : ((E.map fun a => (a.1, elimB c r a.2)) ++ [(c, r)]).map (·.2) = (E.map (·.2)).map (elimB c r) ++ [r] := by simp [List.map_map, Function.comp_def]
      refine hstep (E.map (fun a => (a.1, elimB c r a.2)) ++ [(c, r)]) ((R.set k 0).map (elimB c r)) (hI.step hrm h2 ?_ ?_) (by simp; omega) (by simpa using hl) ?_ ?_ ?_
      · intro y hy
        obtain ⟨x, hx, rfl⟩ := List.mem_map.1 hy
        rcases List.mem_or_eq_of_mem_set hx with hx | rfl
        · exact .inr ⟨x, hx, rfl⟩
        · exact .inl (by unfold elimB; simp)
      · intro x hx
        obtain ⟨j, hj⟩ := List.getElem?_of_mem hx
        by_cases hjk : k = j
        · subst hjk; rw [hr1] at hj; exact .inl (Option.some.inj hj).symm
        · refine .inr (List.mem_map.2 ⟨x, List.mem_of_getElem? (i := j) ?_, rfl⟩)
          rw [List.getElem?_set, if_neg hjk, hj]
      · intro y hy
        obtain ⟨x, hx, rfl⟩ := List.mem_map.1 hy
        refine elimB_lt hrb ?_
        rcases List.mem_or_eq_of_mem_set hx with hx | rfl
        · exact hR x hx
        · exact Nat.two_pow_pos m
      · intro a ha
        rcases List.mem_append.1 ha with ha | ha
        · obtain ⟨b, hb, rfl⟩ := List.mem_map.1 ha
          exact elimB_lt hrb (hEb b hb)
        · simp only [List.mem_singleton] at ha; subst ha; exact hrb
      · have e1 := s_l02Echelon_elim c r (by omega) (by omega) (R.set k 0) (fun x hx => by
          rcases List.mem_or_eq_of_mem_set hx with hx | rfl
          · have := hR x hx; omega
          · decide) (by simpa using hl)
        have e2 : loopF (s_l02Echelon_l21 (c : Int) (r : Int)) (0, up (E.map (·.2))) = some (up ((E.map (·.2)).map (elimB c r))) := by
          rw [s_l02Echelon_l21_eq]
          exact s_l02Echelon_elim c r (by omega) (by omega) (E.map (·.2)) (fun x hx => by
          obtain ⟨a, ha, rfl⟩ := List.mem_map.1 hx
          have := hEb a ha
          omega) (by simp; omega)
        unfold s_l02Echelon_l4
        rw [Tre.run_cond]
        show cond (decide ((c : Int) < (m : Int))) _ _ = _
        rw [hdec, cond_true, run_some_mat (hfind.trans (by rw [h3])), Tre.run_cond]
        rw [show decide ((k : Int) < 0) = false from by simp, cond_false, run_at h1, run_at h1, Int.toNat_natCast]
        rw [show (up R).set k 0 = up (R.set k 0) from up_set R k 0, run_some_mat e1, run_some_mat e2]
        rw [Tre.run_ite, if_pos (by unfold appendMax; rw [up_len]; simp; omega), Tre.run_ret, hw, hE2]
        simp [up]
theorem s_l02Echelon_spec (p0 : Int) (p1 : List Int) (y : List Int) (h : echB p0 p1 = some y) : s_l02Echelon_F p0 p1 = some y := by
  obtain ⟨hl, rfl⟩ := askO_some h
  rw [Bool.and_eq_true, inR_iff] at hl
  obtain ⟨m, rfl⟩ : ∃ m : Nat, p0 = (m : Int) := ⟨p0.toNat, by omega⟩
  obtain ⟨ns, rfl, hlen, hb, hn⟩ := okRows_up hl.2
  rw [Int.toNat_natCast] at hb
  obtain ⟨E, h1, h2⟩ := s_l02Echelon_loop m (by omega) ns m 0 [] ns (by omega) (Inv.start ns) (Nat.zero_le _) hlen hb (fun a ha => by cases ha)
  unfold s_l02Echelon_F s_l02Echelon
  have e1 : cloneR (up ns) = some (up ns) := lim_of (by rw [up_len]; exact hlen)
  have h1 : loopF (s_l02Echelon_l4 (m : Int)) (0, up ns, []) = some (up E) := h1
  rw [run_some_mat e1, run_some_mat h1]
  unfold echI
  rw [hn, ech_of h2]
  rfl
noncomputable def s_l02Echelon_V : Env := ⟨tau, [(111, s_l00Own_c), (100, s_l02Bit_c)], []⟩
noncomputable def s_l02Echelon_b : Code := (Try.f88.body).getD .skip
noncomputable def s_l02Echelon_l8_mk (h8_0_0 : Int) (h8_0_1 : Int) (h8_0_4 : (List Int)) (h8_0_5 : (List Int)) : (Int × Int) → St := fun x => stOf [(0, (.imm true (.int .i64) h8_0_0)), (5, (.ref (7, 0) [])), (6, (.ref (8, 0) [])), (7, (.imm true (.int .i64) h8_0_1)), (8, (.imm true (.int .i64) x.1)), (9, (.imm true (.int .i64) x.2))] [((7, 0), some ⟨false, (.sl (.int .i64)), .own, h8_0_4⟩), ((8, 0), some ⟨false, (.sl (.int .i64)), .own, h8_0_5⟩)]
noncomputable def s_l02Echelon_l8_out (h8_0_0 : Int) (h8_0_1 : Int) (h8_0_4 : (List Int)) (h8_0_5 : (List Int)) : Int → Ex × St := fun x => (.exit 2, stOf [(0, (.imm true (.int .i64) h8_0_0)), (5, (.ref (7, 0) [])), (6, (.ref (8, 0) [])), (7, (.imm true (.int .i64) h8_0_1)), (8, (.imm true (.int .i64) x))] [((7, 0), some ⟨false, (.sl (.int .i64)), .own, h8_0_4⟩), ((8, 0), some ⟨false, (.sl (.int .i64)), .own, h8_0_5⟩)])
noncomputable def s_l02Echelon_l8_D (s : St) : Tre (Ex × St) :=
  asImmZ true (.int .i64) (s.tmps 0) fun d2 =>
  asRef (7, 0) [] (s.tmps 5) <|
  asRef (8, 0) [] (s.tmps 6) <|
  asImmZ true (.int .i64) (s.tmps 7) fun d6 =>
  asImmZ true (.int .i64) (s.tmps 8) fun d8 =>
  asImmZ true (.int .i64) (s.tmps 9) fun d10 =>
  asRoot false (.sl (.int .i64)) (s.roots (7, 0)) fun m12 d13 =>
  asM .own m12 <|
  asRoot false (.sl (.int .i64)) (s.roots (8, 0)) fun m15 d16 =>
  asM .own m15 <|
  .mat (loopF (s_l02Echelon_l8 d6 d13) (d8, d10)) fun x => .ret (s_l02Echelon_l8_out d2 d6 d13 d16 x)
noncomputable def s_l02Echelon_l8_L : LoopI := ⟨([0, 5, 6, 7, 8, 9], [(7, 0), (8, 0)]), ([0, 5, 6, 7, 8], [(7, 0), (8, 0)]), s_l02Echelon_l8_D⟩
noncomputable def s_l02Echelon_l16_mk (h16_0_0 : Int) (h16_0_1 : Int) (h16_0_2 : Int) (h16_0_5 : (List Int)) : (Int × (List Int)) → St := fun x => stOf [(0, (.imm true (.int .i64) h16_0_0)), (5, (.ref (7, 0) [])), (6, (.ref (8, 0) [])), (7, (.imm true (.int .i64) h16_0_1)), (10, (.imm true (.int .i64) h16_0_2)), (11, (.imm true (.int .i64) x.1))] [((7, 0), some ⟨false, (.sl (.int .i64)), .own, x.2⟩), ((8, 0), some ⟨false, (.sl (.int .i64)), .own, h16_0_5⟩)]
noncomputable def s_l02Echelon_l16_out (h16_0_0 : Int) (h16_0_1 : Int) (h16_0_2 : Int) (h16_0_5 : (List Int)) : (List Int) → Ex × St := fun x => (.exit 4, stOf [(0, (.imm true (.int .i64) h16_0_0)), (5, (.ref (7, 0) [])), (6, (.ref (8, 0) [])), (7, (.imm true (.int .i64) h16_0_1)), (10, (.imm true (.int .i64) h16_0_2))] [((7, 0), some ⟨false, (.sl (.int .i64)), .own, x⟩), ((8, 0), some ⟨false, (.sl (.int .i64)), .own, h16_0_5⟩)])
noncomputable def s_l02Echelon_l16_D (s : St) : Tre (Ex × St) :=
  asImmZ true (.int .i64) (s.tmps 0) fun d2 =>
  asRef (7, 0) [] (s.tmps 5) <|
  asRef (8, 0) [] (s.tmps 6) <|
  asImmZ true (.int .i64) (s.tmps 7) fun d6 =>
  asImmZ true (.int .i64) (s.tmps 10) fun d8 =>
  asImmZ true (.int .i64) (s.tmps 11) fun d10 =>
  asRoot false (.sl (.int .i64)) (s.roots (7, 0)) fun m12 d13 =>
  asM .own m12 <|
  asRoot false (.sl (.int .i64)) (s.roots (8, 0)) fun m15 d16 =>
  asM .own m15 <|
  .mat (loopF (s_l02Echelon_l16 d6 d8) (d10, d13)) fun x => .ret (s_l02Echelon_l16_out d2 d6 d8 d16 x)
noncomputable def s_l02Echelon_l16_L : LoopI := ⟨([0, 5, 6, 7, 10, 11], [(7, 0), (8, 0)]), ([0, 5, 6, 7, 10], [(7, 0), (8, 0)]), s_l02Echelon_l16_D⟩
noncomputable def s_l02Echelon_l21_mk (h21_0_0 : Int) (h21_0_1 : Int) (h21_0_2 : Int) (h21_0_4 : (List Int)) : (Int × (List Int)) → St := fun x => stOf [(0, (.imm true (.int .i64) h21_0_0)), (5, (.ref (7, 0) [])), (6, (.ref (8, 0) [])), (7, (.imm true (.int .i64) h21_0_1)), (10, (.imm true (.int .i64) h21_0_2)), (12, (.imm true (.int .i64) x.1))] [((7, 0), some ⟨false, (.sl (.int .i64)), .own, h21_0_4⟩), ((8, 0), some ⟨false, (.sl (.int .i64)), .own, x.2⟩)]
noncomputable def s_l02Echelon_l21_out (h21_0_0 : Int) (h21_0_1 : Int) (h21_0_2 : Int) (h21_0_4 : (List Int)) : (List Int) → Ex × St := fun x => (.exit 6, stOf [(0, (.imm true (.int .i64) h21_0_0)), (5, (.ref (7, 0) [])), (6, (.ref (8, 0) [])), (7, (.imm true (.int .i64) h21_0_1)), (10, (.imm true (.int .i64) h21_0_2))] [((7, 0), some ⟨false, (.sl (.int .i64)), .own, h21_0_4⟩), ((8, 0), some ⟨false, (.sl (.int .i64)), .own, x⟩)])
noncomputable def s_l02Echelon_l21_D (s : St) : Tre (Ex × St) :=
  asImmZ true (.int .i64) (s.tmps 0) fun d2 =>
  asRef (7, 0) [] (s.tmps 5) <|
  asRef (8, 0) [] (s.tmps 6) <|
  asImmZ true (.int .i64) (s.tmps 7) fun d6 =>
  asImmZ true (.int .i64) (s.tmps 10) fun d8 =>
  asImmZ true (.int .i64) (s.tmps 12) fun d10 =>
  asRoot false (.sl (.int .i64)) (s.roots (7, 0)) fun m12 d13 =>
  asM .own m12 <|
  asRoot false (.sl (.int .i64)) (s.roots (8, 0)) fun m15 d16 =>
  asM .own m15 <|
  .mat (loopF (s_l02Echelon_l21 d6 d8) (d10, d16)) fun x => .ret (s_l02Echelon_l21_out d2 d6 d8 d13 x)
noncomputable def s_l02Echelon_l21_L : LoopI := ⟨([0, 5, 6, 7, 10, 12], [(7, 0), (8, 0)]), ([0, 5, 6, 7, 10], [(7, 0), (8, 0)]), s_l02Echelon_l21_D⟩
noncomputable def s_l02Echelon_l4_mk (h4_0_0 : Int) : (Int × (List Int) × (List Int)) → St := fun x => stOf [(0, (.imm true (.int .i64) h4_0_0)), (5, (.ref (7, 0) [])), (6, (.ref (8, 0) [])), (7, (.imm true (.int .i64) x.1))] [((7, 0), some ⟨false, (.sl (.int .i64)), .own, x.2.1⟩), ((8, 0), some ⟨false, (.sl (.int .i64)), .own, x.2.2⟩)]
noncomputable def s_l02Echelon_l4_out (_h4_0_0 : Int) : (List Int) → Ex × St := fun x => (.exit 0, stOf [(6, (.ref (8, 0) []))] [((8, 0), some ⟨false, (.sl (.int .i64)), .own, x⟩)])
noncomputable def s_l02Echelon_l4_D (s : St) : Tre (Ex × St) :=
  asImmZ true (.int .i64) (s.tmps 0) fun d2 =>
  asRef (7, 0) [] (s.tmps 5) <|
  asRef (8, 0) [] (s.tmps 6) <|
  asImmZ true (.int .i64) (s.tmps 7) fun d6 =>
  asRoot false (.sl (.int .i64)) (s.roots (7, 0)) fun m8 d9 =>
  asM .own m8 <|
  asRoot false (.sl (.int .i64)) (s.roots (8, 0)) fun m11 d12 =>
  asM .own m11 <|
  .mat (loopF (s_l02Echelon_l4 d2) (d6, d9, d12)) fun x => .ret (s_l02Echelon_l4_out d2 x)
noncomputable def s_l02Echelon_l4_L : LoopI := ⟨([0, 5, 6, 7], [(7, 0), (8, 0)]), ([6], [(8, 0)]), s_l02Echelon_l4_D⟩
noncomputable def s_l02Echelon_A : List (Nat × LoopI) := [(8, s_l02Echelon_l8_L), (16, s_l02Echelon_l16_L), (21, s_l02Echelon_l21_L), (4, s_l02Echelon_l4_L)]
set_option maxRecDepth 100000 in
theorem s_l02Echelon_l8_step : ∀ (h8_0_0 : Int) (h8_0_1 : Int) (h8_0_4 : (List Int)) (h8_0_5 : (List Int)) (x : (Int × Int)) (c : St → Option (Ex × St)), den s_l02Echelon_V s_l02Echelon_A (loopAt s_l02Echelon_b 1) (s_l02Echelon_l8_mk h8_0_0 h8_0_1 h8_0_4 h8_0_5 x) (roundK s_l02Echelon_l8_L.kp s_l02Echelon_l8_L.kx c) = (s_l02Echelon_l8 h8_0_1 h8_0_4 x).run (roundR (s_l02Echelon_l8_mk h8_0_0 h8_0_1 h8_0_4 h8_0_5) (s_l02Echelon_l8_out h8_0_0 h8_0_1 h8_0_4 h8_0_5) c) := fun _ _ _ _ _ _ => by
  kernel_rfl
theorem s_l02Echelon_l8_ok : LoopOK s_l02Echelon_V s_l02Echelon_A (loopAt s_l02Echelon_b 1) s_l02Echelon_l8_L := loopOK_of fun s e s' h => by
  generalize hs : restrict s_l02Echelon_l8_L.kp s = s1 at h
  have h : (s_l02Echelon_l8_D s1).run some = some (e, s') := h
  obtain ⟨d2, e1, h_0⟩ := asImmZ_spec h
  obtain ⟨e3, h_1⟩ := asRef_spec h_0
  obtain ⟨e4, h_2⟩ := asRef_spec h_1
  obtain ⟨d6, e5, h_3⟩ := asImmZ_spec h_2
  obtain ⟨d8, e7, h_4⟩ := asImmZ_spec h_3
  obtain ⟨d10, e9, h_5⟩ := asImmZ_spec h_4
  obtain ⟨m12, d13, e11, h_6⟩ := asRoot_spec h_5
  obtain ⟨rfl, h_7⟩ := asM_spec h_6
  obtain ⟨m15, d16, e14, h_8⟩ := asRoot_spec h_7
  obtain ⟨rfl, h_9⟩ := asM_spec h_8
  obtain ⟨y, hy, hz⟩ := mat_ret h_9
  refine ⟨_, _, s_l02Echelon_l8_mk d2 d6 d13 d16, s_l02Echelon_l8_out d2 d6 d13 d16, s_l02Echelon_l8 d6 d13, (d8, d10), y, ?_, hy, ?_, s_l02Echelon_l8_step d2 d6 d13 d16⟩
  · subst hs; exact restrict_eq (T := [(0, (.imm true (.int .i64) d2)), (5, (.ref (7, 0) [])), (6, (.ref (8, 0) [])), (7, (.imm true (.int .i64) d6)), (8, (.imm true (.int .i64) d8)), (9, (.imm true (.int .i64) d10))]) (U := [((7, 0), some ⟨false, (.sl (.int .i64)), .own, d13⟩), ((8, 0), some ⟨false, (.sl (.int .i64)), .own, d16⟩)]) rfl rfl ⟨e1, e3, e4, e5, e7, e9, trivial⟩ ⟨e11, e14, trivial⟩
  · exact Option.some.inj hz
set_option maxRecDepth 100000 in
theorem s_l02Echelon_l16_step : ∀ (h16_0_0 : Int) (h16_0_1 : Int) (h16_0_2 : Int) (h16_0_5 : (List Int)) (x : (Int × (List Int))) (c : St → Option (Ex × St)), den s_l02Echelon_V s_l02Echelon_A (loopAt s_l02Echelon_b 2) (s_l02Echelon_l16_mk h16_0_0 h16_0_1 h16_0_2 h16_0_5 x) (roundK s_l02Echelon_l16_L.kp s_l02Echelon_l16_L.kx c) = (s_l02Echelon_l16 h16_0_1 h16_0_2 x).run (roundR (s_l02Echelon_l16_mk h16_0_0 h16_0_1 h16_0_2 h16_0_5) (s_l02Echelon_l16_out h16_0_0 h16_0_1 h16_0_2 h16_0_5) c) := fun _ _ _ _ _ _ => by
  kernel_rfl
theorem s_l02Echelon_l16_ok : LoopOK s_l02Echelon_V s_l02Echelon_A (loopAt s_l02Echelon_b 2) s_l02Echelon_l16_L := loopOK_of fun s e s' h => by
  generalize hs : restrict s_l02Echelon_l16_L.kp s = s1 at h
  have h : (s_l02Echelon_l16_D s1).run some = some (e, s') := h
  obtain ⟨d2, e1, h_0⟩ := asImmZ_spec h
  obtain ⟨e3, h_1⟩ := asRef_spec h_0
  obtain ⟨e4, h_2⟩ := asRef_spec h_1
  obtain ⟨d6, e5, h_3⟩ := asImmZ_spec h_2
  obtain ⟨d8, e7, h_4⟩ := asImmZ_spec h_3
  obtain ⟨d10, e9, h_5⟩ := asImmZ_spec h_4
  obtain ⟨m12, d13, e11, h_6⟩ := asRoot_spec h_5
  obtain ⟨rfl, h_7⟩ := asM_spec h_6
  obtain ⟨m15, d16, e14, h_8⟩ := asRoot_spec h_7
  obtain ⟨rfl, h_9⟩ := asM_spec h_8
  obtain ⟨y, hy, hz⟩ := mat_ret h_9
  refine ⟨_, _, s_l02Echelon_l16_mk d2 d6 d8 d16, s_l02Echelon_l16_out d2 d6 d8 d16, s_l02Echelon_l16 d6 d8, (d10, d13), y, ?_, hy, ?_, s_l02Echelon_l16_step d2 d6 d8 d16⟩
  · subst hs; exact restrict_eq (T := [(0, (.imm true (.int .i64) d2)), (5, (.ref (7, 0) [])), (6, (.ref (8, 0) [])), (7, (.imm true (.int .i64) d6)), (10, (.imm true (.int .i64) d8)), (11, (.imm true (.int .i64) d10))]) (U := [((7, 0), some ⟨false, (.sl (.int .i64)), .own, d13⟩), ((8, 0), some ⟨false, (.sl (.int .i64)), .own, d16⟩)]) rfl rfl ⟨e1, e3, e4, e5, e7, e9, trivial⟩ ⟨e11, e14, trivial⟩
  · exact Option.some.inj hz
set_option maxRecDepth 100000 in
theorem s_l02Echelon_l21_step : ∀ (h21_0_0 : Int) (h21_0_1 : Int) (h21_0_2 : Int) (h21_0_4 : (List Int)) (x : (Int × (List Int))) (c : St → Option (Ex × St)), den s_l02Echelon_V s_l02Echelon_A (loopAt s_l02Echelon_b 3) (s_l02Echelon_l21_mk h21_0_0 h21_0_1 h21_0_2 h21_0_4 x) (roundK s_l02Echelon_l21_L.kp s_l02Echelon_l21_L.kx c) = (s_l02Echelon_l21 h21_0_1 h21_0_2 x).run (roundR (s_l02Echelon_l21_mk h21_0_0 h21_0_1 h21_0_2 h21_0_4) (s_l02Echelon_l21_out h21_0_0 h21_0_1 h21_0_2 h21_0_4) c) := fun _ _ _ _ _ _ => by
  kernel_rfl
theorem s_l02Echelon_l21_ok : LoopOK s_l02Echelon_V s_l02Echelon_A (loopAt s_l02Echelon_b 3) s_l02Echelon_l21_L := loopOK_of fun s e s' h => by
  generalize hs : restrict s_l02Echelon_l21_L.kp s = s1 at h
  have h : (s_l02Echelon_l21_D s1).run some = some (e, s') := h
  obtain ⟨d2, e1, h_0⟩ := asImmZ_spec h
  obtain ⟨e3, h_1⟩ := asRef_spec h_0
  obtain ⟨e4, h_2⟩ := asRef_spec h_1
  obtain ⟨d6, e5, h_3⟩ := asImmZ_spec h_2
  obtain ⟨d8, e7, h_4⟩ := asImmZ_spec h_3
  obtain ⟨d10, e9, h_5⟩ := asImmZ_spec h_4
  obtain ⟨m12, d13, e11, h_6⟩ := asRoot_spec h_5
  obtain ⟨rfl, h_7⟩ := asM_spec h_6
  obtain ⟨m15, d16, e14, h_8⟩ := asRoot_spec h_7
  obtain ⟨rfl, h_9⟩ := asM_spec h_8
  obtain ⟨y, hy, hz⟩ := mat_ret h_9
  refine ⟨_, _, s_l02Echelon_l21_mk d2 d6 d8 d13, s_l02Echelon_l21_out d2 d6 d8 d13, s_l02Echelon_l21 d6 d8, (d10, d16), y, ?_, hy, ?_, s_l02Echelon_l21_step d2 d6 d8 d13⟩
  · subst hs; exact restrict_eq (T := [(0, (.imm true (.int .i64) d2)), (5, (.ref (7, 0) [])), (6, (.ref (8, 0) [])), (7, (.imm true (.int .i64) d6)), (10, (.imm true (.int .i64) d8)), (12, (.imm true (.int .i64) d10))]) (U := [((7, 0), some ⟨false, (.sl (.int .i64)), .own, d13⟩), ((8, 0), some ⟨false, (.sl (.int .i64)), .own, d16⟩)]) rfl rfl ⟨e1, e3, e4, e5, e7, e9, trivial⟩ ⟨e11, e14, trivial⟩
  · exact Option.some.inj hz
set_option maxRecDepth 100000 in
theorem s_l02Echelon_l4_step : ∀ (h4_0_0 : Int) (x : (Int × (List Int) × (List Int))) (c : St → Option (Ex × St)), den s_l02Echelon_V s_l02Echelon_A (loopAt s_l02Echelon_b 0) (s_l02Echelon_l4_mk h4_0_0 x) (roundK s_l02Echelon_l4_L.kp s_l02Echelon_l4_L.kx c) = (s_l02Echelon_l4 h4_0_0 x).run (roundR (s_l02Echelon_l4_mk h4_0_0) (s_l02Echelon_l4_out h4_0_0) c) := fun _ _ _ => by
  kernel_rfl
theorem s_l02Echelon_l4_ok : LoopOK s_l02Echelon_V s_l02Echelon_A (loopAt s_l02Echelon_b 0) s_l02Echelon_l4_L := loopOK_of fun s e s' h => by
  generalize hs : restrict s_l02Echelon_l4_L.kp s = s1 at h
  have h : (s_l02Echelon_l4_D s1).run some = some (e, s') := h
  obtain ⟨d2, e1, h_0⟩ := asImmZ_spec h
  obtain ⟨e3, h_1⟩ := asRef_spec h_0
  obtain ⟨e4, h_2⟩ := asRef_spec h_1
  obtain ⟨d6, e5, h_3⟩ := asImmZ_spec h_2
  obtain ⟨m8, d9, e7, h_4⟩ := asRoot_spec h_3
  obtain ⟨rfl, h_5⟩ := asM_spec h_4
  obtain ⟨m11, d12, e10, h_6⟩ := asRoot_spec h_5
  obtain ⟨rfl, h_7⟩ := asM_spec h_6
  obtain ⟨y, hy, hz⟩ := mat_ret h_7
  refine ⟨_, _, s_l02Echelon_l4_mk d2, s_l02Echelon_l4_out d2, s_l02Echelon_l4 d2, (d6, d9, d12), y, ?_, hy, ?_, s_l02Echelon_l4_step d2⟩
  · subst hs; exact restrict_eq (T := [(0, (.imm true (.int .i64) d2)), (5, (.ref (7, 0) [])), (6, (.ref (8, 0) [])), (7, (.imm true (.int .i64) d6))]) (U := [((7, 0), some ⟨false, (.sl (.int .i64)), .own, d9⟩), ((8, 0), some ⟨false, (.sl (.int .i64)), .own, d12⟩)]) rfl rfl ⟨e1, e3, e4, e5, trivial⟩ ⟨e7, e10, trivial⟩
  · exact Option.some.inj hz
noncomputable def s_l02Echelon_I : FnI := ⟨s_l02Echelon_b, Try.f88.results.toList, Try.f88.resultTypes.toList, s_l02Echelon_A⟩
noncomputable def s_l02Echelon_out (_zp0 : Bool) (_p0 : Int) (_p1 : (List Int)) : (List Int) → CallOut := fun r => ⟨(.ref (1, 0) []), [], [⟨false, (.sl (.int .i64)), .own, r⟩]⟩
set_option maxRecDepth 100000 in
theorem s_l02Echelon_eq : ∀ (zp0 : Bool) (p0 : Int) (p1 : (List Int)), denFn s_l02Echelon_V s_l02Echelon_I ⟨[(.imm true (.int .i64) p0), (.imm zp0 (.sl (.int .i64)) p1)], []⟩ = (s_l02Echelon p0 p1).run fun r => some (s_l02Echelon_out zp0 p0 p1 r) := fun _ _ _ => by kernel_rfl
noncomputable def s_l02Echelon_G (av : List AV) (rs : List Root) : Tre CallOut :=
  asCons av fun a0_ av0 =>
  asCons av0 fun a1_ av1 =>
  asEnd av1 <|
  asEnd rs <|
  asImmZ true (.int .i64) a0_ fun d1 =>
  asImm (.sl (.int .i64)) a1_ fun z3 d2 =>
  .mat (echB d1 d2) fun r => .ret (s_l02Echelon_out z3 d1 d2 r)
noncomputable def s_l02Echelon_c : Ctr := ⟨[], fun ci => s_l02Echelon_G ci.args ci.roots⟩
theorem s_l02Echelon_env : EnvOK Try.prog s_l02Echelon_V := (envOK_cons s_l00Own_ok ent111 (envOK_cons s_l02Bit_ok ent100 envOK_nil))
set_option maxRecDepth 100000 in
theorem s_l02Echelon_ok : Contract Try.prog 88 s_l02Echelon_c := by
  have hl : LoopsOK s_l02Echelon_V s_l02Echelon_A s_l02Echelon_b := (loopsOK_all (n := 4) (by kernel_rfl) fun k hk => by
      match k, hk with
      | 0, _ => exact loopOK_at (id := 4) (L := s_l02Echelon_l4_L) (by kernel_rfl) (by kernel_rfl) s_l02Echelon_l4_ok
      | 1, _ => exact loopOK_at (id := 8) (L := s_l02Echelon_l8_L) (by kernel_rfl) (by kernel_rfl) s_l02Echelon_l8_ok
      | 2, _ => exact loopOK_at (id := 16) (L := s_l02Echelon_l16_L) (by kernel_rfl) (by kernel_rfl) s_l02Echelon_l16_ok
      | 3, _ => exact loopOK_at (id := 21) (L := s_l02Echelon_l21_L) (by kernel_rfl) (by kernel_rfl) s_l02Echelon_l21_ok)
  refine (contract_of (F := s_l02Echelon_I) tau_tys s_l02Echelon_env Try.func88 (by kernel_rfl) (by kernel_rfl) (by kernel_rfl) hl []).weaken ?_
  rintro ⟨av, rs⟩ co h
  have h : (s_l02Echelon_G av rs).run some = some co := h
  obtain ⟨a0_, av0, rfl, h_0⟩ := asCons_spec h
  obtain ⟨a1_, av1, rfl, h_1⟩ := asCons_spec h_0
  obtain ⟨rfl, h_2⟩ := asEnd_spec h_1
  obtain ⟨rfl, h_3⟩ := asEnd_spec h_2
  obtain ⟨d1, rfl, h_4⟩ := asImmZ_spec h_3
  obtain ⟨z3, d2, rfl, h_5⟩ := asImm_spec h_4
  exact fin_opt (s_l02Echelon_eq z3 d1 d2) (s_l02Echelon_spec d1 d2) h_5
end Go.Proofs.Ytddaclhjnkimfaa

namespace Go.Proofs.Ytddaclhjnkimfaa
open Go Go.Abs Go.Proofs
noncomputable def s_l02Rank (p0 : Int) (p1 : (List Int)) : Tre Int :=
  .mat (echB p0 p1) fun r1 =>
  .ret (r1.length : Int)
noncomputable def s_l02Rank_F (p0 : Int) (p1 : (List Int)) : Option Int := (s_l02Rank p0 p1).run some
noncomputable def rankR (m : Int) (xs : List Int) : Option Int := askO (inR m 0 62 && okRows m.toNat xs) ((echI xs).length : Int)
theorem s_l02Rank_spec (p0 : Int) (p1 : List Int) (y : Int) (h : rankR p0 p1 = some y) : s_l02Rank_F p0 p1 = some y := by
  obtain ⟨hl, rfl⟩ := askO_some h
  unfold s_l02Rank_F s_l02Rank
  rw [run_some_mat (show echB p0 p1 = some _ from askO_true hl)]
  rfl
noncomputable def s_l02Rank_V : Env := ⟨tau, [(88, s_l02Echelon_c)], []⟩
noncomputable def s_l02Rank_b : Code := (Try.f74.body).getD .skip
noncomputable def s_l02Rank_I : FnI := ⟨s_l02Rank_b, Try.f74.results.toList, Try.f74.resultTypes.toList, []⟩
noncomputable def s_l02Rank_out (_zp0 : Bool) (_p0 : Int) (_p1 : (List Int)) : Int → CallOut := fun r => ⟨(.imm true (.int .i64) r), [], []⟩
set_option maxRecDepth 100000 in
theorem s_l02Rank_eq : ∀ (zp0 : Bool) (p0 : Int) (p1 : (List Int)), denFn s_l02Rank_V s_l02Rank_I ⟨[(.imm true (.int .i64) p0), (.imm zp0 (.sl (.int .i64)) p1)], []⟩ = (s_l02Rank p0 p1).run fun r => some (s_l02Rank_out zp0 p0 p1 r) := fun _ _ _ => by kernel_rfl
noncomputable def s_l02Rank_G (av : List AV) (rs : List Root) : Tre CallOut :=
  asCons av fun a0_ av0 =>
  asCons av0 fun a1_ av1 =>
  asEnd av1 <|
  asEnd rs <|
  asImmZ true (.int .i64) a0_ fun d1 =>
  asImm (.sl (.int .i64)) a1_ fun z3 d2 =>
  .mat (rankR d1 d2) fun r => .ret (s_l02Rank_out z3 d1 d2 r)
noncomputable def s_l02Rank_c : Ctr := ⟨[], fun ci => s_l02Rank_G ci.args ci.roots⟩
theorem s_l02Rank_env : EnvOK Try.prog s_l02Rank_V := (envOK_cons s_l02Echelon_ok ent88 envOK_nil)
set_option maxRecDepth 100000 in
theorem s_l02Rank_ok : Contract Try.prog 74 s_l02Rank_c := by
  have hl : LoopsOK s_l02Rank_V [] s_l02Rank_b := loopsOK_nil (by kernel_rfl)
  refine (contract_of (F := s_l02Rank_I) tau_tys s_l02Rank_env Try.func74 (by kernel_rfl) (by kernel_rfl) (by kernel_rfl) hl []).weaken ?_
  rintro ⟨av, rs⟩ co h
  have h : (s_l02Rank_G av rs).run some = some co := h
  obtain ⟨a0_, av0, rfl, h_0⟩ := asCons_spec h
  obtain ⟨a1_, av1, rfl, h_1⟩ := asCons_spec h_0
  obtain ⟨rfl, h_2⟩ := asEnd_spec h_1
  obtain ⟨rfl, h_3⟩ := asEnd_spec h_2
  obtain ⟨d1, rfl, h_4⟩ := asImmZ_spec h_3
  obtain ⟨z3, d2, rfl, h_5⟩ := asImm_spec h_4
  exact fin_opt (s_l02Rank_eq z3 d1 d2) (s_l02Rank_spec d1 d2) h_5
end Go.Proofs.Ytddaclhjnkimfaa

namespace Go.Proofs.Ytddaclhjnkimfaa
open Go Go.Abs Go.Proofs
noncomputable def s_l08Run_come_c0b8 (p0 : (Int × (Int × Unit))) (p1 : (TPlant × Unit)) (p2 : TGather) : Tre (TPlant × Unit) :=
  .ite (0 ≤ p0.1 ∧ p0.1 < (p1.1.1.length : Int)) <|
  .mat (p1.1.1[p0.1.toNat]?) fun _ =>
  .mat (p1.1.1[p0.1.toNat]?) fun x2 =>
  .mat (cloneR x2.1) fun r3 =>
  .ite ((r3.length + 1) * 8 ≤ appendMax ∧ 1 ≤ 8) <|
  .mat (rankR (s_l08Cols_9aa7_S p2) (r3 ++ ([p0.2.1]))) fun r4 =>
  .cond (decide (r4 = ((r3 ++ ([p0.2.1])).length : Int)))
    (.mat (p1.1.1[p0.1.toNat]?) fun x5 =>
    let v6 := p1.1.1.set p0.1.toNat (r3 ++ ([p0.2.1]), x5.2)
    .ret ((v6, p1.1.2), p1.2))
    (.ret p1)
noncomputable def s_l08Run_come_c0b8_F (p0 : (Int × (Int × Unit))) (p1 : (TPlant × Unit)) (p2 : TGather) : Option (TPlant × Unit) := (s_l08Run_come_c0b8 p0 p1 p2).run some
noncomputable def comeM (x : Int × Int × Unit) (st : List (List Int × List Int × Unit)) : List (List Int × List Int × Unit) :=
  match st[x.1.toNat]? with
  | none => st
  | some s => cond (decide (((echI (s.1 ++ [x.2.1])).length : Int) = ((s.1 ++ [x.2.1]).length : Int))) (st.set x.1.toNat (s.1 ++ [x.2.1], s.2)) st
def okX (g : G8) (x : Int × Int × Unit) : Bool := inR x.1 0 (statG g - 1) && okRow (colsG g) x.2.1
noncomputable def comeR (x : Int × Int × Unit) (p : P8 × Unit) (g : G8) : Option (P8 × Unit) := askO (isG g && okX g x && okP 1000 g p.1) ((comeM x p.1.1, p.1.2), ())
theorem cols_S {g : G8} (h : isG g = true) : s_l08Cols_9aa7_S g = (colsG g : Int) := by
  have h1 := isG_spec h
  rw [(colsG_le h).2]
  unfold s_l08Cols_9aa7_S
  exact iwrap_i64 (by omega) (by omega)
theorem okS_add {k b : Nat} {xs : List Int} {x : Int} (h : okS k b xs = true) (hx : okRow b x = true) : okS (k + 1) b (xs ++ [x]) = true := by
  obtain ⟨h1, h2⟩ := okS_spec.1 h
  refine okS_spec.2 ⟨by simp; omega, fun y hy => ?_⟩
  rcases List.mem_append.1 hy with hy | hy
  · exact h2 y hy
  · simp only [List.mem_singleton] at hy; rw [hy]; exact hx
theorem s_l08Run_come_c0b8_spec (p0 : Int × Int × Unit) (p1 : P8 × Unit) (p2 : G8) (y : P8 × Unit) (h : comeR p0 p1 p2 = some y) : s_l08Run_come_c0b8_F p0 p1 p2 = some y := by
  obtain ⟨hok, rfl⟩ := askO_some h
  simp only [Bool.and_eq_true] at hok
  obtain ⟨⟨hg, hx⟩, hp⟩ := hok
  obtain ⟨l1, l2, l3, l4⟩ := okP_spec hp
  unfold okX at hx
  rw [Bool.and_eq_true, inR_iff] at hx
  obtain ⟨⟨x0, x1⟩, hr⟩ := hx
  obtain ⟨⟨st, wi, ⟨⟩⟩, ⟨⟩⟩ := p1
  obtain ⟨t, r, ⟨⟩⟩ := p0
  simp only at *
  obtain ⟨i, rfl⟩ := Int.eq_ofNat_of_zero_le x0
  have hi : i < st.length := by omega
  obtain ⟨s, hs⟩ : ∃ s, st[i]? = some s := ⟨_, List.getElem?_eq_getElem hi⟩
  have hs1 := (l2 s (List.mem_of_getElem? hs)).1
  have hlen := (okS_spec.1 hs1).1
  unfold s_l08Run_come_c0b8_F s_l08Run_come_c0b8 comeM
  simp only [Int.toNat_natCast, hs]
  rw [Tre.run_ite, if_pos ⟨x0, by omega⟩, run_some_mat rfl, run_some_mat rfl, run_some_mat (show cloneR s.1 = some s.1 from lim_of (by omega)), Tre.run_ite, if_pos (by unfold appendMax; omega), cols_S hg]
  rw [run_some_mat (show rankR (colsG p2 : Int) (s.1 ++ [r]) = some _ from askO_true (by
    rw [Bool.and_eq_true, inR_iff, Int.toNat_natCast]
    exact ⟨by have := (colsG_le hg).1; omega, okS_rows (okS_add hs1 hr) (by omega) (Nat.le_refl _)⟩)), Tre.run_cond]
  cases decide (((echI (s.1 ++ [r])).length : Int) = ((s.1 ++ [r]).length : Int))
  · rfl
  · rw [cond_true, cond_true, run_some_mat rfl]; rfl
theorem comeM_ok {k : Nat} {g : G8} {p : P8} {x : Int × Int × Unit} (hp : okP k g p = true) (hx : okX g x = true) : okP (k + 1) g (comeM x p.1, p.2) = true := by
  obtain ⟨l1, l2, l3, l4⟩ := okP_spec hp
  unfold okX at hx
  rw [Bool.and_eq_true] at hx
  have h0 := okP_mono hp (Nat.le_succ k)
  unfold comeM
  cases hs : p.1[x.1.toNat]? with
  | none => exact h0
  | some s =>
    simp only
    cases decide (((echI (s.1 ++ [x.2.1])).length : Int) = ((s.1 ++ [x.2.1]).length : Int))
    · exact h0
    · have hm := l2 s (List.mem_of_getElem? hs)
      refine okP_mk (by simpa using l1) (fun s' hs' => ?_) l3 l4
      rcases List.mem_or_eq_of_mem_set hs' with hs' | rfl
      · exact ⟨okS_mono (l2 s' hs').1 (Nat.le_succ k), okS_mono (l2 s' hs').2 (Nat.le_succ k)⟩
      · exact ⟨okS_add hm.1 hx.2, okS_mono hm.2 (Nat.le_succ k)⟩
noncomputable def s_l08Run_come_c0b8_V : Env := ⟨tau, [(111, s_l00Own_c), (89, s_l08Cols_9aa7_c), (74, s_l02Rank_c)], []⟩
noncomputable def s_l08Run_come_c0b8_b : Code := (Try.f119.body).getD .skip
noncomputable def s_l08Run_come_c0b8_I : FnI := ⟨s_l08Run_come_c0b8_b, Try.f119.results.toList, Try.f119.resultTypes.toList, []⟩
noncomputable def s_l08Run_come_c0b8_out (zp0 : Bool) (_p0 : (Int × (Int × Unit))) (_p1 : (TPlant × Unit)) (p2 : TGather) : (TPlant × Unit) → CallOut := fun r => ⟨.tnil, [⟨true, kL08Run, .own, ((some (0, 1) : Option RName), r)⟩, ⟨true, kGather, (.imm zp0), p2⟩], []⟩
set_option maxRecDepth 100000 in
theorem s_l08Run_come_c0b8_eq : ∀ (zp0 : Bool) (p0 : (Int × (Int × Unit))) (p1 : (TPlant × Unit)) (p2 : TGather), denFn s_l08Run_come_c0b8_V s_l08Run_come_c0b8_I ⟨[(.ptr (0, 0) []), (.imm true kField p0)], [⟨true, kL08Run, .own, ((some (0, 1) : Option RName), p1)⟩, ⟨true, kGather, (.imm zp0), p2⟩]⟩ = (s_l08Run_come_c0b8 p0 p1 p2).run fun r => some (s_l08Run_come_c0b8_out zp0 p0 p1 p2 r) := fun _ _ _ _ => by kernel_rfl
noncomputable def s_l08Run_come_c0b8_G (av : List AV) (rs : List Root) : Tre CallOut :=
  asCons av fun a0_ av0 =>
  asCons av0 fun a1_ av1 =>
  asEnd av1 <|
  asCons rs fun r0_ rs0 =>
  asCons rs0 fun r1_ rs1 =>
  asEnd rs1 <|
  asPtr (0, 0) [] a0_ <|
  asImmZ true kField a1_ fun d1 =>
  asRt true kL08Run r0_ fun m2 d3 =>
  asM .own m2 <|
  asProd d3 fun d4 d5 =>
  asD d4 (some (0, 1) : Option RName) <|
  asRt true kGather r1_ fun m6 d7 =>
  asMImm m6 fun z8 =>
  .mat (comeR d1 d5 d7) fun r => .ret (s_l08Run_come_c0b8_out z8 d1 d5 d7 r)
noncomputable def s_l08Run_come_c0b8_c : Ctr := ⟨[], fun ci => s_l08Run_come_c0b8_G ci.args ci.roots⟩
theorem s_l08Run_come_c0b8_env : EnvOK Try.prog s_l08Run_come_c0b8_V := (envOK_cons s_l00Own_ok ent111 (envOK_cons s_l08Cols_9aa7_ok ent89 (envOK_cons s_l02Rank_ok ent74 envOK_nil)))
set_option maxRecDepth 100000 in
theorem s_l08Run_come_c0b8_ok : Contract Try.prog 119 s_l08Run_come_c0b8_c := by
  have hl : LoopsOK s_l08Run_come_c0b8_V [] s_l08Run_come_c0b8_b := loopsOK_nil (by kernel_rfl)
  refine (contract_of (F := s_l08Run_come_c0b8_I) tau_tys s_l08Run_come_c0b8_env Try.func119 (by kernel_rfl) (by kernel_rfl) (by kernel_rfl) hl []).weaken ?_
  rintro ⟨av, rs⟩ co h
  have h : (s_l08Run_come_c0b8_G av rs).run some = some co := h
  obtain ⟨a0_, av0, rfl, h_0⟩ := asCons_spec h
  obtain ⟨a1_, av1, rfl, h_1⟩ := asCons_spec h_0
  obtain ⟨rfl, h_2⟩ := asEnd_spec h_1
  obtain ⟨r0_, rs0, rfl, h_3⟩ := asCons_spec h_2
  obtain ⟨r1_, rs1, rfl, h_4⟩ := asCons_spec h_3
  obtain ⟨rfl, h_5⟩ := asEnd_spec h_4
  obtain ⟨rfl, h_6⟩ := asPtr_spec h_5
  obtain ⟨d1, rfl, h_7⟩ := asImmZ_spec h_6
  obtain ⟨m2, d3, rfl, h_8⟩ := asRt_spec h_7
  obtain ⟨rfl, h_9⟩ := asM_spec h_8
  obtain ⟨d4, d5, rfl, h_10⟩ := asProd_spec h_9
  obtain ⟨rfl, h_11⟩ := asD_spec h_10
  obtain ⟨m6, d7, rfl, h_12⟩ := asRt_spec h_11
  obtain ⟨z8, rfl, h_13⟩ := asMImm_spec h_12
  exact fin_opt (s_l08Run_come_c0b8_eq z8 d1 d5 d7) (s_l08Run_come_c0b8_spec d1 d5 d7) h_13
end Go.Proofs.Ytddaclhjnkimfaa

namespace Go.Proofs.Ytddaclhjnkimfaa
open Go Go.Abs Go.Proofs
noncomputable def s_l08Run_wire_9d6c (p0 : TDeed) (p1 : (TPlant × Unit)) (p2 : TGather) : Tre (Int × (TPlant × Unit)) :=
  .cond (decide (p0.2.1 ≥ (p1.1.2.1.length : Int)))
    (.ret (2, p1))
    (.cond (decide (p0.1 = 5))
      (.cond (decide (p0.2.2.1 = 0))
        (.ret (2, p1))
        (let v1 := iwrap .u64 (s_l08Cols_9aa7_S p2)
        .ite (0 ≤ v1) <|
        .cond (decide (p0.2.2.1 ≥ ishl .i64 1 v1))
          (.ret (2, p1))
          (.ite (0 ≤ p0.2.1 ∧ p0.2.1 < (p1.1.2.1.length : Int)) <|
          .mat (p1.1.2.1[p0.2.1.toNat]?) fun x2 =>
          let v3 := ixor .i64 x2.2.1 p0.2.2.1
          .ite (0 ≤ p0.2.1 ∧ p0.2.1 < (p1.1.2.1.length : Int)) <|
          .mat (p1.1.2.1[p0.2.1.toNat]?) fun x4 =>
          let v5 := p1.1.2.1.set p0.2.1.toNat (x4.1, (v3, x4.2.2))
          .ret (0, ((p1.1.1, (v5, p1.1.2.2)), p1.2)))))
      (.cond (decide (p0.1 = 3))
        (.ite (0 ≤ p0.2.1 ∧ p0.2.1 < (p1.1.2.1.length : Int)) <|
        .mat (p1.1.2.1[p0.2.1.toNat]?) fun x6 =>
        .mat (comeR x6 p1 p2) fun r7 =>
        .ret (0, r7))
        (.cond (decide (p0.1 = 2))
          (.ite (0 ≤ p0.2.1 ∧ p0.2.1 < (p1.1.2.1.length : Int)) <|
          .mat (p1.1.2.1[p0.2.1.toNat]?) fun x8 =>
          .mat (comeR x8 p1 p2) fun r9 =>
          .ite (0 ≤ iwrap .i64 (p0.2.1 + 1) ∧ iwrap .i64 (p0.2.1 + 1) ≤ (r9.1.2.1.length : Int) ∧ (r9.1.2.1.length : Int) ≤ (r9.1.2.1.length : Int)) <|
          .ite ((0 + ((r9.1.2.1.drop ((iwrap .i64 (p0.2.1 + 1)).toNat)).take (((r9.1.2.1.length : Int) - (iwrap .i64 (p0.2.1 + 1))).toNat)).length) * 16 ≤ appendMax ∧ 1 ≤ 16) <|
          let v10 := [] ++ ((r9.1.2.1.drop ((iwrap .i64 (p0.2.1 + 1)).toNat)).take (((r9.1.2.1.length : Int) - (iwrap .i64 (p0.2.1 + 1))).toNat))
          .ite (0 ≤ (0 : Int) ∧ (0 : Int) ≤ p0.2.1 ∧ p0.2.1 ≤ (r9.1.2.1.length : Int)) <|
          .ite ((0 + ((r9.1.2.1.drop 0).take ((p0.2.1 - 0).toNat)).length) * 16 ≤ appendMax ∧ 1 ≤ 16) <|
          let v11 := [] ++ ((r9.1.2.1.drop 0).take ((p0.2.1 - 0).toNat))
          .ite ((v11.length + v10.length) * 16 ≤ appendMax ∧ 1 ≤ 16) <|
          .ret (0, ((r9.1.1, (v11 ++ v10, r9.1.2.2)), r9.2)))
          (.ite (0 ≤ iwrap .i64 (p0.2.1 + 1) ∧ iwrap .i64 (p0.2.1 + 1) ≤ (p1.1.2.1.length : Int) ∧ (p1.1.2.1.length : Int) ≤ (p1.1.2.1.length : Int)) <|
          .ite ((0 + ((p1.1.2.1.drop ((iwrap .i64 (p0.2.1 + 1)).toNat)).take (((p1.1.2.1.length : Int) - (iwrap .i64 (p0.2.1 + 1))).toNat)).length) * 16 ≤ appendMax ∧ 1 ≤ 16) <|
          let v12 := [] ++ ((p1.1.2.1.drop ((iwrap .i64 (p0.2.1 + 1)).toNat)).take (((p1.1.2.1.length : Int) - (iwrap .i64 (p0.2.1 + 1))).toNat))
          .ite (0 ≤ (0 : Int) ∧ (0 : Int) ≤ p0.2.1 ∧ p0.2.1 ≤ (p1.1.2.1.length : Int)) <|
          .ite ((0 + ((p1.1.2.1.drop 0).take ((p0.2.1 - 0).toNat)).length) * 16 ≤ appendMax ∧ 1 ≤ 16) <|
          let v13 := [] ++ ((p1.1.2.1.drop 0).take ((p0.2.1 - 0).toNat))
          .ite ((v13.length + v12.length) * 16 ≤ appendMax ∧ 1 ≤ 16) <|
          .ret (0, ((p1.1.1, (v13 ++ v12, p1.1.2.2)), p1.2))))))
noncomputable def s_l08Run_wire_9d6c_F (p0 : TDeed) (p1 : (TPlant × Unit)) (p2 : TGather) : Option (Int × (TPlant × Unit)) := (s_l08Run_wire_9d6c p0 p1 p2).run some
noncomputable def wireM (g : G8) (d : D8) (p : P8) : Int × P8 :=
  cond (decide (d.2.1 ≥ (p.2.1.length : Int))) (2, p)
    (match p.2.1[d.2.1.toNat]? with
      | none => (2, p)
      | some x => cond (decide (d.1 = 5))
          (cond (decide (d.2.2.1 = 0) || decide (d.2.2.1 ≥ ishl .i64 1 (colsG g : Int))) (2, p) (0, (p.1, p.2.1.set d.2.1.toNat (x.1, ixor .i64 x.2.1 d.2.2.1, ()), ())))
          (0, (cond (decide (d.1 = 4)) p.1 (comeM x p.1), cond (decide (d.1 = 3)) p.2.1 (p.2.1.take d.2.1.toNat ++ p.2.1.drop (d.2.1.toNat + 1)), ())))
noncomputable def wireR (d : D8) (p : P8 × Unit) (g : G8) : Option (Int × (P8 × Unit)) := askO (isG g && vDeed d && inR d.1 2 5 && okP 1000 g p.1) ((wireM g d p.1).1, (wireM g d p.1).2, ())
theorem okX_of {k : Nat} {g : G8} {p : P8} {i : Nat} {x : Int × Int × Unit} (hp : okP k g p = true) (hx : p.2.1[i]? = some x) : okX g x = true := by
  have h := (okP_spec hp).2.2.2 x (List.mem_of_getElem? hx)
  unfold okX
  rw [Bool.and_eq_true, inR_iff]; exact h
theorem s_l08Run_wire_9d6c_spec (p0 : D8) (p1 : P8 × Unit) (p2 : G8) (y : Int × (P8 × Unit)) (h : wireR p0 p1 p2 = some y) : s_l08Run_wire_9d6c_F p0 p1 p2 = some y := by
  obtain ⟨hok, rfl⟩ := askO_some h
  simp only [Bool.and_eq_true] at hok
  obtain ⟨⟨⟨hg, hd⟩, hk⟩, hp⟩ := hok
  obtain ⟨⟨a0, a1⟩, ⟨b0, b1⟩, ⟨c0, c1⟩, _⟩ := vDeed_rng hd
  have hp0 := hp
  obtain ⟨l1, l2, l3, l4⟩ := okP_spec hp
  obtain ⟨⟨st, wi, ⟨⟩⟩, ⟨⟩⟩ := p1
  obtain ⟨kk, a, b, c, ⟨⟩⟩ := p0
  have hc := colsG_le hg
  have hw : iwrap .u64 (s_l08Cols_9aa7_S p2) = (colsG p2 : Int) := by rw [cols_S hg]; exact iwrap_u64 (by omega) (by omega)
  unfold s_l08Run_wire_9d6c_F s_l08Run_wire_9d6c wireM
  simp only at *
  by_cases h1 : a ≥ (wi.length : Int)
  · simp only [Tre.run_cond, decide_eq_true h1, cond_true, Tre.run_ret]
  obtain ⟨i, rfl⟩ := Int.eq_ofNat_of_zero_le a0
  have hi : i < wi.length := by omega
  obtain ⟨x, hx⟩ : ∃ x, wi[i]? = some x := ⟨_, List.getElem?_eq_getElem hi⟩
  have hxx : okX p2 x = true := okX_of hp0 hx
  have hcome : comeR x ((st, wi, ()), ()) p2 = some ((comeM x st, wi, ()), ()) := askO_true (by rw [Bool.and_eq_true, Bool.and_eq_true]; exact ⟨⟨hg, hxx⟩, hp0⟩)
  have hi1 : iwrap .i64 ((i : Int) + 1) = ((i + 1 : Nat) : Int) := iwrap_succ (by omega)
  have hin : 0 ≤ (i : Int) ∧ (i : Int) < (wi.length : Int) := ⟨a0, by omega⟩
  have e1 : (wi.drop (i + 1)).take ((wi.length : Int) - ((i + 1 : Nat) : Int)).toNat = wi.drop (i + 1) := List.take_of_length_le (by rw [List.length_drop]; omega)
  have e2 : (wi.drop 0).take ((i : Int) - 0).toNat = wi.take i := by rw [List.drop_zero, Int.sub_zero, Int.toNat_natCast]
  have e3 : (wi.drop (i + 1)).length ≤ 12 := by rw [List.length_drop]; omega
  have e4 : (wi.take i).length ≤ 12 := by rw [List.length_take]; omega
  have hk : kk = 2 ∨ kk = 3 ∨ kk = 4 ∨ kk = 5 := by rw [inR_iff] at hk; omega
  have c1' : 0 ≤ ((i + 1 : Nat) : Int) ∧ ((i + 1 : Nat) : Int) ≤ (wi.length : Int) ∧ (wi.length : Int) ≤ (wi.length : Int) := by omega
  have c2' : 0 ≤ (0 : Int) ∧ (0 : Int) ≤ (i : Int) ∧ (i : Int) ≤ (wi.length : Int) := by omega
  have c3' : (0 + (wi.drop (i + 1)).length) * 16 ≤ appendMax ∧ 1 ≤ 16 := by unfold appendMax; omega
  have c4' : (0 + (wi.take i).length) * 16 ≤ appendMax ∧ 1 ≤ 16 := by unfold appendMax; omega
  have c5' : ((wi.take i).length + (wi.drop (i + 1)).length) * 16 ≤ appendMax ∧ 1 ≤ 16 := by unfold appendMax; omega
  rw [Tre.run_cond, decide_eq_false h1, cond_false, cond_false]
  simp only [Int.toNat_natCast, hx]
  rcases hk with rfl | rfl | rfl | rfl
  · rw [Tre.run_cond, show decide ((2 : Int) = 5) = false from rfl, show decide ((2 : Int) = 3) = false from rfl, show decide ((2 : Int) = 4) = false from rfl, show decide ((2 : Int) = 2) = true from rfl, cond_false, Tre.run_cond, cond_false, Tre.run_cond, cond_true, Tre.run_ite, if_pos hin, run_some_mat rfl, run_some_mat hcome]
    simp only [hi1, Int.toNat_natCast, e1, e2, List.nil_append]
    rw [Tre.run_ite, if_pos c1', Tre.run_ite, if_pos c3', Tre.run_ite, if_pos c2', Tre.run_ite, if_pos c4', Tre.run_ite, if_pos c5', Tre.run_ret]
    rfl
  · rw [Tre.run_cond, show decide ((3 : Int) = 5) = false from rfl, show decide ((3 : Int) = 3) = true from rfl, show decide ((3 : Int) = 4) = false from rfl, cond_false, Tre.run_cond, cond_true, Tre.run_ite, if_pos hin, run_some_mat rfl, run_some_mat hcome]
    rfl
  · rw [Tre.run_cond, show decide ((4 : Int) = 5) = false from rfl, show decide ((4 : Int) = 3) = false from rfl, show decide ((4 : Int) = 2) = false from rfl, cond_false, Tre.run_cond, cond_false, Tre.run_cond, cond_false]
    simp only [hi1, Int.toNat_natCast, e1, e2, List.nil_append]
    rw [Tre.run_ite, if_pos c1', Tre.run_ite, if_pos c3', Tre.run_ite, if_pos c2', Tre.run_ite, if_pos c4', Tre.run_ite, if_pos c5', Tre.run_ret]
    rfl
  · rw [Tre.run_cond, show decide ((5 : Int) = 5) = true from rfl, cond_true, Tre.run_cond]
    by_cases hb : b = 0
    · simp only [decide_eq_true hb, cond_true, Tre.run_ret, Bool.true_or]
    · rw [decide_eq_false hb, cond_false]
      simp only [hw]
      rw [Tre.run_ite, if_pos (by omega), Tre.run_cond]
      cases decide (b ≥ ishl .i64 1 (colsG p2 : Int))
      · rw [cond_false, Tre.run_ite, if_pos hin, run_some_mat rfl]
        rw [Tre.run_ite, if_pos hin, run_some_mat rfl]
        rfl
      · rfl
theorem shl_cols {b : Nat} (hb : b ≤ 10) : ishl .i64 1 (b : Int) = ((2 ^ b : Nat) : Int) := by
  have h := pow_le hb
  unfold ishl
  rw [Int.toNat_natCast, Nat.min_eq_left (by show b ≤ 64; omega)]
  have h2 : ((1 : Int) * 2 ^ b) = ((2 ^ b : Nat) : Int) := by rw [Int.one_mul]; simp
  rw [h2]
  have h3 : 2 ^ b ≤ 1024 := h
  generalize 2 ^ b = n at h3
  exact iwrap_i64 (by omega) (by omega)
theorem okRow_nat {b : Nat} {x : Int} : okRow b x = true ↔ ∃ n : Nat, x = (n : Int) ∧ n < 2 ^ b := by
  unfold okRow
  simp only [Bool.and_eq_true, decide_eq_true_eq]
  constructor
  · rintro ⟨h1, h2⟩
    exact ⟨x.toNat, by omega, by omega⟩
  · rintro ⟨n, rfl, h⟩
    omega
theorem wireM_ok {k : Nat} {g : G8} {d : D8} {p : P8} (hg : isG g = true) (hd : vDeed d = true) (hp : okP k g p = true) : okP (k + 1) g (wireM g d p).2 = true := by
  obtain ⟨l1, l2, l3, l4⟩ := okP_spec hp
  have h0 := okP_mono hp (Nat.le_succ k)
  have hc := (colsG_le hg).1
  obtain ⟨_, ⟨b0, _⟩, _, _⟩ := vDeed_rng hd
  unfold wireM
  cases decide (d.2.1 ≥ (p.2.1.length : Int))
  case true => exact h0
  simp only [cond_false]
  cases hx : p.2.1[d.2.1.toNat]? with
  | none => exact h0
  | some x =>
    have hxx : okX g x = true := okX_of hp hx
    simp only
    cases decide (d.1 = 5)
    · simp only [cond_false]
      have hcm := comeM_ok hp hxx
      obtain ⟨m1, m2, m3, m4⟩ := okP_spec hcm
      have hst : ∀ q : Bool, ((cond q p.1 (comeM x p.1)).length : Int) = statG g ∧ ∀ s ∈ cond q p.1 (comeM x p.1), okS (k + 1) (colsG g) s.1 = true ∧ okS (k + 1) (colsG g) s.2.1 = true := by
        intro q
        cases q
        · exact ⟨m1, m2⟩
        · exact ⟨l1, (okP_spec h0).2.1⟩
      refine okP_mk (hst _).1 (hst _).2 ?_ ?_
      · show (cond (decide (d.1 = 3)) p.2.1 (p.2.1.take d.2.1.toNat ++ p.2.1.drop (d.2.1.toNat + 1))).length ≤ 12
        cases decide (d.1 = 3)
        · simp; omega
        · exact l3
      · intro z hz
        refine l4 z ?_
        have hz : z ∈ cond (decide (d.1 = 3)) p.2.1 (p.2.1.take d.2.1.toNat ++ p.2.1.drop (d.2.1.toNat + 1)) := hz
        revert hz
        cases decide (d.1 = 3)
        · intro hz
          rcases List.mem_append.1 hz with hz | hz
          · exact List.mem_of_mem_take hz
          · exact List.mem_of_mem_drop hz
        · exact id
    · simp only [cond_true]
      by_cases hb : (decide (d.2.2.1 = 0) || decide (d.2.2.1 ≥ ishl .i64 1 (colsG g : Int))) = true
      · rw [hb]; exact h0
      · rw [Bool.not_eq_true] at hb
        rw [hb]
        rw [Bool.or_eq_false_iff] at hb
        have h2 := of_decide_eq_false hb.2
        rw [shl_cols hc] at h2
        unfold okX at hxx
        rw [Bool.and_eq_true, inR_iff] at hxx
        obtain ⟨n, hn, hn2⟩ := okRow_nat.1 hxx.2
        obtain ⟨m, hm⟩ := Int.eq_ofNat_of_zero_le b0
        have hp2 := pow_le (c := 62) (b := colsG g) (by omega)
        refine okP_mk l1 (okP_spec h0).2.1 (by simpa using l3) ?_
        intro z hz
        rcases List.mem_or_eq_of_mem_set hz with hz | rfl
        · exact l4 z hz
        · refine ⟨hxx.1, okRow_nat.2 ⟨n ^^^ m, ?_, Nat.xor_lt_two_pow hn2 (by omega)⟩⟩
          show ixor .i64 x.2.1 d.2.2.1 = _
          rw [hn, hm, ixor_nat (by omega) (by omega)]
noncomputable def s_l08Run_wire_9d6c_V : Env := ⟨tau, [(89, s_l08Cols_9aa7_c), (119, s_l08Run_come_c0b8_c)], []⟩
noncomputable def s_l08Run_wire_9d6c_b : Code := (Try.f110.body).getD .skip
noncomputable def s_l08Run_wire_9d6c_I : FnI := ⟨s_l08Run_wire_9d6c_b, Try.f110.results.toList, Try.f110.resultTypes.toList, []⟩
noncomputable def s_l08Run_wire_9d6c_out (zp0 : Bool) (_p0 : TDeed) (_p1 : (TPlant × Unit)) (p2 : TGather) : (Int × (TPlant × Unit)) → CallOut := fun r => ⟨(.imm true (.int .i64) r.1), [⟨true, kL08Run, .own, ((some (0, 1) : Option RName), r.2)⟩, ⟨true, kGather, (.imm zp0), p2⟩], []⟩
set_option maxRecDepth 100000 in
theorem s_l08Run_wire_9d6c_eq : ∀ (zp0 : Bool) (p0 : TDeed) (p1 : (TPlant × Unit)) (p2 : TGather), denFn s_l08Run_wire_9d6c_V s_l08Run_wire_9d6c_I ⟨[(.ptr (0, 0) []), (.imm true kDeed p0)], [⟨true, kL08Run, .own, ((some (0, 1) : Option RName), p1)⟩, ⟨true, kGather, (.imm zp0), p2⟩]⟩ = (s_l08Run_wire_9d6c p0 p1 p2).run fun r => some (s_l08Run_wire_9d6c_out zp0 p0 p1 p2 r) := fun _ _ _ _ => by kernel_rfl
noncomputable def s_l08Run_wire_9d6c_G (av : List AV) (rs : List Root) : Tre CallOut :=
  asCons av fun a0_ av0 =>
  asCons av0 fun a1_ av1 =>
  asEnd av1 <|
  asCons rs fun r0_ rs0 =>
  asCons rs0 fun r1_ rs1 =>
  asEnd rs1 <|
  asPtr (0, 0) [] a0_ <|
  asImmZ true kDeed a1_ fun d1 =>
  asRt true kL08Run r0_ fun m2 d3 =>
  asM .own m2 <|
  asProd d3 fun d4 d5 =>
  asD d4 (some (0, 1) : Option RName) <|
  asRt true kGather r1_ fun m6 d7 =>
  asMImm m6 fun z8 =>
  .mat (wireR d1 d5 d7) fun r => .ret (s_l08Run_wire_9d6c_out z8 d1 d5 d7 r)
noncomputable def s_l08Run_wire_9d6c_c : Ctr := ⟨[], fun ci => s_l08Run_wire_9d6c_G ci.args ci.roots⟩
theorem s_l08Run_wire_9d6c_env : EnvOK Try.prog s_l08Run_wire_9d6c_V := (envOK_cons s_l08Cols_9aa7_ok ent89 (envOK_cons s_l08Run_come_c0b8_ok ent119 envOK_nil))
set_option maxRecDepth 100000 in
theorem s_l08Run_wire_9d6c_ok : Contract Try.prog 110 s_l08Run_wire_9d6c_c := by
  have hl : LoopsOK s_l08Run_wire_9d6c_V [] s_l08Run_wire_9d6c_b := loopsOK_nil (by kernel_rfl)
  refine (contract_of (F := s_l08Run_wire_9d6c_I) tau_tys s_l08Run_wire_9d6c_env Try.func110 (by kernel_rfl) (by kernel_rfl) (by kernel_rfl) hl []).weaken ?_
  rintro ⟨av, rs⟩ co h
  have h : (s_l08Run_wire_9d6c_G av rs).run some = some co := h
  obtain ⟨a0_, av0, rfl, h_0⟩ := asCons_spec h
  obtain ⟨a1_, av1, rfl, h_1⟩ := asCons_spec h_0
  obtain ⟨rfl, h_2⟩ := asEnd_spec h_1
  obtain ⟨r0_, rs0, rfl, h_3⟩ := asCons_spec h_2
  obtain ⟨r1_, rs1, rfl, h_4⟩ := asCons_spec h_3
  obtain ⟨rfl, h_5⟩ := asEnd_spec h_4
  obtain ⟨rfl, h_6⟩ := asPtr_spec h_5
  obtain ⟨d1, rfl, h_7⟩ := asImmZ_spec h_6
  obtain ⟨m2, d3, rfl, h_8⟩ := asRt_spec h_7
  obtain ⟨rfl, h_9⟩ := asM_spec h_8
  obtain ⟨d4, d5, rfl, h_10⟩ := asProd_spec h_9
  obtain ⟨rfl, h_11⟩ := asD_spec h_10
  obtain ⟨m6, d7, rfl, h_12⟩ := asRt_spec h_11
  obtain ⟨z8, rfl, h_13⟩ := asMImm_spec h_12
  exact fin_opt (s_l08Run_wire_9d6c_eq z8 d1 d5 d7) (s_l08Run_wire_9d6c_spec d1 d5 d7) h_13
end Go.Proofs.Ytddaclhjnkimfaa

namespace Go.Proofs.Ytddaclhjnkimfaa
open Go Go.Abs Go.Proofs
noncomputable def s_l08Run_do_9d6c (p0 : TDeed) (p1 : (TPlant × Unit)) (p2 : TGather) : Tre (Int × (TPlant × Unit)) :=
  .cond (decide (p0.1 = 1))
    (.mat (sendR p0 p1 p2) fun r1 =>
    .ret (r1.1, r1.2))
    (.cond (decide (p0.1 = 2))
      (.cond (decide (p0.1 = 2))
        (.mat (wireR p0 p1 p2) fun r2 =>
        .ret (r2.1, r2.2))
        (.cond (decide (p0.2.1 ≥ (p1.1.1.length : Int)))
          (.ret (2, p1))
          (.ite (0 ≤ p0.2.1 ∧ p0.2.1 < (p1.1.1.length : Int)) <|
          .cond (decide (p0.1 = 6))
            (.mat (p1.1.1[p0.2.1.toNat]?) fun _ =>
            .mat (p1.1.1[p0.2.1.toNat]?) fun x4 =>
            .mat (cloneR x4.1) fun r5 =>
            .mat (p1.1.1[p0.2.1.toNat]?) fun x6 =>
            let v7 := p1.1.1.set p0.2.1.toNat (x6.1, (r5, x6.2.2))
            .ret (0, ((v7, p1.1.2), p1.2)))
            (.cond (decide (p0.1 = 7))
              (.mat (p1.1.1[p0.2.1.toNat]?) fun _ =>
              .mat (p1.1.1[p0.2.1.toNat]?) fun x9 =>
              .mat (cloneR x9.2.1) fun r10 =>
              .mat (p1.1.1[p0.2.1.toNat]?) fun x11 =>
              let v12 := p1.1.1.set p0.2.1.toNat (r10, x11.2)
              .ret (0, ((v12, p1.1.2), p1.2)))
              (.mat (p1.1.1[p0.2.1.toNat]?) fun x13 =>
              let v14 := p1.1.1.set p0.2.1.toNat ([], x13.2)
              .ret (0, ((v14, p1.1.2), p1.2)))))))
      (.cond (decide (p0.1 = 3))
        (.cond (decide (p0.1 = 3))
          (.mat (wireR p0 p1 p2) fun r15 =>
          .ret (r15.1, r15.2))
          (.cond (decide (p0.2.1 ≥ (p1.1.1.length : Int)))
            (.ret (2, p1))
            (.ite (0 ≤ p0.2.1 ∧ p0.2.1 < (p1.1.1.length : Int)) <|
            .cond (decide (p0.1 = 6))
              (.mat (p1.1.1[p0.2.1.toNat]?) fun _ =>
              .mat (p1.1.1[p0.2.1.toNat]?) fun x17 =>
              .mat (cloneR x17.1) fun r18 =>
              .mat (p1.1.1[p0.2.1.toNat]?) fun x19 =>
              let v20 := p1.1.1.set p0.2.1.toNat (x19.1, (r18, x19.2.2))
              .ret (0, ((v20, p1.1.2), p1.2)))
              (.cond (decide (p0.1 = 7))
                (.mat (p1.1.1[p0.2.1.toNat]?) fun _ =>
                .mat (p1.1.1[p0.2.1.toNat]?) fun x22 =>
                .mat (cloneR x22.2.1) fun r23 =>
                .mat (p1.1.1[p0.2.1.toNat]?) fun x24 =>
                let v25 := p1.1.1.set p0.2.1.toNat (r23, x24.2)
                .ret (0, ((v25, p1.1.2), p1.2)))
                (.mat (p1.1.1[p0.2.1.toNat]?) fun x26 =>
                let v27 := p1.1.1.set p0.2.1.toNat ([], x26.2)
                .ret (0, ((v27, p1.1.2), p1.2)))))))
        (.cond (decide (p0.1 = 4))
          (.cond (decide (p0.1 = 4))
            (.mat (wireR p0 p1 p2) fun r28 =>
            .ret (r28.1, r28.2))
            (.cond (decide (p0.2.1 ≥ (p1.1.1.length : Int)))
              (.ret (2, p1))
              (.ite (0 ≤ p0.2.1 ∧ p0.2.1 < (p1.1.1.length : Int)) <|
              .cond (decide (p0.1 = 6))
                (.mat (p1.1.1[p0.2.1.toNat]?) fun _ =>
                .mat (p1.1.1[p0.2.1.toNat]?) fun x30 =>
                .mat (cloneR x30.1) fun r31 =>
                .mat (p1.1.1[p0.2.1.toNat]?) fun x32 =>
                let v33 := p1.1.1.set p0.2.1.toNat (x32.1, (r31, x32.2.2))
                .ret (0, ((v33, p1.1.2), p1.2)))
                (.cond (decide (p0.1 = 7))
                  (.mat (p1.1.1[p0.2.1.toNat]?) fun _ =>
                  .mat (p1.1.1[p0.2.1.toNat]?) fun x35 =>
                  .mat (cloneR x35.2.1) fun r36 =>
                  .mat (p1.1.1[p0.2.1.toNat]?) fun x37 =>
                  let v38 := p1.1.1.set p0.2.1.toNat (r36, x37.2)
                  .ret (0, ((v38, p1.1.2), p1.2)))
                  (.mat (p1.1.1[p0.2.1.toNat]?) fun x39 =>
                  let v40 := p1.1.1.set p0.2.1.toNat ([], x39.2)
                  .ret (0, ((v40, p1.1.2), p1.2)))))))
          (.cond (decide (p0.1 = 5))
            (.mat (wireR p0 p1 p2) fun r41 =>
            .ret (r41.1, r41.2))
            (.cond (decide (p0.2.1 ≥ (p1.1.1.length : Int)))
              (.ret (2, p1))
              (.ite (0 ≤ p0.2.1 ∧ p0.2.1 < (p1.1.1.length : Int)) <|
              .cond (decide (p0.1 = 6))
                (.mat (p1.1.1[p0.2.1.toNat]?) fun _ =>
                .mat (p1.1.1[p0.2.1.toNat]?) fun x43 =>
                .mat (cloneR x43.1) fun r44 =>
                .mat (p1.1.1[p0.2.1.toNat]?) fun x45 =>
                let v46 := p1.1.1.set p0.2.1.toNat (x45.1, (r44, x45.2.2))
                .ret (0, ((v46, p1.1.2), p1.2)))
                (.cond (decide (p0.1 = 7))
                  (.mat (p1.1.1[p0.2.1.toNat]?) fun _ =>
                  .mat (p1.1.1[p0.2.1.toNat]?) fun x48 =>
                  .mat (cloneR x48.2.1) fun r49 =>
                  .mat (p1.1.1[p0.2.1.toNat]?) fun x50 =>
                  let v51 := p1.1.1.set p0.2.1.toNat (r49, x50.2)
                  .ret (0, ((v51, p1.1.2), p1.2)))
                  (.mat (p1.1.1[p0.2.1.toNat]?) fun x52 =>
                  let v53 := p1.1.1.set p0.2.1.toNat ([], x52.2)
                  .ret (0, ((v53, p1.1.2), p1.2))))))))))
noncomputable def s_l08Run_do_9d6c_F (p0 : TDeed) (p1 : (TPlant × Unit)) (p2 : TGather) : Option (Int × (TPlant × Unit)) := (s_l08Run_do_9d6c p0 p1 p2).run some
noncomputable def doM (g : G8) (d : D8) (p : P8) : Int × P8 :=
  cond (decide (d.1 = 1)) (sendM d p) (cond (inR d.1 2 5) (wireM g d p) (cond (decide (d.2.1 ≥ (p.1.length : Int))) (2, p)
    (match p.1[d.2.1.toNat]? with
      | none => (2, p)
      | some s => (0, (p.1.set d.2.1.toNat (cond (decide (d.1 = 6)) (s.1, s.1, ()) (cond (decide (d.1 = 7)) (s.2.1, s.2) ([], s.2))), p.2)))))
noncomputable def doR (d : D8) (p : P8 × Unit) (g : G8) : Option (Int × (P8 × Unit)) := askO (isG g && vDeed d && okP 1000 g p.1) ((doM g d p.1).1, (doM g d p.1).2, ())
theorem s_l08Run_do_9d6c_spec (p0 : D8) (p1 : P8 × Unit) (p2 : G8) (y : Int × (P8 × Unit)) (h : doR p0 p1 p2 = some y) : s_l08Run_do_9d6c_F p0 p1 p2 = some y := by
  obtain ⟨hok, rfl⟩ := askO_some h
  have hsend : sendR p0 p1 p2 = some _ := askO_true hok
  have hwire : inR p0.1 2 5 = true → wireR p0 p1 p2 = some _ := fun hk => askO_true (by
    simp only [Bool.and_eq_true] at hok ⊢
    exact ⟨⟨hok.1, hk⟩, hok.2⟩)
  simp only [Bool.and_eq_true] at hok
  obtain ⟨⟨hg, hd⟩, hp⟩ := hok
  obtain ⟨⟨a0, a1⟩, _, _, hk⟩ := vDeed_rng hd
  obtain ⟨l1, l2, l3, l4⟩ := okP_spec hp
  obtain ⟨kk, a, b, c, ⟨⟩⟩ := p0
  unfold s_l08Run_do_9d6c_F s_l08Run_do_9d6c doM
  simp only at *
  rcases kind_cases hk with rfl | rfl | rfl | rfl | rfl | rfl | rfl | rfl
  · rw [Tre.run_cond, show decide ((1 : Int) = 1) = true from rfl, cond_true, run_some_mat hsend]; rfl
  · simp only [Tre.run_cond, show decide ((2 : Int) = 1) = false from rfl, show decide ((2 : Int) = 2) = true from rfl, cond_true, cond_false]
    rw [run_some_mat (hwire rfl)]; rfl
  · simp only [Tre.run_cond, show decide ((3 : Int) = 1) = false from rfl, show decide ((3 : Int) = 2) = false from rfl, show decide ((3 : Int) = 3) = true from rfl, cond_true, cond_false]
    rw [run_some_mat (hwire rfl)]; rfl
  · simp only [Tre.run_cond, show decide ((4 : Int) = 1) = false from rfl, show decide ((4 : Int) = 2) = false from rfl, show decide ((4 : Int) = 3) = false from rfl, show decide ((4 : Int) = 4) = true from rfl, cond_true, cond_false]
    rw [run_some_mat (hwire rfl)]; rfl
  · simp only [Tre.run_cond, show decide ((5 : Int) = 1) = false from rfl, show decide ((5 : Int) = 2) = false from rfl, show decide ((5 : Int) = 3) = false from rfl, show decide ((5 : Int) = 4) = false from rfl, show decide ((5 : Int) = 5) = true from rfl, cond_true, cond_false]
    rw [run_some_mat (hwire rfl)]; rfl
  all_goals
    simp only [Tre.run_cond, show decide ((6 : Int) = 1) = false from rfl, show decide ((6 : Int) = 2) = false from rfl, show decide ((6 : Int) = 3) = false from rfl, show decide ((6 : Int) = 4) = false from rfl, show decide ((6 : Int) = 5) = false from rfl, show decide ((6 : Int) = 6) = true from rfl, show inR 6 2 5 = false from rfl,
      show decide ((7 : Int) = 1) = false from rfl, show decide ((7 : Int) = 2) = false from rfl, show decide ((7 : Int) = 3) = false from rfl, show decide ((7 : Int) = 4) = false from rfl, show decide ((7 : Int) = 5) = false from rfl, show decide ((7 : Int) = 6) = false from rfl, show decide ((7 : Int) = 7) = true from rfl, show inR 7 2 5 = false from rfl,
      show decide ((8 : Int) = 1) = false from rfl, show decide ((8 : Int) = 2) = false from rfl, show decide ((8 : Int) = 3) = false from rfl, show decide ((8 : Int) = 4) = false from rfl, show decide ((8 : Int) = 5) = false from rfl, show decide ((8 : Int) = 6) = false from rfl, show decide ((8 : Int) = 7) = false from rfl, show inR 8 2 5 = false from rfl, cond_true, cond_false]
    by_cases h1 : a ≥ (p1.1.1.length : Int)
    · rw [decide_eq_true h1]; rfl
    obtain ⟨i, rfl⟩ := Int.eq_ofNat_of_zero_le a0
    have hi : i < p1.1.1.length := by omega
    obtain ⟨s, hs⟩ : ∃ s, p1.1.1[i]? = some s := ⟨_, List.getElem?_eq_getElem hi⟩
    have hm := l2 s (List.mem_of_getElem? hs)
    have k1 := (okS_spec.1 hm.1).1
    have k2 := (okS_spec.1 hm.2).1
    have c1 : cloneR s.1 = some s.1 := lim_of (by omega)
    have c2 : cloneR s.2.1 = some s.2.1 := lim_of (by omega)
    rw [decide_eq_false h1, cond_false, cond_false]
    simp only [Int.toNat_natCast, hs]
    rw [Tre.run_ite, if_pos ⟨a0, by omega⟩]
    try simp only [decide_true]
  · rw [Tre.run_cond, cond_true, run_some_mat rfl, run_some_mat rfl, run_some_mat c1, run_some_mat rfl]; rfl
  · rw [Tre.run_cond, cond_false, Tre.run_cond, cond_true, run_some_mat rfl, run_some_mat rfl, run_some_mat c2, run_some_mat rfl]; rfl
  · rw [Tre.run_cond, cond_false, Tre.run_cond, cond_false, run_some_mat rfl]; rfl
theorem times_ok {k b : Nat} {a : Int} {xs : List Int} (hb : b ≤ 62) (h : okS k b xs = true) : okRow b (timesL a xs) = true := by
  obtain ⟨_, h2⟩ := okS_spec.1 h
  have hx : ∃ ns : List Nat, xs = up ns ∧ ∀ n ∈ ns, n < 2 ^ b := by
    refine ⟨xs.map Int.toNat, ?_, ?_⟩
    · unfold up
      rw [List.map_map]
      refine ((List.map_congr_left fun x hx => ?_).trans (List.map_id _)).symm
      obtain ⟨n, rfl, _⟩ := okRow_nat.1 (h2 x hx)
      rfl
    · intro n hn
      obtain ⟨x, hx, rfl⟩ := List.mem_map.1 hn
      obtain ⟨m, rfl, hm⟩ := okRow_nat.1 (h2 x hx)
      exact hm
  obtain ⟨ns, rfl, hn⟩ := hx
  obtain ⟨t, h1, h2⟩ := timesL_nat a hb ns 0 0 (Nat.two_pow_pos b) hn
  exact okRow_nat.2 ⟨t, h1, h2⟩
theorem sendM_ok {k : Nat} {g : G8} {d : D8} {p : P8} (hg : isG g = true) (hd : vDeed d = true) (hp : okP k g p = true) : okP (k + 1) g (sendM d p).2 = true := by
  obtain ⟨l1, l2, l3, l4⟩ := okP_spec hp
  have h0 := okP_mono hp (Nat.le_succ k)
  have hc := (colsG_le hg).1
  obtain ⟨_, ⟨b0, _⟩, _, _⟩ := vDeed_rng hd
  unfold sendM
  by_cases h1 : d.2.1 ≥ (p.1.length : Int)
  · rw [decide_eq_true h1]; exact h0
  by_cases h2 : d.2.2.1 ≥ (p.1.length : Int)
  · rw [decide_eq_true h2, Bool.true_or, Bool.or_true]; exact h0
  rw [decide_eq_false h1, decide_eq_false h2, Bool.false_or, Bool.false_or]
  cases (decide (d.2.1 = d.2.2.1) || decide (d.2.2.1 = 0))
  case true => exact h0
  rw [cond_false]
  cases hs : p.1[d.2.1.toNat]? with
  | none => exact h0
  | some s =>
    simp only
    cases decide (d.2.2.2.1 ≥ ishl .i64 1 (s.1.length : Int))
    case true => exact h0
    cases decide (d.2.2.2.1 = 0)
    case true => exact h0
    by_cases h5 : (p.2.1.length : Int) = 12
    · rw [decide_eq_true h5]; exact h0
    rw [decide_eq_false h5]
    simp only [cond_false]
    have hm := l2 s (List.mem_of_getElem? hs)
    refine okP_mk l1 (okP_spec h0).2.1 (by simp; omega) (fun x hx => ?_)
    rcases List.mem_append.1 hx with hx | hx
    · exact l4 x hx
    · simp only [List.mem_singleton] at hx
      subst hx
      exact ⟨⟨b0, by omega⟩, times_ok (by omega) hm.1⟩
theorem doM_ok {k : Nat} {g : G8} {d : D8} {p : P8} (hg : isG g = true) (hd : vDeed d = true) (hp : okP k g p = true) : okP (k + 1) g (doM g d p).2 = true := by
  obtain ⟨l1, l2, l3, l4⟩ := okP_spec hp
  have h0 := okP_mono hp (Nat.le_succ k)
  unfold doM
  cases decide (d.1 = 1)
  case true => exact sendM_ok hg hd hp
  cases inR d.1 2 5
  case true => exact wireM_ok hg hd hp
  cases decide (d.2.1 ≥ (p.1.length : Int))
  case true => exact h0
  simp only [cond_false]
  cases hs : p.1[d.2.1.toNat]? with
  | none => exact h0
  | some s =>
    simp only
    have hm := l2 s (List.mem_of_getElem? hs)
    have hn : okS (k + 1) (colsG g) [] = true := okS_spec.2 ⟨Nat.zero_le _, fun x hx => by cases hx⟩
    refine okP_mk (by simpa using l1) (fun s' hs' => ?_) l3 l4
    rcases List.mem_or_eq_of_mem_set hs' with hs' | rfl
    · exact ⟨okS_mono (l2 s' hs').1 (Nat.le_succ k), okS_mono (l2 s' hs').2 (Nat.le_succ k)⟩
    · cases decide (d.1 = 6)
      · cases decide (d.1 = 7)
        · exact ⟨hn, okS_mono hm.2 (Nat.le_succ k)⟩
        · exact ⟨okS_mono hm.2 (Nat.le_succ k), okS_mono hm.2 (Nat.le_succ k)⟩
      · exact ⟨okS_mono hm.1 (Nat.le_succ k), okS_mono hm.1 (Nat.le_succ k)⟩
noncomputable def s_l08Run_do_9d6c_V : Env := ⟨tau, [(109, s_l08Run_send_9d6c_c), (110, s_l08Run_wire_9d6c_c), (111, s_l00Own_c)], []⟩
noncomputable def s_l08Run_do_9d6c_b : Code := (Try.f86.body).getD .skip
noncomputable def s_l08Run_do_9d6c_I : FnI := ⟨s_l08Run_do_9d6c_b, Try.f86.results.toList, Try.f86.resultTypes.toList, []⟩
noncomputable def s_l08Run_do_9d6c_out (zp0 : Bool) (_p0 : TDeed) (_p1 : (TPlant × Unit)) (p2 : TGather) : (Int × (TPlant × Unit)) → CallOut := fun r => ⟨(.imm true (.int .i64) r.1), [⟨true, kL08Run, .own, ((some (0, 1) : Option RName), r.2)⟩, ⟨true, kGather, (.imm zp0), p2⟩], []⟩
set_option maxRecDepth 100000 in
theorem s_l08Run_do_9d6c_eq : ∀ (zp0 : Bool) (p0 : TDeed) (p1 : (TPlant × Unit)) (p2 : TGather), denFn s_l08Run_do_9d6c_V s_l08Run_do_9d6c_I ⟨[(.ptr (0, 0) []), (.imm true kDeed p0)], [⟨true, kL08Run, .own, ((some (0, 1) : Option RName), p1)⟩, ⟨true, kGather, (.imm zp0), p2⟩]⟩ = (s_l08Run_do_9d6c p0 p1 p2).run fun r => some (s_l08Run_do_9d6c_out zp0 p0 p1 p2 r) := fun _ _ _ _ => by kernel_rfl
noncomputable def s_l08Run_do_9d6c_G (av : List AV) (rs : List Root) : Tre CallOut :=
  asCons av fun a0_ av0 =>
  asCons av0 fun a1_ av1 =>
  asEnd av1 <|
  asCons rs fun r0_ rs0 =>
  asCons rs0 fun r1_ rs1 =>
  asEnd rs1 <|
  asPtr (0, 0) [] a0_ <|
  asImmZ true kDeed a1_ fun d1 =>
  asRt true kL08Run r0_ fun m2 d3 =>
  asM .own m2 <|
  asProd d3 fun d4 d5 =>
  asD d4 (some (0, 1) : Option RName) <|
  asRt true kGather r1_ fun m6 d7 =>
  asMImm m6 fun z8 =>
  .mat (doR d1 d5 d7) fun r => .ret (s_l08Run_do_9d6c_out z8 d1 d5 d7 r)
noncomputable def s_l08Run_do_9d6c_c : Ctr := ⟨[], fun ci => s_l08Run_do_9d6c_G ci.args ci.roots⟩
theorem s_l08Run_do_9d6c_env : EnvOK Try.prog s_l08Run_do_9d6c_V := (envOK_cons s_l08Run_send_9d6c_ok ent109 (envOK_cons s_l08Run_wire_9d6c_ok ent110 (envOK_cons s_l00Own_ok ent111 envOK_nil)))
set_option maxRecDepth 100000 in
theorem s_l08Run_do_9d6c_ok : Contract Try.prog 86 s_l08Run_do_9d6c_c := by
  have hl : LoopsOK s_l08Run_do_9d6c_V [] s_l08Run_do_9d6c_b := loopsOK_nil (by kernel_rfl)
  refine (contract_of (F := s_l08Run_do_9d6c_I) tau_tys s_l08Run_do_9d6c_env Try.func86 (by kernel_rfl) (by kernel_rfl) (by kernel_rfl) hl []).weaken ?_
  rintro ⟨av, rs⟩ co h
  have h : (s_l08Run_do_9d6c_G av rs).run some = some co := h
  obtain ⟨a0_, av0, rfl, h_0⟩ := asCons_spec h
  obtain ⟨a1_, av1, rfl, h_1⟩ := asCons_spec h_0
  obtain ⟨rfl, h_2⟩ := asEnd_spec h_1
  obtain ⟨r0_, rs0, rfl, h_3⟩ := asCons_spec h_2
  obtain ⟨r1_, rs1, rfl, h_4⟩ := asCons_spec h_3
  obtain ⟨rfl, h_5⟩ := asEnd_spec h_4
  obtain ⟨rfl, h_6⟩ := asPtr_spec h_5
  obtain ⟨d1, rfl, h_7⟩ := asImmZ_spec h_6
  obtain ⟨m2, d3, rfl, h_8⟩ := asRt_spec h_7
  obtain ⟨rfl, h_9⟩ := asM_spec h_8
  obtain ⟨d4, d5, rfl, h_10⟩ := asProd_spec h_9
  obtain ⟨rfl, h_11⟩ := asD_spec h_10
  obtain ⟨m6, d7, rfl, h_12⟩ := asRt_spec h_11
  obtain ⟨z8, rfl, h_13⟩ := asMImm_spec h_12
  exact fin_opt (s_l08Run_do_9d6c_eq z8 d1 d5 d7) (s_l08Run_do_9d6c_spec d1 d5 d7) h_13
end Go.Proofs.Ytddaclhjnkimfaa

namespace Go.Proofs.Ytddaclhjnkimfaa
open Go Go.Abs Go.Proofs
noncomputable def s_l08Begin_9aa7_l4 (h4_0_1 : TGather) : (Int × (TPlant × Unit)) → Tre ((Int × (TPlant × Unit)) ⊕ (TPlant × Unit)) := fun s4 =>
  let v3 := iwrap .i64 (h4_0_1.2.2.2.1 + h4_0_1.2.2.2.2.1)
  .cond (decide (s4.1 < v3))
    (.ite ((s4.2.1.1.length + 1) * 48 ≤ appendMax ∧ 1 ≤ 48) <|
    let v4 := s4.2.1.1 ++ ([([], ([], ()))])
    .ret (.inl (iwrap .i64 (s4.1 + 1), ((v4, s4.2.1.2), s4.2.2))))
    (.ret (.inr s4.2))
noncomputable def s_l08Begin_9aa7 (p0 : TGather) : Tre (TPlant × Unit) :=
  .mat (srcR p0) fun r1 =>
  .mat (srcR p0) fun r2 =>
  .mat (loopF (s_l08Begin_9aa7_l4 p0) (0, (([(r1, (r2, ()))], ([], ())), ()))) fun l5 =>
  .ret l5
noncomputable def s_l08Begin_9aa7_F (p0 : TGather) : Option (TPlant × Unit) := (s_l08Begin_9aa7 p0).run some
def beginM (g : G8) : P8 := ((srcL g, srcL g, ()) :: List.replicate (g.2.2.2.1 + g.2.2.2.2.1).toNat ([], [], ()), [], ())
def beginR (g : G8) : Option (P8 × Unit) := askO (isG g) (beginM g, ())
theorem src_some {g : G8} (h : isG g = true) : srcR g = some (srcL g) := by
  have := isG_spec h
  exact askO_true (by rw [Bool.and_eq_true, inR_iff, decide_eq_true_eq]; omega)
theorem s_l08Begin_9aa7_spec (p0 : G8) (y : P8 × Unit) (h : beginR p0 = some y) : s_l08Begin_9aa7_F p0 = some y := by
  obtain ⟨hg, rfl⟩ := askO_some h
  have hb := isG_spec hg
  obtain ⟨n, hn⟩ := Int.eq_ofNat_of_zero_le (show 0 ≤ p0.2.2.2.1 + p0.2.2.2.2.1 by omega)
  have hw : iwrap .i64 (p0.2.2.2.1 + p0.2.2.2.2.1) = (n : Int) := by rw [hn]; exact iwrap_i64 (by omega) (by omega)
  unfold s_l08Begin_9aa7_F s_l08Begin_9aa7
  rw [run_some_mat (src_some hg), run_some_mat (src_some hg)]
  have key : ∀ (m i : Nat) (l : List (List Int × List Int × Unit)), i + m = n → l.length ≤ i + 1 → loopF (s_l08Begin_9aa7_l4 p0) ((i : Int), ((l, [], ()), ())) = some ((l ++ List.replicate m ([], [], ()), [], ()), ()) := by
    intro m
    induction m with
    | zero =>
      intro i l hi _
      rw [List.replicate_zero, List.append_nil]
      refine loopF_done ?_
      unfold s_l08Begin_9aa7_l4
      dsimp only
      rw [hw, Tre.run_cond, show decide ((i : Int) < (n : Int)) = false from by simp; omega]
      rfl
    | succ m ih =>
      intro i l hi hl
      have hstep : (s_l08Begin_9aa7_l4 p0 ((i : Int), ((l, [], ()), ()))).run some = some (.inl (((i + 1 : Nat) : Int), ((l ++ [([], [], ())], [], ()), ()))) := by
        unfold s_l08Begin_9aa7_l4
        dsimp only
        rw [hw, Tre.run_cond, show decide ((i : Int) < (n : Int)) = true from by simp; omega, cond_true, Tre.run_ite, if_pos (by unfold appendMax; omega), Tre.run_ret, iwrap_succ (by omega)]
      rw [loopF_step hstep, ih (i + 1) _ (by omega) (by simp; omega), List.replicate_succ, List.append_assoc]
      rfl
  have := key n 0 [(srcL p0, srcL p0, ())] (by omega) (by simp)
  rw [run_some_mat (x := ((beginM p0), ())) (by
    have h2 : beginM p0 = ([(srcL p0, srcL p0, ())] ++ List.replicate n ([], [], ()), [], ()) := by unfold beginM; rw [hn, Int.toNat_natCast]; rfl
    rw [h2]; exact this)]
  rfl
theorem ior_nat {a b : Nat} (ha : a < 2 ^ 63) (hb : b < 2 ^ 63) : ior .i64 (a : Int) (b : Int) = ((a ||| b : Nat) : Int) := by
  have hx : a ||| b < 2 ^ 63 := Nat.or_lt_two_pow ha hb
  have : (BitVec.ofInt 64 (a : Int) ||| BitVec.ofInt 64 (b : Int)).toNat = a ||| b := by
    rw [BitVec.toNat_or, ofInt_nat (by omega), ofInt_nat (by omega)]
  unfold ior
  show iwrap .i64 (((BitVec.ofInt 64 (a : Int) ||| BitVec.ofInt 64 (b : Int)).toNat : Nat) : Int) = _
  rw [this, iwrap_nat (by omega)]
theorem ishl_nat {a j : Nat} (hj : j ≤ 62) (h : a * 2 ^ j < 2 ^ 63) : ishl .i64 (a : Int) (j : Int) = ((a * 2 ^ j : Nat) : Int) := by
  unfold ishl
  rw [Int.toNat_natCast, show min j (IntKind.bits .i64) = j from Nat.min_eq_left (by show j ≤ 64; omega)]
  have h2 : ((a : Int) * 2 ^ j) = ((a * 2 ^ j : Nat) : Int) := by push_cast; rfl
  rw [h2]
  exact iwrap_nat (by omega)
theorem src_rows {m b : Nat} (hm : m ≤ 4) (hb : b ≤ 6) : ∀ (l : List Int) (i : Nat) (acc : List Int), i + l.length ≤ m → (∀ x ∈ l, inP (b : Int) x = true) → (∀ y ∈ acc, okRow (m + b) y = true) →
    (foldE (β := List Int) (fun (i : Nat) acc x => .inl (acc ++ [ior .i64 (ishl .i64 1 (i : Int)) (ishl .i64 x (m : Int))])) id i acc l).length = acc.length + l.length ∧
    ∀ y ∈ foldE (β := List Int) (fun (i : Nat) acc x => .inl (acc ++ [ior .i64 (ishl .i64 1 (i : Int)) (ishl .i64 x (m : Int))])) id i acc l, okRow (m + b) y = true := by
  intro l
  induction l with
  | nil => intro i acc _ _ h; exact ⟨rfl, h⟩
  | cons x l ih =>
    intro i acc hi hl ha
    simp only [List.length_cons] at hi
    simp only [foldE]
    have hx : okRow (m + b) (ior .i64 (ishl .i64 1 (i : Int)) (ishl .i64 x (m : Int))) = true := by
      obtain ⟨n, rfl, hn⟩ := inP_nat (by omega) (hl x (by simp))
      have p1 : 2 ^ i * 1 ≤ 2 ^ m := by rw [Nat.mul_one]; exact pow_le (by omega)
      have p2 : 2 ^ m ≤ 2 ^ (m + b) := pow_le (by omega)
      have p3 : 2 ^ (m + b) ≤ 2 ^ 10 := pow_le (by omega)
      have p4 : n * 2 ^ m < 2 ^ (m + b) := by
        rw [Nat.pow_add, Nat.mul_comm (2 ^ m)]
        exact Nat.mul_lt_mul_of_pos_right hn (Nat.two_pow_pos m)
      have p5 : 2 ^ i < 2 ^ (m + b) := Nat.pow_lt_pow_right (by decide) (by omega)
      have e1 : ishl .i64 1 (i : Int) = ((1 * 2 ^ i : Nat) : Int) := ishl_nat (a := 1) (by omega) (by omega)
      have e2 : ishl .i64 (n : Int) (m : Int) = ((n * 2 ^ m : Nat) : Int) := ishl_nat (by omega) (by omega)
      rw [e1, e2, ior_nat (by omega) (by omega)]
      exact okRow_nat.2 ⟨_, rfl, Nat.or_lt_two_pow (by omega) p4⟩
    have := ih (i + 1) (acc ++ [ior .i64 (ishl .i64 1 (i : Int)) (ishl .i64 x (m : Int))]) (by omega) (fun y hy => hl y (by simp [hy])) (fun y hy => by
      rcases List.mem_append.1 hy with hy | hy
      · exact ha y hy
      · simp only [List.mem_singleton] at hy; rw [hy]; exact hx)
    refine ⟨?_, this.2⟩
    rw [this.1]
    simp
    omega
theorem beginM_ok {g : G8} (hg : isG g = true) : okP 4 g (beginM g) = true := by
  have hb := isG_spec hg
  have hc := colsG_le hg
  have hsrc : okS 4 (colsG g) (srcL g) = true := by
    have hall : g.2.2.1.all (inP g.2.1) = true := by
      unfold isG at hg
      simp only [Bool.and_eq_true] at hg
      exact hg.1.1.2
    obtain ⟨m, hm⟩ := Int.eq_ofNat_of_zero_le (show 0 ≤ g.1 by omega)
    obtain ⟨b, hb2⟩ := Int.eq_ofNat_of_zero_le (show 0 ≤ g.2.1 by omega)
    have hcm : colsG g = m + b := by unfold colsG; omega
    rw [hcm]
    unfold srcL
    rw [hm]
    have := src_rows (m := m) (b := b) (by omega) (by omega) g.2.2.1 0 [] (by omega) (fun x hx => by rw [← hb2]; exact List.all_eq_true.1 hall x hx) (fun y hy => by cases hy)
    exact okS_spec.2 ⟨by rw [this.1]; simp; omega, this.2⟩
  have hn : okS 4 (colsG g) [] = true := okS_spec.2 ⟨Nat.zero_le _, fun x hx => by cases hx⟩
  refine okP_mk ?_ (fun s hs => ?_) (Nat.zero_le _) (fun x hx => by cases hx)
  · unfold beginM statG
    simp only [List.length_cons, List.length_replicate]
    omega
  · unfold beginM at hs
    rcases List.mem_cons.1 hs with rfl | hs
    · exact ⟨hsrc, hsrc⟩
    · rw [(List.mem_replicate.1 hs).2]; exact ⟨hn, hn⟩
noncomputable def s_l08Begin_9aa7_V : Env := ⟨tau, [(108, s_l08Source_9aa7_c)], []⟩
noncomputable def s_l08Begin_9aa7_b : Code := (Try.f85.body).getD .skip
noncomputable def s_l08Begin_9aa7_l4_mk (z4_0 : Bool) (h4_0_1 : TGather) : (Int × (TPlant × Unit)) → St := fun x => stOf [(0, (.ptr (0, 0) [])), (3, (.ptr (9, 0) [])), (4, (.imm true (.int .i64) x.1))] [((0, 0), some ⟨true, kGather, (.imm z4_0), h4_0_1⟩), ((9, 0), some ⟨true, kL08Run, .own, ((some (0, 0) : Option RName), x.2)⟩)]
noncomputable def s_l08Begin_9aa7_l4_out (z4_0 : Bool) (h4_0_1 : TGather) : (TPlant × Unit) → Ex × St := fun x => (.exit 0, stOf [(3, (.ptr (9, 0) []))] [((0, 0), some ⟨true, kGather, (.imm z4_0), h4_0_1⟩), ((9, 0), some ⟨true, kL08Run, .own, ((some (0, 0) : Option RName), x)⟩)])
noncomputable def s_l08Begin_9aa7_l4_D (s : St) : Tre (Ex × St) :=
  asPtr (0, 0) [] (s.tmps 0) <|
  asPtr (9, 0) [] (s.tmps 3) <|
  asImmZ true (.int .i64) (s.tmps 4) fun d4 =>
  asRoot true kGather (s.roots (0, 0)) fun m6 d7 =>
  asMImm m6 fun z8 =>
  asRoot true kL08Run (s.roots (9, 0)) fun m10 d11 =>
  asM .own m10 <|
  asProd d11 fun d12 d13 =>
  asD d12 (some (0, 0) : Option RName) <|
  .mat (loopF (s_l08Begin_9aa7_l4 d7) (d4, d13)) fun x => .ret (s_l08Begin_9aa7_l4_out z8 d7 x)
noncomputable def s_l08Begin_9aa7_l4_L : LoopI := ⟨([0, 3, 4], [(0, 0), (9, 0)]), ([3], [(0, 0), (9, 0)]), s_l08Begin_9aa7_l4_D⟩
noncomputable def s_l08Begin_9aa7_A : List (Nat × LoopI) := [(4, s_l08Begin_9aa7_l4_L)]
set_option maxRecDepth 100000 in
theorem s_l08Begin_9aa7_l4_step : ∀ (z4_0 : Bool) (h4_0_1 : TGather) (x : (Int × (TPlant × Unit))) (c : St → Option (Ex × St)), den s_l08Begin_9aa7_V s_l08Begin_9aa7_A (loopAt s_l08Begin_9aa7_b 0) (s_l08Begin_9aa7_l4_mk z4_0 h4_0_1 x) (roundK s_l08Begin_9aa7_l4_L.kp s_l08Begin_9aa7_l4_L.kx c) = (s_l08Begin_9aa7_l4 h4_0_1 x).run (roundR (s_l08Begin_9aa7_l4_mk z4_0 h4_0_1) (s_l08Begin_9aa7_l4_out z4_0 h4_0_1) c) := fun _ _ _ _ => by
  kernel_rfl
theorem s_l08Begin_9aa7_l4_ok : LoopOK s_l08Begin_9aa7_V s_l08Begin_9aa7_A (loopAt s_l08Begin_9aa7_b 0) s_l08Begin_9aa7_l4_L := loopOK_of fun s e s' h => by
  generalize hs : restrict s_l08Begin_9aa7_l4_L.kp s = s1 at h
  have h : (s_l08Begin_9aa7_l4_D s1).run some = some (e, s') := h
  obtain ⟨e1, h_0⟩ := asPtr_spec h
  obtain ⟨e2, h_1⟩ := asPtr_spec h_0
  obtain ⟨d4, e3, h_2⟩ := asImmZ_spec h_1
  obtain ⟨m6, d7, e5, h_3⟩ := asRoot_spec h_2
  obtain ⟨z8, rfl, h_4⟩ := asMImm_spec h_3
  obtain ⟨m10, d11, e9, h_5⟩ := asRoot_spec h_4
  obtain ⟨rfl, h_6⟩ := asM_spec h_5
  obtain ⟨d12, d13, rfl, h_7⟩ := asProd_spec h_6
  obtain ⟨rfl, h_8⟩ := asD_spec h_7
  obtain ⟨y, hy, hz⟩ := mat_ret h_8
  refine ⟨_, _, s_l08Begin_9aa7_l4_mk z8 d7, s_l08Begin_9aa7_l4_out z8 d7, s_l08Begin_9aa7_l4 d7, (d4, d13), y, ?_, hy, ?_, s_l08Begin_9aa7_l4_step z8 d7⟩
  · subst hs; exact restrict_eq (T := [(0, (.ptr (0, 0) [])), (3, (.ptr (9, 0) [])), (4, (.imm true (.int .i64) d4))]) (U := [((0, 0), some ⟨true, kGather, (.imm z8), d7⟩), ((9, 0), some ⟨true, kL08Run, .own, ((some (0, 0) : Option RName), d13)⟩)]) rfl rfl ⟨e1, e2, e3, trivial⟩ ⟨e5, e9, trivial⟩
  · exact Option.some.inj hz
noncomputable def s_l08Begin_9aa7_I : FnI := ⟨s_l08Begin_9aa7_b, Try.f85.results.toList, Try.f85.resultTypes.toList, s_l08Begin_9aa7_A⟩
noncomputable def s_l08Begin_9aa7_out (zp0 : Bool) (p0 : TGather) : (TPlant × Unit) → CallOut := fun r => ⟨(.ptr (1, 0) []), [⟨true, kGather, (.imm zp0), p0⟩], [⟨true, kL08Run, .own, ((some (0, 0) : Option RName), r)⟩]⟩
set_option maxRecDepth 100000 in
theorem s_l08Begin_9aa7_eq : ∀ (zp0 : Bool) (p0 : TGather), denFn s_l08Begin_9aa7_V s_l08Begin_9aa7_I ⟨[(.ptr (0, 0) [])], [⟨true, kGather, (.imm zp0), p0⟩]⟩ = (s_l08Begin_9aa7 p0).run fun r => some (s_l08Begin_9aa7_out zp0 p0 r) := fun _ _ => by kernel_rfl
noncomputable def s_l08Begin_9aa7_G (av : List AV) (rs : List Root) : Tre CallOut :=
  asCons av fun a0_ av0 =>
  asEnd av0 <|
  asCons rs fun r0_ rs0 =>
  asEnd rs0 <|
  asPtr (0, 0) [] a0_ <|
  asRt true kGather r0_ fun m1 d2 =>
  asMImm m1 fun z3 =>
  .mat (beginR d2) fun r => .ret (s_l08Begin_9aa7_out z3 d2 r)
noncomputable def s_l08Begin_9aa7_c : Ctr := ⟨[], fun ci => s_l08Begin_9aa7_G ci.args ci.roots⟩
theorem s_l08Begin_9aa7_env : EnvOK Try.prog s_l08Begin_9aa7_V := (envOK_cons s_l08Source_9aa7_ok ent108 envOK_nil)
set_option maxRecDepth 100000 in
theorem s_l08Begin_9aa7_ok : Contract Try.prog 85 s_l08Begin_9aa7_c := by
  have hl : LoopsOK s_l08Begin_9aa7_V s_l08Begin_9aa7_A s_l08Begin_9aa7_b := (loopsOK_all (n := 1) (by kernel_rfl) fun k hk => by
      match k, hk with
      | 0, _ => exact loopOK_at (id := 4) (L := s_l08Begin_9aa7_l4_L) (by kernel_rfl) (by kernel_rfl) s_l08Begin_9aa7_l4_ok)
  refine (contract_of (F := s_l08Begin_9aa7_I) tau_tys s_l08Begin_9aa7_env Try.func85 (by kernel_rfl) (by kernel_rfl) (by kernel_rfl) hl []).weaken ?_
  rintro ⟨av, rs⟩ co h
  have h : (s_l08Begin_9aa7_G av rs).run some = some co := h
  obtain ⟨a0_, av0, rfl, h_0⟩ := asCons_spec h
  obtain ⟨rfl, h_1⟩ := asEnd_spec h_0
  obtain ⟨r0_, rs0, rfl, h_2⟩ := asCons_spec h_1
  obtain ⟨rfl, h_3⟩ := asEnd_spec h_2
  obtain ⟨rfl, h_4⟩ := asPtr_spec h_3
  obtain ⟨m1, d2, rfl, h_5⟩ := asRt_spec h_4
  obtain ⟨z3, rfl, h_6⟩ := asMImm_spec h_5
  exact fin_opt (s_l08Begin_9aa7_eq z3 d2) (s_l08Begin_9aa7_spec d2) h_6
end Go.Proofs.Ytddaclhjnkimfaa

namespace Go.Proofs.Ytddaclhjnkimfaa
open Go Go.Abs Go.Proofs
noncomputable def s_l08Asked_3c39_l4 (h4_0_0 : (List TDeed)) : Int → Tre (Int ⊕ (Int ⊕ Unit)) := fun s4 =>
  .cond (decide (s4 < (h4_0_0.length : Int)))
    (.ite (0 ≤ s4 ∧ s4 < (h4_0_0.length : Int)) <|
    .mat (h4_0_0[s4.toNat]?) fun x2 =>
    .cond (!(vDeed x2))
      (.ret (.inr (.inl 1)))
      (.ret (.inl (iwrap .i64 (s4 + 1)))))
    (.ret (.inr (.inr ())))
noncomputable def s_l08Asked_3c39 (p0 : (List TDeed)) (p1 : TGather) : Tre Int :=
  .mat (okG p1) fun r1 =>
  .cond (!r1)
    (.ret 1)
    (.mat (loopF (s_l08Asked_3c39_l4 p0) 0) fun l3 =>
    .alt l3
      (fun a4 =>
        .ret a4)
      (fun _ =>
        .cond (decide ((p0.length : Int) > 300))
          (.ret 2)
          (.ret 0)))
noncomputable def s_l08Asked_3c39_F (p0 : (List TDeed)) (p1 : TGather) : Option Int := (s_l08Asked_3c39 p0 p1).run some
def askedM (ds : List D8) (g : G8) : Int := cond (isG g && ds.all vDeed) (cond (decide ((ds.length : Int) > 300)) 2 0) 1
def askedR (ds : List D8) (g : G8) : Option Int := askO (decide (g.2.2.1.length ≤ 1048576) && decide (ds.length ≤ 1048576)) (askedM ds g)
theorem s_l08Asked_3c39_spec (p0 : List D8) (p1 : G8) (y : Int) (h : askedR p0 p1 = some y) : s_l08Asked_3c39_F p0 p1 = some y := by
  obtain ⟨hok, rfl⟩ := askO_some h
  simp only [Bool.and_eq_true, decide_eq_true_eq] at hok
  obtain ⟨hg, hd⟩ := hok
  unfold s_l08Asked_3c39_F s_l08Asked_3c39 askedM
  rw [run_some_mat (show okG p1 = some _ from lim_of hg), Tre.run_cond]
  cases isG p1
  · rfl
  rw [Bool.not_true, cond_false, Bool.true_and, Tre.run_mat, find_loop (xs := p0) (fun _ x => cond (vDeed x) none (some (.inl 1))) (.inr ()), findE_all]
  · cases p0.all vDeed
    · rfl
    · rw [cond_true, cond_true]
      show (Tre.cond (decide ((p0.length : Int) > 300)) (.ret (2 : Int)) (.ret 0)).run some = _
      rw [Tre.run_cond]
      cases decide ((p0.length : Int) > 300) <;> rfl
  · intro i x hx
    have hi : i < p0.length := (List.getElem?_eq_some_iff.1 hx).1
    unfold s_l08Asked_3c39_l4
    rw [run_inb hx, Tre.run_cond]
    cases vDeed x
    · rfl
    · simp only [Bool.not_true, cond_true, cond_false, Tre.run_ret, iwrap_succ (show i < 4611686018427387904 by omega)]
  · unfold s_l08Asked_3c39_l4
    exact run_out
theorem askedM_zero {ds : List D8} {g : G8} (h : askedM ds g = 0) : isG g = true ∧ ds.all vDeed = true ∧ ds.length ≤ 300 := by
  unfold askedM at h
  cases h1 : (isG g && ds.all vDeed) with
  | false => rw [h1] at h; cases h
  | true =>
    rw [h1] at h
    by_cases h2 : (ds.length : Int) > 300
    · rw [decide_eq_true h2] at h; cases h
    · rw [Bool.and_eq_true] at h1
      exact ⟨h1.1, h1.2, by omega⟩
noncomputable def s_l08Asked_3c39_V : Env := ⟨tau, [(83, s_l08Ok_9aa7_c), (84, s_l08Deed_c)], []⟩
noncomputable def s_l08Asked_3c39_b : Code := (Try.f47.body).getD .skip
noncomputable def s_l08Asked_3c39_l4_mk (z4_0 : Bool) (z4_1 : Bool) (h4_0_0 : (List TDeed)) (h4_0_2 : TGather) : Int → St := fun x => stOf [(1, (.imm z4_0 (.sl kDeed) h4_0_0)), (5, (.imm true (.int .i64) x))] [((0, 0), some ⟨true, kGather, (.imm z4_1), h4_0_2⟩)]
noncomputable def s_l08Asked_3c39_l4_out (z4_0 : Bool) (z4_1 : Bool) (h4_0_0 : (List TDeed)) (h4_0_2 : TGather) : (Int ⊕ Unit) → Ex × St
  | .inl x => (.ret, stOf [(1, (.imm z4_0 (.sl kDeed) h4_0_0)), (4, (.imm true (.int .i64) x))] [((0, 0), some ⟨true, kGather, (.imm z4_1), h4_0_2⟩)])
  | .inr x => (.exit 0, stOf [(1, (.imm z4_0 (.sl kDeed) h4_0_0)), (4, .dead)] [((0, 0), some ⟨true, kGather, (.imm z4_1), h4_0_2⟩)])
noncomputable def s_l08Asked_3c39_l4_D (s : St) : Tre (Ex × St) :=
  asImm (.sl kDeed) (s.tmps 1) fun z3 d2 =>
  asImmZ true (.int .i64) (s.tmps 5) fun d5 =>
  asRoot true kGather (s.roots (0, 0)) fun m7 d8 =>
  asMImm m7 fun z9 =>
  .mat (loopF (s_l08Asked_3c39_l4 d2) d5) fun x => .alt x (fun a0 => .ret (s_l08Asked_3c39_l4_out z3 z9 d2 d8 (.inl a0))) (fun b0 => .ret (s_l08Asked_3c39_l4_out z3 z9 d2 d8 (.inr b0)))
noncomputable def s_l08Asked_3c39_l4_L : LoopI := ⟨([1, 5], [(0, 0)]), ([1, 4], [(0, 0)]), s_l08Asked_3c39_l4_D⟩
noncomputable def s_l08Asked_3c39_A : List (Nat × LoopI) := [(4, s_l08Asked_3c39_l4_L)]
set_option maxRecDepth 100000 in
theorem s_l08Asked_3c39_l4_step : ∀ (z4_0 : Bool) (z4_1 : Bool) (h4_0_0 : (List TDeed)) (h4_0_2 : TGather) (x : Int) (c : St → Option (Ex × St)), den s_l08Asked_3c39_V s_l08Asked_3c39_A (loopAt s_l08Asked_3c39_b 0) (s_l08Asked_3c39_l4_mk z4_0 z4_1 h4_0_0 h4_0_2 x) (roundK s_l08Asked_3c39_l4_L.kp s_l08Asked_3c39_l4_L.kx c) = (s_l08Asked_3c39_l4 h4_0_0 x).run (roundR (s_l08Asked_3c39_l4_mk z4_0 z4_1 h4_0_0 h4_0_2) (s_l08Asked_3c39_l4_out z4_0 z4_1 h4_0_0 h4_0_2) c) := fun _ _ _ _ _ _ => by
  kernel_rfl
theorem s_l08Asked_3c39_l4_ok : LoopOK s_l08Asked_3c39_V s_l08Asked_3c39_A (loopAt s_l08Asked_3c39_b 0) s_l08Asked_3c39_l4_L := loopOK_of fun s e s' h => by
  generalize hs : restrict s_l08Asked_3c39_l4_L.kp s = s1 at h
  have h : (s_l08Asked_3c39_l4_D s1).run some = some (e, s') := h
  obtain ⟨z3, d2, e1, h_0⟩ := asImm_spec h
  obtain ⟨d5, e4, h_1⟩ := asImmZ_spec h_0
  obtain ⟨m7, d8, e6, h_2⟩ := asRoot_spec h_1
  obtain ⟨z9, rfl, h_3⟩ := asMImm_spec h_2
  obtain ⟨y, hy, hz⟩ := mat_some h_3
  refine ⟨_, _, s_l08Asked_3c39_l4_mk z3 z9 d2 d8, s_l08Asked_3c39_l4_out z3 z9 d2 d8, s_l08Asked_3c39_l4 d2, d5, y, ?_, hy, ?_, s_l08Asked_3c39_l4_step z3 z9 d2 d8⟩
  · subst hs; exact restrict_eq (T := [(1, (.imm z3 (.sl kDeed) d2)), (5, (.imm true (.int .i64) d5))]) (U := [((0, 0), some ⟨true, kGather, (.imm z9), d8⟩)]) rfl rfl ⟨e1, e4, trivial⟩ ⟨e6, trivial⟩
  · rcases y with x | x <;> exact Option.some.inj hz
noncomputable def s_l08Asked_3c39_I : FnI := ⟨s_l08Asked_3c39_b, Try.f47.results.toList, Try.f47.resultTypes.toList, s_l08Asked_3c39_A⟩
noncomputable def s_l08Asked_3c39_out (_zp0 : Bool) (zp1 : Bool) (_p0 : (List TDeed)) (p1 : TGather) : Int → CallOut := fun r => ⟨(.imm true (.int .i64) r), [⟨true, kGather, (.imm zp1), p1⟩], []⟩
set_option maxRecDepth 100000 in
theorem s_l08Asked_3c39_eq : ∀ (zp0 : Bool) (zp1 : Bool) (p0 : (List TDeed)) (p1 : TGather), denFn s_l08Asked_3c39_V s_l08Asked_3c39_I ⟨[(.ptr (0, 0) []), (.imm zp0 (.sl kDeed) p0)], [⟨true, kGather, (.imm zp1), p1⟩]⟩ = (s_l08Asked_3c39 p0 p1).run fun r => some (s_l08Asked_3c39_out zp0 zp1 p0 p1 r) := fun _ _ _ _ => by kernel_rfl
noncomputable def s_l08Asked_3c39_G (av : List AV) (rs : List Root) : Tre CallOut :=
  asCons av fun a0_ av0 =>
  asCons av0 fun a1_ av1 =>
  asEnd av1 <|
  asCons rs fun r0_ rs0 =>
  asEnd rs0 <|
  asPtr (0, 0) [] a0_ <|
  asImm (.sl kDeed) a1_ fun z2 d1 =>
  asRt true kGather r0_ fun m3 d4 =>
  asMImm m3 fun z5 =>
  .mat (askedR d1 d4) fun r => .ret (s_l08Asked_3c39_out z2 z5 d1 d4 r)
noncomputable def s_l08Asked_3c39_c : Ctr := ⟨[], fun ci => s_l08Asked_3c39_G ci.args ci.roots⟩
theorem s_l08Asked_3c39_env : EnvOK Try.prog s_l08Asked_3c39_V := (envOK_cons s_l08Ok_9aa7_ok ent83 (envOK_cons s_l08Deed_ok ent84 envOK_nil))
set_option maxRecDepth 100000 in
theorem s_l08Asked_3c39_ok : Contract Try.prog 47 s_l08Asked_3c39_c := by
  have hl : LoopsOK s_l08Asked_3c39_V s_l08Asked_3c39_A s_l08Asked_3c39_b := (loopsOK_all (n := 1) (by kernel_rfl) fun k hk => by
      match k, hk with
      | 0, _ => exact loopOK_at (id := 4) (L := s_l08Asked_3c39_l4_L) (by kernel_rfl) (by kernel_rfl) s_l08Asked_3c39_l4_ok)
  refine (contract_of (F := s_l08Asked_3c39_I) tau_tys s_l08Asked_3c39_env Try.func47 (by kernel_rfl) (by kernel_rfl) (by kernel_rfl) hl []).weaken ?_
  rintro ⟨av, rs⟩ co h
  have h : (s_l08Asked_3c39_G av rs).run some = some co := h
  obtain ⟨a0_, av0, rfl, h_0⟩ := asCons_spec h
  obtain ⟨a1_, av1, rfl, h_1⟩ := asCons_spec h_0
  obtain ⟨rfl, h_2⟩ := asEnd_spec h_1
  obtain ⟨r0_, rs0, rfl, h_3⟩ := asCons_spec h_2
  obtain ⟨rfl, h_4⟩ := asEnd_spec h_3
  obtain ⟨rfl, h_5⟩ := asPtr_spec h_4
  obtain ⟨z2, d1, rfl, h_6⟩ := asImm_spec h_5
  obtain ⟨m3, d4, rfl, h_7⟩ := asRt_spec h_6
  obtain ⟨z5, rfl, h_8⟩ := asMImm_spec h_7
  exact fin_opt (s_l08Asked_3c39_eq z2 z5 d1 d4) (s_l08Asked_3c39_spec d1 d4) h_8
end Go.Proofs.Ytddaclhjnkimfaa

namespace Go.Proofs.Ytddaclhjnkimfaa
open Go Go.Abs Go.Proofs
noncomputable def s_l08Play_3c39_l4 (h4_0_0 : (List TDeed)) (h4_0_2 : TGather) : (Int × (TPlant × Unit) × (List Int)) → Tre ((Int × (TPlant × Unit) × (List Int)) ⊕ ((TPlant × Unit) × (List Int))) := fun s4 =>
  .cond (decide (s4.1 < (h4_0_0.length : Int)))
    (.ite (0 ≤ s4.1 ∧ s4.1 < (h4_0_0.length : Int)) <|
    .mat (h4_0_0[s4.1.toNat]?) fun x2 =>
    .mat (doR x2 s4.2.1 h4_0_2) fun r3 =>
    .ite ((s4.2.2.length + 1) * 8 ≤ appendMax ∧ 1 ≤ 8) <|
    .ret (.inl (iwrap .i64 (s4.1 + 1), r3.2, s4.2.2 ++ ([r3.1]))))
    (.ret (.inr (s4.2.1, s4.2.2)))
noncomputable def s_l08Play_3c39 (p0 : (List TDeed)) (p1 : TGather) : Tre ((TPlant × Unit) × (List Int)) :=
  .mat (beginR p1) fun r1 =>
  .mat (loopF (s_l08Play_3c39_l4 p0 p1) (0, r1, [])) fun l4 =>
  .ret (l4.1, l4.2)
noncomputable def s_l08Play_3c39_F (p0 : (List TDeed)) (p1 : TGather) : Option ((TPlant × Unit) × (List Int)) := (s_l08Play_3c39 p0 p1).run some
noncomputable def runM (g : G8) : List D8 → P8 → P8 × List Int
  | [], p => (p, [])
  | d :: l, p => ((runM g l (doM g d p).2).1, (doM g d p).1 :: (runM g l (doM g d p).2).2)
noncomputable def playR (ds : List D8) (g : G8) : Option ((P8 × Unit) × List Int) := askO (isG g && ds.all vDeed && decide (ds.length ≤ 300)) (((runM g ds (beginM g)).1, ()), (runM g ds (beginM g)).2)
theorem foldE_run (g : G8) : ∀ (l : List D8) (i : Nat) (p : P8) (cs : List Int), foldE (β := (P8 × Unit) × List Int) (fun (_ : Nat) (acc : (P8 × Unit) × List Int) d => .inl (((doM g d acc.1.1).2, ()), acc.2 ++ [(doM g d acc.1.1).1])) id i ((p, ()), cs) l = (((runM g l p).1, ()), cs ++ (runM g l p).2) := by
  intro l
  induction l with
  | nil => intro i p cs; simp [foldE, runM]
  | cons d l ih => intro i p cs; simp only [foldE, runM]; rw [ih]; simp
theorem runM_ok {g : G8} (hg : isG g = true) : ∀ (l : List D8) {k : Nat} {p : P8}, l.all vDeed = true → okP k g p = true → okP (k + l.length) g (runM g l p).1 = true := by
  intro l
  induction l with
  | nil => intro k p _ h; exact h
  | cons d l ih =>
    intro k p hd h
    simp only [List.all_cons, Bool.and_eq_true] at hd
    have := ih hd.2 (doM_ok hg hd.1 h)
    rw [show k + 1 + l.length = k + (d :: l).length by simp; omega] at this
    exact this
theorem s_l08Play_3c39_spec (p0 : List D8) (p1 : G8) (y : (P8 × Unit) × List Int) (h : playR p0 p1 = some y) : s_l08Play_3c39_F p0 p1 = some y := by
  obtain ⟨hok, rfl⟩ := askO_some h
  simp only [Bool.and_eq_true, decide_eq_true_eq] at hok
  obtain ⟨⟨hg, hd⟩, hl⟩ := hok
  unfold s_l08Play_3c39_F s_l08Play_3c39
  rw [run_some_mat (show beginR p1 = some _ from askO_true hg)]
  have := fold_loop (xs := p0) (step := s_l08Play_3c39_l4 p0 p1) (fun i acc => ((i : Int), acc)) (fun (_ : Nat) (acc : (P8 × Unit) × List Int) d => .inl (((doM p1 d acc.1.1).2, ()), acc.2 ++ [(doM p1 d acc.1.1).1])) id (fun i acc => okP (4 + i) p1 acc.1.1 = true ∧ acc.2.length = i) (by
    rintro i ⟨⟨p, ⟨⟩⟩, cs⟩ x hx ⟨hI, hcs⟩
    have hi : i < p0.length := (List.getElem?_eq_some_iff.1 hx).1
    have hv : vDeed x = true := List.all_eq_true.1 hd x (List.mem_of_getElem? hx)
    have hcs : cs.length = i := hcs
    refine ⟨?_, fun a ha => by cases ha; exact ⟨doM_ok hg hv hI, by simp [hcs]⟩⟩
    unfold s_l08Play_3c39_l4
    rw [run_inb hx, run_some_mat (show doR x (p, ()) p1 = some _ from askO_true (by
      rw [Bool.and_eq_true, Bool.and_eq_true]; exact ⟨⟨hg, hv⟩, okP_mono hI (by omega)⟩)), Tre.run_ite, if_pos (by unfold appendMax; dsimp only; omega), Tre.run_ret, iwrap_succ (by omega)])
    (by
    intro acc _
    unfold s_l08Play_3c39_l4
    exact run_out) p0 0 ((beginM p1, ()), []) rfl (Nat.zero_le _) ⟨beginM_ok hg, rfl⟩
  rw [foldE_run] at this
  have h1 : loopF (s_l08Play_3c39_l4 p0 p1) (0, (beginM p1, ()), []) = some (((runM p1 p0 (beginM p1)).1, ()), [] ++ (runM p1 p0 (beginM p1)).2) := this
  rw [run_some_mat h1]
  rfl
noncomputable def s_l08Play_3c39_V : Env := ⟨tau, [(85, s_l08Begin_9aa7_c), (86, s_l08Run_do_9d6c_c)], []⟩
noncomputable def s_l08Play_3c39_b : Code := (Try.f48.body).getD .skip
noncomputable def s_l08Play_3c39_l4_mk (z4_0 : Bool) (z4_1 : Bool) (h4_0_0 : (List TDeed)) (h4_0_2 : TGather) : (Int × (TPlant × Unit) × (List Int)) → St := fun x => stOf [(1, (.imm z4_0 (.sl kDeed) h4_0_0)), (6, (.ptr (12, 0) [])), (7, (.ref (9, 0) [])), (8, (.imm true (.int .i64) x.1))] [((0, 0), some ⟨true, kGather, (.imm z4_1), h4_0_2⟩), ((12, 0), some ⟨true, kL08Run, .own, ((some (0, 0) : Option RName), x.2.1)⟩), ((9, 0), some ⟨false, (.sl (.int .i64)), .own, x.2.2⟩)]
noncomputable def s_l08Play_3c39_l4_out (_z4_0 : Bool) (z4_1 : Bool) (_h4_0_0 : (List TDeed)) (h4_0_2 : TGather) : ((TPlant × Unit) × (List Int)) → Ex × St := fun x => (.exit 0, stOf [(6, (.ptr (12, 0) [])), (7, (.ref (9, 0) []))] [((0, 0), some ⟨true, kGather, (.imm z4_1), h4_0_2⟩), ((12, 0), some ⟨true, kL08Run, .own, ((some (0, 0) : Option RName), x.1)⟩), ((9, 0), some ⟨false, (.sl (.int .i64)), .own, x.2⟩)])
noncomputable def s_l08Play_3c39_l4_D (s : St) : Tre (Ex × St) :=
  asImm (.sl kDeed) (s.tmps 1) fun z3 d2 =>
  asPtr (12, 0) [] (s.tmps 6) <|
  asRef (9, 0) [] (s.tmps 7) <|
  asImmZ true (.int .i64) (s.tmps 8) fun d7 =>
  asRoot true kGather (s.roots (0, 0)) fun m9 d10 =>
  asMImm m9 fun z11 =>
  asRoot true kL08Run (s.roots (12, 0)) fun m13 d14 =>
  asM .own m13 <|
  asProd d14 fun d15 d16 =>
  asD d15 (some (0, 0) : Option RName) <|
  asRoot false (.sl (.int .i64)) (s.roots (9, 0)) fun m18 d19 =>
  asM .own m18 <|
  .mat (loopF (s_l08Play_3c39_l4 d2 d10) (d7, d16, d19)) fun x => .ret (s_l08Play_3c39_l4_out z3 z11 d2 d10 x)
noncomputable def s_l08Play_3c39_l4_L : LoopI := ⟨([1, 6, 7, 8], [(0, 0), (12, 0), (9, 0)]), ([6, 7], [(0, 0), (12, 0), (9, 0)]), s_l08Play_3c39_l4_D⟩
noncomputable def s_l08Play_3c39_A : List (Nat × LoopI) := [(4, s_l08Play_3c39_l4_L)]
set_option maxRecDepth 100000 in
theorem s_l08Play_3c39_l4_step : ∀ (z4_0 : Bool) (z4_1 : Bool) (h4_0_0 : (List TDeed)) (h4_0_2 : TGather) (x : (Int × (TPlant × Unit) × (List Int))) (c : St → Option (Ex × St)), den s_l08Play_3c39_V s_l08Play_3c39_A (loopAt s_l08Play_3c39_b 0) (s_l08Play_3c39_l4_mk z4_0 z4_1 h4_0_0 h4_0_2 x) (roundK s_l08Play_3c39_l4_L.kp s_l08Play_3c39_l4_L.kx c) = (s_l08Play_3c39_l4 h4_0_0 h4_0_2 x).run (roundR (s_l08Play_3c39_l4_mk z4_0 z4_1 h4_0_0 h4_0_2) (s_l08Play_3c39_l4_out z4_0 z4_1 h4_0_0 h4_0_2) c) := fun _ _ _ _ _ _ => by
  kernel_rfl
theorem s_l08Play_3c39_l4_ok : LoopOK s_l08Play_3c39_V s_l08Play_3c39_A (loopAt s_l08Play_3c39_b 0) s_l08Play_3c39_l4_L := loopOK_of fun s e s' h => by
  generalize hs : restrict s_l08Play_3c39_l4_L.kp s = s1 at h
  have h : (s_l08Play_3c39_l4_D s1).run some = some (e, s') := h
  obtain ⟨z3, d2, e1, h_0⟩ := asImm_spec h
  obtain ⟨e4, h_1⟩ := asPtr_spec h_0
  obtain ⟨e5, h_2⟩ := asRef_spec h_1
  obtain ⟨d7, e6, h_3⟩ := asImmZ_spec h_2
  obtain ⟨m9, d10, e8, h_4⟩ := asRoot_spec h_3
  obtain ⟨z11, rfl, h_5⟩ := asMImm_spec h_4
  obtain ⟨m13, d14, e12, h_6⟩ := asRoot_spec h_5
  obtain ⟨rfl, h_7⟩ := asM_spec h_6
  obtain ⟨d15, d16, rfl, h_8⟩ := asProd_spec h_7
  obtain ⟨rfl, h_9⟩ := asD_spec h_8
  obtain ⟨m18, d19, e17, h_10⟩ := asRoot_spec h_9
  obtain ⟨rfl, h_11⟩ := asM_spec h_10
  obtain ⟨y, hy, hz⟩ := mat_ret h_11
  refine ⟨_, _, s_l08Play_3c39_l4_mk z3 z11 d2 d10, s_l08Play_3c39_l4_out z3 z11 d2 d10, s_l08Play_3c39_l4 d2 d10, (d7, d16, d19), y, ?_, hy, ?_, s_l08Play_3c39_l4_step z3 z11 d2 d10⟩
  · subst hs; exact restrict_eq (T := [(1, (.imm z3 (.sl kDeed) d2)), (6, (.ptr (12, 0) [])), (7, (.ref (9, 0) [])), (8, (.imm true (.int .i64) d7))]) (U := [((0, 0), some ⟨true, kGather, (.imm z11), d10⟩), ((12, 0), some ⟨true, kL08Run, .own, ((some (0, 0) : Option RName), d16)⟩), ((9, 0), some ⟨false, (.sl (.int .i64)), .own, d19⟩)]) rfl rfl ⟨e1, e4, e5, e6, trivial⟩ ⟨e8, e12, e17, trivial⟩
  · exact Option.some.inj hz
noncomputable def s_l08Play_3c39_I : FnI := ⟨s_l08Play_3c39_b, Try.f48.results.toList, Try.f48.resultTypes.toList, s_l08Play_3c39_A⟩
noncomputable def s_l08Play_3c39_out (_zp0 : Bool) (zp1 : Bool) (_p0 : (List TDeed)) (p1 : TGather) : ((TPlant × Unit) × (List Int)) → CallOut := fun r => ⟨(.tcons (.ptr (1, 0) []) (.tcons (.ref (1, 1) []) .tnil)), [⟨true, kGather, (.imm zp1), p1⟩], [⟨true, kL08Run, .own, ((some (0, 0) : Option RName), r.1)⟩, ⟨false, (.sl (.int .i64)), .own, r.2⟩]⟩
set_option maxRecDepth 100000 in
theorem s_l08Play_3c39_eq : ∀ (zp0 : Bool) (zp1 : Bool) (p0 : (List TDeed)) (p1 : TGather), denFn s_l08Play_3c39_V s_l08Play_3c39_I ⟨[(.ptr (0, 0) []), (.imm zp0 (.sl kDeed) p0)], [⟨true, kGather, (.imm zp1), p1⟩]⟩ = (s_l08Play_3c39 p0 p1).run fun r => some (s_l08Play_3c39_out zp0 zp1 p0 p1 r) := fun _ _ _ _ => by kernel_rfl
noncomputable def s_l08Play_3c39_G (av : List AV) (rs : List Root) : Tre CallOut :=
  asCons av fun a0_ av0 =>
  asCons av0 fun a1_ av1 =>
  asEnd av1 <|
  asCons rs fun r0_ rs0 =>
  asEnd rs0 <|
  asPtr (0, 0) [] a0_ <|
  asImm (.sl kDeed) a1_ fun z2 d1 =>
  asRt true kGather r0_ fun m3 d4 =>
  asMImm m3 fun z5 =>
  .mat (playR d1 d4) fun r => .ret (s_l08Play_3c39_out z2 z5 d1 d4 r)
noncomputable def s_l08Play_3c39_c : Ctr := ⟨[], fun ci => s_l08Play_3c39_G ci.args ci.roots⟩
theorem s_l08Play_3c39_env : EnvOK Try.prog s_l08Play_3c39_V := (envOK_cons s_l08Begin_9aa7_ok ent85 (envOK_cons s_l08Run_do_9d6c_ok ent86 envOK_nil))
set_option maxRecDepth 100000 in
theorem s_l08Play_3c39_ok : Contract Try.prog 48 s_l08Play_3c39_c := by
  have hl : LoopsOK s_l08Play_3c39_V s_l08Play_3c39_A s_l08Play_3c39_b := (loopsOK_all (n := 1) (by kernel_rfl) fun k hk => by
      match k, hk with
      | 0, _ => exact loopOK_at (id := 4) (L := s_l08Play_3c39_l4_L) (by kernel_rfl) (by kernel_rfl) s_l08Play_3c39_l4_ok)
  refine (contract_of (F := s_l08Play_3c39_I) tau_tys s_l08Play_3c39_env Try.func48 (by kernel_rfl) (by kernel_rfl) (by kernel_rfl) hl []).weaken ?_
  rintro ⟨av, rs⟩ co h
  have h : (s_l08Play_3c39_G av rs).run some = some co := h
  obtain ⟨a0_, av0, rfl, h_0⟩ := asCons_spec h
  obtain ⟨a1_, av1, rfl, h_1⟩ := asCons_spec h_0
  obtain ⟨rfl, h_2⟩ := asEnd_spec h_1
  obtain ⟨r0_, rs0, rfl, h_3⟩ := asCons_spec h_2
  obtain ⟨rfl, h_4⟩ := asEnd_spec h_3
  obtain ⟨rfl, h_5⟩ := asPtr_spec h_4
  obtain ⟨z2, d1, rfl, h_6⟩ := asImm_spec h_5
  obtain ⟨m3, d4, rfl, h_7⟩ := asRt_spec h_6
  obtain ⟨z5, rfl, h_8⟩ := asMImm_spec h_7
  exact fin_opt (s_l08Play_3c39_eq z2 z5 d1 d4) (s_l08Play_3c39_spec d1 d4) h_8
end Go.Proofs.Ytddaclhjnkimfaa

namespace Go.Proofs.Ytddaclhjnkimfaa
open Go Go.Abs Go.Proofs
-- shared
def codeM (g : G8) (ds : List D8) (s : Int) : Int := cond (isG g && ds.all vDeed) (cond (decide ((ds.length : Int) > 300)) 2 (cond (inR s 0 (statG g - 1)) 0 2)) 1
theorem codeM_asked (g : G8) (ds : List D8) (s : Int) : codeM g ds s = cond (decide (askedM ds g = 0)) (cond (inR s 0 (statG g - 1)) 0 2) (askedM ds g) := by
  unfold codeM askedM
  cases (isG g && ds.all vDeed)
  · rfl
  · cases decide ((ds.length : Int) > 300)
    · rfl
    · rfl
noncomputable def afterM (g : G8) (ds : List D8) : P8 := (runM g ds (beginM g)).1
theorem codeM_zero_spec {g : G8} {ds : List D8} {s : Int} (h : codeM g ds s = 0) : isG g = true ∧ ds.all vDeed = true ∧ ds.length ≤ 300 ∧ 0 ≤ s ∧ s ≤ statG g - 1 := by
  rw [codeM_asked] at h
  by_cases h0 : askedM ds g = 0
  · rw [decide_eq_true h0, cond_true] at h
    obtain ⟨hg, hd, hl⟩ := askedM_zero h0
    cases hs : inR s 0 (statG g - 1) with
    | false => rw [hs] at h; cases h
    | true => exact ⟨hg, hd, hl, inR_iff.1 hs⟩
  · rw [decide_eq_false h0, cond_false] at h
    exact absurd h h0
theorem afterM_ok {g : G8} {ds : List D8} (hg : isG g = true) (hd : ds.all vDeed = true) (hl : ds.length ≤ 300) : okP 304 g (afterM g ds) = true :=
  okP_mono (runM_ok hg ds hd (beginM_ok hg)) (by omega)
theorem rows_at {g : G8} {ds : List D8} {s : Int} (h : codeM g ds s = 0) : ∃ (i : Nat) (x : List Int × List Int × Unit), s = (i : Int) ∧ (afterM g ds).1[i]? = some x ∧ i < (afterM g ds).1.length ∧ okS 304 (colsG g) x.1 = true ∧ isG g = true := by
  obtain ⟨hg, hd, hl, h1, h2⟩ := codeM_zero_spec h
  obtain ⟨i, rfl⟩ := Int.eq_ofNat_of_zero_le h1
  obtain ⟨l1, l2, _, _⟩ := okP_spec (afterM_ok hg hd hl)
  have hi : i < (afterM g ds).1.length := by omega
  exact ⟨i, _, rfl, List.getElem?_eq_getElem hi, hi, (l2 _ (List.getElem_mem hi)).1, hg⟩
noncomputable def rowsM (g : G8) (ds : List D8) (s : Int) : List Int := match (afterM g ds).1[s.toNat]? with
  | some x => x.1
  | none => []
theorem rowsM_ok {g : G8} {ds : List D8} {s : Int} (h : codeM g ds s = 0) : okS 304 (colsG g) (rowsM g ds s) = true := by
  obtain ⟨i, x, rfl, hx, _, hk, _⟩ := rows_at h
  unfold rowsM
  rw [Int.toNat_natCast, hx]; exact hk
end Go.Proofs.Ytddaclhjnkimfaa

namespace Go.Proofs.Ytddaclhjnkimfaa
open Go Go.Abs Go.Proofs
noncomputable def s_l08At_23e7 (p0 : (List TDeed)) (p1 : Int) (p2 : TGather) : Tre ((Int × (TPlant × Unit)) ⊕ (Int × (TPlant × Unit))) :=
  .mat (askedR p0 p2) fun r1 =>
  .cond (!decide (r1 = 0))
    (.ret (.inl (r1, (([], ([], ())), ()))))
    (let v2 := iwrap .i64 (p2.2.2.2.1 + p2.2.2.2.2.1)
    .cond (!(inR p1 0 v2))
      (.ret (.inl (2, (([], ([], ())), ()))))
      (.mat (playR p0 p2) fun r3 =>
      .ret (.inr (0, r3.1))))
noncomputable def s_l08At_23e7_F (p0 : (List TDeed)) (p1 : Int) (p2 : TGather) : Option ((Int × (TPlant × Unit)) ⊕ (Int × (TPlant × Unit))) := (s_l08At_23e7 p0 p1 p2).run some
noncomputable def atM (ds : List D8) (s : Int) (g : G8) : (Int × (P8 × Unit)) ⊕ (Int × (P8 × Unit)) :=
  cond (decide (codeM g ds s = 0)) (.inr (0, (afterM g ds, ()))) (.inl (codeM g ds s, (([], [], ()), ())))
noncomputable def atR (ds : List D8) (s : Int) (g : G8) : Option ((Int × (P8 × Unit)) ⊕ (Int × (P8 × Unit))) := askO (decide (g.2.2.1.length ≤ 1048576) && decide (ds.length ≤ 1048576)) (atM ds s g)
theorem s_l08At_23e7_spec (p0 : List D8) (p1 : Int) (p2 : G8) (y : (Int × (P8 × Unit)) ⊕ (Int × (P8 × Unit))) (h : atR p0 p1 p2 = some y) : s_l08At_23e7_F p0 p1 p2 = some y := by
  obtain ⟨hok, rfl⟩ := askO_some h
  unfold s_l08At_23e7_F s_l08At_23e7 atM
  rw [run_some_mat (show askedR p0 p2 = some _ from askO_true hok), Tre.run_cond, codeM_asked]
  by_cases h0 : askedM p0 p2 = 0
  · obtain ⟨hg, hd, hl⟩ := askedM_zero h0
    have hb := isG_spec hg
    rw [decide_eq_true h0, Bool.not_true, cond_false, cond_true]
    dsimp only
    rw [show iwrap .i64 (p2.2.2.2.1 + p2.2.2.2.2.1) = statG p2 - 1 from by rw [iwrap_i64 (by omega) (by omega)]; unfold statG; omega, Tre.run_cond]
    cases inR p1 0 (statG p2 - 1)
    · rfl
    · rw [Bool.not_true, cond_false, run_some_mat (show playR p0 p2 = some _ from askO_true (by rw [Bool.and_eq_true, Bool.and_eq_true, decide_eq_true_eq]; exact ⟨⟨hg, hd⟩, hl⟩))]
      rfl
  · have h1 : decide (askedM p0 p2 = 0) = false := decide_eq_false h0
    rw [h1, cond_false, h1]
    rfl
noncomputable def s_l08At_23e7_V : Env := ⟨tau, [(47, s_l08Asked_3c39_c), (72, s_l00In_c), (48, s_l08Play_3c39_c)], []⟩
noncomputable def s_l08At_23e7_b : Code := (Try.f36.body).getD .skip
noncomputable def s_l08At_23e7_I : FnI := ⟨s_l08At_23e7_b, Try.f36.results.toList, Try.f36.resultTypes.toList, []⟩
noncomputable def s_l08At_23e7_out (_zp0 : Bool) (zp1 : Bool) (_p0 : (List TDeed)) (_p1 : Int) (p2 : TGather) : ((Int × (TPlant × Unit)) ⊕ (Int × (TPlant × Unit))) → CallOut
  | .inl r => ⟨(.tcons (.ptr (1, 0) []) (.tcons (.imm true (.int .i64) r.1) .tnil)), [⟨true, kGather, (.imm zp1), p2⟩], [⟨true, kL08Run, .own, ((none : Option RName), r.2)⟩]⟩
  | .inr r => ⟨(.tcons (.ptr (1, 0) []) (.tcons (.imm true (.int .i64) r.1) .tnil)), [⟨true, kGather, (.imm zp1), p2⟩], [⟨true, kL08Run, .own, ((some (0, 0) : Option RName), r.2)⟩]⟩
set_option maxRecDepth 100000 in
theorem s_l08At_23e7_eq : ∀ (zp0 : Bool) (zp1 : Bool) (p0 : (List TDeed)) (p1 : Int) (p2 : TGather), denFn s_l08At_23e7_V s_l08At_23e7_I ⟨[(.ptr (0, 0) []), (.imm zp0 (.sl kDeed) p0), (.imm true (.int .i64) p1)], [⟨true, kGather, (.imm zp1), p2⟩]⟩ = (s_l08At_23e7 p0 p1 p2).run fun r => some (s_l08At_23e7_out zp0 zp1 p0 p1 p2 r) := fun _ _ _ _ _ => by kernel_rfl
noncomputable def s_l08At_23e7_G (av : List AV) (rs : List Root) : Tre CallOut :=
  asCons av fun a0_ av0 =>
  asCons av0 fun a1_ av1 =>
  asCons av1 fun a2_ av2 =>
  asEnd av2 <|
  asCons rs fun r0_ rs0 =>
  asEnd rs0 <|
  asPtr (0, 0) [] a0_ <|
  asImm (.sl kDeed) a1_ fun z2 d1 =>
  asImmZ true (.int .i64) a2_ fun d3 =>
  asRt true kGather r0_ fun m4 d5 =>
  asMImm m4 fun z6 =>
  .mat (atR d1 d3 d5) fun r => .alt r (fun a0 => .ret (s_l08At_23e7_out z2 z6 d1 d3 d5 (.inl a0))) (fun b0 => .ret (s_l08At_23e7_out z2 z6 d1 d3 d5 (.inr b0)))
noncomputable def s_l08At_23e7_c : Ctr := ⟨[], fun ci => s_l08At_23e7_G ci.args ci.roots⟩
theorem s_l08At_23e7_env : EnvOK Try.prog s_l08At_23e7_V := (envOK_cons s_l08Asked_3c39_ok ent47 (envOK_cons s_l00In_ok ent72 (envOK_cons s_l08Play_3c39_ok ent48 envOK_nil)))
set_option maxRecDepth 100000 in
theorem s_l08At_23e7_ok : Contract Try.prog 36 s_l08At_23e7_c := by
  have hl : LoopsOK s_l08At_23e7_V [] s_l08At_23e7_b := loopsOK_nil (by kernel_rfl)
  refine (contract_of (F := s_l08At_23e7_I) tau_tys s_l08At_23e7_env Try.func36 (by kernel_rfl) (by kernel_rfl) (by kernel_rfl) hl []).weaken ?_
  rintro ⟨av, rs⟩ co h
  have h : (s_l08At_23e7_G av rs).run some = some co := h
  obtain ⟨a0_, av0, rfl, h_0⟩ := asCons_spec h
  obtain ⟨a1_, av1, rfl, h_1⟩ := asCons_spec h_0
  obtain ⟨a2_, av2, rfl, h_2⟩ := asCons_spec h_1
  obtain ⟨rfl, h_3⟩ := asEnd_spec h_2
  obtain ⟨r0_, rs0, rfl, h_4⟩ := asCons_spec h_3
  obtain ⟨rfl, h_5⟩ := asEnd_spec h_4
  obtain ⟨rfl, h_6⟩ := asPtr_spec h_5
  obtain ⟨z2, d1, rfl, h_7⟩ := asImm_spec h_6
  obtain ⟨d3, rfl, h_8⟩ := asImmZ_spec h_7
  obtain ⟨m4, d5, rfl, h_9⟩ := asRt_spec h_8
  obtain ⟨z6, rfl, h_10⟩ := asMImm_spec h_9
  exact fin_opts (s_l08At_23e7_eq z2 z6 d1 d3 d5) (s_l08At_23e7_spec d1 d3 d5) h_10 (by rintro (x | x) <;> rfl)
end Go.Proofs.Ytddaclhjnkimfaa

namespace Go.Proofs.Ytddaclhjnkimfaa
open Go Go.Abs Go.Proofs
def missW (g : Int × Int × List Int × Int × Int × Unit) (ds : List Int) (x : Int) : Int := ixor .i64 (ishr .i64 x g.1) (timesL (iand .i64 x (top1 g.1)) ds)
def okM (ps ds : List Int) (g : Int × Int × List Int × Int × Int × Unit) : Bool := inR g.1 1 4 && inR g.2.1 1 6 && decide (ps.length ≤ 1048576) && decide (ds.length ≤ 1048576) && ps.all (inP (g.1 + g.2.1)) && ds.all (inP g.2.1)
noncomputable def missN (ps ds : List Int) (g : Int × Int × List Int × Int × Int × Unit) : Int := (echI (ps.map (missW g ds))).length
noncomputable def missR (ps ds : List Int) (g : Int × Int × List Int × Int × Int × Unit) : Option Int := askO (okM ps ds g) (missN ps ds g)
theorem top1_def (m : Int) : iwrap .i64 (ishl .i64 1 m - 1) = top1 m := rfl
theorem foldE_map (f : Int → Int) : ∀ (l : List Int) (i : Nat) (acc : List Int), foldE (β := List Int) (fun _ acc x => .inl (acc ++ [f x])) id i acc l = acc ++ l.map f := by
  intro l
  induction l with
  | nil => intro i acc; simp [foldE]
  | cons x l ih => intro i acc; simp only [foldE]; rw [ih]; simp
theorem missW_ok {ps ds : List Int} {g : Int × Int × List Int × Int × Int × Unit} (h : okM ps ds g = true) : okRows g.2.1.toNat (ps.map (missW g ds)) = true ∧ okRows 62 (ps.map (missW g ds)) = true := by
  unfold okM at h
  simp only [Bool.and_eq_true, decide_eq_true_eq, inR_iff] at h
  obtain ⟨⟨⟨⟨⟨hk, hm⟩, hl1⟩, hl2⟩, hps⟩, hds⟩ := h
  obtain ⟨k, hk'⟩ : ∃ k : Nat, g.1 = (k : Int) := ⟨g.1.toNat, by omega⟩
  obtain ⟨m, hm'⟩ : ∃ m : Nat, g.2.1 = (m : Int) := ⟨g.2.1.toNat, by omega⟩
  have hdn : okRows m ds = true := by
    unfold okRows
    simp only [Bool.and_eq_true, decide_eq_true_eq, List.all_eq_true]
    refine ⟨hl2, fun x hx => ?_⟩
    obtain ⟨n, rfl, hn⟩ := inP_nat (m := m) (by omega) (by rw [← hm']; exact List.all_eq_true.1 hds x hx)
    omega
  obtain ⟨dn, rfl, _, hdb, _⟩ := okRows_up hdn
  have key : ∀ x ∈ ps, ∃ t : Nat, missW g (up dn) x = (t : Int) ∧ t < 2 ^ m := by
    intro x hx
    have h1 := List.all_eq_true.1 hps x hx
    rw [hk', hm', ← Int.natCast_add] at h1
    obtain ⟨n, rfl, hn⟩ := inP_nat (by omega) h1
    obtain ⟨t, ht, htb⟩ := timesL_nat (iand .i64 (n : Int) (top1 g.1)) (b := m) (by omega) dn 0 0 (Nat.two_pow_pos m) hdb
    have ht : timesL (iand .i64 (n : Int) (top1 g.1)) (up dn) = (t : Int) := ht
    have hs : n >>> k < 2 ^ m := by
      rw [Nat.shiftRight_eq_div_pow]
      refine Nat.div_lt_of_lt_mul ?_
      rw [← Nat.pow_add]
      exact hn
    have hm62 := pow_le (show m ≤ 62 by omega)
    refine ⟨(n >>> k) ^^^ t, ?_, Nat.xor_lt_two_pow hs htb⟩
    unfold missW
    rw [ht, hk', ishr_nat (by omega), ixor_nat (by omega) (by omega)]
  have h2 : ∀ b, m ≤ b → okRows b (ps.map (missW g (up dn))) = true := by
    intro b hb
    have := pow_le hb
    unfold okRows
    simp only [Bool.and_eq_true, decide_eq_true_eq, List.all_eq_true, List.length_map]
    refine ⟨hl1, fun x hx => ?_⟩
    obtain ⟨y, hy, rfl⟩ := List.mem_map.1 hx
    obtain ⟨t, ht, htb⟩ := key y hy
    rw [ht]
    omega
  rw [hm', Int.toNat_natCast]
  exact ⟨h2 m (Nat.le_refl m), h2 62 (by omega)⟩
end Go.Proofs.Ytddaclhjnkimfaa

namespace Go.Proofs.Ytddaclhjnkimfaa
open Go Go.Abs Go.Proofs
noncomputable def s_l08Missed_9ed6_l3 (h3_0_0 : TGather) (h3_0_1 : (List Int)) (h3_0_2 : (List Int)) : (Int × (List Int)) → Tre ((Int × (List Int)) ⊕ (List Int)) := fun s3 =>
  .cond (decide (s3.1 < (h3_0_1.length : Int)))
    (.ite (0 ≤ s3.1 ∧ s3.1 < (h3_0_1.length : Int)) <|
    .mat (h3_0_1[s3.1.toNat]?) fun x1 =>
    .ite (0 ≤ iwrap .u64 h3_0_0.1) <|
    let v2 := ishl .i64 1 (iwrap .u64 h3_0_0.1)
    let v3 := iand .i64 x1 (iwrap .i64 (v2 - 1))
    .ite (0 ≤ s3.1 ∧ s3.1 < (h3_0_1.length : Int)) <|
    .mat (h3_0_1[s3.1.toNat]?) fun x4 =>
    .ite (0 ≤ iwrap .u64 h3_0_0.1) <|
    let v5 := ishr .i64 x4 (iwrap .u64 h3_0_0.1)
    .mat (timesR v3 h3_0_2) fun r6 =>
    .ite ((s3.2.length + 1) * 8 ≤ appendMax ∧ 1 ≤ 8) <|
    let v7 := s3.2 ++ ([ixor .i64 v5 r6])
    .ret (.inl (iwrap .i64 (s3.1 + 1), v7)))
    (.ret (.inr s3.2))
noncomputable def s_l08Missed_9ed6 (p0 : TGather) (p1 : (List Int)) (p2 : (List Int)) : Tre Int :=
  .mat (loopF (s_l08Missed_9ed6_l3 p0 p1 p2) (0, [])) fun l8 =>
  .mat (rankR p0.2.1 l8) fun r9 =>
  .ret r9
noncomputable def s_l08Missed_9ed6_F (p0 : TGather) (p1 : (List Int)) (p2 : (List Int)) : Option Int := (s_l08Missed_9ed6 p0 p1 p2).run some
noncomputable def missO (g : Int × Int × List Int × Int × Int × Unit) (ps ds : List Int) : Option Int := missR ps ds g
theorem s_l08Missed_9ed6_spec (p0 : Int × Int × List Int × Int × Int × Unit) (p1 p2 : List Int) (y : Int) (h : missO p0 p1 p2 = some y) : s_l08Missed_9ed6_F p0 p1 p2 = some y := by
  obtain ⟨hok, rfl⟩ := askO_some h
  have hr := (missW_ok hok).1
  unfold okM at hok
  simp only [Bool.and_eq_true, decide_eq_true_eq, inR_iff] at hok
  obtain ⟨⟨⟨⟨⟨hk, hm⟩, hl1⟩, hl2⟩, hps⟩, hds⟩ := hok
  unfold s_l08Missed_9ed6_F s_l08Missed_9ed6
  have hu : iwrap .u64 p0.1 = p0.1 := iwrap_u64 (by omega) (by omega)
  have := fold_loop (xs := p1) (step := s_l08Missed_9ed6_l3 p0 p1 p2) (fun i acc => ((i : Int), acc)) (fun _ acc x => .inl (acc ++ [missW p0 p2 x])) id (fun i acc => acc.length = i) (by
    intro i acc x hx hI
    have hi : i < p1.length := (List.getElem?_eq_some_iff.1 hx).1
    refine ⟨?_, fun a ha => by cases ha; simp [hI]⟩
    unfold s_l08Missed_9ed6_l3
    rw [run_inb hx, hu, Tre.run_ite, if_pos (by omega)]
    dsimp only
    rw [run_at hx, Tre.run_ite, if_pos (by omega)]
    rw [top1_def, run_some_mat (show timesR (iand .i64 x (top1 p0.1)) p2 = some _ from lim_of hl2), Tre.run_ite, if_pos (by unfold appendMax; omega), Tre.run_ret, iwrap_succ (by omega)]
    rfl)
    (by
    intro acc _
    unfold s_l08Missed_9ed6_l3
    exact run_out) p1 0 [] rfl (Nat.zero_le _) rfl
  rw [foldE_map] at this
  have h1 : loopF (s_l08Missed_9ed6_l3 p0 p1 p2) (0, []) = some (p1.map (missW p0 p2)) := this
  rw [run_some_mat h1, run_some_mat (show rankR p0.2.1 (p1.map (missW p0 p2)) = some _ from askO_true (by rw [Bool.and_eq_true, inR_iff]; exact ⟨by omega, hr⟩))]
  rfl
noncomputable def s_l08Missed_9ed6_V : Env := ⟨tau, [(73, s_l02Times_c), (74, s_l02Rank_c)], []⟩
noncomputable def s_l08Missed_9ed6_b : Code := (Try.f37.body).getD .skip
noncomputable def s_l08Missed_9ed6_l3_mk (z3_0 : Bool) (z3_1 : Bool) (z3_2 : Bool) (h3_0_0 : TGather) (h3_0_1 : (List Int)) (h3_0_2 : (List Int)) : (Int × (List Int)) → St := fun x => stOf [(0, (.iptr z3_0 (.sl kGather) ([h3_0_0]) [.idx 0])), (1, (.imm z3_1 (.sl (.int .i64)) h3_0_1)), (2, (.imm z3_2 (.sl (.int .i64)) h3_0_2)), (7, (.ref (9, 0) [])), (8, (.imm true (.int .i64) x.1))] [((9, 0), some ⟨false, (.sl (.int .i64)), .own, x.2⟩)]
noncomputable def s_l08Missed_9ed6_l3_out (z3_0 : Bool) (_z3_1 : Bool) (_z3_2 : Bool) (h3_0_0 : TGather) (_h3_0_1 : (List Int)) (_h3_0_2 : (List Int)) : (List Int) → Ex × St := fun x => (.exit 0, stOf [(0, (.iptr z3_0 (.sl kGather) ([h3_0_0]) [.idx 0])), (7, (.ref (9, 0) []))] [((9, 0), some ⟨false, (.sl (.int .i64)), .own, x⟩)])
noncomputable def s_l08Missed_9ed6_l3_D (s : St) : Tre (Ex × St) :=
  asIptr kGather (s.tmps 0) fun z2 d3 =>
  asImm (.sl (.int .i64)) (s.tmps 1) fun z6 d5 =>
  asImm (.sl (.int .i64)) (s.tmps 2) fun z9 d8 =>
  asRef (9, 0) [] (s.tmps 7) <|
  asImmZ true (.int .i64) (s.tmps 8) fun d12 =>
  asRoot false (.sl (.int .i64)) (s.roots (9, 0)) fun m14 d15 =>
  asM .own m14 <|
  .mat (loopF (s_l08Missed_9ed6_l3 d3 d5 d8) (d12, d15)) fun x => .ret (s_l08Missed_9ed6_l3_out z2 z6 z9 d3 d5 d8 x)
noncomputable def s_l08Missed_9ed6_l3_L : LoopI := ⟨([0, 1, 2, 7, 8], [(9, 0)]), ([0, 7], [(9, 0)]), s_l08Missed_9ed6_l3_D⟩
noncomputable def s_l08Missed_9ed6_A : List (Nat × LoopI) := [(3, s_l08Missed_9ed6_l3_L)]
set_option maxRecDepth 100000 in
theorem s_l08Missed_9ed6_l3_step : ∀ (z3_0 : Bool) (z3_1 : Bool) (z3_2 : Bool) (h3_0_0 : TGather) (h3_0_1 : (List Int)) (h3_0_2 : (List Int)) (x : (Int × (List Int))) (c : St → Option (Ex × St)), den s_l08Missed_9ed6_V s_l08Missed_9ed6_A (loopAt s_l08Missed_9ed6_b 0) (s_l08Missed_9ed6_l3_mk z3_0 z3_1 z3_2 h3_0_0 h3_0_1 h3_0_2 x) (roundK s_l08Missed_9ed6_l3_L.kp s_l08Missed_9ed6_l3_L.kx c) = (s_l08Missed_9ed6_l3 h3_0_0 h3_0_1 h3_0_2 x).run (roundR (s_l08Missed_9ed6_l3_mk z3_0 z3_1 z3_2 h3_0_0 h3_0_1 h3_0_2) (s_l08Missed_9ed6_l3_out z3_0 z3_1 z3_2 h3_0_0 h3_0_1 h3_0_2) c) := fun _ _ _ _ _ _ _ _ => by
  kernel_rfl
theorem s_l08Missed_9ed6_l3_ok : LoopOK s_l08Missed_9ed6_V s_l08Missed_9ed6_A (loopAt s_l08Missed_9ed6_b 0) s_l08Missed_9ed6_l3_L := loopOK_of fun s e s' h => by
  generalize hs : restrict s_l08Missed_9ed6_l3_L.kp s = s1 at h
  have h : (s_l08Missed_9ed6_l3_D s1).run some = some (e, s') := h
  obtain ⟨z2, d3, e1, h_0⟩ := asIptr_spec h
  obtain ⟨z6, d5, e4, h_1⟩ := asImm_spec h_0
  obtain ⟨z9, d8, e7, h_2⟩ := asImm_spec h_1
  obtain ⟨e10, h_3⟩ := asRef_spec h_2
  obtain ⟨d12, e11, h_4⟩ := asImmZ_spec h_3
  obtain ⟨m14, d15, e13, h_5⟩ := asRoot_spec h_4
  obtain ⟨rfl, h_6⟩ := asM_spec h_5
  obtain ⟨y, hy, hz⟩ := mat_ret h_6
  refine ⟨_, _, s_l08Missed_9ed6_l3_mk z2 z6 z9 d3 d5 d8, s_l08Missed_9ed6_l3_out z2 z6 z9 d3 d5 d8, s_l08Missed_9ed6_l3 d3 d5 d8, (d12, d15), y, ?_, hy, ?_, s_l08Missed_9ed6_l3_step z2 z6 z9 d3 d5 d8⟩
  · subst hs; exact restrict_eq (T := [(0, (.iptr z2 (.sl kGather) ([d3]) [.idx 0])), (1, (.imm z6 (.sl (.int .i64)) d5)), (2, (.imm z9 (.sl (.int .i64)) d8)), (7, (.ref (9, 0) [])), (8, (.imm true (.int .i64) d12))]) (U := [((9, 0), some ⟨false, (.sl (.int .i64)), .own, d15⟩)]) rfl rfl ⟨e1, e4, e7, e10, e11, trivial⟩ ⟨e13, trivial⟩
  · exact Option.some.inj hz
noncomputable def s_l08Missed_9ed6_I : FnI := ⟨s_l08Missed_9ed6_b, Try.f37.results.toList, Try.f37.resultTypes.toList, s_l08Missed_9ed6_A⟩
noncomputable def s_l08Missed_9ed6_out (_zp0 : Bool) (_zp1 : Bool) (_zp2 : Bool) (_p0 : TGather) (_p1 : (List Int)) (_p2 : (List Int)) : Int → CallOut := fun r => ⟨(.imm true (.int .i64) r), [], []⟩
set_option maxRecDepth 100000 in
theorem s_l08Missed_9ed6_eq : ∀ (zp0 : Bool) (zp1 : Bool) (zp2 : Bool) (p0 : TGather) (p1 : (List Int)) (p2 : (List Int)), denFn s_l08Missed_9ed6_V s_l08Missed_9ed6_I ⟨[(.iptr zp0 (.sl kGather) ([p0]) [.idx 0]), (.imm zp1 (.sl (.int .i64)) p1), (.imm zp2 (.sl (.int .i64)) p2)], []⟩ = (s_l08Missed_9ed6 p0 p1 p2).run fun r => some (s_l08Missed_9ed6_out zp0 zp1 zp2 p0 p1 p2 r) := fun _ _ _ _ _ _ => by kernel_rfl
noncomputable def s_l08Missed_9ed6_G (av : List AV) (rs : List Root) : Tre CallOut :=
  asCons av fun a0_ av0 =>
  asCons av0 fun a1_ av1 =>
  asCons av1 fun a2_ av2 =>
  asEnd av2 <|
  asEnd rs <|
  asIptr kGather a0_ fun z1 d2 =>
  asImm (.sl (.int .i64)) a1_ fun z4 d3 =>
  asImm (.sl (.int .i64)) a2_ fun z6 d5 =>
  .mat (missO d2 d3 d5) fun r => .ret (s_l08Missed_9ed6_out z1 z4 z6 d2 d3 d5 r)
noncomputable def s_l08Missed_9ed6_c : Ctr := ⟨[0], fun ci => s_l08Missed_9ed6_G ci.args ci.roots⟩
theorem s_l08Missed_9ed6_env : EnvOK Try.prog s_l08Missed_9ed6_V := (envOK_cons s_l02Times_ok ent73 (envOK_cons s_l02Rank_ok ent74 envOK_nil))
set_option maxRecDepth 100000 in
theorem s_l08Missed_9ed6_ok : Contract Try.prog 37 s_l08Missed_9ed6_c := by
  have hl : LoopsOK s_l08Missed_9ed6_V s_l08Missed_9ed6_A s_l08Missed_9ed6_b := (loopsOK_all (n := 1) (by kernel_rfl) fun k hk => by
      match k, hk with
      | 0, _ => exact loopOK_at (id := 3) (L := s_l08Missed_9ed6_l3_L) (by kernel_rfl) (by kernel_rfl) s_l08Missed_9ed6_l3_ok)
  refine (contract_of (F := s_l08Missed_9ed6_I) tau_tys s_l08Missed_9ed6_env Try.func37 (by kernel_rfl) (by kernel_rfl) (by kernel_rfl) hl [0]).weaken ?_
  rintro ⟨av, rs⟩ co h
  have h : (s_l08Missed_9ed6_G av rs).run some = some co := h
  obtain ⟨a0_, av0, rfl, h_0⟩ := asCons_spec h
  obtain ⟨a1_, av1, rfl, h_1⟩ := asCons_spec h_0
  obtain ⟨a2_, av2, rfl, h_2⟩ := asCons_spec h_1
  obtain ⟨rfl, h_3⟩ := asEnd_spec h_2
  obtain ⟨rfl, h_4⟩ := asEnd_spec h_3
  obtain ⟨z1, d2, rfl, h_5⟩ := asIptr_spec h_4
  obtain ⟨z4, d3, rfl, h_6⟩ := asImm_spec h_5
  obtain ⟨z6, d5, rfl, h_7⟩ := asImm_spec h_6
  exact fin_opt (s_l08Missed_9ed6_eq z1 z4 z6 d2 d3 d5) (s_l08Missed_9ed6_spec d2 d3 d5) h_7
end Go.Proofs.Ytddaclhjnkimfaa

namespace Go.Proofs.Ytddaclhjnkimfaa
open Go Go.Abs Go.Proofs
-- shared
theorem ech_is {b : Nat} {xs : List Int} (hb : b ≤ 62) (h : okRows b xs = true) : IsEch (xs.map Int.toNat) (ech (xs.map Int.toNat)) := by
  obtain ⟨ns, rfl, hlen, hn, he⟩ := okRows_up h
  obtain ⟨E, _, h2⟩ := s_l02Echelon_loop b hb ns b 0 [] ns (by omega) (Inv.start ns) (Nat.zero_le _) hlen hn (fun a ha => by cases ha)
  rw [he, ech_of h2]; exact h2
theorem echI_len (xs : List Int) : (echI xs).length = (ech (xs.map Int.toNat)).length := by unfold echI; rw [up_len]
theorem sorted_len : ∀ (l : List (Nat × Nat)) (lo b : Nat), (l.Pairwise fun a b => a.1 < b.1) → (∀ a ∈ l, lo ≤ a.1 ∧ a.1 < b) → l.length ≤ b - lo := by
  intro l
  induction l with
  | nil => intro lo b _ _; exact Nat.zero_le _
  | cons a l ih =>
    intro lo b h hb
    obtain ⟨h1, h2⟩ := List.pairwise_cons.1 h
    have := ih (a.1 + 1) b h2 fun x hx => ⟨h1 x hx, (hb x (.tail _ hx)).2⟩
    have h0 := hb a (.head _)
    simp only [List.length_cons]
    omega
theorem sp_lt {l : List Nat} {b v : Nat} (h : ∀ x ∈ l, x < 2 ^ b) (hv : Sp l v) : v < 2 ^ b := by
  induction hv with
  | zero => exact Nat.two_pow_pos b
  | add hr _ ih => exact Nat.xor_lt_two_pow (h _ hr) ih
theorem ech_cols {b : Nat} {rows E : List Nat} (h : IsEch rows E) (hb : ∀ x ∈ rows, x < 2 ^ b) : E.length ≤ b := by
  obtain ⟨P, c, hr, rfl, hs⟩ := h
  rw [List.length_map]
  refine sorted_len P 0 b (hr.2.imp fun h => h.1) fun a ha => ⟨Nat.zero_le _, ?_⟩
  have h1 : a.2 < 2 ^ b := sp_lt hb ((hs a.2).2 (Sp.mem (List.mem_map.2 ⟨a, ha, rfl⟩)))
  have h2 : 2 ^ a.1 ≤ a.2 := Nat.ge_two_pow_of_testBit (hr.1 a ha).2.1
  exact (Nat.pow_lt_pow_iff_right (by decide)).1 (Nat.lt_of_le_of_lt h2 h1)
end Go.Proofs.Ytddaclhjnkimfaa

namespace Go.Proofs.Ytddaclhjnkimfaa
open Go Go.Abs Go.Proofs
-- shared
def nextL (M : Int) : List Int → Option (List Int)
  | [] => none
  | c :: t => match nextL M t with
    | some t' => some (c :: t')
    | none => cond (decide (c = M - 1)) none (some ((c + 1) :: List.replicate t.length 0))
theorem nextL_top (M : Int) : ∀ n : Nat, nextL M (List.replicate n (M - 1)) = none := by
  intro n
  induction n with
  | zero => rfl
  | succ n ih => simp only [List.replicate_succ, nextL, ih, decide_true, cond_true]
theorem nextL_mid (M : Int) (c : Int) (hc : c ≠ M - 1) (k : Nat) : ∀ zs : List Int, nextL M (zs ++ c :: List.replicate k (M - 1)) = some (zs ++ (c + 1) :: List.replicate k 0) := by
  intro zs
  induction zs with
  | nil => simp only [List.nil_append, nextL, nextL_top, decide_eq_false hc, cond_false, List.length_replicate]
  | cons z zs ih => simp only [List.cons_append, nextL, ih]
theorem nextL_parts (M : Int) : ∀ xs : List Int, xs = List.replicate xs.length (M - 1) ∨ ∃ zs c k, c ≠ M - 1 ∧ xs = zs ++ c :: List.replicate k (M - 1) := by
  intro xs
  induction xs with
  | nil => exact .inl rfl
  | cons x xs ih =>
    rcases ih with h | ⟨zs, c, k, hc, h⟩
    · by_cases hx : x = M - 1
      · refine .inl ?_
        rw [List.length_cons, List.replicate_succ, ← h, hx]
      · exact .inr ⟨[], x, xs.length, hx, by rw [List.nil_append, ← h]⟩
    · exact .inr ⟨x :: zs, c, k, hc, by rw [h]; rfl⟩
section
variable {step : Int × List Int → Tre ((Int × List Int) ⊕ (Int × List Int))} {M : Int} {N : Nat}
theorem carry_top (h1 : ∀ l, (step (-1, l)).run some = some (.inr (-1, l))) (h2 : ∀ (i : Nat) (l : List Int) (x : Int), l[i]? = some x → l.length ≤ N → (step ((i : Int), l)).run some = some (cond (decide (x = M - 1)) (.inl ((i : Int) - 1, l.set i 0)) (.inr ((i : Int), l)))) :
    ∀ k j : Nat, k + j ≤ N → loopF step ((k : Int) - 1, List.replicate k (M - 1) ++ List.replicate j 0) = some (-1, List.replicate (k + j) 0) := by
  intro k
  induction k with
  | zero => intro j _; rw [show ((0 : Nat) : Int) - 1 = -1 from rfl, loopF_done (h1 _)]; simp
  | succ k ih =>
    intro j hN
    have hx : (List.replicate (k + 1) (M - 1) ++ List.replicate j 0)[k]? = some (M - 1) := by
      rw [List.getElem?_append_left (by simp), List.getElem?_replicate]; simp
    have hs : (List.replicate (k + 1) (M - 1) ++ List.replicate j 0).set k 0 = List.replicate k (M - 1) ++ List.replicate (j + 1) 0 := by
      rw [List.replicate_succ', List.append_assoc, List.set_append_right _ _ (by simp)]
      simp [List.replicate_succ]
    have h := h2 k _ _ hx (by simp; omega)
    rw [decide_eq_true rfl, cond_true, hs] at h
    rw [show ((k + 1 : Nat) : Int) - 1 = (k : Int) by omega, loopF_step h, ih (j + 1) (by omega), show k + (j + 1) = k + 1 + j by omega]
theorem carry_mid (h2 : ∀ (i : Nat) (l : List Int) (x : Int), l[i]? = some x → l.length ≤ N → (step ((i : Int), l)).run some = some (cond (decide (x = M - 1)) (.inl ((i : Int) - 1, l.set i 0)) (.inr ((i : Int), l)))) {zs : List Int} {c : Int} (hc : c ≠ M - 1) :
    ∀ k j : Nat, zs.length + k + j + 1 ≤ N → loopF step (((zs.length + k : Nat) : Int), zs ++ c :: (List.replicate k (M - 1) ++ List.replicate j 0)) = some ((zs.length : Int), zs ++ c :: List.replicate (k + j) 0) := by
  intro k
  induction k with
  | zero =>
    intro j hN
    have h := h2 zs.length (zs ++ c :: (List.replicate 0 (M - 1) ++ List.replicate j 0)) c (by simp) (by simp; omega)
    rw [decide_eq_false hc, cond_false] at h
    rw [Nat.add_zero, loopF_done h]
    simp
  | succ k ih =>
    intro j hN
    have hx : (zs ++ c :: (List.replicate (k + 1) (M - 1) ++ List.replicate j 0))[zs.length + (k + 1)]? = some (M - 1) := by
      rw [List.getElem?_append_right (by omega), show zs.length + (k + 1) - zs.length = k + 1 by omega, List.getElem?_cons_succ, List.getElem?_append_left (by simp), List.getElem?_replicate]
      simp
    have hs : (zs ++ c :: (List.replicate (k + 1) (M - 1) ++ List.replicate j 0)).set (zs.length + (k + 1)) 0 = zs ++ c :: (List.replicate k (M - 1) ++ List.replicate (j + 1) 0) := by
      rw [List.set_append_right _ _ (by omega), show zs.length + (k + 1) - zs.length = k + 1 by omega, List.set_cons_succ, List.replicate_succ', List.append_assoc, List.set_append_right _ _ (by simp)]
      simp [List.replicate_succ]
    have h := h2 _ _ _ hx (by simp; omega)
    rw [decide_eq_true rfl, cond_true, hs, show ((zs.length + (k + 1) : Nat) : Int) - 1 = ((zs.length + k : Nat) : Int) by omega] at h
    rw [loopF_step h, ih (j + 1) (by omega), show k + (j + 1) = k + 1 + j by omega]
end
inductive RunTo {α : Type} (nx : α → Option α) : α → List α → Option α → Prop
  | last {x : α} {e : Option α} : nx x = e → RunTo nx x [x] e
  | next {x y : α} {L : List α} {e : Option α} : nx x = some y → RunTo nx y L e → RunTo nx x (x :: L) e
theorem RunTo.app {α : Type} {nx : α → Option α} {x y : α} {L L' : List α} {e : Option α} (h : RunTo nx x L (some y)) (k : RunTo nx y L' e) : RunTo nx x (L ++ L') e := by
  generalize he : some y = e' at h
  induction h with
  | last h1 => subst he; exact .next h1 k
  | next h1 _ ih => exact .next h1 (ih he)
def lexL (M : Nat) : Nat → List (List Int)
  | 0 => [[]]
  | n + 1 => (List.range M).flatMap fun c : Nat => (lexL M n).map fun t => (c : Int) :: t
theorem lex_mem (M : Nat) : ∀ (n : Nat) (t : List Int), t ∈ lexL M n ↔ t.length = n ∧ ∀ x ∈ t, ∃ k : Nat, x = (k : Int) ∧ k < M := by
  intro n
  induction n with
  | zero =>
    intro t
    simp only [lexL, List.mem_singleton]
    constructor
    · rintro rfl; exact ⟨rfl, fun x hx => by cases hx⟩
    · exact fun h => List.eq_nil_of_length_eq_zero h.1
  | succ n ih =>
    intro t
    simp only [lexL, List.mem_flatMap, List.mem_map, List.mem_range]
    constructor
    · rintro ⟨c, hc, u, hu, rfl⟩
      obtain ⟨h1, h2⟩ := (ih u).1 hu
      refine ⟨by simp [h1], fun x hx => ?_⟩
      rcases List.mem_cons.1 hx with rfl | hx
      · exact ⟨c, rfl, hc⟩
      · exact h2 x hx
    · rintro ⟨h1, h2⟩
      cases t with
      | nil => simp at h1
      | cons x u =>
        obtain ⟨k, rfl, hk⟩ := h2 x (List.mem_cons_self)
        exact ⟨k, hk, u, (ih u).2 ⟨by simpa using h1, fun y hy => h2 y (List.mem_cons_of_mem _ hy)⟩, rfl⟩
theorem lex_nodup (M : Nat) : ∀ n : Nat, (lexL M n).Nodup := by
  intro n
  induction n with
  | zero => simp [lexL]
  | succ n ih =>
    unfold lexL List.Nodup
    rw [List.pairwise_flatMap]
    refine ⟨fun c _ => ?_, ?_⟩
    · rw [List.pairwise_map]
      exact List.Pairwise.imp (fun h h2 => h (List.cons.inj h2).2) ih
    · refine List.Pairwise.imp ?_ (List.nodup_range (n := M))
      intro a b hab x hx y hy hxy
      obtain ⟨u, _, rfl⟩ := List.mem_map.1 hx
      obtain ⟨v, _, rfl⟩ := List.mem_map.1 hy
      have := (List.cons.inj hxy).1
      omega
theorem lex_len (M : Nat) : ∀ n : Nat, (lexL M n).length = M ^ n := by
  intro n
  induction n with
  | zero => rfl
  | succ n ih =>
    have key : ∀ l : List Nat, (l.flatMap fun c : Nat => (lexL M n).map fun t => (c : Int) :: t).length = l.length * M ^ n := by
      intro l
      induction l with
      | nil => simp
      | cons c l ihl => rw [List.flatMap_cons, List.length_append, List.length_map, ih, ihl, List.length_cons, Nat.add_mul, Nat.one_mul, Nat.add_comm]
    rw [lexL, key, List.length_range, Nat.pow_succ, Nat.mul_comm]
theorem run_cons {M c n : Nat} {x : List Int} {L : List (List Int)} (h : RunTo (nextL M) x L none) (hl : ∀ t ∈ L, t.length = n) :
    RunTo (nextL M) ((c : Int) :: x) (L.map fun t => (c : Int) :: t) (cond (decide ((c : Int) = (M : Int) - 1)) none (some (((c + 1 : Nat) : Int) :: List.replicate n 0))) := by
  generalize he : none = e at h
  induction h with
  | last h1 =>
    subst he
    refine .last ?_
    simp only [nextL, h1]
    rw [hl _ (List.mem_singleton_self _)]
    rfl
  | next h1 _ ih =>
    refine .next ?_ (ih (fun t ht => hl t (List.mem_cons_of_mem _ ht)) he)
    simp only [nextL, h1]
theorem run_lex {M : Nat} (hM : 1 ≤ M) : ∀ n : Nat, RunTo (nextL M) (List.replicate n 0) (lexL M n) none := by
  intro n
  induction n with
  | zero => exact .last rfl
  | succ n ih =>
    have hl : ∀ t ∈ lexL M n, t.length = n := fun t ht => ((lex_mem M n t).1 ht).1
    have key : ∀ k c : Nat, c + (k + 1) = M → RunTo (nextL M) ((c : Int) :: List.replicate n 0) ((List.range' c (k + 1)).flatMap fun c : Nat => (lexL M n).map fun t => (c : Int) :: t) none := by
      intro k
      induction k with
      | zero =>
        intro c hc
        have h := run_cons (c := c) ih hl
        rw [decide_eq_true (by omega), cond_true] at h
        simpa using h
      | succ k ihk =>
        intro c hc
        have h := run_cons (c := c) ih hl
        rw [decide_eq_false (by omega), cond_false] at h
        rw [List.range'_succ, List.flatMap_cons]
        exact h.app (ihk (c + 1) (by omega))
    obtain ⟨m, rfl⟩ : ∃ m, M = m + 1 := ⟨M - 1, by omega⟩
    rw [lexL, List.range_eq_range', List.replicate_succ]
    exact key m 0 (by omega)
theorem odo_loop {α β γ σ : Type} {nx : α → Option α} {step : σ → Tre (σ ⊕ β)} (mk : γ → α → σ) (fin : γ → β) (F : γ → α → γ) (I : List α → γ → Prop) {all : List α}
    (hs : ∀ (pre : List α) (x : α) (g : γ), x ∈ all → x ∉ pre → pre.length < all.length → I pre g → (step (mk g x)).run some = some (match nx x with
      | some t => .inl (mk (F g x) t)
      | none => .inr (fin (F g x))) ∧ I (pre ++ [x]) (F g x)) :
    ∀ {x : α} {L : List α}, RunTo nx x L none → ∀ (pre : List α) (g : γ), pre ++ L = all → all.Nodup → I pre g → ∃ g', loopF step (mk g x) = some (fin g') ∧ I all g' := by
  intro x L h
  generalize he : none = e at h
  induction h with
  | last h1 =>
    rename_i x e
    intro pre g ha hn hI
    subst he
    have hx : x ∉ pre := fun hx => by
      rw [← ha, List.nodup_append] at hn
      exact hn.2.2 x hx x (List.mem_singleton_self _) rfl
    obtain ⟨h2, h3⟩ := hs pre x g (by rw [← ha]; simp) hx (by rw [← ha]; simp) hI
    rw [h1] at h2
    rw [ha] at h3
    exact ⟨_, loopF_done h2, h3⟩
  | next h1 _ ih =>
    rename_i x y L e _
    intro pre g ha hn hI
    have hx : x ∉ pre := fun hx => by
      rw [← ha, List.nodup_append] at hn
      exact hn.2.2 x hx x (List.mem_cons_self) rfl
    obtain ⟨h2, h3⟩ := hs pre x g (by rw [← ha]; simp) hx (by rw [← ha]; simp) hI
    rw [h1] at h2
    obtain ⟨g', h4, h5⟩ := ih he (pre ++ [x]) (F g x) (by rw [List.append_assoc]; exact ha) hn h3
    exact ⟨g', by rw [loopF_step h2]; exact h4, h5⟩
structure Best {α : Type} (m : α → Int) (L : List α) (least : Int) (best : α) (many : Bool) : Prop where
  mem : best ∈ L
  at_ : m best = least
  low : ∀ y ∈ L, least ≤ m y
  many : many = true ↔ ∃ y ∈ L, y ≠ best ∧ m y = least
theorem Best.first {α : Type} (m : α → Int) (x : α) : Best m [x] (m x) x false :=
  ⟨List.mem_singleton_self _, rfl, fun y hy => by rw [List.mem_singleton.1 hy]; exact Int.le_refl _, by
    constructor
    · intro h; cases h
    · rintro ⟨y, hy, h, _⟩; exact absurd (List.mem_singleton.1 hy) h⟩
theorem Best.less {α : Type} {m : α → Int} {L : List α} {a : Int} {b : α} {c : Bool} {x : α} (h : Best m L a b c) (hx : m x < a) : Best m (L ++ [x]) (m x) x false := by
  refine ⟨by simp, rfl, fun y hy => ?_, ?_⟩
  · rcases List.mem_append.1 hy with hy | hy
    · have := h.low y hy; omega
    · rw [List.mem_singleton.1 hy]; exact Int.le_refl _
  · constructor
    · intro h; cases h
    · rintro ⟨y, hy, h1, h2⟩
      rcases List.mem_append.1 hy with hy | hy
      · have := h.low y hy; omega
      · exact absurd (List.mem_singleton.1 hy) h1
theorem Best.same {α : Type} {m : α → Int} {L : List α} {a : Int} {b : α} {c : Bool} {x : α} (h : Best m L a b c) (hx : m x = a) (hn : x ∉ L) : Best m (L ++ [x]) a b true := by
  refine ⟨by simp [h.mem], h.at_, fun y hy => ?_, ?_⟩
  · rcases List.mem_append.1 hy with hy | hy
    · exact h.low y hy
    · rw [List.mem_singleton.1 hy, hx]; exact Int.le_refl _
  · refine ⟨fun _ => ⟨x, by simp, fun e => hn (by rw [e]; exact h.mem), hx⟩, fun _ => rfl⟩
theorem Best.more {α : Type} {m : α → Int} {L : List α} {a : Int} {b : α} {c : Bool} {x : α} (h : Best m L a b c) (hx : a < m x) : Best m (L ++ [x]) a b c := by
  refine ⟨by simp [h.mem], h.at_, fun y hy => ?_, ?_⟩
  · rcases List.mem_append.1 hy with hy | hy
    · exact h.low y hy
    · rw [List.mem_singleton.1 hy]; omega
  · rw [h.many]
    constructor
    · rintro ⟨y, hy, h1, h2⟩; exact ⟨y, by simp [hy], h1, h2⟩
    · rintro ⟨y, hy, h1, h2⟩
      rcases List.mem_append.1 hy with hy | hy
      · exact ⟨y, hy, h1, h2⟩
      · rw [List.mem_singleton.1 hy] at h2; omega
theorem Best.eq {α : Type} {m : α → Int} {L L' : List α} {a a' : Int} {b b' : α} {c c' : Bool} (h : Best m L a b c) (h' : Best m L' a' b' c') (hL : ∀ y, y ∈ L ↔ y ∈ L') : a = a' ∧ c = c' ∧ (c = false → b = b') := by
  have h1 := h.low b' ((hL _).2 h'.mem)
  have h2 := h'.low b ((hL _).1 h.mem)
  have e1 := h.at_
  have e2 := h'.at_
  have ha : a = a' := by omega
  subst ha
  have key : ∀ {L L' : List α} {b b' : α} {c c' : Bool}, Best m L a b c → Best m L' a b' c' → (∀ y, y ∈ L ↔ y ∈ L') → c = true → c' = true := by
    intro L L' b b' c c' h h' hL hc
    obtain ⟨y, hy, h3, h4⟩ := h.many.1 hc
    by_cases hb : y = b'
    · exact h'.many.2 ⟨b, (hL _).1 h.mem, fun e => h3 (by rw [hb, ← e]), h.at_⟩
    · exact h'.many.2 ⟨y, (hL _).1 hy, hb, h4⟩
  have hc : c = c' := by
    cases hc : c
    · cases hc' : c'
      · rfl
      · subst hc; subst hc'
        exact absurd (key h' h (fun y => (hL y).symm) rfl) (by simp)
    · subst hc; exact (key h h' hL rfl).symm
  refine ⟨rfl, hc, fun hf => ?_⟩
  by_cases hb : b' = b
  · exact hb.symm
  · have := h.many.2 ⟨b', (hL _).2 h'.mem, hb, h'.at_⟩
    rw [hf] at this
    cases this
def digL (M P n : Nat) : List Int := (List.range P).map fun j => ((n / M ^ j % M : Nat) : Int)
theorem dig_succ (M P n : Nat) : digL M (P + 1) n = ((n % M : Nat) : Int) :: digL M P (n / M) := by
  unfold digL
  rw [List.range_succ_eq_map, List.map_cons, List.map_map]
  congr 1
  · simp
  · refine List.map_congr_left fun j _ => ?_
    simp only [Function.comp, Nat.pow_succ]
    rw [Nat.mul_comm (M ^ j) M, Nat.div_div_eq_div_mul]
theorem dig_mem {M : Nat} (hM : 1 ≤ M) : ∀ (P : Nat) (t : List Int), (∃ n, n < M ^ P ∧ digL M P n = t) ↔ t.length = P ∧ ∀ x ∈ t, ∃ k : Nat, x = (k : Int) ∧ k < M := by
  intro P
  induction P with
  | zero =>
    intro t
    constructor
    · rintro ⟨n, _, rfl⟩; exact ⟨rfl, fun x hx => by cases hx⟩
    · intro h; exact ⟨0, by simp, by rw [List.eq_nil_of_length_eq_zero h.1]; rfl⟩
  | succ P ih =>
    intro t
    constructor
    · rintro ⟨n, hn, rfl⟩
      rw [dig_succ]
      have hd : n / M < M ^ P := Nat.div_lt_of_lt_mul (by rw [Nat.pow_succ, Nat.mul_comm] at hn; exact hn)
      obtain ⟨h1, h2⟩ := (ih _).1 ⟨n / M, hd, rfl⟩
      refine ⟨by simp [h1], fun x hx => ?_⟩
      rcases List.mem_cons.1 hx with rfl | hx
      · exact ⟨_, rfl, Nat.mod_lt _ hM⟩
      · exact h2 x hx
    · rintro ⟨h1, h2⟩
      cases t with
      | nil => simp at h1
      | cons x t =>
        obtain ⟨k, rfl, hk⟩ := h2 x (List.mem_cons_self)
        obtain ⟨n, hn, hd⟩ := (ih t).2 ⟨by simpa using h1, fun y hy => h2 y (List.mem_cons_of_mem _ hy)⟩
        refine ⟨k + M * n, ?_, ?_⟩
        · rw [Nat.pow_succ, Nat.mul_comm (M ^ P) M]
          calc k + M * n < M + M * n := by omega
            _ = M * (n + 1) := by rw [Nat.mul_add, Nat.mul_one, Nat.add_comm]
            _ ≤ M * M ^ P := Nat.mul_le_mul_left _ hn
        · rw [dig_succ, Nat.add_mul_mod_self_left, Nat.mod_eq_of_lt hk, Nat.add_mul_div_left _ _ hM, Nat.div_eq_of_lt hk, Nat.zero_add, hd]
theorem dig_inj {M : Nat} (hM : 1 ≤ M) : ∀ (P n n' : Nat), n < M ^ P → n' < M ^ P → digL M P n = digL M P n' → n = n' := by
  intro P
  induction P with
  | zero => intro n n' h1 h2 _; simp only [Nat.pow_zero] at h1 h2; omega
  | succ P ih =>
    intro n n' h1 h2 h
    rw [dig_succ, dig_succ] at h
    obtain ⟨h3, h4⟩ := List.cons.inj h
    have hd : ∀ {n : Nat}, n < M ^ (P + 1) → n / M < M ^ P := fun {n} hn => Nat.div_lt_of_lt_mul (by rw [Nat.pow_succ, Nat.mul_comm] at hn; exact hn)
    have h5 := ih _ _ (hd h1) (hd h2) h4
    have h6 : n % M = n' % M := Int.ofNat.inj h3
    rw [← Nat.mod_add_div n M, ← Nat.mod_add_div n' M, h5, h6]
end Go.Proofs.Ytddaclhjnkimfaa

namespace Go.Proofs.Ytddaclhjnkimfaa
open Go Go.Abs Go.Proofs
noncomputable def s_MendAfter_l14 (h14_0_3 : Int) (h14_0_5 : TGather) : (Int × (List Int)) → Tre ((Int × (List Int)) ⊕ (List Int)) := fun s14 =>
  .cond (decide (s14.1 < h14_0_5.1))
    (let v8 := iwrap .i64 (s14.1 * h14_0_5.2.1)
    .ite (0 ≤ iwrap .u64 v8) <|
    let v9 := ishr .i64 h14_0_3 (iwrap .u64 v8)
    .ite (0 ≤ iwrap .u64 h14_0_5.2.1) <|
    let v10 := ishl .i64 1 (iwrap .u64 h14_0_5.2.1)
    let v11 := iand .i64 v9 (iwrap .i64 (v10 - 1))
    .ite ((s14.2.length + 1) * 8 ≤ appendMax ∧ 1 ≤ 8) <|
    .ret (.inl (iwrap .i64 (s14.1 + 1), s14.2 ++ ([v11]))))
    (.ret (.inr s14.2))
noncomputable def s_MendAfter_l10 (h10_0_0 : Int) (h10_0_4 : TGather) (h10_0_5 : (TPlant × Unit)) : (Int × Bool × Int × (List Int)) → Tre ((Int × Bool × Int × (List Int)) ⊕ (Int × Bool × (List Int))) := fun s10 =>
  let v6 := iwrap .i64 (h10_0_4.1 * h10_0_4.2.1)
  .ite (0 ≤ iwrap .u64 v6) <|
  let v7 := ishl .i64 1 (iwrap .u64 v6)
  .cond (decide (s10.2.2.1 < v7))
    (.mat (loopF (s_MendAfter_l14 s10.2.2.1 h10_0_4) (0, [])) fun l12 =>
    .ite (0 ≤ h10_0_0 ∧ h10_0_0 < (h10_0_5.1.1.length : Int)) <|
    .mat (h10_0_5.1.1[h10_0_0.toNat]?) fun _ =>
    .mat (h10_0_5.1.1[h10_0_0.toNat]?) fun x14 =>
    .mat (missO h10_0_4 x14.1 l12) fun r15 =>
    .cond (decide (r15 < s10.1))
      (.ret (.inl (r15, false, iwrap .i64 (s10.2.2.1 + 1), l12)))
      (.cond (decide (r15 = s10.1))
        (.ret (.inl (s10.1, true, iwrap .i64 (s10.2.2.1 + 1), s10.2.2.2)))
        (.ret (.inl (s10.1, s10.2.1, iwrap .i64 (s10.2.2.1 + 1), s10.2.2.2)))))
    (.ret (.inr (s10.1, s10.2.1, s10.2.2.2)))
noncomputable def s_MendAfter (p0 : TGather) (p1 : (List TDeed)) (p2 : Int) : Tre (Int × Int × (List Int)) :=
  .mat (atR p1 p2 p0) fun r1 =>
  .alt r1
    (fun a2 =>
      .cond (!decide (a2.1 = 0))
        (.ret (0, a2.1, []))
        (let v4 := iwrap .i64 (p0.1 * p0.2.1)
        .cond (decide (v4 > 10))
          (.ret (0, 3, []))
          (.fail)))
    (fun b3 =>
      .cond (!decide (b3.1 = 0))
        (.ret (0, b3.1, []))
        (let v5 := iwrap .i64 (p0.1 * p0.2.1)
        .cond (decide (v5 > 10))
          (.ret (0, 3, []))
          (.mat (loopF (s_MendAfter_l10 p2 p0 b3.2) (99, false, 0, [])) fun l16 =>
          .cond l16.2.1
            (.ret (0, 4, []))
            (.ret (l16.1, 0, l16.2.2)))))
noncomputable def s_MendAfter_F (p0 : TGather) (p1 : (List TDeed)) (p2 : Int) : Option (Int × Int × (List Int)) := (s_MendAfter p0 p1 p2).run some
noncomputable def bestStep {α : Type} (m : α → Int) (st : Int × Bool × α) (x : α) : Int × Bool × α := cond (decide (m x < st.1)) (m x, false, x) (cond (decide (m x = st.1)) (st.1, true, st.2.2) st)
def manyG (g : G8) : Nat := (2 ^ g.2.1.toNat) ^ g.1.toNat
noncomputable def mendL (g : G8) (xs : List Int) (n : Nat) : Int × Bool × List Int := (List.range n).foldl (fun st k => bestStep (fun d => missN xs d g) st (digL (2 ^ g.2.1.toNat) g.1.toNat k)) (99, false, [])
noncomputable def mendX (g : G8) (xs : List Int) : Int × Int × List Int := cond (decide (g.1 * g.2.1 > 10)) (0, 3, []) (cond (mendL g xs (manyG g)).2.1 (0, 4, []) ((mendL g xs (manyG g)).1, 0, (mendL g xs (manyG g)).2.2))
noncomputable def mendM (g : G8) (ds : List D8) (s : Int) : Int × Int × List Int := cond (decide (codeM g ds s = 0)) (mendX g (rowsM g ds s)) (0, codeM g ds s, [])
noncomputable def mendR (g : G8) (ds : List D8) (s : Int) : Option (Int × Int × List Int) := askO (decide (g.2.2.1.length ≤ 1048576) && decide (ds.length ≤ 1048576)) (mendM g ds s)
def isData (g : G8) (d : List Int) : Prop := d.length = g.1.toNat ∧ ∀ x ∈ d, ∃ k : Nat, x = (k : Int) ∧ k < 2 ^ g.2.1.toNat
theorem row_inP {g : G8} {x : Int} (hg : isG g = true) (h : okRow (colsG g) x = true) : inP (g.1 + g.2.1) x = true := by
  obtain ⟨n, rfl, hn⟩ := okRow_nat.1 h
  have hc := colsG_le hg
  unfold inP
  rw [← hc.2, top1_nat (by omega), inR_iff]
  have := Nat.two_pow_pos (colsG g)
  omega
theorem data_okM {k : Nat} {g : G8} {xs d : List Int} (hg : isG g = true) (hk : okS k (colsG g) xs = true) (hk2 : k ≤ 1000) (hd : isData g d) : okM xs d g = true := by
  have hb := isG_spec hg
  obtain ⟨h1, h2⟩ := okS_spec.1 hk
  obtain ⟨L, hL⟩ := Int.eq_ofNat_of_zero_le (show 0 ≤ g.2.1 by omega)
  unfold okM
  simp only [Bool.and_eq_true, decide_eq_true_eq, List.all_eq_true, inR_iff]
  refine ⟨⟨⟨⟨⟨by omega, by omega⟩, by omega⟩, by have := hd.1; omega⟩, fun x hx => row_inP hg (h2 x hx)⟩, fun x hx => ?_⟩
  obtain ⟨n, rfl, hn⟩ := hd.2 x hx
  rw [hL, Int.toNat_natCast] at hn
  unfold inP
  rw [hL, top1_nat (by omega), inR_iff]
  have := Nat.two_pow_pos L
  omega
theorem miss_small {xs d : List Int} {g : G8} (h : okM xs d g = true) : 0 ≤ missN xs d g ∧ missN xs d g ≤ 6 := by
  have hr := missW_ok h
  unfold okM at h
  simp only [Bool.and_eq_true, decide_eq_true_eq, inR_iff] at h
  obtain ⟨⟨⟨⟨⟨hk, hm⟩, _⟩, _⟩, _⟩, _⟩ := h
  obtain ⟨ns, h1, _, h3, h4⟩ := okRows_up hr.1
  have h5 := ech_cols (ech_is (b := g.2.1.toNat) (by omega) hr.1) (b := g.2.1.toNat) (by rw [h4]; exact h3)
  unfold missN
  rw [echI_len]
  omega
theorem mendL_best {g : G8} {xs : List Int} (hlow : ∀ d, isData g d → missN xs d g < 99) (hd : ∀ k, k < manyG g → isData g (digL (2 ^ g.2.1.toNat) g.1.toNat k)) :
    ∀ n, n + 1 ≤ manyG g → Best (fun d => missN xs d g) ((List.range (n + 1)).map (digL (2 ^ g.2.1.toNat) g.1.toNat)) (mendL g xs (n + 1)).1 (mendL g xs (n + 1)).2.2 (mendL g xs (n + 1)).2.1 := by
  have hM : 1 ≤ 2 ^ g.2.1.toNat := Nat.two_pow_pos _
  intro n
  induction n with
  | zero =>
    intro h
    have h0 := hlow _ (hd 0 (by omega))
    have he : mendL g xs 1 = (missN xs (digL (2 ^ g.2.1.toNat) g.1.toNat 0) g, false, digL (2 ^ g.2.1.toNat) g.1.toNat 0) := by
      unfold mendL bestStep
      simp only [List.range_one, List.foldl_cons, List.foldl_nil]
      rw [decide_eq_true h0, cond_true]
    rw [he]
    exact Best.first _ _
  | succ n ih =>
    intro h
    have hB := ih (by omega)
    have he : mendL g xs (n + 1 + 1) = bestStep (fun d => missN xs d g) (mendL g xs (n + 1)) (digL (2 ^ g.2.1.toNat) g.1.toNat (n + 1)) := by
      unfold mendL
      rw [List.range_succ (n := n + 1), List.foldl_append]
      rfl
    rw [he, List.range_succ (n := n + 1), List.map_append, List.map_cons, List.map_nil]
    generalize mendL g xs (n + 1) = st at hB
    unfold bestStep
    by_cases h1 : missN xs (digL (2 ^ g.2.1.toNat) g.1.toNat (n + 1)) g < st.1
    · rw [decide_eq_true h1, cond_true]
      exact hB.less h1
    · rw [decide_eq_false h1, cond_false]
      by_cases h2 : missN xs (digL (2 ^ g.2.1.toNat) g.1.toNat (n + 1)) g = st.1
      · rw [decide_eq_true h2, cond_true]
        refine hB.same h2 fun hm => ?_
        obtain ⟨k, hk, he⟩ := List.mem_map.1 hm
        rw [List.mem_range] at hk
        have := dig_inj hM _ _ _ (show k < manyG g by omega) (show n + 1 < manyG g by omega) he
        omega
      · rw [decide_eq_false h2, cond_false]
        exact hB.more (by omega)
theorem s_MendAfter_l14_loop {g : G8} {P L n : Nat} (hP : g.1 = (P : Int)) (hL : g.2.1 = (L : Int)) (hp : P ≤ 4) (hl : L ≤ 6) (hn : n < 2 ^ 62) :
    ∀ k i : Nat, i + k = P → loopF (s_MendAfter_l14 (n : Int) g) ((i : Int), digL (2 ^ L) i n) = some (digL (2 ^ L) P n) := by
  have hiL : ∀ i : Nat, i ≤ 4 → i * L ≤ 24 := fun i hi => Nat.le_trans (Nat.mul_le_mul hi hl) (by decide)
  intro k
  induction k with
  | zero =>
    intro i hi
    refine loopF_done ?_
    unfold s_MendAfter_l14
    rw [Tre.run_cond, decide_eq_false (by dsimp only; omega), cond_false, Tre.run_ret, show i = P by omega]
  | succ k ih =>
    intro i hi
    have h2L := pow_le (b := L) (c := 6) hl
    have hb := hiL i (by omega)
    have hstep : (s_MendAfter_l14 (n : Int) g ((i : Int), digL (2 ^ L) i n)).run some = some (.inl (((i + 1 : Nat) : Int), digL (2 ^ L) (i + 1) n)) := by
      unfold s_MendAfter_l14
      dsimp only
      have e1 : iwrap .i64 ((i : Int) * g.2.1) = ((i * L : Nat) : Int) := by rw [hL, ← Int.natCast_mul]; exact iwrap_nat (by omega)
      rw [Tre.run_cond, decide_eq_true (by omega), cond_true, e1, iwrap_u64 (n := ((i * L : Nat) : Int)) (by omega) (by omega), Tre.run_ite, if_pos (by omega), hL, iwrap_u64 (n := (L : Int)) (by omega) (by omega), Tre.run_ite, if_pos (by omega)]
      rw [ishr_nat (by omega)]
      have e2 : iwrap .i64 (ishl .i64 1 (L : Int) - 1) = ((2 ^ L - 1 : Nat) : Int) := top1_nat (by omega)
      have hsr : n >>> (i * L) < 2 ^ 63 := Nat.lt_of_le_of_lt (Nat.shiftRight_le _ _) (by omega)
      rw [e2, iand_nat hsr (by omega), Tre.run_ite, if_pos (by unfold digL; simp only [List.length_map, List.length_range]; unfold appendMax; omega), Tre.run_ret, iwrap_succ (by omega)]
      congr 3
      unfold digL
      rw [List.range_succ, List.map_append, Nat.and_two_pow_sub_one_eq_mod, Nat.shiftRight_eq_div_pow, Nat.mul_comm i L, Nat.pow_mul]
      rfl
    rw [loopF_step hstep]
    exact ih (i + 1) (by omega)
theorem dig_data {g : G8} {P L : Nat} (hP : g.1 = (P : Int)) (hL : g.2.1 = (L : Int)) {k : Nat} (hk : k < manyG g) : isData g (digL (2 ^ g.2.1.toNat) g.1.toNat k) :=
  (dig_mem (Nat.two_pow_pos _) _ _).1 ⟨k, hk, rfl⟩
theorem s_MendAfter_l10_loop {g : G8} {c i P L : Nat} {p : P8} {x : List Int × List Int × Unit} (hg : isG g = true) (hP : g.1 = (P : Int)) (hL : g.2.1 = (L : Int)) (hPL : P * L ≤ 10) (hx : p.1[i]? = some x) (hk : okS c (colsG g) x.1 = true) (hc : c ≤ 1000) :
    ∀ k n : Nat, n + k = manyG g → loopF (s_MendAfter_l10 (i : Int) g (p, ())) ((mendL g x.1 n).1, (mendL g x.1 n).2.1, (n : Int), (mendL g x.1 n).2.2) = some ((mendL g x.1 (manyG g)).1, (mendL g x.1 (manyG g)).2.1, (mendL g x.1 (manyG g)).2.2) := by
  have hb := isG_spec hg
  have hi : i < p.1.length := (List.getElem?_eq_some_iff.1 hx).1
  have e1 : iwrap .i64 (g.1 * g.2.1) = ((P * L : Nat) : Int) := by rw [hP, hL, ← Int.natCast_mul]; exact iwrap_nat (by omega)
  have hmany : manyG g = 2 ^ (P * L) := by unfold manyG; rw [hP, hL, Int.toNat_natCast, Int.toNat_natCast, ← Nat.pow_mul, Nat.mul_comm]
  have h2 := pow_le (b := P * L) (c := 10) hPL
  have e2 : ishl .i64 1 ((P * L : Nat) : Int) = ((manyG g : Nat) : Int) := by
    rw [hmany, show (1 : Int) = ((1 : Nat) : Int) from rfl, ishl_nat (by omega) (by omega), Nat.one_mul]
  intro k
  induction k with
  | zero =>
    intro n hn
    refine loopF_done ?_
    unfold s_MendAfter_l10
    dsimp only
    rw [e1, iwrap_u64 (by omega) (by omega), Tre.run_ite, if_pos (by omega), e2, Tre.run_cond, decide_eq_false (by omega), cond_false, Tre.run_ret, show n = manyG g by omega]
  | succ k ih =>
    intro n hn
    have hstep : (s_MendAfter_l10 (i : Int) g (p, ()) ((mendL g x.1 n).1, (mendL g x.1 n).2.1, (n : Int), (mendL g x.1 n).2.2)).run some = some (.inl ((mendL g x.1 (n + 1)).1, (mendL g x.1 (n + 1)).2.1, ((n + 1 : Nat) : Int), (mendL g x.1 (n + 1)).2.2)) := by
      have hdat := s_MendAfter_l14_loop (g := g) (n := n) hP hL (by omega) (by omega) (by omega) P 0 (by omega)
      have hdat : loopF (s_MendAfter_l14 (n : Int) g) (0, []) = _ := hdat
      have hd := dig_data hP hL (k := n) (by omega)
      have hdd : digL (2 ^ g.2.1.toNat) g.1.toNat n = digL (2 ^ L) P n := by rw [hP, hL, Int.toNat_natCast, Int.toNat_natCast]
      have hm : missO g x.1 (digL (2 ^ L) P n) = some (missN x.1 (digL (2 ^ L) P n) g) := askO_true (data_okM hg hk hc (by rw [← hdd]; exact hd))
      have hst : mendL g x.1 (n + 1) = bestStep (fun d => missN x.1 d g) (mendL g x.1 n) (digL (2 ^ L) P n) := by
        unfold mendL
        rw [List.range_succ, List.foldl_append, ← hdd]
        rfl
      unfold s_MendAfter_l10
      dsimp only
      rw [e1, iwrap_u64 (by omega) (by omega), Tre.run_ite, if_pos (by omega), e2, Tre.run_cond, decide_eq_true (by omega), cond_true, run_some_mat hdat, Tre.run_ite, if_pos ⟨by omega, by omega⟩, Int.toNat_natCast, run_some_mat hx, run_some_mat hx, run_some_mat hm, iwrap_succ (by omega), hst]
      unfold bestStep
      simp only [Tre.run_cond]
      cases decide (missN x.1 (digL (2 ^ L) P n) g < (mendL g x.1 n).1)
      · rw [cond_false, cond_false]
        cases decide (missN x.1 (digL (2 ^ L) P n) g = (mendL g x.1 n).1) <;> rfl
      · rfl
    rw [loopF_step hstep]
    exact ih (n + 1) (by omega)
theorem s_MendAfter_spec (p0 : G8) (p1 : List D8) (p2 : Int) (y : Int × Int × List Int) (h : mendR p0 p1 p2 = some y) : s_MendAfter_F p0 p1 p2 = some y := by
  obtain ⟨hok, rfl⟩ := askO_some h
  unfold s_MendAfter_F s_MendAfter mendM
  rw [run_some_mat (show atR p1 p2 p0 = some _ from askO_true hok)]
  unfold atM
  by_cases h0 : codeM p0 p1 p2 = 0
  · obtain ⟨i, x, rfl, hx, hi, hk, hg⟩ := rows_at h0
    have hb := isG_spec hg
    obtain ⟨P, hP⟩ := Int.eq_ofNat_of_zero_le (show 0 ≤ p0.1 by omega)
    obtain ⟨L, hL⟩ := Int.eq_ofNat_of_zero_le (show 0 ≤ p0.2.1 by omega)
    have hPL : P * L ≤ 24 := Nat.le_trans (Nat.mul_le_mul (show P ≤ 4 by omega) (show L ≤ 6 by omega)) (by decide)
    have e1 : iwrap .i64 (p0.1 * p0.2.1) = ((P * L : Nat) : Int) := by rw [hP, hL, ← Int.natCast_mul]; exact iwrap_nat (by omega)
    have e0 : p0.1 * p0.2.1 = ((P * L : Nat) : Int) := by rw [hP, hL, ← Int.natCast_mul]
    rw [decide_eq_true h0, cond_true, cond_true, Tre.run_inr, Tre.run_cond]
    rw [show (!decide ((0 : Int) = 0)) = false from rfl, cond_false]
    dsimp only
    rw [e1, Tre.run_cond]
    unfold mendX
    rw [e0]
    by_cases h10 : ((P * L : Nat) : Int) > 10
    · rw [decide_eq_true h10, cond_true, cond_true]; rfl
    rw [decide_eq_false h10, cond_false, cond_false]
    have hrow : rowsM p0 p1 (i : Int) = x.1 := by unfold rowsM; rw [Int.toNat_natCast, hx]
    rw [hrow]
    have hl := s_MendAfter_l10_loop (p := afterM p0 p1) hg hP hL (by omega) hx hk (by omega) (manyG p0) 0 (by omega)
    have hl : loopF (s_MendAfter_l10 (i : Int) p0 (afterM p0 p1, ())) (99, false, 0, []) = _ := hl
    rw [run_some_mat hl, Tre.run_cond]
    cases (mendL p0 x.1 (manyG p0)).2.1 <;> rfl
  · have h1 : decide (codeM p0 p1 p2 = 0) = false := decide_eq_false h0
    rw [h1, cond_false, cond_false, Tre.run_inl, Tre.run_cond]
    dsimp only
    rw [h1]
    rfl
noncomputable def s_MendAfter_V : Env := ⟨tau, [(36, s_l08At_23e7_c), (37, s_l08Missed_9ed6_c)], []⟩
noncomputable def s_MendAfter_b : Code := (Try.f9.body).getD .skip
noncomputable def s_MendAfter_l14_mk (z14_0 : Bool) (h14_0_0 : Int) (h14_0_1 : Int) (h14_0_2 : Bool) (h14_0_3 : Int) (h14_0_5 : TGather) (h14_0_6 : (TPlant × Unit)) (h14_0_7 : (List Int)) : (Int × (List Int)) → St := fun x => stOf [(2, (.imm true (.int .i64) h14_0_0)), (3, (.ptr (5, 0) [])), (9, (.ptr (23, 0) [])), (11, (.ref (13, 0) [])), (12, (.imm true (.int .i64) h14_0_1)), (13, (.imm true .bool h14_0_2)), (14, (.imm true (.int .i64) h14_0_3)), (15, (.ref (17, 0) [])), (16, (.imm true (.int .i64) x.1))] [((5, 0), some ⟨true, kGather, (.imm z14_0), h14_0_5⟩), ((23, 0), some ⟨true, kL08Run, .own, ((some (5, 0) : Option RName), h14_0_6)⟩), ((13, 0), some ⟨false, (.sl (.int .i64)), .own, h14_0_7⟩), ((17, 0), some ⟨false, (.sl (.int .i64)), .own, x.2⟩)]
noncomputable def s_MendAfter_l14_out (z14_0 : Bool) (h14_0_0 : Int) (h14_0_1 : Int) (h14_0_2 : Bool) (h14_0_3 : Int) (h14_0_5 : TGather) (h14_0_6 : (TPlant × Unit)) (h14_0_7 : (List Int)) : (List Int) → Ex × St := fun x => (.exit 2, stOf [(2, (.imm true (.int .i64) h14_0_0)), (3, (.ptr (5, 0) [])), (9, (.ptr (23, 0) [])), (11, (.ref (13, 0) [])), (12, (.imm true (.int .i64) h14_0_1)), (13, (.imm true .bool h14_0_2)), (14, (.imm true (.int .i64) h14_0_3)), (15, (.ref (17, 0) []))] [((5, 0), some ⟨true, kGather, (.imm z14_0), h14_0_5⟩), ((23, 0), some ⟨true, kL08Run, .own, ((some (5, 0) : Option RName), h14_0_6)⟩), ((13, 0), some ⟨false, (.sl (.int .i64)), .own, h14_0_7⟩), ((17, 0), some ⟨false, (.sl (.int .i64)), .own, x⟩)])
noncomputable def s_MendAfter_l14_D (s : St) : Tre (Ex × St) :=
  asImmZ true (.int .i64) (s.tmps 2) fun d2 =>
  asPtr (5, 0) [] (s.tmps 3) <|
  asPtr (23, 0) [] (s.tmps 9) <|
  asRef (13, 0) [] (s.tmps 11) <|
  asImmZ true (.int .i64) (s.tmps 12) fun d7 =>
  asImmZ true .bool (s.tmps 13) fun d9 =>
  asImmZ true (.int .i64) (s.tmps 14) fun d11 =>
  asRef (17, 0) [] (s.tmps 15) <|
  asImmZ true (.int .i64) (s.tmps 16) fun d14 =>
  asRoot true kGather (s.roots (5, 0)) fun m16 d17 =>
  asMImm m16 fun z18 =>
  asRoot true kL08Run (s.roots (23, 0)) fun m20 d21 =>
  asM .own m20 <|
  asProd d21 fun d22 d23 =>
  asD d22 (some (5, 0) : Option RName) <|
  asRoot false (.sl (.int .i64)) (s.roots (13, 0)) fun m25 d26 =>
  asM .own m25 <|
  asRoot false (.sl (.int .i64)) (s.roots (17, 0)) fun m28 d29 =>
  asM .own m28 <|
  .mat (loopF (s_MendAfter_l14 d11 d17) (d14, d29)) fun x => .ret (s_MendAfter_l14_out z18 d2 d7 d9 d11 d17 d23 d26 x)
noncomputable def s_MendAfter_l14_L : LoopI := ⟨([2, 3, 9, 11, 12, 13, 14, 15, 16], [(5, 0), (23, 0), (13, 0), (17, 0)]), ([2, 3, 9, 11, 12, 13, 14, 15], [(5, 0), (23, 0), (13, 0), (17, 0)]), s_MendAfter_l14_D⟩
noncomputable def s_MendAfter_l10_mk (z10_0 : Bool) (h10_0_0 : Int) (h10_0_4 : TGather) (h10_0_5 : (TPlant × Unit)) : (Int × Bool × Int × (List Int)) → St := fun x => stOf [(2, (.imm true (.int .i64) h10_0_0)), (3, (.ptr (5, 0) [])), (9, (.ptr (23, 0) [])), (11, (.ref (13, 0) [])), (12, (.imm true (.int .i64) x.1)), (13, (.imm true .bool x.2.1)), (14, (.imm true (.int .i64) x.2.2.1))] [((5, 0), some ⟨true, kGather, (.imm z10_0), h10_0_4⟩), ((23, 0), some ⟨true, kL08Run, .own, ((some (5, 0) : Option RName), h10_0_5)⟩), ((13, 0), some ⟨false, (.sl (.int .i64)), .own, x.2.2.2⟩)]
noncomputable def s_MendAfter_l10_out (_z10_0 : Bool) (_h10_0_0 : Int) (_h10_0_4 : TGather) (_h10_0_5 : (TPlant × Unit)) : (Int × Bool × (List Int)) → Ex × St := fun x => (.exit 0, stOf [(11, (.ref (13, 0) [])), (12, (.imm true (.int .i64) x.1)), (13, (.imm true .bool x.2.1))] [((13, 0), some ⟨false, (.sl (.int .i64)), .own, x.2.2⟩)])
noncomputable def s_MendAfter_l10_D (s : St) : Tre (Ex × St) :=
  asImmZ true (.int .i64) (s.tmps 2) fun d2 =>
  asPtr (5, 0) [] (s.tmps 3) <|
  asPtr (23, 0) [] (s.tmps 9) <|
  asRef (13, 0) [] (s.tmps 11) <|
  asImmZ true (.int .i64) (s.tmps 12) fun d7 =>
  asImmZ true .bool (s.tmps 13) fun d9 =>
  asImmZ true (.int .i64) (s.tmps 14) fun d11 =>
  asRoot true kGather (s.roots (5, 0)) fun m13 d14 =>
  asMImm m13 fun z15 =>
  asRoot true kL08Run (s.roots (23, 0)) fun m17 d18 =>
  asM .own m17 <|
  asProd d18 fun d19 d20 =>
  asD d19 (some (5, 0) : Option RName) <|
  asRoot false (.sl (.int .i64)) (s.roots (13, 0)) fun m22 d23 =>
  asM .own m22 <|
  .mat (loopF (s_MendAfter_l10 d2 d14 d20) (d7, d9, d11, d23)) fun x => .ret (s_MendAfter_l10_out z15 d2 d14 d20 x)
noncomputable def s_MendAfter_l10_L : LoopI := ⟨([2, 3, 9, 11, 12, 13, 14], [(5, 0), (23, 0), (13, 0)]), ([11, 12, 13], [(13, 0)]), s_MendAfter_l10_D⟩
noncomputable def s_MendAfter_A : List (Nat × LoopI) := [(14, s_MendAfter_l14_L), (10, s_MendAfter_l10_L)]
set_option maxRecDepth 100000 in
theorem s_MendAfter_l14_step : ∀ (z14_0 : Bool) (h14_0_0 : Int) (h14_0_1 : Int) (h14_0_2 : Bool) (h14_0_3 : Int) (h14_0_5 : TGather) (h14_0_6 : (TPlant × Unit)) (h14_0_7 : (List Int)) (x : (Int × (List Int))) (c : St → Option (Ex × St)), den s_MendAfter_V s_MendAfter_A (loopAt s_MendAfter_b 1) (s_MendAfter_l14_mk z14_0 h14_0_0 h14_0_1 h14_0_2 h14_0_3 h14_0_5 h14_0_6 h14_0_7 x) (roundK s_MendAfter_l14_L.kp s_MendAfter_l14_L.kx c) = (s_MendAfter_l14 h14_0_3 h14_0_5 x).run (roundR (s_MendAfter_l14_mk z14_0 h14_0_0 h14_0_1 h14_0_2 h14_0_3 h14_0_5 h14_0_6 h14_0_7) (s_MendAfter_l14_out z14_0 h14_0_0 h14_0_1 h14_0_2 h14_0_3 h14_0_5 h14_0_6 h14_0_7) c) := fun _ _ _ _ _ _ _ _ _ _ => by
  kernel_rfl
theorem s_MendAfter_l14_ok : LoopOK s_MendAfter_V s_MendAfter_A (loopAt s_MendAfter_b 1) s_MendAfter_l14_L := loopOK_of fun s e s' h => by
  generalize hs : restrict s_MendAfter_l14_L.kp s = s1 at h
  have h : (s_MendAfter_l14_D s1).run some = some (e, s') := h
  obtain ⟨d2, e1, h_0⟩ := asImmZ_spec h
  obtain ⟨e3, h_1⟩ := asPtr_spec h_0
  obtain ⟨e4, h_2⟩ := asPtr_spec h_1
  obtain ⟨e5, h_3⟩ := asRef_spec h_2
  obtain ⟨d7, e6, h_4⟩ := asImmZ_spec h_3
  obtain ⟨d9, e8, h_5⟩ := asImmZ_spec h_4
  obtain ⟨d11, e10, h_6⟩ := asImmZ_spec h_5
  obtain ⟨e12, h_7⟩ := asRef_spec h_6
  obtain ⟨d14, e13, h_8⟩ := asImmZ_spec h_7
  obtain ⟨m16, d17, e15, h_9⟩ := asRoot_spec h_8
  obtain ⟨z18, rfl, h_10⟩ := asMImm_spec h_9
  obtain ⟨m20, d21, e19, h_11⟩ := asRoot_spec h_10
  obtain ⟨rfl, h_12⟩ := asM_spec h_11
  obtain ⟨d22, d23, rfl, h_13⟩ := asProd_spec h_12
  obtain ⟨rfl, h_14⟩ := asD_spec h_13
  obtain ⟨m25, d26, e24, h_15⟩ := asRoot_spec h_14
  obtain ⟨rfl, h_16⟩ := asM_spec h_15
  obtain ⟨m28, d29, e27, h_17⟩ := asRoot_spec h_16
  obtain ⟨rfl, h_18⟩ := asM_spec h_17
  obtain ⟨y, hy, hz⟩ := mat_ret h_18
  refine ⟨_, _, s_MendAfter_l14_mk z18 d2 d7 d9 d11 d17 d23 d26, s_MendAfter_l14_out z18 d2 d7 d9 d11 d17 d23 d26, s_MendAfter_l14 d11 d17, (d14, d29), y, ?_, hy, ?_, s_MendAfter_l14_step z18 d2 d7 d9 d11 d17 d23 d26⟩
  · subst hs; exact restrict_eq (T := [(2, (.imm true (.int .i64) d2)), (3, (.ptr (5, 0) [])), (9, (.ptr (23, 0) [])), (11, (.ref (13, 0) [])), (12, (.imm true (.int .i64) d7)), (13, (.imm true .bool d9)), (14, (.imm true (.int .i64) d11)), (15, (.ref (17, 0) [])), (16, (.imm true (.int .i64) d14))]) (U := [((5, 0), some ⟨true, kGather, (.imm z18), d17⟩), ((23, 0), some ⟨true, kL08Run, .own, ((some (5, 0) : Option RName), d23)⟩), ((13, 0), some ⟨false, (.sl (.int .i64)), .own, d26⟩), ((17, 0), some ⟨false, (.sl (.int .i64)), .own, d29⟩)]) rfl rfl ⟨e1, e3, e4, e5, e6, e8, e10, e12, e13, trivial⟩ ⟨e15, e19, e24, e27, trivial⟩
  · exact Option.some.inj hz
set_option maxRecDepth 100000 in
theorem s_MendAfter_l10_step : ∀ (z10_0 : Bool) (h10_0_0 : Int) (h10_0_4 : TGather) (h10_0_5 : (TPlant × Unit)) (x : (Int × Bool × Int × (List Int))) (c : St → Option (Ex × St)), den s_MendAfter_V s_MendAfter_A (loopAt s_MendAfter_b 0) (s_MendAfter_l10_mk z10_0 h10_0_0 h10_0_4 h10_0_5 x) (roundK s_MendAfter_l10_L.kp s_MendAfter_l10_L.kx c) = (s_MendAfter_l10 h10_0_0 h10_0_4 h10_0_5 x).run (roundR (s_MendAfter_l10_mk z10_0 h10_0_0 h10_0_4 h10_0_5) (s_MendAfter_l10_out z10_0 h10_0_0 h10_0_4 h10_0_5) c) := fun _ _ _ _ _ _ => by
  kernel_rfl
theorem s_MendAfter_l10_ok : LoopOK s_MendAfter_V s_MendAfter_A (loopAt s_MendAfter_b 0) s_MendAfter_l10_L := loopOK_of fun s e s' h => by
  generalize hs : restrict s_MendAfter_l10_L.kp s = s1 at h
  have h : (s_MendAfter_l10_D s1).run some = some (e, s') := h
  obtain ⟨d2, e1, h_0⟩ := asImmZ_spec h
  obtain ⟨e3, h_1⟩ := asPtr_spec h_0
  obtain ⟨e4, h_2⟩ := asPtr_spec h_1
  obtain ⟨e5, h_3⟩ := asRef_spec h_2
  obtain ⟨d7, e6, h_4⟩ := asImmZ_spec h_3
  obtain ⟨d9, e8, h_5⟩ := asImmZ_spec h_4
  obtain ⟨d11, e10, h_6⟩ := asImmZ_spec h_5
  obtain ⟨m13, d14, e12, h_7⟩ := asRoot_spec h_6
  obtain ⟨z15, rfl, h_8⟩ := asMImm_spec h_7
  obtain ⟨m17, d18, e16, h_9⟩ := asRoot_spec h_8
  obtain ⟨rfl, h_10⟩ := asM_spec h_9
  obtain ⟨d19, d20, rfl, h_11⟩ := asProd_spec h_10
  obtain ⟨rfl, h_12⟩ := asD_spec h_11
  obtain ⟨m22, d23, e21, h_13⟩ := asRoot_spec h_12
  obtain ⟨rfl, h_14⟩ := asM_spec h_13
  obtain ⟨y, hy, hz⟩ := mat_ret h_14
  refine ⟨_, _, s_MendAfter_l10_mk z15 d2 d14 d20, s_MendAfter_l10_out z15 d2 d14 d20, s_MendAfter_l10 d2 d14 d20, (d7, d9, d11, d23), y, ?_, hy, ?_, s_MendAfter_l10_step z15 d2 d14 d20⟩
  · subst hs; exact restrict_eq (T := [(2, (.imm true (.int .i64) d2)), (3, (.ptr (5, 0) [])), (9, (.ptr (23, 0) [])), (11, (.ref (13, 0) [])), (12, (.imm true (.int .i64) d7)), (13, (.imm true .bool d9)), (14, (.imm true (.int .i64) d11))]) (U := [((5, 0), some ⟨true, kGather, (.imm z15), d14⟩), ((23, 0), some ⟨true, kL08Run, .own, ((some (5, 0) : Option RName), d20)⟩), ((13, 0), some ⟨false, (.sl (.int .i64)), .own, d23⟩)]) rfl rfl ⟨e1, e3, e4, e5, e6, e8, e10, trivial⟩ ⟨e12, e16, e21, trivial⟩
  · exact Option.some.inj hz
noncomputable def s_MendAfter_I : FnI := ⟨s_MendAfter_b, Try.f9.results.toList, Try.f9.resultTypes.toList, s_MendAfter_A⟩
noncomputable def s_MendAfter_out (_zp0 : Bool) (_zp1 : Bool) (_p0 : TGather) (_p1 : (List TDeed)) (_p2 : Int) : (Int × Int × (List Int)) → CallOut := fun r => ⟨(.tcons (.ref (1, 0) []) (.tcons (.imm true (.int .i64) r.1) (.tcons (.imm true (.int .i64) r.2.1) .tnil))), [], [⟨false, (.sl (.int .i64)), .own, r.2.2⟩]⟩
set_option maxRecDepth 100000 in
theorem s_MendAfter_eq : ∀ (zp0 : Bool) (zp1 : Bool) (p0 : TGather) (p1 : (List TDeed)) (p2 : Int), denFn s_MendAfter_V s_MendAfter_I ⟨[(.imm zp0 kGather p0), (.imm zp1 (.sl kDeed) p1), (.imm true (.int .i64) p2)], []⟩ = (s_MendAfter p0 p1 p2).run fun r => some (s_MendAfter_out zp0 zp1 p0 p1 p2 r) := fun _ _ _ _ _ => by kernel_rfl
noncomputable def s_MendAfter_G (av : List AV) (rs : List Root) : Tre CallOut :=
  asCons av fun a0_ av0 =>
  asCons av0 fun a1_ av1 =>
  asCons av1 fun a2_ av2 =>
  asEnd av2 <|
  asEnd rs <|
  asImm kGather a0_ fun z2 d1 =>
  asImm (.sl kDeed) a1_ fun z4 d3 =>
  asImmZ true (.int .i64) a2_ fun d5 =>
  .mat (mendR d1 d3 d5) fun r => .ret (s_MendAfter_out z2 z4 d1 d3 d5 r)
noncomputable def s_MendAfter_c : Ctr := ⟨[], fun ci => s_MendAfter_G ci.args ci.roots⟩
theorem s_MendAfter_env : EnvOK Try.prog s_MendAfter_V := (envOK_cons s_l08At_23e7_ok ent36 (envOK_cons s_l08Missed_9ed6_ok ent37 envOK_nil))
set_option maxRecDepth 100000 in
theorem s_MendAfter_ok : Contract Try.prog 9 s_MendAfter_c := by
  have hl : LoopsOK s_MendAfter_V s_MendAfter_A s_MendAfter_b := (loopsOK_all (n := 2) (by kernel_rfl) fun k hk => by
      match k, hk with
      | 0, _ => exact loopOK_at (id := 10) (L := s_MendAfter_l10_L) (by kernel_rfl) (by kernel_rfl) s_MendAfter_l10_ok
      | 1, _ => exact loopOK_at (id := 14) (L := s_MendAfter_l14_L) (by kernel_rfl) (by kernel_rfl) s_MendAfter_l14_ok)
  refine (contract_of (F := s_MendAfter_I) tau_tys s_MendAfter_env Try.func9 (by kernel_rfl) (by kernel_rfl) (by kernel_rfl) hl []).weaken ?_
  rintro ⟨av, rs⟩ co h
  have h : (s_MendAfter_G av rs).run some = some co := h
  obtain ⟨a0_, av0, rfl, h_0⟩ := asCons_spec h
  obtain ⟨a1_, av1, rfl, h_1⟩ := asCons_spec h_0
  obtain ⟨a2_, av2, rfl, h_2⟩ := asCons_spec h_1
  obtain ⟨rfl, h_3⟩ := asEnd_spec h_2
  obtain ⟨rfl, h_4⟩ := asEnd_spec h_3
  obtain ⟨z2, d1, rfl, h_5⟩ := asImm_spec h_4
  obtain ⟨z4, d3, rfl, h_6⟩ := asImm_spec h_5
  obtain ⟨d5, rfl, h_7⟩ := asImmZ_spec h_6
  exact fin_opt (s_MendAfter_eq z2 z4 d1 d3 d5) (s_MendAfter_spec d1 d3 d5) h_7
end Go.Proofs.Ytddaclhjnkimfaa

namespace Go.Proofs.Ytddaclhjnkimfaa
open Go Go.Abs Go.Proofs
noncomputable def i_within (p0 : Int) (p1 : Int) (p2 : Int) : Tre Bool :=
  .cond (decide (p0 ≥ p1))
    (.ret (decide (p0 ≤ p2)))
    (.ret false)
noncomputable def i_within_F (p0 : Int) (p1 : Int) (p2 : Int) : Option Bool := (i_within p0 p1 p2).run some
theorem i_within_spec (n a b : Int) : i_within_F n a b = some (inR n a b) := by
  unfold i_within_F i_within inR
  by_cases h : a ≤ n
  · simp [Tre.run_cond, Tre.run_ret, h]
  · simp [Tre.run_cond, Tre.run_ret, h]
noncomputable def i_within_V : Env := ⟨tau, [], []⟩
noncomputable def i_within_b : Code := (Try.f70.body).getD .skip
noncomputable def i_within_I : FnI := ⟨i_within_b, Try.f70.results.toList, Try.f70.resultTypes.toList, []⟩
noncomputable def i_within_out (_p0 : Int) (_p1 : Int) (_p2 : Int) : Bool → CallOut := fun r => ⟨(.imm true .bool r), [], []⟩
set_option maxRecDepth 100000 in
theorem i_within_eq : ∀ (p0 : Int) (p1 : Int) (p2 : Int), denFn i_within_V i_within_I ⟨[(.imm true (.int .i64) p0), (.imm true (.int .i64) p1), (.imm true (.int .i64) p2)], []⟩ = (i_within p0 p1 p2).run fun r => some (i_within_out p0 p1 p2 r) := fun _ _ _ => by kernel_rfl
noncomputable def i_within_G (av : List AV) (rs : List Root) : Tre CallOut :=
  asCons av fun a0_ av0 =>
  asCons av0 fun a1_ av1 =>
  asCons av1 fun a2_ av2 =>
  asEnd av2 <|
  asEnd rs <|
  asImmZ true (.int .i64) a0_ fun d1 =>
  asImmZ true (.int .i64) a1_ fun d2 =>
  asImmZ true (.int .i64) a2_ fun d3 =>
  .ret (i_within_out d1 d2 d3 (inR d1 d2 d3))
noncomputable def i_within_c : Ctr := ⟨[], fun ci => i_within_G ci.args ci.roots⟩
theorem i_within_env : EnvOK Try.prog i_within_V := envOK_nil
set_option maxRecDepth 100000 in
theorem i_within_ok : Contract Try.prog 70 i_within_c := by
  have hl : LoopsOK i_within_V [] i_within_b := loopsOK_nil (by kernel_rfl)
  refine (contract_of (F := i_within_I) tau_tys i_within_env Try.func70 (by kernel_rfl) (by kernel_rfl) (by kernel_rfl) hl []).weaken ?_
  rintro ⟨av, rs⟩ co h
  have h : (i_within_G av rs).run some = some co := h
  obtain ⟨a0_, av0, rfl, h_0⟩ := asCons_spec h
  obtain ⟨a1_, av1, rfl, h_1⟩ := asCons_spec h_0
  obtain ⟨a2_, av2, rfl, h_2⟩ := asCons_spec h_1
  obtain ⟨rfl, h_3⟩ := asEnd_spec h_2
  obtain ⟨rfl, h_4⟩ := asEnd_spec h_3
  obtain ⟨d1, rfl, h_5⟩ := asImmZ_spec h_4
  obtain ⟨d2, rfl, h_6⟩ := asImmZ_spec h_5
  obtain ⟨d3, rfl, h_7⟩ := asImmZ_spec h_6
  exact fin_ret (i_within_eq d1 d2 d3) (i_within_spec d1 d2 d3) h_7
end Go.Proofs.Ytddaclhjnkimfaa

namespace Go.Proofs.Ytddaclhjnkimfaa
open Go Go.Abs Go.Proofs
noncomputable def i_size_int64 (p0 : (List Int)) : Tre Int :=
  .ret (p0.length : Int)
noncomputable def i_size_int64_F (p0 : (List Int)) : Option Int := (i_size_int64 p0).run some
theorem i_size_int64_spec (p0 : (List Int)) : i_size_int64_F p0 = some (p0.length : Int) := rfl
noncomputable def i_size_int64_V : Env := ⟨tau, [], []⟩
noncomputable def i_size_int64_b : Code := (Try.f52.body).getD .skip
noncomputable def i_size_int64_I : FnI := ⟨i_size_int64_b, Try.f52.results.toList, Try.f52.resultTypes.toList, []⟩
noncomputable def i_size_int64_out (_zp0 : Bool) (_p0 : (List Int)) : Int → CallOut := fun r => ⟨(.imm true (.int .i64) r), [], []⟩
set_option maxRecDepth 100000 in
theorem i_size_int64_eq : ∀ (zp0 : Bool) (p0 : (List Int)), denFn i_size_int64_V i_size_int64_I ⟨[(.imm zp0 (.sl (.int .i64)) p0)], []⟩ = (i_size_int64 p0).run fun r => some (i_size_int64_out zp0 p0 r) := fun _ _ => by kernel_rfl
noncomputable def i_size_int64_G (av : List AV) (rs : List Root) : Tre CallOut :=
  asCons av fun a0_ av0 =>
  asEnd av0 <|
  asEnd rs <|
  asImm (.sl (.int .i64)) a0_ fun z2 d1 =>
  .ret (i_size_int64_out z2 d1 (d1.length : Int))
noncomputable def i_size_int64_c : Ctr := ⟨[], fun ci => i_size_int64_G ci.args ci.roots⟩
theorem i_size_int64_env : EnvOK Try.prog i_size_int64_V := envOK_nil
set_option maxRecDepth 100000 in
theorem i_size_int64_ok : Contract Try.prog 52 i_size_int64_c := by
  have hl : LoopsOK i_size_int64_V [] i_size_int64_b := loopsOK_nil (by kernel_rfl)
  refine (contract_of (F := i_size_int64_I) tau_tys i_size_int64_env Try.func52 (by kernel_rfl) (by kernel_rfl) (by kernel_rfl) hl []).weaken ?_
  rintro ⟨av, rs⟩ co h
  have h : (i_size_int64_G av rs).run some = some co := h
  obtain ⟨a0_, av0, rfl, h_0⟩ := asCons_spec h
  obtain ⟨rfl, h_1⟩ := asEnd_spec h_0
  obtain ⟨rfl, h_2⟩ := asEnd_spec h_1
  obtain ⟨z2, d1, rfl, h_3⟩ := asImm_spec h_2
  exact fin_ret (i_size_int64_eq z2 d1) (i_size_int64_spec d1) h_3
end Go.Proofs.Ytddaclhjnkimfaa

namespace Go.Proofs.Ytddaclhjnkimfaa
open Go Go.Abs Go.Proofs
noncomputable def i_Gather_isDatac1_9af1 (p0 : Int) (p1 : TGather) : Tre Bool :=
  .ite (0 ≤ p1.2.1) <|
  let v1 := iwrap .i64 ((ishl .i64 1 p1.2.1) - 1)
  .ret (!(inR p0 0 v1))
noncomputable def i_Gather_isDatac1_9af1_F (p0 : Int) (p1 : TGather) : Option Bool := (i_Gather_isDatac1_9af1 p0 p1).run some
def noD (x : Int) (p : Int × Int × List Int × Int × Int × Unit) : Option Bool := askO (decide (0 ≤ p.2.1)) (!inP p.2.1 x)
theorem i_Gather_isDatac1_9af1_spec (p0 : Int) (p1 : Int × Int × List Int × Int × Int × Unit) (y : Bool) (h : noD p0 p1 = some y) : i_Gather_isDatac1_9af1_F p0 p1 = some y := by
  obtain ⟨hl, rfl⟩ := askO_some h
  unfold i_Gather_isDatac1_9af1_F i_Gather_isDatac1_9af1
  rw [Tre.run_ite, if_pos (of_decide_eq_true hl)]
  rfl
noncomputable def i_Gather_isDatac1_9af1_V : Env := ⟨tau, [(70, i_within_c)], []⟩
noncomputable def i_Gather_isDatac1_9af1_b : Code := (Try.f99.body).getD .skip
noncomputable def i_Gather_isDatac1_9af1_I : FnI := ⟨i_Gather_isDatac1_9af1_b, Try.f99.results.toList, Try.f99.resultTypes.toList, []⟩
noncomputable def i_Gather_isDatac1_9af1_out (zp0 : Bool) (_p0 : Int) (p1 : TGather) : Bool → CallOut := fun r => ⟨(.imm true .bool r), [⟨true, kGather, (.imm zp0), p1⟩], []⟩
set_option maxRecDepth 100000 in
theorem i_Gather_isDatac1_9af1_eq : ∀ (zp0 : Bool) (p0 : Int) (p1 : TGather), denFn i_Gather_isDatac1_9af1_V i_Gather_isDatac1_9af1_I ⟨[(.imm true (.int .i64) p0), (.ptr (0, 0) [])], [⟨true, kGather, (.imm zp0), p1⟩]⟩ = (i_Gather_isDatac1_9af1 p0 p1).run fun r => some (i_Gather_isDatac1_9af1_out zp0 p0 p1 r) := fun _ _ _ => by kernel_rfl
noncomputable def i_Gather_isDatac1_9af1_G (av : List AV) (rs : List Root) : Tre CallOut :=
  asCons av fun a0_ av0 =>
  asCons av0 fun a1_ av1 =>
  asEnd av1 <|
  asCons rs fun r0_ rs0 =>
  asEnd rs0 <|
  asImmZ true (.int .i64) a0_ fun d1 =>
  asPtr (0, 0) [] a1_ <|
  asRt true kGather r0_ fun m2 d3 =>
  asMImm m2 fun z4 =>
  .mat (noD d1 d3) fun r => .ret (i_Gather_isDatac1_9af1_out z4 d1 d3 r)
noncomputable def i_Gather_isDatac1_9af1_c : Ctr := ⟨[], fun ci => i_Gather_isDatac1_9af1_G ci.args ci.roots⟩
theorem i_Gather_isDatac1_9af1_env : EnvOK Try.prog i_Gather_isDatac1_9af1_V := (envOK_cons i_within_ok ent70 envOK_nil)
set_option maxRecDepth 100000 in
theorem i_Gather_isDatac1_9af1_ok : Contract Try.prog 99 i_Gather_isDatac1_9af1_c := by
  have hl : LoopsOK i_Gather_isDatac1_9af1_V [] i_Gather_isDatac1_9af1_b := loopsOK_nil (by kernel_rfl)
  refine (contract_of (F := i_Gather_isDatac1_9af1_I) tau_tys i_Gather_isDatac1_9af1_env Try.func99 (by kernel_rfl) (by kernel_rfl) (by kernel_rfl) hl []).weaken ?_
  rintro ⟨av, rs⟩ co h
  have h : (i_Gather_isDatac1_9af1_G av rs).run some = some co := h
  obtain ⟨a0_, av0, rfl, h_0⟩ := asCons_spec h
  obtain ⟨a1_, av1, rfl, h_1⟩ := asCons_spec h_0
  obtain ⟨rfl, h_2⟩ := asEnd_spec h_1
  obtain ⟨r0_, rs0, rfl, h_3⟩ := asCons_spec h_2
  obtain ⟨rfl, h_4⟩ := asEnd_spec h_3
  obtain ⟨d1, rfl, h_5⟩ := asImmZ_spec h_4
  obtain ⟨rfl, h_6⟩ := asPtr_spec h_5
  obtain ⟨m2, d3, rfl, h_7⟩ := asRt_spec h_6
  obtain ⟨z4, rfl, h_8⟩ := asMImm_spec h_7
  exact fin_opt (i_Gather_isDatac1_9af1_eq z4 d1 d3) (i_Gather_isDatac1_9af1_spec d1 d3) h_8
end Go.Proofs.Ytddaclhjnkimfaa
