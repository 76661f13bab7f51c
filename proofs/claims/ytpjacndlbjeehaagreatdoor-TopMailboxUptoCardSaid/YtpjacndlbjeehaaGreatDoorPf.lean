/-
  A part of the proof of TopMailbox: walks of single functions, and plain facts.
-/
import Derived.Test.YtpjacndlbjeehaaGreatDoorPx10
import Derived.Test.YtpjacndlbjeehaaGreatDoorProg
import Derived.KernelRfl
set_option linter.unusedVariables false
set_option linter.unusedSimpArgs false
set_option maxRecDepth 100000
namespace Go.Proofs.YtpjacndlbjeehaaGreatDoor
open Go Go.Px
theorem hmix : Tryz.prog.follows .mixedOrders = true := by kernel_rfl
theorem ty2 : Ty Tryz.prog 2 1 false (.int .i64 0) := ⟨fun _ => by kernel_rfl, fun _ => by kernel_rfl, fun _ => by kernel_rfl⟩
theorem ty3 : Ty Tryz.prog 3 1 false (.int .i64 0) := ⟨fun _ => by kernel_rfl, fun _ => by kernel_rfl, fun _ => by kernel_rfl⟩
theorem ty4 : Ty Tryz.prog 4 1 false (.bool false) := ⟨fun _ => by kernel_rfl, fun _ => by kernel_rfl, fun _ => by kernel_rfl⟩
theorem ty5 : Ty Tryz.prog 5 1 false (.int .u8 0) := ⟨fun _ => by kernel_rfl, fun _ => by kernel_rfl, fun _ => by kernel_rfl⟩
theorem ty9 : Ty Tryz.prog 9 1 false (.string ByteArray.empty) := ⟨fun _ => by kernel_rfl, fun _ => by kernel_rfl, fun _ => by kernel_rfl⟩
theorem ty26 : Ty Tryz.prog 26 1 false (.int .i64 0) := ⟨fun _ => by kernel_rfl, fun _ => by kernel_rfl, fun _ => by kernel_rfl⟩
theorem ty28 : Ty Tryz.prog 28 3 true (.agg #[.int .i64 0, .int .i64 0, .bool false]) := ⟨fun _ => by kernel_rfl, fun _ => by kernel_rfl, fun _ => by kernel_rfl⟩
theorem ty29 : Ty Tryz.prog 29 1 false (.int .i64 0) := ⟨fun _ => by kernel_rfl, fun _ => by kernel_rfl, fun _ => by kernel_rfl⟩
theorem ty31 : Ty Tryz.prog 31 3 true (.agg #[.int .i64 0, .int .i64 0, .bool false]) := ⟨fun _ => by kernel_rfl, fun _ => by kernel_rfl, fun _ => by kernel_rfl⟩
theorem ty32 : Ty Tryz.prog 32 1 false (.int .i64 0) := ⟨fun _ => by kernel_rfl, fun _ => by kernel_rfl, fun _ => by kernel_rfl⟩
theorem ty34 : Ty Tryz.prog 34 3 true (.agg #[.int .i64 0, .int .i64 0, .bool false]) := ⟨fun _ => by kernel_rfl, fun _ => by kernel_rfl, fun _ => by kernel_rfl⟩
theorem ty36 : Ty Tryz.prog 36 16 true (.agg #[.int .i64 0, .int .i64 0, .int .i64 0, .int .i64 0, .int .i64 0, .bool false, .int .i64 0, .int .i64 0, .bool false, .int .i64 0, .int .i64 0, .bool false, .int .i64 0, .int .i64 0, .bool false, .int .i64 0]) := ⟨fun _ => by kernel_rfl, fun _ => by kernel_rfl, fun _ => by kernel_rfl⟩
theorem ty37 : Ty Tryz.prog 37 1 false (.int .i64 0) := ⟨fun _ => by kernel_rfl, fun _ => by kernel_rfl, fun _ => by kernel_rfl⟩
theorem ty41 : Ty Tryz.prog 41 1 false (.slice none 0 0) := ⟨fun _ => by kernel_rfl, fun _ => by kernel_rfl, fun _ => by kernel_rfl⟩
theorem ty55 : Ty Tryz.prog 55 1 false (.map none) := ⟨fun _ => by kernel_rfl, fun _ => by kernel_rfl, fun _ => by kernel_rfl⟩
theorem ty57 : Ty Tryz.prog 57 2 true (.agg #[.map none, .map none]) := ⟨fun _ => by kernel_rfl, fun _ => by kernel_rfl, fun _ => by kernel_rfl⟩
theorem ty58 : Ty Tryz.prog 58 1 false (.int .i64 0) := ⟨fun _ => by kernel_rfl, fun _ => by kernel_rfl, fun _ => by kernel_rfl⟩
theorem ty60 : Ty Tryz.prog 60 2 true (.agg #[.int .i64 0, .int .i64 0]) := ⟨fun _ => by kernel_rfl, fun _ => by kernel_rfl, fun _ => by kernel_rfl⟩
theorem ty64 : Ty Tryz.prog 64 4 true (.agg #[.int .i64 0, .int .i64 0, .int .i64 0, .int .i64 0]) := ⟨fun _ => by kernel_rfl, fun _ => by kernel_rfl, fun _ => by kernel_rfl⟩
theorem ty66 : Ty Tryz.prog 66 3 true (.agg #[.int .i64 0, .int .i64 0, .int .i64 0]) := ⟨fun _ => by kernel_rfl, fun _ => by kernel_rfl, fun _ => by kernel_rfl⟩
theorem ty79 : Ty Tryz.prog 79 1 false (.int .u64 0) := ⟨fun _ => by kernel_rfl, fun _ => by kernel_rfl, fun _ => by kernel_rfl⟩
theorem ty88 : Ty Tryz.prog 88 3 true (.agg #[.slice none 0 0, .int .i64 0, .int .i64 0]) := ⟨fun _ => by kernel_rfl, fun _ => by kernel_rfl, fun _ => by kernel_rfl⟩
theorem ty120 : Ty Tryz.prog 120 3 true (.agg #[.int .i64 0, .int .i64 0, .int .i64 0]) := ⟨fun _ => by kernel_rfl, fun _ => by kernel_rfl, fun _ => by kernel_rfl⟩
theorem ty148 : Ty Tryz.prog 148 9 true (.agg #[.int .i64 0, .int .i64 0, .int .i64 0, .int .i64 0, .int .i64 0, .int .i64 0, .int .i64 0, .int .i64 0, .int .i64 0]) := ⟨fun _ => by kernel_rfl, fun _ => by kernel_rfl, fun _ => by kernel_rfl⟩
theorem ty153 : Ty Tryz.prog 153 2 true (.agg #[.int .i64 0, .int .u64 0]) := ⟨fun _ => by kernel_rfl, fun _ => by kernel_rfl, fun _ => by kernel_rfl⟩
theorem ti3 : TI Tryz.prog 3 1 140000 := ti_of (by kernel_rfl)
theorem ti5 : TI Tryz.prog 5 1 140000 := ti_of (by kernel_rfl)
theorem ti9 : TI Tryz.prog 9 1 140000 := ti_of (by kernel_rfl)
theorem ti36 : TI Tryz.prog 36 16 140000 := ti_of (by kernel_rfl)
theorem fa28_0 : FA Tryz.prog 28 0 0 := fa_of Tryz.underlying28 rfl rfl ty26.size
theorem fa28_1 : FA Tryz.prog 28 1 1 := fa_of Tryz.underlying28 rfl rfl ty26.size
theorem fa28_2 : FA Tryz.prog 28 2 2 := fa_of Tryz.underlying28 rfl rfl ty4.size
theorem fa31_0 : FA Tryz.prog 31 0 0 := fa_of Tryz.underlying31 rfl rfl ty29.size
theorem fa31_1 : FA Tryz.prog 31 1 1 := fa_of Tryz.underlying31 rfl rfl ty29.size
theorem fa31_2 : FA Tryz.prog 31 2 2 := fa_of Tryz.underlying31 rfl rfl ty4.size
theorem fa34_0 : FA Tryz.prog 34 0 0 := fa_of Tryz.underlying34 rfl rfl ty32.size
theorem fa34_1 : FA Tryz.prog 34 1 1 := fa_of Tryz.underlying34 rfl rfl ty32.size
theorem fa34_2 : FA Tryz.prog 34 2 2 := fa_of Tryz.underlying34 rfl rfl ty4.size
theorem fa36_0 : FA Tryz.prog 36 0 0 := fa_of Tryz.underlying36 rfl rfl ty3.size
theorem fa36_1 : FA Tryz.prog 36 1 1 := fa_of Tryz.underlying36 rfl rfl ty3.size
theorem fa36_2 : FA Tryz.prog 36 2 2 := fa_of Tryz.underlying36 rfl rfl ty3.size
theorem fa36_3 : FA Tryz.prog 36 3 3 := fa_of Tryz.underlying36 rfl rfl ty28.size
theorem fa36_4 : FA Tryz.prog 36 4 6 := fa_of Tryz.underlying36 rfl rfl ty31.size
theorem fa36_5 : FA Tryz.prog 36 5 9 := fa_of Tryz.underlying36 rfl rfl ty31.size
theorem fa36_6 : FA Tryz.prog 36 6 12 := fa_of Tryz.underlying36 rfl rfl ty34.size
theorem fa36_7 : FA Tryz.prog 36 7 15 := fa_of Tryz.underlying36 rfl rfl ty3.size
theorem fa57_0 : FA Tryz.prog 57 0 0 := fa_of Tryz.underlying57 rfl rfl ty55.size
theorem fa57_1 : FA Tryz.prog 57 1 1 := fa_of Tryz.underlying57 rfl rfl ty55.size
theorem fa64_0 : FA Tryz.prog 64 0 0 := fa_of Tryz.underlying64 rfl rfl ty2.size
theorem fa64_1 : FA Tryz.prog 64 1 1 := fa_of Tryz.underlying64 rfl rfl ty2.size
theorem fa64_2 : FA Tryz.prog 64 2 2 := fa_of Tryz.underlying64 rfl rfl ty2.size
theorem fa64_3 : FA Tryz.prog 64 3 3 := fa_of Tryz.underlying64 rfl rfl ty2.size
theorem fa66_0 : FA Tryz.prog 66 0 0 := fa_of Tryz.underlying66 rfl rfl ty2.size
theorem fa66_1 : FA Tryz.prog 66 1 1 := fa_of Tryz.underlying66 rfl rfl ty2.size
theorem fa66_2 : FA Tryz.prog 66 2 2 := fa_of Tryz.underlying66 rfl rfl ty2.size
theorem fa88_0 : FA Tryz.prog 88 0 0 := fa_of Tryz.underlying88 rfl rfl ty41.size
theorem fa88_1 : FA Tryz.prog 88 1 1 := fa_of Tryz.underlying88 rfl rfl ty3.size
theorem fa153_0 : FA Tryz.prog 153 0 0 := fa_of Tryz.underlying153 rfl rfl ty2.size
theorem fa153_1 : FA Tryz.prog 153 1 1 := fa_of Tryz.underlying153 rfl rfl ty79.size
theorem ent4 : Ent Tryz.prog 4 := ent_of Tryz.func4 rfl (by decide +kernel)
theorem ent5 : Ent Tryz.prog 5 := ent_of Tryz.func5 rfl (by decide +kernel)
theorem ent6 : Ent Tryz.prog 6 := ent_of Tryz.func6 rfl (by decide +kernel)
theorem ent7 : Ent Tryz.prog 7 := ent_of Tryz.func7 rfl (by decide +kernel)
theorem ent8 : Ent Tryz.prog 8 := ent_of Tryz.func8 rfl (by decide +kernel)
theorem ent9 : Ent Tryz.prog 9 := ent_of Tryz.func9 rfl (by decide +kernel)
theorem ent10 : Ent Tryz.prog 10 := ent_of Tryz.func10 rfl (by decide +kernel)
theorem ent11 : Ent Tryz.prog 11 := ent_of Tryz.func11 rfl (by decide +kernel)
theorem ent12 : Ent Tryz.prog 12 := ent_of Tryz.func12 rfl (by decide +kernel)
theorem ent13 : Ent Tryz.prog 13 := ent_of Tryz.func13 rfl (by decide +kernel)
theorem ent14 : Ent Tryz.prog 14 := ent_of Tryz.func14 rfl (by decide +kernel)
theorem ent15 : Ent Tryz.prog 15 := ent_of Tryz.func15 rfl (by decide +kernel)
theorem ent16 : Ent Tryz.prog 16 := ent_of Tryz.func16 rfl (by decide +kernel)
theorem ent17 : Ent Tryz.prog 17 := ent_of Tryz.func17 rfl (by decide +kernel)
theorem ent18 : Ent Tryz.prog 18 := ent_of Tryz.func18 rfl (by decide +kernel)
theorem ent19 : Ent Tryz.prog 19 := ent_of Tryz.func19 rfl (by decide +kernel)
theorem ent20 : Ent Tryz.prog 20 := ent_of Tryz.func20 rfl (by decide +kernel)
theorem ent21 : Ent Tryz.prog 21 := ent_of Tryz.func21 rfl (by decide +kernel)
theorem ent22 : Ent Tryz.prog 22 := ent_of Tryz.func22 rfl (by decide +kernel)
theorem ent23 : Ent Tryz.prog 23 := ent_of Tryz.func23 rfl (by decide +kernel)
theorem ent24 : Ent Tryz.prog 24 := ent_of Tryz.func24 rfl (by decide +kernel)
theorem ent25 : Ent Tryz.prog 25 := ent_of Tryz.func25 rfl (by decide +kernel)
theorem ent26 : Ent Tryz.prog 26 := ent_of Tryz.func26 rfl (by decide +kernel)
theorem ent27 : Ent Tryz.prog 27 := ent_of Tryz.func27 rfl (by decide +kernel)
theorem ent28 : Ent Tryz.prog 28 := ent_of Tryz.func28 rfl (by decide +kernel)
theorem ent29 : Ent Tryz.prog 29 := ent_of Tryz.func29 rfl (by decide +kernel)
theorem ent30 : Ent Tryz.prog 30 := ent_of Tryz.func30 rfl (by decide +kernel)
theorem ent31 : Ent Tryz.prog 31 := ent_of Tryz.func31 rfl (by decide +kernel)
theorem ent32 : Ent Tryz.prog 32 := ent_of Tryz.func32 rfl (by decide +kernel)
theorem ent33 : Ent Tryz.prog 33 := ent_of Tryz.func33 rfl (by decide +kernel)
theorem ent34 : Ent Tryz.prog 34 := ent_of Tryz.func34 rfl (by decide +kernel)
theorem ent35 : Ent Tryz.prog 35 := ent_of Tryz.func35 rfl (by decide +kernel)
theorem ent36 : Ent Tryz.prog 36 := ent_of Tryz.func36 rfl (by decide +kernel)
theorem ent37 : Ent Tryz.prog 37 := ent_of Tryz.func37 rfl (by decide +kernel)
theorem ent38 : Ent Tryz.prog 38 := ent_of Tryz.func38 rfl (by decide +kernel)
theorem ent39 : Ent Tryz.prog 39 := ent_of Tryz.func39 rfl (by decide +kernel)
theorem ent40 : Ent Tryz.prog 40 := ent_of Tryz.func40 rfl (by decide +kernel)
theorem ent41 : Ent Tryz.prog 41 := ent_of Tryz.func41 rfl (by decide +kernel)
theorem ent42 : Ent Tryz.prog 42 := ent_of Tryz.func42 rfl (by decide +kernel)
theorem ent43 : Ent Tryz.prog 43 := ent_of Tryz.func43 rfl (by decide +kernel)
theorem ent44 : Ent Tryz.prog 44 := ent_of Tryz.func44 rfl (by decide +kernel)
theorem ent45 : Ent Tryz.prog 45 := ent_of Tryz.func45 rfl (by decide +kernel)
theorem ent46 : Ent Tryz.prog 46 := ent_of Tryz.func46 rfl (by decide +kernel)
theorem ent47 : Ent Tryz.prog 47 := ent_of Tryz.func47 rfl (by decide +kernel)
theorem ent48 : Ent Tryz.prog 48 := ent_of Tryz.func48 rfl (by decide +kernel)
theorem ent49 : Ent Tryz.prog 49 := ent_of Tryz.func49 rfl (by decide +kernel)
theorem ent50 : Ent Tryz.prog 50 := ent_of Tryz.func50 rfl (by decide +kernel)
theorem ent51 : Ent Tryz.prog 51 := ent_of Tryz.func51 rfl (by decide +kernel)
theorem ent52 : Ent Tryz.prog 52 := ent_of Tryz.func52 rfl (by decide +kernel)
theorem ent53 : Ent Tryz.prog 53 := ent_of Tryz.func53 rfl (by decide +kernel)
theorem ent54 : Ent Tryz.prog 54 := ent_of Tryz.func54 rfl (by decide +kernel)
theorem ent55 : Ent Tryz.prog 55 := ent_of Tryz.func55 rfl (by decide +kernel)
theorem ent56 : Ent Tryz.prog 56 := ent_of Tryz.func56 rfl (by decide +kernel)
theorem ent57 : Ent Tryz.prog 57 := ent_of Tryz.func57 rfl (by decide +kernel)
theorem ent58 : Ent Tryz.prog 58 := ent_of Tryz.func58 rfl (by decide +kernel)
theorem ent59 : Ent Tryz.prog 59 := ent_of Tryz.func59 rfl (by decide +kernel)
theorem ent60 : Ent Tryz.prog 60 := ent_of Tryz.func60 rfl (by decide +kernel)
theorem ent61 : Ent Tryz.prog 61 := ent_of Tryz.func61 rfl (by decide +kernel)
theorem ent62 : Ent Tryz.prog 62 := ent_of Tryz.func62 rfl (by decide +kernel)
theorem ent63 : Ent Tryz.prog 63 := ent_of Tryz.func63 rfl (by decide +kernel)
theorem ent64 : Ent Tryz.prog 64 := ent_of Tryz.func64 rfl (by decide +kernel)
theorem ent66 : Ent Tryz.prog 66 := ent_of Tryz.func66 rfl (by decide +kernel)
theorem ent71 : Ent Tryz.prog 71 := ent_of Tryz.func71 rfl (by decide +kernel)
theorem ent72 : Ent Tryz.prog 72 := ent_of Tryz.func72 rfl (by decide +kernel)
theorem ent75 : Ent Tryz.prog 75 := ent_of Tryz.func75 rfl (by decide +kernel)
theorem ent76 : Ent Tryz.prog 76 := ent_of Tryz.func76 rfl (by decide +kernel)
theorem ent77 : Ent Tryz.prog 77 := ent_of Tryz.func77 rfl (by decide +kernel)
theorem ent78 : Ent Tryz.prog 78 := ent_of Tryz.func78 rfl (by decide +kernel)
theorem ent99 : Ent Tryz.prog 99 := ent_of Tryz.func99 rfl (by decide +kernel)
theorem ent100 : Ent Tryz.prog 100 := ent_of Tryz.func100 rfl (by decide +kernel)
theorem ent101 : Ent Tryz.prog 101 := ent_of Tryz.func101 rfl (by decide +kernel)
theorem ent102 : Ent Tryz.prog 102 := ent_of Tryz.func102 rfl (by decide +kernel)
theorem pl28 : Pl Tryz.prog 28 [(0, 1), (1, 1), (2, 1)] := ⟨_, Tryz.underlying28, fun _ => by kernel_rfl⟩
theorem pl31 : Pl Tryz.prog 31 [(0, 1), (1, 1), (2, 1)] := ⟨_, Tryz.underlying31, fun _ => by kernel_rfl⟩
theorem pl34 : Pl Tryz.prog 34 [(0, 1), (1, 1), (2, 1)] := ⟨_, Tryz.underlying34, fun _ => by kernel_rfl⟩
theorem pl36 : Pl Tryz.prog 36 [(0, 1), (1, 1), (2, 1), (3, 3), (6, 3), (9, 3), (12, 3), (15, 1)] := ⟨_, Tryz.underlying36, fun _ => by kernel_rfl⟩
theorem pl57 : Pl Tryz.prog 57 [(0, 1), (1, 1)] := ⟨_, Tryz.underlying57, fun _ => by kernel_rfl⟩
theorem pl60 : Pl Tryz.prog 60 [(0, 1), (1, 1)] := ⟨_, Tryz.underlying60, fun _ => by kernel_rfl⟩
theorem pl64 : Pl Tryz.prog 64 [(0, 1), (1, 1), (2, 1), (3, 1)] := ⟨_, Tryz.underlying64, fun _ => by kernel_rfl⟩
theorem pl66 : Pl Tryz.prog 66 [(0, 1), (1, 1), (2, 1)] := ⟨_, Tryz.underlying66, fun _ => by kernel_rfl⟩
theorem pl88 : Pl Tryz.prog 88 [(0, 1), (1, 1), (2, 1)] := ⟨_, Tryz.underlying88, fun _ => by kernel_rfl⟩
theorem pl153 : Pl Tryz.prog 153 [(0, 1), (1, 1)] := ⟨_, Tryz.underlying153, fun _ => by kernel_rfl⟩
end Go.Proofs.YtpjacndlbjeehaaGreatDoor
