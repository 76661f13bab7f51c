/-
  A part of the proof of TopAskedElsewhere: walks of single functions.
-/
import Derived.Test.YtdpdahpkdimopaaGreatA
import Derived.Test.YtdpdahpkdimopaaGreatProg
import Derived.KernelRfl
set_option linter.unusedVariables false
set_option linter.unusedSimpArgs false
set_option maxRecDepth 100000
namespace Go.Proofs.YtdpdahpkdimopaaGreat
open Go Go.Px
theorem hmix : Tryz.prog.follows .mixedOrders = true := by kernel_rfl
theorem ty2 : Ty Tryz.prog 2 1 false (.int .i64 0) := ⟨fun _ => by kernel_rfl, fun _ => by kernel_rfl, fun _ => by kernel_rfl⟩
theorem ty3 : Ty Tryz.prog 3 1 false (.int .i64 0) := ⟨fun _ => by kernel_rfl, fun _ => by kernel_rfl, fun _ => by kernel_rfl⟩
theorem ty4 : Ty Tryz.prog 4 1 false (.bool false) := ⟨fun _ => by kernel_rfl, fun _ => by kernel_rfl, fun _ => by kernel_rfl⟩
theorem ty22 : Ty Tryz.prog 22 1 false (.slice none 0 0) := ⟨fun _ => by kernel_rfl, fun _ => by kernel_rfl, fun _ => by kernel_rfl⟩
theorem ty23 : Ty Tryz.prog 23 1 false (.slice none 0 0) := ⟨fun _ => by kernel_rfl, fun _ => by kernel_rfl, fun _ => by kernel_rfl⟩
theorem ty24 : Ty Tryz.prog 24 1 false (.int .i64 0) := ⟨fun _ => by kernel_rfl, fun _ => by kernel_rfl, fun _ => by kernel_rfl⟩
theorem ty25 : Ty Tryz.prog 25 1 false (.int .i64 0) := ⟨fun _ => by kernel_rfl, fun _ => by kernel_rfl, fun _ => by kernel_rfl⟩
theorem ty27 : Ty Tryz.prog 27 5 true (.agg #[.slice none 0 0, .int .i64 0, .int .i64 0, .int .i64 0, .int .i64 0]) := ⟨fun _ => by kernel_rfl, fun _ => by kernel_rfl, fun _ => by kernel_rfl⟩
theorem ty29 : Ty Tryz.prog 29 1 false (.slice none 0 0) := ⟨fun _ => by kernel_rfl, fun _ => by kernel_rfl, fun _ => by kernel_rfl⟩
theorem ty30 : Ty Tryz.prog 30 1 false (.int .i64 0) := ⟨fun _ => by kernel_rfl, fun _ => by kernel_rfl, fun _ => by kernel_rfl⟩
theorem ty36 : Ty Tryz.prog 36 3 true (.agg #[.int .i64 0, .int .i64 0, .int .i64 0]) := ⟨fun _ => by kernel_rfl, fun _ => by kernel_rfl, fun _ => by kernel_rfl⟩
theorem ty37 : Ty Tryz.prog 37 1 false (.int .i64 0) := ⟨fun _ => by kernel_rfl, fun _ => by kernel_rfl, fun _ => by kernel_rfl⟩
theorem ty39 : Ty Tryz.prog 39 4 true (.agg #[.int .i64 0, .int .i64 0, .int .i64 0, .int .i64 0]) := ⟨fun _ => by kernel_rfl, fun _ => by kernel_rfl, fun _ => by kernel_rfl⟩
theorem ty41 : Ty Tryz.prog 41 1 false (.int .i64 0) := ⟨fun _ => by kernel_rfl, fun _ => by kernel_rfl, fun _ => by kernel_rfl⟩
theorem ty43 : Ty Tryz.prog 43 3 true (.agg #[.int .i64 0, .int .i64 0, .bool false]) := ⟨fun _ => by kernel_rfl, fun _ => by kernel_rfl, fun _ => by kernel_rfl⟩
theorem ty45 : Ty Tryz.prog 45 9 true (.agg #[.int .i64 0, .int .i64 0, .bool false, .int .i64 0, .int .i64 0, .bool false, .int .i64 0, .int .i64 0, .bool false]) := ⟨fun _ => by kernel_rfl, fun _ => by kernel_rfl, fun _ => by kernel_rfl⟩
theorem ty47 : Ty Tryz.prog 47 3 true (.agg #[.int .i64 0, .int .i64 0, .bool false]) := ⟨fun _ => by kernel_rfl, fun _ => by kernel_rfl, fun _ => by kernel_rfl⟩
theorem ty49 : Ty Tryz.prog 49 3 true (.agg #[.int .i64 0, .int .i64 0, .bool false]) := ⟨fun _ => by kernel_rfl, fun _ => by kernel_rfl, fun _ => by kernel_rfl⟩
theorem ty50 : Ty Tryz.prog 50 1 false (.slice none 0 0) := ⟨fun _ => by kernel_rfl, fun _ => by kernel_rfl, fun _ => by kernel_rfl⟩
theorem ty52 : Ty Tryz.prog 52 18 true (.agg #[.int .i64 0, .int .i64 0, .int .i64 0, .bool false, .int .i64 0, .int .i64 0, .bool false, .int .i64 0, .int .i64 0, .bool false, .int .i64 0, .int .i64 0, .bool false, .int .i64 0, .int .i64 0, .bool false, .slice none 0 0, .int .i64 0]) := ⟨fun _ => by kernel_rfl, fun _ => by kernel_rfl, fun _ => by kernel_rfl⟩
theorem ty53 : Ty Tryz.prog 53 1 false (.pointer none) := ⟨fun _ => by kernel_rfl, fun _ => by kernel_rfl, fun _ => by kernel_rfl⟩
theorem ty60 : Ty Tryz.prog 60 2 true (.agg #[.int .i64 0, .int .i64 0]) := ⟨fun _ => by kernel_rfl, fun _ => by kernel_rfl, fun _ => by kernel_rfl⟩
theorem ty64 : Ty Tryz.prog 64 1 false (.int .i64 0) := ⟨fun _ => by kernel_rfl, fun _ => by kernel_rfl, fun _ => by kernel_rfl⟩
theorem ty66 : Ty Tryz.prog 66 2 true (.agg #[.int .i64 0, .int .i64 0]) := ⟨fun _ => by kernel_rfl, fun _ => by kernel_rfl, fun _ => by kernel_rfl⟩
theorem ty70 : Ty Tryz.prog 70 4 true (.agg #[.int .i64 0, .int .i64 0, .int .i64 0, .int .i64 0]) := ⟨fun _ => by kernel_rfl, fun _ => by kernel_rfl, fun _ => by kernel_rfl⟩
theorem ty71 : Ty Tryz.prog 71 1 false (.int .i64 0) := ⟨fun _ => by kernel_rfl, fun _ => by kernel_rfl, fun _ => by kernel_rfl⟩
theorem ty78 : Ty Tryz.prog 78 1 false (.slice none 0 0) := ⟨fun _ => by kernel_rfl, fun _ => by kernel_rfl, fun _ => by kernel_rfl⟩
theorem ty80 : Ty Tryz.prog 80 4 true (.agg #[.slice none 0 0, .int .i64 0, .slice none 0 0, .slice none 0 0]) := ⟨fun _ => by kernel_rfl, fun _ => by kernel_rfl, fun _ => by kernel_rfl⟩
theorem ty84 : Ty Tryz.prog 84 1 false (.pointer none) := ⟨fun _ => by kernel_rfl, fun _ => by kernel_rfl, fun _ => by kernel_rfl⟩
theorem ty87 : Ty Tryz.prog 87 14 true (.agg #[.int .i64 0, .int .i64 0, .bool false, .int .i64 0, .int .i64 0, .bool false, .int .i64 0, .int .i64 0, .bool false, .int .i64 0, .int .i64 0, .bool false, .slice none 0 0, .slice none 0 0]) := ⟨fun _ => by kernel_rfl, fun _ => by kernel_rfl, fun _ => by kernel_rfl⟩
theorem ty109 : Ty Tryz.prog 109 3 true (.agg #[.int .i64 0, .int .i64 0, .int .i64 0]) := ⟨fun _ => by kernel_rfl, fun _ => by kernel_rfl, fun _ => by kernel_rfl⟩
theorem ty117 : Ty Tryz.prog 117 9 true (.agg #[.int .i64 0, .int .i64 0, .bool false, .int .i64 0, .int .i64 0, .bool false, .int .i64 0, .int .i64 0, .bool false]) := ⟨fun _ => by kernel_rfl, fun _ => by kernel_rfl, fun _ => by kernel_rfl⟩
theorem ty129 : Ty Tryz.prog 129 1 false (.int .u64 0) := ⟨fun _ => by kernel_rfl, fun _ => by kernel_rfl, fun _ => by kernel_rfl⟩
theorem ty131 : Ty Tryz.prog 131 2 true (.agg #[.int .i64 0, .int .u64 0]) := ⟨fun _ => by kernel_rfl, fun _ => by kernel_rfl, fun _ => by kernel_rfl⟩
theorem ty139 : Ty Tryz.prog 139 9 true (.agg #[.int .i64 0, .int .i64 0, .int .i64 0, .int .i64 0, .int .i64 0, .int .i64 0, .int .i64 0, .int .i64 0, .int .i64 0]) := ⟨fun _ => by kernel_rfl, fun _ => by kernel_rfl, fun _ => by kernel_rfl⟩
theorem ti3 : TI Tryz.prog 3 1 140000 := ti_of (by kernel_rfl)
theorem ti39 : TI Tryz.prog 39 4 140000 := ti_of (by kernel_rfl)
theorem ti52 : TI Tryz.prog 52 18 140000 := ti_of (by kernel_rfl)
theorem ti60 : TI Tryz.prog 60 2 140000 := ti_of (by kernel_rfl)
theorem ti84 : TI Tryz.prog 84 1 140000 := ti_of (by kernel_rfl)
theorem fa27_0 : FA Tryz.prog 27 0 0 := fa_of Tryz.underlying27 rfl rfl ty23.size
theorem fa27_1 : FA Tryz.prog 27 1 1 := fa_of Tryz.underlying27 rfl rfl ty24.size
theorem fa27_2 : FA Tryz.prog 27 2 2 := fa_of Tryz.underlying27 rfl rfl ty24.size
theorem fa27_3 : FA Tryz.prog 27 3 3 := fa_of Tryz.underlying27 rfl rfl ty25.size
theorem fa27_4 : FA Tryz.prog 27 4 4 := fa_of Tryz.underlying27 rfl rfl ty3.size
theorem fa36_0 : FA Tryz.prog 36 0 0 := fa_of Tryz.underlying36 rfl rfl ty2.size
theorem fa36_1 : FA Tryz.prog 36 1 1 := fa_of Tryz.underlying36 rfl rfl ty2.size
theorem fa36_2 : FA Tryz.prog 36 2 2 := fa_of Tryz.underlying36 rfl rfl ty2.size
theorem fa39_0 : FA Tryz.prog 39 0 0 := fa_of Tryz.underlying39 rfl rfl ty36.size
theorem fa39_1 : FA Tryz.prog 39 1 3 := fa_of Tryz.underlying39 rfl rfl ty37.size
theorem fa43_0 : FA Tryz.prog 43 0 0 := fa_of Tryz.underlying43 rfl rfl ty41.size
theorem fa43_1 : FA Tryz.prog 43 1 1 := fa_of Tryz.underlying43 rfl rfl ty41.size
theorem fa43_2 : FA Tryz.prog 43 2 2 := fa_of Tryz.underlying43 rfl rfl ty4.size
theorem fa45_0 : FA Tryz.prog 45 0 0 := fa_of Tryz.underlying45 rfl rfl ty43.size
theorem fa45_1 : FA Tryz.prog 45 1 3 := fa_of Tryz.underlying45 rfl rfl ty43.size
theorem fa45_2 : FA Tryz.prog 45 2 6 := fa_of Tryz.underlying45 rfl rfl ty43.size
theorem fa47_0 : FA Tryz.prog 47 0 0 := fa_of Tryz.underlying47 rfl rfl ty25.size
theorem fa47_1 : FA Tryz.prog 47 1 1 := fa_of Tryz.underlying47 rfl rfl ty25.size
theorem fa47_2 : FA Tryz.prog 47 2 2 := fa_of Tryz.underlying47 rfl rfl ty4.size
theorem fa49_0 : FA Tryz.prog 49 0 0 := fa_of Tryz.underlying49 rfl rfl ty24.size
theorem fa49_1 : FA Tryz.prog 49 1 1 := fa_of Tryz.underlying49 rfl rfl ty24.size
theorem fa49_2 : FA Tryz.prog 49 2 2 := fa_of Tryz.underlying49 rfl rfl ty4.size
theorem fa52_0 : FA Tryz.prog 52 0 0 := fa_of Tryz.underlying52 rfl rfl ty3.size
theorem fa52_1 : FA Tryz.prog 52 1 1 := fa_of Tryz.underlying52 rfl rfl ty45.size
theorem fa52_2 : FA Tryz.prog 52 2 10 := fa_of Tryz.underlying52 rfl rfl ty47.size
theorem fa52_3 : FA Tryz.prog 52 3 13 := fa_of Tryz.underlying52 rfl rfl ty49.size
theorem fa52_4 : FA Tryz.prog 52 4 16 := fa_of Tryz.underlying52 rfl rfl ty50.size
theorem fa52_5 : FA Tryz.prog 52 5 17 := fa_of Tryz.underlying52 rfl rfl ty3.size
theorem fa60_0 : FA Tryz.prog 60 0 0 := fa_of Tryz.underlying60 rfl rfl ty3.size
theorem fa70_0 : FA Tryz.prog 70 0 0 := fa_of Tryz.underlying70 rfl rfl ty2.size
theorem fa70_1 : FA Tryz.prog 70 1 1 := fa_of Tryz.underlying70 rfl rfl ty2.size
theorem fa70_2 : FA Tryz.prog 70 2 2 := fa_of Tryz.underlying70 rfl rfl ty2.size
theorem fa70_3 : FA Tryz.prog 70 3 3 := fa_of Tryz.underlying70 rfl rfl ty2.size
theorem fa80_0 : FA Tryz.prog 80 0 0 := fa_of Tryz.underlying80 rfl rfl ty22.size
theorem fa80_2 : FA Tryz.prog 80 2 2 := fa_of Tryz.underlying80 rfl rfl ty78.size
theorem fa80_3 : FA Tryz.prog 80 3 3 := fa_of Tryz.underlying80 rfl rfl ty50.size
theorem fa87_0 : FA Tryz.prog 87 0 0 := fa_of Tryz.underlying87 rfl rfl ty45.size
theorem fa87_1 : FA Tryz.prog 87 1 9 := fa_of Tryz.underlying87 rfl rfl ty49.size
theorem fa87_2 : FA Tryz.prog 87 2 12 := fa_of Tryz.underlying87 rfl rfl ty78.size
theorem fa87_3 : FA Tryz.prog 87 3 13 := fa_of Tryz.underlying87 rfl rfl ty50.size
theorem fa131_0 : FA Tryz.prog 131 0 0 := fa_of Tryz.underlying131 rfl rfl ty2.size
theorem fa131_1 : FA Tryz.prog 131 1 1 := fa_of Tryz.underlying131 rfl rfl ty129.size
theorem ent4 : Ent Tryz.prog 4 := ent_of Tryz.func4 rfl (by decide +kernel)
theorem ent5 : Ent Tryz.prog 5 := ent_of Tryz.func5 rfl (by decide +kernel)
theorem ent6 : Ent Tryz.prog 6 := ent_of Tryz.func6 rfl (by decide +kernel)
theorem ent7 : Ent Tryz.prog 7 := ent_of Tryz.func7 rfl (by decide +kernel)
theorem ent8 : Ent Tryz.prog 8 := ent_of Tryz.func8 rfl (by decide +kernel)
theorem ent9 : Ent Tryz.prog 9 := ent_of Tryz.func9 rfl (by decide +kernel)
theorem ent10 : Ent Tryz.prog 10 := ent_of Tryz.func10 rfl (by decide +kernel)
theorem ent11 : Ent Tryz.prog 11 := ent_of Tryz.func11 rfl (by decide +kernel)
theorem ent12 : Ent Tryz.prog 12 := ent_of Tryz.func12 rfl (by decide +kernel)
theorem ent13 : Ent Tryz.prog 13 := ent_of Tryz.func13 rfl (by decide +kernel)
theorem ent14 : Ent Tryz.prog 14 := ent_of Tryz.func14 rfl (by decide +kernel)
theorem ent15 : Ent Tryz.prog 15 := ent_of Tryz.func15 rfl (by decide +kernel)
theorem ent16 : Ent Tryz.prog 16 := ent_of Tryz.func16 rfl (by decide +kernel)
theorem ent17 : Ent Tryz.prog 17 := ent_of Tryz.func17 rfl (by decide +kernel)
theorem ent18 : Ent Tryz.prog 18 := ent_of Tryz.func18 rfl (by decide +kernel)
theorem ent19 : Ent Tryz.prog 19 := ent_of Tryz.func19 rfl (by decide +kernel)
theorem ent20 : Ent Tryz.prog 20 := ent_of Tryz.func20 rfl (by decide +kernel)
theorem ent21 : Ent Tryz.prog 21 := ent_of Tryz.func21 rfl (by decide +kernel)
theorem ent22 : Ent Tryz.prog 22 := ent_of Tryz.func22 rfl (by decide +kernel)
theorem ent23 : Ent Tryz.prog 23 := ent_of Tryz.func23 rfl (by decide +kernel)
theorem ent24 : Ent Tryz.prog 24 := ent_of Tryz.func24 rfl (by decide +kernel)
theorem ent25 : Ent Tryz.prog 25 := ent_of Tryz.func25 rfl (by decide +kernel)
theorem ent26 : Ent Tryz.prog 26 := ent_of Tryz.func26 rfl (by decide +kernel)
theorem ent27 : Ent Tryz.prog 27 := ent_of Tryz.func27 rfl (by decide +kernel)
theorem ent28 : Ent Tryz.prog 28 := ent_of Tryz.func28 rfl (by decide +kernel)
theorem ent29 : Ent Tryz.prog 29 := ent_of Tryz.func29 rfl (by decide +kernel)
theorem ent30 : Ent Tryz.prog 30 := ent_of Tryz.func30 rfl (by decide +kernel)
theorem ent32 : Ent Tryz.prog 32 := ent_of Tryz.func32 rfl (by decide +kernel)
theorem ent33 : Ent Tryz.prog 33 := ent_of Tryz.func33 rfl (by decide +kernel)
theorem ent34 : Ent Tryz.prog 34 := ent_of Tryz.func34 rfl (by decide +kernel)
theorem ent35 : Ent Tryz.prog 35 := ent_of Tryz.func35 rfl (by decide +kernel)
theorem ent36 : Ent Tryz.prog 36 := ent_of Tryz.func36 rfl (by decide +kernel)
theorem ent37 : Ent Tryz.prog 37 := ent_of Tryz.func37 rfl (by decide +kernel)
theorem ent38 : Ent Tryz.prog 38 := ent_of Tryz.func38 rfl (by decide +kernel)
theorem ent39 : Ent Tryz.prog 39 := ent_of Tryz.func39 rfl (by decide +kernel)
theorem ent40 : Ent Tryz.prog 40 := ent_of Tryz.func40 rfl (by decide +kernel)
theorem ent41 : Ent Tryz.prog 41 := ent_of Tryz.func41 rfl (by decide +kernel)
theorem ent42 : Ent Tryz.prog 42 := ent_of Tryz.func42 rfl (by decide +kernel)
theorem ent43 : Ent Tryz.prog 43 := ent_of Tryz.func43 rfl (by decide +kernel)
theorem ent44 : Ent Tryz.prog 44 := ent_of Tryz.func44 rfl (by decide +kernel)
theorem ent45 : Ent Tryz.prog 45 := ent_of Tryz.func45 rfl (by decide +kernel)
theorem ent46 : Ent Tryz.prog 46 := ent_of Tryz.func46 rfl (by decide +kernel)
theorem ent47 : Ent Tryz.prog 47 := ent_of Tryz.func47 rfl (by decide +kernel)
theorem ent48 : Ent Tryz.prog 48 := ent_of Tryz.func48 rfl (by decide +kernel)
theorem ent49 : Ent Tryz.prog 49 := ent_of Tryz.func49 rfl (by decide +kernel)
theorem ent53 : Ent Tryz.prog 53 := ent_of Tryz.func53 rfl (by decide +kernel)
theorem ent54 : Ent Tryz.prog 54 := ent_of Tryz.func54 rfl (by decide +kernel)
theorem ent55 : Ent Tryz.prog 55 := ent_of Tryz.func55 rfl (by decide +kernel)
theorem ent56 : Ent Tryz.prog 56 := ent_of Tryz.func56 rfl (by decide +kernel)
theorem ent57 : Ent Tryz.prog 57 := ent_of Tryz.func57 rfl (by decide +kernel)
theorem ent58 : Ent Tryz.prog 58 := ent_of Tryz.func58 rfl (by decide +kernel)
theorem ent61 : Ent Tryz.prog 61 := ent_of Tryz.func61 rfl (by decide +kernel)
theorem ent62 : Ent Tryz.prog 62 := ent_of Tryz.func62 rfl (by decide +kernel)
theorem ent63 : Ent Tryz.prog 63 := ent_of Tryz.func63 rfl (by decide +kernel)
theorem ent64 : Ent Tryz.prog 64 := ent_of Tryz.func64 rfl (by decide +kernel)
theorem ent65 : Ent Tryz.prog 65 := ent_of Tryz.func65 rfl (by decide +kernel)
theorem ent66 : Ent Tryz.prog 66 := ent_of Tryz.func66 rfl (by decide +kernel)
theorem ent69 : Ent Tryz.prog 69 := ent_of Tryz.func69 rfl (by decide +kernel)
theorem ent70 : Ent Tryz.prog 70 := ent_of Tryz.func70 rfl (by decide +kernel)
theorem ent71 : Ent Tryz.prog 71 := ent_of Tryz.func71 rfl (by decide +kernel)
theorem ent72 : Ent Tryz.prog 72 := ent_of Tryz.func72 rfl (by decide +kernel)
theorem ent73 : Ent Tryz.prog 73 := ent_of Tryz.func73 rfl (by decide +kernel)
theorem ent74 : Ent Tryz.prog 74 := ent_of Tryz.func74 rfl (by decide +kernel)
theorem ent85 : Ent Tryz.prog 85 := ent_of Tryz.func85 rfl (by decide +kernel)
theorem ent86 : Ent Tryz.prog 86 := ent_of Tryz.func86 rfl (by decide +kernel)
theorem ent87 : Ent Tryz.prog 87 := ent_of Tryz.func87 rfl (by decide +kernel)
theorem ent88 : Ent Tryz.prog 88 := ent_of Tryz.func88 rfl (by decide +kernel)
theorem ent99 : Ent Tryz.prog 99 := ent_of Tryz.func99 rfl (by decide +kernel)
theorem ent100 : Ent Tryz.prog 100 := ent_of Tryz.func100 rfl (by decide +kernel)
theorem pl36 : Pl Tryz.prog 36 [(0, 1), (1, 1), (2, 1)] := ⟨_, Tryz.underlying36, fun _ => by kernel_rfl⟩
theorem pl43 : Pl Tryz.prog 43 [(0, 1), (1, 1), (2, 1)] := ⟨_, Tryz.underlying43, fun _ => by kernel_rfl⟩
theorem pl45 : Pl Tryz.prog 45 [(0, 3), (3, 3), (6, 3)] := ⟨_, Tryz.underlying45, fun _ => by kernel_rfl⟩
theorem pl49 : Pl Tryz.prog 49 [(0, 1), (1, 1), (2, 1)] := ⟨_, Tryz.underlying49, fun _ => by kernel_rfl⟩
theorem pl60 : Pl Tryz.prog 60 [(0, 1), (1, 1)] := ⟨_, Tryz.underlying60, fun _ => by kernel_rfl⟩
theorem pl66 : Pl Tryz.prog 66 [(0, 1), (1, 1)] := ⟨_, Tryz.underlying66, fun _ => by kernel_rfl⟩
theorem pl70 : Pl Tryz.prog 70 [(0, 1), (1, 1), (2, 1), (3, 1)] := ⟨_, Tryz.underlying70, fun _ => by kernel_rfl⟩
theorem pl80 : Pl Tryz.prog 80 [(0, 1), (1, 1), (2, 1), (3, 1)] := ⟨_, Tryz.underlying80, fun _ => by kernel_rfl⟩
theorem pl87 : Pl Tryz.prog 87 [(0, 9), (9, 3), (12, 1), (13, 1)] := ⟨_, Tryz.underlying87, fun _ => by kernel_rfl⟩
theorem pl131 : Pl Tryz.prog 131 [(0, 1), (1, 1)] := ⟨_, Tryz.underlying131, fun _ => by kernel_rfl⟩
end Go.Proofs.YtdpdahpkdimopaaGreat
