/-
  A part of the proof of TopAskedElsewhere: walks of single functions.
-/
import Derived.Test.YtdpdahpkdimopaaGreatQf
import Derived.Test.YtdpdahpkdimopaaGreatB
import Derived.KernelRfl
import Derived.Laws.Externs
set_option linter.unusedVariables false
set_option linter.unusedSimpArgs false
set_option maxRecDepth 100000
namespace Go.Proofs.YtdpdahpkdimopaaGreat
open Go Go.Px Sg
open Go.Px Sg
theorem add64_run (x y c : Int) (hx : 0 ≤ x) (hy : 0 ≤ y) (hc0 : 0 ≤ c) (hc : c ≤ 1) (w : World) :
    (callFunc 98 #[.int .u64 x, .int .u64 y, .int .u64 c]).run Tryz.prog w = .ok (.value (.tuple #[.int .u64 ((x + y + c) % 18446744073709551616), .int .u64 ((x + y + c) / 18446744073709551616)])) w := by
  rw [run_callFunc_extern Tryz.func98 (by kernel_rfl) (by kernel_rfl) (by kernel_rfl) (e := add64Entry) (by kernel_rfl), run_add64 x y c hx hy hc0 hc]
  rfl

theorem size70 (a : Int) (h0 : -9223372036854775808 ≤ a) (h1 : a ≤ 9223372036854775807) (w : World) : Calls Tryz.prog 70 #[.int .i64 a] w fun e w' => e = .returned (.int .u64 (a.natAbs : Int)) ∧ Gr w w' := by
  have hA := h0; have hB := h1; clear h0 h1
  refine enter Tryz.func70 rfl rfl rfl rfl (Cls.start w) ?_
  refine c_seq ?_
  refine c_text ?_
  refine l_y (Cls.gs _ _) (y_assign rfl) rfl ?_
  refine l_nil ?_
  refine e_then ?_
  refine CJ.weak (.c (t := 0) rfl .n) (fun _ h => h) ?_
  refine c_seq ?_
  refine c_seq ?_
  refine c_text ?_
  refine l_y (Cls.gs _ _) (y_move rfl) rfl ?_
  refine l_y (Cls.gs _ _) (y_lss rfl rfl) rfl ?_
  refine l_nil ?_
  refine e_then ?_
  refine CJ.weak (.c (t := 0) rfl (.c (t := 4) rfl .n)) (fun _ h => h) ?_
  refine c_cond rfl (fun h0 => ?_) (fun h0 => ?_)
  ·
    refine c_seq ?_
    refine c_text ?_
    refine l_y (Cls.gs _ _) (y_move rfl) rfl ?_
    refine l_y (Cls.gs _ _) (y_conv Tryz.underlying2 Tryz.underlying129 rfl) rfl ?_
    refine l_y (Cls.gs _ _) (y_neg rfl) rfl ?_
    refine l_y (Cls.gs _ _) (y_assign rfl) rfl ?_
    refine l_nil ?_
    refine e_then ?_
    refine CJ.weak (.c (t := 2) rfl .n) (fun _ h => h) ?_
    refine c_ret ?_
    refine e_then_ret ?_
    refine e_ret rfl (.t rfl .n) (fun wF hw => ?_)
    exact ⟨by simp only [outOf, u64w]; have := of_decide_eq_true h0; congr 2; omega, (hw.anc (w, []) (by simp)).below⟩
  ·
    refine c_skip ?_
    refine e_then ?_
    refine CJ.weak (.c (t := 0) rfl .n) (fun _ h => h) ?_
    refine c_seq ?_
    refine c_text ?_
    refine l_y (Cls.gs _ _) (y_move rfl) rfl ?_
    refine l_y (Cls.gs _ _) (y_conv Tryz.underlying2 Tryz.underlying129 rfl) rfl ?_
    refine l_y (Cls.gs _ _) (y_assign rfl) rfl ?_
    refine l_nil ?_
    refine e_then ?_
    refine CJ.weak (.c (t := 2) rfl .n) (fun _ h => h) ?_
    refine c_ret ?_
    refine e_ret rfl (.t rfl .n) (fun wF hw => ?_)
    exact ⟨by simp only [outOf, u64w]; have := of_decide_eq_false h0; congr 2; omega, (hw.anc (w, []) (by simp)).below⟩

theorem mul69 (x y : Int) (hx0 : 0 ≤ x) (hx1 : x < 18446744073709551616) (hy0 : 0 ≤ y) (hy1 : y < 18446744073709551616) (w : World) : Calls Tryz.prog 69 #[.int .u64 x, .int .u64 y] w fun e w' => e = .returned (.tuple #[.int .u64 (hi64 (x * y)), .int .u64 (lo64 (x * y))]) ∧ Gr w w' := by
  obtain ⟨m1, m2, m3, m4, m5, m6, m7, m8, m9⟩ := mul64_pure (x0 := x % 4294967296) (x1 := x / 4294967296) (y0 := y % 4294967296) (y1 := y / 4294967296) (by omega) (by omega) (by omega) (by omega) (by omega) (by omega) (by omega) (by omega)
  rw [show x / 4294967296 * 4294967296 + x % 4294967296 = x by omega, show y / 4294967296 * 4294967296 + y % 4294967296 = y by omega] at m8
  have n1 : 0 ≤ (x / 4294967296 * (y % 4294967296) + x % 4294967296 * (y % 4294967296) / 4294967296) := by omega
  refine enter Tryz.func69 rfl rfl rfl rfl (Cls.start w) ?_
  refine c_seq ?_
  refine c_text ?_
  refine l_y (Cls.gs _ _) (y_assign rfl) rfl ?_
  refine l_y (Cls.gs _ _) (y_assign rfl) rfl ?_
  refine l_nil ?_
  refine e_then ?_
  refine CJ.weak (.c (t := 0) rfl (.c (t := 1) rfl .n)) (fun _ h => h) ?_
  refine c_seq ?_
  refine c_text ?_
  refine l_y (Cls.gs _ _) (y_move rfl) rfl ?_
  refine l_y (Cls.gs _ _) ((y_band rfl rfl).lit (VU (band32 hx0 hx1))) rfl ?_
  refine l_y (Cls.gs _ _) (y_assign rfl) rfl ?_
  refine l_nil ?_
  refine e_then ?_
  refine CJ.weak (.c (t := 0) rfl (.c (t := 1) rfl (.c (t := 6) rfl .n))) (fun _ h => h) ?_
  refine c_seq ?_
  refine c_text ?_
  refine l_y (Cls.gs _ _) (y_move rfl) rfl ?_
  refine l_y (Cls.gs _ _) ((y_shr rfl rfl (by decide)).lit (VU shr32)) rfl ?_
  refine l_y (Cls.gs _ _) (y_assign rfl) rfl ?_
  refine l_nil ?_
  refine e_then ?_
  refine CJ.weak (.c (t := 0) rfl (.c (t := 1) rfl (.c (t := 6) rfl (.c (t := 7) rfl .n)))) (fun _ h => h) ?_
  refine c_seq ?_
  refine c_text ?_
  refine l_y (Cls.gs _ _) (y_move rfl) rfl ?_
  refine l_y (Cls.gs _ _) ((y_band rfl rfl).lit (VU (band32 hy0 hy1))) rfl ?_
  refine l_y (Cls.gs _ _) (y_assign rfl) rfl ?_
  refine l_nil ?_
  refine e_then ?_
  refine CJ.weak (.c (t := 0) rfl (.c (t := 1) rfl (.c (t := 6) rfl (.c (t := 7) rfl (.c (t := 8) rfl .n))))) (fun _ h => h) ?_
  refine c_seq ?_
  refine c_text ?_
  refine l_y (Cls.gs _ _) (y_move rfl) rfl ?_
  refine l_y (Cls.gs _ _) ((y_shr rfl rfl (by decide)).lit (VU shr32)) rfl ?_
  refine l_y (Cls.gs _ _) (y_assign rfl) rfl ?_
  refine l_nil ?_
  refine e_then ?_
  refine CJ.weak (.c (t := 0) rfl (.c (t := 1) rfl (.c (t := 6) rfl (.c (t := 7) rfl (.c (t := 8) rfl (.c (t := 9) rfl .n)))))) (fun _ h => h) ?_
  refine c_seq ?_
  refine c_text ?_
  refine l_y (Cls.gs _ _) (y_move rfl) rfl ?_
  refine l_y (Cls.gs _ _) (y_move rfl) rfl ?_
  refine l_y (Cls.gs _ _) ((y_mul rfl rfl).lit (VU (u64i m2 m1))) rfl ?_
  refine l_y (Cls.gs _ _) (y_assign rfl) rfl ?_
  refine l_nil ?_
  refine e_then ?_
  refine CJ.weak (.c (t := 0) rfl (.c (t := 1) rfl (.c (t := 6) rfl (.c (t := 7) rfl (.c (t := 8) rfl (.c (t := 9) rfl (.c (t := 10) rfl .n))))))) (fun _ h => h) ?_
  refine c_seq ?_
  refine c_text ?_
  refine l_y (Cls.gs _ _) (y_move rfl) rfl ?_
  refine l_y (Cls.gs _ _) (y_move rfl) rfl ?_
  refine l_y (Cls.gs _ _) ((y_mul rfl rfl).lit (VU (u64i m4 (by omega)))) rfl ?_
  refine l_y (Cls.gs _ _) (y_move rfl) rfl ?_
  refine l_y (Cls.gs _ _) ((y_shr rfl rfl (by decide)).lit (VU shr32)) rfl ?_
  refine l_y (Cls.gs _ _) ((y_add rfl rfl).lit (VU (u64i n1 m3))) rfl ?_
  refine l_y (Cls.gs _ _) (y_assign rfl) rfl ?_
  refine l_nil ?_
  refine e_then ?_
  refine CJ.weak (.c (t := 0) rfl (.c (t := 1) rfl (.c (t := 6) rfl (.c (t := 7) rfl (.c (t := 9) rfl (.c (t := 11) rfl .n)))))) (fun _ h => h) ?_
  refine c_seq ?_
  refine c_text ?_
  refine l_y (Cls.gs _ _) (y_move rfl) rfl ?_
  refine l_y (Cls.gs _ _) ((y_band rfl rfl).lit (VU (band32 n1 m3))) rfl ?_
  refine l_y (Cls.gs _ _) (y_assign rfl) rfl ?_
  refine l_nil ?_
  refine e_then ?_
  refine CJ.weak (.c (t := 0) rfl (.c (t := 1) rfl (.c (t := 6) rfl (.c (t := 7) rfl (.c (t := 9) rfl (.c (t := 11) rfl (.c (t := 12) rfl .n))))))) (fun _ h => h) ?_
  refine c_seq ?_
  refine c_text ?_
  refine l_y (Cls.gs _ _) (y_move rfl) rfl ?_
  refine l_y (Cls.gs _ _) ((y_shr rfl rfl (by decide)).lit (VU shr32)) rfl ?_
  refine l_y (Cls.gs _ _) (y_assign rfl) rfl ?_
  refine l_nil ?_
  refine e_then ?_
  refine CJ.weak (.c (t := 0) rfl (.c (t := 1) rfl (.c (t := 6) rfl (.c (t := 7) rfl (.c (t := 9) rfl (.c (t := 12) rfl (.c (t := 13) rfl .n))))))) (fun _ h => h) ?_
  refine c_seq ?_
  refine c_text ?_
  refine l_y (Cls.gs _ _) (y_move rfl) rfl ?_
  refine l_y (Cls.gs _ _) (y_move rfl) rfl ?_
  refine l_y (Cls.gs _ _) (y_move rfl) rfl ?_
  refine l_y (Cls.gs _ _) ((y_mul rfl rfl).lit (VU (u64i m6 (by omega)))) rfl ?_
  refine l_y (Cls.gs _ _) ((y_add rfl rfl).lit (VU (u64i (by omega) m5))) rfl ?_
  refine l_y (Cls.gs _ _) (y_assign rfl) rfl ?_
  refine l_nil ?_
  refine e_then ?_
  refine CJ.weak (.c (t := 0) rfl (.c (t := 1) rfl (.c (t := 7) rfl (.c (t := 9) rfl (.c (t := 12) rfl (.c (t := 13) rfl .n)))))) (fun _ h => h) ?_
  refine c_seq ?_
  refine c_text ?_
  refine l_y (Cls.gs _ _) (y_move rfl) rfl ?_
  refine l_y (Cls.gs _ _) (y_move rfl) rfl ?_
  refine l_y (Cls.gs _ _) ((y_mul rfl rfl).lit (VU (u64i m7 (by omega)))) rfl ?_
  refine l_y (Cls.gs _ _) (y_move rfl) rfl ?_
  refine l_y (Cls.gs _ _) ((y_add rfl rfl).lit (VU (u64i (by omega) (by omega)))) rfl ?_
  refine l_y (Cls.gs _ _) (y_move rfl) rfl ?_
  refine l_y (Cls.gs _ _) ((y_shr rfl rfl (by decide)).lit (VU shr32)) rfl ?_
  refine l_y (Cls.gs _ _) ((y_add rfl rfl).lit (VU (u64i (by omega) m9))) rfl ?_
  refine l_y (Cls.gs _ _) (y_assign rfl) rfl ?_
  refine l_nil ?_
  refine e_then ?_
  refine CJ.weak (.c (t := 0) rfl (.c (t := 1) rfl (.c (t := 4) rfl .n))) (fun _ h => h) ?_
  refine c_seq ?_
  refine c_text ?_
  refine l_y (Cls.gs _ _) (y_move rfl) rfl ?_
  refine l_y (Cls.gs _ _) (y_move rfl) rfl ?_
  refine l_y (Cls.gs _ _) ((y_mul rfl rfl).lit (VU (u64w _))) rfl ?_
  refine l_y (Cls.gs _ _) (y_assign rfl) rfl ?_
  refine l_nil ?_
  refine e_then ?_
  refine CJ.weak (.c (t := 4) rfl (.c (t := 5) rfl .n)) (fun _ h => h) ?_
  refine c_ret ?_
  refine e_ret rfl (.t rfl (.t rfl .n)) (fun wF hw => ?_)
  exact ⟨by simp only [outOf, m8]; rfl, (hw.anc (w, []) (by simp)).below⟩

theorem neg71 (p : Int) (h0 : 0 ≤ p) (h1 : p < 85070591730234615865843651857942052864) (w : World) : Calls Tryz.prog 71 #[.agg #[.int .i64 (hi64 p), .int .u64 (lo64 p)]] w fun e w' => e = .returned (.agg #[.int .i64 (hi64 (-p)), .int .u64 (lo64 (-p))]) ∧ Gr w w' := by
  have l0 : 0 ≤ lo64 p ∧ lo64 p < 18446744073709551616 := by unfold lo64; omega
  have l1 : 0 ≤ hi64 p ∧ hi64 p < 4611686018427387904 := by unfold hi64; omega
  refine enter Tryz.func71 rfl rfl rfl rfl (Cls.start w) ?_
  refine c_seq ?_
  refine c_text ?_
  refine l_n rfl (n_box rfl .a rfl) (fun b0 _ => ?_)
  refine l_n rfl (n_alloc ty131 .a rfl) (fun b1 _ => ?_)
  refine l_nil ?_
  refine e_then ?_
  refine CJ.weak (.c (t := 1) rfl (.c (t := 2) rfl .n)) (fun _ h => h) ?_
  refine c_seq ?_
  refine c_text ?_
  refine l_y (Cls.gs _ _) (y_fieldAddr rfl fa131_1) rfl ?_
  refine l_y (Cls.gs _ _) (y_load rfl (LoadAt.oneL (.s .z) ty129 (.s .z))) rfl ?_
  refine l_y (Cls.gs _ _) ((y_com rfl).lit (VU (com64 l0.1 l0.2))) rfl ?_
  refine l_y (Cls.gs _ _) (y_callx (.c rfl (.c rfl (.c rfl .n))) (add64_run _ _ _ (by omega) (by omega) (by omega) (by omega))) rfl ?_
  refine l_y (Cls.gs _ _) (y_move rfl) rfl ?_
  refine l_y (Cls.gs _ _) (y_extract rfl .z) rfl ?_
  refine l_y (Cls.gs _ _) (y_extract rfl (.s .z)) rfl ?_
  refine l_y (Cls.gs _ _) (y_assign rfl) rfl ?_
  refine l_y (Cls.gs _ _) (y_assign rfl) rfl ?_
  refine l_nil ?_
  refine e_then ?_
  refine CJ.weak (.c (t := 1) rfl (.c (t := 2) rfl (.c (t := 3) rfl (.c (t := 4) rfl .n)))) (fun _ h => h) ?_
  refine c_seq ?_
  refine c_text ?_
  refine l_y (Cls.gs _ _) (y_fieldAddr rfl fa131_0) rfl ?_
  refine l_y (Cls.gs _ _) (y_load rfl (LoadAt.oneL (.s .z) ty2 .z)) rfl ?_
  refine l_y (Cls.gs _ _) ((y_conv Tryz.underlying2 Tryz.underlying129 rfl).lit (VU (u64i l1.1 (by omega)))) rfl ?_
  refine l_y (Cls.gs _ _) ((y_com rfl).lit (VU (com64 l1.1 (by omega)))) rfl ?_
  refine l_y (Cls.gs _ _) (y_move rfl) rfl ?_
  refine l_y (Cls.gs _ _) (y_callx (.c rfl (.c rfl (.c rfl .n))) (add64_run _ _ _ (by omega) (by omega) (by omega) (by omega))) rfl ?_
  refine l_y (Cls.gs _ _) (y_move rfl) rfl ?_
  refine l_y (Cls.gs _ _) (y_extract rfl .z) rfl ?_
  refine l_y (Cls.gs _ _) (y_extract rfl (.s .z)) rfl ?_
  refine l_y (Cls.gs _ _) (y_assign rfl) rfl ?_
  refine l_y (Cls.gs _ _) (y_assign rfl) rfl ?_
  refine l_nil ?_
  refine e_then ?_
  refine CJ.weak (.c (t := 2) rfl (.c (t := 3) rfl (.c (t := 5) rfl .n))) (fun _ h => h) ?_
  refine c_seq ?_
  refine c_text ?_
  refine l_y (Cls.gs _ _) (y_move rfl) rfl ?_
  refine l_y (Cls.gs _ _) (y_conv Tryz.underlying129 Tryz.underlying2 rfl) rfl ?_
  refine l_y (Cls.gs _ _) (y_move rfl) rfl ?_
  refine l_y (Cls.gs _ _) (y_build pl131 ty131 .a (.c rfl (.c rfl .n)) (.c rfl (.o rfl) rfl rfl (.t .d) (.c rfl (.o rfl) rfl rfl (.s (.t .d)) .d))) rfl ?_
  refine l_n rfl (n_store rfl rfl ty131 .a rfl rfl .z (.t (.t .d))) (fun _ _ => ?_)
  refine l_nil ?_
  refine e_then ?_
  refine CJ.weak (.c (t := 2) rfl .n) (fun _ h => h) ?_
  refine c_ret ?_
  refine e_ret rfl (.c rfl (LoadAt.aggL .z ty131 (.t (.t .d))) .n) (fun wF hw => ?_)
  refine ⟨?_, (hw.anc (w, []) (by simp)).below⟩
  have e1 : ∀ c : Int, c = (18446744073709551615 - lo64 p + 1 + 0) / 18446744073709551616 → IntKind.i64.wrap ((18446744073709551615 - hi64 p + 0 + c) % 18446744073709551616) = hi64 (-p) := by
    intro c hc
    rw [i64w]; unfold hi64 lo64 at *; split <;> omega
  have e2 : (18446744073709551615 - lo64 p + 1 + 0) % 18446744073709551616 = lo64 (-p) := by unfold lo64; omega
  simp only [outOf, e1 _ rfl, e2]

theorem product56 (a b : Int) (ha0 : -9223372036854775807 ≤ a) (ha1 : a ≤ 9223372036854775807) (hb0 : -9223372036854775807 ≤ b) (hb1 : b ≤ 9223372036854775807) (w : World) : Calls Tryz.prog 56 #[.int .i64 a, .int .i64 b] w fun e w' => e = .returned (.agg #[.int .i64 (hi64 (a * b)), .int .u64 (lo64 (a * b))]) ∧ Gr w w' := by
  have hab := abs_mul' a b
  have hbd := mul_bound ha0 ha1 hb0 hb1 (by decide)
  have hnn : 0 ≤ (a.natAbs : Int) * (b.natAbs : Int) := Int.mul_nonneg (by omega) (by omega)
  generalize hp : (a.natAbs : Int) * (b.natAbs : Int) = p at *
  generalize hq : a * b = q at *
  have hpq : p = q ∨ p = -q := by split at hab <;> omega
  have l1 : 0 ≤ hi64 p ∧ hi64 p < 4611686018427387904 := by unfold hi64; omega
  refine enter Tryz.func56 rfl rfl rfl rfl (Cls.start w) ?_
  refine c_seq ?_
  refine c_text ?_
  refine l_n rfl (n_alloc ty131 .a rfl) (fun b0 _ => ?_)
  refine l_nil ?_
  refine e_then ?_
  refine c_seq ?_
  refine c_text ?_
  refine l_y (Cls.gs _ _) (y_move rfl) rfl ?_
  refine l_y (Cls.gs _ _) (y_call ent70 (.c rfl .n) (fun w _ => size70 _ (by omega) (by omega) w)) rfl ?_
  refine l_y (Cls.gs _ _) (y_move rfl) rfl ?_
  refine l_y (Cls.gs _ _) (y_call ent70 (.c rfl .n) (fun w _ => size70 _ (by omega) (by omega) w)) rfl ?_
  refine l_y (Cls.gs _ _) (y_call ent69 (.c rfl (.c rfl .n)) (fun w _ => hp ▸ mul69 _ _ (by omega) (by omega) (by omega) (by omega) w)) rfl ?_
  refine l_y (Cls.gs _ _) (y_move rfl) rfl ?_
  refine l_y (Cls.gs _ _) (y_extract rfl .z) rfl ?_
  refine l_y (Cls.gs _ _) (y_extract rfl (.s .z)) rfl ?_
  refine l_y (Cls.gs _ _) (y_assign rfl) rfl ?_
  refine l_y (Cls.gs _ _) (y_assign rfl) rfl ?_
  refine l_nil ?_
  refine e_then ?_
  refine CJ.weak (.c (t := 0) rfl (.c (t := 1) rfl (.c (t := 4) rfl (.c (t := 5) rfl (.c (t := 6) rfl .n))))) (fun _ h => h) ?_
  refine c_seq ?_
  refine c_text ?_
  refine l_y (Cls.gs _ _) (y_move rfl) rfl ?_
  refine l_y (Cls.gs _ _) ((y_conv Tryz.underlying129 Tryz.underlying2 rfl).lit (VI (w64 (by omega) (by omega)))) rfl ?_
  refine l_y (Cls.gs _ _) (y_move rfl) rfl ?_
  refine l_y (Cls.gs _ _) (y_build pl131 ty131 .a (.c rfl (.c rfl .n)) (.c rfl (.o rfl) rfl rfl (.t .d) (.c rfl (.o rfl) rfl rfl (.s (.t .d)) .d))) rfl ?_
  refine l_n rfl (n_alloc ty131 .a rfl) (fun b1 _ => ?_)
  refine l_n rfl (n_store rfl rfl ty131 .a rfl rfl .z (.t (.t .d))) (fun _ _ => ?_)
  refine l_nil ?_
  refine e_then ?_
  refine CJ.weak (.c (t := 0) rfl (.c (t := 1) rfl (.c (t := 4) rfl (.c (t := 7) rfl .n)))) (fun _ h => h) ?_
  refine c_seq ?_
  refine c_seq ?_
  refine c_text ?_
  refine l_y (Cls.gs _ _) (y_move rfl) rfl ?_
  refine l_y (Cls.gs _ _) (y_lss rfl rfl) rfl ?_
  refine l_y (Cls.gs _ _) (y_move rfl) rfl ?_
  refine l_y (Cls.gs _ _) (y_lss rfl rfl) rfl ?_
  refine l_y (Cls.gs _ _) (y_neb Tryz.underlying4 rfl rfl) rfl ?_
  refine l_nil ?_
  refine e_then ?_
  refine CJ.weak (.c (t := 4) rfl (.c (t := 7) rfl (.c (t := 24) rfl .n))) (fun _ h => h) ?_
  refine c_cond rfl (fun h0 => ?_) (fun h0 => ?_)
  ·
    refine c_seq ?_
    refine c_text ?_
    refine l_y (Cls.gs _ _) (y_load rfl (LoadAt.aggL .z ty131 (.t (.t .d)))) rfl ?_
    refine l_y (Cls.gs _ _) (y_call ent71 (.c rfl .n) (fun w _ => neg71 p hnn (by omega) w)) rfl ?_
    refine l_n rfl (n_store rfl rfl ty131 .a rfl rfl (.s .z) (.t (.t .d))) (fun _ _ => ?_)
    refine l_nil ?_
    refine e_then ?_
    refine CJ.weak (.c (t := 4) rfl .n) (fun _ h => h) ?_
    refine c_ret ?_
    refine e_then_ret ?_
    refine e_ret rfl (.c rfl (LoadAt.aggL (.s .z) ty131 (.t (.t .d))) .n) (fun wF hw => ?_)
    have e : -p = q := by
      rcases Bool.eq_false_or_eq_true (decide (a < 0)) with ha | ha <;> rcases Bool.eq_false_or_eq_true (decide (b < 0)) with hb | hb <;> simp [ha, hb] at h0 hab <;> omega
    exact ⟨by simp only [outOf, e], (hw.anc (w, []) (by simp)).below⟩
  ·
    refine c_skip ?_
    refine e_then ?_
    refine CJ.weak (.c (t := 4) rfl (.c (t := 7) rfl .n)) (fun _ h => h) ?_
    refine c_seq ?_
    refine c_text ?_
    refine l_y (Cls.gs _ _) (y_load rfl (LoadAt.aggL .z ty131 (.t (.t .d)))) rfl ?_
    refine l_n rfl (n_store rfl rfl ty131 .a rfl rfl (.s .z) (.t (.t .d))) (fun _ _ => ?_)
    refine l_nil ?_
    refine e_then ?_
    refine CJ.weak (.c (t := 4) rfl .n) (fun _ h => h) ?_
    refine c_ret ?_
    refine e_ret rfl (.c rfl (LoadAt.aggL (.s .z) ty131 (.t (.t .d))) .n) (fun wF hw => ?_)
    have e : p = q := by
      rcases Bool.eq_false_or_eq_true (decide (a < 0)) with ha | ha <;> rcases Bool.eq_false_or_eq_true (decide (b < 0)) with hb | hb <;> simp [ha, hb] at h0 hab <;> omega
    exact ⟨by simp only [outOf, e], (hw.anc (w, []) (by simp)).below⟩

end Go.Proofs.YtdpdahpkdimopaaGreat
