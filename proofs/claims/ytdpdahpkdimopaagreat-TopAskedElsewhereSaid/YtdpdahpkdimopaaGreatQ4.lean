/-
  A part of the proof of TopAskedElsewhere: walks of single functions.
-/
import Derived.Test.YtdpdahpkdimopaaGreatQf
import Derived.Test.YtdpdahpkdimopaaGreatB
import Derived.Test.YtdpdahpkdimopaaGreatQ2
import Derived.Test.YtdpdahpkdimopaaGreatQ3
import Derived.KernelRfl
set_option linter.unusedVariables false
set_option linter.unusedSimpArgs false
set_option maxRecDepth 100000
namespace Go.Proofs.YtdpdahpkdimopaaGreat
open Go Go.Px Sg
open Go.Px Sg
theorem sqrtMul55 (a b : Int) (ha0 : 0 ≤ a) (ha1 : a ≤ 9223372036854775807) (hb0 : 0 ≤ b) (hb1 : b ≤ 9223372036854775807) (w : World) : Calls Tryz.prog 55 #[.int .i64 a, .int .i64 b] w fun e w' => e = .returned (.int .i64 (isq (a * b))) ∧ Gr w w' := by
  have hn0 : 0 ≤ a * b := Int.mul_nonneg ha0 hb0
  have hn1 : a * b ≤ 9223372036854775807 * 9223372036854775807 := Int.mul_le_mul ha1 hb1 hb0 (by decide)
  have hneg : (decide (a < 0) || decide (b < 0)) = false := by rw [decide_eq_false (by omega), decide_eq_false (by omega)]; rfl
  refine enter Tryz.func55 rfl rfl rfl rfl (Cls.start w) ?_
  refine c_seq ?_
  refine c_text ?_
  refine l_y (Cls.gs _ _) (y_assign rfl) rfl ?_
  refine l_nil ?_
  refine e_then ?_
  refine CJ.weak (.c (t := 0) rfl (.c (t := 1) rfl .n)) (fun _ h => h) ?_
  refine c_seq ?_
  refine c_seq ?_
  refine c_text ?_
  refine l_y (Cls.gs _ _) (y_move rfl) rfl ?_
  refine l_y (Cls.gs _ _) (y_lss rfl rfl) rfl ?_
  refine l_y (Cls.gs _ _) (y_move rfl) rfl ?_
  refine l_g (s := 13) (Cls.gs _ _) (by kernel_rfl) rfl (beq_f _) (fun hg => y_move rfl) rfl ?_
  refine l_g (s := 13) (Cls.gs _ _) (by kernel_rfl) rfl (beq_f _) (fun hg => y_lss (gvt hg rfl) rfl) rfl ?_
  refine l_y (Cls.gs _ _) (y_or rfl rfl rfl) rfl ?_
  refine l_nil ?_
  refine e_then ?_
  refine CJ.weak (.c (t := 0) rfl (.c (t := 1) rfl (.c (t := 16) rfl .n))) (fun _ h => h) ?_
  refine c_cond rfl (fun h0 => ?_) (fun h0 => ?_)
  · rw [hneg] at h0; cases h0
  ·
    refine c_skip ?_
    refine e_then ?_
    refine CJ.weak (.c (t := 0) rfl (.c (t := 1) rfl .n)) (fun _ h => h) ?_
    refine c_seq ?_
    refine c_text ?_
    refine l_y (Cls.gs _ _) (y_move rfl) rfl ?_
    refine l_y (Cls.gs _ _) ((y_conv Tryz.underlying2 Tryz.underlying129 rfl).lit (VU (u64i (by omega) (by omega)))) rfl ?_
    refine l_y (Cls.gs _ _) (y_move rfl) rfl ?_
    refine l_y (Cls.gs _ _) ((y_conv Tryz.underlying2 Tryz.underlying129 rfl).lit (VU (u64i (by omega) (by omega)))) rfl ?_
    refine l_y (Cls.gs _ _) (y_call ent69 (.c rfl (.c rfl .n)) (fun w _ => mul69 _ _ (by omega) (by omega) (by omega) (by omega) w)) rfl ?_
    refine l_y (Cls.gs _ _) (y_move rfl) rfl ?_
    refine l_y (Cls.gs _ _) (y_extract rfl .z) rfl ?_
    refine l_y (Cls.gs _ _) (y_extract rfl (.s .z)) rfl ?_
    refine l_y (Cls.gs _ _) (y_assign rfl) rfl ?_
    refine l_y (Cls.gs _ _) (y_assign rfl) rfl ?_
    refine l_nil ?_
    refine e_then ?_
    refine CJ.weak (.c (t := 5) rfl (.c (t := 6) rfl .n)) (fun _ h => h) ?_
    refine c_seq ?_
    refine c_text ?_
    refine l_y (Cls.gs _ _) (y_assign rfl) rfl ?_
    refine l_nil ?_
    refine e_then ?_
    refine c_seq ?_
    refine c_seq ?_
    refine c_text ?_
    refine l_y (Cls.gs _ _) (y_assign rfl) rfl ?_
    refine l_nil ?_
    refine e_then ?_
    refine c_block ?_
    refine CJ.weak (.c (t := 7) rfl (.c (t := 8) rfl (.c (t := 5) rfl (.c (t := 6) rfl .n)))) (fun _ h => h) ?_
    refine c_loopC (SqInv (a * b)) (fun x => [(7, .int .u64 x.2), (8, .int .u64 (bitv x.1))]) (fun x => x.1) ((63, 0)) (sq_start hn0 (by omega)) ?_
    rintro ⟨j, r⟩ hI
    refine c_seq ?_
    refine c_seq ?_
    refine c_text ?_
    refine l_y (Cls.gs _ _) (y_move rfl) rfl ?_
    refine l_y (Cls.gs _ _) (y_gtr rfl rfl) rfl ?_
    refine l_nil ?_
    refine e_then ?_
    refine CJ.weak (.c (t := 5) rfl (.c (t := 6) rfl (.c (t := 7) rfl (.c (t := 8) rfl (.c (t := 26) rfl .n))))) (fun _ h => h) ?_
    refine c_cond rfl (fun h1 => ?_) (fun h1 => ?_)
    · obtain ⟨m, rfl⟩ := bitv_pos (j := j) h1
      obtain ⟨i1, i2, ⟨q, i3⟩, i4, i5, i6⟩ := id hI
      simp only at i3; subst i3
      refine c_skip ?_
      refine e_then ?_
      refine CJ.weak (.c (t := 5) rfl (.c (t := 6) rfl (.c (t := 7) rfl (.c (t := 8) rfl .n)))) (fun _ h => h) ?_
      refine c_seq ?_
      refine c_block ?_
      refine c_seq ?_
      refine c_text ?_
      refine l_y (Cls.gs _ _) (y_move rfl) rfl ?_
      refine l_y (Cls.gs _ _) (y_move rfl) rfl ?_
      refine l_y (Cls.gs _ _) ((y_bor rfl rfl).lit (VU (or_bit i4))) rfl ?_
      refine l_y (Cls.gs _ _) (y_move rfl) rfl ?_
      refine l_y (Cls.gs _ _) (y_move rfl) rfl ?_
      refine l_y (Cls.gs _ _) ((y_bor rfl rfl).lit (VU (or_bit i4))) rfl ?_
      refine l_y (Cls.gs _ _) (y_call ent69 (.c rfl (.c rfl .n)) (fun w _ => mul69 _ _ (sq_rng hI).1 (sq_rng hI).2 (sq_rng hI).1 (sq_rng hI).2 w)) rfl ?_
      refine l_y (Cls.gs _ _) (y_move rfl) rfl ?_
      refine l_y (Cls.gs _ _) (y_extract rfl .z) rfl ?_
      refine l_y (Cls.gs _ _) (y_extract rfl (.s .z)) rfl ?_
      refine l_y (Cls.gs _ _) (y_assign rfl) rfl ?_
      refine l_y (Cls.gs _ _) (y_assign rfl) rfl ?_
      refine l_nil ?_
      refine e_then ?_
      refine CJ.weak (.c (t := 5) rfl (.c (t := 6) rfl (.c (t := 7) rfl (.c (t := 8) rfl (.c (t := 9) rfl (.c (t := 10) rfl .n)))))) (fun _ h => h) ?_
      refine c_seq ?_
      refine c_text ?_
      refine l_y (Cls.gs _ _) (y_move rfl) rfl ?_
      refine l_y (Cls.gs _ _) (y_move rfl) rfl ?_
      refine l_y (Cls.gs _ _) (y_lss rfl rfl) rfl ?_
      refine l_y (Cls.gs _ _) (y_move rfl) rfl ?_
      refine l_g (s := 42) (Cls.gs _ _) (by kernel_rfl) rfl (beq_f _) (fun hg => y_move rfl) rfl ?_
      refine l_g (s := 42) (Cls.gs _ _) (by kernel_rfl) rfl (beq_f _) (fun hg => y_move rfl) rfl ?_
      refine l_g (s := 42) (Cls.gs _ _) (by kernel_rfl) rfl (beq_f _) (fun hg => y_eql (gvt hg rfl) (gvt hg rfl)) rfl ?_
      refine l_g (s := 42) (Cls.gs _ _) (by kernel_rfl) rfl (beq_f _) (fun hg => y_move (gvt hg rfl)) rfl ?_
      refine l_gg (s := 46) (Cls.gs _ _) (by kernel_rfl) rfl (beq_t _) (fun hg => y_move rfl) rfl ?_
      refine l_gg (s := 46) (Cls.gs _ _) (by kernel_rfl) rfl (beq_t _) (fun hg => y_move rfl) rfl ?_
      refine l_gg (s := 46) (Cls.gs _ _) (by kernel_rfl) rfl (beq_t _) (fun hg => y_leq (gvt hg rfl) (gvt hg rfl)) rfl ?_
      refine l_g (s := 42) (Cls.gs _ _) (by kernel_rfl) rfl (beq_f _) (fun hg => y_and (gvt hg rfl) (gva hg rfl) rfl) rfl ?_
      refine l_y (Cls.gs _ _) (y_or rfl rfl rfl) rfl ?_
      refine l_nil ?_
      refine e_then ?_
      refine CJ.weak (.c (t := 5) rfl (.c (t := 6) rfl (.c (t := 7) rfl (.c (t := 8) rfl (.c (t := 51) rfl .n))))) (fun _ h => h) ?_
      refine c_cond rfl (fun h2 => ?_) (fun h2 => ?_)
      · rw [le_split] at h2
        refine c_text ?_
        refine l_y (Cls.gs _ _) (y_move rfl) rfl ?_
        refine l_y (Cls.gs _ _) (y_move rfl) rfl ?_
        refine l_y (Cls.gs _ _) ((y_bor rfl rfl).lit (VU (or_bit i4))) rfl ?_
        refine l_y (Cls.gs _ _) (y_assign rfl) rfl ?_
        refine l_nil ?_
        refine e_block ?_
        refine e_then ?_
        refine CJ.weak (.c (t := 5) rfl (.c (t := 6) rfl (.c (t := 7) rfl (.c (t := 8) rfl .n)))) (fun _ h => h) ?_
        refine c_text ?_
        refine l_y (Cls.gs _ _) (y_move rfl) rfl ?_
        refine l_y (Cls.gs _ _) ((y_shr rfl rfl (by decide)).lit (VU (bit_half m))) rfl ?_
        refine l_y (Cls.gs _ _) (y_assign rfl) rfl ?_
        refine l_nil ?_
        refine e_again ((m, 2 ^ (m + 1) * (q : Int) + 2 ^ m)) (sq_step_yes hI (of_decide_eq_true h2)) (Nat.lt_succ_self m) (.c (t := 7) rfl (.c (t := 8) rfl (.c (t := 5) rfl (.c (t := 6) rfl .n)))) (fun _ h => h.thin .r)
      · rw [le_split] at h2
        refine c_skip ?_
        refine e_block ?_
        refine e_then ?_
        refine CJ.weak (.c (t := 5) rfl (.c (t := 6) rfl (.c (t := 7) rfl (.c (t := 8) rfl .n)))) (fun _ h => h) ?_
        refine c_text ?_
        refine l_y (Cls.gs _ _) (y_move rfl) rfl ?_
        refine l_y (Cls.gs _ _) ((y_shr rfl rfl (by decide)).lit (VU (bit_half m))) rfl ?_
        refine l_y (Cls.gs _ _) (y_assign rfl) rfl ?_
        refine l_nil ?_
        refine e_again ((m, 2 ^ (m + 1) * (q : Int))) (sq_step_no hI (by have := of_decide_eq_false h2; omega)) (Nat.lt_succ_self m) (.c (t := 7) rfl (.c (t := 8) rfl (.c (t := 5) rfl (.c (t := 6) rfl .n)))) (fun _ h => h.thin .r)
    · obtain rfl := bitv_zero (j := j) h1
      obtain ⟨e1, e2, e3⟩ := sq_end hI
      refine c_exit ?_
      refine e_then_exit ?_
      refine e_then_exit ?_
      refine e_block_hit ?_
      refine e_then ?_
      refine CJ.weak (.c (t := 7) rfl .n) (fun _ h => h) ?_
      refine c_seq ?_
      refine c_text ?_
      refine l_y (Cls.gs _ _) (y_move rfl) rfl ?_
      refine l_y (Cls.gs _ _) ((y_conv Tryz.underlying129 Tryz.underlying2 rfl).lit (VI (w64 (by omega) (by omega)))) rfl ?_
      refine l_y (Cls.gs _ _) (y_assign rfl) rfl ?_
      refine l_nil ?_
      refine e_then ?_
      refine CJ.weak (.c (t := 4) rfl .n) (fun _ h => h) ?_
      refine c_ret ?_
      refine e_ret rfl (.t rfl .n) (fun wF hw => ?_)
      exact ⟨by simp only [outOf, e1], (hw.anc (w, []) (by simp)).below⟩

end Go.Proofs.YtdpdahpkdimopaaGreat
