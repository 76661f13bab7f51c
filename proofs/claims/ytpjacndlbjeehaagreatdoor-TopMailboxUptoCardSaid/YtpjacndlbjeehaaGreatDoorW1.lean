/-
  A part of the proof of TopMailbox: walks of single functions, and plain facts.
-/
import Derived.Test.YtpjacndlbjeehaaGreatDoorPf
import Derived.Test.YtpjacndlbjeehaaGreatDoorM1
import Derived.KernelRfl
set_option linter.unusedVariables false
set_option linter.unusedSimpArgs false
set_option maxRecDepth 100000
namespace Go.Proofs.YtpjacndlbjeehaaGreatDoor
open Go Go.Px Mb
theorem bdCheck59 (b : Bd) (w : World) : Calls Tryz.prog 59 #[.agg #[.int .i64 b.lo, .int .i64 b.hi, .bool b.u]] w fun e w' => e = .returned (.int .i64 (bdErr b)) ∧ Gr w w' := by
  refine enter Tryz.func59 rfl rfl rfl rfl (Cls.start w) ?_
  refine c_seq ?_
  refine c_text ?_
  refine l_n rfl (n_box rfl .a rfl) (fun b0 _ => ?_)
  refine l_y (Cls.gs _ _) (y_assign rfl) rfl ?_
  refine l_nil ?_
  refine e_then ?_
  refine CJ.weak (.c (t := 1) rfl .n) (fun _ h => h) ?_
  refine c_seq ?_
  refine c_block ?_
  refine c_seq ?_
  refine c_text ?_
  refine l_y (Cls.gs _ _) (y_fieldAddr rfl fa28_2) rfl ?_
  refine l_y (Cls.gs _ _) (y_load rfl (LoadAt.oneL .z ty4 (.s (.s .z)))) rfl ?_
  refine l_y (Cls.gs _ _) (y_move rfl) rfl ?_
  refine l_g (s := 6) (Cls.gs _ _) (by kernel_rfl) rfl (beq_t _) (fun hg => y_fieldAddr rfl fa28_0) rfl ?_
  refine l_g (s := 6) (Cls.gs _ _) (by kernel_rfl) rfl (beq_t _) (fun hg => y_load (gvt hg rfl) (LoadAt.oneL .z ty26 .z)) rfl ?_
  refine l_g (s := 6) (Cls.gs _ _) (by kernel_rfl) rfl (beq_t _) (fun hg => y_neq (gvt hg rfl) rfl) rfl ?_
  refine l_g (s := 6) (Cls.gs _ _) (by kernel_rfl) rfl (beq_t _) (fun hg => y_move (gvt hg rfl)) rfl ?_
  refine l_gg (s := 10) (Cls.gs _ _) (by kernel_rfl) rfl (beq_f _) (fun hg => y_fieldAddr rfl fa28_1) rfl ?_
  refine l_gg (s := 10) (Cls.gs _ _) (by kernel_rfl) rfl (beq_f _) (fun hg => y_load (gvt hg rfl) (LoadAt.oneL .z ty26 (.s .z))) rfl ?_
  refine l_gg (s := 10) (Cls.gs _ _) (by kernel_rfl) rfl (beq_f _) (fun hg => y_neq (gvt hg rfl) rfl) rfl ?_
  refine l_g (s := 6) (Cls.gs _ _) (by kernel_rfl) rfl (beq_t _) (fun hg => y_or (gvt hg rfl) rfl (gva hg rfl)) rfl ?_
  refine l_y (Cls.gs _ _) (y_and rfl rfl rfl) rfl ?_
  refine l_y (Cls.gs _ _) (y_assign rfl) rfl ?_
  refine l_nil ?_
  refine e_then ?_
  refine CJ.weak (.c (t := 1) rfl (.c (t := 3) rfl .n)) (fun _ h => h) ?_
  refine c_cond rfl (fun h0 => ?_) (fun h0 => ?_)
  ·
    refine c_seq ?_
    refine c_text ?_
    refine l_y (Cls.gs _ _) (y_assign rfl) rfl ?_
    refine l_nil ?_
    refine e_then ?_
    refine CJ.weak (.c (t := 2) rfl .n) (fun _ h => h) ?_
    refine c_ret ?_
    refine e_block_ret ?_
    refine e_then_ret ?_
    refine e_ret rfl (.t rfl .n) (fun wF hw => ?_)
    exact ⟨by simp only [outOf, bdErr, *, reduceIte, Bool.false_eq_true], (hw.anc (w, []) (by simp)).below⟩
  ·
    refine c_seq ?_
    refine c_text ?_
    refine l_y (Cls.gs _ _) (y_fieldAddr rfl fa28_0) rfl ?_
    refine l_y (Cls.gs _ _) (y_load rfl (LoadAt.oneL .z ty26 .z)) rfl ?_
    refine l_y (Cls.gs _ _) (y_fieldAddr rfl fa28_1) rfl ?_
    refine l_y (Cls.gs _ _) (y_load rfl (LoadAt.oneL .z ty26 (.s .z))) rfl ?_
    refine l_y (Cls.gs _ _) (y_min2 rfl rfl) rfl ?_
    refine l_y (Cls.gs _ _) (y_lss rfl rfl) rfl ?_
    refine l_y (Cls.gs _ _) (y_move rfl) rfl ?_
    refine l_g (s := 23) (Cls.gs _ _) (by kernel_rfl) rfl (beq_f _) (fun hg => y_fieldAddr rfl fa28_0) rfl ?_
    refine l_g (s := 23) (Cls.gs _ _) (by kernel_rfl) rfl (beq_f _) (fun hg => y_load (gvt hg rfl) (LoadAt.oneL .z ty26 .z)) rfl ?_
    refine l_g (s := 23) (Cls.gs _ _) (by kernel_rfl) rfl (beq_f _) (fun hg => y_fieldAddr rfl fa28_1) rfl ?_
    refine l_g (s := 23) (Cls.gs _ _) (by kernel_rfl) rfl (beq_f _) (fun hg => y_load (gvt hg rfl) (LoadAt.oneL .z ty26 (.s .z))) rfl ?_
    refine l_g (s := 23) (Cls.gs _ _) (by kernel_rfl) rfl (beq_f _) (fun hg => y_max2 (gvt hg rfl) (gvt hg rfl)) rfl ?_
    refine l_g (s := 23) (Cls.gs _ _) (by kernel_rfl) rfl (beq_f _) (fun hg => y_gtr (gvt hg rfl) rfl) rfl ?_
    refine l_y (Cls.gs _ _) (y_or rfl rfl rfl) rfl ?_
    refine l_y (Cls.gs _ _) (y_assign rfl) rfl ?_
    refine l_nil ?_
    refine e_then ?_
    refine CJ.weak (.c (t := 1) rfl (.c (t := 16) rfl .n)) (fun _ h => h) ?_
    refine c_cond rfl (fun h1 => ?_) (fun h1 => ?_)
    ·
      refine c_seq ?_
      refine c_text ?_
      refine l_y (Cls.gs _ _) (y_assign rfl) rfl ?_
      refine l_nil ?_
      refine e_then ?_
      refine CJ.weak (.c (t := 2) rfl .n) (fun _ h => h) ?_
      refine c_ret ?_
      refine e_block_ret ?_
      refine e_then_ret ?_
      refine e_ret rfl (.t rfl .n) (fun wF hw => ?_)
      exact ⟨by simp only [outOf, bdErr, *, reduceIte, Bool.false_eq_true], (hw.anc (w, []) (by simp)).below⟩
    ·
      refine c_seq ?_
      refine c_text ?_
      refine l_y (Cls.gs _ _) (y_fieldAddr rfl fa28_0) rfl ?_
      refine l_y (Cls.gs _ _) (y_load rfl (LoadAt.oneL .z ty26 .z)) rfl ?_
      refine l_y (Cls.gs _ _) (y_fieldAddr rfl fa28_1) rfl ?_
      refine l_y (Cls.gs _ _) (y_load rfl (LoadAt.oneL .z ty26 (.s .z))) rfl ?_
      refine l_y (Cls.gs _ _) (y_gtr rfl rfl) rfl ?_
      refine l_y (Cls.gs _ _) (y_assign rfl) rfl ?_
      refine l_nil ?_
      refine e_then ?_
      refine CJ.weak (.c (t := 31) rfl .n) (fun _ h => h) ?_
      refine c_cond rfl (fun h2 => ?_) (fun h2 => ?_)
      ·
        refine c_seq ?_
        refine c_text ?_
        refine l_y (Cls.gs _ _) (y_assign rfl) rfl ?_
        refine l_nil ?_
        refine e_then ?_
        refine CJ.weak (.c (t := 2) rfl .n) (fun _ h => h) ?_
        refine c_ret ?_
        refine e_block_ret ?_
        refine e_then_ret ?_
        refine e_ret rfl (.t rfl .n) (fun wF hw => ?_)
        exact ⟨by simp only [outOf, bdErr, *, reduceIte, Bool.false_eq_true], (hw.anc (w, []) (by simp)).below⟩
      ·
        refine c_skip ?_
        refine e_block ?_
        refine e_then ?_
        refine CJ.weak .n (fun _ h => h) ?_
        refine c_seq ?_
        refine c_text ?_
        refine l_y (Cls.gs _ _) (y_assign rfl) rfl ?_
        refine l_nil ?_
        refine e_then ?_
        refine c_ret ?_
        refine e_ret rfl (.t rfl .n) (fun wF hw => ?_)
        exact ⟨by simp only [outOf, bdErr, *, reduceIte, Bool.false_eq_true], (hw.anc (w, []) (by simp)).below⟩

theorem bdCheck60 (b : Bd) (w : World) : Calls Tryz.prog 60 #[.agg #[.int .i64 b.lo, .int .i64 b.hi, .bool b.u]] w fun e w' => e = .returned (.int .i64 (bdErr b)) ∧ Gr w w' := by
  refine enter Tryz.func60 rfl rfl rfl rfl (Cls.start w) ?_
  refine c_seq ?_
  refine c_text ?_
  refine l_n rfl (n_box rfl .a rfl) (fun b0 _ => ?_)
  refine l_y (Cls.gs _ _) (y_assign rfl) rfl ?_
  refine l_nil ?_
  refine e_then ?_
  refine CJ.weak (.c (t := 1) rfl .n) (fun _ h => h) ?_
  refine c_seq ?_
  refine c_block ?_
  refine c_seq ?_
  refine c_text ?_
  refine l_y (Cls.gs _ _) (y_fieldAddr rfl fa31_2) rfl ?_
  refine l_y (Cls.gs _ _) (y_load rfl (LoadAt.oneL .z ty4 (.s (.s .z)))) rfl ?_
  refine l_y (Cls.gs _ _) (y_move rfl) rfl ?_
  refine l_g (s := 6) (Cls.gs _ _) (by kernel_rfl) rfl (beq_t _) (fun hg => y_fieldAddr rfl fa31_0) rfl ?_
  refine l_g (s := 6) (Cls.gs _ _) (by kernel_rfl) rfl (beq_t _) (fun hg => y_load (gvt hg rfl) (LoadAt.oneL .z ty29 .z)) rfl ?_
  refine l_g (s := 6) (Cls.gs _ _) (by kernel_rfl) rfl (beq_t _) (fun hg => y_neq (gvt hg rfl) rfl) rfl ?_
  refine l_g (s := 6) (Cls.gs _ _) (by kernel_rfl) rfl (beq_t _) (fun hg => y_move (gvt hg rfl)) rfl ?_
  refine l_gg (s := 10) (Cls.gs _ _) (by kernel_rfl) rfl (beq_f _) (fun hg => y_fieldAddr rfl fa31_1) rfl ?_
  refine l_gg (s := 10) (Cls.gs _ _) (by kernel_rfl) rfl (beq_f _) (fun hg => y_load (gvt hg rfl) (LoadAt.oneL .z ty29 (.s .z))) rfl ?_
  refine l_gg (s := 10) (Cls.gs _ _) (by kernel_rfl) rfl (beq_f _) (fun hg => y_neq (gvt hg rfl) rfl) rfl ?_
  refine l_g (s := 6) (Cls.gs _ _) (by kernel_rfl) rfl (beq_t _) (fun hg => y_or (gvt hg rfl) rfl (gva hg rfl)) rfl ?_
  refine l_y (Cls.gs _ _) (y_and rfl rfl rfl) rfl ?_
  refine l_y (Cls.gs _ _) (y_assign rfl) rfl ?_
  refine l_nil ?_
  refine e_then ?_
  refine CJ.weak (.c (t := 1) rfl (.c (t := 3) rfl .n)) (fun _ h => h) ?_
  refine c_cond rfl (fun h0 => ?_) (fun h0 => ?_)
  ·
    refine c_seq ?_
    refine c_text ?_
    refine l_y (Cls.gs _ _) (y_assign rfl) rfl ?_
    refine l_nil ?_
    refine e_then ?_
    refine CJ.weak (.c (t := 2) rfl .n) (fun _ h => h) ?_
    refine c_ret ?_
    refine e_block_ret ?_
    refine e_then_ret ?_
    refine e_ret rfl (.t rfl .n) (fun wF hw => ?_)
    exact ⟨by simp only [outOf, bdErr, *, reduceIte, Bool.false_eq_true], (hw.anc (w, []) (by simp)).below⟩
  ·
    refine c_seq ?_
    refine c_text ?_
    refine l_y (Cls.gs _ _) (y_fieldAddr rfl fa31_0) rfl ?_
    refine l_y (Cls.gs _ _) (y_load rfl (LoadAt.oneL .z ty29 .z)) rfl ?_
    refine l_y (Cls.gs _ _) (y_fieldAddr rfl fa31_1) rfl ?_
    refine l_y (Cls.gs _ _) (y_load rfl (LoadAt.oneL .z ty29 (.s .z))) rfl ?_
    refine l_y (Cls.gs _ _) (y_min2 rfl rfl) rfl ?_
    refine l_y (Cls.gs _ _) (y_lss rfl rfl) rfl ?_
    refine l_y (Cls.gs _ _) (y_move rfl) rfl ?_
    refine l_g (s := 23) (Cls.gs _ _) (by kernel_rfl) rfl (beq_f _) (fun hg => y_fieldAddr rfl fa31_0) rfl ?_
    refine l_g (s := 23) (Cls.gs _ _) (by kernel_rfl) rfl (beq_f _) (fun hg => y_load (gvt hg rfl) (LoadAt.oneL .z ty29 .z)) rfl ?_
    refine l_g (s := 23) (Cls.gs _ _) (by kernel_rfl) rfl (beq_f _) (fun hg => y_fieldAddr rfl fa31_1) rfl ?_
    refine l_g (s := 23) (Cls.gs _ _) (by kernel_rfl) rfl (beq_f _) (fun hg => y_load (gvt hg rfl) (LoadAt.oneL .z ty29 (.s .z))) rfl ?_
    refine l_g (s := 23) (Cls.gs _ _) (by kernel_rfl) rfl (beq_f _) (fun hg => y_max2 (gvt hg rfl) (gvt hg rfl)) rfl ?_
    refine l_g (s := 23) (Cls.gs _ _) (by kernel_rfl) rfl (beq_f _) (fun hg => y_gtr (gvt hg rfl) rfl) rfl ?_
    refine l_y (Cls.gs _ _) (y_or rfl rfl rfl) rfl ?_
    refine l_y (Cls.gs _ _) (y_assign rfl) rfl ?_
    refine l_nil ?_
    refine e_then ?_
    refine CJ.weak (.c (t := 1) rfl (.c (t := 16) rfl .n)) (fun _ h => h) ?_
    refine c_cond rfl (fun h1 => ?_) (fun h1 => ?_)
    ·
      refine c_seq ?_
      refine c_text ?_
      refine l_y (Cls.gs _ _) (y_assign rfl) rfl ?_
      refine l_nil ?_
      refine e_then ?_
      refine CJ.weak (.c (t := 2) rfl .n) (fun _ h => h) ?_
      refine c_ret ?_
      refine e_block_ret ?_
      refine e_then_ret ?_
      refine e_ret rfl (.t rfl .n) (fun wF hw => ?_)
      exact ⟨by simp only [outOf, bdErr, *, reduceIte, Bool.false_eq_true], (hw.anc (w, []) (by simp)).below⟩
    ·
      refine c_seq ?_
      refine c_text ?_
      refine l_y (Cls.gs _ _) (y_fieldAddr rfl fa31_0) rfl ?_
      refine l_y (Cls.gs _ _) (y_load rfl (LoadAt.oneL .z ty29 .z)) rfl ?_
      refine l_y (Cls.gs _ _) (y_fieldAddr rfl fa31_1) rfl ?_
      refine l_y (Cls.gs _ _) (y_load rfl (LoadAt.oneL .z ty29 (.s .z))) rfl ?_
      refine l_y (Cls.gs _ _) (y_gtr rfl rfl) rfl ?_
      refine l_y (Cls.gs _ _) (y_assign rfl) rfl ?_
      refine l_nil ?_
      refine e_then ?_
      refine CJ.weak (.c (t := 31) rfl .n) (fun _ h => h) ?_
      refine c_cond rfl (fun h2 => ?_) (fun h2 => ?_)
      ·
        refine c_seq ?_
        refine c_text ?_
        refine l_y (Cls.gs _ _) (y_assign rfl) rfl ?_
        refine l_nil ?_
        refine e_then ?_
        refine CJ.weak (.c (t := 2) rfl .n) (fun _ h => h) ?_
        refine c_ret ?_
        refine e_block_ret ?_
        refine e_then_ret ?_
        refine e_ret rfl (.t rfl .n) (fun wF hw => ?_)
        exact ⟨by simp only [outOf, bdErr, *, reduceIte, Bool.false_eq_true], (hw.anc (w, []) (by simp)).below⟩
      ·
        refine c_skip ?_
        refine e_block ?_
        refine e_then ?_
        refine CJ.weak .n (fun _ h => h) ?_
        refine c_seq ?_
        refine c_text ?_
        refine l_y (Cls.gs _ _) (y_assign rfl) rfl ?_
        refine l_nil ?_
        refine e_then ?_
        refine c_ret ?_
        refine e_ret rfl (.t rfl .n) (fun wF hw => ?_)
        exact ⟨by simp only [outOf, bdErr, *, reduceIte, Bool.false_eq_true], (hw.anc (w, []) (by simp)).below⟩

theorem bdCheck61 (b : Bd) (w : World) : Calls Tryz.prog 61 #[.agg #[.int .i64 b.lo, .int .i64 b.hi, .bool b.u]] w fun e w' => e = .returned (.int .i64 (bdErr b)) ∧ Gr w w' := by
  refine enter Tryz.func61 rfl rfl rfl rfl (Cls.start w) ?_
  refine c_seq ?_
  refine c_text ?_
  refine l_n rfl (n_box rfl .a rfl) (fun b0 _ => ?_)
  refine l_y (Cls.gs _ _) (y_assign rfl) rfl ?_
  refine l_nil ?_
  refine e_then ?_
  refine CJ.weak (.c (t := 1) rfl .n) (fun _ h => h) ?_
  refine c_seq ?_
  refine c_block ?_
  refine c_seq ?_
  refine c_text ?_
  refine l_y (Cls.gs _ _) (y_fieldAddr rfl fa34_2) rfl ?_
  refine l_y (Cls.gs _ _) (y_load rfl (LoadAt.oneL .z ty4 (.s (.s .z)))) rfl ?_
  refine l_y (Cls.gs _ _) (y_move rfl) rfl ?_
  refine l_g (s := 6) (Cls.gs _ _) (by kernel_rfl) rfl (beq_t _) (fun hg => y_fieldAddr rfl fa34_0) rfl ?_
  refine l_g (s := 6) (Cls.gs _ _) (by kernel_rfl) rfl (beq_t _) (fun hg => y_load (gvt hg rfl) (LoadAt.oneL .z ty32 .z)) rfl ?_
  refine l_g (s := 6) (Cls.gs _ _) (by kernel_rfl) rfl (beq_t _) (fun hg => y_neq (gvt hg rfl) rfl) rfl ?_
  refine l_g (s := 6) (Cls.gs _ _) (by kernel_rfl) rfl (beq_t _) (fun hg => y_move (gvt hg rfl)) rfl ?_
  refine l_gg (s := 10) (Cls.gs _ _) (by kernel_rfl) rfl (beq_f _) (fun hg => y_fieldAddr rfl fa34_1) rfl ?_
  refine l_gg (s := 10) (Cls.gs _ _) (by kernel_rfl) rfl (beq_f _) (fun hg => y_load (gvt hg rfl) (LoadAt.oneL .z ty32 (.s .z))) rfl ?_
  refine l_gg (s := 10) (Cls.gs _ _) (by kernel_rfl) rfl (beq_f _) (fun hg => y_neq (gvt hg rfl) rfl) rfl ?_
  refine l_g (s := 6) (Cls.gs _ _) (by kernel_rfl) rfl (beq_t _) (fun hg => y_or (gvt hg rfl) rfl (gva hg rfl)) rfl ?_
  refine l_y (Cls.gs _ _) (y_and rfl rfl rfl) rfl ?_
  refine l_y (Cls.gs _ _) (y_assign rfl) rfl ?_
  refine l_nil ?_
  refine e_then ?_
  refine CJ.weak (.c (t := 1) rfl (.c (t := 3) rfl .n)) (fun _ h => h) ?_
  refine c_cond rfl (fun h0 => ?_) (fun h0 => ?_)
  ·
    refine c_seq ?_
    refine c_text ?_
    refine l_y (Cls.gs _ _) (y_assign rfl) rfl ?_
    refine l_nil ?_
    refine e_then ?_
    refine CJ.weak (.c (t := 2) rfl .n) (fun _ h => h) ?_
    refine c_ret ?_
    refine e_block_ret ?_
    refine e_then_ret ?_
    refine e_ret rfl (.t rfl .n) (fun wF hw => ?_)
    exact ⟨by simp only [outOf, bdErr, *, reduceIte, Bool.false_eq_true], (hw.anc (w, []) (by simp)).below⟩
  ·
    refine c_seq ?_
    refine c_text ?_
    refine l_y (Cls.gs _ _) (y_fieldAddr rfl fa34_0) rfl ?_
    refine l_y (Cls.gs _ _) (y_load rfl (LoadAt.oneL .z ty32 .z)) rfl ?_
    refine l_y (Cls.gs _ _) (y_fieldAddr rfl fa34_1) rfl ?_
    refine l_y (Cls.gs _ _) (y_load rfl (LoadAt.oneL .z ty32 (.s .z))) rfl ?_
    refine l_y (Cls.gs _ _) (y_min2 rfl rfl) rfl ?_
    refine l_y (Cls.gs _ _) (y_lss rfl rfl) rfl ?_
    refine l_y (Cls.gs _ _) (y_move rfl) rfl ?_
    refine l_g (s := 23) (Cls.gs _ _) (by kernel_rfl) rfl (beq_f _) (fun hg => y_fieldAddr rfl fa34_0) rfl ?_
    refine l_g (s := 23) (Cls.gs _ _) (by kernel_rfl) rfl (beq_f _) (fun hg => y_load (gvt hg rfl) (LoadAt.oneL .z ty32 .z)) rfl ?_
    refine l_g (s := 23) (Cls.gs _ _) (by kernel_rfl) rfl (beq_f _) (fun hg => y_fieldAddr rfl fa34_1) rfl ?_
    refine l_g (s := 23) (Cls.gs _ _) (by kernel_rfl) rfl (beq_f _) (fun hg => y_load (gvt hg rfl) (LoadAt.oneL .z ty32 (.s .z))) rfl ?_
    refine l_g (s := 23) (Cls.gs _ _) (by kernel_rfl) rfl (beq_f _) (fun hg => y_max2 (gvt hg rfl) (gvt hg rfl)) rfl ?_
    refine l_g (s := 23) (Cls.gs _ _) (by kernel_rfl) rfl (beq_f _) (fun hg => y_gtr (gvt hg rfl) rfl) rfl ?_
    refine l_y (Cls.gs _ _) (y_or rfl rfl rfl) rfl ?_
    refine l_y (Cls.gs _ _) (y_assign rfl) rfl ?_
    refine l_nil ?_
    refine e_then ?_
    refine CJ.weak (.c (t := 1) rfl (.c (t := 16) rfl .n)) (fun _ h => h) ?_
    refine c_cond rfl (fun h1 => ?_) (fun h1 => ?_)
    ·
      refine c_seq ?_
      refine c_text ?_
      refine l_y (Cls.gs _ _) (y_assign rfl) rfl ?_
      refine l_nil ?_
      refine e_then ?_
      refine CJ.weak (.c (t := 2) rfl .n) (fun _ h => h) ?_
      refine c_ret ?_
      refine e_block_ret ?_
      refine e_then_ret ?_
      refine e_ret rfl (.t rfl .n) (fun wF hw => ?_)
      exact ⟨by simp only [outOf, bdErr, *, reduceIte, Bool.false_eq_true], (hw.anc (w, []) (by simp)).below⟩
    ·
      refine c_seq ?_
      refine c_text ?_
      refine l_y (Cls.gs _ _) (y_fieldAddr rfl fa34_0) rfl ?_
      refine l_y (Cls.gs _ _) (y_load rfl (LoadAt.oneL .z ty32 .z)) rfl ?_
      refine l_y (Cls.gs _ _) (y_fieldAddr rfl fa34_1) rfl ?_
      refine l_y (Cls.gs _ _) (y_load rfl (LoadAt.oneL .z ty32 (.s .z))) rfl ?_
      refine l_y (Cls.gs _ _) (y_gtr rfl rfl) rfl ?_
      refine l_y (Cls.gs _ _) (y_assign rfl) rfl ?_
      refine l_nil ?_
      refine e_then ?_
      refine CJ.weak (.c (t := 31) rfl .n) (fun _ h => h) ?_
      refine c_cond rfl (fun h2 => ?_) (fun h2 => ?_)
      ·
        refine c_seq ?_
        refine c_text ?_
        refine l_y (Cls.gs _ _) (y_assign rfl) rfl ?_
        refine l_nil ?_
        refine e_then ?_
        refine CJ.weak (.c (t := 2) rfl .n) (fun _ h => h) ?_
        refine c_ret ?_
        refine e_block_ret ?_
        refine e_then_ret ?_
        refine e_ret rfl (.t rfl .n) (fun wF hw => ?_)
        exact ⟨by simp only [outOf, bdErr, *, reduceIte, Bool.false_eq_true], (hw.anc (w, []) (by simp)).below⟩
      ·
        refine c_skip ?_
        refine e_block ?_
        refine e_then ?_
        refine CJ.weak .n (fun _ h => h) ?_
        refine c_seq ?_
        refine c_text ?_
        refine l_y (Cls.gs _ _) (y_assign rfl) rfl ?_
        refine l_nil ?_
        refine e_then ?_
        refine c_ret ?_
        refine e_ret rfl (.t rfl .n) (fun wF hw => ?_)
        exact ⟨by simp only [outOf, bdErr, *, reduceIte, Bool.false_eq_true], (hw.anc (w, []) (by simp)).below⟩

theorem bdOK59 (b : Bd) (h : BdOK b) (w : World) : Calls Tryz.prog 59 #[.agg #[.int .i64 b.lo, .int .i64 b.hi, .bool b.u]] w fun e w' => e = .returned (.int .i64 0) ∧ Gr w w' := by
  have := bdCheck59 b w
  rwa [bdErr_zero.2 h] at this

theorem bdOK60 (b : Bd) (h : BdOK b) (w : World) : Calls Tryz.prog 60 #[.agg #[.int .i64 b.lo, .int .i64 b.hi, .bool b.u]] w fun e w' => e = .returned (.int .i64 0) ∧ Gr w w' := by
  have := bdCheck60 b w
  rwa [bdErr_zero.2 h] at this

theorem bdOK61 (b : Bd) (h : BdOK b) (w : World) : Calls Tryz.prog 61 #[.agg #[.int .i64 b.lo, .int .i64 b.hi, .bool b.u]] w fun e w' => e = .returned (.int .i64 0) ∧ Gr w w' := by
  have := bdCheck61 b w
  rwa [bdErr_zero.2 h] at this

theorem inTime22 (t : Int) (w : World) : Calls Tryz.prog 22 #[.int .i64 t] w fun e w' => e = .returned (.bool (decide (t ≤ 17592186044416) && decide (-17592186044416 ≤ t))) ∧ Gr w w' := by
  refine enter Tryz.func22 rfl rfl rfl rfl (Cls.start w) ?_
  refine c_seq ?_
  refine c_text ?_
  refine l_y (Cls.gs _ _) (y_assign rfl) rfl ?_
  refine l_nil ?_
  refine e_then ?_
  refine CJ.weak (.c (t := 0) rfl .n) (fun _ h => h) ?_
  refine c_seq ?_
  refine c_text ?_
  refine l_y (Cls.gs _ _) (y_move rfl) rfl ?_
  refine l_y (Cls.gs _ _) (y_leq rfl rfl) rfl ?_
  refine l_y (Cls.gs _ _) (y_move rfl) rfl ?_
  refine l_g (s := 5) (Cls.gs _ _) (by kernel_rfl) rfl (beq_t _) (fun hg => y_move rfl) rfl ?_
  refine l_g (s := 5) (Cls.gs _ _) (by kernel_rfl) rfl (beq_t _) (fun hg => y_geq (gvt hg rfl) rfl) rfl ?_
  refine l_y (Cls.gs _ _) (y_and rfl rfl rfl) rfl ?_
  refine l_y (Cls.gs _ _) (y_assign rfl) rfl ?_
  refine l_nil ?_
  refine e_then ?_
  refine CJ.weak (.c (t := 2) rfl .n) (fun _ h => h) ?_
  refine c_ret ?_
  refine e_ret rfl (.t rfl .n) (fun wF hw => ?_)
  exact ⟨rfl, (hw.anc (w, []) (by simp)).below⟩

theorem bdErr19 (b : Bd) (w : World) : Calls Tryz.prog 19 #[.agg #[.int .i64 b.lo, .int .i64 b.hi, .bool b.u]] w fun e w' => ∃ x : Int, e = .returned (.int .i64 x) ∧ Gr w w' ∧ (x = 0 → BdOK b) := by
  refine enter Tryz.func19 rfl rfl rfl rfl (Cls.start w) ?_
  refine c_seq ?_
  refine c_text ?_
  refine l_n rfl (n_box rfl .a rfl) (fun b0 _ => ?_)
  refine l_y (Cls.gs _ _) (y_assign rfl) rfl ?_
  refine l_nil ?_
  refine e_then ?_
  refine CJ.weak (.c (t := 1) rfl .n) (fun _ h => h) ?_
  refine c_seq ?_
  refine c_seq ?_
  refine c_text ?_
  refine l_y (Cls.gs _ _) (y_fieldAddr rfl fa28_2) rfl ?_
  refine l_y (Cls.gs _ _) (y_load rfl (LoadAt.oneL .z ty4 (.s (.s .z)))) rfl ?_
  refine l_nil ?_
  refine e_then ?_
  refine CJ.weak (.c (t := 1) rfl (.c (t := 6) rfl .n)) (fun _ h => h) ?_
  refine c_cond rfl (fun h0 => ?_) (fun h0 => ?_)
  ·
    refine c_seq ?_
    refine c_seq ?_
    refine c_text ?_
    refine l_y (Cls.gs _ _) (y_fieldAddr rfl fa28_0) rfl ?_
    refine l_y (Cls.gs _ _) (y_load rfl (LoadAt.oneL .z ty26 .z)) rfl ?_
    refine l_y (Cls.gs _ _) (y_eql rfl rfl) rfl ?_
    refine l_y (Cls.gs _ _) (y_move rfl) rfl ?_
    refine l_g (s := 10) (Cls.gs _ _) (by kernel_rfl) rfl (beq_t _) (fun hg => y_fieldAddr rfl fa28_1) rfl ?_
    refine l_g (s := 10) (Cls.gs _ _) (by kernel_rfl) rfl (beq_t _) (fun hg => y_load (gvt hg rfl) (LoadAt.oneL .z ty26 (.s .z))) rfl ?_
    refine l_g (s := 10) (Cls.gs _ _) (by kernel_rfl) rfl (beq_t _) (fun hg => y_eql (gvt hg rfl) rfl) rfl ?_
    refine l_y (Cls.gs _ _) (y_and rfl rfl rfl) rfl ?_
    refine l_nil ?_
    refine e_then ?_
    refine CJ.weak (.c (t := 14) rfl .n) (fun _ h => h) ?_
    refine c_cond rfl (fun h1 => ?_) (fun h1 => ?_)
    ·
      refine c_seq ?_
      refine c_text ?_
      refine l_y (Cls.gs _ _) (y_assign rfl) rfl ?_
      refine l_nil ?_
      refine e_then ?_
      refine CJ.weak (.c (t := 2) rfl .n) (fun _ h => h) ?_
      refine c_ret ?_
      refine e_then_ret ?_
      refine e_then_ret ?_
      refine e_ret rfl (.t rfl .n) (fun wF hw => ?_)
      have h1 : b.lo = 0 ∧ b.hi = 0 := by simpa using h1
      exact ⟨_, rfl, (hw.anc (w, []) (by simp)).below, fun _ => ⟨fun _ => h1, by omega, by omega, by omega⟩⟩
    ·
      refine c_skip ?_
      refine e_then ?_
      refine CJ.weak .n (fun _ h => h) ?_
      refine c_seq ?_
      refine c_text ?_
      refine l_y (Cls.gs _ _) (y_assign rfl) rfl ?_
      refine l_nil ?_
      refine e_then ?_
      refine c_ret ?_
      refine e_then_ret ?_
      refine e_ret rfl (.t rfl .n) (fun wF hw => ?_)
      exact ⟨_, rfl, (hw.anc (w, []) (by simp)).below, fun h => by simp at h⟩
  ·
    refine c_skip ?_
    refine e_then ?_
    refine CJ.weak (.c (t := 1) rfl .n) (fun _ h => h) ?_
    refine c_seq ?_
    refine c_seq ?_
    refine c_text ?_
    refine l_y (Cls.gs _ _) (y_fieldAddr rfl fa28_0) rfl ?_
    refine l_y (Cls.gs _ _) (y_load rfl (LoadAt.oneL .z ty26 .z)) rfl ?_
    refine l_y (Cls.gs _ _) (y_fieldAddr rfl fa28_1) rfl ?_
    refine l_y (Cls.gs _ _) (y_load rfl (LoadAt.oneL .z ty26 (.s .z))) rfl ?_
    refine l_n rfl (n_buildSlice (l := [.int .i64 0, .int .i64 0]) Tryz.underlying125 ty26 (.o rfl) rfl (by simp) (by kernel_rfl) (.c rfl (.c rfl .n)) (.c rfl (.o rfl) rfl rfl (.t .d) (.c rfl (.o rfl) rfl rfl (.s (.t .d)) .d)) rfl) (fun b1 _ => ?_)
    refine l_y (Cls.gs _ _) ((y_lenS Tryz.underlying125 rfl rfl).lit (by kernel_rfl : _ = Value.int .i64 2)) rfl ?_
    refine l_y (Cls.gs _ _) (y_move rfl) rfl ?_
    refine l_nil ?_
    refine e_then ?_
    refine CJ.weak (.c (t := 1) rfl (.c (t := 19) rfl (.c (t := 20) rfl (.c (t := 21) rfl .n)))) (fun _ h => h) ?_
    refine c_block ?_
    refine c_rounds 5 ?_
    refine r_succ ?_
    refine c_seq ?_
    refine c_text ?_
    refine l_y (Cls.gs _ _) ((y_lss rfl rfl).lit (by kernel_rfl : _ = Value.bool true)) rfl ?_
    refine l_nil ?_
    refine e_then ?_
    refine c_seq ?_
    refine c_true (by kernel_rfl) ?_
    refine c_skip ?_
    refine e_then ?_
    refine CJ.weak (.c (t := 1) rfl (.c (t := 19) rfl (.c (t := 20) rfl (.c (t := 21) rfl .n)))) (fun _ h => h) ?_
    refine c_seq ?_
    refine c_block ?_
    refine c_seq ?_
    refine c_text ?_
    refine l_y (Cls.gs _ _) (y_indexAddr Tryz.underlying125 ty26 rfl rfl (by decide) (by decide)) rfl ?_
    refine l_y (Cls.gs _ _) (y_load rfl (LoadAt.oneL .z ty26 .z)) rfl ?_
    refine l_y (Cls.gs _ _) (y_assign rfl) rfl ?_
    refine l_nil ?_
    refine e_then ?_
    refine CJ.weak (.c (t := 1) rfl (.c (t := 4) rfl (.c (t := 19) rfl (.c (t := 20) rfl (.c (t := 21) rfl .n))))) (fun _ h => h) ?_
    refine c_seq ?_
    refine c_text ?_
    refine l_y (Cls.gs _ _) (y_move rfl) rfl ?_
    refine l_y (Cls.gs _ _) (y_gtr rfl rfl) rfl ?_
    refine l_y (Cls.gs _ _) (y_move rfl) rfl ?_
    refine l_g (s := 27) (Cls.gs _ _) (by kernel_rfl) rfl (beq_f _) (fun hg => y_move rfl) rfl ?_
    refine l_g (s := 27) (Cls.gs _ _) (by kernel_rfl) rfl (beq_f _) (fun hg => y_lss (gvt hg rfl) rfl) rfl ?_
    refine l_y (Cls.gs _ _) (y_or rfl rfl rfl) rfl ?_
    refine l_nil ?_
    refine e_then ?_
    refine CJ.weak (.c (t := 1) rfl (.c (t := 19) rfl (.c (t := 20) rfl (.c (t := 21) rfl (.c (t := 30) rfl .n))))) (fun _ h => h) ?_
    refine c_cond rfl (fun h2 => ?_) (fun h2 => ?_)
    ·
      refine c_seq ?_
      refine c_text ?_
      refine l_y (Cls.gs _ _) (y_assign rfl) rfl ?_
      refine l_nil ?_
      refine e_then ?_
      refine CJ.weak (.c (t := 2) rfl .n) (fun _ h => h) ?_
      refine c_ret ?_
      refine e_block_ret ?_
      refine e_then_ret ?_
      refine e_then_ret ?_
      refine e_block_ret ?_
      refine e_then_ret ?_
      refine e_ret rfl (.t rfl .n) (fun wF hw => ?_)
      exact ⟨_, rfl, (hw.anc (w, []) (by simp)).below, fun h => by simp at h⟩
    ·
      refine c_skip ?_
      refine e_block ?_
      refine e_then ?_
      refine CJ.weak (.c (t := 1) rfl (.c (t := 19) rfl (.c (t := 20) rfl (.c (t := 21) rfl .n)))) (fun _ h => h) ?_
      refine c_text ?_
      refine l_y (Cls.gs _ _) ((y_add rfl rfl).lit (by kernel_rfl : _ = Value.int .i64 1)) rfl ?_
      refine l_y (Cls.gs _ _) (y_move rfl) rfl ?_
      refine l_nil ?_
      refine e_rounds ?_
      refine RJ.weak (.c (t := 1) rfl (.c (t := 19) rfl (.c (t := 20) rfl (.c (t := 21) rfl .n)))) (fun _ h => h) ?_
      refine r_succ ?_
      refine c_seq ?_
      refine c_text ?_
      refine l_y (Cls.gs _ _) ((y_lss rfl rfl).lit (by kernel_rfl : _ = Value.bool true)) rfl ?_
      refine l_nil ?_
      refine e_then ?_
      refine c_seq ?_
      refine c_true (by kernel_rfl) ?_
      refine c_skip ?_
      refine e_then ?_
      refine CJ.weak (.c (t := 1) rfl (.c (t := 19) rfl (.c (t := 20) rfl (.c (t := 21) rfl .n)))) (fun _ h => h) ?_
      refine c_seq ?_
      refine c_block ?_
      refine c_seq ?_
      refine c_text ?_
      refine l_y (Cls.gs _ _) (y_indexAddr Tryz.underlying125 ty26 rfl rfl (by decide) (by decide)) rfl ?_
      refine l_y (Cls.gs _ _) (y_load rfl (LoadAt.oneL .z ty26 (.s .z))) rfl ?_
      refine l_y (Cls.gs _ _) (y_assign rfl) rfl ?_
      refine l_nil ?_
      refine e_then ?_
      refine CJ.weak (.c (t := 1) rfl (.c (t := 4) rfl (.c (t := 19) rfl (.c (t := 20) rfl (.c (t := 21) rfl .n))))) (fun _ h => h) ?_
      refine c_seq ?_
      refine c_text ?_
      refine l_y (Cls.gs _ _) (y_move rfl) rfl ?_
      refine l_y (Cls.gs _ _) (y_gtr rfl rfl) rfl ?_
      refine l_y (Cls.gs _ _) (y_move rfl) rfl ?_
      refine l_g (s := 27) (Cls.gs _ _) (by kernel_rfl) rfl (beq_f _) (fun hg => y_move rfl) rfl ?_
      refine l_g (s := 27) (Cls.gs _ _) (by kernel_rfl) rfl (beq_f _) (fun hg => y_lss (gvt hg rfl) rfl) rfl ?_
      refine l_y (Cls.gs _ _) (y_or rfl rfl rfl) rfl ?_
      refine l_nil ?_
      refine e_then ?_
      refine CJ.weak (.c (t := 1) rfl (.c (t := 19) rfl (.c (t := 20) rfl (.c (t := 21) rfl (.c (t := 30) rfl .n))))) (fun _ h => h) ?_
      refine c_cond rfl (fun h3 => ?_) (fun h3 => ?_)
      ·
        refine c_seq ?_
        refine c_text ?_
        refine l_y (Cls.gs _ _) (y_assign rfl) rfl ?_
        refine l_nil ?_
        refine e_then ?_
        refine CJ.weak (.c (t := 2) rfl .n) (fun _ h => h) ?_
        refine c_ret ?_
        refine e_block_ret ?_
        refine e_then_ret ?_
        refine e_then_ret ?_
        refine e_block_ret ?_
        refine e_then_ret ?_
        refine e_ret rfl (.t rfl .n) (fun wF hw => ?_)
        exact ⟨_, rfl, (hw.anc (w, []) (by simp)).below, fun h => by simp at h⟩
      ·
        refine c_skip ?_
        refine e_block ?_
        refine e_then ?_
        refine CJ.weak (.c (t := 1) rfl (.c (t := 19) rfl (.c (t := 20) rfl (.c (t := 21) rfl .n)))) (fun _ h => h) ?_
        refine c_text ?_
        refine l_y (Cls.gs _ _) ((y_add rfl rfl).lit (by kernel_rfl : _ = Value.int .i64 2)) rfl ?_
        refine l_y (Cls.gs _ _) (y_move rfl) rfl ?_
        refine l_nil ?_
        refine e_rounds ?_
        refine RJ.weak (.c (t := 1) rfl (.c (t := 19) rfl (.c (t := 20) rfl (.c (t := 21) rfl .n)))) (fun _ h => h) ?_
        refine r_succ ?_
        refine c_seq ?_
        refine c_text ?_
        refine l_y (Cls.gs _ _) ((y_lss rfl rfl).lit (by kernel_rfl : _ = Value.bool false)) rfl ?_
        refine l_nil ?_
        refine e_then ?_
        refine c_seq ?_
        refine c_false (by kernel_rfl) ?_
        refine c_exit ?_
        refine e_then_exit ?_
        refine e_then_exit ?_
        refine e_block_hit ?_
        refine e_then ?_
        refine CJ.weak (.c (t := 1) rfl .n) (fun _ h => h) ?_
        refine c_seq ?_
        refine c_seq ?_
        refine c_text ?_
        refine l_y (Cls.gs _ _) (y_fieldAddr rfl fa28_1) rfl ?_
        refine l_y (Cls.gs _ _) (y_load rfl (LoadAt.oneL (.s .z) ty26 (.s .z))) rfl ?_
        refine l_y (Cls.gs _ _) (y_fieldAddr rfl fa28_0) rfl ?_
        refine l_y (Cls.gs _ _) (y_load rfl (LoadAt.oneL (.s .z) ty26 .z)) rfl ?_
        refine l_y (Cls.gs _ _) (y_lss rfl rfl) rfl ?_
        refine l_nil ?_
        refine e_then ?_
        refine CJ.weak (.c (t := 36) rfl .n) (fun _ h => h) ?_
        refine c_cond rfl (fun h4 => ?_) (fun h4 => ?_)
        ·
          refine c_seq ?_
          refine c_text ?_
          refine l_y (Cls.gs _ _) (y_assign rfl) rfl ?_
          refine l_nil ?_
          refine e_then ?_
          refine CJ.weak (.c (t := 2) rfl .n) (fun _ h => h) ?_
          refine c_ret ?_
          refine e_then_ret ?_
          refine e_ret rfl (.t rfl .n) (fun wF hw => ?_)
          exact ⟨_, rfl, (hw.anc (w, []) (by simp)).below, fun h => by simp at h⟩
        ·
          refine c_skip ?_
          refine e_then ?_
          refine CJ.weak .n (fun _ h => h) ?_
          refine c_seq ?_
          refine c_text ?_
          refine l_y (Cls.gs _ _) (y_assign rfl) rfl ?_
          refine l_nil ?_
          refine e_then ?_
          refine c_ret ?_
          refine e_ret rfl (.t rfl .n) (fun wF hw => ?_)
          simp only [Bool.or_eq_false_iff, decide_eq_false_iff_not] at h2 h3 h4
          exact ⟨_, rfl, (hw.anc (w, []) (by simp)).below, fun _ => ⟨fun h => absurd h (by simp [h0]), by omega, by omega, by omega⟩⟩

theorem bdErr20 (b : Bd) (w : World) : Calls Tryz.prog 20 #[.agg #[.int .i64 b.lo, .int .i64 b.hi, .bool b.u]] w fun e w' => ∃ x : Int, e = .returned (.int .i64 x) ∧ Gr w w' ∧ (x = 0 → BdOK b) := by
  refine enter Tryz.func20 rfl rfl rfl rfl (Cls.start w) ?_
  refine c_seq ?_
  refine c_text ?_
  refine l_n rfl (n_box rfl .a rfl) (fun b0 _ => ?_)
  refine l_y (Cls.gs _ _) (y_assign rfl) rfl ?_
  refine l_nil ?_
  refine e_then ?_
  refine CJ.weak (.c (t := 1) rfl .n) (fun _ h => h) ?_
  refine c_seq ?_
  refine c_seq ?_
  refine c_text ?_
  refine l_y (Cls.gs _ _) (y_fieldAddr rfl fa31_2) rfl ?_
  refine l_y (Cls.gs _ _) (y_load rfl (LoadAt.oneL .z ty4 (.s (.s .z)))) rfl ?_
  refine l_nil ?_
  refine e_then ?_
  refine CJ.weak (.c (t := 1) rfl (.c (t := 6) rfl .n)) (fun _ h => h) ?_
  refine c_cond rfl (fun h0 => ?_) (fun h0 => ?_)
  ·
    refine c_seq ?_
    refine c_seq ?_
    refine c_text ?_
    refine l_y (Cls.gs _ _) (y_fieldAddr rfl fa31_0) rfl ?_
    refine l_y (Cls.gs _ _) (y_load rfl (LoadAt.oneL .z ty29 .z)) rfl ?_
    refine l_y (Cls.gs _ _) (y_eql rfl rfl) rfl ?_
    refine l_y (Cls.gs _ _) (y_move rfl) rfl ?_
    refine l_g (s := 10) (Cls.gs _ _) (by kernel_rfl) rfl (beq_t _) (fun hg => y_fieldAddr rfl fa31_1) rfl ?_
    refine l_g (s := 10) (Cls.gs _ _) (by kernel_rfl) rfl (beq_t _) (fun hg => y_load (gvt hg rfl) (LoadAt.oneL .z ty29 (.s .z))) rfl ?_
    refine l_g (s := 10) (Cls.gs _ _) (by kernel_rfl) rfl (beq_t _) (fun hg => y_eql (gvt hg rfl) rfl) rfl ?_
    refine l_y (Cls.gs _ _) (y_and rfl rfl rfl) rfl ?_
    refine l_nil ?_
    refine e_then ?_
    refine CJ.weak (.c (t := 14) rfl .n) (fun _ h => h) ?_
    refine c_cond rfl (fun h1 => ?_) (fun h1 => ?_)
    ·
      refine c_seq ?_
      refine c_text ?_
      refine l_y (Cls.gs _ _) (y_assign rfl) rfl ?_
      refine l_nil ?_
      refine e_then ?_
      refine CJ.weak (.c (t := 2) rfl .n) (fun _ h => h) ?_
      refine c_ret ?_
      refine e_then_ret ?_
      refine e_then_ret ?_
      refine e_ret rfl (.t rfl .n) (fun wF hw => ?_)
      have h1 : b.lo = 0 ∧ b.hi = 0 := by simpa using h1
      exact ⟨_, rfl, (hw.anc (w, []) (by simp)).below, fun _ => ⟨fun _ => h1, by omega, by omega, by omega⟩⟩
    ·
      refine c_skip ?_
      refine e_then ?_
      refine CJ.weak .n (fun _ h => h) ?_
      refine c_seq ?_
      refine c_text ?_
      refine l_y (Cls.gs _ _) (y_assign rfl) rfl ?_
      refine l_nil ?_
      refine e_then ?_
      refine c_ret ?_
      refine e_then_ret ?_
      refine e_ret rfl (.t rfl .n) (fun wF hw => ?_)
      exact ⟨_, rfl, (hw.anc (w, []) (by simp)).below, fun h => by simp at h⟩
  ·
    refine c_skip ?_
    refine e_then ?_
    refine CJ.weak (.c (t := 1) rfl .n) (fun _ h => h) ?_
    refine c_seq ?_
    refine c_seq ?_
    refine c_text ?_
    refine l_y (Cls.gs _ _) (y_fieldAddr rfl fa31_0) rfl ?_
    refine l_y (Cls.gs _ _) (y_load rfl (LoadAt.oneL .z ty29 .z)) rfl ?_
    refine l_y (Cls.gs _ _) (y_fieldAddr rfl fa31_1) rfl ?_
    refine l_y (Cls.gs _ _) (y_load rfl (LoadAt.oneL .z ty29 (.s .z))) rfl ?_
    refine l_n rfl (n_buildSlice (l := [.int .i64 0, .int .i64 0]) Tryz.underlying126 ty29 (.o rfl) rfl (by simp) (by kernel_rfl) (.c rfl (.c rfl .n)) (.c rfl (.o rfl) rfl rfl (.t .d) (.c rfl (.o rfl) rfl rfl (.s (.t .d)) .d)) rfl) (fun b1 _ => ?_)
    refine l_y (Cls.gs _ _) ((y_lenS Tryz.underlying126 rfl rfl).lit (by kernel_rfl : _ = Value.int .i64 2)) rfl ?_
    refine l_y (Cls.gs _ _) (y_move rfl) rfl ?_
    refine l_nil ?_
    refine e_then ?_
    refine CJ.weak (.c (t := 1) rfl (.c (t := 19) rfl (.c (t := 20) rfl (.c (t := 21) rfl .n)))) (fun _ h => h) ?_
    refine c_block ?_
    refine c_rounds 5 ?_
    refine r_succ ?_
    refine c_seq ?_
    refine c_text ?_
    refine l_y (Cls.gs _ _) ((y_lss rfl rfl).lit (by kernel_rfl : _ = Value.bool true)) rfl ?_
    refine l_nil ?_
    refine e_then ?_
    refine c_seq ?_
    refine c_true (by kernel_rfl) ?_
    refine c_skip ?_
    refine e_then ?_
    refine CJ.weak (.c (t := 1) rfl (.c (t := 19) rfl (.c (t := 20) rfl (.c (t := 21) rfl .n)))) (fun _ h => h) ?_
    refine c_seq ?_
    refine c_block ?_
    refine c_seq ?_
    refine c_text ?_
    refine l_y (Cls.gs _ _) (y_indexAddr Tryz.underlying126 ty29 rfl rfl (by decide) (by decide)) rfl ?_
    refine l_y (Cls.gs _ _) (y_load rfl (LoadAt.oneL .z ty29 .z)) rfl ?_
    refine l_y (Cls.gs _ _) (y_assign rfl) rfl ?_
    refine l_nil ?_
    refine e_then ?_
    refine CJ.weak (.c (t := 1) rfl (.c (t := 4) rfl (.c (t := 19) rfl (.c (t := 20) rfl (.c (t := 21) rfl .n))))) (fun _ h => h) ?_
    refine c_seq ?_
    refine c_text ?_
    refine l_y (Cls.gs _ _) (y_move rfl) rfl ?_
    refine l_y (Cls.gs _ _) (y_gtr rfl rfl) rfl ?_
    refine l_y (Cls.gs _ _) (y_move rfl) rfl ?_
    refine l_g (s := 27) (Cls.gs _ _) (by kernel_rfl) rfl (beq_f _) (fun hg => y_move rfl) rfl ?_
    refine l_g (s := 27) (Cls.gs _ _) (by kernel_rfl) rfl (beq_f _) (fun hg => y_lss (gvt hg rfl) rfl) rfl ?_
    refine l_y (Cls.gs _ _) (y_or rfl rfl rfl) rfl ?_
    refine l_nil ?_
    refine e_then ?_
    refine CJ.weak (.c (t := 1) rfl (.c (t := 19) rfl (.c (t := 20) rfl (.c (t := 21) rfl (.c (t := 30) rfl .n))))) (fun _ h => h) ?_
    refine c_cond rfl (fun h2 => ?_) (fun h2 => ?_)
    ·
      refine c_seq ?_
      refine c_text ?_
      refine l_y (Cls.gs _ _) (y_assign rfl) rfl ?_
      refine l_nil ?_
      refine e_then ?_
      refine CJ.weak (.c (t := 2) rfl .n) (fun _ h => h) ?_
      refine c_ret ?_
      refine e_block_ret ?_
      refine e_then_ret ?_
      refine e_then_ret ?_
      refine e_block_ret ?_
      refine e_then_ret ?_
      refine e_ret rfl (.t rfl .n) (fun wF hw => ?_)
      exact ⟨_, rfl, (hw.anc (w, []) (by simp)).below, fun h => by simp at h⟩
    ·
      refine c_skip ?_
      refine e_block ?_
      refine e_then ?_
      refine CJ.weak (.c (t := 1) rfl (.c (t := 19) rfl (.c (t := 20) rfl (.c (t := 21) rfl .n)))) (fun _ h => h) ?_
      refine c_text ?_
      refine l_y (Cls.gs _ _) ((y_add rfl rfl).lit (by kernel_rfl : _ = Value.int .i64 1)) rfl ?_
      refine l_y (Cls.gs _ _) (y_move rfl) rfl ?_
      refine l_nil ?_
      refine e_rounds ?_
      refine RJ.weak (.c (t := 1) rfl (.c (t := 19) rfl (.c (t := 20) rfl (.c (t := 21) rfl .n)))) (fun _ h => h) ?_
      refine r_succ ?_
      refine c_seq ?_
      refine c_text ?_
      refine l_y (Cls.gs _ _) ((y_lss rfl rfl).lit (by kernel_rfl : _ = Value.bool true)) rfl ?_
      refine l_nil ?_
      refine e_then ?_
      refine c_seq ?_
      refine c_true (by kernel_rfl) ?_
      refine c_skip ?_
      refine e_then ?_
      refine CJ.weak (.c (t := 1) rfl (.c (t := 19) rfl (.c (t := 20) rfl (.c (t := 21) rfl .n)))) (fun _ h => h) ?_
      refine c_seq ?_
      refine c_block ?_
      refine c_seq ?_
      refine c_text ?_
      refine l_y (Cls.gs _ _) (y_indexAddr Tryz.underlying126 ty29 rfl rfl (by decide) (by decide)) rfl ?_
      refine l_y (Cls.gs _ _) (y_load rfl (LoadAt.oneL .z ty29 (.s .z))) rfl ?_
      refine l_y (Cls.gs _ _) (y_assign rfl) rfl ?_
      refine l_nil ?_
      refine e_then ?_
      refine CJ.weak (.c (t := 1) rfl (.c (t := 4) rfl (.c (t := 19) rfl (.c (t := 20) rfl (.c (t := 21) rfl .n))))) (fun _ h => h) ?_
      refine c_seq ?_
      refine c_text ?_
      refine l_y (Cls.gs _ _) (y_move rfl) rfl ?_
      refine l_y (Cls.gs _ _) (y_gtr rfl rfl) rfl ?_
      refine l_y (Cls.gs _ _) (y_move rfl) rfl ?_
      refine l_g (s := 27) (Cls.gs _ _) (by kernel_rfl) rfl (beq_f _) (fun hg => y_move rfl) rfl ?_
      refine l_g (s := 27) (Cls.gs _ _) (by kernel_rfl) rfl (beq_f _) (fun hg => y_lss (gvt hg rfl) rfl) rfl ?_
      refine l_y (Cls.gs _ _) (y_or rfl rfl rfl) rfl ?_
      refine l_nil ?_
      refine e_then ?_
      refine CJ.weak (.c (t := 1) rfl (.c (t := 19) rfl (.c (t := 20) rfl (.c (t := 21) rfl (.c (t := 30) rfl .n))))) (fun _ h => h) ?_
      refine c_cond rfl (fun h3 => ?_) (fun h3 => ?_)
      ·
        refine c_seq ?_
        refine c_text ?_
        refine l_y (Cls.gs _ _) (y_assign rfl) rfl ?_
        refine l_nil ?_
        refine e_then ?_
        refine CJ.weak (.c (t := 2) rfl .n) (fun _ h => h) ?_
        refine c_ret ?_
        refine e_block_ret ?_
        refine e_then_ret ?_
        refine e_then_ret ?_
        refine e_block_ret ?_
        refine e_then_ret ?_
        refine e_ret rfl (.t rfl .n) (fun wF hw => ?_)
        exact ⟨_, rfl, (hw.anc (w, []) (by simp)).below, fun h => by simp at h⟩
      ·
        refine c_skip ?_
        refine e_block ?_
        refine e_then ?_
        refine CJ.weak (.c (t := 1) rfl (.c (t := 19) rfl (.c (t := 20) rfl (.c (t := 21) rfl .n)))) (fun _ h => h) ?_
        refine c_text ?_
        refine l_y (Cls.gs _ _) ((y_add rfl rfl).lit (by kernel_rfl : _ = Value.int .i64 2)) rfl ?_
        refine l_y (Cls.gs _ _) (y_move rfl) rfl ?_
        refine l_nil ?_
        refine e_rounds ?_
        refine RJ.weak (.c (t := 1) rfl (.c (t := 19) rfl (.c (t := 20) rfl (.c (t := 21) rfl .n)))) (fun _ h => h) ?_
        refine r_succ ?_
        refine c_seq ?_
        refine c_text ?_
        refine l_y (Cls.gs _ _) ((y_lss rfl rfl).lit (by kernel_rfl : _ = Value.bool false)) rfl ?_
        refine l_nil ?_
        refine e_then ?_
        refine c_seq ?_
        refine c_false (by kernel_rfl) ?_
        refine c_exit ?_
        refine e_then_exit ?_
        refine e_then_exit ?_
        refine e_block_hit ?_
        refine e_then ?_
        refine CJ.weak (.c (t := 1) rfl .n) (fun _ h => h) ?_
        refine c_seq ?_
        refine c_seq ?_
        refine c_text ?_
        refine l_y (Cls.gs _ _) (y_fieldAddr rfl fa31_1) rfl ?_
        refine l_y (Cls.gs _ _) (y_load rfl (LoadAt.oneL (.s .z) ty29 (.s .z))) rfl ?_
        refine l_y (Cls.gs _ _) (y_fieldAddr rfl fa31_0) rfl ?_
        refine l_y (Cls.gs _ _) (y_load rfl (LoadAt.oneL (.s .z) ty29 .z)) rfl ?_
        refine l_y (Cls.gs _ _) (y_lss rfl rfl) rfl ?_
        refine l_nil ?_
        refine e_then ?_
        refine CJ.weak (.c (t := 36) rfl .n) (fun _ h => h) ?_
        refine c_cond rfl (fun h4 => ?_) (fun h4 => ?_)
        ·
          refine c_seq ?_
          refine c_text ?_
          refine l_y (Cls.gs _ _) (y_assign rfl) rfl ?_
          refine l_nil ?_
          refine e_then ?_
          refine CJ.weak (.c (t := 2) rfl .n) (fun _ h => h) ?_
          refine c_ret ?_
          refine e_then_ret ?_
          refine e_ret rfl (.t rfl .n) (fun wF hw => ?_)
          exact ⟨_, rfl, (hw.anc (w, []) (by simp)).below, fun h => by simp at h⟩
        ·
          refine c_skip ?_
          refine e_then ?_
          refine CJ.weak .n (fun _ h => h) ?_
          refine c_seq ?_
          refine c_text ?_
          refine l_y (Cls.gs _ _) (y_assign rfl) rfl ?_
          refine l_nil ?_
          refine e_then ?_
          refine c_ret ?_
          refine e_ret rfl (.t rfl .n) (fun wF hw => ?_)
          simp only [Bool.or_eq_false_iff, decide_eq_false_iff_not] at h2 h3 h4
          exact ⟨_, rfl, (hw.anc (w, []) (by simp)).below, fun _ => ⟨fun h => absurd h (by simp [h0]), by omega, by omega, by omega⟩⟩

theorem bdErr21 (b : Bd) (w : World) : Calls Tryz.prog 21 #[.agg #[.int .i64 b.lo, .int .i64 b.hi, .bool b.u]] w fun e w' => ∃ x : Int, e = .returned (.int .i64 x) ∧ Gr w w' ∧ (x = 0 → BdOK b) := by
  refine enter Tryz.func21 rfl rfl rfl rfl (Cls.start w) ?_
  refine c_seq ?_
  refine c_text ?_
  refine l_n rfl (n_box rfl .a rfl) (fun b0 _ => ?_)
  refine l_y (Cls.gs _ _) (y_assign rfl) rfl ?_
  refine l_nil ?_
  refine e_then ?_
  refine CJ.weak (.c (t := 1) rfl .n) (fun _ h => h) ?_
  refine c_seq ?_
  refine c_seq ?_
  refine c_text ?_
  refine l_y (Cls.gs _ _) (y_fieldAddr rfl fa34_2) rfl ?_
  refine l_y (Cls.gs _ _) (y_load rfl (LoadAt.oneL .z ty4 (.s (.s .z)))) rfl ?_
  refine l_nil ?_
  refine e_then ?_
  refine CJ.weak (.c (t := 1) rfl (.c (t := 6) rfl .n)) (fun _ h => h) ?_
  refine c_cond rfl (fun h0 => ?_) (fun h0 => ?_)
  ·
    refine c_seq ?_
    refine c_seq ?_
    refine c_text ?_
    refine l_y (Cls.gs _ _) (y_fieldAddr rfl fa34_0) rfl ?_
    refine l_y (Cls.gs _ _) (y_load rfl (LoadAt.oneL .z ty32 .z)) rfl ?_
    refine l_y (Cls.gs _ _) (y_eql rfl rfl) rfl ?_
    refine l_y (Cls.gs _ _) (y_move rfl) rfl ?_
    refine l_g (s := 10) (Cls.gs _ _) (by kernel_rfl) rfl (beq_t _) (fun hg => y_fieldAddr rfl fa34_1) rfl ?_
    refine l_g (s := 10) (Cls.gs _ _) (by kernel_rfl) rfl (beq_t _) (fun hg => y_load (gvt hg rfl) (LoadAt.oneL .z ty32 (.s .z))) rfl ?_
    refine l_g (s := 10) (Cls.gs _ _) (by kernel_rfl) rfl (beq_t _) (fun hg => y_eql (gvt hg rfl) rfl) rfl ?_
    refine l_y (Cls.gs _ _) (y_and rfl rfl rfl) rfl ?_
    refine l_nil ?_
    refine e_then ?_
    refine CJ.weak (.c (t := 14) rfl .n) (fun _ h => h) ?_
    refine c_cond rfl (fun h1 => ?_) (fun h1 => ?_)
    ·
      refine c_seq ?_
      refine c_text ?_
      refine l_y (Cls.gs _ _) (y_assign rfl) rfl ?_
      refine l_nil ?_
      refine e_then ?_
      refine CJ.weak (.c (t := 2) rfl .n) (fun _ h => h) ?_
      refine c_ret ?_
      refine e_then_ret ?_
      refine e_then_ret ?_
      refine e_ret rfl (.t rfl .n) (fun wF hw => ?_)
      have h1 : b.lo = 0 ∧ b.hi = 0 := by simpa using h1
      exact ⟨_, rfl, (hw.anc (w, []) (by simp)).below, fun _ => ⟨fun _ => h1, by omega, by omega, by omega⟩⟩
    ·
      refine c_skip ?_
      refine e_then ?_
      refine CJ.weak .n (fun _ h => h) ?_
      refine c_seq ?_
      refine c_text ?_
      refine l_y (Cls.gs _ _) (y_assign rfl) rfl ?_
      refine l_nil ?_
      refine e_then ?_
      refine c_ret ?_
      refine e_then_ret ?_
      refine e_ret rfl (.t rfl .n) (fun wF hw => ?_)
      exact ⟨_, rfl, (hw.anc (w, []) (by simp)).below, fun h => by simp at h⟩
  ·
    refine c_skip ?_
    refine e_then ?_
    refine CJ.weak (.c (t := 1) rfl .n) (fun _ h => h) ?_
    refine c_seq ?_
    refine c_seq ?_
    refine c_text ?_
    refine l_y (Cls.gs _ _) (y_fieldAddr rfl fa34_0) rfl ?_
    refine l_y (Cls.gs _ _) (y_load rfl (LoadAt.oneL .z ty32 .z)) rfl ?_
    refine l_y (Cls.gs _ _) (y_fieldAddr rfl fa34_1) rfl ?_
    refine l_y (Cls.gs _ _) (y_load rfl (LoadAt.oneL .z ty32 (.s .z))) rfl ?_
    refine l_n rfl (n_buildSlice (l := [.int .i64 0, .int .i64 0]) Tryz.underlying127 ty32 (.o rfl) rfl (by simp) (by kernel_rfl) (.c rfl (.c rfl .n)) (.c rfl (.o rfl) rfl rfl (.t .d) (.c rfl (.o rfl) rfl rfl (.s (.t .d)) .d)) rfl) (fun b1 _ => ?_)
    refine l_y (Cls.gs _ _) ((y_lenS Tryz.underlying127 rfl rfl).lit (by kernel_rfl : _ = Value.int .i64 2)) rfl ?_
    refine l_y (Cls.gs _ _) (y_move rfl) rfl ?_
    refine l_nil ?_
    refine e_then ?_
    refine CJ.weak (.c (t := 1) rfl (.c (t := 19) rfl (.c (t := 20) rfl (.c (t := 21) rfl .n)))) (fun _ h => h) ?_
    refine c_block ?_
    refine c_rounds 5 ?_
    refine r_succ ?_
    refine c_seq ?_
    refine c_text ?_
    refine l_y (Cls.gs _ _) ((y_lss rfl rfl).lit (by kernel_rfl : _ = Value.bool true)) rfl ?_
    refine l_nil ?_
    refine e_then ?_
    refine c_seq ?_
    refine c_true (by kernel_rfl) ?_
    refine c_skip ?_
    refine e_then ?_
    refine CJ.weak (.c (t := 1) rfl (.c (t := 19) rfl (.c (t := 20) rfl (.c (t := 21) rfl .n)))) (fun _ h => h) ?_
    refine c_seq ?_
    refine c_block ?_
    refine c_seq ?_
    refine c_text ?_
    refine l_y (Cls.gs _ _) (y_indexAddr Tryz.underlying127 ty32 rfl rfl (by decide) (by decide)) rfl ?_
    refine l_y (Cls.gs _ _) (y_load rfl (LoadAt.oneL .z ty32 .z)) rfl ?_
    refine l_y (Cls.gs _ _) (y_assign rfl) rfl ?_
    refine l_nil ?_
    refine e_then ?_
    refine CJ.weak (.c (t := 1) rfl (.c (t := 4) rfl (.c (t := 19) rfl (.c (t := 20) rfl (.c (t := 21) rfl .n))))) (fun _ h => h) ?_
    refine c_seq ?_
    refine c_text ?_
    refine l_y (Cls.gs _ _) (y_move rfl) rfl ?_
    refine l_y (Cls.gs _ _) (y_gtr rfl rfl) rfl ?_
    refine l_y (Cls.gs _ _) (y_move rfl) rfl ?_
    refine l_g (s := 27) (Cls.gs _ _) (by kernel_rfl) rfl (beq_f _) (fun hg => y_move rfl) rfl ?_
    refine l_g (s := 27) (Cls.gs _ _) (by kernel_rfl) rfl (beq_f _) (fun hg => y_lss (gvt hg rfl) rfl) rfl ?_
    refine l_y (Cls.gs _ _) (y_or rfl rfl rfl) rfl ?_
    refine l_nil ?_
    refine e_then ?_
    refine CJ.weak (.c (t := 1) rfl (.c (t := 19) rfl (.c (t := 20) rfl (.c (t := 21) rfl (.c (t := 30) rfl .n))))) (fun _ h => h) ?_
    refine c_cond rfl (fun h2 => ?_) (fun h2 => ?_)
    ·
      refine c_seq ?_
      refine c_text ?_
      refine l_y (Cls.gs _ _) (y_assign rfl) rfl ?_
      refine l_nil ?_
      refine e_then ?_
      refine CJ.weak (.c (t := 2) rfl .n) (fun _ h => h) ?_
      refine c_ret ?_
      refine e_block_ret ?_
      refine e_then_ret ?_
      refine e_then_ret ?_
      refine e_block_ret ?_
      refine e_then_ret ?_
      refine e_ret rfl (.t rfl .n) (fun wF hw => ?_)
      exact ⟨_, rfl, (hw.anc (w, []) (by simp)).below, fun h => by simp at h⟩
    ·
      refine c_skip ?_
      refine e_block ?_
      refine e_then ?_
      refine CJ.weak (.c (t := 1) rfl (.c (t := 19) rfl (.c (t := 20) rfl (.c (t := 21) rfl .n)))) (fun _ h => h) ?_
      refine c_text ?_
      refine l_y (Cls.gs _ _) ((y_add rfl rfl).lit (by kernel_rfl : _ = Value.int .i64 1)) rfl ?_
      refine l_y (Cls.gs _ _) (y_move rfl) rfl ?_
      refine l_nil ?_
      refine e_rounds ?_
      refine RJ.weak (.c (t := 1) rfl (.c (t := 19) rfl (.c (t := 20) rfl (.c (t := 21) rfl .n)))) (fun _ h => h) ?_
      refine r_succ ?_
      refine c_seq ?_
      refine c_text ?_
      refine l_y (Cls.gs _ _) ((y_lss rfl rfl).lit (by kernel_rfl : _ = Value.bool true)) rfl ?_
      refine l_nil ?_
      refine e_then ?_
      refine c_seq ?_
      refine c_true (by kernel_rfl) ?_
      refine c_skip ?_
      refine e_then ?_
      refine CJ.weak (.c (t := 1) rfl (.c (t := 19) rfl (.c (t := 20) rfl (.c (t := 21) rfl .n)))) (fun _ h => h) ?_
      refine c_seq ?_
      refine c_block ?_
      refine c_seq ?_
      refine c_text ?_
      refine l_y (Cls.gs _ _) (y_indexAddr Tryz.underlying127 ty32 rfl rfl (by decide) (by decide)) rfl ?_
      refine l_y (Cls.gs _ _) (y_load rfl (LoadAt.oneL .z ty32 (.s .z))) rfl ?_
      refine l_y (Cls.gs _ _) (y_assign rfl) rfl ?_
      refine l_nil ?_
      refine e_then ?_
      refine CJ.weak (.c (t := 1) rfl (.c (t := 4) rfl (.c (t := 19) rfl (.c (t := 20) rfl (.c (t := 21) rfl .n))))) (fun _ h => h) ?_
      refine c_seq ?_
      refine c_text ?_
      refine l_y (Cls.gs _ _) (y_move rfl) rfl ?_
      refine l_y (Cls.gs _ _) (y_gtr rfl rfl) rfl ?_
      refine l_y (Cls.gs _ _) (y_move rfl) rfl ?_
      refine l_g (s := 27) (Cls.gs _ _) (by kernel_rfl) rfl (beq_f _) (fun hg => y_move rfl) rfl ?_
      refine l_g (s := 27) (Cls.gs _ _) (by kernel_rfl) rfl (beq_f _) (fun hg => y_lss (gvt hg rfl) rfl) rfl ?_
      refine l_y (Cls.gs _ _) (y_or rfl rfl rfl) rfl ?_
      refine l_nil ?_
      refine e_then ?_
      refine CJ.weak (.c (t := 1) rfl (.c (t := 19) rfl (.c (t := 20) rfl (.c (t := 21) rfl (.c (t := 30) rfl .n))))) (fun _ h => h) ?_
      refine c_cond rfl (fun h3 => ?_) (fun h3 => ?_)
      ·
        refine c_seq ?_
        refine c_text ?_
        refine l_y (Cls.gs _ _) (y_assign rfl) rfl ?_
        refine l_nil ?_
        refine e_then ?_
        refine CJ.weak (.c (t := 2) rfl .n) (fun _ h => h) ?_
        refine c_ret ?_
        refine e_block_ret ?_
        refine e_then_ret ?_
        refine e_then_ret ?_
        refine e_block_ret ?_
        refine e_then_ret ?_
        refine e_ret rfl (.t rfl .n) (fun wF hw => ?_)
        exact ⟨_, rfl, (hw.anc (w, []) (by simp)).below, fun h => by simp at h⟩
      ·
        refine c_skip ?_
        refine e_block ?_
        refine e_then ?_
        refine CJ.weak (.c (t := 1) rfl (.c (t := 19) rfl (.c (t := 20) rfl (.c (t := 21) rfl .n)))) (fun _ h => h) ?_
        refine c_text ?_
        refine l_y (Cls.gs _ _) ((y_add rfl rfl).lit (by kernel_rfl : _ = Value.int .i64 2)) rfl ?_
        refine l_y (Cls.gs _ _) (y_move rfl) rfl ?_
        refine l_nil ?_
        refine e_rounds ?_
        refine RJ.weak (.c (t := 1) rfl (.c (t := 19) rfl (.c (t := 20) rfl (.c (t := 21) rfl .n)))) (fun _ h => h) ?_
        refine r_succ ?_
        refine c_seq ?_
        refine c_text ?_
        refine l_y (Cls.gs _ _) ((y_lss rfl rfl).lit (by kernel_rfl : _ = Value.bool false)) rfl ?_
        refine l_nil ?_
        refine e_then ?_
        refine c_seq ?_
        refine c_false (by kernel_rfl) ?_
        refine c_exit ?_
        refine e_then_exit ?_
        refine e_then_exit ?_
        refine e_block_hit ?_
        refine e_then ?_
        refine CJ.weak (.c (t := 1) rfl .n) (fun _ h => h) ?_
        refine c_seq ?_
        refine c_seq ?_
        refine c_text ?_
        refine l_y (Cls.gs _ _) (y_fieldAddr rfl fa34_1) rfl ?_
        refine l_y (Cls.gs _ _) (y_load rfl (LoadAt.oneL (.s .z) ty32 (.s .z))) rfl ?_
        refine l_y (Cls.gs _ _) (y_fieldAddr rfl fa34_0) rfl ?_
        refine l_y (Cls.gs _ _) (y_load rfl (LoadAt.oneL (.s .z) ty32 .z)) rfl ?_
        refine l_y (Cls.gs _ _) (y_lss rfl rfl) rfl ?_
        refine l_nil ?_
        refine e_then ?_
        refine CJ.weak (.c (t := 36) rfl .n) (fun _ h => h) ?_
        refine c_cond rfl (fun h4 => ?_) (fun h4 => ?_)
        ·
          refine c_seq ?_
          refine c_text ?_
          refine l_y (Cls.gs _ _) (y_assign rfl) rfl ?_
          refine l_nil ?_
          refine e_then ?_
          refine CJ.weak (.c (t := 2) rfl .n) (fun _ h => h) ?_
          refine c_ret ?_
          refine e_then_ret ?_
          refine e_ret rfl (.t rfl .n) (fun wF hw => ?_)
          exact ⟨_, rfl, (hw.anc (w, []) (by simp)).below, fun h => by simp at h⟩
        ·
          refine c_skip ?_
          refine e_then ?_
          refine CJ.weak .n (fun _ h => h) ?_
          refine c_seq ?_
          refine c_text ?_
          refine l_y (Cls.gs _ _) (y_assign rfl) rfl ?_
          refine l_nil ?_
          refine e_then ?_
          refine c_ret ?_
          refine e_ret rfl (.t rfl .n) (fun wF hw => ?_)
          simp only [Bool.or_eq_false_iff, decide_eq_false_iff_not] at h2 h3 h4
          exact ⟨_, rfl, (hw.anc (w, []) (by simp)).below, fun _ => ⟨fun h => absurd h (by simp [h0]), by omega, by omega, by omega⟩⟩

theorem alertErr6 (a : Al) (w : World) : Calls Tryz.prog 6 #[.agg #[.int .i64 a.id, .int .i64 a.kind, .int .i64 a.object, .int .i64 a.at_.lo, .int .i64 a.at_.hi, .bool a.at_.u, .int .i64 a.ra.lo, .int .i64 a.ra.hi, .bool a.ra.u, .int .i64 a.dec.lo, .int .i64 a.dec.hi, .bool a.dec.u, .int .i64 a.flux.lo, .int .i64 a.flux.hi, .bool a.flux.u, .int .i64 a.of_]] w fun e w' => ∃ x : Int, e = .returned (.int .i64 x) ∧ Gr w w' ∧ (x = 0 → AlOK a) := by
  refine enter Tryz.func6 rfl rfl rfl rfl (Cls.start w) ?_
  refine c_seq ?_
  refine c_text ?_
  refine l_n rfl (n_box rfl .a rfl) (fun b0 _ => ?_)
  refine l_y (Cls.gs _ _) (y_assign rfl) rfl ?_
  refine l_nil ?_
  refine e_then ?_
  refine CJ.weak (.c (t := 1) rfl .n) (fun _ h => h) ?_
  refine c_seq ?_
  refine c_seq ?_
  refine c_text ?_
  refine l_y (Cls.gs _ _) (y_fieldAddr rfl fa36_0) rfl ?_
  refine l_y (Cls.gs _ _) (y_load rfl (LoadAt.oneL .z ty3 .z)) rfl ?_
  refine l_y (Cls.gs _ _) (y_lss rfl rfl) rfl ?_
  refine l_y (Cls.gs _ _) (y_move rfl) rfl ?_
  refine l_g (s := 8) (Cls.gs _ _) (by kernel_rfl) rfl (beq_f _) (fun hg => y_fieldAddr rfl fa36_0) rfl ?_
  refine l_g (s := 8) (Cls.gs _ _) (by kernel_rfl) rfl (beq_f _) (fun hg => y_load (gvt hg rfl) (LoadAt.oneL .z ty3 .z)) rfl ?_
  refine l_g (s := 8) (Cls.gs _ _) (by kernel_rfl) rfl (beq_f _) (fun hg => y_fieldAddr rfl fa36_2) rfl ?_
  refine l_g (s := 8) (Cls.gs _ _) (by kernel_rfl) rfl (beq_f _) (fun hg => y_load (gvt hg rfl) (LoadAt.oneL .z ty3 (.s (.s .z)))) rfl ?_
  refine l_g (s := 8) (Cls.gs _ _) (by kernel_rfl) rfl (beq_f _) (fun hg => y_fieldAddr rfl fa36_7) rfl ?_
  refine l_g (s := 8) (Cls.gs _ _) (by kernel_rfl) rfl (beq_f _) (fun hg => y_load (gvt hg rfl) (LoadAt.oneL .z ty3 (.s (.s (.s (.s (.s (.s (.s (.s (.s (.s (.s (.s (.s (.s (.s .z))))))))))))))))) rfl ?_
  refine l_g (s := 8) (Cls.gs _ _) (by kernel_rfl) rfl (beq_f _) (fun hg => y_max3 (gvt hg rfl) (gvt hg rfl) (gvt hg rfl)) rfl ?_
  refine l_g (s := 8) (Cls.gs _ _) (by kernel_rfl) rfl (beq_f _) (fun hg => y_gtr (gvt hg rfl) rfl) rfl ?_
  refine l_y (Cls.gs _ _) (y_or rfl rfl rfl) rfl ?_
  refine l_y (Cls.gs _ _) (y_move rfl) rfl ?_
  refine l_g (s := 18) (Cls.gs _ _) (by kernel_rfl) rfl (beq_f _) (fun hg => y_fieldAddr rfl fa36_2) rfl ?_
  refine l_g (s := 18) (Cls.gs _ _) (by kernel_rfl) rfl (beq_f _) (fun hg => y_load (gvt hg rfl) (LoadAt.oneL .z ty3 (.s (.s .z)))) rfl ?_
  refine l_g (s := 18) (Cls.gs _ _) (by kernel_rfl) rfl (beq_f _) (fun hg => y_fieldAddr rfl fa36_7) rfl ?_
  refine l_g (s := 18) (Cls.gs _ _) (by kernel_rfl) rfl (beq_f _) (fun hg => y_load (gvt hg rfl) (LoadAt.oneL .z ty3 (.s (.s (.s (.s (.s (.s (.s (.s (.s (.s (.s (.s (.s (.s (.s .z))))))))))))))))) rfl ?_
  refine l_g (s := 18) (Cls.gs _ _) (by kernel_rfl) rfl (beq_f _) (fun hg => y_min2 (gvt hg rfl) (gvt hg rfl)) rfl ?_
  refine l_g (s := 18) (Cls.gs _ _) (by kernel_rfl) rfl (beq_f _) (fun hg => y_lss (gvt hg rfl) rfl) rfl ?_
  refine l_y (Cls.gs _ _) (y_or rfl rfl rfl) rfl ?_
  refine l_nil ?_
  refine e_then ?_
  refine CJ.weak (.c (t := 1) rfl (.c (t := 25) rfl .n)) (fun _ h => h) ?_
  refine c_cond rfl (fun h0 => ?_) (fun h0 => ?_)
  ·
    refine c_seq ?_
    refine c_text ?_
    refine l_y (Cls.gs _ _) (y_assign rfl) rfl ?_
    refine l_nil ?_
    refine e_then ?_
    refine CJ.weak (.c (t := 2) rfl .n) (fun _ h => h) ?_
    refine c_ret ?_
    refine e_then_ret ?_
    refine e_ret rfl (.t rfl .n) (fun wF hw => ?_)
    exact ⟨_, rfl, (hw.anc (w, []) (by simp)).below, fun h => by simp at h⟩
  ·
    refine c_skip ?_
    refine e_then ?_
    refine CJ.weak (.c (t := 1) rfl .n) (fun _ h => h) ?_
    refine c_seq ?_
    refine c_seq ?_
    refine c_text ?_
    refine l_y (Cls.gs _ _) (y_fieldAddr rfl fa36_1) rfl ?_
    refine l_y (Cls.gs _ _) (y_load rfl (LoadAt.oneL .z ty3 (.s .z))) rfl ?_
    refine l_y (Cls.gs _ _) (y_gtr rfl rfl) rfl ?_
    refine l_y (Cls.gs _ _) (y_move rfl) rfl ?_
    refine l_g (s := 29) (Cls.gs _ _) (by kernel_rfl) rfl (beq_f _) (fun hg => y_fieldAddr rfl fa36_1) rfl ?_
    refine l_g (s := 29) (Cls.gs _ _) (by kernel_rfl) rfl (beq_f _) (fun hg => y_load (gvt hg rfl) (LoadAt.oneL .z ty3 (.s .z))) rfl ?_
    refine l_g (s := 29) (Cls.gs _ _) (by kernel_rfl) rfl (beq_f _) (fun hg => y_lss (gvt hg rfl) rfl) rfl ?_
    refine l_y (Cls.gs _ _) (y_or rfl rfl rfl) rfl ?_
    refine l_nil ?_
    refine e_then ?_
    refine CJ.weak (.c (t := 1) rfl (.c (t := 33) rfl .n)) (fun _ h => h) ?_
    refine c_cond rfl (fun h1 => ?_) (fun h1 => ?_)
    ·
      refine c_seq ?_
      refine c_text ?_
      refine l_y (Cls.gs _ _) (y_assign rfl) rfl ?_
      refine l_nil ?_
      refine e_then ?_
      refine CJ.weak (.c (t := 2) rfl .n) (fun _ h => h) ?_
      refine c_ret ?_
      refine e_then_ret ?_
      refine e_ret rfl (.t rfl .n) (fun wF hw => ?_)
      exact ⟨_, rfl, (hw.anc (w, []) (by simp)).below, fun h => by simp at h⟩
    ·
      refine c_skip ?_
      refine e_then ?_
      refine CJ.weak (.c (t := 1) rfl .n) (fun _ h => h) ?_
      refine c_seq ?_
      refine c_seq ?_
      refine c_draw (m := 15) (S0 := fun _ => True) (fun _ => false) (fun _ _ => trivial) hmix (Cls.gs _ _) rfl ?_
      refine a_y (i := 0) (Cls.gs _ _) (by kernel_rfl) rfl (by kernel_rfl) (by kernel_rfl) (y_fieldAddr rfl fa36_3) rfl ?_
      refine a_y (i := 1) (Cls.gs _ _) (by kernel_rfl) rfl (by kernel_rfl) (by kernel_rfl) (y_load rfl (LoadAt.aggL .z ty28 (.s (.s (.s (.t (.t (.t .d)))))))) rfl ?_
      refine a_y (i := 3) (Cls.gs _ _) (by kernel_rfl) rfl (by kernel_rfl) (by kernel_rfl) (y_fieldAddr rfl fa36_4) rfl ?_
      refine a_y (i := 4) (Cls.gs _ _) (by kernel_rfl) rfl (by kernel_rfl) (by kernel_rfl) (y_load rfl (LoadAt.aggL .z ty31 (.s (.s (.s (.s (.s (.s (.t (.t (.t .d))))))))))) rfl ?_
      refine a_y (i := 6) (Cls.gs _ _) (by kernel_rfl) rfl (by kernel_rfl) (by kernel_rfl) (y_fieldAddr rfl fa36_5) rfl ?_
      refine a_y (i := 7) (Cls.gs _ _) (by kernel_rfl) rfl (by kernel_rfl) (by kernel_rfl) (y_load rfl (LoadAt.aggL .z ty31 (.s (.s (.s (.s (.s (.s (.s (.s (.s (.t (.t (.t .d)))))))))))))) rfl ?_
      refine a_y (i := 9) (Cls.gs _ _) (by kernel_rfl) rfl (by kernel_rfl) (by kernel_rfl) (y_fieldAddr rfl fa36_6) rfl ?_
      refine a_y (i := 10) (Cls.gs _ _) (by kernel_rfl) rfl (by kernel_rfl) (by kernel_rfl) (y_load rfl (LoadAt.aggL .z ty34 (.s (.s (.s (.s (.s (.s (.s (.s (.s (.s (.s (.s (.t (.t (.t .d))))))))))))))))) rfl ?_
      refine a_y (i := 14) (Cls.gs _ _) (by kernel_rfl) rfl (by kernel_rfl) (by kernel_rfl) (y_move rfl) rfl ?_
      refine a_n (i := 2) rfl rfl (by kernel_rfl) (fun _ => Cls.gs _ _) (.inr fun _ _ h => h) (n_callW ent19 (.c rfl .n) (fun w _ => bdErr19 a.at_ w) rfl) (fun e2 he2 => ?_)
      refine a_n (i := 5) rfl rfl (by kernel_rfl) (fun _ => Cls.gs _ _) (.inr fun _ _ h => h) (n_callW ent20 (.c rfl .n) (fun w _ => bdErr20 a.ra w) rfl) (fun e5 he5 => ?_)
      refine a_n (i := 8) rfl rfl (by kernel_rfl) (fun _ => Cls.gs _ _) (.inr fun _ _ h => h) (n_callW ent20 (.c rfl .n) (fun w _ => bdErr20 a.dec w) rfl) (fun e8 he8 => ?_)
      refine a_n (i := 11) rfl rfl (by kernel_rfl) (fun _ => Cls.gs _ _) (.inr fun _ _ h => h) (n_callW ent21 (.c rfl .n) (fun w _ => bdErr21 a.flux w) rfl) (fun e11 he11 => ?_)
      refine a_n (i := 12) rfl rfl (by kernel_rfl) (fun _ => Cls.gs _ _) (.inr fun _ _ h => h.tail) (n_buildSlice (l := [.int .i64 0, .int .i64 0, .int .i64 0, .int .i64 0]) Tryz.underlying73 ty37 (.o rfl) rfl (by simp) (by kernel_rfl) (.c rfl (.c rfl (.c rfl (.c rfl .n)))) (.c rfl (.o rfl) rfl rfl (.t .d) (.c rfl (.o rfl) rfl rfl (.s (.t .d)) (.c rfl (.o rfl) rfl rfl (.s (.s (.t .d))) (.c rfl (.o rfl) rfl rfl (.s (.s (.s (.t .d)))) .d)))) rfl) (fun b1 _ => ?_)
      refine a_y (i := 13) (Cls.gs _ _) (by kernel_rfl) rfl (by kernel_rfl) (by kernel_rfl) ((y_lenS Tryz.underlying73 rfl rfl).lit (by kernel_rfl : _ = Value.int .i64 4)) rfl ?_
      refine a_done (by kernel_rfl) ?_
      refine e_then ?_
      refine CJ.weak (.c (t := 1) rfl (.c (t := 46) rfl (.c (t := 47) rfl (.c (t := 48) rfl .n)))) (fun _ h => h) ?_
      refine c_block ?_
      refine c_rounds 5 ?_
      refine r_succ ?_
      refine c_seq ?_
      refine c_text ?_
      refine l_y (Cls.gs _ _) ((y_lss rfl rfl).lit (by kernel_rfl : _ = Value.bool true)) rfl ?_
      refine l_nil ?_
      refine e_then ?_
      refine c_seq ?_
      refine c_true (by kernel_rfl) ?_
      refine c_skip ?_
      refine e_then ?_
      refine CJ.weak (.c (t := 1) rfl (.c (t := 46) rfl (.c (t := 47) rfl (.c (t := 48) rfl .n)))) (fun _ h => h) ?_
      refine c_seq ?_
      refine c_block ?_
      refine c_seq ?_
      refine c_text ?_
      refine l_y (Cls.gs _ _) (y_indexAddr Tryz.underlying73 ty37 rfl rfl (by decide) (by decide)) rfl ?_
      refine l_y (Cls.gs _ _) (y_load rfl (LoadAt.oneL .z ty37 .z)) rfl ?_
      refine l_y (Cls.gs _ _) (y_assign rfl) rfl ?_
      refine l_nil ?_
      refine e_then ?_
      refine CJ.weak (.c (t := 1) rfl (.c (t := 4) rfl (.c (t := 46) rfl (.c (t := 47) rfl (.c (t := 48) rfl .n))))) (fun _ h => h) ?_
      refine c_seq ?_
      refine c_text ?_
      refine l_y (Cls.gs _ _) (y_move rfl) rfl ?_
      refine l_y (Cls.gs _ _) (y_neq rfl rfl) rfl ?_
      refine l_nil ?_
      refine e_then ?_
      refine CJ.weak (.c (t := 1) rfl (.c (t := 4) rfl (.c (t := 46) rfl (.c (t := 47) rfl (.c (t := 48) rfl (.c (t := 53) rfl .n)))))) (fun _ h => h) ?_
      refine c_cond rfl (fun h2 => ?_) (fun h2 => ?_)
      ·
        refine c_seq ?_
        refine c_text ?_
        refine l_y (Cls.gs _ _) (y_move rfl) rfl ?_
        refine l_y (Cls.gs _ _) (y_assign rfl) rfl ?_
        refine l_nil ?_
        refine e_then ?_
        refine CJ.weak (.c (t := 2) rfl .n) (fun _ h => h) ?_
        refine c_ret ?_
        refine e_block_ret ?_
        refine e_then_ret ?_
        refine e_then_ret ?_
        refine e_block_ret ?_
        refine e_then_ret ?_
        refine e_ret rfl (.t rfl .n) (fun wF hw => ?_)
        exact ⟨_, rfl, (hw.anc (w, []) (by simp)).below, fun h => by rw [h] at h2; simp at h2⟩
      ·
        refine c_skip ?_
        refine e_block ?_
        refine e_then ?_
        refine CJ.weak (.c (t := 1) rfl (.c (t := 46) rfl (.c (t := 47) rfl (.c (t := 48) rfl .n)))) (fun _ h => h) ?_
        refine c_text ?_
        refine l_y (Cls.gs _ _) ((y_add rfl rfl).lit (by kernel_rfl : _ = Value.int .i64 1)) rfl ?_
        refine l_y (Cls.gs _ _) (y_move rfl) rfl ?_
        refine l_nil ?_
        refine e_rounds ?_
        refine RJ.weak (.c (t := 1) rfl (.c (t := 46) rfl (.c (t := 47) rfl (.c (t := 48) rfl .n)))) (fun _ h => h) ?_
        refine r_succ ?_
        refine c_seq ?_
        refine c_text ?_
        refine l_y (Cls.gs _ _) ((y_lss rfl rfl).lit (by kernel_rfl : _ = Value.bool true)) rfl ?_
        refine l_nil ?_
        refine e_then ?_
        refine c_seq ?_
        refine c_true (by kernel_rfl) ?_
        refine c_skip ?_
        refine e_then ?_
        refine CJ.weak (.c (t := 1) rfl (.c (t := 46) rfl (.c (t := 47) rfl (.c (t := 48) rfl .n)))) (fun _ h => h) ?_
        refine c_seq ?_
        refine c_block ?_
        refine c_seq ?_
        refine c_text ?_
        refine l_y (Cls.gs _ _) (y_indexAddr Tryz.underlying73 ty37 rfl rfl (by decide) (by decide)) rfl ?_
        refine l_y (Cls.gs _ _) (y_load rfl (LoadAt.oneL .z ty37 (.s .z))) rfl ?_
        refine l_y (Cls.gs _ _) (y_assign rfl) rfl ?_
        refine l_nil ?_
        refine e_then ?_
        refine CJ.weak (.c (t := 1) rfl (.c (t := 4) rfl (.c (t := 46) rfl (.c (t := 47) rfl (.c (t := 48) rfl .n))))) (fun _ h => h) ?_
        refine c_seq ?_
        refine c_text ?_
        refine l_y (Cls.gs _ _) (y_move rfl) rfl ?_
        refine l_y (Cls.gs _ _) (y_neq rfl rfl) rfl ?_
        refine l_nil ?_
        refine e_then ?_
        refine CJ.weak (.c (t := 1) rfl (.c (t := 4) rfl (.c (t := 46) rfl (.c (t := 47) rfl (.c (t := 48) rfl (.c (t := 53) rfl .n)))))) (fun _ h => h) ?_
        refine c_cond rfl (fun h3 => ?_) (fun h3 => ?_)
        ·
          refine c_seq ?_
          refine c_text ?_
          refine l_y (Cls.gs _ _) (y_move rfl) rfl ?_
          refine l_y (Cls.gs _ _) (y_assign rfl) rfl ?_
          refine l_nil ?_
          refine e_then ?_
          refine CJ.weak (.c (t := 2) rfl .n) (fun _ h => h) ?_
          refine c_ret ?_
          refine e_block_ret ?_
          refine e_then_ret ?_
          refine e_then_ret ?_
          refine e_block_ret ?_
          refine e_then_ret ?_
          refine e_ret rfl (.t rfl .n) (fun wF hw => ?_)
          exact ⟨_, rfl, (hw.anc (w, []) (by simp)).below, fun h => by rw [h] at h3; simp at h3⟩
        ·
          refine c_skip ?_
          refine e_block ?_
          refine e_then ?_
          refine CJ.weak (.c (t := 1) rfl (.c (t := 46) rfl (.c (t := 47) rfl (.c (t := 48) rfl .n)))) (fun _ h => h) ?_
          refine c_text ?_
          refine l_y (Cls.gs _ _) ((y_add rfl rfl).lit (by kernel_rfl : _ = Value.int .i64 2)) rfl ?_
          refine l_y (Cls.gs _ _) (y_move rfl) rfl ?_
          refine l_nil ?_
          refine e_rounds ?_
          refine RJ.weak (.c (t := 1) rfl (.c (t := 46) rfl (.c (t := 47) rfl (.c (t := 48) rfl .n)))) (fun _ h => h) ?_
          refine r_succ ?_
          refine c_seq ?_
          refine c_text ?_
          refine l_y (Cls.gs _ _) ((y_lss rfl rfl).lit (by kernel_rfl : _ = Value.bool true)) rfl ?_
          refine l_nil ?_
          refine e_then ?_
          refine c_seq ?_
          refine c_true (by kernel_rfl) ?_
          refine c_skip ?_
          refine e_then ?_
          refine CJ.weak (.c (t := 1) rfl (.c (t := 46) rfl (.c (t := 47) rfl (.c (t := 48) rfl .n)))) (fun _ h => h) ?_
          refine c_seq ?_
          refine c_block ?_
          refine c_seq ?_
          refine c_text ?_
          refine l_y (Cls.gs _ _) (y_indexAddr Tryz.underlying73 ty37 rfl rfl (by decide) (by decide)) rfl ?_
          refine l_y (Cls.gs _ _) (y_load rfl (LoadAt.oneL .z ty37 (.s (.s .z)))) rfl ?_
          refine l_y (Cls.gs _ _) (y_assign rfl) rfl ?_
          refine l_nil ?_
          refine e_then ?_
          refine CJ.weak (.c (t := 1) rfl (.c (t := 4) rfl (.c (t := 46) rfl (.c (t := 47) rfl (.c (t := 48) rfl .n))))) (fun _ h => h) ?_
          refine c_seq ?_
          refine c_text ?_
          refine l_y (Cls.gs _ _) (y_move rfl) rfl ?_
          refine l_y (Cls.gs _ _) (y_neq rfl rfl) rfl ?_
          refine l_nil ?_
          refine e_then ?_
          refine CJ.weak (.c (t := 1) rfl (.c (t := 4) rfl (.c (t := 46) rfl (.c (t := 47) rfl (.c (t := 48) rfl (.c (t := 53) rfl .n)))))) (fun _ h => h) ?_
          refine c_cond rfl (fun h4 => ?_) (fun h4 => ?_)
          ·
            refine c_seq ?_
            refine c_text ?_
            refine l_y (Cls.gs _ _) (y_move rfl) rfl ?_
            refine l_y (Cls.gs _ _) (y_assign rfl) rfl ?_
            refine l_nil ?_
            refine e_then ?_
            refine CJ.weak (.c (t := 2) rfl .n) (fun _ h => h) ?_
            refine c_ret ?_
            refine e_block_ret ?_
            refine e_then_ret ?_
            refine e_then_ret ?_
            refine e_block_ret ?_
            refine e_then_ret ?_
            refine e_ret rfl (.t rfl .n) (fun wF hw => ?_)
            exact ⟨_, rfl, (hw.anc (w, []) (by simp)).below, fun h => by rw [h] at h4; simp at h4⟩
          ·
            refine c_skip ?_
            refine e_block ?_
            refine e_then ?_
            refine CJ.weak (.c (t := 1) rfl (.c (t := 46) rfl (.c (t := 47) rfl (.c (t := 48) rfl .n)))) (fun _ h => h) ?_
            refine c_text ?_
            refine l_y (Cls.gs _ _) ((y_add rfl rfl).lit (by kernel_rfl : _ = Value.int .i64 3)) rfl ?_
            refine l_y (Cls.gs _ _) (y_move rfl) rfl ?_
            refine l_nil ?_
            refine e_rounds ?_
            refine RJ.weak (.c (t := 1) rfl (.c (t := 46) rfl (.c (t := 47) rfl (.c (t := 48) rfl .n)))) (fun _ h => h) ?_
            refine r_succ ?_
            refine c_seq ?_
            refine c_text ?_
            refine l_y (Cls.gs _ _) ((y_lss rfl rfl).lit (by kernel_rfl : _ = Value.bool true)) rfl ?_
            refine l_nil ?_
            refine e_then ?_
            refine c_seq ?_
            refine c_true (by kernel_rfl) ?_
            refine c_skip ?_
            refine e_then ?_
            refine CJ.weak (.c (t := 1) rfl (.c (t := 46) rfl (.c (t := 47) rfl (.c (t := 48) rfl .n)))) (fun _ h => h) ?_
            refine c_seq ?_
            refine c_block ?_
            refine c_seq ?_
            refine c_text ?_
            refine l_y (Cls.gs _ _) (y_indexAddr Tryz.underlying73 ty37 rfl rfl (by decide) (by decide)) rfl ?_
            refine l_y (Cls.gs _ _) (y_load rfl (LoadAt.oneL .z ty37 (.s (.s (.s .z))))) rfl ?_
            refine l_y (Cls.gs _ _) (y_assign rfl) rfl ?_
            refine l_nil ?_
            refine e_then ?_
            refine CJ.weak (.c (t := 1) rfl (.c (t := 4) rfl (.c (t := 46) rfl (.c (t := 47) rfl (.c (t := 48) rfl .n))))) (fun _ h => h) ?_
            refine c_seq ?_
            refine c_text ?_
            refine l_y (Cls.gs _ _) (y_move rfl) rfl ?_
            refine l_y (Cls.gs _ _) (y_neq rfl rfl) rfl ?_
            refine l_nil ?_
            refine e_then ?_
            refine CJ.weak (.c (t := 1) rfl (.c (t := 4) rfl (.c (t := 46) rfl (.c (t := 47) rfl (.c (t := 48) rfl (.c (t := 53) rfl .n)))))) (fun _ h => h) ?_
            refine c_cond rfl (fun h5 => ?_) (fun h5 => ?_)
            ·
              refine c_seq ?_
              refine c_text ?_
              refine l_y (Cls.gs _ _) (y_move rfl) rfl ?_
              refine l_y (Cls.gs _ _) (y_assign rfl) rfl ?_
              refine l_nil ?_
              refine e_then ?_
              refine CJ.weak (.c (t := 2) rfl .n) (fun _ h => h) ?_
              refine c_ret ?_
              refine e_block_ret ?_
              refine e_then_ret ?_
              refine e_then_ret ?_
              refine e_block_ret ?_
              refine e_then_ret ?_
              refine e_ret rfl (.t rfl .n) (fun wF hw => ?_)
              exact ⟨_, rfl, (hw.anc (w, []) (by simp)).below, fun h => by rw [h] at h5; simp at h5⟩
            ·
              refine c_skip ?_
              refine e_block ?_
              refine e_then ?_
              refine CJ.weak (.c (t := 1) rfl (.c (t := 46) rfl (.c (t := 47) rfl (.c (t := 48) rfl .n)))) (fun _ h => h) ?_
              refine c_text ?_
              refine l_y (Cls.gs _ _) ((y_add rfl rfl).lit (by kernel_rfl : _ = Value.int .i64 4)) rfl ?_
              refine l_y (Cls.gs _ _) (y_move rfl) rfl ?_
              refine l_nil ?_
              refine e_rounds ?_
              refine RJ.weak (.c (t := 1) rfl (.c (t := 46) rfl (.c (t := 47) rfl (.c (t := 48) rfl .n)))) (fun _ h => h) ?_
              refine r_succ ?_
              refine c_seq ?_
              refine c_text ?_
              refine l_y (Cls.gs _ _) ((y_lss rfl rfl).lit (by kernel_rfl : _ = Value.bool false)) rfl ?_
              refine l_nil ?_
              refine e_then ?_
              refine c_seq ?_
              refine c_false (by kernel_rfl) ?_
              refine c_exit ?_
              refine e_then_exit ?_
              refine e_then_exit ?_
              refine e_block_hit ?_
              refine e_then ?_
              refine CJ.weak (.c (t := 1) rfl .n) (fun _ h => h) ?_
              refine c_seq ?_
              refine c_seq ?_
              refine c_text ?_
              refine l_y (Cls.gs _ _) (y_fieldAddr rfl fa36_3) rfl ?_
              refine l_y (Cls.gs _ _) (y_fieldAddr rfl fa28_0) rfl ?_
              refine l_y (Cls.gs _ _) (y_load rfl (LoadAt.oneL (.s .z) ty26 (.s (.s (.s .z))))) rfl ?_
              refine l_y (Cls.gs _ _) (y_call ent22 (.c rfl .n) (fun w _ => inTime22 _ w)) rfl ?_
              refine l_y (Cls.gs _ _) (y_not rfl) rfl ?_
              refine l_y (Cls.gs _ _) (y_move rfl) rfl ?_
              refine l_g (s := 61) (Cls.gs _ _) (by kernel_rfl) rfl (beq_f _) (fun hg => y_fieldAddr rfl fa36_3) rfl ?_
              refine l_g (s := 61) (Cls.gs _ _) (by kernel_rfl) rfl (beq_f _) (fun hg => y_fieldAddr (gvt hg rfl) fa28_1) rfl ?_
              refine l_g (s := 61) (Cls.gs _ _) (by kernel_rfl) rfl (beq_f _) (fun hg => y_load (gvt hg rfl) (LoadAt.oneL (.s .z) ty26 (.s (.s (.s (.s .z)))))) rfl ?_
              refine l_g (s := 61) (Cls.gs _ _) (by kernel_rfl) rfl (beq_f _) (fun hg => y_call ent22 (.c (gvt hg rfl) .n) (fun w _ => inTime22 _ w)) rfl ?_
              refine l_g (s := 61) (Cls.gs _ _) (by kernel_rfl) rfl (beq_f _) (fun hg => y_not (gvt hg rfl)) rfl ?_
              refine l_y (Cls.gs _ _) (y_or rfl rfl rfl) rfl ?_
              refine l_y (Cls.gs _ _) (y_move rfl) rfl ?_
              refine l_g (s := 68) (Cls.gs _ _) (by kernel_rfl) rfl (beq_f _) (fun hg => y_fieldAddr rfl fa36_5) rfl ?_
              refine l_g (s := 68) (Cls.gs _ _) (by kernel_rfl) rfl (beq_f _) (fun hg => y_fieldAddr (gvt hg rfl) fa31_1) rfl ?_
              refine l_g (s := 68) (Cls.gs _ _) (by kernel_rfl) rfl (beq_f _) (fun hg => y_load (gvt hg rfl) (LoadAt.oneL (.s .z) ty29 (.s (.s (.s (.s (.s (.s (.s (.s (.s (.s .z)))))))))))) rfl ?_
              refine l_g (s := 68) (Cls.gs _ _) (by kernel_rfl) rfl (beq_f _) (fun hg => y_gtr (gvt hg rfl) rfl) rfl ?_
              refine l_y (Cls.gs _ _) (y_or rfl rfl rfl) rfl ?_
              refine l_y (Cls.gs _ _) (y_move rfl) rfl ?_
              refine l_g (s := 74) (Cls.gs _ _) (by kernel_rfl) rfl (beq_f _) (fun hg => y_fieldAddr rfl fa36_5) rfl ?_
              refine l_g (s := 74) (Cls.gs _ _) (by kernel_rfl) rfl (beq_f _) (fun hg => y_fieldAddr (gvt hg rfl) fa31_0) rfl ?_
              refine l_g (s := 74) (Cls.gs _ _) (by kernel_rfl) rfl (beq_f _) (fun hg => y_load (gvt hg rfl) (LoadAt.oneL (.s .z) ty29 (.s (.s (.s (.s (.s (.s (.s (.s (.s .z))))))))))) rfl ?_
              refine l_g (s := 74) (Cls.gs _ _) (by kernel_rfl) rfl (beq_f _) (fun hg => y_lss (gvt hg rfl) rfl) rfl ?_
              refine l_y (Cls.gs _ _) (y_or rfl rfl rfl) rfl ?_
              refine l_y (Cls.gs _ _) (y_move rfl) rfl ?_
              refine l_g (s := 80) (Cls.gs _ _) (by kernel_rfl) rfl (beq_f _) (fun hg => y_fieldAddr rfl fa36_4) rfl ?_
              refine l_g (s := 80) (Cls.gs _ _) (by kernel_rfl) rfl (beq_f _) (fun hg => y_fieldAddr (gvt hg rfl) fa31_0) rfl ?_
              refine l_g (s := 80) (Cls.gs _ _) (by kernel_rfl) rfl (beq_f _) (fun hg => y_load (gvt hg rfl) (LoadAt.oneL (.s .z) ty29 (.s (.s (.s (.s (.s (.s .z)))))))) rfl ?_
              refine l_g (s := 80) (Cls.gs _ _) (by kernel_rfl) rfl (beq_f _) (fun hg => y_geq (gvt hg rfl) rfl) rfl ?_
              refine l_y (Cls.gs _ _) (y_or rfl rfl rfl) rfl ?_
              refine l_y (Cls.gs _ _) (y_move rfl) rfl ?_
              refine l_g (s := 86) (Cls.gs _ _) (by kernel_rfl) rfl (beq_f _) (fun hg => y_fieldAddr rfl fa36_4) rfl ?_
              refine l_g (s := 86) (Cls.gs _ _) (by kernel_rfl) rfl (beq_f _) (fun hg => y_fieldAddr (gvt hg rfl) fa31_0) rfl ?_
              refine l_g (s := 86) (Cls.gs _ _) (by kernel_rfl) rfl (beq_f _) (fun hg => y_load (gvt hg rfl) (LoadAt.oneL (.s .z) ty29 (.s (.s (.s (.s (.s (.s .z)))))))) rfl ?_
              refine l_g (s := 86) (Cls.gs _ _) (by kernel_rfl) rfl (beq_f _) (fun hg => y_lss (gvt hg rfl) rfl) rfl ?_
              refine l_y (Cls.gs _ _) (y_or rfl rfl rfl) rfl ?_
              refine l_y (Cls.gs _ _) (y_move rfl) rfl ?_
              refine l_g (s := 92) (Cls.gs _ _) (by kernel_rfl) rfl (beq_f _) (fun hg => y_fieldAddr rfl fa36_4) rfl ?_
              refine l_g (s := 92) (Cls.gs _ _) (by kernel_rfl) rfl (beq_f _) (fun hg => y_fieldAddr (gvt hg rfl) fa31_1) rfl ?_
              refine l_g (s := 92) (Cls.gs _ _) (by kernel_rfl) rfl (beq_f _) (fun hg => y_load (gvt hg rfl) (LoadAt.oneL (.s .z) ty29 (.s (.s (.s (.s (.s (.s (.s .z))))))))) rfl ?_
              refine l_g (s := 92) (Cls.gs _ _) (by kernel_rfl) rfl (beq_f _) (fun hg => y_fieldAddr rfl fa36_4) rfl ?_
              refine l_g (s := 92) (Cls.gs _ _) (by kernel_rfl) rfl (beq_f _) (fun hg => y_fieldAddr (gvt hg rfl) fa31_0) rfl ?_
              refine l_g (s := 92) (Cls.gs _ _) (by kernel_rfl) rfl (beq_f _) (fun hg => y_load (gvt hg rfl) (LoadAt.oneL (.s .z) ty29 (.s (.s (.s (.s (.s (.s .z)))))))) rfl ?_
              refine l_g (s := 92) (Cls.gs _ _) (by kernel_rfl) rfl (beq_f _) (fun hg => y_add (gvt hg rfl) rfl) rfl ?_
              refine l_g (s := 92) (Cls.gs _ _) (by kernel_rfl) rfl (beq_f _) (fun hg => y_geq (gvt hg rfl) (gvt hg rfl)) rfl ?_
              refine l_y (Cls.gs _ _) (y_or rfl rfl rfl) rfl ?_
              refine l_nil ?_
              refine e_then ?_
              refine CJ.weak (.c (t := 1) rfl (.c (t := 101) rfl .n)) (fun _ h => h) ?_
              refine c_cond rfl (fun h6 => ?_) (fun h6 => ?_)
              ·
                refine c_seq ?_
                refine c_text ?_
                refine l_y (Cls.gs _ _) (y_assign rfl) rfl ?_
                refine l_nil ?_
                refine e_then ?_
                refine CJ.weak (.c (t := 2) rfl .n) (fun _ h => h) ?_
                refine c_ret ?_
                refine e_then_ret ?_
                refine e_ret rfl (.t rfl .n) (fun wF hw => ?_)
                exact ⟨_, rfl, (hw.anc (w, []) (by simp)).below, fun h => by simp at h⟩
              ·
                refine c_skip ?_
                refine e_then ?_
                refine CJ.weak (.c (t := 1) rfl .n) (fun _ h => h) ?_
                refine c_seq ?_
                refine c_seq ?_
                refine c_text ?_
                refine l_y (Cls.gs _ _) (y_fieldAddr rfl fa36_1) rfl ?_
                refine l_y (Cls.gs _ _) (y_load rfl (LoadAt.oneL (.s .z) ty3 (.s .z))) rfl ?_
                refine l_y (Cls.gs _ _) (y_lss rfl rfl) rfl ?_
                refine l_nil ?_
                refine e_then ?_
                refine CJ.weak (.c (t := 1) rfl (.c (t := 104) rfl .n)) (fun _ h => h) ?_
                refine c_cond rfl (fun h7 => ?_) (fun h7 => ?_)
                ·
                  refine c_seq ?_
                  refine c_seq ?_
                  refine c_text ?_
                  refine l_y (Cls.gs _ _) (y_fieldAddr rfl fa36_7) rfl ?_
                  refine l_y (Cls.gs _ _) (y_load rfl (LoadAt.oneL (.s .z) ty3 (.s (.s (.s (.s (.s (.s (.s (.s (.s (.s (.s (.s (.s (.s (.s .z))))))))))))))))) rfl ?_
                  refine l_y (Cls.gs _ _) (y_neq rfl rfl) rfl ?_
                  refine l_nil ?_
                  refine e_then ?_
                  refine CJ.weak (.c (t := 107) rfl .n) (fun _ h => h) ?_
                  refine c_cond rfl (fun h8 => ?_) (fun h8 => ?_)
                  ·
                    refine c_seq ?_
                    refine c_text ?_
                    refine l_y (Cls.gs _ _) (y_assign rfl) rfl ?_
                    refine l_nil ?_
                    refine e_then ?_
                    refine CJ.weak (.c (t := 2) rfl .n) (fun _ h => h) ?_
                    refine c_ret ?_
                    refine e_then_ret ?_
                    refine e_then_ret ?_
                    refine e_ret rfl (.t rfl .n) (fun wF hw => ?_)
                    exact ⟨_, rfl, (hw.anc (w, []) (by simp)).below, fun h => by simp at h⟩
                  ·
                    refine c_skip ?_
                    refine e_then ?_
                    refine CJ.weak .n (fun _ h => h) ?_
                    refine c_seq ?_
                    refine c_text ?_
                    refine l_y (Cls.gs _ _) (y_assign rfl) rfl ?_
                    refine l_nil ?_
                    refine e_then ?_
                    refine c_ret ?_
                    refine e_then_ret ?_
                    refine e_ret rfl (.t rfl .n) (fun wF hw => ?_)
                    simp only [Bool.or_eq_false_iff, decide_eq_false_iff_not, Bool.not_eq_false', Bool.and_eq_true, decide_eq_true_eq] at h0 h1 h2 h3 h4 h5 h6
                    have hwr : IntKind.i64.wrap (a.ra.lo + 4294967296) = a.ra.lo + 4294967296 := IntWalk.i64_in _ ⟨by omega, by omega⟩
                    rw [hwr] at h6
                    have h7 := of_decide_eq_true h7
                    have h8 : a.of_ = 0 := by simpa using h8
                    exact ⟨_, rfl, (hw.anc (w, []) (by simp)).below, fun _ => ⟨by omega, by omega, by omega, by omega, by omega, by omega, by omega, by omega, he2 h2, he5 h3, he8 h4, he11 h5, by omega, by omega, by omega, by omega, by omega, by omega, by omega, fun _ => h8, fun h => by omega⟩⟩
                ·
                  refine c_skip ?_
                  refine e_then ?_
                  refine CJ.weak (.c (t := 1) rfl .n) (fun _ h => h) ?_
                  refine c_seq ?_
                  refine c_seq ?_
                  refine c_text ?_
                  refine l_y (Cls.gs _ _) (y_fieldAddr rfl fa36_7) rfl ?_
                  refine l_y (Cls.gs _ _) (y_load rfl (LoadAt.oneL (.s .z) ty3 (.s (.s (.s (.s (.s (.s (.s (.s (.s (.s (.s (.s (.s (.s (.s .z))))))))))))))))) rfl ?_
                  refine l_y (Cls.gs _ _) (y_eql rfl rfl) rfl ?_
                  refine l_y (Cls.gs _ _) (y_move rfl) rfl ?_
                  refine l_g (s := 111) (Cls.gs _ _) (by kernel_rfl) rfl (beq_f _) (fun hg => y_fieldAddr rfl fa36_7) rfl ?_
                  refine l_g (s := 111) (Cls.gs _ _) (by kernel_rfl) rfl (beq_f _) (fun hg => y_load (gvt hg rfl) (LoadAt.oneL (.s .z) ty3 (.s (.s (.s (.s (.s (.s (.s (.s (.s (.s (.s (.s (.s (.s (.s .z))))))))))))))))) rfl ?_
                  refine l_g (s := 111) (Cls.gs _ _) (by kernel_rfl) rfl (beq_f _) (fun hg => y_fieldAddr rfl fa36_0) rfl ?_
                  refine l_g (s := 111) (Cls.gs _ _) (by kernel_rfl) rfl (beq_f _) (fun hg => y_load (gvt hg rfl) (LoadAt.oneL (.s .z) ty3 .z)) rfl ?_
                  refine l_g (s := 111) (Cls.gs _ _) (by kernel_rfl) rfl (beq_f _) (fun hg => y_eql (gvt hg rfl) (gvt hg rfl)) rfl ?_
                  refine l_y (Cls.gs _ _) (y_or rfl rfl rfl) rfl ?_
                  refine l_y (Cls.gs _ _) (y_move rfl) rfl ?_
                  refine l_g (s := 118) (Cls.gs _ _) (by kernel_rfl) rfl (beq_f _) (fun hg => y_fieldAddr rfl fa36_2) rfl ?_
                  refine l_g (s := 118) (Cls.gs _ _) (by kernel_rfl) rfl (beq_f _) (fun hg => y_load (gvt hg rfl) (LoadAt.oneL (.s .z) ty3 (.s (.s .z)))) rfl ?_
                  refine l_g (s := 118) (Cls.gs _ _) (by kernel_rfl) rfl (beq_f _) (fun hg => y_neq (gvt hg rfl) rfl) rfl ?_
                  refine l_y (Cls.gs _ _) (y_or rfl rfl rfl) rfl ?_
                  refine l_y (Cls.gs _ _) (y_move rfl) rfl ?_
                  refine l_g (s := 123) (Cls.gs _ _) (by kernel_rfl) rfl (beq_f _) (fun hg => y_fieldAddr rfl fa36_4) rfl ?_
                  refine l_g (s := 123) (Cls.gs _ _) (by kernel_rfl) rfl (beq_f _) (fun hg => y_load (gvt hg rfl) (LoadAt.aggL (.s .z) ty31 (.s (.s (.s (.s (.s (.s (.t (.t (.t .d))))))))))) rfl ?_
                  refine l_g (s := 123) (Cls.gs _ _) (by kernel_rfl) rfl (beq_f _) (fun hg => y_build pl31 ty31 .a .n .d) rfl ?_
                  refine l_g (s := 123) (Cls.gs _ _) (by kernel_rfl) rfl (beq_f _) (fun hg => y_neA Tryz.underlying31 (by kernel_rfl) (by kernel_rfl) (gvt hg rfl) (gvt hg rfl) (.one rfl ty29 .z .z (.int Tryz.underlying29) (.one rfl ty29 (.s .z) (.s .z) (.int Tryz.underlying29) (.one rfl ty4 (.s (.s .z)) (.s (.s .z)) (.bool Tryz.underlying4) .nil)))) rfl ?_
                  refine l_y (Cls.gs _ _) (y_or rfl rfl rfl) rfl ?_
                  refine l_y (Cls.gs _ _) (y_move rfl) rfl ?_
                  refine l_g (s := 129) (Cls.gs _ _) (by kernel_rfl) rfl (beq_f _) (fun hg => y_fieldAddr rfl fa36_5) rfl ?_
                  refine l_g (s := 129) (Cls.gs _ _) (by kernel_rfl) rfl (beq_f _) (fun hg => y_load (gvt hg rfl) (LoadAt.aggL (.s .z) ty31 (.s (.s (.s (.s (.s (.s (.s (.s (.s (.t (.t (.t .d)))))))))))))) rfl ?_
                  refine l_g (s := 129) (Cls.gs _ _) (by kernel_rfl) rfl (beq_f _) (fun hg => y_build pl31 ty31 .a .n .d) rfl ?_
                  refine l_g (s := 129) (Cls.gs _ _) (by kernel_rfl) rfl (beq_f _) (fun hg => y_neA Tryz.underlying31 (by kernel_rfl) (by kernel_rfl) (gvt hg rfl) (gvt hg rfl) (.one rfl ty29 .z .z (.int Tryz.underlying29) (.one rfl ty29 (.s .z) (.s .z) (.int Tryz.underlying29) (.one rfl ty4 (.s (.s .z)) (.s (.s .z)) (.bool Tryz.underlying4) .nil)))) rfl ?_
                  refine l_y (Cls.gs _ _) (y_or rfl rfl rfl) rfl ?_
                  refine l_y (Cls.gs _ _) (y_move rfl) rfl ?_
                  refine l_g (s := 135) (Cls.gs _ _) (by kernel_rfl) rfl (beq_f _) (fun hg => y_fieldAddr rfl fa36_6) rfl ?_
                  refine l_g (s := 135) (Cls.gs _ _) (by kernel_rfl) rfl (beq_f _) (fun hg => y_load (gvt hg rfl) (LoadAt.aggL (.s .z) ty34 (.s (.s (.s (.s (.s (.s (.s (.s (.s (.s (.s (.s (.t (.t (.t .d))))))))))))))))) rfl ?_
                  refine l_g (s := 135) (Cls.gs _ _) (by kernel_rfl) rfl (beq_f _) (fun hg => y_build pl34 ty34 .a .n .d) rfl ?_
                  refine l_g (s := 135) (Cls.gs _ _) (by kernel_rfl) rfl (beq_f _) (fun hg => y_neA Tryz.underlying34 (by kernel_rfl) (by kernel_rfl) (gvt hg rfl) (gvt hg rfl) (.one rfl ty32 .z .z (.int Tryz.underlying32) (.one rfl ty32 (.s .z) (.s .z) (.int Tryz.underlying32) (.one rfl ty4 (.s (.s .z)) (.s (.s .z)) (.bool Tryz.underlying4) .nil)))) rfl ?_
                  refine l_y (Cls.gs _ _) (y_or rfl rfl rfl) rfl ?_
                  refine l_nil ?_
                  refine e_then ?_
                  refine CJ.weak (.c (t := 140) rfl .n) (fun _ h => h) ?_
                  refine c_cond rfl (fun h9 => ?_) (fun h9 => ?_)
                  ·
                    refine c_seq ?_
                    refine c_text ?_
                    refine l_y (Cls.gs _ _) (y_assign rfl) rfl ?_
                    refine l_nil ?_
                    refine e_then ?_
                    refine CJ.weak (.c (t := 2) rfl .n) (fun _ h => h) ?_
                    refine c_ret ?_
                    refine e_then_ret ?_
                    refine e_ret rfl (.t rfl .n) (fun wF hw => ?_)
                    exact ⟨_, rfl, (hw.anc (w, []) (by simp)).below, fun h => by simp at h⟩
                  ·
                    refine c_skip ?_
                    refine e_then ?_
                    refine CJ.weak .n (fun _ h => h) ?_
                    refine c_seq ?_
                    refine c_text ?_
                    refine l_y (Cls.gs _ _) (y_assign rfl) rfl ?_
                    refine l_nil ?_
                    refine e_then ?_
                    refine c_ret ?_
                    refine e_ret rfl (.t rfl .n) (fun wF hw => ?_)
                    simp only [Bool.or_eq_false_iff, decide_eq_false_iff_not, Bool.not_eq_false', Bool.and_eq_true, decide_eq_true_eq] at h0 h1 h2 h3 h4 h5 h6
                    have hwr : IntKind.i64.wrap (a.ra.lo + 4294967296) = a.ra.lo + 4294967296 := IntWalk.i64_in _ ⟨by omega, by omega⟩
                    rw [hwr] at h6
                    have h7 := of_decide_eq_false h7
                    simp at h9
                    obtain ⟨⟨⟨⟨⟨z1, z2⟩, z3⟩, z4⟩, z5⟩, z6⟩ := h9
                    have hz : ∀ b : Bd, b.lo = 0 ∧ b.hi = 0 ∧ b.u = false → b = ⟨0, 0, false⟩ := fun b ⟨h1, h2, h3⟩ => by cases b; simp_all
                    exact ⟨_, rfl, (hw.anc (w, []) (by simp)).below, fun _ => ⟨by omega, by omega, by omega, by omega, by omega, by omega, by omega, by omega, he2 h2, he5 h3, he8 h4, he11 h5, by omega, by omega, by omega, by omega, by omega, by omega, by omega, fun h => absurd (by omega) h, fun _ => ⟨z1, z2, z3, hz _ z4, hz _ z5, hz _ z6⟩⟩⟩

theorem or49z (p0 : Nat) (w : World) (hp0 : w.heap[p0]? = some (blk [.int .i64 0, .int .i64 0, .int .i64 0, .int .i64 0] 37)) : Calls Tryz.prog 49 #[.slice (some ⟨p0, 0, none⟩) 4 4] w fun e w' => e = .returned (.int .i64 0) ∧ Gr w w' := by
  refine enter Tryz.func49 rfl rfl rfl rfl (Cls.start w) ?_
  refine c_seq ?_
  refine c_text ?_
  refine l_y (Cls.gs _ _) (y_assign rfl) rfl ?_
  refine l_nil ?_
  refine e_then ?_
  refine CJ.weak (.c (t := 0) rfl .n) (fun _ h => h) ?_
  refine c_seq ?_
  refine c_text ?_
  refine l_y (Cls.gs _ _) (y_assign rfl) rfl ?_
  refine l_nil ?_
  refine e_then ?_
  refine c_seq ?_
  refine c_seq ?_
  refine c_text ?_
  refine l_y (Cls.gs _ _) (y_move rfl) rfl ?_
  refine l_y (Cls.gs _ _) ((y_lenS Tryz.underlying73 rfl rfl).lit (by kernel_rfl : _ = Value.int .i64 4)) rfl ?_
  refine l_y (Cls.gs _ _) (y_move rfl) rfl ?_
  refine l_nil ?_
  refine e_then ?_
  refine CJ.weak (.c (t := 3) rfl (.c (t := 6) rfl (.c (t := 7) rfl (.c (t := 8) rfl .n)))) (fun _ h => h) ?_
  refine c_block ?_
  refine c_rounds 6 ?_
  refine r_succ ?_
  refine c_seq ?_
  refine c_text ?_
  refine l_y (Cls.gs _ _) ((y_lss rfl rfl).lit (by kernel_rfl : _ = Value.bool true)) rfl ?_
  refine l_nil ?_
  refine e_then ?_
  refine c_seq ?_
  refine c_true (by kernel_rfl) ?_
  refine c_skip ?_
  refine e_then ?_
  refine CJ.weak (.c (t := 3) rfl (.c (t := 6) rfl (.c (t := 7) rfl (.c (t := 8) rfl .n)))) (fun _ h => h) ?_
  refine c_seq ?_
  refine c_block ?_
  refine c_seq ?_
  refine c_text ?_
  refine l_y (Cls.gs _ _) (y_indexAddr Tryz.underlying73 ty37 rfl rfl (by decide) (by decide)) rfl ?_
  refine l_y (Cls.gs _ _) (y_load rfl (LoadAt.oneB .z hp0 ty37 .z)) rfl ?_
  refine l_y (Cls.gs _ _) (y_assign rfl) rfl ?_
  refine l_nil ?_
  refine e_then ?_
  refine CJ.weak (.c (t := 3) rfl (.c (t := 5) rfl (.c (t := 6) rfl (.c (t := 7) rfl (.c (t := 8) rfl .n))))) (fun _ h => h) ?_
  refine c_seq ?_
  refine c_text ?_
  refine l_y (Cls.gs _ _) (y_move rfl) rfl ?_
  refine l_y (Cls.gs _ _) (y_move rfl) rfl ?_
  refine l_y (Cls.gs _ _) ((y_neq rfl rfl).lit (by kernel_rfl : _ = Value.bool false)) rfl ?_
  refine l_nil ?_
  refine e_then ?_
  refine CJ.weak (.c (t := 3) rfl (.c (t := 5) rfl (.c (t := 6) rfl (.c (t := 7) rfl (.c (t := 8) rfl (.c (t := 14) rfl .n)))))) (fun _ h => h) ?_
  refine c_false (by kernel_rfl) ?_
  refine c_skip ?_
  refine e_block ?_
  refine e_then ?_
  refine CJ.weak (.c (t := 3) rfl (.c (t := 6) rfl (.c (t := 7) rfl (.c (t := 8) rfl .n)))) (fun _ h => h) ?_
  refine c_text ?_
  refine l_y (Cls.gs _ _) ((y_add rfl rfl).lit (by kernel_rfl : _ = Value.int .i64 1)) rfl ?_
  refine l_y (Cls.gs _ _) (y_move rfl) rfl ?_
  refine l_nil ?_
  refine e_rounds ?_
  refine RJ.weak (.c (t := 3) rfl (.c (t := 6) rfl (.c (t := 7) rfl (.c (t := 8) rfl .n)))) (fun _ h => h) ?_
  refine r_succ ?_
  refine c_seq ?_
  refine c_text ?_
  refine l_y (Cls.gs _ _) ((y_lss rfl rfl).lit (by kernel_rfl : _ = Value.bool true)) rfl ?_
  refine l_nil ?_
  refine e_then ?_
  refine c_seq ?_
  refine c_true (by kernel_rfl) ?_
  refine c_skip ?_
  refine e_then ?_
  refine CJ.weak (.c (t := 3) rfl (.c (t := 6) rfl (.c (t := 7) rfl (.c (t := 8) rfl .n)))) (fun _ h => h) ?_
  refine c_seq ?_
  refine c_block ?_
  refine c_seq ?_
  refine c_text ?_
  refine l_y (Cls.gs _ _) (y_indexAddr Tryz.underlying73 ty37 rfl rfl (by decide) (by decide)) rfl ?_
  refine l_y (Cls.gs _ _) (y_load rfl (LoadAt.oneB .z hp0 ty37 (.s .z))) rfl ?_
  refine l_y (Cls.gs _ _) (y_assign rfl) rfl ?_
  refine l_nil ?_
  refine e_then ?_
  refine CJ.weak (.c (t := 3) rfl (.c (t := 5) rfl (.c (t := 6) rfl (.c (t := 7) rfl (.c (t := 8) rfl .n))))) (fun _ h => h) ?_
  refine c_seq ?_
  refine c_text ?_
  refine l_y (Cls.gs _ _) (y_move rfl) rfl ?_
  refine l_y (Cls.gs _ _) (y_move rfl) rfl ?_
  refine l_y (Cls.gs _ _) ((y_neq rfl rfl).lit (by kernel_rfl : _ = Value.bool false)) rfl ?_
  refine l_nil ?_
  refine e_then ?_
  refine CJ.weak (.c (t := 3) rfl (.c (t := 5) rfl (.c (t := 6) rfl (.c (t := 7) rfl (.c (t := 8) rfl (.c (t := 14) rfl .n)))))) (fun _ h => h) ?_
  refine c_false (by kernel_rfl) ?_
  refine c_skip ?_
  refine e_block ?_
  refine e_then ?_
  refine CJ.weak (.c (t := 3) rfl (.c (t := 6) rfl (.c (t := 7) rfl (.c (t := 8) rfl .n)))) (fun _ h => h) ?_
  refine c_text ?_
  refine l_y (Cls.gs _ _) ((y_add rfl rfl).lit (by kernel_rfl : _ = Value.int .i64 2)) rfl ?_
  refine l_y (Cls.gs _ _) (y_move rfl) rfl ?_
  refine l_nil ?_
  refine e_rounds ?_
  refine RJ.weak (.c (t := 3) rfl (.c (t := 6) rfl (.c (t := 7) rfl (.c (t := 8) rfl .n)))) (fun _ h => h) ?_
  refine r_succ ?_
  refine c_seq ?_
  refine c_text ?_
  refine l_y (Cls.gs _ _) ((y_lss rfl rfl).lit (by kernel_rfl : _ = Value.bool true)) rfl ?_
  refine l_nil ?_
  refine e_then ?_
  refine c_seq ?_
  refine c_true (by kernel_rfl) ?_
  refine c_skip ?_
  refine e_then ?_
  refine CJ.weak (.c (t := 3) rfl (.c (t := 6) rfl (.c (t := 7) rfl (.c (t := 8) rfl .n)))) (fun _ h => h) ?_
  refine c_seq ?_
  refine c_block ?_
  refine c_seq ?_
  refine c_text ?_
  refine l_y (Cls.gs _ _) (y_indexAddr Tryz.underlying73 ty37 rfl rfl (by decide) (by decide)) rfl ?_
  refine l_y (Cls.gs _ _) (y_load rfl (LoadAt.oneB .z hp0 ty37 (.s (.s .z)))) rfl ?_
  refine l_y (Cls.gs _ _) (y_assign rfl) rfl ?_
  refine l_nil ?_
  refine e_then ?_
  refine CJ.weak (.c (t := 3) rfl (.c (t := 5) rfl (.c (t := 6) rfl (.c (t := 7) rfl (.c (t := 8) rfl .n))))) (fun _ h => h) ?_
  refine c_seq ?_
  refine c_text ?_
  refine l_y (Cls.gs _ _) (y_move rfl) rfl ?_
  refine l_y (Cls.gs _ _) (y_move rfl) rfl ?_
  refine l_y (Cls.gs _ _) ((y_neq rfl rfl).lit (by kernel_rfl : _ = Value.bool false)) rfl ?_
  refine l_nil ?_
  refine e_then ?_
  refine CJ.weak (.c (t := 3) rfl (.c (t := 5) rfl (.c (t := 6) rfl (.c (t := 7) rfl (.c (t := 8) rfl (.c (t := 14) rfl .n)))))) (fun _ h => h) ?_
  refine c_false (by kernel_rfl) ?_
  refine c_skip ?_
  refine e_block ?_
  refine e_then ?_
  refine CJ.weak (.c (t := 3) rfl (.c (t := 6) rfl (.c (t := 7) rfl (.c (t := 8) rfl .n)))) (fun _ h => h) ?_
  refine c_text ?_
  refine l_y (Cls.gs _ _) ((y_add rfl rfl).lit (by kernel_rfl : _ = Value.int .i64 3)) rfl ?_
  refine l_y (Cls.gs _ _) (y_move rfl) rfl ?_
  refine l_nil ?_
  refine e_rounds ?_
  refine RJ.weak (.c (t := 3) rfl (.c (t := 6) rfl (.c (t := 7) rfl (.c (t := 8) rfl .n)))) (fun _ h => h) ?_
  refine r_succ ?_
  refine c_seq ?_
  refine c_text ?_
  refine l_y (Cls.gs _ _) ((y_lss rfl rfl).lit (by kernel_rfl : _ = Value.bool true)) rfl ?_
  refine l_nil ?_
  refine e_then ?_
  refine c_seq ?_
  refine c_true (by kernel_rfl) ?_
  refine c_skip ?_
  refine e_then ?_
  refine CJ.weak (.c (t := 3) rfl (.c (t := 6) rfl (.c (t := 7) rfl (.c (t := 8) rfl .n)))) (fun _ h => h) ?_
  refine c_seq ?_
  refine c_block ?_
  refine c_seq ?_
  refine c_text ?_
  refine l_y (Cls.gs _ _) (y_indexAddr Tryz.underlying73 ty37 rfl rfl (by decide) (by decide)) rfl ?_
  refine l_y (Cls.gs _ _) (y_load rfl (LoadAt.oneB .z hp0 ty37 (.s (.s (.s .z))))) rfl ?_
  refine l_y (Cls.gs _ _) (y_assign rfl) rfl ?_
  refine l_nil ?_
  refine e_then ?_
  refine CJ.weak (.c (t := 3) rfl (.c (t := 5) rfl (.c (t := 6) rfl (.c (t := 7) rfl (.c (t := 8) rfl .n))))) (fun _ h => h) ?_
  refine c_seq ?_
  refine c_text ?_
  refine l_y (Cls.gs _ _) (y_move rfl) rfl ?_
  refine l_y (Cls.gs _ _) (y_move rfl) rfl ?_
  refine l_y (Cls.gs _ _) ((y_neq rfl rfl).lit (by kernel_rfl : _ = Value.bool false)) rfl ?_
  refine l_nil ?_
  refine e_then ?_
  refine CJ.weak (.c (t := 3) rfl (.c (t := 5) rfl (.c (t := 6) rfl (.c (t := 7) rfl (.c (t := 8) rfl (.c (t := 14) rfl .n)))))) (fun _ h => h) ?_
  refine c_false (by kernel_rfl) ?_
  refine c_skip ?_
  refine e_block ?_
  refine e_then ?_
  refine CJ.weak (.c (t := 3) rfl (.c (t := 6) rfl (.c (t := 7) rfl (.c (t := 8) rfl .n)))) (fun _ h => h) ?_
  refine c_text ?_
  refine l_y (Cls.gs _ _) ((y_add rfl rfl).lit (by kernel_rfl : _ = Value.int .i64 4)) rfl ?_
  refine l_y (Cls.gs _ _) (y_move rfl) rfl ?_
  refine l_nil ?_
  refine e_rounds ?_
  refine RJ.weak (.c (t := 3) rfl (.c (t := 6) rfl (.c (t := 7) rfl (.c (t := 8) rfl .n)))) (fun _ h => h) ?_
  refine r_succ ?_
  refine c_seq ?_
  refine c_text ?_
  refine l_y (Cls.gs _ _) ((y_lss rfl rfl).lit (by kernel_rfl : _ = Value.bool false)) rfl ?_
  refine l_nil ?_
  refine e_then ?_
  refine c_seq ?_
  refine c_false (by kernel_rfl) ?_
  refine c_exit ?_
  refine e_then_exit ?_
  refine e_then_exit ?_
  refine e_block_hit ?_
  refine e_then ?_
  refine CJ.weak (.c (t := 3) rfl .n) (fun _ h => h) ?_
  refine c_seq ?_
  refine c_text ?_
  refine l_y (Cls.gs _ _) (y_move rfl) rfl ?_
  refine l_y (Cls.gs _ _) (y_assign rfl) rfl ?_
  refine l_nil ?_
  refine e_then ?_
  refine CJ.weak (.c (t := 2) rfl .n) (fun _ h => h) ?_
  refine c_ret ?_
  refine e_ret rfl (.t rfl .n) (fun wF hw => ?_)
  exact ⟨rfl, (hw.anc (w, []) (by simp)).below⟩

theorem check24 (a : Al) (h : AlOK a) (w : World) : Calls Tryz.prog 24 #[.agg #[.int .i64 a.id, .int .i64 a.kind, .int .i64 a.object, .int .i64 a.at_.lo, .int .i64 a.at_.hi, .bool a.at_.u, .int .i64 a.ra.lo, .int .i64 a.ra.hi, .bool a.ra.u, .int .i64 a.dec.lo, .int .i64 a.dec.hi, .bool a.dec.u, .int .i64 a.flux.lo, .int .i64 a.flux.hi, .bool a.flux.u, .int .i64 a.of_]] w fun e w' => e = .returned (.int .i64 0) ∧ Gr w w' := by
  refine enter Tryz.func24 rfl rfl rfl rfl (Cls.start w) ?_
  refine c_seq ?_
  refine c_text ?_
  refine l_n rfl (n_box rfl .a rfl) (fun b0 _ => ?_)
  refine l_y (Cls.gs _ _) (y_assign rfl) rfl ?_
  refine l_nil ?_
  refine e_then ?_
  refine CJ.weak (.c (t := 1) rfl .n) (fun _ h => h) ?_
  refine c_seq ?_
  refine c_seq ?_
  refine c_text ?_
  refine l_y (Cls.gs _ _) (y_fieldAddr rfl fa36_0) rfl ?_
  refine l_y (Cls.gs _ _) (y_load rfl (LoadAt.oneL .z ty3 .z)) rfl ?_
  refine l_y (Cls.gs _ _) (y_lss rfl rfl) rfl ?_
  refine l_y (Cls.gs _ _) (y_move rfl) rfl ?_
  refine l_g (s := 7) (Cls.gs _ _) (by kernel_rfl) rfl (beq_f _) (fun hg => y_fieldAddr rfl fa36_0) rfl ?_
  refine l_g (s := 7) (Cls.gs _ _) (by kernel_rfl) rfl (beq_f _) (fun hg => y_load (gvt hg rfl) (LoadAt.oneL .z ty3 .z)) rfl ?_
  refine l_g (s := 7) (Cls.gs _ _) (by kernel_rfl) rfl (beq_f _) (fun hg => y_gtr (gvt hg rfl) rfl) rfl ?_
  refine l_y (Cls.gs _ _) (y_or rfl rfl rfl) rfl ?_
  refine l_y (Cls.gs _ _) (y_move rfl) rfl ?_
  refine l_g (s := 12) (Cls.gs _ _) (by kernel_rfl) rfl (beq_f _) (fun hg => y_fieldAddr rfl fa36_2) rfl ?_
  refine l_g (s := 12) (Cls.gs _ _) (by kernel_rfl) rfl (beq_f _) (fun hg => y_load (gvt hg rfl) (LoadAt.oneL .z ty3 (.s (.s .z)))) rfl ?_
  refine l_g (s := 12) (Cls.gs _ _) (by kernel_rfl) rfl (beq_f _) (fun hg => y_lss (gvt hg rfl) rfl) rfl ?_
  refine l_y (Cls.gs _ _) (y_or rfl rfl rfl) rfl ?_
  refine l_y (Cls.gs _ _) (y_move rfl) rfl ?_
  refine l_g (s := 17) (Cls.gs _ _) (by kernel_rfl) rfl (beq_f _) (fun hg => y_fieldAddr rfl fa36_2) rfl ?_
  refine l_g (s := 17) (Cls.gs _ _) (by kernel_rfl) rfl (beq_f _) (fun hg => y_load (gvt hg rfl) (LoadAt.oneL .z ty3 (.s (.s .z)))) rfl ?_
  refine l_g (s := 17) (Cls.gs _ _) (by kernel_rfl) rfl (beq_f _) (fun hg => y_gtr (gvt hg rfl) rfl) rfl ?_
  refine l_y (Cls.gs _ _) (y_or rfl rfl rfl) rfl ?_
  refine l_y (Cls.gs _ _) (y_move rfl) rfl ?_
  refine l_g (s := 22) (Cls.gs _ _) (by kernel_rfl) rfl (beq_f _) (fun hg => y_fieldAddr rfl fa36_7) rfl ?_
  refine l_g (s := 22) (Cls.gs _ _) (by kernel_rfl) rfl (beq_f _) (fun hg => y_load (gvt hg rfl) (LoadAt.oneL .z ty3 (.s (.s (.s (.s (.s (.s (.s (.s (.s (.s (.s (.s (.s (.s (.s .z))))))))))))))))) rfl ?_
  refine l_g (s := 22) (Cls.gs _ _) (by kernel_rfl) rfl (beq_f _) (fun hg => y_lss (gvt hg rfl) rfl) rfl ?_
  refine l_y (Cls.gs _ _) (y_or rfl rfl rfl) rfl ?_
  refine l_y (Cls.gs _ _) (y_move rfl) rfl ?_
  refine l_g (s := 27) (Cls.gs _ _) (by kernel_rfl) rfl (beq_f _) (fun hg => y_fieldAddr rfl fa36_7) rfl ?_
  refine l_g (s := 27) (Cls.gs _ _) (by kernel_rfl) rfl (beq_f _) (fun hg => y_load (gvt hg rfl) (LoadAt.oneL .z ty3 (.s (.s (.s (.s (.s (.s (.s (.s (.s (.s (.s (.s (.s (.s (.s .z))))))))))))))))) rfl ?_
  refine l_g (s := 27) (Cls.gs _ _) (by kernel_rfl) rfl (beq_f _) (fun hg => y_gtr (gvt hg rfl) rfl) rfl ?_
  refine l_y (Cls.gs _ _) (y_or rfl rfl rfl) rfl ?_
  refine l_nil ?_
  refine e_then ?_
  refine CJ.weak (.c (t := 1) rfl (.c (t := 31) rfl .n)) (fun _ h => h) ?_
  refine c_cond rfl (fun h0 => ?_) (fun h0 => ?_)
  ·
    refine c_seq ?_
    refine c_text ?_
    refine l_y (Cls.gs _ _) (y_assign rfl) rfl ?_
    refine l_nil ?_
    refine e_then ?_
    refine CJ.weak (.c (t := 2) rfl .n) (fun _ h => h) ?_
    refine c_ret ?_
    refine e_then_ret ?_
    refine e_ret rfl (.t rfl .n) (fun wF hw => ?_)
    exfalso
    obtain ⟨a1, a2, a3, a4, a5, a6, a7, a8, _, a9, _, _, b1, b2, b3, b4, b5, b6, b7, _, _⟩ := h
    have hwr : IntKind.i64.wrap (a.ra.hi - a.ra.lo) = a.ra.hi - a.ra.lo := IntWalk.i64_in _ ⟨by have := a9.le; omega, by omega⟩
    try rw [hwr] at h3
    simp only [Bool.or_eq_true, decide_eq_true_eq] at h0
    omega
  ·
    refine c_skip ?_
    refine e_then ?_
    refine CJ.weak (.c (t := 1) rfl .n) (fun _ h => h) ?_
    refine c_seq ?_
    refine c_seq ?_
    refine c_text ?_
    refine l_y (Cls.gs _ _) (y_fieldAddr rfl fa36_1) rfl ?_
    refine l_y (Cls.gs _ _) (y_load rfl (LoadAt.oneL .z ty3 (.s .z))) rfl ?_
    refine l_y (Cls.gs _ _) (y_lss rfl rfl) rfl ?_
    refine l_y (Cls.gs _ _) (y_move rfl) rfl ?_
    refine l_g (s := 35) (Cls.gs _ _) (by kernel_rfl) rfl (beq_f _) (fun hg => y_fieldAddr rfl fa36_1) rfl ?_
    refine l_g (s := 35) (Cls.gs _ _) (by kernel_rfl) rfl (beq_f _) (fun hg => y_load (gvt hg rfl) (LoadAt.oneL .z ty3 (.s .z))) rfl ?_
    refine l_g (s := 35) (Cls.gs _ _) (by kernel_rfl) rfl (beq_f _) (fun hg => y_gtr (gvt hg rfl) rfl) rfl ?_
    refine l_y (Cls.gs _ _) (y_or rfl rfl rfl) rfl ?_
    refine l_nil ?_
    refine e_then ?_
    refine CJ.weak (.c (t := 1) rfl (.c (t := 39) rfl .n)) (fun _ h => h) ?_
    refine c_cond rfl (fun h1 => ?_) (fun h1 => ?_)
    ·
      refine c_seq ?_
      refine c_text ?_
      refine l_y (Cls.gs _ _) (y_assign rfl) rfl ?_
      refine l_nil ?_
      refine e_then ?_
      refine CJ.weak (.c (t := 2) rfl .n) (fun _ h => h) ?_
      refine c_ret ?_
      refine e_then_ret ?_
      refine e_ret rfl (.t rfl .n) (fun wF hw => ?_)
      exfalso
      obtain ⟨a1, a2, a3, a4, a5, a6, a7, a8, _, a9, _, _, b1, b2, b3, b4, b5, b6, b7, _, _⟩ := h
      have hwr : IntKind.i64.wrap (a.ra.hi - a.ra.lo) = a.ra.hi - a.ra.lo := IntWalk.i64_in _ ⟨by have := a9.le; omega, by omega⟩
      try rw [hwr] at h3
      simp only [Bool.or_eq_true, decide_eq_true_eq] at h1
      omega
    ·
      refine c_skip ?_
      refine e_then ?_
      refine CJ.weak (.c (t := 1) rfl .n) (fun _ h => h) ?_
      refine c_seq ?_
      refine c_seq ?_
      refine c_draw (m := 15) (S0 := fun _ => True) (fun _ => false) (fun _ _ => trivial) hmix (Cls.gs _ _) rfl ?_
      refine a_y (i := 0) (Cls.gs _ _) (by kernel_rfl) rfl (by kernel_rfl) (by kernel_rfl) (y_fieldAddr rfl fa36_3) rfl ?_
      refine a_y (i := 1) (Cls.gs _ _) (by kernel_rfl) rfl (by kernel_rfl) (by kernel_rfl) (y_load rfl (LoadAt.aggL .z ty28 (.s (.s (.s (.t (.t (.t .d)))))))) rfl ?_
      refine a_y (i := 2) (Cls.gs _ _) (by kernel_rfl) rfl (by kernel_rfl) (by kernel_rfl) (y_call ent59 (.c rfl .n) (fun w _ => bdOK59 _ h.at_ w)) rfl ?_
      refine a_y (i := 3) (Cls.gs _ _) (by kernel_rfl) rfl (by kernel_rfl) (by kernel_rfl) (y_fieldAddr rfl fa36_4) rfl ?_
      refine a_y (i := 4) (Cls.gs _ _) (by kernel_rfl) rfl (by kernel_rfl) (by kernel_rfl) (y_load rfl (LoadAt.aggL .z ty31 (.s (.s (.s (.s (.s (.s (.t (.t (.t .d))))))))))) rfl ?_
      refine a_y (i := 5) (Cls.gs _ _) (by kernel_rfl) rfl (by kernel_rfl) (by kernel_rfl) (y_call ent60 (.c rfl .n) (fun w _ => bdOK60 _ (by first | exact h.ra | exact h.dec) w)) rfl ?_
      refine a_y (i := 6) (Cls.gs _ _) (by kernel_rfl) rfl (by kernel_rfl) (by kernel_rfl) (y_fieldAddr rfl fa36_5) rfl ?_
      refine a_y (i := 7) (Cls.gs _ _) (by kernel_rfl) rfl (by kernel_rfl) (by kernel_rfl) (y_load rfl (LoadAt.aggL .z ty31 (.s (.s (.s (.s (.s (.s (.s (.s (.s (.t (.t (.t .d)))))))))))))) rfl ?_
      refine a_y (i := 8) (Cls.gs _ _) (by kernel_rfl) rfl (by kernel_rfl) (by kernel_rfl) (y_call ent60 (.c rfl .n) (fun w _ => bdOK60 _ (by first | exact h.ra | exact h.dec) w)) rfl ?_
      refine a_y (i := 9) (Cls.gs _ _) (by kernel_rfl) rfl (by kernel_rfl) (by kernel_rfl) (y_fieldAddr rfl fa36_6) rfl ?_
      refine a_y (i := 10) (Cls.gs _ _) (by kernel_rfl) rfl (by kernel_rfl) (by kernel_rfl) (y_load rfl (LoadAt.aggL .z ty34 (.s (.s (.s (.s (.s (.s (.s (.s (.s (.s (.s (.s (.t (.t (.t .d))))))))))))))))) rfl ?_
      refine a_y (i := 11) (Cls.gs _ _) (by kernel_rfl) rfl (by kernel_rfl) (by kernel_rfl) (y_call ent61 (.c rfl .n) (fun w _ => bdOK61 _ h.flux w)) rfl ?_
      refine a_n (i := 12) rfl rfl (by kernel_rfl) (fun _ => Cls.gs _ _) (.inr fun _ _ h => h.tail) (n_buildSlice (l := [.int .i64 0, .int .i64 0, .int .i64 0, .int .i64 0]) Tryz.underlying73 ty37 (.o rfl) rfl (by simp) (by kernel_rfl) (.c rfl (.c rfl (.c rfl (.c rfl .n)))) (.c rfl (.o rfl) rfl rfl (.t .d) (.c rfl (.o rfl) rfl rfl (.s (.t .d)) (.c rfl (.o rfl) rfl rfl (.s (.s (.t .d))) (.c rfl (.o rfl) rfl rfl (.s (.s (.s (.t .d)))) .d)))) rfl) (fun b1 _ => ?_)
      refine a_y (i := 13) (Cls.gs _ _) (by kernel_rfl) rfl (by kernel_rfl) (by kernel_rfl) (y_call ent49 (.c rfl .n) (fun w hw => or49z _ w (hw.locM .z))) rfl ?_
      refine a_y (i := 14) (Cls.gs _ _) (by kernel_rfl) rfl (by kernel_rfl) (by kernel_rfl) (y_assign rfl) rfl ?_
      refine a_done (by kernel_rfl) ?_
      refine e_then ?_
      refine CJ.weak (.c (t := 1) rfl (.c (t := 3) rfl .n)) (fun _ h => h) ?_
      refine c_seq ?_
      refine c_text ?_
      refine l_y (Cls.gs _ _) (y_move rfl) rfl ?_
      refine l_y (Cls.gs _ _) ((y_neq rfl rfl).lit (by kernel_rfl : _ = Value.bool false)) rfl ?_
      refine l_nil ?_
      refine e_then ?_
      refine CJ.weak (.c (t := 1) rfl (.c (t := 3) rfl (.c (t := 55) rfl .n))) (fun _ h => h) ?_
      refine c_false (by kernel_rfl) ?_
      refine c_skip ?_
      refine e_then ?_
      refine CJ.weak (.c (t := 1) rfl .n) (fun _ h => h) ?_
      refine c_seq ?_
      refine c_block ?_
      refine c_seq ?_
      refine c_text ?_
      refine l_y (Cls.gs _ _) (y_fieldAddr rfl fa36_3) rfl ?_
      refine l_y (Cls.gs _ _) (y_fieldAddr rfl fa28_0) rfl ?_
      refine l_y (Cls.gs _ _) (y_load rfl (LoadAt.oneL (.s .z) ty26 (.s (.s (.s .z))))) rfl ?_
      refine l_y (Cls.gs _ _) (y_lss rfl rfl) rfl ?_
      refine l_y (Cls.gs _ _) (y_move rfl) rfl ?_
      refine l_g (s := 62) (Cls.gs _ _) (by kernel_rfl) rfl (beq_f _) (fun hg => y_fieldAddr rfl fa36_3) rfl ?_
      refine l_g (s := 62) (Cls.gs _ _) (by kernel_rfl) rfl (beq_f _) (fun hg => y_fieldAddr (gvt hg rfl) fa28_1) rfl ?_
      refine l_g (s := 62) (Cls.gs _ _) (by kernel_rfl) rfl (beq_f _) (fun hg => y_load (gvt hg rfl) (LoadAt.oneL (.s .z) ty26 (.s (.s (.s (.s .z)))))) rfl ?_
      refine l_g (s := 62) (Cls.gs _ _) (by kernel_rfl) rfl (beq_f _) (fun hg => y_gtr (gvt hg rfl) rfl) rfl ?_
      refine l_y (Cls.gs _ _) (y_or rfl rfl rfl) rfl ?_
      refine l_y (Cls.gs _ _) (y_move rfl) rfl ?_
      refine l_g (s := 68) (Cls.gs _ _) (by kernel_rfl) rfl (beq_f _) (fun hg => y_fieldAddr rfl fa36_5) rfl ?_
      refine l_g (s := 68) (Cls.gs _ _) (by kernel_rfl) rfl (beq_f _) (fun hg => y_fieldAddr (gvt hg rfl) fa31_0) rfl ?_
      refine l_g (s := 68) (Cls.gs _ _) (by kernel_rfl) rfl (beq_f _) (fun hg => y_load (gvt hg rfl) (LoadAt.oneL (.s .z) ty29 (.s (.s (.s (.s (.s (.s (.s (.s (.s .z))))))))))) rfl ?_
      refine l_g (s := 68) (Cls.gs _ _) (by kernel_rfl) rfl (beq_f _) (fun hg => y_lss (gvt hg rfl) rfl) rfl ?_
      refine l_y (Cls.gs _ _) (y_or rfl rfl rfl) rfl ?_
      refine l_y (Cls.gs _ _) (y_move rfl) rfl ?_
      refine l_g (s := 74) (Cls.gs _ _) (by kernel_rfl) rfl (beq_f _) (fun hg => y_fieldAddr rfl fa36_5) rfl ?_
      refine l_g (s := 74) (Cls.gs _ _) (by kernel_rfl) rfl (beq_f _) (fun hg => y_fieldAddr (gvt hg rfl) fa31_1) rfl ?_
      refine l_g (s := 74) (Cls.gs _ _) (by kernel_rfl) rfl (beq_f _) (fun hg => y_load (gvt hg rfl) (LoadAt.oneL (.s .z) ty29 (.s (.s (.s (.s (.s (.s (.s (.s (.s (.s .z)))))))))))) rfl ?_
      refine l_g (s := 74) (Cls.gs _ _) (by kernel_rfl) rfl (beq_f _) (fun hg => y_gtr (gvt hg rfl) rfl) rfl ?_
      refine l_y (Cls.gs _ _) (y_or rfl rfl rfl) rfl ?_
      refine l_y (Cls.gs _ _) (y_assign rfl) rfl ?_
      refine l_nil ?_
      refine e_then ?_
      refine CJ.weak (.c (t := 1) rfl (.c (t := 57) rfl .n)) (fun _ h => h) ?_
      refine c_cond rfl (fun h2 => ?_) (fun h2 => ?_)
      ·
        refine c_seq ?_
        refine c_text ?_
        refine l_y (Cls.gs _ _) (y_assign rfl) rfl ?_
        refine l_nil ?_
        refine e_then ?_
        refine CJ.weak (.c (t := 2) rfl .n) (fun _ h => h) ?_
        refine c_ret ?_
        refine e_block_ret ?_
        refine e_then_ret ?_
        refine e_ret rfl (.t rfl .n) (fun wF hw => ?_)
        exfalso
        obtain ⟨a1, a2, a3, a4, a5, a6, a7, a8, _, a9, _, _, b1, b2, b3, b4, b5, b6, b7, _, _⟩ := h
        have hwr : IntKind.i64.wrap (a.ra.hi - a.ra.lo) = a.ra.hi - a.ra.lo := IntWalk.i64_in _ ⟨by have := a9.le; omega, by omega⟩
        try rw [hwr] at h3
        simp only [Bool.or_eq_true, decide_eq_true_eq] at h2
        omega
      ·
        refine c_seq ?_
        refine c_text ?_
        refine l_y (Cls.gs _ _) (y_fieldAddr rfl fa36_4) rfl ?_
        refine l_y (Cls.gs _ _) (y_fieldAddr rfl fa31_0) rfl ?_
        refine l_y (Cls.gs _ _) (y_load rfl (LoadAt.oneL (.s .z) ty29 (.s (.s (.s (.s (.s (.s .z)))))))) rfl ?_
        refine l_y (Cls.gs _ _) (y_lss rfl rfl) rfl ?_
        refine l_y (Cls.gs _ _) (y_move rfl) rfl ?_
        refine l_g (s := 85) (Cls.gs _ _) (by kernel_rfl) rfl (beq_f _) (fun hg => y_fieldAddr rfl fa36_4) rfl ?_
        refine l_g (s := 85) (Cls.gs _ _) (by kernel_rfl) rfl (beq_f _) (fun hg => y_fieldAddr (gvt hg rfl) fa31_0) rfl ?_
        refine l_g (s := 85) (Cls.gs _ _) (by kernel_rfl) rfl (beq_f _) (fun hg => y_load (gvt hg rfl) (LoadAt.oneL (.s .z) ty29 (.s (.s (.s (.s (.s (.s .z)))))))) rfl ?_
        refine l_g (s := 85) (Cls.gs _ _) (by kernel_rfl) rfl (beq_f _) (fun hg => y_geq (gvt hg rfl) rfl) rfl ?_
        refine l_y (Cls.gs _ _) (y_or rfl rfl rfl) rfl ?_
        refine l_y (Cls.gs _ _) (y_move rfl) rfl ?_
        refine l_g (s := 91) (Cls.gs _ _) (by kernel_rfl) rfl (beq_f _) (fun hg => y_fieldAddr rfl fa36_4) rfl ?_
        refine l_g (s := 91) (Cls.gs _ _) (by kernel_rfl) rfl (beq_f _) (fun hg => y_fieldAddr (gvt hg rfl) fa31_1) rfl ?_
        refine l_g (s := 91) (Cls.gs _ _) (by kernel_rfl) rfl (beq_f _) (fun hg => y_load (gvt hg rfl) (LoadAt.oneL (.s .z) ty29 (.s (.s (.s (.s (.s (.s (.s .z))))))))) rfl ?_
        refine l_g (s := 91) (Cls.gs _ _) (by kernel_rfl) rfl (beq_f _) (fun hg => y_fieldAddr rfl fa36_4) rfl ?_
        refine l_g (s := 91) (Cls.gs _ _) (by kernel_rfl) rfl (beq_f _) (fun hg => y_fieldAddr (gvt hg rfl) fa31_0) rfl ?_
        refine l_g (s := 91) (Cls.gs _ _) (by kernel_rfl) rfl (beq_f _) (fun hg => y_load (gvt hg rfl) (LoadAt.oneL (.s .z) ty29 (.s (.s (.s (.s (.s (.s .z)))))))) rfl ?_
        refine l_g (s := 91) (Cls.gs _ _) (by kernel_rfl) rfl (beq_f _) (fun hg => y_sub (gvt hg rfl) (gvt hg rfl)) rfl ?_
        refine l_g (s := 91) (Cls.gs _ _) (by kernel_rfl) rfl (beq_f _) (fun hg => y_geq (gvt hg rfl) rfl) rfl ?_
        refine l_y (Cls.gs _ _) (y_or rfl rfl rfl) rfl ?_
        refine l_y (Cls.gs _ _) (y_assign rfl) rfl ?_
        refine l_nil ?_
        refine e_then ?_
        refine CJ.weak (.c (t := 1) rfl (.c (t := 80) rfl .n)) (fun _ h => h) ?_
        refine c_cond rfl (fun h3 => ?_) (fun h3 => ?_)
        ·
          refine c_seq ?_
          refine c_text ?_
          refine l_y (Cls.gs _ _) (y_assign rfl) rfl ?_
          refine l_nil ?_
          refine e_then ?_
          refine CJ.weak (.c (t := 2) rfl .n) (fun _ h => h) ?_
          refine c_ret ?_
          refine e_block_ret ?_
          refine e_then_ret ?_
          refine e_ret rfl (.t rfl .n) (fun wF hw => ?_)
          exfalso
          obtain ⟨a1, a2, a3, a4, a5, a6, a7, a8, _, a9, _, _, b1, b2, b3, b4, b5, b6, b7, _, _⟩ := h
          have hwr : IntKind.i64.wrap (a.ra.hi - a.ra.lo) = a.ra.hi - a.ra.lo := IntWalk.i64_in _ ⟨by have := a9.le; omega, by omega⟩
          rw [hwr] at h3
          simp only [Bool.or_eq_true, decide_eq_true_eq] at h3
          omega
        ·
          refine c_seq ?_
          refine c_text ?_
          refine l_y (Cls.gs _ _) (y_fieldAddr rfl fa36_1) rfl ?_
          refine l_y (Cls.gs _ _) (y_load rfl (LoadAt.oneL (.s .z) ty3 (.s .z))) rfl ?_
          refine l_y (Cls.gs _ _) (y_neq rfl rfl) rfl ?_
          refine l_y (Cls.gs _ _) (y_move rfl) rfl ?_
          refine l_g (s := 105) (Cls.gs _ _) (by kernel_rfl) rfl (beq_t _) (fun hg => y_fieldAddr rfl fa36_7) rfl ?_
          refine l_g (s := 105) (Cls.gs _ _) (by kernel_rfl) rfl (beq_t _) (fun hg => y_load (gvt hg rfl) (LoadAt.oneL (.s .z) ty3 (.s (.s (.s (.s (.s (.s (.s (.s (.s (.s (.s (.s (.s (.s (.s .z))))))))))))))))) rfl ?_
          refine l_g (s := 105) (Cls.gs _ _) (by kernel_rfl) rfl (beq_t _) (fun hg => y_neq (gvt hg rfl) rfl) rfl ?_
          refine l_y (Cls.gs _ _) (y_and rfl rfl rfl) rfl ?_
          refine l_y (Cls.gs _ _) (y_assign rfl) rfl ?_
          refine l_nil ?_
          refine e_then ?_
          refine CJ.weak (.c (t := 1) rfl (.c (t := 101) rfl .n)) (fun _ h => h) ?_
          refine c_cond rfl (fun h4 => ?_) (fun h4 => ?_)
          ·
            refine c_seq ?_
            refine c_text ?_
            refine l_y (Cls.gs _ _) (y_assign rfl) rfl ?_
            refine l_nil ?_
            refine e_then ?_
            refine CJ.weak (.c (t := 2) rfl .n) (fun _ h => h) ?_
            refine c_ret ?_
            refine e_block_ret ?_
            refine e_then_ret ?_
            refine e_ret rfl (.t rfl .n) (fun wF hw => ?_)
            exfalso
            have h4' : a.kind ≠ 6 ∧ a.of_ ≠ 0 := by simpa using h4
            exact h4'.2 (h.nr h4'.1)
          ·
            refine c_seq ?_
            refine c_text ?_
            refine l_y (Cls.gs _ _) (y_fieldAddr rfl fa36_1) rfl ?_
            refine l_y (Cls.gs _ _) (y_load rfl (LoadAt.oneL (.s .z) ty3 (.s .z))) rfl ?_
            refine l_y (Cls.gs _ _) (y_eql rfl rfl) rfl ?_
            refine l_y (Cls.gs _ _) (y_move rfl) rfl ?_
            refine l_g (s := 114) (Cls.gs _ _) (by kernel_rfl) rfl (beq_t _) (fun hg => y_fieldAddr rfl fa36_7) rfl ?_
            refine l_g (s := 114) (Cls.gs _ _) (by kernel_rfl) rfl (beq_t _) (fun hg => y_load (gvt hg rfl) (LoadAt.oneL (.s .z) ty3 (.s (.s (.s (.s (.s (.s (.s (.s (.s (.s (.s (.s (.s (.s (.s .z))))))))))))))))) rfl ?_
            refine l_g (s := 114) (Cls.gs _ _) (by kernel_rfl) rfl (beq_t _) (fun hg => y_eql (gvt hg rfl) rfl) rfl ?_
            refine l_g (s := 114) (Cls.gs _ _) (by kernel_rfl) rfl (beq_t _) (fun hg => y_move (gvt hg rfl)) rfl ?_
            refine l_gg (s := 118) (Cls.gs _ _) (by kernel_rfl) rfl (beq_f _) (fun hg => y_fieldAddr rfl fa36_7) rfl ?_
            refine l_gg (s := 118) (Cls.gs _ _) (by kernel_rfl) rfl (beq_f _) (fun hg => y_load (gvt hg rfl) (LoadAt.oneL (.s .z) ty3 (.s (.s (.s (.s (.s (.s (.s (.s (.s (.s (.s (.s (.s (.s (.s .z))))))))))))))))) rfl ?_
            refine l_gg (s := 118) (Cls.gs _ _) (by kernel_rfl) rfl (beq_f _) (fun hg => y_fieldAddr rfl fa36_0) rfl ?_
            refine l_gg (s := 118) (Cls.gs _ _) (by kernel_rfl) rfl (beq_f _) (fun hg => y_load (gvt hg rfl) (LoadAt.oneL (.s .z) ty3 .z)) rfl ?_
            refine l_gg (s := 118) (Cls.gs _ _) (by kernel_rfl) rfl (beq_f _) (fun hg => y_eql (gvt hg rfl) (gvt hg rfl)) rfl ?_
            refine l_g (s := 114) (Cls.gs _ _) (by kernel_rfl) rfl (beq_t _) (fun hg => y_or (gvt hg rfl) rfl (gva hg rfl)) rfl ?_
            refine l_g (s := 114) (Cls.gs _ _) (by kernel_rfl) rfl (beq_t _) (fun hg => y_move (gvt hg rfl)) rfl ?_
            refine l_gg (s := 125) (Cls.gs _ _) (by kernel_rfl) rfl (beq_f _) (fun hg => y_load rfl (LoadAt.aggL (.s .z) ty36 (.t (.t (.t (.t (.t (.t (.t (.t (.t (.t (.t (.t (.t (.t (.t (.t .d)))))))))))))))))) rfl ?_
            refine l_gg (s := 125) (Cls.gs _ _) (by kernel_rfl) rfl (beq_f _) (fun hg => y_fieldAddr rfl fa36_0) rfl ?_
            refine l_gg (s := 125) (Cls.gs _ _) (by kernel_rfl) rfl (beq_f _) (fun hg => y_load (gvt hg rfl) (LoadAt.oneL (.s .z) ty3 .z)) rfl ?_
            refine l_gg (s := 125) (Cls.gs _ _) (by kernel_rfl) rfl (beq_f _) (fun hg => y_fieldAddr rfl fa36_1) rfl ?_
            refine l_gg (s := 125) (Cls.gs _ _) (by kernel_rfl) rfl (beq_f _) (fun hg => y_load (gvt hg rfl) (LoadAt.oneL (.s .z) ty3 (.s .z))) rfl ?_
            refine l_gg (s := 125) (Cls.gs _ _) (by kernel_rfl) rfl (beq_f _) (fun hg => y_fieldAddr rfl fa36_3) rfl ?_
            refine l_gg (s := 125) (Cls.gs _ _) (by kernel_rfl) rfl (beq_f _) (fun hg => y_load (gvt hg rfl) (LoadAt.aggL (.s .z) ty28 (.s (.s (.s (.t (.t (.t .d)))))))) rfl ?_
            refine l_gg (s := 125) (Cls.gs _ _) (by kernel_rfl) rfl (beq_f _) (fun hg => y_fieldAddr rfl fa36_7) rfl ?_
            refine l_gg (s := 125) (Cls.gs _ _) (by kernel_rfl) rfl (beq_f _) (fun hg => y_load (gvt hg rfl) (LoadAt.oneL (.s .z) ty3 (.s (.s (.s (.s (.s (.s (.s (.s (.s (.s (.s (.s (.s (.s (.s .z))))))))))))))))) rfl ?_
            refine l_gg (s := 125) (Cls.gs _ _) (by kernel_rfl) rfl (beq_f _) (fun hg => y_build pl36 ty36 .a (.c (gvt hg rfl) (.c (gvt hg rfl) (.c (gvt hg rfl) (.c (gvt hg rfl) .n)))) (.c rfl (.o rfl) rfl rfl (.t .d) (.c rfl (.o rfl) rfl rfl (.s (.t .d)) (.c rfl .a rfl rfl (.s (.s (.s (.t (.t (.t .d)))))) (.c rfl (.o rfl) rfl rfl (.s (.s (.s (.s (.s (.s (.s (.s (.s (.s (.s (.s (.s (.s (.s (.t .d)))))))))))))))) .d))))) rfl ?_
            refine l_gg (s := 125) (Cls.gs _ _) (by kernel_rfl) rfl (beq_f _) (fun hg => y_neG Tryz.underlying36 (by kernel_rfl) (by kernel_rfl) (gvt hg rfl) (gvt hg rfl) (.one rfl ty3 .z .z (.int Tryz.underlying3) (.one rfl ty3 (.s .z) (.s .z) (.int Tryz.underlying3) (.one rfl ty3 (.s (.s .z)) (.s (.s .z)) (.int Tryz.underlying3) (.agg rfl ty28 (.s (.s (.s (.t (.t (.t .d)))))) (.s (.s (.s (.t (.t (.t .d)))))) Tryz.underlying28 (by kernel_rfl) (.one rfl ty26 .z .z (.int Tryz.underlying26) (.one rfl ty26 (.s .z) (.s .z) (.int Tryz.underlying26) (.one rfl ty4 (.s (.s .z)) (.s (.s .z)) (.bool Tryz.underlying4) .nil))) (.agg rfl ty31 (.s (.s (.s (.s (.s (.s (.t (.t (.t .d))))))))) (.s (.s (.s (.s (.s (.s (.t (.t (.t .d))))))))) Tryz.underlying31 (by kernel_rfl) (.one rfl ty29 .z .z (.int Tryz.underlying29) (.one rfl ty29 (.s .z) (.s .z) (.int Tryz.underlying29) (.one rfl ty4 (.s (.s .z)) (.s (.s .z)) (.bool Tryz.underlying4) .nil))) (.agg rfl ty31 (.s (.s (.s (.s (.s (.s (.s (.s (.s (.t (.t (.t .d)))))))))))) (.s (.s (.s (.s (.s (.s (.s (.s (.s (.t (.t (.t .d)))))))))))) Tryz.underlying31 (by kernel_rfl) (.one rfl ty29 .z .z (.int Tryz.underlying29) (.one rfl ty29 (.s .z) (.s .z) (.int Tryz.underlying29) (.one rfl ty4 (.s (.s .z)) (.s (.s .z)) (.bool Tryz.underlying4) .nil))) (.agg rfl ty34 (.s (.s (.s (.s (.s (.s (.s (.s (.s (.s (.s (.s (.t (.t (.t .d))))))))))))))) (.s (.s (.s (.s (.s (.s (.s (.s (.s (.s (.s (.s (.t (.t (.t .d))))))))))))))) Tryz.underlying34 (by kernel_rfl) (.one rfl ty32 .z .z (.int Tryz.underlying32) (.one rfl ty32 (.s .z) (.s .z) (.int Tryz.underlying32) (.one rfl ty4 (.s (.s .z)) (.s (.s .z)) (.bool Tryz.underlying4) .nil))) (.one rfl ty3 (.s (.s (.s (.s (.s (.s (.s (.s (.s (.s (.s (.s (.s (.s (.s .z))))))))))))))) (.s (.s (.s (.s (.s (.s (.s (.s (.s (.s (.s (.s (.s (.s (.s .z))))))))))))))) (.int Tryz.underlying3) .nil))))))))) rfl ?_
            refine l_g (s := 114) (Cls.gs _ _) (by kernel_rfl) rfl (beq_t _) (fun hg => y_or (gvt hg rfl) rfl (gva hg rfl)) rfl ?_
            refine l_y (Cls.gs _ _) (y_and rfl rfl rfl) rfl ?_
            refine l_y (Cls.gs _ _) (y_assign rfl) rfl ?_
            refine l_nil ?_
            refine e_then ?_
            refine CJ.weak (.c (t := 110) rfl .n) (fun _ h => h) ?_
            refine c_cond rfl (fun h5 => ?_) (fun h5 => ?_)
            ·
              refine c_seq ?_
              refine c_text ?_
              refine l_y (Cls.gs _ _) (y_assign rfl) rfl ?_
              refine l_nil ?_
              refine e_then ?_
              refine CJ.weak (.c (t := 2) rfl .n) (fun _ h => h) ?_
              refine c_ret ?_
              refine e_block_ret ?_
              refine e_then_ret ?_
              refine e_ret rfl (.t rfl .n) (fun wF hw => ?_)
              exfalso
              have hk : a.kind = 6 := by
                by_cases hk : a.kind = 6
                · exact hk
                · simp [hk] at h5
              obtain ⟨t1, t2, t3, t4, t5, t6⟩ := h.rt hk
              simp [hk, t1, t2, t3, t4, t5, t6] at h5
            ·
              refine c_skip ?_
              refine e_block ?_
              refine e_then ?_
              refine CJ.weak .n (fun _ h => h) ?_
              refine c_seq ?_
              refine c_text ?_
              refine l_y (Cls.gs _ _) (y_assign rfl) rfl ?_
              refine l_nil ?_
              refine e_then ?_
              refine c_ret ?_
              refine e_ret rfl (.t rfl .n) (fun wF hw => ?_)
              exact ⟨rfl, (hw.anc (w, []) (by simp)).below⟩

end Go.Proofs.YtpjacndlbjeehaaGreatDoor
