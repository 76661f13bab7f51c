/-
  A part of the proof of TopAskedElsewhere: walks of single functions.
-/
import Derived.Test.YtdpdahpkdimopaaGreatQf
import Derived.Test.YtdpdahpkdimopaaGreatB
import Derived.KernelRfl
set_option linter.unusedVariables false
set_option linter.unusedSimpArgs false
set_option maxRecDepth 100000
namespace Go.Proofs.YtdpdahpkdimopaaGreat
open Go Go.Px Sg
theorem bdCheck86 (b : Bd) (w : World) : Calls Tryz.prog 86 #[.agg #[.int .i64 b.lo, .int .i64 b.hi, .bool b.u]] w fun e w' => e = .returned (.int .i64 (bdErr b)) ∧ Gr w w' := by
  refine enter Tryz.func86 rfl rfl rfl rfl (Cls.start w) ?_
  refine c_seq ?_
  refine c_text ?_
  refine l_n rfl (n_box rfl .a rfl) (fun b0 _ => ?_)
  refine l_y (Cls.gs _ _) (y_assign rfl) rfl ?_
  refine l_nil ?_
  refine e_then ?_
  refine CJ.weak (.c (t := 1) rfl .n) (fun _ h => h) ?_
  refine c_seq ?_
  refine c_block ?_
  refine c_seq ?_
  refine c_text ?_
  refine l_y (Cls.gs _ _) (y_fieldAddr rfl fa43_2) rfl ?_
  refine l_y (Cls.gs _ _) (y_load rfl (LoadAt.oneL .z ty4 (.s (.s .z)))) rfl ?_
  refine l_y (Cls.gs _ _) (y_move rfl) rfl ?_
  refine l_g (s := 6) (Cls.gs _ _) (by kernel_rfl) rfl (beq_t _) (fun hg => y_fieldAddr rfl fa43_0) rfl ?_
  refine l_g (s := 6) (Cls.gs _ _) (by kernel_rfl) rfl (beq_t _) (fun hg => y_load (gvt hg rfl) (LoadAt.oneL .z ty41 .z)) rfl ?_
  refine l_g (s := 6) (Cls.gs _ _) (by kernel_rfl) rfl (beq_t _) (fun hg => y_neq (gvt hg rfl) rfl) rfl ?_
  refine l_g (s := 6) (Cls.gs _ _) (by kernel_rfl) rfl (beq_t _) (fun hg => y_move (gvt hg rfl)) rfl ?_
  refine l_gg (s := 10) (Cls.gs _ _) (by kernel_rfl) rfl (beq_f _) (fun hg => y_fieldAddr rfl fa43_1) rfl ?_
  refine l_gg (s := 10) (Cls.gs _ _) (by kernel_rfl) rfl (beq_f _) (fun hg => y_load (gvt hg rfl) (LoadAt.oneL .z ty41 (.s .z))) rfl ?_
  refine l_gg (s := 10) (Cls.gs _ _) (by kernel_rfl) rfl (beq_f _) (fun hg => y_neq (gvt hg rfl) rfl) rfl ?_
  refine l_g (s := 6) (Cls.gs _ _) (by kernel_rfl) rfl (beq_t _) (fun hg => y_or (gvt hg rfl) rfl (gva hg rfl)) rfl ?_
  refine l_y (Cls.gs _ _) (y_and rfl rfl rfl) rfl ?_
  refine l_y (Cls.gs _ _) (y_assign rfl) rfl ?_
  refine l_nil ?_
  refine e_then ?_
  refine CJ.weak (.c (t := 1) rfl (.c (t := 3) rfl .n)) (fun _ h => h) ?_
  refine c_cond rfl (fun h0 => ?_) (fun h0 => ?_)
  ·
    refine c_seq ?_
    refine c_text ?_
    refine l_y (Cls.gs _ _) (y_assign rfl) rfl ?_
    refine l_nil ?_
    refine e_then ?_
    refine CJ.weak (.c (t := 2) rfl .n) (fun _ h => h) ?_
    refine c_ret ?_
    refine e_block_ret ?_
    refine e_then_ret ?_
    refine e_ret rfl (.t rfl .n) (fun wF hw => ?_)
    exact ⟨by simp only [outOf, bdErr, *, reduceIte, Bool.false_eq_true], (hw.anc (w, []) (by simp)).below⟩
  ·
    refine c_seq ?_
    refine c_text ?_
    refine l_y (Cls.gs _ _) (y_fieldAddr rfl fa43_0) rfl ?_
    refine l_y (Cls.gs _ _) (y_load rfl (LoadAt.oneL .z ty41 .z)) rfl ?_
    refine l_y (Cls.gs _ _) (y_fieldAddr rfl fa43_1) rfl ?_
    refine l_y (Cls.gs _ _) (y_load rfl (LoadAt.oneL .z ty41 (.s .z))) rfl ?_
    refine l_y (Cls.gs _ _) (y_min2 rfl rfl) rfl ?_
    refine l_y (Cls.gs _ _) (y_lss rfl rfl) rfl ?_
    refine l_y (Cls.gs _ _) (y_move rfl) rfl ?_
    refine l_g (s := 23) (Cls.gs _ _) (by kernel_rfl) rfl (beq_f _) (fun hg => y_fieldAddr rfl fa43_0) rfl ?_
    refine l_g (s := 23) (Cls.gs _ _) (by kernel_rfl) rfl (beq_f _) (fun hg => y_load (gvt hg rfl) (LoadAt.oneL .z ty41 .z)) rfl ?_
    refine l_g (s := 23) (Cls.gs _ _) (by kernel_rfl) rfl (beq_f _) (fun hg => y_fieldAddr rfl fa43_1) rfl ?_
    refine l_g (s := 23) (Cls.gs _ _) (by kernel_rfl) rfl (beq_f _) (fun hg => y_load (gvt hg rfl) (LoadAt.oneL .z ty41 (.s .z))) rfl ?_
    refine l_g (s := 23) (Cls.gs _ _) (by kernel_rfl) rfl (beq_f _) (fun hg => y_max2 (gvt hg rfl) (gvt hg rfl)) rfl ?_
    refine l_g (s := 23) (Cls.gs _ _) (by kernel_rfl) rfl (beq_f _) (fun hg => y_gtr (gvt hg rfl) rfl) rfl ?_
    refine l_y (Cls.gs _ _) (y_or rfl rfl rfl) rfl ?_
    refine l_y (Cls.gs _ _) (y_assign rfl) rfl ?_
    refine l_nil ?_
    refine e_then ?_
    refine CJ.weak (.c (t := 1) rfl (.c (t := 16) rfl .n)) (fun _ h => h) ?_
    refine c_cond rfl (fun h1 => ?_) (fun h1 => ?_)
    ·
      refine c_seq ?_
      refine c_text ?_
      refine l_y (Cls.gs _ _) (y_assign rfl) rfl ?_
      refine l_nil ?_
      refine e_then ?_
      refine CJ.weak (.c (t := 2) rfl .n) (fun _ h => h) ?_
      refine c_ret ?_
      refine e_block_ret ?_
      refine e_then_ret ?_
      refine e_ret rfl (.t rfl .n) (fun wF hw => ?_)
      exact ⟨by simp only [outOf, bdErr, *, reduceIte, Bool.false_eq_true], (hw.anc (w, []) (by simp)).below⟩
    ·
      refine c_seq ?_
      refine c_text ?_
      refine l_y (Cls.gs _ _) (y_fieldAddr rfl fa43_0) rfl ?_
      refine l_y (Cls.gs _ _) (y_load rfl (LoadAt.oneL .z ty41 .z)) rfl ?_
      refine l_y (Cls.gs _ _) (y_fieldAddr rfl fa43_1) rfl ?_
      refine l_y (Cls.gs _ _) (y_load rfl (LoadAt.oneL .z ty41 (.s .z))) rfl ?_
      refine l_y (Cls.gs _ _) (y_gtr rfl rfl) rfl ?_
      refine l_y (Cls.gs _ _) (y_assign rfl) rfl ?_
      refine l_nil ?_
      refine e_then ?_
      refine CJ.weak (.c (t := 31) rfl .n) (fun _ h => h) ?_
      refine c_cond rfl (fun h2 => ?_) (fun h2 => ?_)
      ·
        refine c_seq ?_
        refine c_text ?_
        refine l_y (Cls.gs _ _) (y_assign rfl) rfl ?_
        refine l_nil ?_
        refine e_then ?_
        refine CJ.weak (.c (t := 2) rfl .n) (fun _ h => h) ?_
        refine c_ret ?_
        refine e_block_ret ?_
        refine e_then_ret ?_
        refine e_ret rfl (.t rfl .n) (fun wF hw => ?_)
        exact ⟨by simp only [outOf, bdErr, *, reduceIte, Bool.false_eq_true], (hw.anc (w, []) (by simp)).below⟩
      ·
        refine c_skip ?_
        refine e_block ?_
        refine e_then ?_
        refine CJ.weak .n (fun _ h => h) ?_
        refine c_seq ?_
        refine c_text ?_
        refine l_y (Cls.gs _ _) (y_assign rfl) rfl ?_
        refine l_nil ?_
        refine e_then ?_
        refine c_ret ?_
        refine e_ret rfl (.t rfl .n) (fun wF hw => ?_)
        exact ⟨by simp only [outOf, bdErr, *, reduceIte, Bool.false_eq_true], (hw.anc (w, []) (by simp)).below⟩

theorem bdCheck87 (b : Bd) (w : World) : Calls Tryz.prog 87 #[.agg #[.int .i64 b.lo, .int .i64 b.hi, .bool b.u]] w fun e w' => e = .returned (.int .i64 (bdErr b)) ∧ Gr w w' := by
  refine enter Tryz.func87 rfl rfl rfl rfl (Cls.start w) ?_
  refine c_seq ?_
  refine c_text ?_
  refine l_n rfl (n_box rfl .a rfl) (fun b0 _ => ?_)
  refine l_y (Cls.gs _ _) (y_assign rfl) rfl ?_
  refine l_nil ?_
  refine e_then ?_
  refine CJ.weak (.c (t := 1) rfl .n) (fun _ h => h) ?_
  refine c_seq ?_
  refine c_block ?_
  refine c_seq ?_
  refine c_text ?_
  refine l_y (Cls.gs _ _) (y_fieldAddr rfl fa47_2) rfl ?_
  refine l_y (Cls.gs _ _) (y_load rfl (LoadAt.oneL .z ty4 (.s (.s .z)))) rfl ?_
  refine l_y (Cls.gs _ _) (y_move rfl) rfl ?_
  refine l_g (s := 6) (Cls.gs _ _) (by kernel_rfl) rfl (beq_t _) (fun hg => y_fieldAddr rfl fa47_0) rfl ?_
  refine l_g (s := 6) (Cls.gs _ _) (by kernel_rfl) rfl (beq_t _) (fun hg => y_load (gvt hg rfl) (LoadAt.oneL .z ty25 .z)) rfl ?_
  refine l_g (s := 6) (Cls.gs _ _) (by kernel_rfl) rfl (beq_t _) (fun hg => y_neq (gvt hg rfl) rfl) rfl ?_
  refine l_g (s := 6) (Cls.gs _ _) (by kernel_rfl) rfl (beq_t _) (fun hg => y_move (gvt hg rfl)) rfl ?_
  refine l_gg (s := 10) (Cls.gs _ _) (by kernel_rfl) rfl (beq_f _) (fun hg => y_fieldAddr rfl fa47_1) rfl ?_
  refine l_gg (s := 10) (Cls.gs _ _) (by kernel_rfl) rfl (beq_f _) (fun hg => y_load (gvt hg rfl) (LoadAt.oneL .z ty25 (.s .z))) rfl ?_
  refine l_gg (s := 10) (Cls.gs _ _) (by kernel_rfl) rfl (beq_f _) (fun hg => y_neq (gvt hg rfl) rfl) rfl ?_
  refine l_g (s := 6) (Cls.gs _ _) (by kernel_rfl) rfl (beq_t _) (fun hg => y_or (gvt hg rfl) rfl (gva hg rfl)) rfl ?_
  refine l_y (Cls.gs _ _) (y_and rfl rfl rfl) rfl ?_
  refine l_y (Cls.gs _ _) (y_assign rfl) rfl ?_
  refine l_nil ?_
  refine e_then ?_
  refine CJ.weak (.c (t := 1) rfl (.c (t := 3) rfl .n)) (fun _ h => h) ?_
  refine c_cond rfl (fun h0 => ?_) (fun h0 => ?_)
  ·
    refine c_seq ?_
    refine c_text ?_
    refine l_y (Cls.gs _ _) (y_assign rfl) rfl ?_
    refine l_nil ?_
    refine e_then ?_
    refine CJ.weak (.c (t := 2) rfl .n) (fun _ h => h) ?_
    refine c_ret ?_
    refine e_block_ret ?_
    refine e_then_ret ?_
    refine e_ret rfl (.t rfl .n) (fun wF hw => ?_)
    exact ⟨by simp only [outOf, bdErr, *, reduceIte, Bool.false_eq_true], (hw.anc (w, []) (by simp)).below⟩
  ·
    refine c_seq ?_
    refine c_text ?_
    refine l_y (Cls.gs _ _) (y_fieldAddr rfl fa47_0) rfl ?_
    refine l_y (Cls.gs _ _) (y_load rfl (LoadAt.oneL .z ty25 .z)) rfl ?_
    refine l_y (Cls.gs _ _) (y_fieldAddr rfl fa47_1) rfl ?_
    refine l_y (Cls.gs _ _) (y_load rfl (LoadAt.oneL .z ty25 (.s .z))) rfl ?_
    refine l_y (Cls.gs _ _) (y_min2 rfl rfl) rfl ?_
    refine l_y (Cls.gs _ _) (y_lss rfl rfl) rfl ?_
    refine l_y (Cls.gs _ _) (y_move rfl) rfl ?_
    refine l_g (s := 23) (Cls.gs _ _) (by kernel_rfl) rfl (beq_f _) (fun hg => y_fieldAddr rfl fa47_0) rfl ?_
    refine l_g (s := 23) (Cls.gs _ _) (by kernel_rfl) rfl (beq_f _) (fun hg => y_load (gvt hg rfl) (LoadAt.oneL .z ty25 .z)) rfl ?_
    refine l_g (s := 23) (Cls.gs _ _) (by kernel_rfl) rfl (beq_f _) (fun hg => y_fieldAddr rfl fa47_1) rfl ?_
    refine l_g (s := 23) (Cls.gs _ _) (by kernel_rfl) rfl (beq_f _) (fun hg => y_load (gvt hg rfl) (LoadAt.oneL .z ty25 (.s .z))) rfl ?_
    refine l_g (s := 23) (Cls.gs _ _) (by kernel_rfl) rfl (beq_f _) (fun hg => y_max2 (gvt hg rfl) (gvt hg rfl)) rfl ?_
    refine l_g (s := 23) (Cls.gs _ _) (by kernel_rfl) rfl (beq_f _) (fun hg => y_gtr (gvt hg rfl) rfl) rfl ?_
    refine l_y (Cls.gs _ _) (y_or rfl rfl rfl) rfl ?_
    refine l_y (Cls.gs _ _) (y_assign rfl) rfl ?_
    refine l_nil ?_
    refine e_then ?_
    refine CJ.weak (.c (t := 1) rfl (.c (t := 16) rfl .n)) (fun _ h => h) ?_
    refine c_cond rfl (fun h1 => ?_) (fun h1 => ?_)
    ·
      refine c_seq ?_
      refine c_text ?_
      refine l_y (Cls.gs _ _) (y_assign rfl) rfl ?_
      refine l_nil ?_
      refine e_then ?_
      refine CJ.weak (.c (t := 2) rfl .n) (fun _ h => h) ?_
      refine c_ret ?_
      refine e_block_ret ?_
      refine e_then_ret ?_
      refine e_ret rfl (.t rfl .n) (fun wF hw => ?_)
      exact ⟨by simp only [outOf, bdErr, *, reduceIte, Bool.false_eq_true], (hw.anc (w, []) (by simp)).below⟩
    ·
      refine c_seq ?_
      refine c_text ?_
      refine l_y (Cls.gs _ _) (y_fieldAddr rfl fa47_0) rfl ?_
      refine l_y (Cls.gs _ _) (y_load rfl (LoadAt.oneL .z ty25 .z)) rfl ?_
      refine l_y (Cls.gs _ _) (y_fieldAddr rfl fa47_1) rfl ?_
      refine l_y (Cls.gs _ _) (y_load rfl (LoadAt.oneL .z ty25 (.s .z))) rfl ?_
      refine l_y (Cls.gs _ _) (y_gtr rfl rfl) rfl ?_
      refine l_y (Cls.gs _ _) (y_assign rfl) rfl ?_
      refine l_nil ?_
      refine e_then ?_
      refine CJ.weak (.c (t := 31) rfl .n) (fun _ h => h) ?_
      refine c_cond rfl (fun h2 => ?_) (fun h2 => ?_)
      ·
        refine c_seq ?_
        refine c_text ?_
        refine l_y (Cls.gs _ _) (y_assign rfl) rfl ?_
        refine l_nil ?_
        refine e_then ?_
        refine CJ.weak (.c (t := 2) rfl .n) (fun _ h => h) ?_
        refine c_ret ?_
        refine e_block_ret ?_
        refine e_then_ret ?_
        refine e_ret rfl (.t rfl .n) (fun wF hw => ?_)
        exact ⟨by simp only [outOf, bdErr, *, reduceIte, Bool.false_eq_true], (hw.anc (w, []) (by simp)).below⟩
      ·
        refine c_skip ?_
        refine e_block ?_
        refine e_then ?_
        refine CJ.weak .n (fun _ h => h) ?_
        refine c_seq ?_
        refine c_text ?_
        refine l_y (Cls.gs _ _) (y_assign rfl) rfl ?_
        refine l_nil ?_
        refine e_then ?_
        refine c_ret ?_
        refine e_ret rfl (.t rfl .n) (fun wF hw => ?_)
        exact ⟨by simp only [outOf, bdErr, *, reduceIte, Bool.false_eq_true], (hw.anc (w, []) (by simp)).below⟩

theorem bdCheck88 (b : Bd) (w : World) : Calls Tryz.prog 88 #[.agg #[.int .i64 b.lo, .int .i64 b.hi, .bool b.u]] w fun e w' => e = .returned (.int .i64 (bdErr b)) ∧ Gr w w' := by
  refine enter Tryz.func88 rfl rfl rfl rfl (Cls.start w) ?_
  refine c_seq ?_
  refine c_text ?_
  refine l_n rfl (n_box rfl .a rfl) (fun b0 _ => ?_)
  refine l_y (Cls.gs _ _) (y_assign rfl) rfl ?_
  refine l_nil ?_
  refine e_then ?_
  refine CJ.weak (.c (t := 1) rfl .n) (fun _ h => h) ?_
  refine c_seq ?_
  refine c_block ?_
  refine c_seq ?_
  refine c_text ?_
  refine l_y (Cls.gs _ _) (y_fieldAddr rfl fa49_2) rfl ?_
  refine l_y (Cls.gs _ _) (y_load rfl (LoadAt.oneL .z ty4 (.s (.s .z)))) rfl ?_
  refine l_y (Cls.gs _ _) (y_move rfl) rfl ?_
  refine l_g (s := 6) (Cls.gs _ _) (by kernel_rfl) rfl (beq_t _) (fun hg => y_fieldAddr rfl fa49_0) rfl ?_
  refine l_g (s := 6) (Cls.gs _ _) (by kernel_rfl) rfl (beq_t _) (fun hg => y_load (gvt hg rfl) (LoadAt.oneL .z ty24 .z)) rfl ?_
  refine l_g (s := 6) (Cls.gs _ _) (by kernel_rfl) rfl (beq_t _) (fun hg => y_neq (gvt hg rfl) rfl) rfl ?_
  refine l_g (s := 6) (Cls.gs _ _) (by kernel_rfl) rfl (beq_t _) (fun hg => y_move (gvt hg rfl)) rfl ?_
  refine l_gg (s := 10) (Cls.gs _ _) (by kernel_rfl) rfl (beq_f _) (fun hg => y_fieldAddr rfl fa49_1) rfl ?_
  refine l_gg (s := 10) (Cls.gs _ _) (by kernel_rfl) rfl (beq_f _) (fun hg => y_load (gvt hg rfl) (LoadAt.oneL .z ty24 (.s .z))) rfl ?_
  refine l_gg (s := 10) (Cls.gs _ _) (by kernel_rfl) rfl (beq_f _) (fun hg => y_neq (gvt hg rfl) rfl) rfl ?_
  refine l_g (s := 6) (Cls.gs _ _) (by kernel_rfl) rfl (beq_t _) (fun hg => y_or (gvt hg rfl) rfl (gva hg rfl)) rfl ?_
  refine l_y (Cls.gs _ _) (y_and rfl rfl rfl) rfl ?_
  refine l_y (Cls.gs _ _) (y_assign rfl) rfl ?_
  refine l_nil ?_
  refine e_then ?_
  refine CJ.weak (.c (t := 1) rfl (.c (t := 3) rfl .n)) (fun _ h => h) ?_
  refine c_cond rfl (fun h0 => ?_) (fun h0 => ?_)
  ·
    refine c_seq ?_
    refine c_text ?_
    refine l_y (Cls.gs _ _) (y_assign rfl) rfl ?_
    refine l_nil ?_
    refine e_then ?_
    refine CJ.weak (.c (t := 2) rfl .n) (fun _ h => h) ?_
    refine c_ret ?_
    refine e_block_ret ?_
    refine e_then_ret ?_
    refine e_ret rfl (.t rfl .n) (fun wF hw => ?_)
    exact ⟨by simp only [outOf, bdErr, *, reduceIte, Bool.false_eq_true], (hw.anc (w, []) (by simp)).below⟩
  ·
    refine c_seq ?_
    refine c_text ?_
    refine l_y (Cls.gs _ _) (y_fieldAddr rfl fa49_0) rfl ?_
    refine l_y (Cls.gs _ _) (y_load rfl (LoadAt.oneL .z ty24 .z)) rfl ?_
    refine l_y (Cls.gs _ _) (y_fieldAddr rfl fa49_1) rfl ?_
    refine l_y (Cls.gs _ _) (y_load rfl (LoadAt.oneL .z ty24 (.s .z))) rfl ?_
    refine l_y (Cls.gs _ _) (y_min2 rfl rfl) rfl ?_
    refine l_y (Cls.gs _ _) (y_lss rfl rfl) rfl ?_
    refine l_y (Cls.gs _ _) (y_move rfl) rfl ?_
    refine l_g (s := 23) (Cls.gs _ _) (by kernel_rfl) rfl (beq_f _) (fun hg => y_fieldAddr rfl fa49_0) rfl ?_
    refine l_g (s := 23) (Cls.gs _ _) (by kernel_rfl) rfl (beq_f _) (fun hg => y_load (gvt hg rfl) (LoadAt.oneL .z ty24 .z)) rfl ?_
    refine l_g (s := 23) (Cls.gs _ _) (by kernel_rfl) rfl (beq_f _) (fun hg => y_fieldAddr rfl fa49_1) rfl ?_
    refine l_g (s := 23) (Cls.gs _ _) (by kernel_rfl) rfl (beq_f _) (fun hg => y_load (gvt hg rfl) (LoadAt.oneL .z ty24 (.s .z))) rfl ?_
    refine l_g (s := 23) (Cls.gs _ _) (by kernel_rfl) rfl (beq_f _) (fun hg => y_max2 (gvt hg rfl) (gvt hg rfl)) rfl ?_
    refine l_g (s := 23) (Cls.gs _ _) (by kernel_rfl) rfl (beq_f _) (fun hg => y_gtr (gvt hg rfl) rfl) rfl ?_
    refine l_y (Cls.gs _ _) (y_or rfl rfl rfl) rfl ?_
    refine l_y (Cls.gs _ _) (y_assign rfl) rfl ?_
    refine l_nil ?_
    refine e_then ?_
    refine CJ.weak (.c (t := 1) rfl (.c (t := 16) rfl .n)) (fun _ h => h) ?_
    refine c_cond rfl (fun h1 => ?_) (fun h1 => ?_)
    ·
      refine c_seq ?_
      refine c_text ?_
      refine l_y (Cls.gs _ _) (y_assign rfl) rfl ?_
      refine l_nil ?_
      refine e_then ?_
      refine CJ.weak (.c (t := 2) rfl .n) (fun _ h => h) ?_
      refine c_ret ?_
      refine e_block_ret ?_
      refine e_then_ret ?_
      refine e_ret rfl (.t rfl .n) (fun wF hw => ?_)
      exact ⟨by simp only [outOf, bdErr, *, reduceIte, Bool.false_eq_true], (hw.anc (w, []) (by simp)).below⟩
    ·
      refine c_seq ?_
      refine c_text ?_
      refine l_y (Cls.gs _ _) (y_fieldAddr rfl fa49_0) rfl ?_
      refine l_y (Cls.gs _ _) (y_load rfl (LoadAt.oneL .z ty24 .z)) rfl ?_
      refine l_y (Cls.gs _ _) (y_fieldAddr rfl fa49_1) rfl ?_
      refine l_y (Cls.gs _ _) (y_load rfl (LoadAt.oneL .z ty24 (.s .z))) rfl ?_
      refine l_y (Cls.gs _ _) (y_gtr rfl rfl) rfl ?_
      refine l_y (Cls.gs _ _) (y_assign rfl) rfl ?_
      refine l_nil ?_
      refine e_then ?_
      refine CJ.weak (.c (t := 31) rfl .n) (fun _ h => h) ?_
      refine c_cond rfl (fun h2 => ?_) (fun h2 => ?_)
      ·
        refine c_seq ?_
        refine c_text ?_
        refine l_y (Cls.gs _ _) (y_assign rfl) rfl ?_
        refine l_nil ?_
        refine e_then ?_
        refine CJ.weak (.c (t := 2) rfl .n) (fun _ h => h) ?_
        refine c_ret ?_
        refine e_block_ret ?_
        refine e_then_ret ?_
        refine e_ret rfl (.t rfl .n) (fun wF hw => ?_)
        exact ⟨by simp only [outOf, bdErr, *, reduceIte, Bool.false_eq_true], (hw.anc (w, []) (by simp)).below⟩
      ·
        refine c_skip ?_
        refine e_block ?_
        refine e_then ?_
        refine CJ.weak .n (fun _ h => h) ?_
        refine c_seq ?_
        refine c_text ?_
        refine l_y (Cls.gs _ _) (y_assign rfl) rfl ?_
        refine l_nil ?_
        refine e_then ?_
        refine c_ret ?_
        refine e_ret rfl (.t rfl .n) (fun wF hw => ?_)
        exact ⟨by simp only [outOf, bdErr, *, reduceIte, Bool.false_eq_true], (hw.anc (w, []) (by simp)).below⟩

theorem ends64 (b : Bd) (m : Int) (hm : 0 ≤ m) (hm2 : m ≤ 1152921504606846976) (w : World) : Calls Tryz.prog 64 #[.agg #[.int .i64 b.lo, .int .i64 b.hi, .bool b.u], .int .i64 m] w fun e w' => e = .returned (.int .i64 (endsErr b m)) ∧ Gr w w' := by
  refine enter Tryz.func64 rfl rfl rfl rfl (Cls.start w) ?_
  refine c_seq ?_
  refine c_text ?_
  refine l_n rfl (n_box rfl .a rfl) (fun b0 _ => ?_)
  refine l_y (Cls.gs _ _) (y_assign rfl) rfl ?_
  refine l_nil ?_
  refine e_then ?_
  refine CJ.weak (.c (t := 1) rfl (.c (t := 2) rfl .n)) (fun _ h => h) ?_
  refine c_seq ?_
  refine c_seq ?_
  refine c_text ?_
  refine l_y (Cls.gs _ _) (y_load rfl (LoadAt.aggL .z ty43 (.t (.t (.t .d))))) rfl ?_
  refine l_y (Cls.gs _ _) (y_call ent86 (.c rfl .n) (fun w _ => bdCheck86 _ w)) rfl ?_
  refine l_y (Cls.gs _ _) (y_assign rfl) rfl ?_
  refine l_nil ?_
  refine e_then ?_
  refine CJ.weak (.c (t := 1) rfl (.c (t := 2) rfl (.c (t := 5) rfl .n))) (fun _ h => h) ?_
  refine c_seq ?_
  refine c_text ?_
  refine l_y (Cls.gs _ _) (y_move rfl) rfl ?_
  refine l_y (Cls.gs _ _) (y_neq rfl rfl) rfl ?_
  refine l_nil ?_
  refine e_then ?_
  refine CJ.weak (.c (t := 1) rfl (.c (t := 2) rfl (.c (t := 5) rfl (.c (t := 9) rfl .n)))) (fun _ h => h) ?_
  refine c_cond rfl (fun h0 => ?_) (fun h0 => ?_)
  ·
    refine c_seq ?_
    refine c_text ?_
    refine l_y (Cls.gs _ _) (y_move rfl) rfl ?_
    refine l_y (Cls.gs _ _) (y_assign rfl) rfl ?_
    refine l_nil ?_
    refine e_then ?_
    refine CJ.weak (.c (t := 4) rfl .n) (fun _ h => h) ?_
    refine c_ret ?_
    refine e_then_ret ?_
    refine e_ret rfl (.t rfl .n) (fun wF hw => ?_)
    exact ⟨by simp only [outOf, endsErr, *, reduceIte, Bool.false_eq_true], (hw.anc (w, []) (by simp)).below⟩
  ·
    refine c_skip ?_
    refine e_then ?_
    refine CJ.weak (.c (t := 1) rfl (.c (t := 2) rfl .n)) (fun _ h => h) ?_
    refine c_seq ?_
    refine c_seq ?_
    refine c_text ?_
    refine l_y (Cls.gs _ _) (y_fieldAddr rfl fa43_0) rfl ?_
    refine l_y (Cls.gs _ _) (y_load rfl (LoadAt.oneL .z ty41 .z)) rfl ?_
    refine l_y (Cls.gs _ _) (y_move rfl) rfl ?_
    refine l_y (Cls.gs _ _) ((y_neg rfl).lit (lit64 (y := -m) (by omega) (by omega) (by omega))) rfl ?_
    refine l_y (Cls.gs _ _) (y_lss rfl rfl) rfl ?_
    refine l_y (Cls.gs _ _) (y_move rfl) rfl ?_
    refine l_g (s := 16) (Cls.gs _ _) (by kernel_rfl) rfl (beq_f _) (fun hg => y_fieldAddr rfl fa43_1) rfl ?_
    refine l_g (s := 16) (Cls.gs _ _) (by kernel_rfl) rfl (beq_f _) (fun hg => y_load (gvt hg rfl) (LoadAt.oneL .z ty41 (.s .z))) rfl ?_
    refine l_g (s := 16) (Cls.gs _ _) (by kernel_rfl) rfl (beq_f _) (fun hg => y_move rfl) rfl ?_
    refine l_g (s := 16) (Cls.gs _ _) (by kernel_rfl) rfl (beq_f _) (fun hg => y_gtr (gvt hg rfl) (gvt hg rfl)) rfl ?_
    refine l_y (Cls.gs _ _) (y_or rfl rfl rfl) rfl ?_
    refine l_nil ?_
    refine e_then ?_
    refine CJ.weak (.c (t := 21) rfl .n) (fun _ h => h) ?_
    refine c_cond rfl (fun h1 => ?_) (fun h1 => ?_)
    ·
      refine c_seq ?_
      refine c_text ?_
      refine l_y (Cls.gs _ _) (y_assign rfl) rfl ?_
      refine l_nil ?_
      refine e_then ?_
      refine CJ.weak (.c (t := 4) rfl .n) (fun _ h => h) ?_
      refine c_ret ?_
      refine e_then_ret ?_
      refine e_ret rfl (.t rfl .n) (fun wF hw => ?_)
      exact ⟨by simp only [outOf, endsErr, *, reduceIte, Bool.false_eq_true], (hw.anc (w, []) (by simp)).below⟩
    ·
      refine c_skip ?_
      refine e_then ?_
      refine CJ.weak .n (fun _ h => h) ?_
      refine c_seq ?_
      refine c_text ?_
      refine l_y (Cls.gs _ _) (y_assign rfl) rfl ?_
      refine l_nil ?_
      refine e_then ?_
      refine c_ret ?_
      refine e_ret rfl (.t rfl .n) (fun wF hw => ?_)
      exact ⟨by simp only [outOf, endsErr, *, reduceIte, Bool.false_eq_true], (hw.anc (w, []) (by simp)).below⟩

theorem ends65 (b : Bd) (m : Int) (hm : 0 ≤ m) (hm2 : m ≤ 1152921504606846976) (w : World) : Calls Tryz.prog 65 #[.agg #[.int .i64 b.lo, .int .i64 b.hi, .bool b.u], .int .i64 m] w fun e w' => e = .returned (.int .i64 (endsErr b m)) ∧ Gr w w' := by
  refine enter Tryz.func65 rfl rfl rfl rfl (Cls.start w) ?_
  refine c_seq ?_
  refine c_text ?_
  refine l_n rfl (n_box rfl .a rfl) (fun b0 _ => ?_)
  refine l_y (Cls.gs _ _) (y_assign rfl) rfl ?_
  refine l_nil ?_
  refine e_then ?_
  refine CJ.weak (.c (t := 1) rfl (.c (t := 2) rfl .n)) (fun _ h => h) ?_
  refine c_seq ?_
  refine c_seq ?_
  refine c_text ?_
  refine l_y (Cls.gs _ _) (y_load rfl (LoadAt.aggL .z ty47 (.t (.t (.t .d))))) rfl ?_
  refine l_y (Cls.gs _ _) (y_call ent87 (.c rfl .n) (fun w _ => bdCheck87 _ w)) rfl ?_
  refine l_y (Cls.gs _ _) (y_assign rfl) rfl ?_
  refine l_nil ?_
  refine e_then ?_
  refine CJ.weak (.c (t := 1) rfl (.c (t := 2) rfl (.c (t := 5) rfl .n))) (fun _ h => h) ?_
  refine c_seq ?_
  refine c_text ?_
  refine l_y (Cls.gs _ _) (y_move rfl) rfl ?_
  refine l_y (Cls.gs _ _) (y_neq rfl rfl) rfl ?_
  refine l_nil ?_
  refine e_then ?_
  refine CJ.weak (.c (t := 1) rfl (.c (t := 2) rfl (.c (t := 5) rfl (.c (t := 9) rfl .n)))) (fun _ h => h) ?_
  refine c_cond rfl (fun h0 => ?_) (fun h0 => ?_)
  ·
    refine c_seq ?_
    refine c_text ?_
    refine l_y (Cls.gs _ _) (y_move rfl) rfl ?_
    refine l_y (Cls.gs _ _) (y_assign rfl) rfl ?_
    refine l_nil ?_
    refine e_then ?_
    refine CJ.weak (.c (t := 4) rfl .n) (fun _ h => h) ?_
    refine c_ret ?_
    refine e_then_ret ?_
    refine e_ret rfl (.t rfl .n) (fun wF hw => ?_)
    exact ⟨by simp only [outOf, endsErr, *, reduceIte, Bool.false_eq_true], (hw.anc (w, []) (by simp)).below⟩
  ·
    refine c_skip ?_
    refine e_then ?_
    refine CJ.weak (.c (t := 1) rfl (.c (t := 2) rfl .n)) (fun _ h => h) ?_
    refine c_seq ?_
    refine c_seq ?_
    refine c_text ?_
    refine l_y (Cls.gs _ _) (y_fieldAddr rfl fa47_0) rfl ?_
    refine l_y (Cls.gs _ _) (y_load rfl (LoadAt.oneL .z ty25 .z)) rfl ?_
    refine l_y (Cls.gs _ _) (y_move rfl) rfl ?_
    refine l_y (Cls.gs _ _) ((y_neg rfl).lit (lit64 (y := -m) (by omega) (by omega) (by omega))) rfl ?_
    refine l_y (Cls.gs _ _) (y_lss rfl rfl) rfl ?_
    refine l_y (Cls.gs _ _) (y_move rfl) rfl ?_
    refine l_g (s := 16) (Cls.gs _ _) (by kernel_rfl) rfl (beq_f _) (fun hg => y_fieldAddr rfl fa47_1) rfl ?_
    refine l_g (s := 16) (Cls.gs _ _) (by kernel_rfl) rfl (beq_f _) (fun hg => y_load (gvt hg rfl) (LoadAt.oneL .z ty25 (.s .z))) rfl ?_
    refine l_g (s := 16) (Cls.gs _ _) (by kernel_rfl) rfl (beq_f _) (fun hg => y_move rfl) rfl ?_
    refine l_g (s := 16) (Cls.gs _ _) (by kernel_rfl) rfl (beq_f _) (fun hg => y_gtr (gvt hg rfl) (gvt hg rfl)) rfl ?_
    refine l_y (Cls.gs _ _) (y_or rfl rfl rfl) rfl ?_
    refine l_nil ?_
    refine e_then ?_
    refine CJ.weak (.c (t := 21) rfl .n) (fun _ h => h) ?_
    refine c_cond rfl (fun h1 => ?_) (fun h1 => ?_)
    ·
      refine c_seq ?_
      refine c_text ?_
      refine l_y (Cls.gs _ _) (y_assign rfl) rfl ?_
      refine l_nil ?_
      refine e_then ?_
      refine CJ.weak (.c (t := 4) rfl .n) (fun _ h => h) ?_
      refine c_ret ?_
      refine e_then_ret ?_
      refine e_ret rfl (.t rfl .n) (fun wF hw => ?_)
      exact ⟨by simp only [outOf, endsErr, *, reduceIte, Bool.false_eq_true], (hw.anc (w, []) (by simp)).below⟩
    ·
      refine c_skip ?_
      refine e_then ?_
      refine CJ.weak .n (fun _ h => h) ?_
      refine c_seq ?_
      refine c_text ?_
      refine l_y (Cls.gs _ _) (y_assign rfl) rfl ?_
      refine l_nil ?_
      refine e_then ?_
      refine c_ret ?_
      refine e_ret rfl (.t rfl .n) (fun wF hw => ?_)
      exact ⟨by simp only [outOf, endsErr, *, reduceIte, Bool.false_eq_true], (hw.anc (w, []) (by simp)).below⟩

theorem ends66 (b : Bd) (m : Int) (hm : 0 ≤ m) (hm2 : m ≤ 1152921504606846976) (w : World) : Calls Tryz.prog 66 #[.agg #[.int .i64 b.lo, .int .i64 b.hi, .bool b.u], .int .i64 m] w fun e w' => e = .returned (.int .i64 (endsErr b m)) ∧ Gr w w' := by
  refine enter Tryz.func66 rfl rfl rfl rfl (Cls.start w) ?_
  refine c_seq ?_
  refine c_text ?_
  refine l_n rfl (n_box rfl .a rfl) (fun b0 _ => ?_)
  refine l_y (Cls.gs _ _) (y_assign rfl) rfl ?_
  refine l_nil ?_
  refine e_then ?_
  refine CJ.weak (.c (t := 1) rfl (.c (t := 2) rfl .n)) (fun _ h => h) ?_
  refine c_seq ?_
  refine c_seq ?_
  refine c_text ?_
  refine l_y (Cls.gs _ _) (y_load rfl (LoadAt.aggL .z ty49 (.t (.t (.t .d))))) rfl ?_
  refine l_y (Cls.gs _ _) (y_call ent88 (.c rfl .n) (fun w _ => bdCheck88 _ w)) rfl ?_
  refine l_y (Cls.gs _ _) (y_assign rfl) rfl ?_
  refine l_nil ?_
  refine e_then ?_
  refine CJ.weak (.c (t := 1) rfl (.c (t := 2) rfl (.c (t := 5) rfl .n))) (fun _ h => h) ?_
  refine c_seq ?_
  refine c_text ?_
  refine l_y (Cls.gs _ _) (y_move rfl) rfl ?_
  refine l_y (Cls.gs _ _) (y_neq rfl rfl) rfl ?_
  refine l_nil ?_
  refine e_then ?_
  refine CJ.weak (.c (t := 1) rfl (.c (t := 2) rfl (.c (t := 5) rfl (.c (t := 9) rfl .n)))) (fun _ h => h) ?_
  refine c_cond rfl (fun h0 => ?_) (fun h0 => ?_)
  ·
    refine c_seq ?_
    refine c_text ?_
    refine l_y (Cls.gs _ _) (y_move rfl) rfl ?_
    refine l_y (Cls.gs _ _) (y_assign rfl) rfl ?_
    refine l_nil ?_
    refine e_then ?_
    refine CJ.weak (.c (t := 4) rfl .n) (fun _ h => h) ?_
    refine c_ret ?_
    refine e_then_ret ?_
    refine e_ret rfl (.t rfl .n) (fun wF hw => ?_)
    exact ⟨by simp only [outOf, endsErr, *, reduceIte, Bool.false_eq_true], (hw.anc (w, []) (by simp)).below⟩
  ·
    refine c_skip ?_
    refine e_then ?_
    refine CJ.weak (.c (t := 1) rfl (.c (t := 2) rfl .n)) (fun _ h => h) ?_
    refine c_seq ?_
    refine c_seq ?_
    refine c_text ?_
    refine l_y (Cls.gs _ _) (y_fieldAddr rfl fa49_0) rfl ?_
    refine l_y (Cls.gs _ _) (y_load rfl (LoadAt.oneL .z ty24 .z)) rfl ?_
    refine l_y (Cls.gs _ _) (y_move rfl) rfl ?_
    refine l_y (Cls.gs _ _) ((y_neg rfl).lit (lit64 (y := -m) (by omega) (by omega) (by omega))) rfl ?_
    refine l_y (Cls.gs _ _) (y_lss rfl rfl) rfl ?_
    refine l_y (Cls.gs _ _) (y_move rfl) rfl ?_
    refine l_g (s := 16) (Cls.gs _ _) (by kernel_rfl) rfl (beq_f _) (fun hg => y_fieldAddr rfl fa49_1) rfl ?_
    refine l_g (s := 16) (Cls.gs _ _) (by kernel_rfl) rfl (beq_f _) (fun hg => y_load (gvt hg rfl) (LoadAt.oneL .z ty24 (.s .z))) rfl ?_
    refine l_g (s := 16) (Cls.gs _ _) (by kernel_rfl) rfl (beq_f _) (fun hg => y_move rfl) rfl ?_
    refine l_g (s := 16) (Cls.gs _ _) (by kernel_rfl) rfl (beq_f _) (fun hg => y_gtr (gvt hg rfl) (gvt hg rfl)) rfl ?_
    refine l_y (Cls.gs _ _) (y_or rfl rfl rfl) rfl ?_
    refine l_nil ?_
    refine e_then ?_
    refine CJ.weak (.c (t := 21) rfl .n) (fun _ h => h) ?_
    refine c_cond rfl (fun h1 => ?_) (fun h1 => ?_)
    ·
      refine c_seq ?_
      refine c_text ?_
      refine l_y (Cls.gs _ _) (y_assign rfl) rfl ?_
      refine l_nil ?_
      refine e_then ?_
      refine CJ.weak (.c (t := 4) rfl .n) (fun _ h => h) ?_
      refine c_ret ?_
      refine e_then_ret ?_
      refine e_ret rfl (.t rfl .n) (fun wF hw => ?_)
      exact ⟨by simp only [outOf, endsErr, *, reduceIte, Bool.false_eq_true], (hw.anc (w, []) (by simp)).below⟩
    ·
      refine c_skip ?_
      refine e_then ?_
      refine CJ.weak .n (fun _ h => h) ?_
      refine c_seq ?_
      refine c_text ?_
      refine l_y (Cls.gs _ _) (y_assign rfl) rfl ?_
      refine l_nil ?_
      refine e_then ?_
      refine c_ret ?_
      refine e_ret rfl (.t rfl .n) (fun wF hw => ?_)
      exact ⟨by simp only [outOf, endsErr, *, reduceIte, Bool.false_eq_true], (hw.anc (w, []) (by simp)).below⟩

theorem between27 (b : Bd) (lo hi : Int) (w : World) : Calls Tryz.prog 27 #[.agg #[.int .i64 b.lo, .int .i64 b.hi, .bool b.u], .int .i64 lo, .int .i64 hi] w fun e w' => e = .returned (.int .i64 (between b lo hi)) ∧ Gr w w' := by
  refine enter Tryz.func27 rfl rfl rfl rfl (Cls.start w) ?_
  refine c_seq ?_
  refine c_text ?_
  refine l_n rfl (n_box rfl .a rfl) (fun b0 _ => ?_)
  refine l_y (Cls.gs _ _) (y_assign rfl) rfl ?_
  refine l_nil ?_
  refine e_then ?_
  refine CJ.weak (.c (t := 1) rfl (.c (t := 2) rfl (.c (t := 3) rfl .n))) (fun _ h => h) ?_
  refine c_seq ?_
  refine c_block ?_
  refine c_seq ?_
  refine c_text ?_
  refine l_y (Cls.gs _ _) (y_fieldAddr rfl fa49_2) rfl ?_
  refine l_y (Cls.gs _ _) (y_load rfl (LoadAt.oneL .z ty4 (.s (.s .z)))) rfl ?_
  refine l_y (Cls.gs _ _) (y_assign rfl) rfl ?_
  refine l_nil ?_
  refine e_then ?_
  refine CJ.weak (.c (t := 1) rfl (.c (t := 2) rfl (.c (t := 3) rfl (.c (t := 7) rfl .n)))) (fun _ h => h) ?_
  refine c_cond rfl (fun h0 => ?_) (fun h0 => ?_)
  ·
    refine c_seq ?_
    refine c_text ?_
    refine l_y (Cls.gs _ _) (y_assign rfl) rfl ?_
    refine l_nil ?_
    refine e_then ?_
    refine CJ.weak (.c (t := 6) rfl .n) (fun _ h => h) ?_
    refine c_ret ?_
    refine e_block_ret ?_
    refine e_then_ret ?_
    refine e_ret rfl (.t rfl .n) (fun wF hw => ?_)
    exact ⟨by simp only [outOf, between, *, reduceIte, Bool.false_eq_true], (hw.anc (w, []) (by simp)).below⟩
  ·
    refine c_seq ?_
    refine c_text ?_
    refine l_y (Cls.gs _ _) (y_fieldAddr rfl fa49_1) rfl ?_
    refine l_y (Cls.gs _ _) (y_load rfl (LoadAt.oneL .z ty24 (.s .z))) rfl ?_
    refine l_y (Cls.gs _ _) (y_move rfl) rfl ?_
    refine l_y (Cls.gs _ _) (y_lss rfl rfl) rfl ?_
    refine l_y (Cls.gs _ _) (y_move rfl) rfl ?_
    refine l_g (s := 15) (Cls.gs _ _) (by kernel_rfl) rfl (beq_f _) (fun hg => y_fieldAddr rfl fa49_0) rfl ?_
    refine l_g (s := 15) (Cls.gs _ _) (by kernel_rfl) rfl (beq_f _) (fun hg => y_load (gvt hg rfl) (LoadAt.oneL .z ty24 .z)) rfl ?_
    refine l_g (s := 15) (Cls.gs _ _) (by kernel_rfl) rfl (beq_f _) (fun hg => y_move rfl) rfl ?_
    refine l_g (s := 15) (Cls.gs _ _) (by kernel_rfl) rfl (beq_f _) (fun hg => y_gtr (gvt hg rfl) (gvt hg rfl)) rfl ?_
    refine l_y (Cls.gs _ _) (y_or rfl rfl rfl) rfl ?_
    refine l_y (Cls.gs _ _) (y_assign rfl) rfl ?_
    refine l_nil ?_
    refine e_then ?_
    refine CJ.weak (.c (t := 1) rfl (.c (t := 2) rfl (.c (t := 3) rfl (.c (t := 10) rfl .n)))) (fun _ h => h) ?_
    refine c_cond rfl (fun h1 => ?_) (fun h1 => ?_)
    ·
      refine c_seq ?_
      refine c_text ?_
      refine l_y (Cls.gs _ _) (y_assign rfl) rfl ?_
      refine l_nil ?_
      refine e_then ?_
      refine CJ.weak (.c (t := 6) rfl .n) (fun _ h => h) ?_
      refine c_ret ?_
      refine e_block_ret ?_
      refine e_then_ret ?_
      refine e_ret rfl (.t rfl .n) (fun wF hw => ?_)
      exact ⟨by simp only [outOf, between, *, reduceIte, Bool.false_eq_true], (hw.anc (w, []) (by simp)).below⟩
    ·
      refine c_seq ?_
      refine c_text ?_
      refine l_y (Cls.gs _ _) (y_fieldAddr rfl fa49_0) rfl ?_
      refine l_y (Cls.gs _ _) (y_load rfl (LoadAt.oneL .z ty24 .z)) rfl ?_
      refine l_y (Cls.gs _ _) (y_move rfl) rfl ?_
      refine l_y (Cls.gs _ _) (y_geq rfl rfl) rfl ?_
      refine l_y (Cls.gs _ _) (y_move rfl) rfl ?_
      refine l_g (s := 26) (Cls.gs _ _) (by kernel_rfl) rfl (beq_t _) (fun hg => y_fieldAddr rfl fa49_1) rfl ?_
      refine l_g (s := 26) (Cls.gs _ _) (by kernel_rfl) rfl (beq_t _) (fun hg => y_load (gvt hg rfl) (LoadAt.oneL .z ty24 (.s .z))) rfl ?_
      refine l_g (s := 26) (Cls.gs _ _) (by kernel_rfl) rfl (beq_t _) (fun hg => y_move rfl) rfl ?_
      refine l_g (s := 26) (Cls.gs _ _) (by kernel_rfl) rfl (beq_t _) (fun hg => y_leq (gvt hg rfl) (gvt hg rfl)) rfl ?_
      refine l_y (Cls.gs _ _) (y_and rfl rfl rfl) rfl ?_
      refine l_y (Cls.gs _ _) (y_assign rfl) rfl ?_
      refine l_nil ?_
      refine e_then ?_
      refine CJ.weak (.c (t := 21) rfl .n) (fun _ h => h) ?_
      refine c_cond rfl (fun h2 => ?_) (fun h2 => ?_)
      ·
        refine c_seq ?_
        refine c_text ?_
        refine l_y (Cls.gs _ _) (y_assign rfl) rfl ?_
        refine l_nil ?_
        refine e_then ?_
        refine CJ.weak (.c (t := 6) rfl .n) (fun _ h => h) ?_
        refine c_ret ?_
        refine e_block_ret ?_
        refine e_then_ret ?_
        refine e_ret rfl (.t rfl .n) (fun wF hw => ?_)
        exact ⟨by simp only [outOf, between, *, reduceIte, Bool.false_eq_true], (hw.anc (w, []) (by simp)).below⟩
      ·
        refine c_skip ?_
        refine e_block ?_
        refine e_then ?_
        refine CJ.weak .n (fun _ h => h) ?_
        refine c_seq ?_
        refine c_text ?_
        refine l_y (Cls.gs _ _) (y_assign rfl) rfl ?_
        refine l_nil ?_
        refine e_then ?_
        refine c_ret ?_
        refine e_ret rfl (.t rfl .n) (fun wF hw => ?_)
        exact ⟨by simp only [outOf, between, *, reduceIte, Bool.false_eq_true], (hw.anc (w, []) (by simp)).below⟩

theorem between43 (b : Bd) (lo hi : Int) (w : World) : Calls Tryz.prog 43 #[.agg #[.int .i64 b.lo, .int .i64 b.hi, .bool b.u], .int .i64 lo, .int .i64 hi] w fun e w' => e = .returned (.int .i64 (between b lo hi)) ∧ Gr w w' := by
  refine enter Tryz.func43 rfl rfl rfl rfl (Cls.start w) ?_
  refine c_seq ?_
  refine c_text ?_
  refine l_n rfl (n_box rfl .a rfl) (fun b0 _ => ?_)
  refine l_y (Cls.gs _ _) (y_assign rfl) rfl ?_
  refine l_nil ?_
  refine e_then ?_
  refine CJ.weak (.c (t := 1) rfl (.c (t := 2) rfl (.c (t := 3) rfl .n))) (fun _ h => h) ?_
  refine c_seq ?_
  refine c_block ?_
  refine c_seq ?_
  refine c_text ?_
  refine l_y (Cls.gs _ _) (y_fieldAddr rfl fa47_2) rfl ?_
  refine l_y (Cls.gs _ _) (y_load rfl (LoadAt.oneL .z ty4 (.s (.s .z)))) rfl ?_
  refine l_y (Cls.gs _ _) (y_assign rfl) rfl ?_
  refine l_nil ?_
  refine e_then ?_
  refine CJ.weak (.c (t := 1) rfl (.c (t := 2) rfl (.c (t := 3) rfl (.c (t := 7) rfl .n)))) (fun _ h => h) ?_
  refine c_cond rfl (fun h0 => ?_) (fun h0 => ?_)
  ·
    refine c_seq ?_
    refine c_text ?_
    refine l_y (Cls.gs _ _) (y_assign rfl) rfl ?_
    refine l_nil ?_
    refine e_then ?_
    refine CJ.weak (.c (t := 6) rfl .n) (fun _ h => h) ?_
    refine c_ret ?_
    refine e_block_ret ?_
    refine e_then_ret ?_
    refine e_ret rfl (.t rfl .n) (fun wF hw => ?_)
    exact ⟨by simp only [outOf, between, *, reduceIte, Bool.false_eq_true], (hw.anc (w, []) (by simp)).below⟩
  ·
    refine c_seq ?_
    refine c_text ?_
    refine l_y (Cls.gs _ _) (y_fieldAddr rfl fa47_1) rfl ?_
    refine l_y (Cls.gs _ _) (y_load rfl (LoadAt.oneL .z ty25 (.s .z))) rfl ?_
    refine l_y (Cls.gs _ _) (y_move rfl) rfl ?_
    refine l_y (Cls.gs _ _) (y_lss rfl rfl) rfl ?_
    refine l_y (Cls.gs _ _) (y_move rfl) rfl ?_
    refine l_g (s := 15) (Cls.gs _ _) (by kernel_rfl) rfl (beq_f _) (fun hg => y_fieldAddr rfl fa47_0) rfl ?_
    refine l_g (s := 15) (Cls.gs _ _) (by kernel_rfl) rfl (beq_f _) (fun hg => y_load (gvt hg rfl) (LoadAt.oneL .z ty25 .z)) rfl ?_
    refine l_g (s := 15) (Cls.gs _ _) (by kernel_rfl) rfl (beq_f _) (fun hg => y_move rfl) rfl ?_
    refine l_g (s := 15) (Cls.gs _ _) (by kernel_rfl) rfl (beq_f _) (fun hg => y_gtr (gvt hg rfl) (gvt hg rfl)) rfl ?_
    refine l_y (Cls.gs _ _) (y_or rfl rfl rfl) rfl ?_
    refine l_y (Cls.gs _ _) (y_assign rfl) rfl ?_
    refine l_nil ?_
    refine e_then ?_
    refine CJ.weak (.c (t := 1) rfl (.c (t := 2) rfl (.c (t := 3) rfl (.c (t := 10) rfl .n)))) (fun _ h => h) ?_
    refine c_cond rfl (fun h1 => ?_) (fun h1 => ?_)
    ·
      refine c_seq ?_
      refine c_text ?_
      refine l_y (Cls.gs _ _) (y_assign rfl) rfl ?_
      refine l_nil ?_
      refine e_then ?_
      refine CJ.weak (.c (t := 6) rfl .n) (fun _ h => h) ?_
      refine c_ret ?_
      refine e_block_ret ?_
      refine e_then_ret ?_
      refine e_ret rfl (.t rfl .n) (fun wF hw => ?_)
      exact ⟨by simp only [outOf, between, *, reduceIte, Bool.false_eq_true], (hw.anc (w, []) (by simp)).below⟩
    ·
      refine c_seq ?_
      refine c_text ?_
      refine l_y (Cls.gs _ _) (y_fieldAddr rfl fa47_0) rfl ?_
      refine l_y (Cls.gs _ _) (y_load rfl (LoadAt.oneL .z ty25 .z)) rfl ?_
      refine l_y (Cls.gs _ _) (y_move rfl) rfl ?_
      refine l_y (Cls.gs _ _) (y_geq rfl rfl) rfl ?_
      refine l_y (Cls.gs _ _) (y_move rfl) rfl ?_
      refine l_g (s := 26) (Cls.gs _ _) (by kernel_rfl) rfl (beq_t _) (fun hg => y_fieldAddr rfl fa47_1) rfl ?_
      refine l_g (s := 26) (Cls.gs _ _) (by kernel_rfl) rfl (beq_t _) (fun hg => y_load (gvt hg rfl) (LoadAt.oneL .z ty25 (.s .z))) rfl ?_
      refine l_g (s := 26) (Cls.gs _ _) (by kernel_rfl) rfl (beq_t _) (fun hg => y_move rfl) rfl ?_
      refine l_g (s := 26) (Cls.gs _ _) (by kernel_rfl) rfl (beq_t _) (fun hg => y_leq (gvt hg rfl) (gvt hg rfl)) rfl ?_
      refine l_y (Cls.gs _ _) (y_and rfl rfl rfl) rfl ?_
      refine l_y (Cls.gs _ _) (y_assign rfl) rfl ?_
      refine l_nil ?_
      refine e_then ?_
      refine CJ.weak (.c (t := 21) rfl .n) (fun _ h => h) ?_
      refine c_cond rfl (fun h2 => ?_) (fun h2 => ?_)
      ·
        refine c_seq ?_
        refine c_text ?_
        refine l_y (Cls.gs _ _) (y_assign rfl) rfl ?_
        refine l_nil ?_
        refine e_then ?_
        refine CJ.weak (.c (t := 6) rfl .n) (fun _ h => h) ?_
        refine c_ret ?_
        refine e_block_ret ?_
        refine e_then_ret ?_
        refine e_ret rfl (.t rfl .n) (fun wF hw => ?_)
        exact ⟨by simp only [outOf, between, *, reduceIte, Bool.false_eq_true], (hw.anc (w, []) (by simp)).below⟩
      ·
        refine c_skip ?_
        refine e_block ?_
        refine e_then ?_
        refine CJ.weak .n (fun _ h => h) ?_
        refine c_seq ?_
        refine c_text ?_
        refine l_y (Cls.gs _ _) (y_assign rfl) rfl ?_
        refine l_nil ?_
        refine e_then ?_
        refine c_ret ?_
        refine e_ret rfl (.t rfl .n) (fun wF hw => ?_)
        exact ⟨by simp only [outOf, between, *, reduceIte, Bool.false_eq_true], (hw.anc (w, []) (by simp)).below⟩

end Go.Proofs.YtdpdahpkdimopaaGreat
