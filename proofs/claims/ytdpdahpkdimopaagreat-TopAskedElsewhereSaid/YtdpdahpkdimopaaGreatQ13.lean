/-
  A part of the proof of TopAskedElsewhere: walks of single functions.
-/
import Derived.Test.YtdpdahpkdimopaaGreatQf
import Derived.Test.YtdpdahpkdimopaaGreatB
import Derived.Test.YtdpdahpkdimopaaGreatQ2
import Derived.Test.YtdpdahpkdimopaaGreatQ3
import Derived.KernelRfl
set_option linter.unusedVariables false
set_option linter.unusedSimpArgs false
set_option maxRecDepth 100000
namespace Go.Proofs.YtdpdahpkdimopaaGreat
open Go Go.Px Sg
open Go.Px Sg
theorem c33_0 (w : World) : Calls Tryz.prog 33 #[.agg #[.int .i64 1, .int .i64 0, .int .i64 0, .int .i64 0]] w fun e w' => e = .returned (.int .i64 0) ∧ Gr w w' := by
  refine enter Tryz.func33 rfl rfl rfl rfl (Cls.start w) ?_
  refine c_seq ?_
  refine c_text ?_
  refine l_n rfl (n_box rfl .a rfl) (fun b0 _ => ?_)
  refine l_y (Cls.gs _ _) (y_assign rfl) rfl ?_
  refine l_nil ?_
  refine e_then ?_
  refine CJ.weak (.c (t := 1) rfl .n) (fun _ h => h) ?_
  refine c_seq ?_
  refine c_block ?_
  refine c_seq ?_
  refine c_text ?_
  refine l_y (Cls.gs _ _) (y_fieldAddr rfl fa70_0) rfl ?_
  refine l_y (Cls.gs _ _) (y_load rfl (LoadAt.oneL .z ty2 .z)) rfl ?_
  refine l_y (Cls.gs _ _) (y_fieldAddr rfl fa70_1) rfl ?_
  refine l_y (Cls.gs _ _) (y_load rfl (LoadAt.oneL .z ty2 (.s .z))) rfl ?_
  refine l_y (Cls.gs _ _) (y_fieldAddr rfl fa70_2) rfl ?_
  refine l_y (Cls.gs _ _) (y_load rfl (LoadAt.oneL .z ty2 (.s (.s .z)))) rfl ?_
  refine l_y (Cls.gs _ _) (y_fieldAddr rfl fa70_3) rfl ?_
  refine l_y (Cls.gs _ _) (y_load rfl (LoadAt.oneL .z ty2 (.s (.s (.s .z))))) rfl ?_
  refine l_y (Cls.gs _ _) ((y_max4 rfl rfl rfl rfl).lit (by kernel_rfl : _ = Value.int .i64 1)) rfl ?_
  refine l_y (Cls.gs _ _) ((y_gtr rfl rfl).lit (by kernel_rfl : _ = Value.bool false)) rfl ?_
  refine l_y (Cls.gs _ _) (y_move rfl) rfl ?_
  refine l_g (s := 14) (Cls.gs _ _) (by kernel_rfl) rfl (beq_f _) (fun hg => y_fieldAddr rfl fa70_0) rfl ?_
  refine l_g (s := 14) (Cls.gs _ _) (by kernel_rfl) rfl (beq_f _) (fun hg => y_load (gvt hg rfl) (LoadAt.oneL .z ty2 .z)) rfl ?_
  refine l_g (s := 14) (Cls.gs _ _) (by kernel_rfl) rfl (beq_f _) (fun hg => y_fieldAddr rfl fa70_1) rfl ?_
  refine l_g (s := 14) (Cls.gs _ _) (by kernel_rfl) rfl (beq_f _) (fun hg => y_load (gvt hg rfl) (LoadAt.oneL .z ty2 (.s .z))) rfl ?_
  refine l_g (s := 14) (Cls.gs _ _) (by kernel_rfl) rfl (beq_f _) (fun hg => y_fieldAddr rfl fa70_2) rfl ?_
  refine l_g (s := 14) (Cls.gs _ _) (by kernel_rfl) rfl (beq_f _) (fun hg => y_load (gvt hg rfl) (LoadAt.oneL .z ty2 (.s (.s .z)))) rfl ?_
  refine l_g (s := 14) (Cls.gs _ _) (by kernel_rfl) rfl (beq_f _) (fun hg => y_fieldAddr rfl fa70_3) rfl ?_
  refine l_g (s := 14) (Cls.gs _ _) (by kernel_rfl) rfl (beq_f _) (fun hg => y_load (gvt hg rfl) (LoadAt.oneL .z ty2 (.s (.s (.s .z))))) rfl ?_
  refine l_g (s := 14) (Cls.gs _ _) (by kernel_rfl) rfl (beq_f _) (fun hg => (y_min4 (gvt hg rfl) (gvt hg rfl) (gvt hg rfl) (gvt hg rfl)).lit (by kernel_rfl : _ = Value.int .i64 0)) rfl ?_
  refine l_g (s := 14) (Cls.gs _ _) (by kernel_rfl) rfl (beq_f _) (fun hg => (y_lss (gvt hg rfl) rfl).lit (by kernel_rfl : _ = Value.bool false)) rfl ?_
  refine l_y (Cls.gs _ _) ((y_or rfl rfl rfl).lit (by kernel_rfl : _ = Value.bool false)) rfl ?_
  refine l_y (Cls.gs _ _) (y_assign rfl) rfl ?_
  refine l_nil ?_
  refine e_then ?_
  refine CJ.weak (.c (t := 1) rfl (.c (t := 3) rfl .n)) (fun _ h => h) ?_
  refine c_false (by kernel_rfl) ?_
  refine c_seq ?_
  refine c_text ?_
  refine l_y (Cls.gs _ _) (y_load rfl (LoadAt.aggL .z ty70 (.t (.t (.t (.t .d)))))) rfl ?_
  refine l_y (Cls.gs _ _) (y_build pl70 ty70 .a .n .d) rfl ?_
  refine l_y (Cls.gs _ _) ((y_eqA Tryz.underlying70 (by kernel_rfl) (by kernel_rfl) rfl rfl (.one rfl ty2 .z .z (.int Tryz.underlying2) (.one rfl ty2 (.s .z) (.s .z) (.int Tryz.underlying2) (.one rfl ty2 (.s (.s .z)) (.s (.s .z)) (.int Tryz.underlying2) (.one rfl ty2 (.s (.s (.s .z))) (.s (.s (.s .z))) (.int Tryz.underlying2) .nil))))).lit (by kernel_rfl : _ = Value.bool false)) rfl ?_
  refine l_y (Cls.gs _ _) (y_assign rfl) rfl ?_
  refine l_nil ?_
  refine e_then ?_
  refine CJ.weak (.c (t := 26) rfl .n) (fun _ h => h) ?_
  refine c_false (by kernel_rfl) ?_
  refine c_skip ?_
  refine e_block ?_
  refine e_then ?_
  refine CJ.weak .n (fun _ h => h) ?_
  refine c_seq ?_
  refine c_text ?_
  refine l_y (Cls.gs _ _) (y_assign rfl) rfl ?_
  refine l_nil ?_
  refine e_then ?_
  refine c_ret ?_
  refine e_ret rfl (.t rfl .n) (fun wF hw => ?_)
  exact ⟨rfl, (hw.anc (w, []) (by simp)).below⟩

theorem c34_0 (w : World) : Calls Tryz.prog 34 #[.int .i64 32, .int .i64 32] w fun e w' => e = .returned (.int .i64 0) ∧ Gr w w' := by
  refine enter Tryz.func34 rfl rfl rfl rfl (Cls.start w) ?_
  refine c_seq ?_
  refine c_text ?_
  refine l_y (Cls.gs _ _) (y_assign rfl) rfl ?_
  refine l_nil ?_
  refine e_then ?_
  refine CJ.weak (.c (t := 0) rfl (.c (t := 1) rfl .n)) (fun _ h => h) ?_
  refine c_seq ?_
  refine c_seq ?_
  refine c_text ?_
  refine l_y (Cls.gs _ _) (y_move rfl) rfl ?_
  refine l_y (Cls.gs _ _) ((y_lss rfl rfl).lit (by kernel_rfl : _ = Value.bool false)) rfl ?_
  refine l_y (Cls.gs _ _) (y_move rfl) rfl ?_
  refine l_g (s := 7) (Cls.gs _ _) (by kernel_rfl) rfl (beq_f _) (fun hg => y_move rfl) rfl ?_
  refine l_g (s := 7) (Cls.gs _ _) (by kernel_rfl) rfl (beq_f _) (fun hg => (y_gtr (gvt hg rfl) rfl).lit (by kernel_rfl : _ = Value.bool false)) rfl ?_
  refine l_y (Cls.gs _ _) ((y_or rfl rfl rfl).lit (by kernel_rfl : _ = Value.bool false)) rfl ?_
  refine l_y (Cls.gs _ _) (y_move rfl) rfl ?_
  refine l_g (s := 11) (Cls.gs _ _) (by kernel_rfl) rfl (beq_f _) (fun hg => y_move rfl) rfl ?_
  refine l_g (s := 11) (Cls.gs _ _) (by kernel_rfl) rfl (beq_f _) (fun hg => (y_lss (gvt hg rfl) rfl).lit (by kernel_rfl : _ = Value.bool false)) rfl ?_
  refine l_y (Cls.gs _ _) ((y_or rfl rfl rfl).lit (by kernel_rfl : _ = Value.bool false)) rfl ?_
  refine l_y (Cls.gs _ _) (y_move rfl) rfl ?_
  refine l_g (s := 15) (Cls.gs _ _) (by kernel_rfl) rfl (beq_f _) (fun hg => y_move rfl) rfl ?_
  refine l_g (s := 15) (Cls.gs _ _) (by kernel_rfl) rfl (beq_f _) (fun hg => (y_gtr (gvt hg rfl) rfl).lit (by kernel_rfl : _ = Value.bool false)) rfl ?_
  refine l_y (Cls.gs _ _) ((y_or rfl rfl rfl).lit (by kernel_rfl : _ = Value.bool false)) rfl ?_
  refine l_nil ?_
  refine e_then ?_
  refine CJ.weak (.c (t := 18) rfl .n) (fun _ h => h) ?_
  refine c_false (by kernel_rfl) ?_
  refine c_skip ?_
  refine e_then ?_
  refine CJ.weak .n (fun _ h => h) ?_
  refine c_seq ?_
  refine c_text ?_
  refine l_y (Cls.gs _ _) (y_assign rfl) rfl ?_
  refine l_nil ?_
  refine e_then ?_
  refine c_ret ?_
  refine e_ret rfl (.t rfl .n) (fun wF hw => ?_)
  exact ⟨rfl, (hw.anc (w, []) (by simp)).below⟩

theorem c35_0 (w : World) : Calls Tryz.prog 35 #[.agg #[.int .i64 1, .int .i64 (-1), .int .i64 512]] w fun e w' => e = .returned (.int .i64 0) ∧ Gr w w' := by
  refine enter Tryz.func35 rfl rfl rfl rfl (Cls.start w) ?_
  refine c_seq ?_
  refine c_text ?_
  refine l_n rfl (n_box rfl .a rfl) (fun b0 _ => ?_)
  refine l_y (Cls.gs _ _) (y_assign rfl) rfl ?_
  refine l_nil ?_
  refine e_then ?_
  refine CJ.weak (.c (t := 1) rfl .n) (fun _ h => h) ?_
  refine c_seq ?_
  refine c_block ?_
  refine c_seq ?_
  refine c_text ?_
  refine l_y (Cls.gs _ _) (y_fieldAddr rfl fa36_0) rfl ?_
  refine l_y (Cls.gs _ _) (y_load rfl (LoadAt.oneL .z ty2 .z)) rfl ?_
  refine l_y (Cls.gs _ _) (y_fieldAddr rfl fa36_1) rfl ?_
  refine l_y (Cls.gs _ _) (y_load rfl (LoadAt.oneL .z ty2 (.s .z))) rfl ?_
  refine l_y (Cls.gs _ _) (y_fieldAddr rfl fa36_2) rfl ?_
  refine l_y (Cls.gs _ _) (y_load rfl (LoadAt.oneL .z ty2 (.s (.s .z)))) rfl ?_
  refine l_y (Cls.gs _ _) ((y_max3 rfl rfl rfl).lit (by kernel_rfl : _ = Value.int .i64 512)) rfl ?_
  refine l_y (Cls.gs _ _) ((y_gtr rfl rfl).lit (by kernel_rfl : _ = Value.bool false)) rfl ?_
  refine l_y (Cls.gs _ _) (y_move rfl) rfl ?_
  refine l_g (s := 12) (Cls.gs _ _) (by kernel_rfl) rfl (beq_f _) (fun hg => y_fieldAddr rfl fa36_0) rfl ?_
  refine l_g (s := 12) (Cls.gs _ _) (by kernel_rfl) rfl (beq_f _) (fun hg => y_load (gvt hg rfl) (LoadAt.oneL .z ty2 .z)) rfl ?_
  refine l_g (s := 12) (Cls.gs _ _) (by kernel_rfl) rfl (beq_f _) (fun hg => y_fieldAddr rfl fa36_1) rfl ?_
  refine l_g (s := 12) (Cls.gs _ _) (by kernel_rfl) rfl (beq_f _) (fun hg => y_load (gvt hg rfl) (LoadAt.oneL .z ty2 (.s .z))) rfl ?_
  refine l_g (s := 12) (Cls.gs _ _) (by kernel_rfl) rfl (beq_f _) (fun hg => y_fieldAddr rfl fa36_2) rfl ?_
  refine l_g (s := 12) (Cls.gs _ _) (by kernel_rfl) rfl (beq_f _) (fun hg => y_load (gvt hg rfl) (LoadAt.oneL .z ty2 (.s (.s .z)))) rfl ?_
  refine l_g (s := 12) (Cls.gs _ _) (by kernel_rfl) rfl (beq_f _) (fun hg => (y_min3 (gvt hg rfl) (gvt hg rfl) (gvt hg rfl)).lit (by kernel_rfl : _ = Value.int .i64 (-1))) rfl ?_
  refine l_g (s := 12) (Cls.gs _ _) (by kernel_rfl) rfl (beq_f _) (fun hg => (y_lss (gvt hg rfl) rfl).lit (by kernel_rfl : _ = Value.bool false)) rfl ?_
  refine l_y (Cls.gs _ _) ((y_or rfl rfl rfl).lit (by kernel_rfl : _ = Value.bool false)) rfl ?_
  refine l_y (Cls.gs _ _) (y_assign rfl) rfl ?_
  refine l_nil ?_
  refine e_then ?_
  refine CJ.weak (.c (t := 1) rfl (.c (t := 3) rfl .n)) (fun _ h => h) ?_
  refine c_false (by kernel_rfl) ?_
  refine c_seq ?_
  refine c_text ?_
  refine l_y (Cls.gs _ _) (y_load rfl (LoadAt.aggL .z ty36 (.t (.t (.t .d))))) rfl ?_
  refine l_y (Cls.gs _ _) (y_build pl36 ty36 .a .n .d) rfl ?_
  refine l_y (Cls.gs _ _) ((y_eqA Tryz.underlying36 (by kernel_rfl) (by kernel_rfl) rfl rfl (.one rfl ty2 .z .z (.int Tryz.underlying2) (.one rfl ty2 (.s .z) (.s .z) (.int Tryz.underlying2) (.one rfl ty2 (.s (.s .z)) (.s (.s .z)) (.int Tryz.underlying2) .nil)))).lit (by kernel_rfl : _ = Value.bool false)) rfl ?_
  refine l_y (Cls.gs _ _) (y_assign rfl) rfl ?_
  refine l_nil ?_
  refine e_then ?_
  refine CJ.weak (.c (t := 22) rfl .n) (fun _ h => h) ?_
  refine c_false (by kernel_rfl) ?_
  refine c_skip ?_
  refine e_block ?_
  refine e_then ?_
  refine CJ.weak .n (fun _ h => h) ?_
  refine c_seq ?_
  refine c_text ?_
  refine l_y (Cls.gs _ _) (y_assign rfl) rfl ?_
  refine l_nil ?_
  refine e_then ?_
  refine c_ret ?_
  refine e_ret rfl (.t rfl .n) (fun wF hw => ?_)
  exact ⟨rfl, (hw.anc (w, []) (by simp)).below⟩

theorem c61_0 (w : World) : Calls Tryz.prog 61 #[.agg #[.int .i64 1, .int .i64 0, .int .i64 0, .int .i64 0]] w fun e w' => e = .returned (.tuple #[.agg #[.int .i64 1, .int .i64 0, .int .i64 0, .int .i64 0, .int .i64 1, .int .i64 0, .int .i64 0, .int .i64 0, .int .i64 1], .int .i64 1]) ∧ Gr w w' := by
  refine enter Tryz.func61 rfl rfl rfl rfl (Cls.start w) ?_
  refine c_seq ?_
  refine c_text ?_
  refine l_n rfl (n_box rfl .a rfl) (fun b0 _ => ?_)
  refine l_n rfl (n_alloc ty139 .a rfl) (fun b1 _ => ?_)
  refine l_y (Cls.gs _ _) (y_assign rfl) rfl ?_
  refine l_nil ?_
  refine e_then ?_
  refine CJ.weak (.c (t := 1) rfl (.c (t := 2) rfl .n)) (fun _ h => h) ?_
  refine c_seq ?_
  refine c_seq ?_
  refine c_text ?_
  refine l_y (Cls.gs _ _) (y_load rfl (LoadAt.aggL (.s .z) ty70 (.t (.t (.t (.t .d)))))) rfl ?_
  refine l_y (Cls.gs _ _) (y_call ent33 (.c rfl .n) (fun w hw => c33_0  w )) rfl ?_
  refine l_y (Cls.gs _ _) ((y_neq rfl rfl).lit (by kernel_rfl : _ = Value.bool false)) rfl ?_
  refine l_nil ?_
  refine e_then ?_
  refine CJ.weak (.c (t := 1) rfl (.c (t := 2) rfl (.c (t := 10) rfl .n))) (fun _ h => h) ?_
  refine c_false (by kernel_rfl) ?_
  refine c_skip ?_
  refine e_then ?_
  refine CJ.weak (.c (t := 1) rfl (.c (t := 2) rfl .n)) (fun _ h => h) ?_
  refine c_seq ?_
  refine c_draw (m := 12) (S0 := fun _ => True) (fun _ => false) (fun _ _ => trivial) hmix (Cls.gs _ _) rfl ?_
  refine a_y (i := 0) (Cls.gs _ _) (by kernel_rfl) rfl (by kernel_rfl) (by kernel_rfl) (y_fieldAddr rfl fa70_0) rfl ?_
  refine a_y (i := 1) (Cls.gs _ _) (by kernel_rfl) rfl (by kernel_rfl) (by kernel_rfl) (y_load rfl (LoadAt.oneL (.s .z) ty2 .z)) rfl ?_
  refine a_y (i := 2) (Cls.gs _ _) (by kernel_rfl) rfl (by kernel_rfl) (by kernel_rfl) (y_fieldAddr rfl fa70_1) rfl ?_
  refine a_y (i := 3) (Cls.gs _ _) (by kernel_rfl) rfl (by kernel_rfl) (by kernel_rfl) (y_load rfl (LoadAt.oneL (.s .z) ty2 (.s .z))) rfl ?_
  refine a_y (i := 4) (Cls.gs _ _) (by kernel_rfl) rfl (by kernel_rfl) (by kernel_rfl) (y_fieldAddr rfl fa70_2) rfl ?_
  refine a_y (i := 5) (Cls.gs _ _) (by kernel_rfl) rfl (by kernel_rfl) (by kernel_rfl) (y_load rfl (LoadAt.oneL (.s .z) ty2 (.s (.s .z)))) rfl ?_
  refine a_y (i := 6) (Cls.gs _ _) (by kernel_rfl) rfl (by kernel_rfl) (by kernel_rfl) (y_fieldAddr rfl fa70_3) rfl ?_
  refine a_y (i := 7) (Cls.gs _ _) (by kernel_rfl) rfl (by kernel_rfl) (by kernel_rfl) (y_load rfl (LoadAt.oneL (.s .z) ty2 (.s (.s (.s .z))))) rfl ?_
  refine a_y (i := 8) (Cls.gs _ _) (by kernel_rfl) rfl (by kernel_rfl) (by kernel_rfl) (y_assign rfl) rfl ?_
  refine a_y (i := 9) (Cls.gs _ _) (by kernel_rfl) rfl (by kernel_rfl) (by kernel_rfl) (y_assign rfl) rfl ?_
  refine a_y (i := 10) (Cls.gs _ _) (by kernel_rfl) rfl (by kernel_rfl) (by kernel_rfl) (y_assign rfl) rfl ?_
  refine a_y (i := 11) (Cls.gs _ _) (by kernel_rfl) rfl (by kernel_rfl) (by kernel_rfl) (y_assign rfl) rfl ?_
  refine a_done (by kernel_rfl) ?_
  refine e_then ?_
  refine CJ.weak (.c (t := 2) rfl (.c (t := 4) rfl (.c (t := 5) rfl (.c (t := 6) rfl (.c (t := 7) rfl .n))))) (fun _ h => h) ?_
  refine c_seq ?_
  refine c_text ?_
  refine l_y (Cls.gs _ _) (y_move rfl) rfl ?_
  refine l_y (Cls.gs _ _) (y_move rfl) rfl ?_
  refine l_y (Cls.gs _ _) ((y_mul rfl rfl).lit (by kernel_rfl : _ = Value.int .i64 1)) rfl ?_
  refine l_y (Cls.gs _ _) (y_move rfl) rfl ?_
  refine l_y (Cls.gs _ _) (y_move rfl) rfl ?_
  refine l_y (Cls.gs _ _) ((y_mul rfl rfl).lit (by kernel_rfl : _ = Value.int .i64 0)) rfl ?_
  refine l_y (Cls.gs _ _) ((y_add rfl rfl).lit (by kernel_rfl : _ = Value.int .i64 1)) rfl ?_
  refine l_y (Cls.gs _ _) (y_move rfl) rfl ?_
  refine l_y (Cls.gs _ _) (y_move rfl) rfl ?_
  refine l_y (Cls.gs _ _) ((y_mul rfl rfl).lit (by kernel_rfl : _ = Value.int .i64 0)) rfl ?_
  refine l_y (Cls.gs _ _) ((y_sub rfl rfl).lit (by kernel_rfl : _ = Value.int .i64 1)) rfl ?_
  refine l_y (Cls.gs _ _) (y_move rfl) rfl ?_
  refine l_y (Cls.gs _ _) (y_move rfl) rfl ?_
  refine l_y (Cls.gs _ _) ((y_mul rfl rfl).lit (by kernel_rfl : _ = Value.int .i64 0)) rfl ?_
  refine l_y (Cls.gs _ _) ((y_sub rfl rfl).lit (by kernel_rfl : _ = Value.int .i64 1)) rfl ?_
  refine l_y (Cls.gs _ _) (y_move rfl) rfl ?_
  refine l_y (Cls.gs _ _) (y_move rfl) rfl ?_
  refine l_y (Cls.gs _ _) ((y_mul rfl rfl).lit (by kernel_rfl : _ = Value.int .i64 0)) rfl ?_
  refine l_y (Cls.gs _ _) (y_move rfl) rfl ?_
  refine l_y (Cls.gs _ _) (y_move rfl) rfl ?_
  refine l_y (Cls.gs _ _) ((y_mul rfl rfl).lit (by kernel_rfl : _ = Value.int .i64 0)) rfl ?_
  refine l_y (Cls.gs _ _) ((y_sub rfl rfl).lit (by kernel_rfl : _ = Value.int .i64 0)) rfl ?_
  refine l_y (Cls.gs _ _) ((y_mul rfl rfl).lit (by kernel_rfl : _ = Value.int .i64 0)) rfl ?_
  refine l_y (Cls.gs _ _) (y_move rfl) rfl ?_
  refine l_y (Cls.gs _ _) (y_move rfl) rfl ?_
  refine l_y (Cls.gs _ _) ((y_mul rfl rfl).lit (by kernel_rfl : _ = Value.int .i64 0)) rfl ?_
  refine l_y (Cls.gs _ _) (y_move rfl) rfl ?_
  refine l_y (Cls.gs _ _) (y_move rfl) rfl ?_
  refine l_y (Cls.gs _ _) ((y_mul rfl rfl).lit (by kernel_rfl : _ = Value.int .i64 0)) rfl ?_
  refine l_y (Cls.gs _ _) ((y_add rfl rfl).lit (by kernel_rfl : _ = Value.int .i64 0)) rfl ?_
  refine l_y (Cls.gs _ _) ((y_mul rfl rfl).lit (by kernel_rfl : _ = Value.int .i64 0)) rfl ?_
  refine l_y (Cls.gs _ _) (y_buildArr Tryz.underlying109 ty2 ty109 .a (.c rfl (.c rfl (.c rfl .n))) (.c rfl (.o rfl) rfl rfl (.t .d) (.c rfl (.o rfl) rfl rfl (.s (.t .d)) (.c rfl (.o rfl) rfl rfl (.s (.s (.t .d))) .d)))) rfl ?_
  refine l_y (Cls.gs _ _) (y_move rfl) rfl ?_
  refine l_y (Cls.gs _ _) (y_move rfl) rfl ?_
  refine l_y (Cls.gs _ _) ((y_mul rfl rfl).lit (by kernel_rfl : _ = Value.int .i64 0)) rfl ?_
  refine l_y (Cls.gs _ _) (y_move rfl) rfl ?_
  refine l_y (Cls.gs _ _) (y_move rfl) rfl ?_
  refine l_y (Cls.gs _ _) ((y_mul rfl rfl).lit (by kernel_rfl : _ = Value.int .i64 0)) rfl ?_
  refine l_y (Cls.gs _ _) ((y_add rfl rfl).lit (by kernel_rfl : _ = Value.int .i64 0)) rfl ?_
  refine l_y (Cls.gs _ _) ((y_mul rfl rfl).lit (by kernel_rfl : _ = Value.int .i64 0)) rfl ?_
  refine l_y (Cls.gs _ _) (y_move rfl) rfl ?_
  refine l_y (Cls.gs _ _) (y_move rfl) rfl ?_
  refine l_y (Cls.gs _ _) ((y_mul rfl rfl).lit (by kernel_rfl : _ = Value.int .i64 1)) rfl ?_
  refine l_y (Cls.gs _ _) (y_move rfl) rfl ?_
  refine l_y (Cls.gs _ _) (y_move rfl) rfl ?_
  refine l_y (Cls.gs _ _) ((y_mul rfl rfl).lit (by kernel_rfl : _ = Value.int .i64 0)) rfl ?_
  refine l_y (Cls.gs _ _) ((y_sub rfl rfl).lit (by kernel_rfl : _ = Value.int .i64 1)) rfl ?_
  refine l_y (Cls.gs _ _) (y_move rfl) rfl ?_
  refine l_y (Cls.gs _ _) (y_move rfl) rfl ?_
  refine l_y (Cls.gs _ _) ((y_mul rfl rfl).lit (by kernel_rfl : _ = Value.int .i64 0)) rfl ?_
  refine l_y (Cls.gs _ _) ((y_add rfl rfl).lit (by kernel_rfl : _ = Value.int .i64 1)) rfl ?_
  refine l_y (Cls.gs _ _) (y_move rfl) rfl ?_
  refine l_y (Cls.gs _ _) (y_move rfl) rfl ?_
  refine l_y (Cls.gs _ _) ((y_mul rfl rfl).lit (by kernel_rfl : _ = Value.int .i64 0)) rfl ?_
  refine l_y (Cls.gs _ _) ((y_sub rfl rfl).lit (by kernel_rfl : _ = Value.int .i64 1)) rfl ?_
  refine l_y (Cls.gs _ _) (y_move rfl) rfl ?_
  refine l_y (Cls.gs _ _) (y_move rfl) rfl ?_
  refine l_y (Cls.gs _ _) ((y_mul rfl rfl).lit (by kernel_rfl : _ = Value.int .i64 0)) rfl ?_
  refine l_y (Cls.gs _ _) (y_move rfl) rfl ?_
  refine l_y (Cls.gs _ _) (y_move rfl) rfl ?_
  refine l_y (Cls.gs _ _) ((y_mul rfl rfl).lit (by kernel_rfl : _ = Value.int .i64 0)) rfl ?_
  refine l_y (Cls.gs _ _) ((y_sub rfl rfl).lit (by kernel_rfl : _ = Value.int .i64 0)) rfl ?_
  refine l_y (Cls.gs _ _) ((y_mul rfl rfl).lit (by kernel_rfl : _ = Value.int .i64 0)) rfl ?_
  refine l_y (Cls.gs _ _) (y_buildArr Tryz.underlying109 ty2 ty109 .a (.c rfl (.c rfl (.c rfl .n))) (.c rfl (.o rfl) rfl rfl (.t .d) (.c rfl (.o rfl) rfl rfl (.s (.t .d)) (.c rfl (.o rfl) rfl rfl (.s (.s (.t .d))) .d)))) rfl ?_
  refine l_y (Cls.gs _ _) (y_move rfl) rfl ?_
  refine l_y (Cls.gs _ _) (y_move rfl) rfl ?_
  refine l_y (Cls.gs _ _) ((y_mul rfl rfl).lit (by kernel_rfl : _ = Value.int .i64 0)) rfl ?_
  refine l_y (Cls.gs _ _) (y_move rfl) rfl ?_
  refine l_y (Cls.gs _ _) (y_move rfl) rfl ?_
  refine l_y (Cls.gs _ _) ((y_mul rfl rfl).lit (by kernel_rfl : _ = Value.int .i64 0)) rfl ?_
  refine l_y (Cls.gs _ _) ((y_sub rfl rfl).lit (by kernel_rfl : _ = Value.int .i64 0)) rfl ?_
  refine l_y (Cls.gs _ _) ((y_mul rfl rfl).lit (by kernel_rfl : _ = Value.int .i64 0)) rfl ?_
  refine l_y (Cls.gs _ _) (y_move rfl) rfl ?_
  refine l_y (Cls.gs _ _) (y_move rfl) rfl ?_
  refine l_y (Cls.gs _ _) ((y_mul rfl rfl).lit (by kernel_rfl : _ = Value.int .i64 0)) rfl ?_
  refine l_y (Cls.gs _ _) (y_move rfl) rfl ?_
  refine l_y (Cls.gs _ _) (y_move rfl) rfl ?_
  refine l_y (Cls.gs _ _) ((y_mul rfl rfl).lit (by kernel_rfl : _ = Value.int .i64 0)) rfl ?_
  refine l_y (Cls.gs _ _) ((y_add rfl rfl).lit (by kernel_rfl : _ = Value.int .i64 0)) rfl ?_
  refine l_y (Cls.gs _ _) ((y_mul rfl rfl).lit (by kernel_rfl : _ = Value.int .i64 0)) rfl ?_
  refine l_y (Cls.gs _ _) (y_move rfl) rfl ?_
  refine l_y (Cls.gs _ _) (y_move rfl) rfl ?_
  refine l_y (Cls.gs _ _) ((y_mul rfl rfl).lit (by kernel_rfl : _ = Value.int .i64 1)) rfl ?_
  refine l_y (Cls.gs _ _) (y_move rfl) rfl ?_
  refine l_y (Cls.gs _ _) (y_move rfl) rfl ?_
  refine l_y (Cls.gs _ _) ((y_mul rfl rfl).lit (by kernel_rfl : _ = Value.int .i64 0)) rfl ?_
  refine l_y (Cls.gs _ _) ((y_sub rfl rfl).lit (by kernel_rfl : _ = Value.int .i64 1)) rfl ?_
  refine l_y (Cls.gs _ _) (y_move rfl) rfl ?_
  refine l_y (Cls.gs _ _) (y_move rfl) rfl ?_
  refine l_y (Cls.gs _ _) ((y_mul rfl rfl).lit (by kernel_rfl : _ = Value.int .i64 0)) rfl ?_
  refine l_y (Cls.gs _ _) ((y_sub rfl rfl).lit (by kernel_rfl : _ = Value.int .i64 1)) rfl ?_
  refine l_y (Cls.gs _ _) (y_move rfl) rfl ?_
  refine l_y (Cls.gs _ _) (y_move rfl) rfl ?_
  refine l_y (Cls.gs _ _) ((y_mul rfl rfl).lit (by kernel_rfl : _ = Value.int .i64 0)) rfl ?_
  refine l_y (Cls.gs _ _) ((y_add rfl rfl).lit (by kernel_rfl : _ = Value.int .i64 1)) rfl ?_
  refine l_y (Cls.gs _ _) (y_buildArr Tryz.underlying109 ty2 ty109 .a (.c rfl (.c rfl (.c rfl .n))) (.c rfl (.o rfl) rfl rfl (.t .d) (.c rfl (.o rfl) rfl rfl (.s (.t .d)) (.c rfl (.o rfl) rfl rfl (.s (.s (.t .d))) .d)))) rfl ?_
  refine l_y (Cls.gs _ _) (y_buildArr Tryz.underlying139 ty109 ty139 .a (.c rfl (.c rfl (.c rfl .n))) (.c rfl .a rfl rfl (.t (.t (.t .d))) (.c rfl .a rfl rfl (.s (.s (.s (.t (.t (.t .d)))))) (.c rfl .a rfl rfl (.s (.s (.s (.s (.s (.s (.t (.t (.t .d))))))))) .d)))) rfl ?_
  refine l_y (Cls.gs _ _) (y_move rfl) rfl ?_
  refine l_y (Cls.gs _ _) (y_move rfl) rfl ?_
  refine l_y (Cls.gs _ _) ((y_mul rfl rfl).lit (by kernel_rfl : _ = Value.int .i64 1)) rfl ?_
  refine l_y (Cls.gs _ _) (y_move rfl) rfl ?_
  refine l_y (Cls.gs _ _) (y_move rfl) rfl ?_
  refine l_y (Cls.gs _ _) ((y_mul rfl rfl).lit (by kernel_rfl : _ = Value.int .i64 0)) rfl ?_
  refine l_y (Cls.gs _ _) ((y_add rfl rfl).lit (by kernel_rfl : _ = Value.int .i64 1)) rfl ?_
  refine l_y (Cls.gs _ _) (y_move rfl) rfl ?_
  refine l_y (Cls.gs _ _) (y_move rfl) rfl ?_
  refine l_y (Cls.gs _ _) ((y_mul rfl rfl).lit (by kernel_rfl : _ = Value.int .i64 0)) rfl ?_
  refine l_y (Cls.gs _ _) ((y_add rfl rfl).lit (by kernel_rfl : _ = Value.int .i64 1)) rfl ?_
  refine l_y (Cls.gs _ _) (y_move rfl) rfl ?_
  refine l_y (Cls.gs _ _) (y_move rfl) rfl ?_
  refine l_y (Cls.gs _ _) ((y_mul rfl rfl).lit (by kernel_rfl : _ = Value.int .i64 0)) rfl ?_
  refine l_y (Cls.gs _ _) ((y_add rfl rfl).lit (by kernel_rfl : _ = Value.int .i64 1)) rfl ?_
  refine l_n rfl (n_store rfl rfl ty139 .a rfl rfl .z (.t (.t (.t (.t (.t (.t (.t (.t (.t .d)))))))))) (fun _ _ => ?_)
  refine l_y (Cls.gs _ _) (y_assign rfl) rfl ?_
  refine l_nil ?_
  refine e_then ?_
  refine CJ.weak (.c (t := 2) rfl (.c (t := 3) rfl .n)) (fun _ h => h) ?_
  refine c_ret ?_
  refine e_ret rfl (.c rfl (LoadAt.aggL .z ty139 (.t (.t (.t (.t (.t (.t (.t (.t (.t .d)))))))))) (.t rfl .n)) (fun wF hw => ?_)
  exact ⟨rfl, (hw.anc (w, []) (by simp)).below⟩

theorem c62_0 (p0 : Nat) (p1 : Nat) (w : World) (hp0 : w.heap[p0]? = some (blk [.int .i64 1, .int .i64 0, .int .i64 0, .int .i64 0, .int .i64 1, .int .i64 0, .int .i64 0, .int .i64 0, .int .i64 1] 139)) (hp1 : w.heap[p1]? = some (blk [.int .i64 1, .int .i64 (-1), .int .i64 512] 36)) : Calls Tryz.prog 62 #[.int .i64 0, .pointer (some ⟨p0, 0, none⟩), .pointer (some ⟨p1, 0, none⟩)] w fun e w' => e = .returned (.int .i64 1) ∧ Gr w w' := by
  refine enter Tryz.func62 rfl rfl rfl rfl (Cls.start w) ?_
  refine c_seq ?_
  refine c_text ?_
  refine l_y (Cls.gs _ _) (y_assign rfl) rfl ?_
  refine l_nil ?_
  refine e_then ?_
  refine CJ.weak (.c (t := 0) rfl (.c (t := 1) rfl (.c (t := 2) rfl .n))) (fun _ h => h) ?_
  refine c_seq ?_
  refine c_draw (m := 24) (S0 := fun _ => True) (fun _ => false) (fun _ _ => trivial) hmix (Cls.gs _ _) rfl ?_
  refine a_y (i := 0) (Cls.gs _ _) (by kernel_rfl) rfl (by kernel_rfl) (by kernel_rfl) (y_move rfl) rfl ?_
  refine a_y (i := 1) (Cls.gs _ _) (by kernel_rfl) rfl (by kernel_rfl) (by kernel_rfl) (y_indexArr Tryz.underlying139 ty109 rfl rfl (by decide) (by decide)) rfl ?_
  refine a_y (i := 2) (Cls.gs _ _) (by kernel_rfl) rfl (by kernel_rfl) (by kernel_rfl) (y_indexArr Tryz.underlying109 ty2 rfl rfl (by decide) (by decide)) rfl ?_
  refine a_y (i := 3) (Cls.gs _ _) (by kernel_rfl) rfl (by kernel_rfl) (by kernel_rfl) (y_load rfl (LoadAt.oneB .z hp0 ty2 .z)) rfl ?_
  refine a_y (i := 4) (Cls.gs _ _) (by kernel_rfl) rfl (by kernel_rfl) (by kernel_rfl) (y_fieldAddr rfl fa36_0) rfl ?_
  refine a_y (i := 5) (Cls.gs _ _) (by kernel_rfl) rfl (by kernel_rfl) (by kernel_rfl) (y_load rfl (LoadAt.oneB .z hp1 ty2 .z)) rfl ?_
  refine a_y (i := 6) (Cls.gs _ _) (by kernel_rfl) rfl (by kernel_rfl) (by kernel_rfl) ((y_mul rfl rfl).lit (by kernel_rfl : _ = Value.int .i64 1)) rfl ?_
  refine a_y (i := 7) (Cls.gs _ _) (by kernel_rfl) rfl (by kernel_rfl) (by kernel_rfl) (y_move rfl) rfl ?_
  refine a_y (i := 8) (Cls.gs _ _) (by kernel_rfl) rfl (by kernel_rfl) (by kernel_rfl) (y_indexArr Tryz.underlying139 ty109 rfl rfl (by decide) (by decide)) rfl ?_
  refine a_y (i := 9) (Cls.gs _ _) (by kernel_rfl) rfl (by kernel_rfl) (by kernel_rfl) (y_indexArr Tryz.underlying109 ty2 rfl rfl (by decide) (by decide)) rfl ?_
  refine a_y (i := 10) (Cls.gs _ _) (by kernel_rfl) rfl (by kernel_rfl) (by kernel_rfl) (y_load rfl (LoadAt.oneB .z hp0 ty2 (.s .z))) rfl ?_
  refine a_y (i := 11) (Cls.gs _ _) (by kernel_rfl) rfl (by kernel_rfl) (by kernel_rfl) (y_fieldAddr rfl fa36_1) rfl ?_
  refine a_y (i := 12) (Cls.gs _ _) (by kernel_rfl) rfl (by kernel_rfl) (by kernel_rfl) (y_load rfl (LoadAt.oneB .z hp1 ty2 (.s .z))) rfl ?_
  refine a_y (i := 13) (Cls.gs _ _) (by kernel_rfl) rfl (by kernel_rfl) (by kernel_rfl) ((y_mul rfl rfl).lit (by kernel_rfl : _ = Value.int .i64 0)) rfl ?_
  refine a_y (i := 14) (Cls.gs _ _) (by kernel_rfl) rfl (by kernel_rfl) (by kernel_rfl) ((y_add rfl rfl).lit (by kernel_rfl : _ = Value.int .i64 1)) rfl ?_
  refine a_y (i := 15) (Cls.gs _ _) (by kernel_rfl) rfl (by kernel_rfl) (by kernel_rfl) (y_move rfl) rfl ?_
  refine a_y (i := 16) (Cls.gs _ _) (by kernel_rfl) rfl (by kernel_rfl) (by kernel_rfl) (y_indexArr Tryz.underlying139 ty109 rfl rfl (by decide) (by decide)) rfl ?_
  refine a_y (i := 17) (Cls.gs _ _) (by kernel_rfl) rfl (by kernel_rfl) (by kernel_rfl) (y_indexArr Tryz.underlying109 ty2 rfl rfl (by decide) (by decide)) rfl ?_
  refine a_y (i := 18) (Cls.gs _ _) (by kernel_rfl) rfl (by kernel_rfl) (by kernel_rfl) (y_load rfl (LoadAt.oneB .z hp0 ty2 (.s (.s .z)))) rfl ?_
  refine a_y (i := 19) (Cls.gs _ _) (by kernel_rfl) rfl (by kernel_rfl) (by kernel_rfl) (y_fieldAddr rfl fa36_2) rfl ?_
  refine a_y (i := 20) (Cls.gs _ _) (by kernel_rfl) rfl (by kernel_rfl) (by kernel_rfl) (y_load rfl (LoadAt.oneB .z hp1 ty2 (.s (.s .z)))) rfl ?_
  refine a_y (i := 21) (Cls.gs _ _) (by kernel_rfl) rfl (by kernel_rfl) (by kernel_rfl) ((y_mul rfl rfl).lit (by kernel_rfl : _ = Value.int .i64 0)) rfl ?_
  refine a_y (i := 22) (Cls.gs _ _) (by kernel_rfl) rfl (by kernel_rfl) (by kernel_rfl) ((y_add rfl rfl).lit (by kernel_rfl : _ = Value.int .i64 1)) rfl ?_
  refine a_y (i := 23) (Cls.gs _ _) (by kernel_rfl) rfl (by kernel_rfl) (by kernel_rfl) (y_assign rfl) rfl ?_
  refine a_done (by kernel_rfl) ?_
  refine e_then ?_
  refine CJ.weak (.c (t := 4) rfl .n) (fun _ h => h) ?_
  refine c_ret ?_
  refine e_ret rfl (.t rfl .n) (fun wF hw => ?_)
  exact ⟨rfl, (hw.anc (w, []) (by simp)).below⟩

theorem c62_1 (p0 : Nat) (p1 : Nat) (w : World) (hp0 : w.heap[p0]? = some (blk [.int .i64 1, .int .i64 0, .int .i64 0, .int .i64 0, .int .i64 1, .int .i64 0, .int .i64 0, .int .i64 0, .int .i64 1] 139)) (hp1 : w.heap[p1]? = some (blk [.int .i64 1, .int .i64 (-1), .int .i64 512] 36)) : Calls Tryz.prog 62 #[.int .i64 1, .pointer (some ⟨p0, 0, none⟩), .pointer (some ⟨p1, 0, none⟩)] w fun e w' => e = .returned (.int .i64 (-1)) ∧ Gr w w' := by
  refine enter Tryz.func62 rfl rfl rfl rfl (Cls.start w) ?_
  refine c_seq ?_
  refine c_text ?_
  refine l_y (Cls.gs _ _) (y_assign rfl) rfl ?_
  refine l_nil ?_
  refine e_then ?_
  refine CJ.weak (.c (t := 0) rfl (.c (t := 1) rfl (.c (t := 2) rfl .n))) (fun _ h => h) ?_
  refine c_seq ?_
  refine c_draw (m := 24) (S0 := fun _ => True) (fun _ => false) (fun _ _ => trivial) hmix (Cls.gs _ _) rfl ?_
  refine a_y (i := 0) (Cls.gs _ _) (by kernel_rfl) rfl (by kernel_rfl) (by kernel_rfl) (y_move rfl) rfl ?_
  refine a_y (i := 1) (Cls.gs _ _) (by kernel_rfl) rfl (by kernel_rfl) (by kernel_rfl) (y_indexArr Tryz.underlying139 ty109 rfl rfl (by decide) (by decide)) rfl ?_
  refine a_y (i := 2) (Cls.gs _ _) (by kernel_rfl) rfl (by kernel_rfl) (by kernel_rfl) (y_indexArr Tryz.underlying109 ty2 rfl rfl (by decide) (by decide)) rfl ?_
  refine a_y (i := 3) (Cls.gs _ _) (by kernel_rfl) rfl (by kernel_rfl) (by kernel_rfl) (y_load rfl (LoadAt.oneB .z hp0 ty2 (.s (.s (.s .z))))) rfl ?_
  refine a_y (i := 4) (Cls.gs _ _) (by kernel_rfl) rfl (by kernel_rfl) (by kernel_rfl) (y_fieldAddr rfl fa36_0) rfl ?_
  refine a_y (i := 5) (Cls.gs _ _) (by kernel_rfl) rfl (by kernel_rfl) (by kernel_rfl) (y_load rfl (LoadAt.oneB .z hp1 ty2 .z)) rfl ?_
  refine a_y (i := 6) (Cls.gs _ _) (by kernel_rfl) rfl (by kernel_rfl) (by kernel_rfl) ((y_mul rfl rfl).lit (by kernel_rfl : _ = Value.int .i64 0)) rfl ?_
  refine a_y (i := 7) (Cls.gs _ _) (by kernel_rfl) rfl (by kernel_rfl) (by kernel_rfl) (y_move rfl) rfl ?_
  refine a_y (i := 8) (Cls.gs _ _) (by kernel_rfl) rfl (by kernel_rfl) (by kernel_rfl) (y_indexArr Tryz.underlying139 ty109 rfl rfl (by decide) (by decide)) rfl ?_
  refine a_y (i := 9) (Cls.gs _ _) (by kernel_rfl) rfl (by kernel_rfl) (by kernel_rfl) (y_indexArr Tryz.underlying109 ty2 rfl rfl (by decide) (by decide)) rfl ?_
  refine a_y (i := 10) (Cls.gs _ _) (by kernel_rfl) rfl (by kernel_rfl) (by kernel_rfl) (y_load rfl (LoadAt.oneB .z hp0 ty2 (.s (.s (.s (.s .z)))))) rfl ?_
  refine a_y (i := 11) (Cls.gs _ _) (by kernel_rfl) rfl (by kernel_rfl) (by kernel_rfl) (y_fieldAddr rfl fa36_1) rfl ?_
  refine a_y (i := 12) (Cls.gs _ _) (by kernel_rfl) rfl (by kernel_rfl) (by kernel_rfl) (y_load rfl (LoadAt.oneB .z hp1 ty2 (.s .z))) rfl ?_
  refine a_y (i := 13) (Cls.gs _ _) (by kernel_rfl) rfl (by kernel_rfl) (by kernel_rfl) ((y_mul rfl rfl).lit (by kernel_rfl : _ = Value.int .i64 (-1))) rfl ?_
  refine a_y (i := 14) (Cls.gs _ _) (by kernel_rfl) rfl (by kernel_rfl) (by kernel_rfl) ((y_add rfl rfl).lit (by kernel_rfl : _ = Value.int .i64 (-1))) rfl ?_
  refine a_y (i := 15) (Cls.gs _ _) (by kernel_rfl) rfl (by kernel_rfl) (by kernel_rfl) (y_move rfl) rfl ?_
  refine a_y (i := 16) (Cls.gs _ _) (by kernel_rfl) rfl (by kernel_rfl) (by kernel_rfl) (y_indexArr Tryz.underlying139 ty109 rfl rfl (by decide) (by decide)) rfl ?_
  refine a_y (i := 17) (Cls.gs _ _) (by kernel_rfl) rfl (by kernel_rfl) (by kernel_rfl) (y_indexArr Tryz.underlying109 ty2 rfl rfl (by decide) (by decide)) rfl ?_
  refine a_y (i := 18) (Cls.gs _ _) (by kernel_rfl) rfl (by kernel_rfl) (by kernel_rfl) (y_load rfl (LoadAt.oneB .z hp0 ty2 (.s (.s (.s (.s (.s .z))))))) rfl ?_
  refine a_y (i := 19) (Cls.gs _ _) (by kernel_rfl) rfl (by kernel_rfl) (by kernel_rfl) (y_fieldAddr rfl fa36_2) rfl ?_
  refine a_y (i := 20) (Cls.gs _ _) (by kernel_rfl) rfl (by kernel_rfl) (by kernel_rfl) (y_load rfl (LoadAt.oneB .z hp1 ty2 (.s (.s .z)))) rfl ?_
  refine a_y (i := 21) (Cls.gs _ _) (by kernel_rfl) rfl (by kernel_rfl) (by kernel_rfl) ((y_mul rfl rfl).lit (by kernel_rfl : _ = Value.int .i64 0)) rfl ?_
  refine a_y (i := 22) (Cls.gs _ _) (by kernel_rfl) rfl (by kernel_rfl) (by kernel_rfl) ((y_add rfl rfl).lit (by kernel_rfl : _ = Value.int .i64 (-1))) rfl ?_
  refine a_y (i := 23) (Cls.gs _ _) (by kernel_rfl) rfl (by kernel_rfl) (by kernel_rfl) (y_assign rfl) rfl ?_
  refine a_done (by kernel_rfl) ?_
  refine e_then ?_
  refine CJ.weak (.c (t := 4) rfl .n) (fun _ h => h) ?_
  refine c_ret ?_
  refine e_ret rfl (.t rfl .n) (fun wF hw => ?_)
  exact ⟨rfl, (hw.anc (w, []) (by simp)).below⟩

theorem c62_2 (p0 : Nat) (p1 : Nat) (w : World) (hp0 : w.heap[p0]? = some (blk [.int .i64 1, .int .i64 0, .int .i64 0, .int .i64 0, .int .i64 1, .int .i64 0, .int .i64 0, .int .i64 0, .int .i64 1] 139)) (hp1 : w.heap[p1]? = some (blk [.int .i64 1, .int .i64 (-1), .int .i64 512] 36)) : Calls Tryz.prog 62 #[.int .i64 2, .pointer (some ⟨p0, 0, none⟩), .pointer (some ⟨p1, 0, none⟩)] w fun e w' => e = .returned (.int .i64 512) ∧ Gr w w' := by
  refine enter Tryz.func62 rfl rfl rfl rfl (Cls.start w) ?_
  refine c_seq ?_
  refine c_text ?_
  refine l_y (Cls.gs _ _) (y_assign rfl) rfl ?_
  refine l_nil ?_
  refine e_then ?_
  refine CJ.weak (.c (t := 0) rfl (.c (t := 1) rfl (.c (t := 2) rfl .n))) (fun _ h => h) ?_
  refine c_seq ?_
  refine c_draw (m := 24) (S0 := fun _ => True) (fun _ => false) (fun _ _ => trivial) hmix (Cls.gs _ _) rfl ?_
  refine a_y (i := 0) (Cls.gs _ _) (by kernel_rfl) rfl (by kernel_rfl) (by kernel_rfl) (y_move rfl) rfl ?_
  refine a_y (i := 1) (Cls.gs _ _) (by kernel_rfl) rfl (by kernel_rfl) (by kernel_rfl) (y_indexArr Tryz.underlying139 ty109 rfl rfl (by decide) (by decide)) rfl ?_
  refine a_y (i := 2) (Cls.gs _ _) (by kernel_rfl) rfl (by kernel_rfl) (by kernel_rfl) (y_indexArr Tryz.underlying109 ty2 rfl rfl (by decide) (by decide)) rfl ?_
  refine a_y (i := 3) (Cls.gs _ _) (by kernel_rfl) rfl (by kernel_rfl) (by kernel_rfl) (y_load rfl (LoadAt.oneB .z hp0 ty2 (.s (.s (.s (.s (.s (.s .z)))))))) rfl ?_
  refine a_y (i := 4) (Cls.gs _ _) (by kernel_rfl) rfl (by kernel_rfl) (by kernel_rfl) (y_fieldAddr rfl fa36_0) rfl ?_
  refine a_y (i := 5) (Cls.gs _ _) (by kernel_rfl) rfl (by kernel_rfl) (by kernel_rfl) (y_load rfl (LoadAt.oneB .z hp1 ty2 .z)) rfl ?_
  refine a_y (i := 6) (Cls.gs _ _) (by kernel_rfl) rfl (by kernel_rfl) (by kernel_rfl) ((y_mul rfl rfl).lit (by kernel_rfl : _ = Value.int .i64 0)) rfl ?_
  refine a_y (i := 7) (Cls.gs _ _) (by kernel_rfl) rfl (by kernel_rfl) (by kernel_rfl) (y_move rfl) rfl ?_
  refine a_y (i := 8) (Cls.gs _ _) (by kernel_rfl) rfl (by kernel_rfl) (by kernel_rfl) (y_indexArr Tryz.underlying139 ty109 rfl rfl (by decide) (by decide)) rfl ?_
  refine a_y (i := 9) (Cls.gs _ _) (by kernel_rfl) rfl (by kernel_rfl) (by kernel_rfl) (y_indexArr Tryz.underlying109 ty2 rfl rfl (by decide) (by decide)) rfl ?_
  refine a_y (i := 10) (Cls.gs _ _) (by kernel_rfl) rfl (by kernel_rfl) (by kernel_rfl) (y_load rfl (LoadAt.oneB .z hp0 ty2 (.s (.s (.s (.s (.s (.s (.s .z))))))))) rfl ?_
  refine a_y (i := 11) (Cls.gs _ _) (by kernel_rfl) rfl (by kernel_rfl) (by kernel_rfl) (y_fieldAddr rfl fa36_1) rfl ?_
  refine a_y (i := 12) (Cls.gs _ _) (by kernel_rfl) rfl (by kernel_rfl) (by kernel_rfl) (y_load rfl (LoadAt.oneB .z hp1 ty2 (.s .z))) rfl ?_
  refine a_y (i := 13) (Cls.gs _ _) (by kernel_rfl) rfl (by kernel_rfl) (by kernel_rfl) ((y_mul rfl rfl).lit (by kernel_rfl : _ = Value.int .i64 0)) rfl ?_
  refine a_y (i := 14) (Cls.gs _ _) (by kernel_rfl) rfl (by kernel_rfl) (by kernel_rfl) ((y_add rfl rfl).lit (by kernel_rfl : _ = Value.int .i64 0)) rfl ?_
  refine a_y (i := 15) (Cls.gs _ _) (by kernel_rfl) rfl (by kernel_rfl) (by kernel_rfl) (y_move rfl) rfl ?_
  refine a_y (i := 16) (Cls.gs _ _) (by kernel_rfl) rfl (by kernel_rfl) (by kernel_rfl) (y_indexArr Tryz.underlying139 ty109 rfl rfl (by decide) (by decide)) rfl ?_
  refine a_y (i := 17) (Cls.gs _ _) (by kernel_rfl) rfl (by kernel_rfl) (by kernel_rfl) (y_indexArr Tryz.underlying109 ty2 rfl rfl (by decide) (by decide)) rfl ?_
  refine a_y (i := 18) (Cls.gs _ _) (by kernel_rfl) rfl (by kernel_rfl) (by kernel_rfl) (y_load rfl (LoadAt.oneB .z hp0 ty2 (.s (.s (.s (.s (.s (.s (.s (.s .z)))))))))) rfl ?_
  refine a_y (i := 19) (Cls.gs _ _) (by kernel_rfl) rfl (by kernel_rfl) (by kernel_rfl) (y_fieldAddr rfl fa36_2) rfl ?_
  refine a_y (i := 20) (Cls.gs _ _) (by kernel_rfl) rfl (by kernel_rfl) (by kernel_rfl) (y_load rfl (LoadAt.oneB .z hp1 ty2 (.s (.s .z)))) rfl ?_
  refine a_y (i := 21) (Cls.gs _ _) (by kernel_rfl) rfl (by kernel_rfl) (by kernel_rfl) ((y_mul rfl rfl).lit (by kernel_rfl : _ = Value.int .i64 512)) rfl ?_
  refine a_y (i := 22) (Cls.gs _ _) (by kernel_rfl) rfl (by kernel_rfl) (by kernel_rfl) ((y_add rfl rfl).lit (by kernel_rfl : _ = Value.int .i64 512)) rfl ?_
  refine a_y (i := 23) (Cls.gs _ _) (by kernel_rfl) rfl (by kernel_rfl) (by kernel_rfl) (y_assign rfl) rfl ?_
  refine a_done (by kernel_rfl) ?_
  refine e_then ?_
  refine CJ.weak (.c (t := 4) rfl .n) (fun _ h => h) ?_
  refine c_ret ?_
  refine e_ret rfl (.t rfl .n) (fun wF hw => ?_)
  exact ⟨rfl, (hw.anc (w, []) (by simp)).below⟩

theorem c36_0 (w : World) : Calls Tryz.prog 36 #[.agg #[.int .i64 1, .int .i64 0, .int .i64 0, .int .i64 0], .agg #[.int .i64 1, .int .i64 (-1), .int .i64 512]] w fun e w' => e = .returned (.agg #[.int .i64 1, .int .i64 (-1), .int .i64 512]) ∧ Gr w w' := by
  refine enter Tryz.func36 rfl rfl rfl rfl (Cls.start w) ?_
  refine c_seq ?_
  refine c_text ?_
  refine l_n rfl (n_box rfl .a rfl) (fun b0 _ => ?_)
  refine l_n rfl (n_box rfl .a rfl) (fun b1 _ => ?_)
  refine l_n rfl (n_alloc ty36 .a rfl) (fun b2 _ => ?_)
  refine l_nil ?_
  refine e_then ?_
  refine CJ.weak (.c (t := 2) rfl (.c (t := 3) rfl (.c (t := 4) rfl .n))) (fun _ h => h) ?_
  refine c_seq ?_
  refine c_seq ?_
  refine c_text ?_
  refine l_y (Cls.gs _ _) (y_load rfl (LoadAt.aggL (.s .z) ty36 (.t (.t (.t .d))))) rfl ?_
  refine l_y (Cls.gs _ _) (y_call ent35 (.c rfl .n) (fun w hw => c35_0  w )) rfl ?_
  refine l_y (Cls.gs _ _) ((y_neq rfl rfl).lit (by kernel_rfl : _ = Value.bool false)) rfl ?_
  refine l_nil ?_
  refine e_then ?_
  refine CJ.weak (.c (t := 2) rfl (.c (t := 3) rfl (.c (t := 4) rfl (.c (t := 10) rfl .n)))) (fun _ h => h) ?_
  refine c_false (by kernel_rfl) ?_
  refine c_skip ?_
  refine e_then ?_
  refine CJ.weak (.c (t := 2) rfl (.c (t := 3) rfl (.c (t := 4) rfl .n))) (fun _ h => h) ?_
  refine c_seq ?_
  refine c_text ?_
  refine l_y (Cls.gs _ _) (y_load rfl (LoadAt.aggL (.s (.s .z)) ty70 (.t (.t (.t (.t .d)))))) rfl ?_
  refine l_y (Cls.gs _ _) (y_call ent61 (.c rfl .n) (fun w hw => c61_0  w )) rfl ?_
  refine l_y (Cls.gs _ _) (y_move rfl) rfl ?_
  refine l_y (Cls.gs _ _) (y_extract rfl .z) rfl ?_
  refine l_y (Cls.gs _ _) (y_extract rfl (.s .z)) rfl ?_
  refine l_n rfl (n_alloc ty139 .a rfl) (fun b3 _ => ?_)
  refine l_n rfl (n_store rfl rfl ty139 .a rfl rfl .z (.t (.t (.t (.t (.t (.t (.t (.t (.t .d)))))))))) (fun _ _ => ?_)
  refine l_y (Cls.gs _ _) (y_assign rfl) rfl ?_
  refine l_nil ?_
  refine e_then ?_
  refine CJ.weak (.c (t := 3) rfl (.c (t := 4) rfl (.c (t := 5) rfl .n))) (fun _ h => h) ?_
  refine c_seq ?_
  refine c_text ?_
  refine l_y (Cls.gs _ _) (y_makeFunc .n (.c rfl (.c rfl .n))) rfl ?_
  refine l_y (Cls.gs _ _) (y_assign rfl) rfl ?_
  refine l_nil ?_
  refine e_then ?_
  refine CJ.weak (.c (t := 4) rfl (.c (t := 7) rfl .n)) (fun _ h => h) ?_
  refine c_seq ?_
  refine c_text ?_
  refine l_y (Cls.gs _ _) (y_move rfl) rfl ?_
  refine l_y (Cls.gs _ _) (y_callv ent62 rfl (.c rfl .n) (fun w hw => c62_0 _ _ w (hw.locM .z) (hw.locM (.s (.s .z))))) rfl ?_
  refine l_y (Cls.gs _ _) (y_move rfl) rfl ?_
  refine l_y (Cls.gs _ _) (y_callv ent62 rfl (.c rfl .n) (fun w hw => c62_1 _ _ w (hw.locM .z) (hw.locM (.s (.s .z))))) rfl ?_
  refine l_y (Cls.gs _ _) (y_move rfl) rfl ?_
  refine l_y (Cls.gs _ _) (y_callv ent62 rfl (.c rfl .n) (fun w hw => c62_2 _ _ w (hw.locM .z) (hw.locM (.s (.s .z))))) rfl ?_
  refine l_y (Cls.gs _ _) (y_build pl36 ty36 .a (.c rfl (.c rfl (.c rfl .n))) (.c rfl (.o rfl) rfl rfl (.t .d) (.c rfl (.o rfl) rfl rfl (.s (.t .d)) (.c rfl (.o rfl) rfl rfl (.s (.s (.t .d))) .d)))) rfl ?_
  refine l_n rfl (n_store rfl rfl ty36 .a rfl rfl (.s .z) (.t (.t (.t .d)))) (fun _ _ => ?_)
  refine l_nil ?_
  refine e_then ?_
  refine CJ.weak (.c (t := 4) rfl .n) (fun _ h => h) ?_
  refine c_ret ?_
  refine e_ret rfl (.c rfl (LoadAt.aggL (.s .z) ty36 (.t (.t (.t .d)))) .n) (fun wF hw => ?_)
  exact ⟨rfl, (hw.anc (w, []) (by simp)).below⟩

theorem c56_0 (w : World) : Calls Tryz.prog 56 #[.int .i64 131072, .int .i64 1] w fun e w' => e = .returned (.agg #[.int .i64 0, .int .u64 131072]) ∧ Gr w w' := by
  have h := product56 131072 1 (by decide) (by decide) (by decide) (by decide) w
  rw [show hi64 (131072 * 1) = 0 by kernel_rfl, show lo64 (131072 * 1) = 131072 by kernel_rfl] at h
  exact h

theorem c85_0 (w : World) : Calls Tryz.prog 85 #[.int .u64 0, .int .u64 131072, .int .u64 512] w fun e w' => e = .returned (.tuple #[.int .u64 256, .int .u64 0]) ∧ Gr w w' := by
  refine enter Tryz.func85 rfl rfl rfl rfl (Cls.start w) ?_
  refine c_seq ?_
  refine c_text ?_
  refine l_y (Cls.gs _ _) (y_assign rfl) rfl ?_
  refine l_y (Cls.gs _ _) (y_assign rfl) rfl ?_
  refine l_nil ?_
  refine e_then ?_
  refine CJ.weak (.c (t := 0) rfl (.c (t := 1) rfl (.c (t := 2) rfl .n))) (fun _ h => h) ?_
  refine c_seq ?_
  refine c_seq ?_
  refine c_text ?_
  refine l_y (Cls.gs _ _) (y_move rfl) rfl ?_
  refine l_y (Cls.gs _ _) ((y_eql rfl rfl).lit (by kernel_rfl : _ = Value.bool false)) rfl ?_
  refine l_nil ?_
  refine e_then ?_
  refine CJ.weak (.c (t := 0) rfl (.c (t := 1) rfl (.c (t := 2) rfl (.c (t := 20) rfl .n)))) (fun _ h => h) ?_
  refine c_false (by kernel_rfl) ?_
  refine c_skip ?_
  refine e_then ?_
  refine CJ.weak (.c (t := 0) rfl (.c (t := 1) rfl (.c (t := 2) rfl .n))) (fun _ h => h) ?_
  refine c_seq ?_
  refine c_seq ?_
  refine c_text ?_
  refine l_y (Cls.gs _ _) (y_move rfl) rfl ?_
  refine l_y (Cls.gs _ _) (y_move rfl) rfl ?_
  refine l_y (Cls.gs _ _) ((y_leq rfl rfl).lit (by kernel_rfl : _ = Value.bool false)) rfl ?_
  refine l_nil ?_
  refine e_then ?_
  refine CJ.weak (.c (t := 0) rfl (.c (t := 1) rfl (.c (t := 2) rfl (.c (t := 24) rfl .n)))) (fun _ h => h) ?_
  refine c_false (by kernel_rfl) ?_
  refine c_skip ?_
  refine e_then ?_
  refine CJ.weak (.c (t := 0) rfl (.c (t := 1) rfl (.c (t := 2) rfl .n))) (fun _ h => h) ?_
  refine c_seq ?_
  refine c_seq ?_
  refine c_text ?_
  refine l_y (Cls.gs _ _) (y_move rfl) rfl ?_
  refine l_y (Cls.gs _ _) ((y_eql rfl rfl).lit (by kernel_rfl : _ = Value.bool true)) rfl ?_
  refine l_nil ?_
  refine e_then ?_
  refine CJ.weak (.c (t := 0) rfl (.c (t := 1) rfl (.c (t := 2) rfl (.c (t := 27) rfl .n)))) (fun _ h => h) ?_
  refine c_true (by kernel_rfl) ?_
  refine c_seq ?_
  refine c_draw (m := 8) (S0 := fun _ => True) (fun _ => false) (fun _ _ => trivial) hmix (Cls.gs _ _) rfl ?_
  refine a_y (i := 0) (Cls.gs _ _) (by kernel_rfl) rfl (by kernel_rfl) (by kernel_rfl) (y_move rfl) rfl ?_
  refine a_y (i := 1) (Cls.gs _ _) (by kernel_rfl) rfl (by kernel_rfl) (by kernel_rfl) (y_move rfl) rfl ?_
  refine a_y (i := 2) (Cls.gs _ _) (by kernel_rfl) rfl (by kernel_rfl) (by kernel_rfl) ((y_quo rfl rfl (by decide)).lit (by kernel_rfl : _ = Value.int .u64 256)) rfl ?_
  refine a_y (i := 3) (Cls.gs _ _) (by kernel_rfl) rfl (by kernel_rfl) (by kernel_rfl) (y_move rfl) rfl ?_
  refine a_y (i := 4) (Cls.gs _ _) (by kernel_rfl) rfl (by kernel_rfl) (by kernel_rfl) (y_move rfl) rfl ?_
  refine a_y (i := 5) (Cls.gs _ _) (by kernel_rfl) rfl (by kernel_rfl) (by kernel_rfl) ((y_rem rfl rfl (by decide)).lit (by kernel_rfl : _ = Value.int .u64 0)) rfl ?_
  refine a_y (i := 6) (Cls.gs _ _) (by kernel_rfl) rfl (by kernel_rfl) (by kernel_rfl) (y_assign rfl) rfl ?_
  refine a_y (i := 7) (Cls.gs _ _) (by kernel_rfl) rfl (by kernel_rfl) (by kernel_rfl) (y_assign rfl) rfl ?_
  refine a_done (by kernel_rfl) ?_
  refine e_then ?_
  refine CJ.weak (.c (t := 6) rfl (.c (t := 7) rfl .n)) (fun _ h => h) ?_
  refine c_ret ?_
  refine e_then_ret ?_
  refine e_ret rfl (.t rfl (.t rfl .n)) (fun wF hw => ?_)
  exact ⟨rfl, (hw.anc (w, []) (by simp)).below⟩

theorem c63_0 (w : World) : Calls Tryz.prog 63 #[.agg #[.int .i64 0, .int .u64 131072], .int .i64 512] w fun e w' => e = .returned (.tuple #[.int .i64 256, .int .i64 0]) ∧ Gr w w' := by
  refine enter Tryz.func63 rfl rfl rfl rfl (Cls.start w) ?_
  refine c_seq ?_
  refine c_text ?_
  refine l_n rfl (n_box rfl .a rfl) (fun b0 _ => ?_)
  refine l_y (Cls.gs _ _) (y_assign rfl) rfl ?_
  refine l_y (Cls.gs _ _) (y_assign rfl) rfl ?_
  refine l_nil ?_
  refine e_then ?_
  refine CJ.weak (.c (t := 1) rfl (.c (t := 2) rfl .n)) (fun _ h => h) ?_
  refine c_seq ?_
  refine c_seq ?_
  refine c_text ?_
  refine l_y (Cls.gs _ _) (y_move rfl) rfl ?_
  refine l_y (Cls.gs _ _) ((y_lss rfl rfl).lit (by kernel_rfl : _ = Value.bool false)) rfl ?_
  refine l_nil ?_
  refine e_then ?_
  refine CJ.weak (.c (t := 1) rfl (.c (t := 2) rfl (.c (t := 11) rfl .n))) (fun _ h => h) ?_
  refine c_false (by kernel_rfl) ?_
  refine c_skip ?_
  refine e_then ?_
  refine CJ.weak (.c (t := 1) rfl (.c (t := 2) rfl .n)) (fun _ h => h) ?_
  refine c_seq ?_
  refine c_text ?_
  refine l_y (Cls.gs _ _) (y_load rfl (LoadAt.aggL .z ty131 (.t (.t .d)))) rfl ?_
  refine l_n rfl (n_alloc ty131 .a rfl) (fun b1 _ => ?_)
  refine l_n rfl (n_store rfl rfl ty131 .a rfl rfl .z (.t (.t .d))) (fun _ _ => ?_)
  refine l_nil ?_
  refine e_then ?_
  refine CJ.weak (.c (t := 1) rfl (.c (t := 2) rfl (.c (t := 6) rfl .n))) (fun _ h => h) ?_
  refine c_seq ?_
  refine c_seq ?_
  refine c_text ?_
  refine l_y (Cls.gs _ _) (y_fieldAddr rfl fa131_0) rfl ?_
  refine l_y (Cls.gs _ _) (y_load rfl (LoadAt.oneL (.s .z) ty2 .z)) rfl ?_
  refine l_y (Cls.gs _ _) ((y_lss rfl rfl).lit (by kernel_rfl : _ = Value.bool false)) rfl ?_
  refine l_nil ?_
  refine e_then ?_
  refine CJ.weak (.c (t := 1) rfl (.c (t := 2) rfl (.c (t := 6) rfl (.c (t := 15) rfl .n)))) (fun _ h => h) ?_
  refine c_false (by kernel_rfl) ?_
  refine c_skip ?_
  refine e_then ?_
  refine CJ.weak (.c (t := 1) rfl (.c (t := 2) rfl (.c (t := 6) rfl .n))) (fun _ h => h) ?_
  refine c_seq ?_
  refine c_seq ?_
  refine c_text ?_
  refine l_y (Cls.gs _ _) (y_fieldAddr rfl fa131_0) rfl ?_
  refine l_y (Cls.gs _ _) (y_load rfl (LoadAt.oneL .z ty2 .z)) rfl ?_
  refine l_y (Cls.gs _ _) ((y_conv Tryz.underlying2 Tryz.underlying129 rfl).lit (by kernel_rfl : _ = Value.int .u64 0)) rfl ?_
  refine l_y (Cls.gs _ _) (y_move rfl) rfl ?_
  refine l_y (Cls.gs _ _) ((y_conv Tryz.underlying2 Tryz.underlying129 rfl).lit (by kernel_rfl : _ = Value.int .u64 512)) rfl ?_
  refine l_y (Cls.gs _ _) ((y_geq rfl rfl).lit (by kernel_rfl : _ = Value.bool false)) rfl ?_
  refine l_nil ?_
  refine e_then ?_
  refine CJ.weak (.c (t := 1) rfl (.c (t := 2) rfl (.c (t := 6) rfl (.c (t := 23) rfl .n)))) (fun _ h => h) ?_
  refine c_false (by kernel_rfl) ?_
  refine c_skip ?_
  refine e_then ?_
  refine CJ.weak (.c (t := 1) rfl (.c (t := 2) rfl (.c (t := 6) rfl .n))) (fun _ h => h) ?_
  refine c_seq ?_
  refine c_text ?_
  refine l_y (Cls.gs _ _) (y_fieldAddr rfl fa131_0) rfl ?_
  refine l_y (Cls.gs _ _) (y_load rfl (LoadAt.oneL .z ty2 .z)) rfl ?_
  refine l_y (Cls.gs _ _) ((y_conv Tryz.underlying2 Tryz.underlying129 rfl).lit (by kernel_rfl : _ = Value.int .u64 0)) rfl ?_
  refine l_y (Cls.gs _ _) (y_fieldAddr rfl fa131_1) rfl ?_
  refine l_y (Cls.gs _ _) (y_load rfl (LoadAt.oneL .z ty129 (.s .z))) rfl ?_
  refine l_y (Cls.gs _ _) (y_move rfl) rfl ?_
  refine l_y (Cls.gs _ _) ((y_conv Tryz.underlying2 Tryz.underlying129 rfl).lit (by kernel_rfl : _ = Value.int .u64 512)) rfl ?_
  refine l_y (Cls.gs _ _) (y_call ent85 (.c rfl (.c rfl (.c rfl .n))) (fun w hw => c85_0  w )) rfl ?_
  refine l_y (Cls.gs _ _) (y_move rfl) rfl ?_
  refine l_y (Cls.gs _ _) (y_extract rfl .z) rfl ?_
  refine l_y (Cls.gs _ _) (y_extract rfl (.s .z)) rfl ?_
  refine l_y (Cls.gs _ _) (y_assign rfl) rfl ?_
  refine l_y (Cls.gs _ _) (y_assign rfl) rfl ?_
  refine l_nil ?_
  refine e_then ?_
  refine CJ.weak (.c (t := 2) rfl (.c (t := 7) rfl (.c (t := 8) rfl .n))) (fun _ h => h) ?_
  refine c_seq ?_
  refine c_text ?_
  refine l_y (Cls.gs _ _) (y_assign rfl) rfl ?_
  refine l_nil ?_
  refine e_then ?_
  refine c_seq ?_
  refine c_seq ?_
  refine c_text ?_
  refine l_y (Cls.gs _ _) (y_fieldAddr rfl fa131_0) rfl ?_
  refine l_y (Cls.gs _ _) (y_load rfl (LoadAt.oneL (.s .z) ty2 .z)) rfl ?_
  refine l_y (Cls.gs _ _) ((y_lss rfl rfl).lit (by kernel_rfl : _ = Value.bool false)) rfl ?_
  refine l_nil ?_
  refine e_then ?_
  refine CJ.weak (.c (t := 2) rfl (.c (t := 7) rfl (.c (t := 8) rfl (.c (t := 9) rfl (.c (t := 37) rfl .n))))) (fun _ h => h) ?_
  refine c_false (by kernel_rfl) ?_
  refine c_skip ?_
  refine e_then ?_
  refine CJ.weak (.c (t := 2) rfl (.c (t := 7) rfl (.c (t := 8) rfl (.c (t := 9) rfl .n)))) (fun _ h => h) ?_
  refine c_seq ?_
  refine c_seq ?_
  refine c_text ?_
  refine l_y (Cls.gs _ _) (y_move rfl) rfl ?_
  refine l_y (Cls.gs _ _) (y_move rfl) rfl ?_
  refine l_y (Cls.gs _ _) ((y_gtr rfl rfl).lit (by kernel_rfl : _ = Value.bool false)) rfl ?_
  refine l_nil ?_
  refine e_then ?_
  refine CJ.weak (.c (t := 2) rfl (.c (t := 7) rfl (.c (t := 8) rfl (.c (t := 44) rfl .n)))) (fun _ h => h) ?_
  refine c_false (by kernel_rfl) ?_
  refine c_skip ?_
  refine e_then ?_
  refine CJ.weak (.c (t := 2) rfl (.c (t := 7) rfl (.c (t := 8) rfl .n))) (fun _ h => h) ?_
  refine c_seq ?_
  refine c_block ?_
  refine c_seq ?_
  refine c_text ?_
  refine l_y (Cls.gs _ _) (y_fieldAddr rfl fa131_0) rfl ?_
  refine l_y (Cls.gs _ _) (y_load rfl (LoadAt.oneL (.s .z) ty2 .z)) rfl ?_
  refine l_y (Cls.gs _ _) ((y_geq rfl rfl).lit (by kernel_rfl : _ = Value.bool true)) rfl ?_
  refine l_y (Cls.gs _ _) (y_assign rfl) rfl ?_
  refine l_nil ?_
  refine e_then ?_
  refine CJ.weak (.c (t := 7) rfl (.c (t := 8) rfl (.c (t := 45) rfl .n))) (fun _ h => h) ?_
  refine c_true (by kernel_rfl) ?_
  refine c_seq ?_
  refine c_text ?_
  refine l_y (Cls.gs _ _) (y_move rfl) rfl ?_
  refine l_y (Cls.gs _ _) ((y_conv Tryz.underlying129 Tryz.underlying2 rfl).lit (by kernel_rfl : _ = Value.int .i64 256)) rfl ?_
  refine l_y (Cls.gs _ _) (y_assign rfl) rfl ?_
  refine l_y (Cls.gs _ _) (y_assign rfl) rfl ?_
  refine l_nil ?_
  refine e_then ?_
  refine CJ.weak (.c (t := 4) rfl (.c (t := 5) rfl .n)) (fun _ h => h) ?_
  refine c_ret ?_
  refine e_block_ret ?_
  refine e_then_ret ?_
  refine e_ret rfl (.t rfl (.t rfl .n)) (fun wF hw => ?_)
  exact ⟨rfl, (hw.anc (w, []) (by simp)).below⟩

theorem c37_0 (w : World) : Calls Tryz.prog 37 #[.int .i64 131072, .int .i64 1, .int .i64 512] w fun e w' => e = .returned (.tuple #[.int .i64 256, .int .i64 0]) ∧ Gr w w' := by
  refine enter Tryz.func37 rfl rfl rfl rfl (Cls.start w) ?_
  refine c_seq ?_
  refine c_text ?_
  refine l_y (Cls.gs _ _) (y_assign rfl) rfl ?_
  refine l_y (Cls.gs _ _) (y_assign rfl) rfl ?_
  refine l_nil ?_
  refine e_then ?_
  refine CJ.weak (.c (t := 0) rfl (.c (t := 1) rfl (.c (t := 2) rfl .n))) (fun _ h => h) ?_
  refine c_seq ?_
  refine c_text ?_
  refine l_y (Cls.gs _ _) (y_move rfl) rfl ?_
  refine l_y (Cls.gs _ _) (y_move rfl) rfl ?_
  refine l_y (Cls.gs _ _) (y_call ent56 (.c rfl (.c rfl .n)) (fun w hw => c56_0  w )) rfl ?_
  refine l_y (Cls.gs _ _) (y_move rfl) rfl ?_
  refine l_y (Cls.gs _ _) (y_call ent63 (.c rfl (.c rfl .n)) (fun w hw => c63_0  w )) rfl ?_
  refine l_y (Cls.gs _ _) (y_extract rfl .z) rfl ?_
  refine l_y (Cls.gs _ _) (y_extract rfl (.s .z)) rfl ?_
  refine l_y (Cls.gs _ _) (y_assign rfl) rfl ?_
  refine l_y (Cls.gs _ _) (y_assign rfl) rfl ?_
  refine l_nil ?_
  refine e_then ?_
  refine CJ.weak (.c (t := 6) rfl (.c (t := 7) rfl .n)) (fun _ h => h) ?_
  refine c_ret ?_
  refine e_ret rfl (.t rfl (.t rfl .n)) (fun wF hw => ?_)
  exact ⟨rfl, (hw.anc (w, []) (by simp)).below⟩

theorem c56_1 (w : World) : Calls Tryz.prog 56 #[.int .i64 131072, .int .i64 (-1)] w fun e w' => e = .returned (.agg #[.int .i64 (-1), .int .u64 18446744073709420544]) ∧ Gr w w' := by
  have h := product56 131072 (-1) (by decide) (by decide) (by decide) (by decide) w
  rw [show hi64 (131072 * (-1)) = (-1) by kernel_rfl, show lo64 (131072 * (-1)) = 18446744073709420544 by kernel_rfl] at h
  exact h

theorem c98_0 (w : World) : (callFunc 98 #[.int .u64 131071, .int .u64 1, .int .u64 0]).run Tryz.prog w = .ok (.value (.tuple #[.int .u64 131072, .int .u64 0])) w := by
  have h := add64_run 131071 1 0 (by decide) (by decide) (by decide) (by decide) (w := w)
  rw [show ((131071 : Int) + 1 + 0) % 18446744073709551616 = 131072 by kernel_rfl, show ((131071 : Int) + 1 + 0) / 18446744073709551616 = 0 by kernel_rfl] at h
  exact h

theorem c98_1 (w : World) : (callFunc 98 #[.int .u64 0, .int .u64 0, .int .u64 0]).run Tryz.prog w = .ok (.value (.tuple #[.int .u64 0, .int .u64 0])) w := by
  have h := add64_run 0 0 0 (by decide) (by decide) (by decide) (by decide) (w := w)
  rw [show ((0 : Int) + 0 + 0) % 18446744073709551616 = 0 by kernel_rfl, show ((0 : Int) + 0 + 0) / 18446744073709551616 = 0 by kernel_rfl] at h
  exact h

theorem c71_0 (w : World) : Calls Tryz.prog 71 #[.agg #[.int .i64 (-1), .int .u64 18446744073709420544]] w fun e w' => e = .returned (.agg #[.int .i64 0, .int .u64 131072]) ∧ Gr w w' := by
  refine enter Tryz.func71 rfl rfl rfl rfl (Cls.start w) ?_
  refine c_seq ?_
  refine c_text ?_
  refine l_n rfl (n_box rfl .a rfl) (fun b0 _ => ?_)
  refine l_n rfl (n_alloc ty131 .a rfl) (fun b1 _ => ?_)
  refine l_nil ?_
  refine e_then ?_
  refine CJ.weak (.c (t := 1) rfl (.c (t := 2) rfl .n)) (fun _ h => h) ?_
  refine c_seq ?_
  refine c_text ?_
  refine l_y (Cls.gs _ _) (y_fieldAddr rfl fa131_1) rfl ?_
  refine l_y (Cls.gs _ _) (y_load rfl (LoadAt.oneL (.s .z) ty129 (.s .z))) rfl ?_
  refine l_y (Cls.gs _ _) ((y_com rfl).lit (by kernel_rfl : _ = Value.int .u64 131071)) rfl ?_
  refine l_y (Cls.gs _ _) (y_callx (.c rfl (.c rfl (.c rfl .n))) (c98_0)) rfl ?_
  refine l_y (Cls.gs _ _) (y_move rfl) rfl ?_
  refine l_y (Cls.gs _ _) (y_extract rfl .z) rfl ?_
  refine l_y (Cls.gs _ _) (y_extract rfl (.s .z)) rfl ?_
  refine l_y (Cls.gs _ _) (y_assign rfl) rfl ?_
  refine l_y (Cls.gs _ _) (y_assign rfl) rfl ?_
  refine l_nil ?_
  refine e_then ?_
  refine CJ.weak (.c (t := 1) rfl (.c (t := 2) rfl (.c (t := 3) rfl (.c (t := 4) rfl .n)))) (fun _ h => h) ?_
  refine c_seq ?_
  refine c_text ?_
  refine l_y (Cls.gs _ _) (y_fieldAddr rfl fa131_0) rfl ?_
  refine l_y (Cls.gs _ _) (y_load rfl (LoadAt.oneL (.s .z) ty2 .z)) rfl ?_
  refine l_y (Cls.gs _ _) ((y_conv Tryz.underlying2 Tryz.underlying129 rfl).lit (by kernel_rfl : _ = Value.int .u64 18446744073709551615)) rfl ?_
  refine l_y (Cls.gs _ _) ((y_com rfl).lit (by kernel_rfl : _ = Value.int .u64 0)) rfl ?_
  refine l_y (Cls.gs _ _) (y_move rfl) rfl ?_
  refine l_y (Cls.gs _ _) (y_callx (.c rfl (.c rfl (.c rfl .n))) (c98_1)) rfl ?_
  refine l_y (Cls.gs _ _) (y_move rfl) rfl ?_
  refine l_y (Cls.gs _ _) (y_extract rfl .z) rfl ?_
  refine l_y (Cls.gs _ _) (y_extract rfl (.s .z)) rfl ?_
  refine l_y (Cls.gs _ _) (y_assign rfl) rfl ?_
  refine l_y (Cls.gs _ _) (y_assign rfl) rfl ?_
  refine l_nil ?_
  refine e_then ?_
  refine CJ.weak (.c (t := 2) rfl (.c (t := 3) rfl (.c (t := 5) rfl .n))) (fun _ h => h) ?_
  refine c_seq ?_
  refine c_text ?_
  refine l_y (Cls.gs _ _) (y_move rfl) rfl ?_
  refine l_y (Cls.gs _ _) ((y_conv Tryz.underlying129 Tryz.underlying2 rfl).lit (by kernel_rfl : _ = Value.int .i64 0)) rfl ?_
  refine l_y (Cls.gs _ _) (y_move rfl) rfl ?_
  refine l_y (Cls.gs _ _) (y_build pl131 ty131 .a (.c rfl (.c rfl .n)) (.c rfl (.o rfl) rfl rfl (.t .d) (.c rfl (.o rfl) rfl rfl (.s (.t .d)) .d))) rfl ?_
  refine l_n rfl (n_store rfl rfl ty131 .a rfl rfl .z (.t (.t .d))) (fun _ _ => ?_)
  refine l_nil ?_
  refine e_then ?_
  refine CJ.weak (.c (t := 2) rfl .n) (fun _ h => h) ?_
  refine c_ret ?_
  refine e_ret rfl (.c rfl (LoadAt.aggL .z ty131 (.t (.t .d))) .n) (fun wF hw => ?_)
  exact ⟨rfl, (hw.anc (w, []) (by simp)).below⟩

theorem c63_1 (w : World) : Calls Tryz.prog 63 #[.agg #[.int .i64 (-1), .int .u64 18446744073709420544], .int .i64 512] w fun e w' => e = .returned (.tuple #[.int .i64 (-256), .int .i64 0]) ∧ Gr w w' := by
  refine enter Tryz.func63 rfl rfl rfl rfl (Cls.start w) ?_
  refine c_seq ?_
  refine c_text ?_
  refine l_n rfl (n_box rfl .a rfl) (fun b0 _ => ?_)
  refine l_y (Cls.gs _ _) (y_assign rfl) rfl ?_
  refine l_y (Cls.gs _ _) (y_assign rfl) rfl ?_
  refine l_nil ?_
  refine e_then ?_
  refine CJ.weak (.c (t := 1) rfl (.c (t := 2) rfl .n)) (fun _ h => h) ?_
  refine c_seq ?_
  refine c_seq ?_
  refine c_text ?_
  refine l_y (Cls.gs _ _) (y_move rfl) rfl ?_
  refine l_y (Cls.gs _ _) ((y_lss rfl rfl).lit (by kernel_rfl : _ = Value.bool false)) rfl ?_
  refine l_nil ?_
  refine e_then ?_
  refine CJ.weak (.c (t := 1) rfl (.c (t := 2) rfl (.c (t := 11) rfl .n))) (fun _ h => h) ?_
  refine c_false (by kernel_rfl) ?_
  refine c_skip ?_
  refine e_then ?_
  refine CJ.weak (.c (t := 1) rfl (.c (t := 2) rfl .n)) (fun _ h => h) ?_
  refine c_seq ?_
  refine c_text ?_
  refine l_y (Cls.gs _ _) (y_load rfl (LoadAt.aggL .z ty131 (.t (.t .d)))) rfl ?_
  refine l_n rfl (n_alloc ty131 .a rfl) (fun b1 _ => ?_)
  refine l_n rfl (n_store rfl rfl ty131 .a rfl rfl .z (.t (.t .d))) (fun _ _ => ?_)
  refine l_nil ?_
  refine e_then ?_
  refine CJ.weak (.c (t := 1) rfl (.c (t := 2) rfl (.c (t := 6) rfl .n))) (fun _ h => h) ?_
  refine c_seq ?_
  refine c_seq ?_
  refine c_text ?_
  refine l_y (Cls.gs _ _) (y_fieldAddr rfl fa131_0) rfl ?_
  refine l_y (Cls.gs _ _) (y_load rfl (LoadAt.oneL (.s .z) ty2 .z)) rfl ?_
  refine l_y (Cls.gs _ _) ((y_lss rfl rfl).lit (by kernel_rfl : _ = Value.bool true)) rfl ?_
  refine l_nil ?_
  refine e_then ?_
  refine CJ.weak (.c (t := 1) rfl (.c (t := 2) rfl (.c (t := 6) rfl (.c (t := 15) rfl .n)))) (fun _ h => h) ?_
  refine c_true (by kernel_rfl) ?_
  refine c_text ?_
  refine l_y (Cls.gs _ _) (y_load rfl (LoadAt.aggL (.s .z) ty131 (.t (.t .d)))) rfl ?_
  refine l_y (Cls.gs _ _) (y_call ent71 (.c rfl .n) (fun w hw => c71_0  w )) rfl ?_
  refine l_n rfl (n_store rfl rfl ty131 .a rfl rfl .z (.t (.t .d))) (fun _ _ => ?_)
  refine l_nil ?_
  refine e_then ?_
  refine CJ.weak (.c (t := 1) rfl (.c (t := 2) rfl (.c (t := 6) rfl .n))) (fun _ h => h) ?_
  refine c_seq ?_
  refine c_seq ?_
  refine c_text ?_
  refine l_y (Cls.gs _ _) (y_fieldAddr rfl fa131_0) rfl ?_
  refine l_y (Cls.gs _ _) (y_load rfl (LoadAt.oneL .z ty2 .z)) rfl ?_
  refine l_y (Cls.gs _ _) ((y_conv Tryz.underlying2 Tryz.underlying129 rfl).lit (by kernel_rfl : _ = Value.int .u64 0)) rfl ?_
  refine l_y (Cls.gs _ _) (y_move rfl) rfl ?_
  refine l_y (Cls.gs _ _) ((y_conv Tryz.underlying2 Tryz.underlying129 rfl).lit (by kernel_rfl : _ = Value.int .u64 512)) rfl ?_
  refine l_y (Cls.gs _ _) ((y_geq rfl rfl).lit (by kernel_rfl : _ = Value.bool false)) rfl ?_
  refine l_nil ?_
  refine e_then ?_
  refine CJ.weak (.c (t := 1) rfl (.c (t := 2) rfl (.c (t := 6) rfl (.c (t := 23) rfl .n)))) (fun _ h => h) ?_
  refine c_false (by kernel_rfl) ?_
  refine c_skip ?_
  refine e_then ?_
  refine CJ.weak (.c (t := 1) rfl (.c (t := 2) rfl (.c (t := 6) rfl .n))) (fun _ h => h) ?_
  refine c_seq ?_
  refine c_text ?_
  refine l_y (Cls.gs _ _) (y_fieldAddr rfl fa131_0) rfl ?_
  refine l_y (Cls.gs _ _) (y_load rfl (LoadAt.oneL .z ty2 .z)) rfl ?_
  refine l_y (Cls.gs _ _) ((y_conv Tryz.underlying2 Tryz.underlying129 rfl).lit (by kernel_rfl : _ = Value.int .u64 0)) rfl ?_
  refine l_y (Cls.gs _ _) (y_fieldAddr rfl fa131_1) rfl ?_
  refine l_y (Cls.gs _ _) (y_load rfl (LoadAt.oneL .z ty129 (.s .z))) rfl ?_
  refine l_y (Cls.gs _ _) (y_move rfl) rfl ?_
  refine l_y (Cls.gs _ _) ((y_conv Tryz.underlying2 Tryz.underlying129 rfl).lit (by kernel_rfl : _ = Value.int .u64 512)) rfl ?_
  refine l_y (Cls.gs _ _) (y_call ent85 (.c rfl (.c rfl (.c rfl .n))) (fun w hw => c85_0  w )) rfl ?_
  refine l_y (Cls.gs _ _) (y_move rfl) rfl ?_
  refine l_y (Cls.gs _ _) (y_extract rfl .z) rfl ?_
  refine l_y (Cls.gs _ _) (y_extract rfl (.s .z)) rfl ?_
  refine l_y (Cls.gs _ _) (y_assign rfl) rfl ?_
  refine l_y (Cls.gs _ _) (y_assign rfl) rfl ?_
  refine l_nil ?_
  refine e_then ?_
  refine CJ.weak (.c (t := 2) rfl (.c (t := 7) rfl (.c (t := 8) rfl .n))) (fun _ h => h) ?_
  refine c_seq ?_
  refine c_text ?_
  refine l_y (Cls.gs _ _) (y_assign rfl) rfl ?_
  refine l_nil ?_
  refine e_then ?_
  refine c_seq ?_
  refine c_seq ?_
  refine c_text ?_
  refine l_y (Cls.gs _ _) (y_fieldAddr rfl fa131_0) rfl ?_
  refine l_y (Cls.gs _ _) (y_load rfl (LoadAt.oneL (.s .z) ty2 .z)) rfl ?_
  refine l_y (Cls.gs _ _) ((y_lss rfl rfl).lit (by kernel_rfl : _ = Value.bool true)) rfl ?_
  refine l_nil ?_
  refine e_then ?_
  refine CJ.weak (.c (t := 2) rfl (.c (t := 7) rfl (.c (t := 8) rfl (.c (t := 9) rfl (.c (t := 37) rfl .n))))) (fun _ h => h) ?_
  refine c_true (by kernel_rfl) ?_
  refine c_seq ?_
  refine c_text ?_
  refine l_y (Cls.gs _ _) (y_assign rfl) rfl ?_
  refine l_nil ?_
  refine e_then ?_
  refine CJ.weak (.c (t := 2) rfl (.c (t := 7) rfl (.c (t := 8) rfl (.c (t := 9) rfl .n)))) (fun _ h => h) ?_
  refine c_seq ?_
  refine c_text ?_
  refine l_y (Cls.gs _ _) (y_move rfl) rfl ?_
  refine l_y (Cls.gs _ _) ((y_gtr rfl rfl).lit (by kernel_rfl : _ = Value.bool false)) rfl ?_
  refine l_nil ?_
  refine e_then ?_
  refine CJ.weak (.c (t := 2) rfl (.c (t := 7) rfl (.c (t := 8) rfl (.c (t := 9) rfl (.c (t := 39) rfl .n))))) (fun _ h => h) ?_
  refine c_false (by kernel_rfl) ?_
  refine c_skip ?_
  refine e_then ?_
  refine CJ.weak (.c (t := 2) rfl (.c (t := 7) rfl (.c (t := 8) rfl (.c (t := 9) rfl .n)))) (fun _ h => h) ?_
  refine c_seq ?_
  refine c_seq ?_
  refine c_text ?_
  refine l_y (Cls.gs _ _) (y_move rfl) rfl ?_
  refine l_y (Cls.gs _ _) (y_move rfl) rfl ?_
  refine l_y (Cls.gs _ _) ((y_gtr rfl rfl).lit (by kernel_rfl : _ = Value.bool false)) rfl ?_
  refine l_nil ?_
  refine e_then ?_
  refine CJ.weak (.c (t := 2) rfl (.c (t := 7) rfl (.c (t := 8) rfl (.c (t := 44) rfl .n)))) (fun _ h => h) ?_
  refine c_false (by kernel_rfl) ?_
  refine c_skip ?_
  refine e_then ?_
  refine CJ.weak (.c (t := 2) rfl (.c (t := 7) rfl (.c (t := 8) rfl .n))) (fun _ h => h) ?_
  refine c_seq ?_
  refine c_block ?_
  refine c_seq ?_
  refine c_text ?_
  refine l_y (Cls.gs _ _) (y_fieldAddr rfl fa131_0) rfl ?_
  refine l_y (Cls.gs _ _) (y_load rfl (LoadAt.oneL (.s .z) ty2 .z)) rfl ?_
  refine l_y (Cls.gs _ _) ((y_geq rfl rfl).lit (by kernel_rfl : _ = Value.bool false)) rfl ?_
  refine l_y (Cls.gs _ _) (y_assign rfl) rfl ?_
  refine l_nil ?_
  refine e_then ?_
  refine CJ.weak (.c (t := 7) rfl (.c (t := 8) rfl (.c (t := 45) rfl .n))) (fun _ h => h) ?_
  refine c_false (by kernel_rfl) ?_
  refine c_seq ?_
  refine c_text ?_
  refine l_y (Cls.gs _ _) (y_move rfl) rfl ?_
  refine l_y (Cls.gs _ _) ((y_gtr rfl rfl).lit (by kernel_rfl : _ = Value.bool false)) rfl ?_
  refine l_y (Cls.gs _ _) (y_assign rfl) rfl ?_
  refine l_nil ?_
  refine e_then ?_
  refine CJ.weak (.c (t := 7) rfl (.c (t := 51) rfl .n)) (fun _ h => h) ?_
  refine c_false (by kernel_rfl) ?_
  refine c_skip ?_
  refine e_block ?_
  refine e_then ?_
  refine CJ.weak (.c (t := 7) rfl .n) (fun _ h => h) ?_
  refine c_seq ?_
  refine c_text ?_
  refine l_y (Cls.gs _ _) (y_move rfl) rfl ?_
  refine l_y (Cls.gs _ _) ((y_neg rfl).lit (by kernel_rfl : _ = Value.int .u64 18446744073709551360)) rfl ?_
  refine l_y (Cls.gs _ _) ((y_conv Tryz.underlying129 Tryz.underlying2 rfl).lit (by kernel_rfl : _ = Value.int .i64 (-256))) rfl ?_
  refine l_y (Cls.gs _ _) (y_assign rfl) rfl ?_
  refine l_y (Cls.gs _ _) (y_assign rfl) rfl ?_
  refine l_nil ?_
  refine e_then ?_
  refine CJ.weak (.c (t := 4) rfl (.c (t := 5) rfl .n)) (fun _ h => h) ?_
  refine c_ret ?_
  refine e_ret rfl (.t rfl (.t rfl .n)) (fun wF hw => ?_)
  exact ⟨rfl, (hw.anc (w, []) (by simp)).below⟩

theorem c37_1 (w : World) : Calls Tryz.prog 37 #[.int .i64 131072, .int .i64 (-1), .int .i64 512] w fun e w' => e = .returned (.tuple #[.int .i64 (-256), .int .i64 0]) ∧ Gr w w' := by
  refine enter Tryz.func37 rfl rfl rfl rfl (Cls.start w) ?_
  refine c_seq ?_
  refine c_text ?_
  refine l_y (Cls.gs _ _) (y_assign rfl) rfl ?_
  refine l_y (Cls.gs _ _) (y_assign rfl) rfl ?_
  refine l_nil ?_
  refine e_then ?_
  refine CJ.weak (.c (t := 0) rfl (.c (t := 1) rfl (.c (t := 2) rfl .n))) (fun _ h => h) ?_
  refine c_seq ?_
  refine c_text ?_
  refine l_y (Cls.gs _ _) (y_move rfl) rfl ?_
  refine l_y (Cls.gs _ _) (y_move rfl) rfl ?_
  refine l_y (Cls.gs _ _) (y_call ent56 (.c rfl (.c rfl .n)) (fun w hw => c56_1  w )) rfl ?_
  refine l_y (Cls.gs _ _) (y_move rfl) rfl ?_
  refine l_y (Cls.gs _ _) (y_call ent63 (.c rfl (.c rfl .n)) (fun w hw => c63_1  w )) rfl ?_
  refine l_y (Cls.gs _ _) (y_extract rfl .z) rfl ?_
  refine l_y (Cls.gs _ _) (y_extract rfl (.s .z)) rfl ?_
  refine l_y (Cls.gs _ _) (y_assign rfl) rfl ?_
  refine l_y (Cls.gs _ _) (y_assign rfl) rfl ?_
  refine l_nil ?_
  refine e_then ?_
  refine CJ.weak (.c (t := 6) rfl (.c (t := 7) rfl .n)) (fun _ h => h) ?_
  refine c_ret ?_
  refine e_ret rfl (.t rfl (.t rfl .n)) (fun wF hw => ?_)
  exact ⟨rfl, (hw.anc (w, []) (by simp)).below⟩

theorem c14_0 (w : World) : Calls Tryz.prog 14 #[.agg #[.int .i64 1, .int .i64 0, .int .i64 0, .int .i64 0], .int .i64 32, .int .i64 32, .agg #[.int .i64 1, .int .i64 (-1), .int .i64 512]] w fun e w' => e = .returned (.tuple #[.agg #[.int .i64 4352, .int .i64 3840], .int .i64 0]) ∧ Gr w w' := by
  refine enter Tryz.func14 rfl rfl rfl rfl (Cls.start w) ?_
  refine c_seq ?_
  refine c_text ?_
  refine l_n rfl (n_box rfl .a rfl) (fun b0 _ => ?_)
  refine l_n rfl (n_box rfl .a rfl) (fun b1 _ => ?_)
  refine l_n rfl (n_alloc ty66 .a rfl) (fun b2 _ => ?_)
  refine l_y (Cls.gs _ _) (y_assign rfl) rfl ?_
  refine l_nil ?_
  refine e_then ?_
  refine CJ.weak (.c (t := 1) rfl (.c (t := 2) rfl (.c (t := 4) rfl (.c (t := 7) rfl (.c (t := 8) rfl .n))))) (fun _ h => h) ?_
  refine c_seq ?_
  refine c_seq ?_
  refine c_draw (m := 10) (S0 := fun _ => True) (fun _ => false) (fun _ _ => trivial) hmix (Cls.gs _ _) rfl ?_
  refine a_y (i := 0) (Cls.gs _ _) (by kernel_rfl) rfl (by kernel_rfl) (by kernel_rfl) (y_load rfl (LoadAt.aggL (.s (.s .z)) ty70 (.t (.t (.t (.t .d)))))) rfl ?_
  refine a_y (i := 1) (Cls.gs _ _) (by kernel_rfl) rfl (by kernel_rfl) (by kernel_rfl) (y_call ent33 (.c rfl .n) (fun w hw => c33_0  w )) rfl ?_
  refine a_y (i := 2) (Cls.gs _ _) (by kernel_rfl) rfl (by kernel_rfl) (by kernel_rfl) (y_move rfl) rfl ?_
  refine a_y (i := 3) (Cls.gs _ _) (by kernel_rfl) rfl (by kernel_rfl) (by kernel_rfl) (y_move rfl) rfl ?_
  refine a_y (i := 4) (Cls.gs _ _) (by kernel_rfl) rfl (by kernel_rfl) (by kernel_rfl) (y_call ent34 (.c rfl (.c rfl .n)) (fun w hw => c34_0  w )) rfl ?_
  refine a_y (i := 5) (Cls.gs _ _) (by kernel_rfl) rfl (by kernel_rfl) (by kernel_rfl) (y_load rfl (LoadAt.aggL (.s .z) ty36 (.t (.t (.t .d))))) rfl ?_
  refine a_y (i := 6) (Cls.gs _ _) (by kernel_rfl) rfl (by kernel_rfl) (by kernel_rfl) (y_call ent35 (.c rfl .n) (fun w hw => c35_0  w )) rfl ?_
  refine a_n (i := 7) rfl rfl (by kernel_rfl) (fun _ => Cls.gs _ _) (.inr fun _ _ h => h.tail) (n_buildSlice (l := [.int .i64 0, .int .i64 0, .int .i64 0]) Tryz.underlying138 ty30 (.o rfl) rfl (by simp) (by kernel_rfl) (.c rfl (.c rfl (.c rfl .n))) (.c rfl (.o rfl) rfl rfl (.t .d) (.c rfl (.o rfl) rfl rfl (.s (.t .d)) (.c rfl (.o rfl) rfl rfl (.s (.s (.t .d))) .d))) rfl) (fun b3 _ => ?_)
  refine a_y (i := 8) (Cls.gs _ _) (by kernel_rfl) rfl (by kernel_rfl) (by kernel_rfl) (y_call ent32 (.c rfl .n) (fun w hw => or32 _ _ [0, 0, 0] (by simp) w (locInts hw .z))) rfl ?_
  refine a_y (i := 9) (Cls.gs _ _) (by kernel_rfl) rfl (by kernel_rfl) (by kernel_rfl) (y_assign rfl) rfl ?_
  refine a_done (by kernel_rfl) ?_
  refine e_then ?_
  refine CJ.weak (.c (t := 1) rfl (.c (t := 2) rfl (.c (t := 4) rfl (.c (t := 7) rfl (.c (t := 8) rfl (.c (t := 10) rfl .n)))))) (fun _ h => h) ?_
  refine c_seq ?_
  refine c_text ?_
  refine l_y (Cls.gs _ _) (y_move rfl) rfl ?_
  refine l_y (Cls.gs _ _) ((y_neq rfl rfl).lit (by kernel_rfl : _ = Value.bool false)) rfl ?_
  refine l_nil ?_
  refine e_then ?_
  refine CJ.weak (.c (t := 1) rfl (.c (t := 2) rfl (.c (t := 4) rfl (.c (t := 7) rfl (.c (t := 8) rfl (.c (t := 10) rfl (.c (t := 26) rfl .n))))))) (fun _ h => h) ?_
  refine c_false (by kernel_rfl) ?_
  refine c_skip ?_
  refine e_then ?_
  refine CJ.weak (.c (t := 1) rfl (.c (t := 2) rfl (.c (t := 4) rfl (.c (t := 7) rfl (.c (t := 8) rfl .n))))) (fun _ h => h) ?_
  refine c_seq ?_
  refine c_text ?_
  refine l_y (Cls.gs _ _) (y_load rfl (LoadAt.aggL (.s (.s (.s .z))) ty70 (.t (.t (.t (.t .d)))))) rfl ?_
  refine l_y (Cls.gs _ _) (y_load rfl (LoadAt.aggL (.s (.s .z)) ty36 (.t (.t (.t .d))))) rfl ?_
  refine l_y (Cls.gs _ _) (y_call ent36 (.c rfl (.c rfl .n)) (fun w hw => c36_0  w )) rfl ?_
  refine l_n rfl (n_alloc ty36 .a rfl) (fun b4 _ => ?_)
  refine l_n rfl (n_store rfl rfl ty36 .a rfl rfl .z (.t (.t (.t .d)))) (fun _ _ => ?_)
  refine l_nil ?_
  refine e_then ?_
  refine CJ.weak (.c (t := 1) rfl (.c (t := 2) rfl (.c (t := 8) rfl (.c (t := 11) rfl .n)))) (fun _ h => h) ?_
  refine c_seq ?_
  refine c_seq ?_
  refine c_text ?_
  refine l_y (Cls.gs _ _) (y_fieldAddr rfl fa36_2) rfl ?_
  refine l_y (Cls.gs _ _) (y_load rfl (LoadAt.oneL .z ty2 (.s (.s .z)))) rfl ?_
  refine l_y (Cls.gs _ _) ((y_leq rfl rfl).lit (by kernel_rfl : _ = Value.bool false)) rfl ?_
  refine l_nil ?_
  refine e_then ?_
  refine CJ.weak (.c (t := 1) rfl (.c (t := 2) rfl (.c (t := 8) rfl (.c (t := 11) rfl (.c (t := 34) rfl .n))))) (fun _ h => h) ?_
  refine c_false (by kernel_rfl) ?_
  refine c_skip ?_
  refine e_then ?_
  refine CJ.weak (.c (t := 1) rfl (.c (t := 2) rfl (.c (t := 8) rfl (.c (t := 11) rfl .n)))) (fun _ h => h) ?_
  refine c_seq ?_
  refine c_text ?_
  refine l_y (Cls.gs _ _) (y_fieldAddr rfl fa36_0) rfl ?_
  refine l_y (Cls.gs _ _) (y_load rfl (LoadAt.oneL .z ty2 .z)) rfl ?_
  refine l_y (Cls.gs _ _) (y_fieldAddr rfl fa36_2) rfl ?_
  refine l_y (Cls.gs _ _) (y_load rfl (LoadAt.oneL .z ty2 (.s (.s .z)))) rfl ?_
  refine l_y (Cls.gs _ _) (y_call ent37 (.c rfl (.c rfl (.c rfl .n))) (fun w hw => c37_0  w )) rfl ?_
  refine l_y (Cls.gs _ _) (y_move rfl) rfl ?_
  refine l_y (Cls.gs _ _) (y_extract rfl .z) rfl ?_
  refine l_y (Cls.gs _ _) (y_extract rfl (.s .z)) rfl ?_
  refine l_y (Cls.gs _ _) (y_assign rfl) rfl ?_
  refine l_y (Cls.gs _ _) (y_assign rfl) rfl ?_
  refine l_nil ?_
  refine e_then ?_
  refine CJ.weak (.c (t := 1) rfl (.c (t := 2) rfl (.c (t := 8) rfl (.c (t := 11) rfl (.c (t := 12) rfl .n))))) (fun _ h => h) ?_
  refine c_seq ?_
  refine c_text ?_
  refine l_y (Cls.gs _ _) (y_fieldAddr rfl fa36_1) rfl ?_
  refine l_y (Cls.gs _ _) (y_load rfl (LoadAt.oneL .z ty2 (.s .z))) rfl ?_
  refine l_y (Cls.gs _ _) (y_fieldAddr rfl fa36_2) rfl ?_
  refine l_y (Cls.gs _ _) (y_load rfl (LoadAt.oneL .z ty2 (.s (.s .z)))) rfl ?_
  refine l_y (Cls.gs _ _) (y_call ent37 (.c rfl (.c rfl (.c rfl .n))) (fun w hw => c37_1  w )) rfl ?_
  refine l_y (Cls.gs _ _) (y_move rfl) rfl ?_
  refine l_y (Cls.gs _ _) (y_extract rfl .z) rfl ?_
  refine l_y (Cls.gs _ _) (y_extract rfl (.s .z)) rfl ?_
  refine l_y (Cls.gs _ _) (y_assign rfl) rfl ?_
  refine l_y (Cls.gs _ _) (y_assign rfl) rfl ?_
  refine l_nil ?_
  refine e_then ?_
  refine CJ.weak (.c (t := 1) rfl (.c (t := 2) rfl (.c (t := 8) rfl (.c (t := 12) rfl (.c (t := 14) rfl .n))))) (fun _ h => h) ?_
  refine c_seq ?_
  refine c_text ?_
  refine l_y (Cls.gs _ _) (y_move rfl) rfl ?_
  refine l_y (Cls.gs _ _) (y_move rfl) rfl ?_
  refine l_y (Cls.gs _ _) ((y_mul rfl rfl).lit (by kernel_rfl : _ = Value.int .i64 4096)) rfl ?_
  refine l_y (Cls.gs _ _) ((y_add rfl rfl).lit (by kernel_rfl : _ = Value.int .i64 4352)) rfl ?_
  refine l_y (Cls.gs _ _) (y_move rfl) rfl ?_
  refine l_y (Cls.gs _ _) (y_move rfl) rfl ?_
  refine l_y (Cls.gs _ _) ((y_mul rfl rfl).lit (by kernel_rfl : _ = Value.int .i64 4096)) rfl ?_
  refine l_y (Cls.gs _ _) ((y_add rfl rfl).lit (by kernel_rfl : _ = Value.int .i64 3840)) rfl ?_
  refine l_y (Cls.gs _ _) (y_assign rfl) rfl ?_
  refine l_y (Cls.gs _ _) (y_assign rfl) rfl ?_
  refine l_nil ?_
  refine e_then ?_
  refine CJ.weak (.c (t := 8) rfl (.c (t := 12) rfl (.c (t := 14) rfl .n))) (fun _ h => h) ?_
  refine c_seq ?_
  refine c_seq ?_
  refine c_text ?_
  refine l_y (Cls.gs _ _) (y_move rfl) rfl ?_
  refine l_y (Cls.gs _ _) (y_move rfl) rfl ?_
  refine l_y (Cls.gs _ _) ((y_max2 rfl rfl).lit (by kernel_rfl : _ = Value.int .i64 4352)) rfl ?_
  refine l_y (Cls.gs _ _) ((y_gtr rfl rfl).lit (by kernel_rfl : _ = Value.bool false)) rfl ?_
  refine l_y (Cls.gs _ _) (y_move rfl) rfl ?_
  refine l_g (s := 64) (Cls.gs _ _) (by kernel_rfl) rfl (beq_f _) (fun hg => y_move rfl) rfl ?_
  refine l_g (s := 64) (Cls.gs _ _) (by kernel_rfl) rfl (beq_f _) (fun hg => y_move rfl) rfl ?_
  refine l_g (s := 64) (Cls.gs _ _) (by kernel_rfl) rfl (beq_f _) (fun hg => (y_min2 (gvt hg rfl) (gvt hg rfl)).lit (by kernel_rfl : _ = Value.int .i64 3840)) rfl ?_
  refine l_g (s := 64) (Cls.gs _ _) (by kernel_rfl) rfl (beq_f _) (fun hg => (y_lss (gvt hg rfl) rfl).lit (by kernel_rfl : _ = Value.bool false)) rfl ?_
  refine l_y (Cls.gs _ _) ((y_or rfl rfl rfl).lit (by kernel_rfl : _ = Value.bool false)) rfl ?_
  refine l_nil ?_
  refine e_then ?_
  refine CJ.weak (.c (t := 8) rfl (.c (t := 12) rfl (.c (t := 14) rfl (.c (t := 69) rfl .n)))) (fun _ h => h) ?_
  refine c_false (by kernel_rfl) ?_
  refine c_skip ?_
  refine e_then ?_
  refine CJ.weak (.c (t := 8) rfl (.c (t := 12) rfl (.c (t := 14) rfl .n))) (fun _ h => h) ?_
  refine c_seq ?_
  refine c_text ?_
  refine l_y (Cls.gs _ _) (y_move rfl) rfl ?_
  refine l_y (Cls.gs _ _) (y_move rfl) rfl ?_
  refine l_y (Cls.gs _ _) (y_build pl66 ty66 .a (.c rfl (.c rfl .n)) (.c rfl (.o rfl) rfl rfl (.t .d) (.c rfl (.o rfl) rfl rfl (.s (.t .d)) .d))) rfl ?_
  refine l_n rfl (n_store rfl rfl ty66 .a rfl rfl (.s (.s .z)) (.t (.t .d))) (fun _ _ => ?_)
  refine l_y (Cls.gs _ _) (y_assign rfl) rfl ?_
  refine l_nil ?_
  refine e_then ?_
  refine CJ.weak (.c (t := 8) rfl (.c (t := 9) rfl .n)) (fun _ h => h) ?_
  refine c_ret ?_
  refine e_ret rfl (.c rfl (LoadAt.aggL (.s (.s .z)) ty66 (.t (.t .d))) (.t rfl .n)) (fun wF hw => ?_)
  exact ⟨rfl, (hw.anc (w, []) (by simp)).below⟩

theorem c35_1 (w : World) : Calls Tryz.prog 35 #[.agg #[.int .i64 3, .int .i64 (-1), .int .i64 2]] w fun e w' => e = .returned (.int .i64 0) ∧ Gr w w' := by
  refine enter Tryz.func35 rfl rfl rfl rfl (Cls.start w) ?_
  refine c_seq ?_
  refine c_text ?_
  refine l_n rfl (n_box rfl .a rfl) (fun b0 _ => ?_)
  refine l_y (Cls.gs _ _) (y_assign rfl) rfl ?_
  refine l_nil ?_
  refine e_then ?_
  refine CJ.weak (.c (t := 1) rfl .n) (fun _ h => h) ?_
  refine c_seq ?_
  refine c_block ?_
  refine c_seq ?_
  refine c_text ?_
  refine l_y (Cls.gs _ _) (y_fieldAddr rfl fa36_0) rfl ?_
  refine l_y (Cls.gs _ _) (y_load rfl (LoadAt.oneL .z ty2 .z)) rfl ?_
  refine l_y (Cls.gs _ _) (y_fieldAddr rfl fa36_1) rfl ?_
  refine l_y (Cls.gs _ _) (y_load rfl (LoadAt.oneL .z ty2 (.s .z))) rfl ?_
  refine l_y (Cls.gs _ _) (y_fieldAddr rfl fa36_2) rfl ?_
  refine l_y (Cls.gs _ _) (y_load rfl (LoadAt.oneL .z ty2 (.s (.s .z)))) rfl ?_
  refine l_y (Cls.gs _ _) ((y_max3 rfl rfl rfl).lit (by kernel_rfl : _ = Value.int .i64 3)) rfl ?_
  refine l_y (Cls.gs _ _) ((y_gtr rfl rfl).lit (by kernel_rfl : _ = Value.bool false)) rfl ?_
  refine l_y (Cls.gs _ _) (y_move rfl) rfl ?_
  refine l_g (s := 12) (Cls.gs _ _) (by kernel_rfl) rfl (beq_f _) (fun hg => y_fieldAddr rfl fa36_0) rfl ?_
  refine l_g (s := 12) (Cls.gs _ _) (by kernel_rfl) rfl (beq_f _) (fun hg => y_load (gvt hg rfl) (LoadAt.oneL .z ty2 .z)) rfl ?_
  refine l_g (s := 12) (Cls.gs _ _) (by kernel_rfl) rfl (beq_f _) (fun hg => y_fieldAddr rfl fa36_1) rfl ?_
  refine l_g (s := 12) (Cls.gs _ _) (by kernel_rfl) rfl (beq_f _) (fun hg => y_load (gvt hg rfl) (LoadAt.oneL .z ty2 (.s .z))) rfl ?_
  refine l_g (s := 12) (Cls.gs _ _) (by kernel_rfl) rfl (beq_f _) (fun hg => y_fieldAddr rfl fa36_2) rfl ?_
  refine l_g (s := 12) (Cls.gs _ _) (by kernel_rfl) rfl (beq_f _) (fun hg => y_load (gvt hg rfl) (LoadAt.oneL .z ty2 (.s (.s .z)))) rfl ?_
  refine l_g (s := 12) (Cls.gs _ _) (by kernel_rfl) rfl (beq_f _) (fun hg => (y_min3 (gvt hg rfl) (gvt hg rfl) (gvt hg rfl)).lit (by kernel_rfl : _ = Value.int .i64 (-1))) rfl ?_
  refine l_g (s := 12) (Cls.gs _ _) (by kernel_rfl) rfl (beq_f _) (fun hg => (y_lss (gvt hg rfl) rfl).lit (by kernel_rfl : _ = Value.bool false)) rfl ?_
  refine l_y (Cls.gs _ _) ((y_or rfl rfl rfl).lit (by kernel_rfl : _ = Value.bool false)) rfl ?_
  refine l_y (Cls.gs _ _) (y_assign rfl) rfl ?_
  refine l_nil ?_
  refine e_then ?_
  refine CJ.weak (.c (t := 1) rfl (.c (t := 3) rfl .n)) (fun _ h => h) ?_
  refine c_false (by kernel_rfl) ?_
  refine c_seq ?_
  refine c_text ?_
  refine l_y (Cls.gs _ _) (y_load rfl (LoadAt.aggL .z ty36 (.t (.t (.t .d))))) rfl ?_
  refine l_y (Cls.gs _ _) (y_build pl36 ty36 .a .n .d) rfl ?_
  refine l_y (Cls.gs _ _) ((y_eqA Tryz.underlying36 (by kernel_rfl) (by kernel_rfl) rfl rfl (.one rfl ty2 .z .z (.int Tryz.underlying2) (.one rfl ty2 (.s .z) (.s .z) (.int Tryz.underlying2) (.one rfl ty2 (.s (.s .z)) (.s (.s .z)) (.int Tryz.underlying2) .nil)))).lit (by kernel_rfl : _ = Value.bool false)) rfl ?_
  refine l_y (Cls.gs _ _) (y_assign rfl) rfl ?_
  refine l_nil ?_
  refine e_then ?_
  refine CJ.weak (.c (t := 22) rfl .n) (fun _ h => h) ?_
  refine c_false (by kernel_rfl) ?_
  refine c_skip ?_
  refine e_block ?_
  refine e_then ?_
  refine CJ.weak .n (fun _ h => h) ?_
  refine c_seq ?_
  refine c_text ?_
  refine l_y (Cls.gs _ _) (y_assign rfl) rfl ?_
  refine l_nil ?_
  refine e_then ?_
  refine c_ret ?_
  refine e_ret rfl (.t rfl .n) (fun wF hw => ?_)
  exact ⟨rfl, (hw.anc (w, []) (by simp)).below⟩

theorem c39_0 (w : World) : Calls Tryz.prog 39 #[.agg #[.int .i64 3, .int .i64 (-1), .int .i64 2]] w fun e w' => e = .returned (.agg #[.int .i64 3, .int .i64 (-1), .int .i64 2]) ∧ Gr w w' := by
  refine enter Tryz.func39 rfl rfl rfl rfl (Cls.start w) ?_
  refine c_seq ?_
  refine c_text ?_
  refine l_n rfl (n_box rfl .a rfl) (fun b0 _ => ?_)
  refine l_n rfl (n_alloc ty109 .a rfl) (fun b1 _ => ?_)
  refine l_nil ?_
  refine e_then ?_
  refine CJ.weak (.c (t := 1) rfl (.c (t := 2) rfl .n)) (fun _ h => h) ?_
  refine c_seq ?_
  refine c_text ?_
  refine l_y (Cls.gs _ _) (y_fieldAddr rfl fa36_0) rfl ?_
  refine l_y (Cls.gs _ _) (y_load rfl (LoadAt.oneL (.s .z) ty2 .z)) rfl ?_
  refine l_y (Cls.gs _ _) (y_fieldAddr rfl fa36_1) rfl ?_
  refine l_y (Cls.gs _ _) (y_load rfl (LoadAt.oneL (.s .z) ty2 (.s .z))) rfl ?_
  refine l_y (Cls.gs _ _) (y_fieldAddr rfl fa36_2) rfl ?_
  refine l_y (Cls.gs _ _) (y_load rfl (LoadAt.oneL (.s .z) ty2 (.s (.s .z)))) rfl ?_
  refine l_y (Cls.gs _ _) (y_buildArr Tryz.underlying109 ty2 ty109 .a (.c rfl (.c rfl (.c rfl .n))) (.c rfl (.o rfl) rfl rfl (.t .d) (.c rfl (.o rfl) rfl rfl (.s (.t .d)) (.c rfl (.o rfl) rfl rfl (.s (.s (.t .d))) .d)))) rfl ?_
  refine l_n rfl (n_store rfl rfl ty109 .a rfl rfl .z (.t (.t (.t .d)))) (fun _ _ => ?_)
  refine l_nil ?_
  refine e_then ?_
  refine CJ.weak (.c (t := 2) rfl .n) (fun _ h => h) ?_
  refine c_ret ?_
  refine e_ret rfl (.c rfl (LoadAt.aggL .z ty109 (.t (.t (.t .d)))) .n) (fun wF hw => ?_)
  exact ⟨rfl, (hw.anc (w, []) (by simp)).below⟩

theorem c38_0 (w : World) : Calls Tryz.prog 38 #[.agg #[.int .i64 3, .int .i64 (-1), .int .i64 2]] w fun e w' => e = .returned (.int .i64 0) ∧ Gr w w' := by
  refine enter Tryz.func38 rfl rfl rfl rfl (Cls.start w) ?_
  refine c_seq ?_
  refine c_text ?_
  refine l_n rfl (n_box rfl .a rfl) (fun b0 _ => ?_)
  refine l_y (Cls.gs _ _) (y_assign rfl) rfl ?_
  refine l_nil ?_
  refine e_then ?_
  refine CJ.weak (.c (t := 1) rfl .n) (fun _ h => h) ?_
  refine c_seq ?_
  refine c_text ?_
  refine l_y (Cls.gs _ _) (y_load rfl (LoadAt.aggL .z ty36 (.t (.t (.t .d))))) rfl ?_
  refine l_y (Cls.gs _ _) (y_call ent39 (.c rfl .n) (fun w hw => c39_0  w )) rfl ?_
  refine l_n rfl (n_alloc ty109 .a rfl) (fun b1 _ => ?_)
  refine l_n rfl (n_store rfl rfl ty109 .a rfl rfl .z (.t (.t (.t .d)))) (fun _ _ => ?_)
  refine l_nil ?_
  refine e_then ?_
  refine CJ.weak (.c (t := 3) rfl .n) (fun _ h => h) ?_
  refine c_seq ?_
  refine c_text ?_
  refine l_y (Cls.gs _ _) (y_assign rfl) rfl ?_
  refine l_nil ?_
  refine e_then ?_
  refine c_seq ?_
  refine c_seq ?_
  refine c_text ?_
  refine l_y (Cls.gs _ _) (y_move rfl) rfl ?_
  refine l_nil ?_
  refine e_then ?_
  refine c_block ?_
  refine c_rounds 80 ?_
  refine r_succ ?_
  refine c_seq ?_
  refine c_text ?_
  refine l_y (Cls.gs _ _) ((y_lss rfl rfl).lit (by kernel_rfl : _ = Value.bool true)) rfl ?_
  refine l_nil ?_
  refine e_then ?_
  refine c_seq ?_
  refine c_true (by kernel_rfl) ?_
  refine c_skip ?_
  refine e_then ?_
  refine CJ.weak (.c (t := 3) rfl (.c (t := 4) rfl (.c (t := 8) rfl .n))) (fun _ h => h) ?_
  refine c_seq ?_
  refine c_block ?_
  refine c_seq ?_
  refine c_text ?_
  refine l_y (Cls.gs _ _) (y_move rfl) rfl ?_
  refine l_y (Cls.gs _ _) (y_assign rfl) rfl ?_
  refine l_nil ?_
  refine e_then ?_
  refine CJ.weak (.c (t := 3) rfl (.c (t := 4) rfl (.c (t := 5) rfl (.c (t := 8) rfl .n)))) (fun _ h => h) ?_
  refine c_seq ?_
  refine c_draw (m := 17) (S0 := fun _ => True) (fun _ => false) (fun _ _ => trivial) hmix (Cls.gs _ _) rfl ?_
  refine a_y (i := 0) (Cls.gs _ _) (by kernel_rfl) rfl (by kernel_rfl) (by kernel_rfl) (y_move rfl) rfl ?_
  refine a_y (i := 1) (Cls.gs _ _) (by kernel_rfl) rfl (by kernel_rfl) (by kernel_rfl) (y_indexArr Tryz.underlying109 ty2 rfl rfl (by decide) (by decide)) rfl ?_
  refine a_y (i := 2) (Cls.gs _ _) (by kernel_rfl) rfl (by kernel_rfl) (by kernel_rfl) (y_load rfl (LoadAt.oneL .z ty2 .z)) rfl ?_
  refine a_y (i := 3) (Cls.gs _ _) (by kernel_rfl) rfl (by kernel_rfl) (by kernel_rfl) (y_move rfl) rfl ?_
  refine a_y (i := 4) (Cls.gs _ _) (by kernel_rfl) rfl (by kernel_rfl) (by kernel_rfl) (y_indexArr Tryz.underlying109 ty2 rfl rfl (by decide) (by decide)) rfl ?_
  refine a_y (i := 5) (Cls.gs _ _) (by kernel_rfl) rfl (by kernel_rfl) (by kernel_rfl) (y_load rfl (LoadAt.oneL .z ty2 .z)) rfl ?_
  refine a_y (i := 6) (Cls.gs _ _) (by kernel_rfl) rfl (by kernel_rfl) (by kernel_rfl) ((y_neg rfl).lit (by kernel_rfl : _ = Value.int .i64 (-3))) rfl ?_
  refine a_y (i := 7) (Cls.gs _ _) (by kernel_rfl) rfl (by kernel_rfl) (by kernel_rfl) ((y_max2 rfl rfl).lit (by kernel_rfl : _ = Value.int .i64 3)) rfl ?_
  refine a_y (i := 8) (Cls.gs _ _) (by kernel_rfl) rfl (by kernel_rfl) (by kernel_rfl) (y_move rfl) rfl ?_
  refine a_y (i := 9) (Cls.gs _ _) (by kernel_rfl) rfl (by kernel_rfl) (by kernel_rfl) (y_indexArr Tryz.underlying109 ty2 rfl rfl (by decide) (by decide)) rfl ?_
  refine a_y (i := 10) (Cls.gs _ _) (by kernel_rfl) rfl (by kernel_rfl) (by kernel_rfl) (y_load rfl (LoadAt.oneL .z ty2 .z)) rfl ?_
  refine a_y (i := 11) (Cls.gs _ _) (by kernel_rfl) rfl (by kernel_rfl) (by kernel_rfl) (y_move rfl) rfl ?_
  refine a_y (i := 12) (Cls.gs _ _) (by kernel_rfl) rfl (by kernel_rfl) (by kernel_rfl) (y_indexArr Tryz.underlying109 ty2 rfl rfl (by decide) (by decide)) rfl ?_
  refine a_y (i := 13) (Cls.gs _ _) (by kernel_rfl) rfl (by kernel_rfl) (by kernel_rfl) (y_load rfl (LoadAt.oneL .z ty2 .z)) rfl ?_
  refine a_y (i := 14) (Cls.gs _ _) (by kernel_rfl) rfl (by kernel_rfl) (by kernel_rfl) ((y_neg rfl).lit (by kernel_rfl : _ = Value.int .i64 (-3))) rfl ?_
  refine a_y (i := 15) (Cls.gs _ _) (by kernel_rfl) rfl (by kernel_rfl) (by kernel_rfl) ((y_max2 rfl rfl).lit (by kernel_rfl : _ = Value.int .i64 3)) rfl ?_
  refine a_y (i := 16) (Cls.gs _ _) (by kernel_rfl) rfl (by kernel_rfl) (by kernel_rfl) ((y_gtr rfl rfl).lit (by kernel_rfl : _ = Value.bool false)) rfl ?_
  refine a_done (by kernel_rfl) ?_
  refine e_then ?_
  refine CJ.weak (.c (t := 3) rfl (.c (t := 4) rfl (.c (t := 5) rfl (.c (t := 8) rfl (.c (t := 27) rfl .n))))) (fun _ h => h) ?_
  refine c_false (by kernel_rfl) ?_
  refine c_skip ?_
  refine e_block ?_
  refine e_then ?_
  refine CJ.weak (.c (t := 3) rfl (.c (t := 4) rfl (.c (t := 8) rfl .n))) (fun _ h => h) ?_
  refine c_text ?_
  refine l_y (Cls.gs _ _) ((y_add rfl rfl).lit (by kernel_rfl : _ = Value.int .i64 1)) rfl ?_
  refine l_y (Cls.gs _ _) (y_move rfl) rfl ?_
  refine l_nil ?_
  refine e_rounds ?_
  refine RJ.weak (.c (t := 3) rfl (.c (t := 4) rfl (.c (t := 8) rfl .n))) (fun _ h => h) ?_
  refine r_succ ?_
  refine c_seq ?_
  refine c_text ?_
  refine l_y (Cls.gs _ _) ((y_lss rfl rfl).lit (by kernel_rfl : _ = Value.bool true)) rfl ?_
  refine l_nil ?_
  refine e_then ?_
  refine c_seq ?_
  refine c_true (by kernel_rfl) ?_
  refine c_skip ?_
  refine e_then ?_
  refine CJ.weak (.c (t := 3) rfl (.c (t := 4) rfl (.c (t := 8) rfl .n))) (fun _ h => h) ?_
  refine c_seq ?_
  refine c_block ?_
  refine c_seq ?_
  refine c_text ?_
  refine l_y (Cls.gs _ _) (y_move rfl) rfl ?_
  refine l_y (Cls.gs _ _) (y_assign rfl) rfl ?_
  refine l_nil ?_
  refine e_then ?_
  refine CJ.weak (.c (t := 3) rfl (.c (t := 4) rfl (.c (t := 5) rfl (.c (t := 8) rfl .n)))) (fun _ h => h) ?_
  refine c_seq ?_
  refine c_draw (m := 17) (S0 := fun _ => True) (fun _ => false) (fun _ _ => trivial) hmix (Cls.gs _ _) rfl ?_
  refine a_y (i := 0) (Cls.gs _ _) (by kernel_rfl) rfl (by kernel_rfl) (by kernel_rfl) (y_move rfl) rfl ?_
  refine a_y (i := 1) (Cls.gs _ _) (by kernel_rfl) rfl (by kernel_rfl) (by kernel_rfl) (y_indexArr Tryz.underlying109 ty2 rfl rfl (by decide) (by decide)) rfl ?_
  refine a_y (i := 2) (Cls.gs _ _) (by kernel_rfl) rfl (by kernel_rfl) (by kernel_rfl) (y_load rfl (LoadAt.oneL .z ty2 (.s .z))) rfl ?_
  refine a_y (i := 3) (Cls.gs _ _) (by kernel_rfl) rfl (by kernel_rfl) (by kernel_rfl) (y_move rfl) rfl ?_
  refine a_y (i := 4) (Cls.gs _ _) (by kernel_rfl) rfl (by kernel_rfl) (by kernel_rfl) (y_indexArr Tryz.underlying109 ty2 rfl rfl (by decide) (by decide)) rfl ?_
  refine a_y (i := 5) (Cls.gs _ _) (by kernel_rfl) rfl (by kernel_rfl) (by kernel_rfl) (y_load rfl (LoadAt.oneL .z ty2 (.s .z))) rfl ?_
  refine a_y (i := 6) (Cls.gs _ _) (by kernel_rfl) rfl (by kernel_rfl) (by kernel_rfl) ((y_neg rfl).lit (by kernel_rfl : _ = Value.int .i64 1)) rfl ?_
  refine a_y (i := 7) (Cls.gs _ _) (by kernel_rfl) rfl (by kernel_rfl) (by kernel_rfl) ((y_max2 rfl rfl).lit (by kernel_rfl : _ = Value.int .i64 1)) rfl ?_
  refine a_y (i := 8) (Cls.gs _ _) (by kernel_rfl) rfl (by kernel_rfl) (by kernel_rfl) (y_move rfl) rfl ?_
  refine a_y (i := 9) (Cls.gs _ _) (by kernel_rfl) rfl (by kernel_rfl) (by kernel_rfl) (y_indexArr Tryz.underlying109 ty2 rfl rfl (by decide) (by decide)) rfl ?_
  refine a_y (i := 10) (Cls.gs _ _) (by kernel_rfl) rfl (by kernel_rfl) (by kernel_rfl) (y_load rfl (LoadAt.oneL .z ty2 .z)) rfl ?_
  refine a_y (i := 11) (Cls.gs _ _) (by kernel_rfl) rfl (by kernel_rfl) (by kernel_rfl) (y_move rfl) rfl ?_
  refine a_y (i := 12) (Cls.gs _ _) (by kernel_rfl) rfl (by kernel_rfl) (by kernel_rfl) (y_indexArr Tryz.underlying109 ty2 rfl rfl (by decide) (by decide)) rfl ?_
  refine a_y (i := 13) (Cls.gs _ _) (by kernel_rfl) rfl (by kernel_rfl) (by kernel_rfl) (y_load rfl (LoadAt.oneL .z ty2 .z)) rfl ?_
  refine a_y (i := 14) (Cls.gs _ _) (by kernel_rfl) rfl (by kernel_rfl) (by kernel_rfl) ((y_neg rfl).lit (by kernel_rfl : _ = Value.int .i64 (-3))) rfl ?_
  refine a_y (i := 15) (Cls.gs _ _) (by kernel_rfl) rfl (by kernel_rfl) (by kernel_rfl) ((y_max2 rfl rfl).lit (by kernel_rfl : _ = Value.int .i64 3)) rfl ?_
  refine a_y (i := 16) (Cls.gs _ _) (by kernel_rfl) rfl (by kernel_rfl) (by kernel_rfl) ((y_gtr rfl rfl).lit (by kernel_rfl : _ = Value.bool false)) rfl ?_
  refine a_done (by kernel_rfl) ?_
  refine e_then ?_
  refine CJ.weak (.c (t := 3) rfl (.c (t := 4) rfl (.c (t := 5) rfl (.c (t := 8) rfl (.c (t := 27) rfl .n))))) (fun _ h => h) ?_
  refine c_false (by kernel_rfl) ?_
  refine c_skip ?_
  refine e_block ?_
  refine e_then ?_
  refine CJ.weak (.c (t := 3) rfl (.c (t := 4) rfl (.c (t := 8) rfl .n))) (fun _ h => h) ?_
  refine c_text ?_
  refine l_y (Cls.gs _ _) ((y_add rfl rfl).lit (by kernel_rfl : _ = Value.int .i64 2)) rfl ?_
  refine l_y (Cls.gs _ _) (y_move rfl) rfl ?_
  refine l_nil ?_
  refine e_rounds ?_
  refine RJ.weak (.c (t := 3) rfl (.c (t := 4) rfl (.c (t := 8) rfl .n))) (fun _ h => h) ?_
  refine r_succ ?_
  refine c_seq ?_
  refine c_text ?_
  refine l_y (Cls.gs _ _) ((y_lss rfl rfl).lit (by kernel_rfl : _ = Value.bool true)) rfl ?_
  refine l_nil ?_
  refine e_then ?_
  refine c_seq ?_
  refine c_true (by kernel_rfl) ?_
  refine c_skip ?_
  refine e_then ?_
  refine CJ.weak (.c (t := 3) rfl (.c (t := 4) rfl (.c (t := 8) rfl .n))) (fun _ h => h) ?_
  refine c_seq ?_
  refine c_block ?_
  refine c_seq ?_
  refine c_text ?_
  refine l_y (Cls.gs _ _) (y_move rfl) rfl ?_
  refine l_y (Cls.gs _ _) (y_assign rfl) rfl ?_
  refine l_nil ?_
  refine e_then ?_
  refine CJ.weak (.c (t := 3) rfl (.c (t := 4) rfl (.c (t := 5) rfl (.c (t := 8) rfl .n)))) (fun _ h => h) ?_
  refine c_seq ?_
  refine c_draw (m := 17) (S0 := fun _ => True) (fun _ => false) (fun _ _ => trivial) hmix (Cls.gs _ _) rfl ?_
  refine a_y (i := 0) (Cls.gs _ _) (by kernel_rfl) rfl (by kernel_rfl) (by kernel_rfl) (y_move rfl) rfl ?_
  refine a_y (i := 1) (Cls.gs _ _) (by kernel_rfl) rfl (by kernel_rfl) (by kernel_rfl) (y_indexArr Tryz.underlying109 ty2 rfl rfl (by decide) (by decide)) rfl ?_
  refine a_y (i := 2) (Cls.gs _ _) (by kernel_rfl) rfl (by kernel_rfl) (by kernel_rfl) (y_load rfl (LoadAt.oneL .z ty2 (.s (.s .z)))) rfl ?_
  refine a_y (i := 3) (Cls.gs _ _) (by kernel_rfl) rfl (by kernel_rfl) (by kernel_rfl) (y_move rfl) rfl ?_
  refine a_y (i := 4) (Cls.gs _ _) (by kernel_rfl) rfl (by kernel_rfl) (by kernel_rfl) (y_indexArr Tryz.underlying109 ty2 rfl rfl (by decide) (by decide)) rfl ?_
  refine a_y (i := 5) (Cls.gs _ _) (by kernel_rfl) rfl (by kernel_rfl) (by kernel_rfl) (y_load rfl (LoadAt.oneL .z ty2 (.s (.s .z)))) rfl ?_
  refine a_y (i := 6) (Cls.gs _ _) (by kernel_rfl) rfl (by kernel_rfl) (by kernel_rfl) ((y_neg rfl).lit (by kernel_rfl : _ = Value.int .i64 (-2))) rfl ?_
  refine a_y (i := 7) (Cls.gs _ _) (by kernel_rfl) rfl (by kernel_rfl) (by kernel_rfl) ((y_max2 rfl rfl).lit (by kernel_rfl : _ = Value.int .i64 2)) rfl ?_
  refine a_y (i := 8) (Cls.gs _ _) (by kernel_rfl) rfl (by kernel_rfl) (by kernel_rfl) (y_move rfl) rfl ?_
  refine a_y (i := 9) (Cls.gs _ _) (by kernel_rfl) rfl (by kernel_rfl) (by kernel_rfl) (y_indexArr Tryz.underlying109 ty2 rfl rfl (by decide) (by decide)) rfl ?_
  refine a_y (i := 10) (Cls.gs _ _) (by kernel_rfl) rfl (by kernel_rfl) (by kernel_rfl) (y_load rfl (LoadAt.oneL .z ty2 .z)) rfl ?_
  refine a_y (i := 11) (Cls.gs _ _) (by kernel_rfl) rfl (by kernel_rfl) (by kernel_rfl) (y_move rfl) rfl ?_
  refine a_y (i := 12) (Cls.gs _ _) (by kernel_rfl) rfl (by kernel_rfl) (by kernel_rfl) (y_indexArr Tryz.underlying109 ty2 rfl rfl (by decide) (by decide)) rfl ?_
  refine a_y (i := 13) (Cls.gs _ _) (by kernel_rfl) rfl (by kernel_rfl) (by kernel_rfl) (y_load rfl (LoadAt.oneL .z ty2 .z)) rfl ?_
  refine a_y (i := 14) (Cls.gs _ _) (by kernel_rfl) rfl (by kernel_rfl) (by kernel_rfl) ((y_neg rfl).lit (by kernel_rfl : _ = Value.int .i64 (-3))) rfl ?_
  refine a_y (i := 15) (Cls.gs _ _) (by kernel_rfl) rfl (by kernel_rfl) (by kernel_rfl) ((y_max2 rfl rfl).lit (by kernel_rfl : _ = Value.int .i64 3)) rfl ?_
  refine a_y (i := 16) (Cls.gs _ _) (by kernel_rfl) rfl (by kernel_rfl) (by kernel_rfl) ((y_gtr rfl rfl).lit (by kernel_rfl : _ = Value.bool false)) rfl ?_
  refine a_done (by kernel_rfl) ?_
  refine e_then ?_
  refine CJ.weak (.c (t := 3) rfl (.c (t := 4) rfl (.c (t := 5) rfl (.c (t := 8) rfl (.c (t := 27) rfl .n))))) (fun _ h => h) ?_
  refine c_false (by kernel_rfl) ?_
  refine c_skip ?_
  refine e_block ?_
  refine e_then ?_
  refine CJ.weak (.c (t := 3) rfl (.c (t := 4) rfl (.c (t := 8) rfl .n))) (fun _ h => h) ?_
  refine c_text ?_
  refine l_y (Cls.gs _ _) ((y_add rfl rfl).lit (by kernel_rfl : _ = Value.int .i64 3)) rfl ?_
  refine l_y (Cls.gs _ _) (y_move rfl) rfl ?_
  refine l_nil ?_
  refine e_rounds ?_
  refine RJ.weak (.c (t := 3) rfl (.c (t := 4) rfl (.c (t := 8) rfl .n))) (fun _ h => h) ?_
  refine r_succ ?_
  refine c_seq ?_
  refine c_text ?_
  refine l_y (Cls.gs _ _) ((y_lss rfl rfl).lit (by kernel_rfl : _ = Value.bool false)) rfl ?_
  refine l_nil ?_
  refine e_then ?_
  refine c_seq ?_
  refine c_false (by kernel_rfl) ?_
  refine c_exit ?_
  refine e_then_exit ?_
  refine e_then_exit ?_
  refine e_block_hit ?_
  refine e_then ?_
  refine CJ.weak (.c (t := 3) rfl (.c (t := 4) rfl .n)) (fun _ h => h) ?_
  refine c_seq ?_
  refine c_seq ?_
  refine c_text ?_
  refine l_y (Cls.gs _ _) (y_move rfl) rfl ?_
  refine l_y (Cls.gs _ _) (y_indexArr Tryz.underlying109 ty2 rfl rfl (by decide) (by decide)) rfl ?_
  refine l_y (Cls.gs _ _) (y_load rfl (LoadAt.oneL .z ty2 .z)) rfl ?_
  refine l_y (Cls.gs _ _) ((y_lss rfl rfl).lit (by kernel_rfl : _ = Value.bool false)) rfl ?_
  refine l_nil ?_
  refine e_then ?_
  refine CJ.weak (.c (t := 4) rfl (.c (t := 33) rfl .n)) (fun _ h => h) ?_
  refine c_false (by kernel_rfl) ?_
  refine c_skip ?_
  refine e_then ?_
  refine CJ.weak (.c (t := 4) rfl .n) (fun _ h => h) ?_
  refine c_seq ?_
  refine c_text ?_
  refine l_y (Cls.gs _ _) (y_move rfl) rfl ?_
  refine l_y (Cls.gs _ _) ((y_mul rfl rfl).lit (by kernel_rfl : _ = Value.int .i64 0)) rfl ?_
  refine l_y (Cls.gs _ _) (y_assign rfl) rfl ?_
  refine l_nil ?_
  refine e_then ?_
  refine CJ.weak (.c (t := 2) rfl .n) (fun _ h => h) ?_
  refine c_ret ?_
  refine e_ret rfl (.t rfl .n) (fun wF hw => ?_)
  exact ⟨rfl, (hw.anc (w, []) (by simp)).below⟩

theorem c40_0 (w : World) : Calls Tryz.prog 40 #[.int .i64 0] w fun e w' => e = .returned (.tuple #[.int .i64 0, .int .i64 1, .int .i64 2]) ∧ Gr w w' := by
  refine enter Tryz.func40 rfl rfl rfl rfl (Cls.start w) ?_
  refine c_seq ?_
  refine c_text ?_
  refine l_y (Cls.gs _ _) (y_assign rfl) rfl ?_
  refine l_y (Cls.gs _ _) (y_assign rfl) rfl ?_
  refine l_y (Cls.gs _ _) (y_assign rfl) rfl ?_
  refine l_nil ?_
  refine e_then ?_
  refine CJ.weak (.c (t := 0) rfl .n) (fun _ h => h) ?_
  refine c_seq ?_
  refine c_text ?_
  refine l_y (Cls.gs _ _) (y_move rfl) rfl ?_
  refine l_y (Cls.gs _ _) ((y_quo rfl rfl (by decide)).lit (by kernel_rfl : _ = Value.int .i64 0)) rfl ?_
  refine l_y (Cls.gs _ _) (y_assign rfl) rfl ?_
  refine l_nil ?_
  refine e_then ?_
  refine CJ.weak (.c (t := 5) rfl .n) (fun _ h => h) ?_
  refine c_seq ?_
  refine c_text ?_
  refine l_y (Cls.gs _ _) (y_move rfl) rfl ?_
  refine l_y (Cls.gs _ _) (y_move rfl) rfl ?_
  refine l_y (Cls.gs _ _) ((y_add rfl rfl).lit (by kernel_rfl : _ = Value.int .i64 1)) rfl ?_
  refine l_y (Cls.gs _ _) ((y_rem rfl rfl (by decide)).lit (by kernel_rfl : _ = Value.int .i64 1)) rfl ?_
  refine l_y (Cls.gs _ _) (y_move rfl) rfl ?_
  refine l_y (Cls.gs _ _) ((y_add rfl rfl).lit (by kernel_rfl : _ = Value.int .i64 2)) rfl ?_
  refine l_y (Cls.gs _ _) ((y_rem rfl rfl (by decide)).lit (by kernel_rfl : _ = Value.int .i64 2)) rfl ?_
  refine l_y (Cls.gs _ _) (y_assign rfl) rfl ?_
  refine l_y (Cls.gs _ _) (y_assign rfl) rfl ?_
  refine l_y (Cls.gs _ _) (y_assign rfl) rfl ?_
  refine l_nil ?_
  refine e_then ?_
  refine CJ.weak (.c (t := 2) rfl (.c (t := 3) rfl (.c (t := 4) rfl .n))) (fun _ h => h) ?_
  refine c_ret ?_
  refine e_ret rfl (.t rfl (.t rfl (.t rfl .n))) (fun wF hw => ?_)
  exact ⟨rfl, (hw.anc (w, []) (by simp)).below⟩

theorem c41_0 (p0 : Nat) (p1 : Nat) (w : World) (hp0 : w.heap[p0]? = some (blk [.int .i64 3] 2)) (hp1 : w.heap[p1]? = some (blk [.int .i64 1] 3)) : Calls Tryz.prog 41 #[.int .i64 (-1), .pointer (some ⟨p0, 0, none⟩), .pointer (some ⟨p1, 0, none⟩)] w fun e w' => e = .returned (.int .i64 0) ∧ Gr w w' := by
  refine enter Tryz.func41 rfl rfl rfl rfl (Cls.start w) ?_
  refine c_seq ?_
  refine c_text ?_
  refine l_y (Cls.gs _ _) (y_assign rfl) rfl ?_
  refine l_nil ?_
  refine e_then ?_
  refine CJ.weak (.c (t := 0) rfl (.c (t := 1) rfl (.c (t := 2) rfl .n))) (fun _ h => h) ?_
  refine c_seq ?_
  refine c_draw (m := 13) (S0 := fun _ => True) (fun _ => false) (fun _ _ => trivial) hmix (Cls.gs _ _) rfl ?_
  refine a_y (i := 0) (Cls.gs _ _) (by kernel_rfl) rfl (by kernel_rfl) (by kernel_rfl) (y_move rfl) rfl ?_
  refine a_y (i := 1) (Cls.gs _ _) (by kernel_rfl) rfl (by kernel_rfl) (by kernel_rfl) (y_load rfl (LoadAt.oneB .z hp0 ty2 .z)) rfl ?_
  refine a_y (i := 2) (Cls.gs _ _) (by kernel_rfl) rfl (by kernel_rfl) (by kernel_rfl) ((y_add rfl rfl).lit (by kernel_rfl : _ = Value.int .i64 2)) rfl ?_
  refine a_y (i := 3) (Cls.gs _ _) (by kernel_rfl) rfl (by kernel_rfl) (by kernel_rfl) (y_load rfl (LoadAt.oneB .z hp1 ty3 .z)) rfl ?_
  refine a_y (i := 4) (Cls.gs _ _) (by kernel_rfl) rfl (by kernel_rfl) (by kernel_rfl) ((y_shl rfl rfl (by decide)).lit (by kernel_rfl : _ = Value.int .i64 4)) rfl ?_
  refine a_y (i := 5) (Cls.gs _ _) (by kernel_rfl) rfl (by kernel_rfl) (by kernel_rfl) (y_load rfl (LoadAt.oneB .z hp0 ty2 .z)) rfl ?_
  refine a_y (i := 6) (Cls.gs _ _) (by kernel_rfl) rfl (by kernel_rfl) (by kernel_rfl) ((y_mul rfl rfl).lit (by kernel_rfl : _ = Value.int .i64 6)) rfl ?_
  refine a_y (i := 7) (Cls.gs _ _) (by kernel_rfl) rfl (by kernel_rfl) (by kernel_rfl) ((y_quo rfl rfl (by decide)).lit (by kernel_rfl : _ = Value.int .i64 0)) rfl ?_
  refine a_y (i := 8) (Cls.gs _ _) (by kernel_rfl) rfl (by kernel_rfl) (by kernel_rfl) (y_load rfl (LoadAt.oneB .z hp1 ty3 .z)) rfl ?_
  refine a_y (i := 9) (Cls.gs _ _) (by kernel_rfl) rfl (by kernel_rfl) (by kernel_rfl) ((y_shl rfl rfl (by decide)).lit (by kernel_rfl : _ = Value.int .i64 2)) rfl ?_
  refine a_y (i := 10) (Cls.gs _ _) (by kernel_rfl) rfl (by kernel_rfl) (by kernel_rfl) ((y_sub rfl rfl).lit (by kernel_rfl : _ = Value.int .i64 1)) rfl ?_
  refine a_y (i := 11) (Cls.gs _ _) (by kernel_rfl) rfl (by kernel_rfl) (by kernel_rfl) ((y_min2 rfl rfl).lit (by kernel_rfl : _ = Value.int .i64 0)) rfl ?_
  refine a_y (i := 12) (Cls.gs _ _) (by kernel_rfl) rfl (by kernel_rfl) (by kernel_rfl) (y_assign rfl) rfl ?_
  refine a_done (by kernel_rfl) ?_
  refine e_then ?_
  refine CJ.weak (.c (t := 4) rfl .n) (fun _ h => h) ?_
  refine c_ret ?_
  refine e_ret rfl (.t rfl .n) (fun wF hw => ?_)
  exact ⟨rfl, (hw.anc (w, []) (by simp)).below⟩

theorem c41_1 (p0 : Nat) (p1 : Nat) (w : World) (hp0 : w.heap[p0]? = some (blk [.int .i64 3] 2)) (hp1 : w.heap[p1]? = some (blk [.int .i64 1] 3)) : Calls Tryz.prog 41 #[.int .i64 2, .pointer (some ⟨p0, 0, none⟩), .pointer (some ⟨p1, 0, none⟩)] w fun e w' => e = .returned (.int .i64 1) ∧ Gr w w' := by
  refine enter Tryz.func41 rfl rfl rfl rfl (Cls.start w) ?_
  refine c_seq ?_
  refine c_text ?_
  refine l_y (Cls.gs _ _) (y_assign rfl) rfl ?_
  refine l_nil ?_
  refine e_then ?_
  refine CJ.weak (.c (t := 0) rfl (.c (t := 1) rfl (.c (t := 2) rfl .n))) (fun _ h => h) ?_
  refine c_seq ?_
  refine c_draw (m := 13) (S0 := fun _ => True) (fun _ => false) (fun _ _ => trivial) hmix (Cls.gs _ _) rfl ?_
  refine a_y (i := 0) (Cls.gs _ _) (by kernel_rfl) rfl (by kernel_rfl) (by kernel_rfl) (y_move rfl) rfl ?_
  refine a_y (i := 1) (Cls.gs _ _) (by kernel_rfl) rfl (by kernel_rfl) (by kernel_rfl) (y_load rfl (LoadAt.oneB .z hp0 ty2 .z)) rfl ?_
  refine a_y (i := 2) (Cls.gs _ _) (by kernel_rfl) rfl (by kernel_rfl) (by kernel_rfl) ((y_add rfl rfl).lit (by kernel_rfl : _ = Value.int .i64 5)) rfl ?_
  refine a_y (i := 3) (Cls.gs _ _) (by kernel_rfl) rfl (by kernel_rfl) (by kernel_rfl) (y_load rfl (LoadAt.oneB .z hp1 ty3 .z)) rfl ?_
  refine a_y (i := 4) (Cls.gs _ _) (by kernel_rfl) rfl (by kernel_rfl) (by kernel_rfl) ((y_shl rfl rfl (by decide)).lit (by kernel_rfl : _ = Value.int .i64 10)) rfl ?_
  refine a_y (i := 5) (Cls.gs _ _) (by kernel_rfl) rfl (by kernel_rfl) (by kernel_rfl) (y_load rfl (LoadAt.oneB .z hp0 ty2 .z)) rfl ?_
  refine a_y (i := 6) (Cls.gs _ _) (by kernel_rfl) rfl (by kernel_rfl) (by kernel_rfl) ((y_mul rfl rfl).lit (by kernel_rfl : _ = Value.int .i64 6)) rfl ?_
  refine a_y (i := 7) (Cls.gs _ _) (by kernel_rfl) rfl (by kernel_rfl) (by kernel_rfl) ((y_quo rfl rfl (by decide)).lit (by kernel_rfl : _ = Value.int .i64 1)) rfl ?_
  refine a_y (i := 8) (Cls.gs _ _) (by kernel_rfl) rfl (by kernel_rfl) (by kernel_rfl) (y_load rfl (LoadAt.oneB .z hp1 ty3 .z)) rfl ?_
  refine a_y (i := 9) (Cls.gs _ _) (by kernel_rfl) rfl (by kernel_rfl) (by kernel_rfl) ((y_shl rfl rfl (by decide)).lit (by kernel_rfl : _ = Value.int .i64 2)) rfl ?_
  refine a_y (i := 10) (Cls.gs _ _) (by kernel_rfl) rfl (by kernel_rfl) (by kernel_rfl) ((y_sub rfl rfl).lit (by kernel_rfl : _ = Value.int .i64 1)) rfl ?_
  refine a_y (i := 11) (Cls.gs _ _) (by kernel_rfl) rfl (by kernel_rfl) (by kernel_rfl) ((y_min2 rfl rfl).lit (by kernel_rfl : _ = Value.int .i64 1)) rfl ?_
  refine a_y (i := 12) (Cls.gs _ _) (by kernel_rfl) rfl (by kernel_rfl) (by kernel_rfl) (y_assign rfl) rfl ?_
  refine a_done (by kernel_rfl) ?_
  refine e_then ?_
  refine CJ.weak (.c (t := 4) rfl .n) (fun _ h => h) ?_
  refine c_ret ?_
  refine e_ret rfl (.t rfl .n) (fun wF hw => ?_)
  exact ⟨rfl, (hw.anc (w, []) (by simp)).below⟩

theorem c15_0 (w : World) : Calls Tryz.prog 15 #[.agg #[.int .i64 3, .int .i64 (-1), .int .i64 2], .int .i64 1] w fun e w' => e = .returned (.tuple #[.int .i64 34, .int .i64 0]) ∧ Gr w w' := by
  refine enter Tryz.func15 rfl rfl rfl rfl (Cls.start w) ?_
  refine c_seq ?_
  refine c_text ?_
  refine l_n rfl (n_box rfl .a rfl) (fun b0 _ => ?_)
  refine l_n rfl (n_box rfl (.o rfl) rfl) (fun b1 _ => ?_)
  refine l_y (Cls.gs _ _) (y_assign rfl) rfl ?_
  refine l_y (Cls.gs _ _) (y_assign rfl) rfl ?_
  refine l_nil ?_
  refine e_then ?_
  refine CJ.weak (.c (t := 2) rfl (.c (t := 3) rfl .n)) (fun _ h => h) ?_
  refine c_seq ?_
  refine c_seq ?_
  refine c_text ?_
  refine l_y (Cls.gs _ _) (y_load rfl (LoadAt.aggL (.s .z) ty36 (.t (.t (.t .d))))) rfl ?_
  refine l_y (Cls.gs _ _) (y_call ent35 (.c rfl .n) (fun w hw => c35_1  w )) rfl ?_
  refine l_y (Cls.gs _ _) (y_assign rfl) rfl ?_
  refine l_nil ?_
  refine e_then ?_
  refine CJ.weak (.c (t := 2) rfl (.c (t := 3) rfl (.c (t := 6) rfl .n))) (fun _ h => h) ?_
  refine c_seq ?_
  refine c_text ?_
  refine l_y (Cls.gs _ _) (y_move rfl) rfl ?_
  refine l_y (Cls.gs _ _) ((y_neq rfl rfl).lit (by kernel_rfl : _ = Value.bool false)) rfl ?_
  refine l_nil ?_
  refine e_then ?_
  refine CJ.weak (.c (t := 2) rfl (.c (t := 3) rfl (.c (t := 6) rfl (.c (t := 21) rfl .n)))) (fun _ h => h) ?_
  refine c_false (by kernel_rfl) ?_
  refine c_skip ?_
  refine e_then ?_
  refine CJ.weak (.c (t := 2) rfl (.c (t := 3) rfl .n)) (fun _ h => h) ?_
  refine c_seq ?_
  refine c_seq ?_
  refine c_text ?_
  refine l_y (Cls.gs _ _) (y_load rfl (LoadAt.oneL .z ty3 .z)) rfl ?_
  refine l_y (Cls.gs _ _) ((y_lss rfl rfl).lit (by kernel_rfl : _ = Value.bool false)) rfl ?_
  refine l_y (Cls.gs _ _) (y_move rfl) rfl ?_
  refine l_g (s := 25) (Cls.gs _ _) (by kernel_rfl) rfl (beq_f _) (fun hg => y_load rfl (LoadAt.oneL .z ty3 .z)) rfl ?_
  refine l_g (s := 25) (Cls.gs _ _) (by kernel_rfl) rfl (beq_f _) (fun hg => (y_gtr (gvt hg rfl) rfl).lit (by kernel_rfl : _ = Value.bool false)) rfl ?_
  refine l_y (Cls.gs _ _) ((y_or rfl rfl rfl).lit (by kernel_rfl : _ = Value.bool false)) rfl ?_
  refine l_nil ?_
  refine e_then ?_
  refine CJ.weak (.c (t := 2) rfl (.c (t := 3) rfl (.c (t := 28) rfl .n))) (fun _ h => h) ?_
  refine c_false (by kernel_rfl) ?_
  refine c_skip ?_
  refine e_then ?_
  refine CJ.weak (.c (t := 2) rfl (.c (t := 3) rfl .n)) (fun _ h => h) ?_
  refine c_seq ?_
  refine c_text ?_
  refine l_y (Cls.gs _ _) (y_load rfl (LoadAt.aggL (.s .z) ty36 (.t (.t (.t .d))))) rfl ?_
  refine l_y (Cls.gs _ _) (y_call ent38 (.c rfl .n) (fun w hw => c38_0  w )) rfl ?_
  refine l_y (Cls.gs _ _) (y_assign rfl) rfl ?_
  refine l_nil ?_
  refine e_then ?_
  refine CJ.weak (.c (t := 2) rfl (.c (t := 3) rfl (.c (t := 7) rfl .n))) (fun _ h => h) ?_
  refine c_seq ?_
  refine c_text ?_
  refine l_y (Cls.gs _ _) (y_load rfl (LoadAt.aggL (.s .z) ty36 (.t (.t (.t .d))))) rfl ?_
  refine l_y (Cls.gs _ _) (y_call ent39 (.c rfl .n) (fun w hw => c39_0  w )) rfl ?_
  refine l_n rfl (n_alloc ty109 .a rfl) (fun b2 _ => ?_)
  refine l_n rfl (n_store rfl rfl ty109 .a rfl rfl .z (.t (.t (.t .d)))) (fun _ _ => ?_)
  refine l_nil ?_
  refine e_then ?_
  refine CJ.weak (.c (t := 3) rfl (.c (t := 7) rfl (.c (t := 8) rfl .n))) (fun _ h => h) ?_
  refine c_seq ?_
  refine c_text ?_
  refine l_y (Cls.gs _ _) (y_move rfl) rfl ?_
  refine l_y (Cls.gs _ _) (y_call ent40 (.c rfl .n) (fun w hw => c40_0  w )) rfl ?_
  refine l_y (Cls.gs _ _) (y_move rfl) rfl ?_
  refine l_y (Cls.gs _ _) (y_extract rfl .z) rfl ?_
  refine l_y (Cls.gs _ _) (y_extract rfl (.s .z)) rfl ?_
  refine l_y (Cls.gs _ _) (y_extract rfl (.s (.s .z))) rfl ?_
  refine l_y (Cls.gs _ _) (y_assign rfl) rfl ?_
  refine l_y (Cls.gs _ _) (y_assign rfl) rfl ?_
  refine l_y (Cls.gs _ _) (y_assign rfl) rfl ?_
  refine l_nil ?_
  refine e_then ?_
  refine CJ.weak (.c (t := 3) rfl (.c (t := 7) rfl (.c (t := 8) rfl (.c (t := 9) rfl (.c (t := 10) rfl (.c (t := 11) rfl .n)))))) (fun _ h => h) ?_
  refine c_seq ?_
  refine c_draw (m := 10) (S0 := fun _ => True) (fun i => Nat.beq i 9) (fun _ _ => trivial) hmix (Cls.gs _ _) rfl ?_
  refine a_y (i := 0) (Cls.gs _ _) (by kernel_rfl) rfl (by kernel_rfl) (by kernel_rfl) (y_move rfl) rfl ?_
  refine a_y (i := 1) (Cls.gs _ _) (by kernel_rfl) rfl (by kernel_rfl) (by kernel_rfl) (y_indexArr Tryz.underlying109 ty2 rfl rfl (by decide) (by decide)) rfl ?_
  refine a_y (i := 2) (Cls.gs _ _) (by kernel_rfl) rfl (by kernel_rfl) (by kernel_rfl) (y_load rfl (LoadAt.oneL .z ty2 .z)) rfl ?_
  refine a_y (i := 3) (Cls.gs _ _) (by kernel_rfl) rfl (by kernel_rfl) (by kernel_rfl) (y_move rfl) rfl ?_
  refine a_y (i := 4) (Cls.gs _ _) (by kernel_rfl) rfl (by kernel_rfl) (by kernel_rfl) (y_indexArr Tryz.underlying109 ty2 rfl rfl (by decide) (by decide)) rfl ?_
  refine a_y (i := 5) (Cls.gs _ _) (by kernel_rfl) rfl (by kernel_rfl) (by kernel_rfl) (y_load rfl (LoadAt.oneL .z ty2 .z)) rfl ?_
  refine a_y (i := 6) (Cls.gs _ _) (by kernel_rfl) rfl (by kernel_rfl) (by kernel_rfl) ((y_neg rfl).lit (by kernel_rfl : _ = Value.int .i64 (-3))) rfl ?_
  refine a_y (i := 7) (Cls.gs _ _) (by kernel_rfl) rfl (by kernel_rfl) (by kernel_rfl) ((y_max2 rfl rfl).lit (by kernel_rfl : _ = Value.int .i64 3)) rfl ?_
  refine a_n (i := 8) rfl rfl (by kernel_rfl) (fun _ => Cls.gs _ _) (.inr fun _ _ h => h.tail) (n_alloc ty2 (.o rfl) rfl) (fun b3 _ => ?_)
  refine a_n (i := 9) rfl rfl (by kernel_rfl) (fun _ => Cls.gs _ _) (.inl ⟨rfl, fun _ _ _ => trivial⟩) (n_store rfl rfl ty2 (.o rfl) rfl rfl .z (.t .d)) (fun _ _ => ?_)
  refine a_done (by kernel_rfl) ?_
  refine e_then ?_
  refine CJ.weak (.c (t := 3) rfl (.c (t := 7) rfl (.c (t := 8) rfl (.c (t := 10) rfl (.c (t := 11) rfl (.c (t := 12) rfl .n)))))) (fun _ h => h) ?_
  refine c_seq ?_
  refine c_text ?_
  refine l_y (Cls.gs _ _) (y_makeFunc .n (.c rfl (.c rfl .n))) rfl ?_
  refine l_y (Cls.gs _ _) (y_assign rfl) rfl ?_
  refine l_nil ?_
  refine e_then ?_
  refine CJ.weak (.c (t := 3) rfl (.c (t := 7) rfl (.c (t := 8) rfl (.c (t := 10) rfl (.c (t := 11) rfl (.c (t := 13) rfl .n)))))) (fun _ h => h) ?_
  refine c_seq ?_
  refine c_text ?_
  refine l_y (Cls.gs _ _) (y_move rfl) rfl ?_
  refine l_y (Cls.gs _ _) ((y_add rfl rfl).lit (by kernel_rfl : _ = Value.int .i64 8)) rfl ?_
  refine l_y (Cls.gs _ _) (y_assign rfl) rfl ?_
  refine l_nil ?_
  refine e_then ?_
  refine CJ.weak (.c (t := 3) rfl (.c (t := 8) rfl (.c (t := 10) rfl (.c (t := 11) rfl (.c (t := 13) rfl (.c (t := 14) rfl .n)))))) (fun _ h => h) ?_
  refine c_seq ?_
  refine c_seq ?_
  refine c_draw (m := 15) (S0 := fun _ => True) (fun _ => false) (fun _ _ => trivial) hmix (Cls.gs _ _) rfl ?_
  refine a_y (i := 0) (Cls.gs _ _) (by kernel_rfl) rfl (by kernel_rfl) (by kernel_rfl) (y_load rfl (LoadAt.oneL (.s (.s .z)) ty3 .z)) rfl ?_
  refine a_y (i := 1) (Cls.gs _ _) (by kernel_rfl) rfl (by kernel_rfl) (by kernel_rfl) ((y_sub rfl rfl).lit (by kernel_rfl : _ = Value.int .i64 0)) rfl ?_
  refine a_y (i := 2) (Cls.gs _ _) (by kernel_rfl) rfl (by kernel_rfl) (by kernel_rfl) (y_move rfl) rfl ?_
  refine a_y (i := 3) (Cls.gs _ _) (by kernel_rfl) rfl (by kernel_rfl) (by kernel_rfl) (y_move rfl) rfl ?_
  refine a_y (i := 4) (Cls.gs _ _) (by kernel_rfl) rfl (by kernel_rfl) (by kernel_rfl) (y_indexArr Tryz.underlying109 ty2 rfl rfl (by decide) (by decide)) rfl ?_
  refine a_y (i := 5) (Cls.gs _ _) (by kernel_rfl) rfl (by kernel_rfl) (by kernel_rfl) (y_load rfl (LoadAt.oneL (.s .z) ty2 (.s .z))) rfl ?_
  refine a_y (i := 6) (Cls.gs _ _) (by kernel_rfl) rfl (by kernel_rfl) (by kernel_rfl) (y_callv ent41 rfl (.c rfl .n) (fun w hw => c41_0 _ _ w (hw.locM .z) (hw.locM (.s (.s .z))))) rfl ?_
  refine a_y (i := 7) (Cls.gs _ _) (by kernel_rfl) rfl (by kernel_rfl) (by kernel_rfl) (y_move rfl) rfl ?_
  refine a_y (i := 8) (Cls.gs _ _) (by kernel_rfl) rfl (by kernel_rfl) (by kernel_rfl) (y_move rfl) rfl ?_
  refine a_y (i := 9) (Cls.gs _ _) (by kernel_rfl) rfl (by kernel_rfl) (by kernel_rfl) (y_indexArr Tryz.underlying109 ty2 rfl rfl (by decide) (by decide)) rfl ?_
  refine a_y (i := 10) (Cls.gs _ _) (by kernel_rfl) rfl (by kernel_rfl) (by kernel_rfl) (y_load rfl (LoadAt.oneL (.s .z) ty2 (.s (.s .z)))) rfl ?_
  refine a_y (i := 11) (Cls.gs _ _) (by kernel_rfl) rfl (by kernel_rfl) (by kernel_rfl) (y_callv ent41 rfl (.c rfl .n) (fun w hw => c41_1 _ _ w (hw.locM .z) (hw.locM (.s (.s .z))))) rfl ?_
  refine a_y (i := 12) (Cls.gs _ _) (by kernel_rfl) rfl (by kernel_rfl) (by kernel_rfl) (y_assign rfl) rfl ?_
  refine a_y (i := 13) (Cls.gs _ _) (by kernel_rfl) rfl (by kernel_rfl) (by kernel_rfl) (y_assign rfl) rfl ?_
  refine a_y (i := 14) (Cls.gs _ _) (by kernel_rfl) rfl (by kernel_rfl) (by kernel_rfl) (y_assign rfl) rfl ?_
  refine a_done (by kernel_rfl) ?_
  refine e_then ?_
  refine CJ.weak (.c (t := 14) rfl (.c (t := 15) rfl (.c (t := 16) rfl (.c (t := 17) rfl .n)))) (fun _ h => h) ?_
  refine c_block ?_
  refine c_rounds 80 ?_
  refine r_succ ?_
  refine c_seq ?_
  refine c_seq ?_
  refine c_text ?_
  refine l_y (Cls.gs _ _) (y_move rfl) rfl ?_
  refine l_y (Cls.gs _ _) ((y_geq rfl rfl).lit (by kernel_rfl : _ = Value.bool true)) rfl ?_
  refine l_nil ?_
  refine e_then ?_
  refine CJ.weak (.c (t := 14) rfl (.c (t := 15) rfl (.c (t := 16) rfl (.c (t := 17) rfl (.c (t := 63) rfl .n))))) (fun _ h => h) ?_
  refine c_true (by kernel_rfl) ?_
  refine c_skip ?_
  refine e_then ?_
  refine CJ.weak (.c (t := 14) rfl (.c (t := 15) rfl (.c (t := 16) rfl (.c (t := 17) rfl .n)))) (fun _ h => h) ?_
  refine c_seq ?_
  refine c_block ?_
  refine c_draw (m := 14) (S0 := fun _ => True) (fun _ => false) (fun _ _ => trivial) hmix (Cls.gs _ _) rfl ?_
  refine a_y (i := 0) (Cls.gs _ _) (by kernel_rfl) rfl (by kernel_rfl) (by kernel_rfl) (y_move rfl) rfl ?_
  refine a_y (i := 1) (Cls.gs _ _) (by kernel_rfl) rfl (by kernel_rfl) (by kernel_rfl) ((y_mul rfl rfl).lit (by kernel_rfl : _ = Value.int .i64 32)) rfl ?_
  refine a_y (i := 2) (Cls.gs _ _) (by kernel_rfl) rfl (by kernel_rfl) (by kernel_rfl) (y_move rfl) rfl ?_
  refine a_y (i := 3) (Cls.gs _ _) (by kernel_rfl) rfl (by kernel_rfl) (by kernel_rfl) (y_move rfl) rfl ?_
  refine a_y (i := 4) (Cls.gs _ _) (by kernel_rfl) rfl (by kernel_rfl) (by kernel_rfl) ((y_shr rfl rfl (by decide)).lit (by kernel_rfl : _ = Value.int .i64 0)) rfl ?_
  refine a_y (i := 5) (Cls.gs _ _) (by kernel_rfl) rfl (by kernel_rfl) (by kernel_rfl) ((y_band rfl rfl).lit (by kernel_rfl : _ = Value.int .i64 0)) rfl ?_
  refine a_y (i := 6) (Cls.gs _ _) (by kernel_rfl) rfl (by kernel_rfl) (by kernel_rfl) (y_move rfl) rfl ?_
  refine a_y (i := 7) (Cls.gs _ _) (by kernel_rfl) rfl (by kernel_rfl) (by kernel_rfl) (y_move rfl) rfl ?_
  refine a_y (i := 8) (Cls.gs _ _) (by kernel_rfl) rfl (by kernel_rfl) (by kernel_rfl) ((y_shr rfl rfl (by decide)).lit (by kernel_rfl : _ = Value.int .i64 1)) rfl ?_
  refine a_y (i := 9) (Cls.gs _ _) (by kernel_rfl) rfl (by kernel_rfl) (by kernel_rfl) ((y_band rfl rfl).lit (by kernel_rfl : _ = Value.int .i64 1)) rfl ?_
  refine a_y (i := 10) (Cls.gs _ _) (by kernel_rfl) rfl (by kernel_rfl) (by kernel_rfl) ((y_mul rfl rfl).lit (by kernel_rfl : _ = Value.int .i64 2)) rfl ?_
  refine a_y (i := 11) (Cls.gs _ _) (by kernel_rfl) rfl (by kernel_rfl) (by kernel_rfl) ((y_add rfl rfl).lit (by kernel_rfl : _ = Value.int .i64 2)) rfl ?_
  refine a_y (i := 12) (Cls.gs _ _) (by kernel_rfl) rfl (by kernel_rfl) (by kernel_rfl) ((y_add rfl rfl).lit (by kernel_rfl : _ = Value.int .i64 34)) rfl ?_
  refine a_y (i := 13) (Cls.gs _ _) (by kernel_rfl) rfl (by kernel_rfl) (by kernel_rfl) (y_assign rfl) rfl ?_
  refine a_done (by kernel_rfl) ?_
  refine e_block ?_
  refine e_then ?_
  refine CJ.weak (.c (t := 14) rfl (.c (t := 15) rfl (.c (t := 16) rfl (.c (t := 17) rfl .n)))) (fun _ h => h) ?_
  refine c_text ?_
  refine l_y (Cls.gs _ _) (y_move rfl) rfl ?_
  refine l_y (Cls.gs _ _) ((y_sub rfl rfl).lit (by kernel_rfl : _ = Value.int .i64 (-1))) rfl ?_
  refine l_y (Cls.gs _ _) (y_assign rfl) rfl ?_
  refine l_nil ?_
  refine e_rounds ?_
  refine RJ.weak (.c (t := 14) rfl (.c (t := 15) rfl (.c (t := 16) rfl (.c (t := 17) rfl .n)))) (fun _ h => h) ?_
  refine r_succ ?_
  refine c_seq ?_
  refine c_seq ?_
  refine c_text ?_
  refine l_y (Cls.gs _ _) (y_move rfl) rfl ?_
  refine l_y (Cls.gs _ _) ((y_geq rfl rfl).lit (by kernel_rfl : _ = Value.bool false)) rfl ?_
  refine l_nil ?_
  refine e_then ?_
  refine CJ.weak (.c (t := 14) rfl (.c (t := 15) rfl (.c (t := 16) rfl (.c (t := 17) rfl (.c (t := 63) rfl .n))))) (fun _ h => h) ?_
  refine c_false (by kernel_rfl) ?_
  refine c_exit ?_
  refine e_then_exit ?_
  refine e_then_exit ?_
  refine e_block_hit ?_
  refine e_then ?_
  refine CJ.weak (.c (t := 14) rfl .n) (fun _ h => h) ?_
  refine c_seq ?_
  refine c_text ?_
  refine l_y (Cls.gs _ _) (y_move rfl) rfl ?_
  refine l_y (Cls.gs _ _) (y_assign rfl) rfl ?_
  refine l_y (Cls.gs _ _) (y_assign rfl) rfl ?_
  refine l_nil ?_
  refine e_then ?_
  refine CJ.weak (.c (t := 4) rfl (.c (t := 5) rfl .n)) (fun _ h => h) ?_
  refine c_ret ?_
  refine e_ret rfl (.t rfl (.t rfl .n)) (fun wF hw => ?_)
  exact ⟨rfl, (hw.anc (w, []) (by simp)).below⟩

theorem c4_0 (w : World) : Calls Tryz.prog 4 #[] w fun e w' => e = .returned (.bool true) ∧ Gr w w' := by
  refine enter Tryz.func4 rfl rfl rfl rfl (Cls.start w) ?_
  refine c_seq ?_
  refine c_text ?_
  refine l_y (Cls.gs _ _) (y_assign rfl) rfl ?_
  refine l_nil ?_
  refine e_then ?_
  refine CJ.weak .n (fun _ h => h) ?_
  refine c_seq ?_
  refine c_text ?_
  refine l_y (Cls.gs _ _) (y_build pl70 ty70 .a (.c rfl .n) (.c rfl (.o rfl) rfl rfl (.t .d) .d)) rfl ?_
  refine l_y (Cls.gs _ _) (y_build pl36 ty36 .a (.c rfl (.c rfl (.c rfl .n))) (.c rfl (.o rfl) rfl rfl (.t .d) (.c rfl (.o rfl) rfl rfl (.s (.t .d)) (.c rfl (.o rfl) rfl rfl (.s (.s (.t .d))) .d)))) rfl ?_
  refine l_y (Cls.gs _ _) (y_call ent14 (.c rfl (.c rfl (.c rfl (.c rfl .n)))) (fun w hw => c14_0  w )) rfl ?_
  refine l_y (Cls.gs _ _) (y_move rfl) rfl ?_
  refine l_y (Cls.gs _ _) (y_extract rfl .z) rfl ?_
  refine l_y (Cls.gs _ _) (y_extract rfl (.s .z)) rfl ?_
  refine l_n rfl (n_alloc ty66 .a rfl) (fun b0 _ => ?_)
  refine l_n rfl (n_store rfl rfl ty66 .a rfl rfl .z (.t (.t .d))) (fun _ _ => ?_)
  refine l_y (Cls.gs _ _) (y_assign rfl) rfl ?_
  refine l_nil ?_
  refine e_then ?_
  refine CJ.weak (.c (t := 1) rfl (.c (t := 2) rfl .n)) (fun _ h => h) ?_
  refine c_seq ?_
  refine c_text ?_
  refine l_y (Cls.gs _ _) (y_build pl36 ty36 .a (.c rfl (.c rfl (.c rfl .n))) (.c rfl (.o rfl) rfl rfl (.t .d) (.c rfl (.o rfl) rfl rfl (.s (.t .d)) (.c rfl (.o rfl) rfl rfl (.s (.s (.t .d))) .d)))) rfl ?_
  refine l_y (Cls.gs _ _) (y_call ent15 (.c rfl (.c rfl .n)) (fun w hw => c15_0  w )) rfl ?_
  refine l_y (Cls.gs _ _) (y_move rfl) rfl ?_
  refine l_y (Cls.gs _ _) (y_extract rfl .z) rfl ?_
  refine l_y (Cls.gs _ _) (y_extract rfl (.s .z)) rfl ?_
  refine l_y (Cls.gs _ _) (y_assign rfl) rfl ?_
  refine l_y (Cls.gs _ _) (y_assign rfl) rfl ?_
  refine l_nil ?_
  refine e_then ?_
  refine CJ.weak (.c (t := 1) rfl (.c (t := 2) rfl (.c (t := 3) rfl (.c (t := 4) rfl .n)))) (fun _ h => h) ?_
  refine c_seq ?_
  refine c_text ?_
  refine l_y (Cls.gs _ _) (y_move rfl) rfl ?_
  refine l_y (Cls.gs _ _) ((y_eql rfl rfl).lit (by kernel_rfl : _ = Value.bool true)) rfl ?_
  refine l_y (Cls.gs _ _) (y_move rfl) rfl ?_
  refine l_g (s := 18) (Cls.gs _ _) (by kernel_rfl) rfl (beq_t _) (fun hg => y_move rfl) rfl ?_
  refine l_g (s := 18) (Cls.gs _ _) (by kernel_rfl) rfl (beq_t _) (fun hg => (y_eql (gvt hg rfl) rfl).lit (by kernel_rfl : _ = Value.bool true)) rfl ?_
  refine l_y (Cls.gs _ _) ((y_and rfl rfl rfl).lit (by kernel_rfl : _ = Value.bool true)) rfl ?_
  refine l_y (Cls.gs _ _) (y_move rfl) rfl ?_
  refine l_g (s := 22) (Cls.gs _ _) (by kernel_rfl) rfl (beq_t _) (fun hg => y_load rfl (LoadAt.aggL .z ty66 (.t (.t .d)))) rfl ?_
  refine l_g (s := 22) (Cls.gs _ _) (by kernel_rfl) rfl (beq_t _) (fun hg => y_build pl66 ty66 .a (.c rfl (.c rfl .n)) (.c rfl (.o rfl) rfl rfl (.t .d) (.c rfl (.o rfl) rfl rfl (.s (.t .d)) .d))) rfl ?_
  refine l_g (s := 22) (Cls.gs _ _) (by kernel_rfl) rfl (beq_t _) (fun hg => (y_eqA Tryz.underlying66 (by kernel_rfl) (by kernel_rfl) (gvt hg rfl) (gvt hg rfl) (.one rfl ty64 .z .z (.int Tryz.underlying64) (.one rfl ty64 (.s .z) (.s .z) (.int Tryz.underlying64) .nil))).lit (by kernel_rfl : _ = Value.bool true)) rfl ?_
  refine l_y (Cls.gs _ _) ((y_and rfl rfl rfl).lit (by kernel_rfl : _ = Value.bool true)) rfl ?_
  refine l_y (Cls.gs _ _) (y_move rfl) rfl ?_
  refine l_g (s := 27) (Cls.gs _ _) (by kernel_rfl) rfl (beq_t _) (fun hg => y_move rfl) rfl ?_
  refine l_g (s := 27) (Cls.gs _ _) (by kernel_rfl) rfl (beq_t _) (fun hg => (y_eql (gvt hg rfl) rfl).lit (by kernel_rfl : _ = Value.bool true)) rfl ?_
  refine l_y (Cls.gs _ _) ((y_and rfl rfl rfl).lit (by kernel_rfl : _ = Value.bool true)) rfl ?_
  refine l_y (Cls.gs _ _) (y_assign rfl) rfl ?_
  refine l_nil ?_
  refine e_then ?_
  refine CJ.weak (.c (t := 0) rfl .n) (fun _ h => h) ?_
  refine c_ret ?_
  refine e_ret rfl (.t rfl .n) (fun wF hw => ?_)
  exact ⟨rfl, (hw.anc (w, []) (by simp)).below⟩

end Go.Proofs.YtdpdahpkdimopaaGreat
