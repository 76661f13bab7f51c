/-
  A part of the proof of TopAskedElsewhere: walks of single functions.
-/
import Derived.Test.YtdpdahpkdimopaaGreatQf
import Derived.Test.YtdpdahpkdimopaaGreatB
import Derived.Test.YtdpdahpkdimopaaGreatQ7
import Derived.Test.YtdpdahpkdimopaaGreatQ14
import Derived.KernelRfl
set_option linter.unusedVariables false
set_option linter.unusedSimpArgs false
set_option maxRecDepth 100000
namespace Go.Proofs.YtdpdahpkdimopaaGreat
open Go Go.Px Sg
open Go.Px Sg
theorem parts39 (x y z : Int) (w : World) : Calls Tryz.prog 39 #[.agg #[.int .i64 x, .int .i64 y, .int .i64 z]] w fun e w' => e = .returned (.agg #[.int .i64 x, .int .i64 y, .int .i64 z]) ∧ Gr w w' := by
  refine enter Tryz.func39 rfl rfl rfl rfl (Cls.start w) ?_
  refine c_seq ?_
  refine c_text ?_
  refine l_n rfl (n_box rfl .a rfl) (fun b0 _ => ?_)
  refine l_n rfl (n_alloc ty109 .a rfl) (fun b1 _ => ?_)
  refine l_nil ?_
  refine e_then ?_
  refine CJ.weak (.c (t := 1) rfl (.c (t := 2) rfl .n)) (fun _ h => h) ?_
  refine c_seq ?_
  refine c_text ?_
  refine l_y (Cls.gs _ _) (y_fieldAddr rfl fa36_0) rfl ?_
  refine l_y (Cls.gs _ _) (y_load rfl (LoadAt.oneL (.s .z) ty2 .z)) rfl ?_
  refine l_y (Cls.gs _ _) (y_fieldAddr rfl fa36_1) rfl ?_
  refine l_y (Cls.gs _ _) (y_load rfl (LoadAt.oneL (.s .z) ty2 (.s .z))) rfl ?_
  refine l_y (Cls.gs _ _) (y_fieldAddr rfl fa36_2) rfl ?_
  refine l_y (Cls.gs _ _) (y_load rfl (LoadAt.oneL (.s .z) ty2 (.s (.s .z)))) rfl ?_
  refine l_y (Cls.gs _ _) (y_buildArr Tryz.underlying109 ty2 ty109 .a (.c rfl (.c rfl (.c rfl .n))) (.c rfl (.o rfl) rfl rfl (.t .d) (.c rfl (.o rfl) rfl rfl (.s (.t .d)) (.c rfl (.o rfl) rfl rfl (.s (.s (.t .d))) .d)))) rfl ?_
  refine l_n rfl (n_store rfl rfl ty109 .a rfl rfl .z (.t (.t (.t .d)))) (fun _ _ => ?_)
  refine l_nil ?_
  refine e_then ?_
  refine CJ.weak (.c (t := 2) rfl .n) (fun _ h => h) ?_
  refine c_ret ?_
  refine e_ret rfl (.c rfl (LoadAt.aggL .z ty109 (.t (.t (.t .d)))) .n) (fun wF hw => ?_)
  exact ⟨rfl, (hw.anc (w, []) (by simp)).below⟩

theorem face38 (x y z : Int) (hd : DirOK x y z) (w : World) : Calls Tryz.prog 38 #[.agg #[.int .i64 x, .int .i64 y, .int .i64 z]] w fun e w' => ∃ f : Int, e = .returned (.int .i64 f) ∧ Gr w w' ∧ FaceOK x y z f := by
  obtain ⟨h1, h2, h3, h4, h5, h6, h7⟩ := hd
  refine enter Tryz.func38 rfl rfl rfl rfl (Cls.start w) ?_
  refine c_seq ?_
  refine c_text ?_
  refine l_n rfl (n_box rfl .a rfl) (fun b0 _ => ?_)
  refine l_y (Cls.gs _ _) (y_assign rfl) rfl ?_
  refine l_nil ?_
  refine e_then ?_
  refine CJ.weak (.c (t := 1) rfl .n) (fun _ h => h) ?_
  refine c_seq ?_
  refine c_text ?_
  refine l_y (Cls.gs _ _) (y_load rfl (LoadAt.aggL .z ty36 (.t (.t (.t .d))))) rfl ?_
  refine l_y (Cls.gs _ _) (y_call ent39 (.c rfl .n) (fun w _ => parts39 _ _ _ w)) rfl ?_
  refine l_n rfl (n_alloc ty109 .a rfl) (fun b1 _ => ?_)
  refine l_n rfl (n_store rfl rfl ty109 .a rfl rfl .z (.t (.t (.t .d)))) (fun _ _ => ?_)
  refine l_nil ?_
  refine e_then ?_
  refine CJ.weak (.c (t := 3) rfl .n) (fun _ h => h) ?_
  refine c_seq ?_
  refine c_text ?_
  refine l_y (Cls.gs _ _) (y_assign rfl) rfl ?_
  refine l_nil ?_
  refine e_then ?_
  refine c_seq ?_
  refine c_seq ?_
  refine c_text ?_
  refine l_y (Cls.gs _ _) (y_move rfl) rfl ?_
  refine l_nil ?_
  refine e_then ?_
  refine c_block ?_
  refine c_rounds 4 ?_
  refine r_succ ?_
  refine c_seq ?_
  refine c_text ?_
  refine l_y (Cls.gs _ _) ((y_lss rfl rfl).lit (by kernel_rfl : _ = Value.bool true)) rfl ?_
  refine l_nil ?_
  refine e_then ?_
  refine c_seq ?_
  refine c_true (by kernel_rfl) ?_
  refine c_skip ?_
  refine e_then ?_
  refine CJ.weak (.c (t := 3) rfl (.c (t := 4) rfl (.c (t := 8) rfl .n))) (fun _ h => h) ?_
  refine c_seq ?_
  refine c_block ?_
  refine c_seq ?_
  refine c_text ?_
  refine l_y (Cls.gs _ _) (y_move rfl) rfl ?_
  refine l_y (Cls.gs _ _) (y_assign rfl) rfl ?_
  refine l_nil ?_
  refine e_then ?_
  refine CJ.weak (.c (t := 3) rfl (.c (t := 4) rfl (.c (t := 5) rfl (.c (t := 8) rfl .n)))) (fun _ h => h) ?_
  refine c_seq ?_
  refine c_draw (m := 17) (S0 := fun _ => True) (fun _ => false) (fun _ _ => trivial) hmix (Cls.gs _ _) rfl ?_
  refine a_y (i := 0) (Cls.gs _ _) (by kernel_rfl) rfl (by kernel_rfl) (by kernel_rfl) (y_move rfl) rfl ?_
  refine a_y (i := 1) (Cls.gs _ _) (by kernel_rfl) rfl (by kernel_rfl) (by kernel_rfl) (y_indexArr Tryz.underlying109 ty2 rfl rfl (by decide) (by decide)) rfl ?_
  refine a_y (i := 2) (Cls.gs _ _) (by kernel_rfl) rfl (by kernel_rfl) (by kernel_rfl) (y_load rfl (LoadAt.oneL .z ty2 .z)) rfl ?_
  refine a_y (i := 3) (Cls.gs _ _) (by kernel_rfl) rfl (by kernel_rfl) (by kernel_rfl) (y_move rfl) rfl ?_
  refine a_y (i := 4) (Cls.gs _ _) (by kernel_rfl) rfl (by kernel_rfl) (by kernel_rfl) (y_indexArr Tryz.underlying109 ty2 rfl rfl (by decide) (by decide)) rfl ?_
  refine a_y (i := 5) (Cls.gs _ _) (by kernel_rfl) rfl (by kernel_rfl) (by kernel_rfl) (y_load rfl (LoadAt.oneL .z ty2 .z)) rfl ?_
  refine a_y (i := 6) (Cls.gs _ _) (by kernel_rfl) rfl (by kernel_rfl) (by kernel_rfl) ((y_neg rfl).lit (lit64 rfl (by omega) (by omega))) rfl ?_
  refine a_y (i := 7) (Cls.gs _ _) (by kernel_rfl) rfl (by kernel_rfl) (by kernel_rfl) (y_max2 rfl rfl) rfl ?_
  refine a_y (i := 8) (Cls.gs _ _) (by kernel_rfl) rfl (by kernel_rfl) (by kernel_rfl) (y_move rfl) rfl ?_
  refine a_y (i := 9) (Cls.gs _ _) (by kernel_rfl) rfl (by kernel_rfl) (by kernel_rfl) (y_indexArr Tryz.underlying109 ty2 rfl rfl (by decide) (by decide)) rfl ?_
  refine a_y (i := 10) (Cls.gs _ _) (by kernel_rfl) rfl (by kernel_rfl) (by kernel_rfl) (y_load rfl (LoadAt.oneL .z ty2 .z)) rfl ?_
  refine a_y (i := 11) (Cls.gs _ _) (by kernel_rfl) rfl (by kernel_rfl) (by kernel_rfl) (y_move rfl) rfl ?_
  refine a_y (i := 12) (Cls.gs _ _) (by kernel_rfl) rfl (by kernel_rfl) (by kernel_rfl) (y_indexArr Tryz.underlying109 ty2 rfl rfl (by decide) (by decide)) rfl ?_
  refine a_y (i := 13) (Cls.gs _ _) (by kernel_rfl) rfl (by kernel_rfl) (by kernel_rfl) (y_load rfl (LoadAt.oneL .z ty2 .z)) rfl ?_
  refine a_y (i := 14) (Cls.gs _ _) (by kernel_rfl) rfl (by kernel_rfl) (by kernel_rfl) ((y_neg rfl).lit (lit64 rfl (by omega) (by omega))) rfl ?_
  refine a_y (i := 15) (Cls.gs _ _) (by kernel_rfl) rfl (by kernel_rfl) (by kernel_rfl) (y_max2 rfl rfl) rfl ?_
  refine a_y (i := 16) (Cls.gs _ _) (by kernel_rfl) rfl (by kernel_rfl) (by kernel_rfl) (y_gtr rfl rfl) rfl ?_
  refine a_done (by kernel_rfl) ?_
  refine e_then ?_
  refine CJ.weak (.c (t := 3) rfl (.c (t := 4) rfl (.c (t := 5) rfl (.c (t := 8) rfl (.c (t := 27) rfl .n))))) (fun _ h => h) ?_
  refine c_cond rfl (fun h0 => ?_) (fun h0 => ?_)
  ·
    refine c_text ?_
    refine l_y (Cls.gs _ _) (y_move rfl) rfl ?_
    refine l_y (Cls.gs _ _) (y_assign rfl) rfl ?_
    refine l_nil ?_
    refine e_block ?_
    refine e_then ?_
    refine CJ.weak (.c (t := 3) rfl (.c (t := 4) rfl (.c (t := 8) rfl .n))) (fun _ h => h) ?_
    refine c_text ?_
    refine l_y (Cls.gs _ _) ((y_add rfl rfl).lit (by kernel_rfl : _ = Value.int .i64 1)) rfl ?_
    refine l_y (Cls.gs _ _) (y_move rfl) rfl ?_
    refine l_nil ?_
    refine e_rounds ?_
    refine RJ.weak (.c (t := 3) rfl (.c (t := 4) rfl (.c (t := 8) rfl .n))) (fun _ h => h) ?_
    refine r_succ ?_
    refine c_seq ?_
    refine c_text ?_
    refine l_y (Cls.gs _ _) ((y_lss rfl rfl).lit (by kernel_rfl : _ = Value.bool true)) rfl ?_
    refine l_nil ?_
    refine e_then ?_
    refine c_seq ?_
    refine c_true (by kernel_rfl) ?_
    refine c_skip ?_
    refine e_then ?_
    refine CJ.weak (.c (t := 3) rfl (.c (t := 4) rfl (.c (t := 8) rfl .n))) (fun _ h => h) ?_
    refine c_seq ?_
    refine c_block ?_
    refine c_seq ?_
    refine c_text ?_
    refine l_y (Cls.gs _ _) (y_move rfl) rfl ?_
    refine l_y (Cls.gs _ _) (y_assign rfl) rfl ?_
    refine l_nil ?_
    refine e_then ?_
    refine CJ.weak (.c (t := 3) rfl (.c (t := 4) rfl (.c (t := 5) rfl (.c (t := 8) rfl .n)))) (fun _ h => h) ?_
    refine c_seq ?_
    refine c_draw (m := 17) (S0 := fun _ => True) (fun _ => false) (fun _ _ => trivial) hmix (Cls.gs _ _) rfl ?_
    refine a_y (i := 0) (Cls.gs _ _) (by kernel_rfl) rfl (by kernel_rfl) (by kernel_rfl) (y_move rfl) rfl ?_
    refine a_y (i := 1) (Cls.gs _ _) (by kernel_rfl) rfl (by kernel_rfl) (by kernel_rfl) (y_indexArr Tryz.underlying109 ty2 rfl rfl (by decide) (by decide)) rfl ?_
    refine a_y (i := 2) (Cls.gs _ _) (by kernel_rfl) rfl (by kernel_rfl) (by kernel_rfl) (y_load rfl (LoadAt.oneL .z ty2 (.s .z))) rfl ?_
    refine a_y (i := 3) (Cls.gs _ _) (by kernel_rfl) rfl (by kernel_rfl) (by kernel_rfl) (y_move rfl) rfl ?_
    refine a_y (i := 4) (Cls.gs _ _) (by kernel_rfl) rfl (by kernel_rfl) (by kernel_rfl) (y_indexArr Tryz.underlying109 ty2 rfl rfl (by decide) (by decide)) rfl ?_
    refine a_y (i := 5) (Cls.gs _ _) (by kernel_rfl) rfl (by kernel_rfl) (by kernel_rfl) (y_load rfl (LoadAt.oneL .z ty2 (.s .z))) rfl ?_
    refine a_y (i := 6) (Cls.gs _ _) (by kernel_rfl) rfl (by kernel_rfl) (by kernel_rfl) ((y_neg rfl).lit (lit64 rfl (by omega) (by omega))) rfl ?_
    refine a_y (i := 7) (Cls.gs _ _) (by kernel_rfl) rfl (by kernel_rfl) (by kernel_rfl) (y_max2 rfl rfl) rfl ?_
    refine a_y (i := 8) (Cls.gs _ _) (by kernel_rfl) rfl (by kernel_rfl) (by kernel_rfl) (y_move rfl) rfl ?_
    refine a_y (i := 9) (Cls.gs _ _) (by kernel_rfl) rfl (by kernel_rfl) (by kernel_rfl) (y_indexArr Tryz.underlying109 ty2 rfl rfl (by decide) (by decide)) rfl ?_
    refine a_y (i := 10) (Cls.gs _ _) (by kernel_rfl) rfl (by kernel_rfl) (by kernel_rfl) (y_load rfl (LoadAt.oneL .z ty2 .z)) rfl ?_
    refine a_y (i := 11) (Cls.gs _ _) (by kernel_rfl) rfl (by kernel_rfl) (by kernel_rfl) (y_move rfl) rfl ?_
    refine a_y (i := 12) (Cls.gs _ _) (by kernel_rfl) rfl (by kernel_rfl) (by kernel_rfl) (y_indexArr Tryz.underlying109 ty2 rfl rfl (by decide) (by decide)) rfl ?_
    refine a_y (i := 13) (Cls.gs _ _) (by kernel_rfl) rfl (by kernel_rfl) (by kernel_rfl) (y_load rfl (LoadAt.oneL .z ty2 .z)) rfl ?_
    refine a_y (i := 14) (Cls.gs _ _) (by kernel_rfl) rfl (by kernel_rfl) (by kernel_rfl) ((y_neg rfl).lit (lit64 rfl (by omega) (by omega))) rfl ?_
    refine a_y (i := 15) (Cls.gs _ _) (by kernel_rfl) rfl (by kernel_rfl) (by kernel_rfl) (y_max2 rfl rfl) rfl ?_
    refine a_y (i := 16) (Cls.gs _ _) (by kernel_rfl) rfl (by kernel_rfl) (by kernel_rfl) (y_gtr rfl rfl) rfl ?_
    refine a_done (by kernel_rfl) ?_
    refine e_then ?_
    refine CJ.weak (.c (t := 3) rfl (.c (t := 4) rfl (.c (t := 5) rfl (.c (t := 8) rfl (.c (t := 27) rfl .n))))) (fun _ h => h) ?_
    refine c_cond rfl (fun h1 => ?_) (fun h1 => ?_)
    ·
      refine c_text ?_
      refine l_y (Cls.gs _ _) (y_move rfl) rfl ?_
      refine l_y (Cls.gs _ _) (y_assign rfl) rfl ?_
      refine l_nil ?_
      refine e_block ?_
      refine e_then ?_
      refine CJ.weak (.c (t := 3) rfl (.c (t := 4) rfl (.c (t := 8) rfl .n))) (fun _ h => h) ?_
      refine c_text ?_
      refine l_y (Cls.gs _ _) ((y_add rfl rfl).lit (by kernel_rfl : _ = Value.int .i64 2)) rfl ?_
      refine l_y (Cls.gs _ _) (y_move rfl) rfl ?_
      refine l_nil ?_
      refine e_rounds ?_
      refine RJ.weak (.c (t := 3) rfl (.c (t := 4) rfl (.c (t := 8) rfl .n))) (fun _ h => h) ?_
      refine r_succ ?_
      refine c_seq ?_
      refine c_text ?_
      refine l_y (Cls.gs _ _) ((y_lss rfl rfl).lit (by kernel_rfl : _ = Value.bool true)) rfl ?_
      refine l_nil ?_
      refine e_then ?_
      refine c_seq ?_
      refine c_true (by kernel_rfl) ?_
      refine c_skip ?_
      refine e_then ?_
      refine CJ.weak (.c (t := 3) rfl (.c (t := 4) rfl (.c (t := 8) rfl .n))) (fun _ h => h) ?_
      refine c_seq ?_
      refine c_block ?_
      refine c_seq ?_
      refine c_text ?_
      refine l_y (Cls.gs _ _) (y_move rfl) rfl ?_
      refine l_y (Cls.gs _ _) (y_assign rfl) rfl ?_
      refine l_nil ?_
      refine e_then ?_
      refine CJ.weak (.c (t := 3) rfl (.c (t := 4) rfl (.c (t := 5) rfl (.c (t := 8) rfl .n)))) (fun _ h => h) ?_
      refine c_seq ?_
      refine c_draw (m := 17) (S0 := fun _ => True) (fun _ => false) (fun _ _ => trivial) hmix (Cls.gs _ _) rfl ?_
      refine a_y (i := 0) (Cls.gs _ _) (by kernel_rfl) rfl (by kernel_rfl) (by kernel_rfl) (y_move rfl) rfl ?_
      refine a_y (i := 1) (Cls.gs _ _) (by kernel_rfl) rfl (by kernel_rfl) (by kernel_rfl) (y_indexArr Tryz.underlying109 ty2 rfl rfl (by decide) (by decide)) rfl ?_
      refine a_y (i := 2) (Cls.gs _ _) (by kernel_rfl) rfl (by kernel_rfl) (by kernel_rfl) (y_load rfl (LoadAt.oneL .z ty2 (.s (.s .z)))) rfl ?_
      refine a_y (i := 3) (Cls.gs _ _) (by kernel_rfl) rfl (by kernel_rfl) (by kernel_rfl) (y_move rfl) rfl ?_
      refine a_y (i := 4) (Cls.gs _ _) (by kernel_rfl) rfl (by kernel_rfl) (by kernel_rfl) (y_indexArr Tryz.underlying109 ty2 rfl rfl (by decide) (by decide)) rfl ?_
      refine a_y (i := 5) (Cls.gs _ _) (by kernel_rfl) rfl (by kernel_rfl) (by kernel_rfl) (y_load rfl (LoadAt.oneL .z ty2 (.s (.s .z)))) rfl ?_
      refine a_y (i := 6) (Cls.gs _ _) (by kernel_rfl) rfl (by kernel_rfl) (by kernel_rfl) ((y_neg rfl).lit (lit64 rfl (by omega) (by omega))) rfl ?_
      refine a_y (i := 7) (Cls.gs _ _) (by kernel_rfl) rfl (by kernel_rfl) (by kernel_rfl) (y_max2 rfl rfl) rfl ?_
      refine a_y (i := 8) (Cls.gs _ _) (by kernel_rfl) rfl (by kernel_rfl) (by kernel_rfl) (y_move rfl) rfl ?_
      refine a_y (i := 9) (Cls.gs _ _) (by kernel_rfl) rfl (by kernel_rfl) (by kernel_rfl) (y_indexArr Tryz.underlying109 ty2 rfl rfl (by decide) (by decide)) rfl ?_
      refine a_y (i := 10) (Cls.gs _ _) (by kernel_rfl) rfl (by kernel_rfl) (by kernel_rfl) (y_load rfl (LoadAt.oneL .z ty2 (.s .z))) rfl ?_
      refine a_y (i := 11) (Cls.gs _ _) (by kernel_rfl) rfl (by kernel_rfl) (by kernel_rfl) (y_move rfl) rfl ?_
      refine a_y (i := 12) (Cls.gs _ _) (by kernel_rfl) rfl (by kernel_rfl) (by kernel_rfl) (y_indexArr Tryz.underlying109 ty2 rfl rfl (by decide) (by decide)) rfl ?_
      refine a_y (i := 13) (Cls.gs _ _) (by kernel_rfl) rfl (by kernel_rfl) (by kernel_rfl) (y_load rfl (LoadAt.oneL .z ty2 (.s .z))) rfl ?_
      refine a_y (i := 14) (Cls.gs _ _) (by kernel_rfl) rfl (by kernel_rfl) (by kernel_rfl) ((y_neg rfl).lit (lit64 rfl (by omega) (by omega))) rfl ?_
      refine a_y (i := 15) (Cls.gs _ _) (by kernel_rfl) rfl (by kernel_rfl) (by kernel_rfl) (y_max2 rfl rfl) rfl ?_
      refine a_y (i := 16) (Cls.gs _ _) (by kernel_rfl) rfl (by kernel_rfl) (by kernel_rfl) (y_gtr rfl rfl) rfl ?_
      refine a_done (by kernel_rfl) ?_
      refine e_then ?_
      refine CJ.weak (.c (t := 3) rfl (.c (t := 4) rfl (.c (t := 5) rfl (.c (t := 8) rfl (.c (t := 27) rfl .n))))) (fun _ h => h) ?_
      refine c_cond rfl (fun h2 => ?_) (fun h2 => ?_)
      ·
        refine c_text ?_
        refine l_y (Cls.gs _ _) (y_move rfl) rfl ?_
        refine l_y (Cls.gs _ _) (y_assign rfl) rfl ?_
        refine l_nil ?_
        refine e_block ?_
        refine e_then ?_
        refine CJ.weak (.c (t := 3) rfl (.c (t := 4) rfl (.c (t := 8) rfl .n))) (fun _ h => h) ?_
        refine c_text ?_
        refine l_y (Cls.gs _ _) ((y_add rfl rfl).lit (by kernel_rfl : _ = Value.int .i64 3)) rfl ?_
        refine l_y (Cls.gs _ _) (y_move rfl) rfl ?_
        refine l_nil ?_
        refine e_rounds ?_
        refine RJ.weak (.c (t := 3) rfl (.c (t := 4) rfl (.c (t := 8) rfl .n))) (fun _ h => h) ?_
        refine r_succ ?_
        refine c_seq ?_
        refine c_text ?_
        refine l_y (Cls.gs _ _) ((y_lss rfl rfl).lit (by kernel_rfl : _ = Value.bool false)) rfl ?_
        refine l_nil ?_
        refine e_then ?_
        refine c_seq ?_
        refine c_false (by kernel_rfl) ?_
        refine c_exit ?_
        refine e_then_exit ?_
        refine e_then_exit ?_
        refine e_block_hit ?_
        refine e_then ?_
        refine CJ.weak (.c (t := 3) rfl (.c (t := 4) rfl .n)) (fun _ h => h) ?_
        refine c_seq ?_
        refine c_seq ?_
        refine c_text ?_
        refine l_y (Cls.gs _ _) (y_move rfl) rfl ?_
        refine l_y (Cls.gs _ _) (y_indexArr Tryz.underlying109 ty2 rfl rfl (by decide) (by decide)) rfl ?_
        refine l_y (Cls.gs _ _) (y_load rfl (LoadAt.oneL .z ty2 (.s (.s .z)))) rfl ?_
        refine l_y (Cls.gs _ _) (y_lss rfl rfl) rfl ?_
        refine l_nil ?_
        refine e_then ?_
        refine CJ.weak (.c (t := 4) rfl (.c (t := 33) rfl .n)) (fun _ h => h) ?_
        refine c_cond rfl (fun h3 => ?_) (fun h3 => ?_)
        ·
          refine c_seq ?_
          refine c_text ?_
          refine l_y (Cls.gs _ _) (y_move rfl) rfl ?_
          refine l_y (Cls.gs _ _) ((y_mul rfl rfl).lit (by kernel_rfl : _ = Value.int .i64 4)) rfl ?_
          refine l_y (Cls.gs _ _) ((y_add rfl rfl).lit (by kernel_rfl : _ = Value.int .i64 5)) rfl ?_
          refine l_y (Cls.gs _ _) (y_assign rfl) rfl ?_
          refine l_nil ?_
          refine e_then ?_
          refine CJ.weak (.c (t := 2) rfl .n) (fun _ h => h) ?_
          refine c_ret ?_
          refine e_then_ret ?_
          refine e_ret rfl (.t rfl .n) (fun wF hw => ?_)
          exact ⟨_, rfl, (hw.anc (w, []) (by simp)).below, by simp only [decide_eq_true_eq, decide_eq_false_iff_not] at *; unfold FaceOK; omega⟩
        ·
          refine c_skip ?_
          refine e_then ?_
          refine CJ.weak (.c (t := 4) rfl .n) (fun _ h => h) ?_
          refine c_seq ?_
          refine c_text ?_
          refine l_y (Cls.gs _ _) (y_move rfl) rfl ?_
          refine l_y (Cls.gs _ _) ((y_mul rfl rfl).lit (by kernel_rfl : _ = Value.int .i64 4)) rfl ?_
          refine l_y (Cls.gs _ _) (y_assign rfl) rfl ?_
          refine l_nil ?_
          refine e_then ?_
          refine CJ.weak (.c (t := 2) rfl .n) (fun _ h => h) ?_
          refine c_ret ?_
          refine e_ret rfl (.t rfl .n) (fun wF hw => ?_)
          exact ⟨_, rfl, (hw.anc (w, []) (by simp)).below, by simp only [decide_eq_true_eq, decide_eq_false_iff_not] at *; unfold FaceOK; omega⟩
      ·
        refine c_skip ?_
        refine e_block ?_
        refine e_then ?_
        refine CJ.weak (.c (t := 3) rfl (.c (t := 4) rfl (.c (t := 8) rfl .n))) (fun _ h => h) ?_
        refine c_text ?_
        refine l_y (Cls.gs _ _) ((y_add rfl rfl).lit (by kernel_rfl : _ = Value.int .i64 3)) rfl ?_
        refine l_y (Cls.gs _ _) (y_move rfl) rfl ?_
        refine l_nil ?_
        refine e_rounds ?_
        refine RJ.weak (.c (t := 3) rfl (.c (t := 4) rfl (.c (t := 8) rfl .n))) (fun _ h => h) ?_
        refine r_succ ?_
        refine c_seq ?_
        refine c_text ?_
        refine l_y (Cls.gs _ _) ((y_lss rfl rfl).lit (by kernel_rfl : _ = Value.bool false)) rfl ?_
        refine l_nil ?_
        refine e_then ?_
        refine c_seq ?_
        refine c_false (by kernel_rfl) ?_
        refine c_exit ?_
        refine e_then_exit ?_
        refine e_then_exit ?_
        refine e_block_hit ?_
        refine e_then ?_
        refine CJ.weak (.c (t := 3) rfl (.c (t := 4) rfl .n)) (fun _ h => h) ?_
        refine c_seq ?_
        refine c_seq ?_
        refine c_text ?_
        refine l_y (Cls.gs _ _) (y_move rfl) rfl ?_
        refine l_y (Cls.gs _ _) (y_indexArr Tryz.underlying109 ty2 rfl rfl (by decide) (by decide)) rfl ?_
        refine l_y (Cls.gs _ _) (y_load rfl (LoadAt.oneL .z ty2 (.s .z))) rfl ?_
        refine l_y (Cls.gs _ _) (y_lss rfl rfl) rfl ?_
        refine l_nil ?_
        refine e_then ?_
        refine CJ.weak (.c (t := 4) rfl (.c (t := 33) rfl .n)) (fun _ h => h) ?_
        refine c_cond rfl (fun h4 => ?_) (fun h4 => ?_)
        ·
          refine c_seq ?_
          refine c_text ?_
          refine l_y (Cls.gs _ _) (y_move rfl) rfl ?_
          refine l_y (Cls.gs _ _) ((y_mul rfl rfl).lit (by kernel_rfl : _ = Value.int .i64 2)) rfl ?_
          refine l_y (Cls.gs _ _) ((y_add rfl rfl).lit (by kernel_rfl : _ = Value.int .i64 3)) rfl ?_
          refine l_y (Cls.gs _ _) (y_assign rfl) rfl ?_
          refine l_nil ?_
          refine e_then ?_
          refine CJ.weak (.c (t := 2) rfl .n) (fun _ h => h) ?_
          refine c_ret ?_
          refine e_then_ret ?_
          refine e_ret rfl (.t rfl .n) (fun wF hw => ?_)
          exact ⟨_, rfl, (hw.anc (w, []) (by simp)).below, by simp only [decide_eq_true_eq, decide_eq_false_iff_not] at *; unfold FaceOK; omega⟩
        ·
          refine c_skip ?_
          refine e_then ?_
          refine CJ.weak (.c (t := 4) rfl .n) (fun _ h => h) ?_
          refine c_seq ?_
          refine c_text ?_
          refine l_y (Cls.gs _ _) (y_move rfl) rfl ?_
          refine l_y (Cls.gs _ _) ((y_mul rfl rfl).lit (by kernel_rfl : _ = Value.int .i64 2)) rfl ?_
          refine l_y (Cls.gs _ _) (y_assign rfl) rfl ?_
          refine l_nil ?_
          refine e_then ?_
          refine CJ.weak (.c (t := 2) rfl .n) (fun _ h => h) ?_
          refine c_ret ?_
          refine e_ret rfl (.t rfl .n) (fun wF hw => ?_)
          exact ⟨_, rfl, (hw.anc (w, []) (by simp)).below, by simp only [decide_eq_true_eq, decide_eq_false_iff_not] at *; unfold FaceOK; omega⟩
    ·
      refine c_skip ?_
      refine e_block ?_
      refine e_then ?_
      refine CJ.weak (.c (t := 3) rfl (.c (t := 4) rfl (.c (t := 8) rfl .n))) (fun _ h => h) ?_
      refine c_text ?_
      refine l_y (Cls.gs _ _) ((y_add rfl rfl).lit (by kernel_rfl : _ = Value.int .i64 2)) rfl ?_
      refine l_y (Cls.gs _ _) (y_move rfl) rfl ?_
      refine l_nil ?_
      refine e_rounds ?_
      refine RJ.weak (.c (t := 3) rfl (.c (t := 4) rfl (.c (t := 8) rfl .n))) (fun _ h => h) ?_
      refine r_succ ?_
      refine c_seq ?_
      refine c_text ?_
      refine l_y (Cls.gs _ _) ((y_lss rfl rfl).lit (by kernel_rfl : _ = Value.bool true)) rfl ?_
      refine l_nil ?_
      refine e_then ?_
      refine c_seq ?_
      refine c_true (by kernel_rfl) ?_
      refine c_skip ?_
      refine e_then ?_
      refine CJ.weak (.c (t := 3) rfl (.c (t := 4) rfl (.c (t := 8) rfl .n))) (fun _ h => h) ?_
      refine c_seq ?_
      refine c_block ?_
      refine c_seq ?_
      refine c_text ?_
      refine l_y (Cls.gs _ _) (y_move rfl) rfl ?_
      refine l_y (Cls.gs _ _) (y_assign rfl) rfl ?_
      refine l_nil ?_
      refine e_then ?_
      refine CJ.weak (.c (t := 3) rfl (.c (t := 4) rfl (.c (t := 5) rfl (.c (t := 8) rfl .n)))) (fun _ h => h) ?_
      refine c_seq ?_
      refine c_draw (m := 17) (S0 := fun _ => True) (fun _ => false) (fun _ _ => trivial) hmix (Cls.gs _ _) rfl ?_
      refine a_y (i := 0) (Cls.gs _ _) (by kernel_rfl) rfl (by kernel_rfl) (by kernel_rfl) (y_move rfl) rfl ?_
      refine a_y (i := 1) (Cls.gs _ _) (by kernel_rfl) rfl (by kernel_rfl) (by kernel_rfl) (y_indexArr Tryz.underlying109 ty2 rfl rfl (by decide) (by decide)) rfl ?_
      refine a_y (i := 2) (Cls.gs _ _) (by kernel_rfl) rfl (by kernel_rfl) (by kernel_rfl) (y_load rfl (LoadAt.oneL .z ty2 (.s (.s .z)))) rfl ?_
      refine a_y (i := 3) (Cls.gs _ _) (by kernel_rfl) rfl (by kernel_rfl) (by kernel_rfl) (y_move rfl) rfl ?_
      refine a_y (i := 4) (Cls.gs _ _) (by kernel_rfl) rfl (by kernel_rfl) (by kernel_rfl) (y_indexArr Tryz.underlying109 ty2 rfl rfl (by decide) (by decide)) rfl ?_
      refine a_y (i := 5) (Cls.gs _ _) (by kernel_rfl) rfl (by kernel_rfl) (by kernel_rfl) (y_load rfl (LoadAt.oneL .z ty2 (.s (.s .z)))) rfl ?_
      refine a_y (i := 6) (Cls.gs _ _) (by kernel_rfl) rfl (by kernel_rfl) (by kernel_rfl) ((y_neg rfl).lit (lit64 rfl (by omega) (by omega))) rfl ?_
      refine a_y (i := 7) (Cls.gs _ _) (by kernel_rfl) rfl (by kernel_rfl) (by kernel_rfl) (y_max2 rfl rfl) rfl ?_
      refine a_y (i := 8) (Cls.gs _ _) (by kernel_rfl) rfl (by kernel_rfl) (by kernel_rfl) (y_move rfl) rfl ?_
      refine a_y (i := 9) (Cls.gs _ _) (by kernel_rfl) rfl (by kernel_rfl) (by kernel_rfl) (y_indexArr Tryz.underlying109 ty2 rfl rfl (by decide) (by decide)) rfl ?_
      refine a_y (i := 10) (Cls.gs _ _) (by kernel_rfl) rfl (by kernel_rfl) (by kernel_rfl) (y_load rfl (LoadAt.oneL .z ty2 .z)) rfl ?_
      refine a_y (i := 11) (Cls.gs _ _) (by kernel_rfl) rfl (by kernel_rfl) (by kernel_rfl) (y_move rfl) rfl ?_
      refine a_y (i := 12) (Cls.gs _ _) (by kernel_rfl) rfl (by kernel_rfl) (by kernel_rfl) (y_indexArr Tryz.underlying109 ty2 rfl rfl (by decide) (by decide)) rfl ?_
      refine a_y (i := 13) (Cls.gs _ _) (by kernel_rfl) rfl (by kernel_rfl) (by kernel_rfl) (y_load rfl (LoadAt.oneL .z ty2 .z)) rfl ?_
      refine a_y (i := 14) (Cls.gs _ _) (by kernel_rfl) rfl (by kernel_rfl) (by kernel_rfl) ((y_neg rfl).lit (lit64 rfl (by omega) (by omega))) rfl ?_
      refine a_y (i := 15) (Cls.gs _ _) (by kernel_rfl) rfl (by kernel_rfl) (by kernel_rfl) (y_max2 rfl rfl) rfl ?_
      refine a_y (i := 16) (Cls.gs _ _) (by kernel_rfl) rfl (by kernel_rfl) (by kernel_rfl) (y_gtr rfl rfl) rfl ?_
      refine a_done (by kernel_rfl) ?_
      refine e_then ?_
      refine CJ.weak (.c (t := 3) rfl (.c (t := 4) rfl (.c (t := 5) rfl (.c (t := 8) rfl (.c (t := 27) rfl .n))))) (fun _ h => h) ?_
      refine c_cond rfl (fun h5 => ?_) (fun h5 => ?_)
      ·
        refine c_text ?_
        refine l_y (Cls.gs _ _) (y_move rfl) rfl ?_
        refine l_y (Cls.gs _ _) (y_assign rfl) rfl ?_
        refine l_nil ?_
        refine e_block ?_
        refine e_then ?_
        refine CJ.weak (.c (t := 3) rfl (.c (t := 4) rfl (.c (t := 8) rfl .n))) (fun _ h => h) ?_
        refine c_text ?_
        refine l_y (Cls.gs _ _) ((y_add rfl rfl).lit (by kernel_rfl : _ = Value.int .i64 3)) rfl ?_
        refine l_y (Cls.gs _ _) (y_move rfl) rfl ?_
        refine l_nil ?_
        refine e_rounds ?_
        refine RJ.weak (.c (t := 3) rfl (.c (t := 4) rfl (.c (t := 8) rfl .n))) (fun _ h => h) ?_
        refine r_succ ?_
        refine c_seq ?_
        refine c_text ?_
        refine l_y (Cls.gs _ _) ((y_lss rfl rfl).lit (by kernel_rfl : _ = Value.bool false)) rfl ?_
        refine l_nil ?_
        refine e_then ?_
        refine c_seq ?_
        refine c_false (by kernel_rfl) ?_
        refine c_exit ?_
        refine e_then_exit ?_
        refine e_then_exit ?_
        refine e_block_hit ?_
        refine e_then ?_
        refine CJ.weak (.c (t := 3) rfl (.c (t := 4) rfl .n)) (fun _ h => h) ?_
        refine c_seq ?_
        refine c_seq ?_
        refine c_text ?_
        refine l_y (Cls.gs _ _) (y_move rfl) rfl ?_
        refine l_y (Cls.gs _ _) (y_indexArr Tryz.underlying109 ty2 rfl rfl (by decide) (by decide)) rfl ?_
        refine l_y (Cls.gs _ _) (y_load rfl (LoadAt.oneL .z ty2 (.s (.s .z)))) rfl ?_
        refine l_y (Cls.gs _ _) (y_lss rfl rfl) rfl ?_
        refine l_nil ?_
        refine e_then ?_
        refine CJ.weak (.c (t := 4) rfl (.c (t := 33) rfl .n)) (fun _ h => h) ?_
        refine c_cond rfl (fun h6 => ?_) (fun h6 => ?_)
        ·
          refine c_seq ?_
          refine c_text ?_
          refine l_y (Cls.gs _ _) (y_move rfl) rfl ?_
          refine l_y (Cls.gs _ _) ((y_mul rfl rfl).lit (by kernel_rfl : _ = Value.int .i64 4)) rfl ?_
          refine l_y (Cls.gs _ _) ((y_add rfl rfl).lit (by kernel_rfl : _ = Value.int .i64 5)) rfl ?_
          refine l_y (Cls.gs _ _) (y_assign rfl) rfl ?_
          refine l_nil ?_
          refine e_then ?_
          refine CJ.weak (.c (t := 2) rfl .n) (fun _ h => h) ?_
          refine c_ret ?_
          refine e_then_ret ?_
          refine e_ret rfl (.t rfl .n) (fun wF hw => ?_)
          exact ⟨_, rfl, (hw.anc (w, []) (by simp)).below, by simp only [decide_eq_true_eq, decide_eq_false_iff_not] at *; unfold FaceOK; omega⟩
        ·
          refine c_skip ?_
          refine e_then ?_
          refine CJ.weak (.c (t := 4) rfl .n) (fun _ h => h) ?_
          refine c_seq ?_
          refine c_text ?_
          refine l_y (Cls.gs _ _) (y_move rfl) rfl ?_
          refine l_y (Cls.gs _ _) ((y_mul rfl rfl).lit (by kernel_rfl : _ = Value.int .i64 4)) rfl ?_
          refine l_y (Cls.gs _ _) (y_assign rfl) rfl ?_
          refine l_nil ?_
          refine e_then ?_
          refine CJ.weak (.c (t := 2) rfl .n) (fun _ h => h) ?_
          refine c_ret ?_
          refine e_ret rfl (.t rfl .n) (fun wF hw => ?_)
          exact ⟨_, rfl, (hw.anc (w, []) (by simp)).below, by simp only [decide_eq_true_eq, decide_eq_false_iff_not] at *; unfold FaceOK; omega⟩
      ·
        refine c_skip ?_
        refine e_block ?_
        refine e_then ?_
        refine CJ.weak (.c (t := 3) rfl (.c (t := 4) rfl (.c (t := 8) rfl .n))) (fun _ h => h) ?_
        refine c_text ?_
        refine l_y (Cls.gs _ _) ((y_add rfl rfl).lit (by kernel_rfl : _ = Value.int .i64 3)) rfl ?_
        refine l_y (Cls.gs _ _) (y_move rfl) rfl ?_
        refine l_nil ?_
        refine e_rounds ?_
        refine RJ.weak (.c (t := 3) rfl (.c (t := 4) rfl (.c (t := 8) rfl .n))) (fun _ h => h) ?_
        refine r_succ ?_
        refine c_seq ?_
        refine c_text ?_
        refine l_y (Cls.gs _ _) ((y_lss rfl rfl).lit (by kernel_rfl : _ = Value.bool false)) rfl ?_
        refine l_nil ?_
        refine e_then ?_
        refine c_seq ?_
        refine c_false (by kernel_rfl) ?_
        refine c_exit ?_
        refine e_then_exit ?_
        refine e_then_exit ?_
        refine e_block_hit ?_
        refine e_then ?_
        refine CJ.weak (.c (t := 3) rfl (.c (t := 4) rfl .n)) (fun _ h => h) ?_
        refine c_seq ?_
        refine c_seq ?_
        refine c_text ?_
        refine l_y (Cls.gs _ _) (y_move rfl) rfl ?_
        refine l_y (Cls.gs _ _) (y_indexArr Tryz.underlying109 ty2 rfl rfl (by decide) (by decide)) rfl ?_
        refine l_y (Cls.gs _ _) (y_load rfl (LoadAt.oneL .z ty2 .z)) rfl ?_
        refine l_y (Cls.gs _ _) (y_lss rfl rfl) rfl ?_
        refine l_nil ?_
        refine e_then ?_
        refine CJ.weak (.c (t := 4) rfl (.c (t := 33) rfl .n)) (fun _ h => h) ?_
        refine c_cond rfl (fun h7 => ?_) (fun h7 => ?_)
        ·
          refine c_seq ?_
          refine c_text ?_
          refine l_y (Cls.gs _ _) (y_move rfl) rfl ?_
          refine l_y (Cls.gs _ _) ((y_mul rfl rfl).lit (by kernel_rfl : _ = Value.int .i64 0)) rfl ?_
          refine l_y (Cls.gs _ _) ((y_add rfl rfl).lit (by kernel_rfl : _ = Value.int .i64 1)) rfl ?_
          refine l_y (Cls.gs _ _) (y_assign rfl) rfl ?_
          refine l_nil ?_
          refine e_then ?_
          refine CJ.weak (.c (t := 2) rfl .n) (fun _ h => h) ?_
          refine c_ret ?_
          refine e_then_ret ?_
          refine e_ret rfl (.t rfl .n) (fun wF hw => ?_)
          exact ⟨_, rfl, (hw.anc (w, []) (by simp)).below, by simp only [decide_eq_true_eq, decide_eq_false_iff_not] at *; unfold FaceOK; omega⟩
        ·
          refine c_skip ?_
          refine e_then ?_
          refine CJ.weak (.c (t := 4) rfl .n) (fun _ h => h) ?_
          refine c_seq ?_
          refine c_text ?_
          refine l_y (Cls.gs _ _) (y_move rfl) rfl ?_
          refine l_y (Cls.gs _ _) ((y_mul rfl rfl).lit (by kernel_rfl : _ = Value.int .i64 0)) rfl ?_
          refine l_y (Cls.gs _ _) (y_assign rfl) rfl ?_
          refine l_nil ?_
          refine e_then ?_
          refine CJ.weak (.c (t := 2) rfl .n) (fun _ h => h) ?_
          refine c_ret ?_
          refine e_ret rfl (.t rfl .n) (fun wF hw => ?_)
          exact ⟨_, rfl, (hw.anc (w, []) (by simp)).below, by simp only [decide_eq_true_eq, decide_eq_false_iff_not] at *; unfold FaceOK; omega⟩
  ·
    refine c_skip ?_
    refine e_block ?_
    refine e_then ?_
    refine CJ.weak (.c (t := 3) rfl (.c (t := 4) rfl (.c (t := 8) rfl .n))) (fun _ h => h) ?_
    refine c_text ?_
    refine l_y (Cls.gs _ _) ((y_add rfl rfl).lit (by kernel_rfl : _ = Value.int .i64 1)) rfl ?_
    refine l_y (Cls.gs _ _) (y_move rfl) rfl ?_
    refine l_nil ?_
    refine e_rounds ?_
    refine RJ.weak (.c (t := 3) rfl (.c (t := 4) rfl (.c (t := 8) rfl .n))) (fun _ h => h) ?_
    refine r_succ ?_
    refine c_seq ?_
    refine c_text ?_
    refine l_y (Cls.gs _ _) ((y_lss rfl rfl).lit (by kernel_rfl : _ = Value.bool true)) rfl ?_
    refine l_nil ?_
    refine e_then ?_
    refine c_seq ?_
    refine c_true (by kernel_rfl) ?_
    refine c_skip ?_
    refine e_then ?_
    refine CJ.weak (.c (t := 3) rfl (.c (t := 4) rfl (.c (t := 8) rfl .n))) (fun _ h => h) ?_
    refine c_seq ?_
    refine c_block ?_
    refine c_seq ?_
    refine c_text ?_
    refine l_y (Cls.gs _ _) (y_move rfl) rfl ?_
    refine l_y (Cls.gs _ _) (y_assign rfl) rfl ?_
    refine l_nil ?_
    refine e_then ?_
    refine CJ.weak (.c (t := 3) rfl (.c (t := 4) rfl (.c (t := 5) rfl (.c (t := 8) rfl .n)))) (fun _ h => h) ?_
    refine c_seq ?_
    refine c_draw (m := 17) (S0 := fun _ => True) (fun _ => false) (fun _ _ => trivial) hmix (Cls.gs _ _) rfl ?_
    refine a_y (i := 0) (Cls.gs _ _) (by kernel_rfl) rfl (by kernel_rfl) (by kernel_rfl) (y_move rfl) rfl ?_
    refine a_y (i := 1) (Cls.gs _ _) (by kernel_rfl) rfl (by kernel_rfl) (by kernel_rfl) (y_indexArr Tryz.underlying109 ty2 rfl rfl (by decide) (by decide)) rfl ?_
    refine a_y (i := 2) (Cls.gs _ _) (by kernel_rfl) rfl (by kernel_rfl) (by kernel_rfl) (y_load rfl (LoadAt.oneL .z ty2 (.s .z))) rfl ?_
    refine a_y (i := 3) (Cls.gs _ _) (by kernel_rfl) rfl (by kernel_rfl) (by kernel_rfl) (y_move rfl) rfl ?_
    refine a_y (i := 4) (Cls.gs _ _) (by kernel_rfl) rfl (by kernel_rfl) (by kernel_rfl) (y_indexArr Tryz.underlying109 ty2 rfl rfl (by decide) (by decide)) rfl ?_
    refine a_y (i := 5) (Cls.gs _ _) (by kernel_rfl) rfl (by kernel_rfl) (by kernel_rfl) (y_load rfl (LoadAt.oneL .z ty2 (.s .z))) rfl ?_
    refine a_y (i := 6) (Cls.gs _ _) (by kernel_rfl) rfl (by kernel_rfl) (by kernel_rfl) ((y_neg rfl).lit (lit64 rfl (by omega) (by omega))) rfl ?_
    refine a_y (i := 7) (Cls.gs _ _) (by kernel_rfl) rfl (by kernel_rfl) (by kernel_rfl) (y_max2 rfl rfl) rfl ?_
    refine a_y (i := 8) (Cls.gs _ _) (by kernel_rfl) rfl (by kernel_rfl) (by kernel_rfl) (y_move rfl) rfl ?_
    refine a_y (i := 9) (Cls.gs _ _) (by kernel_rfl) rfl (by kernel_rfl) (by kernel_rfl) (y_indexArr Tryz.underlying109 ty2 rfl rfl (by decide) (by decide)) rfl ?_
    refine a_y (i := 10) (Cls.gs _ _) (by kernel_rfl) rfl (by kernel_rfl) (by kernel_rfl) (y_load rfl (LoadAt.oneL .z ty2 .z)) rfl ?_
    refine a_y (i := 11) (Cls.gs _ _) (by kernel_rfl) rfl (by kernel_rfl) (by kernel_rfl) (y_move rfl) rfl ?_
    refine a_y (i := 12) (Cls.gs _ _) (by kernel_rfl) rfl (by kernel_rfl) (by kernel_rfl) (y_indexArr Tryz.underlying109 ty2 rfl rfl (by decide) (by decide)) rfl ?_
    refine a_y (i := 13) (Cls.gs _ _) (by kernel_rfl) rfl (by kernel_rfl) (by kernel_rfl) (y_load rfl (LoadAt.oneL .z ty2 .z)) rfl ?_
    refine a_y (i := 14) (Cls.gs _ _) (by kernel_rfl) rfl (by kernel_rfl) (by kernel_rfl) ((y_neg rfl).lit (lit64 rfl (by omega) (by omega))) rfl ?_
    refine a_y (i := 15) (Cls.gs _ _) (by kernel_rfl) rfl (by kernel_rfl) (by kernel_rfl) (y_max2 rfl rfl) rfl ?_
    refine a_y (i := 16) (Cls.gs _ _) (by kernel_rfl) rfl (by kernel_rfl) (by kernel_rfl) (y_gtr rfl rfl) rfl ?_
    refine a_done (by kernel_rfl) ?_
    refine e_then ?_
    refine CJ.weak (.c (t := 3) rfl (.c (t := 4) rfl (.c (t := 5) rfl (.c (t := 8) rfl (.c (t := 27) rfl .n))))) (fun _ h => h) ?_
    refine c_cond rfl (fun h8 => ?_) (fun h8 => ?_)
    ·
      refine c_text ?_
      refine l_y (Cls.gs _ _) (y_move rfl) rfl ?_
      refine l_y (Cls.gs _ _) (y_assign rfl) rfl ?_
      refine l_nil ?_
      refine e_block ?_
      refine e_then ?_
      refine CJ.weak (.c (t := 3) rfl (.c (t := 4) rfl (.c (t := 8) rfl .n))) (fun _ h => h) ?_
      refine c_text ?_
      refine l_y (Cls.gs _ _) ((y_add rfl rfl).lit (by kernel_rfl : _ = Value.int .i64 2)) rfl ?_
      refine l_y (Cls.gs _ _) (y_move rfl) rfl ?_
      refine l_nil ?_
      refine e_rounds ?_
      refine RJ.weak (.c (t := 3) rfl (.c (t := 4) rfl (.c (t := 8) rfl .n))) (fun _ h => h) ?_
      refine r_succ ?_
      refine c_seq ?_
      refine c_text ?_
      refine l_y (Cls.gs _ _) ((y_lss rfl rfl).lit (by kernel_rfl : _ = Value.bool true)) rfl ?_
      refine l_nil ?_
      refine e_then ?_
      refine c_seq ?_
      refine c_true (by kernel_rfl) ?_
      refine c_skip ?_
      refine e_then ?_
      refine CJ.weak (.c (t := 3) rfl (.c (t := 4) rfl (.c (t := 8) rfl .n))) (fun _ h => h) ?_
      refine c_seq ?_
      refine c_block ?_
      refine c_seq ?_
      refine c_text ?_
      refine l_y (Cls.gs _ _) (y_move rfl) rfl ?_
      refine l_y (Cls.gs _ _) (y_assign rfl) rfl ?_
      refine l_nil ?_
      refine e_then ?_
      refine CJ.weak (.c (t := 3) rfl (.c (t := 4) rfl (.c (t := 5) rfl (.c (t := 8) rfl .n)))) (fun _ h => h) ?_
      refine c_seq ?_
      refine c_draw (m := 17) (S0 := fun _ => True) (fun _ => false) (fun _ _ => trivial) hmix (Cls.gs _ _) rfl ?_
      refine a_y (i := 0) (Cls.gs _ _) (by kernel_rfl) rfl (by kernel_rfl) (by kernel_rfl) (y_move rfl) rfl ?_
      refine a_y (i := 1) (Cls.gs _ _) (by kernel_rfl) rfl (by kernel_rfl) (by kernel_rfl) (y_indexArr Tryz.underlying109 ty2 rfl rfl (by decide) (by decide)) rfl ?_
      refine a_y (i := 2) (Cls.gs _ _) (by kernel_rfl) rfl (by kernel_rfl) (by kernel_rfl) (y_load rfl (LoadAt.oneL .z ty2 (.s (.s .z)))) rfl ?_
      refine a_y (i := 3) (Cls.gs _ _) (by kernel_rfl) rfl (by kernel_rfl) (by kernel_rfl) (y_move rfl) rfl ?_
      refine a_y (i := 4) (Cls.gs _ _) (by kernel_rfl) rfl (by kernel_rfl) (by kernel_rfl) (y_indexArr Tryz.underlying109 ty2 rfl rfl (by decide) (by decide)) rfl ?_
      refine a_y (i := 5) (Cls.gs _ _) (by kernel_rfl) rfl (by kernel_rfl) (by kernel_rfl) (y_load rfl (LoadAt.oneL .z ty2 (.s (.s .z)))) rfl ?_
      refine a_y (i := 6) (Cls.gs _ _) (by kernel_rfl) rfl (by kernel_rfl) (by kernel_rfl) ((y_neg rfl).lit (lit64 rfl (by omega) (by omega))) rfl ?_
      refine a_y (i := 7) (Cls.gs _ _) (by kernel_rfl) rfl (by kernel_rfl) (by kernel_rfl) (y_max2 rfl rfl) rfl ?_
      refine a_y (i := 8) (Cls.gs _ _) (by kernel_rfl) rfl (by kernel_rfl) (by kernel_rfl) (y_move rfl) rfl ?_
      refine a_y (i := 9) (Cls.gs _ _) (by kernel_rfl) rfl (by kernel_rfl) (by kernel_rfl) (y_indexArr Tryz.underlying109 ty2 rfl rfl (by decide) (by decide)) rfl ?_
      refine a_y (i := 10) (Cls.gs _ _) (by kernel_rfl) rfl (by kernel_rfl) (by kernel_rfl) (y_load rfl (LoadAt.oneL .z ty2 (.s .z))) rfl ?_
      refine a_y (i := 11) (Cls.gs _ _) (by kernel_rfl) rfl (by kernel_rfl) (by kernel_rfl) (y_move rfl) rfl ?_
      refine a_y (i := 12) (Cls.gs _ _) (by kernel_rfl) rfl (by kernel_rfl) (by kernel_rfl) (y_indexArr Tryz.underlying109 ty2 rfl rfl (by decide) (by decide)) rfl ?_
      refine a_y (i := 13) (Cls.gs _ _) (by kernel_rfl) rfl (by kernel_rfl) (by kernel_rfl) (y_load rfl (LoadAt.oneL .z ty2 (.s .z))) rfl ?_
      refine a_y (i := 14) (Cls.gs _ _) (by kernel_rfl) rfl (by kernel_rfl) (by kernel_rfl) ((y_neg rfl).lit (lit64 rfl (by omega) (by omega))) rfl ?_
      refine a_y (i := 15) (Cls.gs _ _) (by kernel_rfl) rfl (by kernel_rfl) (by kernel_rfl) (y_max2 rfl rfl) rfl ?_
      refine a_y (i := 16) (Cls.gs _ _) (by kernel_rfl) rfl (by kernel_rfl) (by kernel_rfl) (y_gtr rfl rfl) rfl ?_
      refine a_done (by kernel_rfl) ?_
      refine e_then ?_
      refine CJ.weak (.c (t := 3) rfl (.c (t := 4) rfl (.c (t := 5) rfl (.c (t := 8) rfl (.c (t := 27) rfl .n))))) (fun _ h => h) ?_
      refine c_cond rfl (fun h9 => ?_) (fun h9 => ?_)
      ·
        refine c_text ?_
        refine l_y (Cls.gs _ _) (y_move rfl) rfl ?_
        refine l_y (Cls.gs _ _) (y_assign rfl) rfl ?_
        refine l_nil ?_
        refine e_block ?_
        refine e_then ?_
        refine CJ.weak (.c (t := 3) rfl (.c (t := 4) rfl (.c (t := 8) rfl .n))) (fun _ h => h) ?_
        refine c_text ?_
        refine l_y (Cls.gs _ _) ((y_add rfl rfl).lit (by kernel_rfl : _ = Value.int .i64 3)) rfl ?_
        refine l_y (Cls.gs _ _) (y_move rfl) rfl ?_
        refine l_nil ?_
        refine e_rounds ?_
        refine RJ.weak (.c (t := 3) rfl (.c (t := 4) rfl (.c (t := 8) rfl .n))) (fun _ h => h) ?_
        refine r_succ ?_
        refine c_seq ?_
        refine c_text ?_
        refine l_y (Cls.gs _ _) ((y_lss rfl rfl).lit (by kernel_rfl : _ = Value.bool false)) rfl ?_
        refine l_nil ?_
        refine e_then ?_
        refine c_seq ?_
        refine c_false (by kernel_rfl) ?_
        refine c_exit ?_
        refine e_then_exit ?_
        refine e_then_exit ?_
        refine e_block_hit ?_
        refine e_then ?_
        refine CJ.weak (.c (t := 3) rfl (.c (t := 4) rfl .n)) (fun _ h => h) ?_
        refine c_seq ?_
        refine c_seq ?_
        refine c_text ?_
        refine l_y (Cls.gs _ _) (y_move rfl) rfl ?_
        refine l_y (Cls.gs _ _) (y_indexArr Tryz.underlying109 ty2 rfl rfl (by decide) (by decide)) rfl ?_
        refine l_y (Cls.gs _ _) (y_load rfl (LoadAt.oneL .z ty2 (.s (.s .z)))) rfl ?_
        refine l_y (Cls.gs _ _) (y_lss rfl rfl) rfl ?_
        refine l_nil ?_
        refine e_then ?_
        refine CJ.weak (.c (t := 4) rfl (.c (t := 33) rfl .n)) (fun _ h => h) ?_
        refine c_cond rfl (fun h10 => ?_) (fun h10 => ?_)
        ·
          refine c_seq ?_
          refine c_text ?_
          refine l_y (Cls.gs _ _) (y_move rfl) rfl ?_
          refine l_y (Cls.gs _ _) ((y_mul rfl rfl).lit (by kernel_rfl : _ = Value.int .i64 4)) rfl ?_
          refine l_y (Cls.gs _ _) ((y_add rfl rfl).lit (by kernel_rfl : _ = Value.int .i64 5)) rfl ?_
          refine l_y (Cls.gs _ _) (y_assign rfl) rfl ?_
          refine l_nil ?_
          refine e_then ?_
          refine CJ.weak (.c (t := 2) rfl .n) (fun _ h => h) ?_
          refine c_ret ?_
          refine e_then_ret ?_
          refine e_ret rfl (.t rfl .n) (fun wF hw => ?_)
          exact ⟨_, rfl, (hw.anc (w, []) (by simp)).below, by simp only [decide_eq_true_eq, decide_eq_false_iff_not] at *; unfold FaceOK; omega⟩
        ·
          refine c_skip ?_
          refine e_then ?_
          refine CJ.weak (.c (t := 4) rfl .n) (fun _ h => h) ?_
          refine c_seq ?_
          refine c_text ?_
          refine l_y (Cls.gs _ _) (y_move rfl) rfl ?_
          refine l_y (Cls.gs _ _) ((y_mul rfl rfl).lit (by kernel_rfl : _ = Value.int .i64 4)) rfl ?_
          refine l_y (Cls.gs _ _) (y_assign rfl) rfl ?_
          refine l_nil ?_
          refine e_then ?_
          refine CJ.weak (.c (t := 2) rfl .n) (fun _ h => h) ?_
          refine c_ret ?_
          refine e_ret rfl (.t rfl .n) (fun wF hw => ?_)
          exact ⟨_, rfl, (hw.anc (w, []) (by simp)).below, by simp only [decide_eq_true_eq, decide_eq_false_iff_not] at *; unfold FaceOK; omega⟩
      ·
        refine c_skip ?_
        refine e_block ?_
        refine e_then ?_
        refine CJ.weak (.c (t := 3) rfl (.c (t := 4) rfl (.c (t := 8) rfl .n))) (fun _ h => h) ?_
        refine c_text ?_
        refine l_y (Cls.gs _ _) ((y_add rfl rfl).lit (by kernel_rfl : _ = Value.int .i64 3)) rfl ?_
        refine l_y (Cls.gs _ _) (y_move rfl) rfl ?_
        refine l_nil ?_
        refine e_rounds ?_
        refine RJ.weak (.c (t := 3) rfl (.c (t := 4) rfl (.c (t := 8) rfl .n))) (fun _ h => h) ?_
        refine r_succ ?_
        refine c_seq ?_
        refine c_text ?_
        refine l_y (Cls.gs _ _) ((y_lss rfl rfl).lit (by kernel_rfl : _ = Value.bool false)) rfl ?_
        refine l_nil ?_
        refine e_then ?_
        refine c_seq ?_
        refine c_false (by kernel_rfl) ?_
        refine c_exit ?_
        refine e_then_exit ?_
        refine e_then_exit ?_
        refine e_block_hit ?_
        refine e_then ?_
        refine CJ.weak (.c (t := 3) rfl (.c (t := 4) rfl .n)) (fun _ h => h) ?_
        refine c_seq ?_
        refine c_seq ?_
        refine c_text ?_
        refine l_y (Cls.gs _ _) (y_move rfl) rfl ?_
        refine l_y (Cls.gs _ _) (y_indexArr Tryz.underlying109 ty2 rfl rfl (by decide) (by decide)) rfl ?_
        refine l_y (Cls.gs _ _) (y_load rfl (LoadAt.oneL .z ty2 (.s .z))) rfl ?_
        refine l_y (Cls.gs _ _) (y_lss rfl rfl) rfl ?_
        refine l_nil ?_
        refine e_then ?_
        refine CJ.weak (.c (t := 4) rfl (.c (t := 33) rfl .n)) (fun _ h => h) ?_
        refine c_cond rfl (fun h11 => ?_) (fun h11 => ?_)
        ·
          refine c_seq ?_
          refine c_text ?_
          refine l_y (Cls.gs _ _) (y_move rfl) rfl ?_
          refine l_y (Cls.gs _ _) ((y_mul rfl rfl).lit (by kernel_rfl : _ = Value.int .i64 2)) rfl ?_
          refine l_y (Cls.gs _ _) ((y_add rfl rfl).lit (by kernel_rfl : _ = Value.int .i64 3)) rfl ?_
          refine l_y (Cls.gs _ _) (y_assign rfl) rfl ?_
          refine l_nil ?_
          refine e_then ?_
          refine CJ.weak (.c (t := 2) rfl .n) (fun _ h => h) ?_
          refine c_ret ?_
          refine e_then_ret ?_
          refine e_ret rfl (.t rfl .n) (fun wF hw => ?_)
          exact ⟨_, rfl, (hw.anc (w, []) (by simp)).below, by simp only [decide_eq_true_eq, decide_eq_false_iff_not] at *; unfold FaceOK; omega⟩
        ·
          refine c_skip ?_
          refine e_then ?_
          refine CJ.weak (.c (t := 4) rfl .n) (fun _ h => h) ?_
          refine c_seq ?_
          refine c_text ?_
          refine l_y (Cls.gs _ _) (y_move rfl) rfl ?_
          refine l_y (Cls.gs _ _) ((y_mul rfl rfl).lit (by kernel_rfl : _ = Value.int .i64 2)) rfl ?_
          refine l_y (Cls.gs _ _) (y_assign rfl) rfl ?_
          refine l_nil ?_
          refine e_then ?_
          refine CJ.weak (.c (t := 2) rfl .n) (fun _ h => h) ?_
          refine c_ret ?_
          refine e_ret rfl (.t rfl .n) (fun wF hw => ?_)
          exact ⟨_, rfl, (hw.anc (w, []) (by simp)).below, by simp only [decide_eq_true_eq, decide_eq_false_iff_not] at *; unfold FaceOK; omega⟩
    ·
      refine c_skip ?_
      refine e_block ?_
      refine e_then ?_
      refine CJ.weak (.c (t := 3) rfl (.c (t := 4) rfl (.c (t := 8) rfl .n))) (fun _ h => h) ?_
      refine c_text ?_
      refine l_y (Cls.gs _ _) ((y_add rfl rfl).lit (by kernel_rfl : _ = Value.int .i64 2)) rfl ?_
      refine l_y (Cls.gs _ _) (y_move rfl) rfl ?_
      refine l_nil ?_
      refine e_rounds ?_
      refine RJ.weak (.c (t := 3) rfl (.c (t := 4) rfl (.c (t := 8) rfl .n))) (fun _ h => h) ?_
      refine r_succ ?_
      refine c_seq ?_
      refine c_text ?_
      refine l_y (Cls.gs _ _) ((y_lss rfl rfl).lit (by kernel_rfl : _ = Value.bool true)) rfl ?_
      refine l_nil ?_
      refine e_then ?_
      refine c_seq ?_
      refine c_true (by kernel_rfl) ?_
      refine c_skip ?_
      refine e_then ?_
      refine CJ.weak (.c (t := 3) rfl (.c (t := 4) rfl (.c (t := 8) rfl .n))) (fun _ h => h) ?_
      refine c_seq ?_
      refine c_block ?_
      refine c_seq ?_
      refine c_text ?_
      refine l_y (Cls.gs _ _) (y_move rfl) rfl ?_
      refine l_y (Cls.gs _ _) (y_assign rfl) rfl ?_
      refine l_nil ?_
      refine e_then ?_
      refine CJ.weak (.c (t := 3) rfl (.c (t := 4) rfl (.c (t := 5) rfl (.c (t := 8) rfl .n)))) (fun _ h => h) ?_
      refine c_seq ?_
      refine c_draw (m := 17) (S0 := fun _ => True) (fun _ => false) (fun _ _ => trivial) hmix (Cls.gs _ _) rfl ?_
      refine a_y (i := 0) (Cls.gs _ _) (by kernel_rfl) rfl (by kernel_rfl) (by kernel_rfl) (y_move rfl) rfl ?_
      refine a_y (i := 1) (Cls.gs _ _) (by kernel_rfl) rfl (by kernel_rfl) (by kernel_rfl) (y_indexArr Tryz.underlying109 ty2 rfl rfl (by decide) (by decide)) rfl ?_
      refine a_y (i := 2) (Cls.gs _ _) (by kernel_rfl) rfl (by kernel_rfl) (by kernel_rfl) (y_load rfl (LoadAt.oneL .z ty2 (.s (.s .z)))) rfl ?_
      refine a_y (i := 3) (Cls.gs _ _) (by kernel_rfl) rfl (by kernel_rfl) (by kernel_rfl) (y_move rfl) rfl ?_
      refine a_y (i := 4) (Cls.gs _ _) (by kernel_rfl) rfl (by kernel_rfl) (by kernel_rfl) (y_indexArr Tryz.underlying109 ty2 rfl rfl (by decide) (by decide)) rfl ?_
      refine a_y (i := 5) (Cls.gs _ _) (by kernel_rfl) rfl (by kernel_rfl) (by kernel_rfl) (y_load rfl (LoadAt.oneL .z ty2 (.s (.s .z)))) rfl ?_
      refine a_y (i := 6) (Cls.gs _ _) (by kernel_rfl) rfl (by kernel_rfl) (by kernel_rfl) ((y_neg rfl).lit (lit64 rfl (by omega) (by omega))) rfl ?_
      refine a_y (i := 7) (Cls.gs _ _) (by kernel_rfl) rfl (by kernel_rfl) (by kernel_rfl) (y_max2 rfl rfl) rfl ?_
      refine a_y (i := 8) (Cls.gs _ _) (by kernel_rfl) rfl (by kernel_rfl) (by kernel_rfl) (y_move rfl) rfl ?_
      refine a_y (i := 9) (Cls.gs _ _) (by kernel_rfl) rfl (by kernel_rfl) (by kernel_rfl) (y_indexArr Tryz.underlying109 ty2 rfl rfl (by decide) (by decide)) rfl ?_
      refine a_y (i := 10) (Cls.gs _ _) (by kernel_rfl) rfl (by kernel_rfl) (by kernel_rfl) (y_load rfl (LoadAt.oneL .z ty2 .z)) rfl ?_
      refine a_y (i := 11) (Cls.gs _ _) (by kernel_rfl) rfl (by kernel_rfl) (by kernel_rfl) (y_move rfl) rfl ?_
      refine a_y (i := 12) (Cls.gs _ _) (by kernel_rfl) rfl (by kernel_rfl) (by kernel_rfl) (y_indexArr Tryz.underlying109 ty2 rfl rfl (by decide) (by decide)) rfl ?_
      refine a_y (i := 13) (Cls.gs _ _) (by kernel_rfl) rfl (by kernel_rfl) (by kernel_rfl) (y_load rfl (LoadAt.oneL .z ty2 .z)) rfl ?_
      refine a_y (i := 14) (Cls.gs _ _) (by kernel_rfl) rfl (by kernel_rfl) (by kernel_rfl) ((y_neg rfl).lit (lit64 rfl (by omega) (by omega))) rfl ?_
      refine a_y (i := 15) (Cls.gs _ _) (by kernel_rfl) rfl (by kernel_rfl) (by kernel_rfl) (y_max2 rfl rfl) rfl ?_
      refine a_y (i := 16) (Cls.gs _ _) (by kernel_rfl) rfl (by kernel_rfl) (by kernel_rfl) (y_gtr rfl rfl) rfl ?_
      refine a_done (by kernel_rfl) ?_
      refine e_then ?_
      refine CJ.weak (.c (t := 3) rfl (.c (t := 4) rfl (.c (t := 5) rfl (.c (t := 8) rfl (.c (t := 27) rfl .n))))) (fun _ h => h) ?_
      refine c_cond rfl (fun h12 => ?_) (fun h12 => ?_)
      ·
        refine c_text ?_
        refine l_y (Cls.gs _ _) (y_move rfl) rfl ?_
        refine l_y (Cls.gs _ _) (y_assign rfl) rfl ?_
        refine l_nil ?_
        refine e_block ?_
        refine e_then ?_
        refine CJ.weak (.c (t := 3) rfl (.c (t := 4) rfl (.c (t := 8) rfl .n))) (fun _ h => h) ?_
        refine c_text ?_
        refine l_y (Cls.gs _ _) ((y_add rfl rfl).lit (by kernel_rfl : _ = Value.int .i64 3)) rfl ?_
        refine l_y (Cls.gs _ _) (y_move rfl) rfl ?_
        refine l_nil ?_
        refine e_rounds ?_
        refine RJ.weak (.c (t := 3) rfl (.c (t := 4) rfl (.c (t := 8) rfl .n))) (fun _ h => h) ?_
        refine r_succ ?_
        refine c_seq ?_
        refine c_text ?_
        refine l_y (Cls.gs _ _) ((y_lss rfl rfl).lit (by kernel_rfl : _ = Value.bool false)) rfl ?_
        refine l_nil ?_
        refine e_then ?_
        refine c_seq ?_
        refine c_false (by kernel_rfl) ?_
        refine c_exit ?_
        refine e_then_exit ?_
        refine e_then_exit ?_
        refine e_block_hit ?_
        refine e_then ?_
        refine CJ.weak (.c (t := 3) rfl (.c (t := 4) rfl .n)) (fun _ h => h) ?_
        refine c_seq ?_
        refine c_seq ?_
        refine c_text ?_
        refine l_y (Cls.gs _ _) (y_move rfl) rfl ?_
        refine l_y (Cls.gs _ _) (y_indexArr Tryz.underlying109 ty2 rfl rfl (by decide) (by decide)) rfl ?_
        refine l_y (Cls.gs _ _) (y_load rfl (LoadAt.oneL .z ty2 (.s (.s .z)))) rfl ?_
        refine l_y (Cls.gs _ _) (y_lss rfl rfl) rfl ?_
        refine l_nil ?_
        refine e_then ?_
        refine CJ.weak (.c (t := 4) rfl (.c (t := 33) rfl .n)) (fun _ h => h) ?_
        refine c_cond rfl (fun h13 => ?_) (fun h13 => ?_)
        ·
          refine c_seq ?_
          refine c_text ?_
          refine l_y (Cls.gs _ _) (y_move rfl) rfl ?_
          refine l_y (Cls.gs _ _) ((y_mul rfl rfl).lit (by kernel_rfl : _ = Value.int .i64 4)) rfl ?_
          refine l_y (Cls.gs _ _) ((y_add rfl rfl).lit (by kernel_rfl : _ = Value.int .i64 5)) rfl ?_
          refine l_y (Cls.gs _ _) (y_assign rfl) rfl ?_
          refine l_nil ?_
          refine e_then ?_
          refine CJ.weak (.c (t := 2) rfl .n) (fun _ h => h) ?_
          refine c_ret ?_
          refine e_then_ret ?_
          refine e_ret rfl (.t rfl .n) (fun wF hw => ?_)
          exact ⟨_, rfl, (hw.anc (w, []) (by simp)).below, by simp only [decide_eq_true_eq, decide_eq_false_iff_not] at *; unfold FaceOK; omega⟩
        ·
          refine c_skip ?_
          refine e_then ?_
          refine CJ.weak (.c (t := 4) rfl .n) (fun _ h => h) ?_
          refine c_seq ?_
          refine c_text ?_
          refine l_y (Cls.gs _ _) (y_move rfl) rfl ?_
          refine l_y (Cls.gs _ _) ((y_mul rfl rfl).lit (by kernel_rfl : _ = Value.int .i64 4)) rfl ?_
          refine l_y (Cls.gs _ _) (y_assign rfl) rfl ?_
          refine l_nil ?_
          refine e_then ?_
          refine CJ.weak (.c (t := 2) rfl .n) (fun _ h => h) ?_
          refine c_ret ?_
          refine e_ret rfl (.t rfl .n) (fun wF hw => ?_)
          exact ⟨_, rfl, (hw.anc (w, []) (by simp)).below, by simp only [decide_eq_true_eq, decide_eq_false_iff_not] at *; unfold FaceOK; omega⟩
      ·
        refine c_skip ?_
        refine e_block ?_
        refine e_then ?_
        refine CJ.weak (.c (t := 3) rfl (.c (t := 4) rfl (.c (t := 8) rfl .n))) (fun _ h => h) ?_
        refine c_text ?_
        refine l_y (Cls.gs _ _) ((y_add rfl rfl).lit (by kernel_rfl : _ = Value.int .i64 3)) rfl ?_
        refine l_y (Cls.gs _ _) (y_move rfl) rfl ?_
        refine l_nil ?_
        refine e_rounds ?_
        refine RJ.weak (.c (t := 3) rfl (.c (t := 4) rfl (.c (t := 8) rfl .n))) (fun _ h => h) ?_
        refine r_succ ?_
        refine c_seq ?_
        refine c_text ?_
        refine l_y (Cls.gs _ _) ((y_lss rfl rfl).lit (by kernel_rfl : _ = Value.bool false)) rfl ?_
        refine l_nil ?_
        refine e_then ?_
        refine c_seq ?_
        refine c_false (by kernel_rfl) ?_
        refine c_exit ?_
        refine e_then_exit ?_
        refine e_then_exit ?_
        refine e_block_hit ?_
        refine e_then ?_
        refine CJ.weak (.c (t := 3) rfl (.c (t := 4) rfl .n)) (fun _ h => h) ?_
        refine c_seq ?_
        refine c_seq ?_
        refine c_text ?_
        refine l_y (Cls.gs _ _) (y_move rfl) rfl ?_
        refine l_y (Cls.gs _ _) (y_indexArr Tryz.underlying109 ty2 rfl rfl (by decide) (by decide)) rfl ?_
        refine l_y (Cls.gs _ _) (y_load rfl (LoadAt.oneL .z ty2 .z)) rfl ?_
        refine l_y (Cls.gs _ _) (y_lss rfl rfl) rfl ?_
        refine l_nil ?_
        refine e_then ?_
        refine CJ.weak (.c (t := 4) rfl (.c (t := 33) rfl .n)) (fun _ h => h) ?_
        refine c_cond rfl (fun h14 => ?_) (fun h14 => ?_)
        ·
          refine c_seq ?_
          refine c_text ?_
          refine l_y (Cls.gs _ _) (y_move rfl) rfl ?_
          refine l_y (Cls.gs _ _) ((y_mul rfl rfl).lit (by kernel_rfl : _ = Value.int .i64 0)) rfl ?_
          refine l_y (Cls.gs _ _) ((y_add rfl rfl).lit (by kernel_rfl : _ = Value.int .i64 1)) rfl ?_
          refine l_y (Cls.gs _ _) (y_assign rfl) rfl ?_
          refine l_nil ?_
          refine e_then ?_
          refine CJ.weak (.c (t := 2) rfl .n) (fun _ h => h) ?_
          refine c_ret ?_
          refine e_then_ret ?_
          refine e_ret rfl (.t rfl .n) (fun wF hw => ?_)
          exact ⟨_, rfl, (hw.anc (w, []) (by simp)).below, by simp only [decide_eq_true_eq, decide_eq_false_iff_not] at *; unfold FaceOK; omega⟩
        ·
          refine c_skip ?_
          refine e_then ?_
          refine CJ.weak (.c (t := 4) rfl .n) (fun _ h => h) ?_
          refine c_seq ?_
          refine c_text ?_
          refine l_y (Cls.gs _ _) (y_move rfl) rfl ?_
          refine l_y (Cls.gs _ _) ((y_mul rfl rfl).lit (by kernel_rfl : _ = Value.int .i64 0)) rfl ?_
          refine l_y (Cls.gs _ _) (y_assign rfl) rfl ?_
          refine l_nil ?_
          refine e_then ?_
          refine CJ.weak (.c (t := 2) rfl .n) (fun _ h => h) ?_
          refine c_ret ?_
          refine e_ret rfl (.t rfl .n) (fun wF hw => ?_)
          exact ⟨_, rfl, (hw.anc (w, []) (by simp)).below, by simp only [decide_eq_true_eq, decide_eq_false_iff_not] at *; unfold FaceOK; omega⟩

theorem axes40 (f : Int) (hf : 0 ≤ f ∧ f ≤ 5) (w : World) : Calls Tryz.prog 40 #[.int .i64 f] w fun e w' => e = .returned (.tuple #[.int .i64 (f / 2), .int .i64 ((f / 2 + 1) % 3), .int .i64 ((f / 2 + 2) % 3)]) ∧ Gr w w' := by
  refine enter Tryz.func40 rfl rfl rfl rfl (Cls.start w) ?_
  refine c_seq ?_
  refine c_text ?_
  refine l_y (Cls.gs _ _) (y_assign rfl) rfl ?_
  refine l_y (Cls.gs _ _) (y_assign rfl) rfl ?_
  refine l_y (Cls.gs _ _) (y_assign rfl) rfl ?_
  refine l_nil ?_
  refine e_then ?_
  refine CJ.weak (.c (t := 0) rfl .n) (fun _ h => h) ?_
  refine c_seq ?_
  refine c_text ?_
  refine l_y (Cls.gs _ _) (y_move rfl) rfl ?_
  refine l_y (Cls.gs _ _) ((y_quo rfl rfl (by decide)).lit (lit64 (y := f / 2) (Int.tdiv_eq_ediv_of_nonneg hf.1) (by rw [Int.tdiv_eq_ediv_of_nonneg hf.1]; omega) (by rw [Int.tdiv_eq_ediv_of_nonneg hf.1]; omega))) rfl ?_
  refine l_y (Cls.gs _ _) (y_assign rfl) rfl ?_
  refine l_nil ?_
  refine e_then ?_
  refine CJ.weak (.c (t := 5) rfl .n) (fun _ h => h) ?_
  refine c_seq ?_
  refine c_text ?_
  refine l_y (Cls.gs _ _) (y_move rfl) rfl ?_
  refine l_y (Cls.gs _ _) (y_move rfl) rfl ?_
  refine l_y (Cls.gs _ _) (y_add64 (f / 2) 1 rfl rfl (by omega) (by omega)) rfl ?_
  refine l_y (Cls.gs _ _) ((y_rem rfl rfl (by decide)).lit (VI (Int.tmod_eq_emod_of_nonneg (by omega)))) rfl ?_
  refine l_y (Cls.gs _ _) (y_move rfl) rfl ?_
  refine l_y (Cls.gs _ _) (y_add64 (f / 2) 2 rfl rfl (by omega) (by omega)) rfl ?_
  refine l_y (Cls.gs _ _) ((y_rem rfl rfl (by decide)).lit (VI (Int.tmod_eq_emod_of_nonneg (by omega)))) rfl ?_
  refine l_y (Cls.gs _ _) (y_assign rfl) rfl ?_
  refine l_y (Cls.gs _ _) (y_assign rfl) rfl ?_
  refine l_y (Cls.gs _ _) (y_assign rfl) rfl ?_
  refine l_nil ?_
  refine e_then ?_
  refine CJ.weak (.c (t := 2) rfl (.c (t := 3) rfl (.c (t := 4) rfl .n))) (fun _ h => h) ?_
  refine c_ret ?_
  refine e_ret rfl (.t rfl (.t rfl (.t rfl .n))) (fun wF hw => ?_)
  exact ⟨rfl, (hw.anc (w, []) (by simp)).below⟩

theorem place41 (x m lv : Int) (pm pl : Nat) (hm : 1 ≤ m ∧ m ≤ 1048576) (hl : 0 ≤ lv) (w : World) (hpm : w.heap[pm]? = some (blk [.int .i64 m] 2)) (hpl : w.heap[pl]? = some (blk [.int .i64 lv] 3)) : Calls Tryz.prog 41 #[.int .i64 x, .pointer (some ⟨pm, 0, none⟩), .pointer (some ⟨pl, 0, none⟩)] w fun e w' => e = .returned (.int .i64 (placeV x m lv)) ∧ Gr w w' := by
  refine enter Tryz.func41 rfl rfl rfl rfl (Cls.start w) ?_
  refine c_seq ?_
  refine c_text ?_
  refine l_y (Cls.gs _ _) (y_assign rfl) rfl ?_
  refine l_nil ?_
  refine e_then ?_
  refine CJ.weak (.c (t := 0) rfl (.c (t := 1) rfl (.c (t := 2) rfl .n))) (fun _ h => h) ?_
  refine c_seq ?_
  refine c_draw (m := 13) (S0 := fun _ => True) (fun _ => false) (fun _ _ => trivial) hmix (Cls.gs _ _) rfl ?_
  refine a_y (i := 0) (Cls.gs _ _) (by kernel_rfl) rfl (by kernel_rfl) (by kernel_rfl) (y_move rfl) rfl ?_
  refine a_y (i := 1) (Cls.gs _ _) (by kernel_rfl) rfl (by kernel_rfl) (by kernel_rfl) (y_load rfl (LoadAt.oneB .z hpm ty2 .z)) rfl ?_
  refine a_y (i := 2) (Cls.gs _ _) (by kernel_rfl) rfl (by kernel_rfl) (by kernel_rfl) (y_add rfl rfl) rfl ?_
  refine a_y (i := 3) (Cls.gs _ _) (by kernel_rfl) rfl (by kernel_rfl) (by kernel_rfl) (y_load rfl (LoadAt.oneB .z hpl ty3 .z)) rfl ?_
  refine a_y (i := 4) (Cls.gs _ _) (by kernel_rfl) rfl (by kernel_rfl) (by kernel_rfl) (y_shl rfl rfl (by exact hl)) rfl ?_
  refine a_y (i := 5) (Cls.gs _ _) (by kernel_rfl) rfl (by kernel_rfl) (by kernel_rfl) (y_load rfl (LoadAt.oneB .z hpm ty2 .z)) rfl ?_
  refine a_y (i := 6) (Cls.gs _ _) (by kernel_rfl) rfl (by kernel_rfl) (by kernel_rfl) (y_mul rfl rfl) rfl ?_
  refine a_y (i := 7) (Cls.gs _ _) (by kernel_rfl) rfl (by kernel_rfl) (by kernel_rfl) (y_quo rfl rfl (by rw [w64 (by omega) (by omega)]; omega)) rfl ?_
  refine a_y (i := 8) (Cls.gs _ _) (by kernel_rfl) rfl (by kernel_rfl) (by kernel_rfl) (y_load rfl (LoadAt.oneB .z hpl ty3 .z)) rfl ?_
  refine a_y (i := 9) (Cls.gs _ _) (by kernel_rfl) rfl (by kernel_rfl) (by kernel_rfl) (y_shl rfl rfl (by exact hl)) rfl ?_
  refine a_y (i := 10) (Cls.gs _ _) (by kernel_rfl) rfl (by kernel_rfl) (by kernel_rfl) (y_sub rfl rfl) rfl ?_
  refine a_y (i := 11) (Cls.gs _ _) (by kernel_rfl) rfl (by kernel_rfl) (by kernel_rfl) (y_min2 rfl rfl) rfl ?_
  refine a_y (i := 12) (Cls.gs _ _) (by kernel_rfl) rfl (by kernel_rfl) (by kernel_rfl) (y_assign rfl) rfl ?_
  refine a_done (by kernel_rfl) ?_
  refine e_then ?_
  refine CJ.weak (.c (t := 4) rfl .n) (fun _ h => h) ?_
  refine c_ret ?_
  refine e_ret rfl (.t rfl .n) (fun wF hw => ?_)
  exact ⟨rfl, (hw.anc (w, []) (by simp)).below⟩

end Go.Proofs.YtdpdahpkdimopaaGreat
