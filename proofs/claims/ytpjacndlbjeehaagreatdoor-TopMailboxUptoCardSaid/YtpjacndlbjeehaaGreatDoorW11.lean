/-
  A part of the proof of TopMailbox: walks of single functions, and plain facts.
-/
import Derived.Test.YtpjacndlbjeehaaGreatDoorPf
import Derived.Test.YtpjacndlbjeehaaGreatDoorM1
import Derived.KernelRfl
import Derived.Laws.Externs
set_option linter.unusedVariables false
set_option linter.unusedSimpArgs false
set_option maxRecDepth 100000
namespace Go.Proofs.YtpjacndlbjeehaaGreatDoor
open Go Go.Px Mb
theorem add64_run (x y c : Int) (hx : 0 ≤ x) (hy : 0 ≤ y) (hc0 : 0 ≤ c) (hc : c ≤ 1) (w : World) :
    (callFunc 124 #[.int .u64 x, .int .u64 y, .int .u64 c]).run Tryz.prog w = .ok (.value (.tuple #[.int .u64 ((x + y + c) % 18446744073709551616), .int .u64 ((x + y + c) / 18446744073709551616)])) w := by
  rw [run_callFunc_extern Tryz.func124 (by kernel_rfl) (by kernel_rfl) (by kernel_rfl) (e := add64Entry) (by kernel_rfl), run_add64 x y c hx hy hc0 hc]
  rfl

theorem or49z3 (p0 : Nat) (w : World) (hp0 : w.heap[p0]? = some (blk [.int .i64 0, .int .i64 0, .int .i64 0] 37)) : Calls Tryz.prog 49 #[.slice (some ⟨p0, 0, none⟩) 3 3] w fun e w' => e = .returned (.int .i64 0) ∧ Gr w w' := by
  refine enter Tryz.func49 rfl rfl rfl rfl (Cls.start w) ?_
  refine c_seq ?_
  refine c_text ?_
  refine l_y (Cls.gs _ _) (y_assign rfl) rfl ?_
  refine l_nil ?_
  refine e_then ?_
  refine CJ.weak (.c (t := 0) rfl .n) (fun _ h => h) ?_
  refine c_seq ?_
  refine c_text ?_
  refine l_y (Cls.gs _ _) (y_assign rfl) rfl ?_
  refine l_nil ?_
  refine e_then ?_
  refine c_seq ?_
  refine c_seq ?_
  refine c_text ?_
  refine l_y (Cls.gs _ _) (y_move rfl) rfl ?_
  refine l_y (Cls.gs _ _) ((y_lenS Tryz.underlying73 rfl rfl).lit (by kernel_rfl : _ = Value.int .i64 3)) rfl ?_
  refine l_y (Cls.gs _ _) (y_move rfl) rfl ?_
  refine l_nil ?_
  refine e_then ?_
  refine CJ.weak (.c (t := 3) rfl (.c (t := 6) rfl (.c (t := 7) rfl (.c (t := 8) rfl .n)))) (fun _ h => h) ?_
  refine c_block ?_
  refine c_rounds 6 ?_
  refine r_succ ?_
  refine c_seq ?_
  refine c_text ?_
  refine l_y (Cls.gs _ _) ((y_lss rfl rfl).lit (by kernel_rfl : _ = Value.bool true)) rfl ?_
  refine l_nil ?_
  refine e_then ?_
  refine c_seq ?_
  refine c_true (by kernel_rfl) ?_
  refine c_skip ?_
  refine e_then ?_
  refine CJ.weak (.c (t := 3) rfl (.c (t := 6) rfl (.c (t := 7) rfl (.c (t := 8) rfl .n)))) (fun _ h => h) ?_
  refine c_seq ?_
  refine c_block ?_
  refine c_seq ?_
  refine c_text ?_
  refine l_y (Cls.gs _ _) (y_indexAddr Tryz.underlying73 ty37 rfl rfl (by decide) (by decide)) rfl ?_
  refine l_y (Cls.gs _ _) (y_load rfl (LoadAt.oneB .z hp0 ty37 .z)) rfl ?_
  refine l_y (Cls.gs _ _) (y_assign rfl) rfl ?_
  refine l_nil ?_
  refine e_then ?_
  refine CJ.weak (.c (t := 3) rfl (.c (t := 5) rfl (.c (t := 6) rfl (.c (t := 7) rfl (.c (t := 8) rfl .n))))) (fun _ h => h) ?_
  refine c_seq ?_
  refine c_text ?_
  refine l_y (Cls.gs _ _) (y_move rfl) rfl ?_
  refine l_y (Cls.gs _ _) (y_move rfl) rfl ?_
  refine l_y (Cls.gs _ _) ((y_neq rfl rfl).lit (by kernel_rfl : _ = Value.bool false)) rfl ?_
  refine l_nil ?_
  refine e_then ?_
  refine CJ.weak (.c (t := 3) rfl (.c (t := 5) rfl (.c (t := 6) rfl (.c (t := 7) rfl (.c (t := 8) rfl (.c (t := 14) rfl .n)))))) (fun _ h => h) ?_
  refine c_false (by kernel_rfl) ?_
  refine c_skip ?_
  refine e_block ?_
  refine e_then ?_
  refine CJ.weak (.c (t := 3) rfl (.c (t := 6) rfl (.c (t := 7) rfl (.c (t := 8) rfl .n)))) (fun _ h => h) ?_
  refine c_text ?_
  refine l_y (Cls.gs _ _) ((y_add rfl rfl).lit (by kernel_rfl : _ = Value.int .i64 1)) rfl ?_
  refine l_y (Cls.gs _ _) (y_move rfl) rfl ?_
  refine l_nil ?_
  refine e_rounds ?_
  refine RJ.weak (.c (t := 3) rfl (.c (t := 6) rfl (.c (t := 7) rfl (.c (t := 8) rfl .n)))) (fun _ h => h) ?_
  refine r_succ ?_
  refine c_seq ?_
  refine c_text ?_
  refine l_y (Cls.gs _ _) ((y_lss rfl rfl).lit (by kernel_rfl : _ = Value.bool true)) rfl ?_
  refine l_nil ?_
  refine e_then ?_
  refine c_seq ?_
  refine c_true (by kernel_rfl) ?_
  refine c_skip ?_
  refine e_then ?_
  refine CJ.weak (.c (t := 3) rfl (.c (t := 6) rfl (.c (t := 7) rfl (.c (t := 8) rfl .n)))) (fun _ h => h) ?_
  refine c_seq ?_
  refine c_block ?_
  refine c_seq ?_
  refine c_text ?_
  refine l_y (Cls.gs _ _) (y_indexAddr Tryz.underlying73 ty37 rfl rfl (by decide) (by decide)) rfl ?_
  refine l_y (Cls.gs _ _) (y_load rfl (LoadAt.oneB .z hp0 ty37 (.s .z))) rfl ?_
  refine l_y (Cls.gs _ _) (y_assign rfl) rfl ?_
  refine l_nil ?_
  refine e_then ?_
  refine CJ.weak (.c (t := 3) rfl (.c (t := 5) rfl (.c (t := 6) rfl (.c (t := 7) rfl (.c (t := 8) rfl .n))))) (fun _ h => h) ?_
  refine c_seq ?_
  refine c_text ?_
  refine l_y (Cls.gs _ _) (y_move rfl) rfl ?_
  refine l_y (Cls.gs _ _) (y_move rfl) rfl ?_
  refine l_y (Cls.gs _ _) ((y_neq rfl rfl).lit (by kernel_rfl : _ = Value.bool false)) rfl ?_
  refine l_nil ?_
  refine e_then ?_
  refine CJ.weak (.c (t := 3) rfl (.c (t := 5) rfl (.c (t := 6) rfl (.c (t := 7) rfl (.c (t := 8) rfl (.c (t := 14) rfl .n)))))) (fun _ h => h) ?_
  refine c_false (by kernel_rfl) ?_
  refine c_skip ?_
  refine e_block ?_
  refine e_then ?_
  refine CJ.weak (.c (t := 3) rfl (.c (t := 6) rfl (.c (t := 7) rfl (.c (t := 8) rfl .n)))) (fun _ h => h) ?_
  refine c_text ?_
  refine l_y (Cls.gs _ _) ((y_add rfl rfl).lit (by kernel_rfl : _ = Value.int .i64 2)) rfl ?_
  refine l_y (Cls.gs _ _) (y_move rfl) rfl ?_
  refine l_nil ?_
  refine e_rounds ?_
  refine RJ.weak (.c (t := 3) rfl (.c (t := 6) rfl (.c (t := 7) rfl (.c (t := 8) rfl .n)))) (fun _ h => h) ?_
  refine r_succ ?_
  refine c_seq ?_
  refine c_text ?_
  refine l_y (Cls.gs _ _) ((y_lss rfl rfl).lit (by kernel_rfl : _ = Value.bool true)) rfl ?_
  refine l_nil ?_
  refine e_then ?_
  refine c_seq ?_
  refine c_true (by kernel_rfl) ?_
  refine c_skip ?_
  refine e_then ?_
  refine CJ.weak (.c (t := 3) rfl (.c (t := 6) rfl (.c (t := 7) rfl (.c (t := 8) rfl .n)))) (fun _ h => h) ?_
  refine c_seq ?_
  refine c_block ?_
  refine c_seq ?_
  refine c_text ?_
  refine l_y (Cls.gs _ _) (y_indexAddr Tryz.underlying73 ty37 rfl rfl (by decide) (by decide)) rfl ?_
  refine l_y (Cls.gs _ _) (y_load rfl (LoadAt.oneB .z hp0 ty37 (.s (.s .z)))) rfl ?_
  refine l_y (Cls.gs _ _) (y_assign rfl) rfl ?_
  refine l_nil ?_
  refine e_then ?_
  refine CJ.weak (.c (t := 3) rfl (.c (t := 5) rfl (.c (t := 6) rfl (.c (t := 7) rfl (.c (t := 8) rfl .n))))) (fun _ h => h) ?_
  refine c_seq ?_
  refine c_text ?_
  refine l_y (Cls.gs _ _) (y_move rfl) rfl ?_
  refine l_y (Cls.gs _ _) (y_move rfl) rfl ?_
  refine l_y (Cls.gs _ _) ((y_neq rfl rfl).lit (by kernel_rfl : _ = Value.bool false)) rfl ?_
  refine l_nil ?_
  refine e_then ?_
  refine CJ.weak (.c (t := 3) rfl (.c (t := 5) rfl (.c (t := 6) rfl (.c (t := 7) rfl (.c (t := 8) rfl (.c (t := 14) rfl .n)))))) (fun _ h => h) ?_
  refine c_false (by kernel_rfl) ?_
  refine c_skip ?_
  refine e_block ?_
  refine e_then ?_
  refine CJ.weak (.c (t := 3) rfl (.c (t := 6) rfl (.c (t := 7) rfl (.c (t := 8) rfl .n)))) (fun _ h => h) ?_
  refine c_text ?_
  refine l_y (Cls.gs _ _) ((y_add rfl rfl).lit (by kernel_rfl : _ = Value.int .i64 3)) rfl ?_
  refine l_y (Cls.gs _ _) (y_move rfl) rfl ?_
  refine l_nil ?_
  refine e_rounds ?_
  refine RJ.weak (.c (t := 3) rfl (.c (t := 6) rfl (.c (t := 7) rfl (.c (t := 8) rfl .n)))) (fun _ h => h) ?_
  refine r_succ ?_
  refine c_seq ?_
  refine c_text ?_
  refine l_y (Cls.gs _ _) ((y_lss rfl rfl).lit (by kernel_rfl : _ = Value.bool false)) rfl ?_
  refine l_nil ?_
  refine e_then ?_
  refine c_seq ?_
  refine c_false (by kernel_rfl) ?_
  refine c_exit ?_
  refine e_then_exit ?_
  refine e_then_exit ?_
  refine e_block_hit ?_
  refine e_then ?_
  refine CJ.weak (.c (t := 3) rfl .n) (fun _ h => h) ?_
  refine c_seq ?_
  refine c_text ?_
  refine l_y (Cls.gs _ _) (y_move rfl) rfl ?_
  refine l_y (Cls.gs _ _) (y_assign rfl) rfl ?_
  refine l_nil ?_
  refine e_then ?_
  refine CJ.weak (.c (t := 2) rfl .n) (fun _ h => h) ?_
  refine c_ret ?_
  refine e_ret rfl (.t rfl .n) (fun wF hw => ?_)
  exact ⟨rfl, (hw.anc (w, []) (by simp)).below⟩

theorem c50_0 (w : World) : Calls Tryz.prog 50 #[.agg #[.int .i64 1, .int .i64 0, .int .i64 0, .int .i64 0]] w fun e w' => e = .returned (.int .i64 0) ∧ Gr w w' := by
  refine enter Tryz.func50 rfl rfl rfl rfl (Cls.start w) ?_
  refine c_seq ?_
  refine c_text ?_
  refine l_n rfl (n_box rfl .a rfl) (fun b0 _ => ?_)
  refine l_y (Cls.gs _ _) (y_assign rfl) rfl ?_
  refine l_nil ?_
  refine e_then ?_
  refine CJ.weak (.c (t := 1) rfl .n) (fun _ h => h) ?_
  refine c_seq ?_
  refine c_block ?_
  refine c_seq ?_
  refine c_text ?_
  refine l_y (Cls.gs _ _) (y_fieldAddr rfl fa64_0) rfl ?_
  refine l_y (Cls.gs _ _) (y_load rfl (LoadAt.oneL .z ty2 .z)) rfl ?_
  refine l_y (Cls.gs _ _) (y_fieldAddr rfl fa64_1) rfl ?_
  refine l_y (Cls.gs _ _) (y_load rfl (LoadAt.oneL .z ty2 (.s .z))) rfl ?_
  refine l_y (Cls.gs _ _) (y_fieldAddr rfl fa64_2) rfl ?_
  refine l_y (Cls.gs _ _) (y_load rfl (LoadAt.oneL .z ty2 (.s (.s .z)))) rfl ?_
  refine l_y (Cls.gs _ _) (y_fieldAddr rfl fa64_3) rfl ?_
  refine l_y (Cls.gs _ _) (y_load rfl (LoadAt.oneL .z ty2 (.s (.s (.s .z))))) rfl ?_
  refine l_y (Cls.gs _ _) ((y_max4 rfl rfl rfl rfl).lit (by kernel_rfl : _ = Value.int .i64 1)) rfl ?_
  refine l_y (Cls.gs _ _) ((y_gtr rfl rfl).lit (by kernel_rfl : _ = Value.bool false)) rfl ?_
  refine l_y (Cls.gs _ _) (y_move rfl) rfl ?_
  refine l_g (s := 14) (Cls.gs _ _) (by kernel_rfl) rfl (beq_f _) (fun hg => y_fieldAddr rfl fa64_0) rfl ?_
  refine l_g (s := 14) (Cls.gs _ _) (by kernel_rfl) rfl (beq_f _) (fun hg => y_load (gvt hg rfl) (LoadAt.oneL .z ty2 .z)) rfl ?_
  refine l_g (s := 14) (Cls.gs _ _) (by kernel_rfl) rfl (beq_f _) (fun hg => y_fieldAddr rfl fa64_1) rfl ?_
  refine l_g (s := 14) (Cls.gs _ _) (by kernel_rfl) rfl (beq_f _) (fun hg => y_load (gvt hg rfl) (LoadAt.oneL .z ty2 (.s .z))) rfl ?_
  refine l_g (s := 14) (Cls.gs _ _) (by kernel_rfl) rfl (beq_f _) (fun hg => y_fieldAddr rfl fa64_2) rfl ?_
  refine l_g (s := 14) (Cls.gs _ _) (by kernel_rfl) rfl (beq_f _) (fun hg => y_load (gvt hg rfl) (LoadAt.oneL .z ty2 (.s (.s .z)))) rfl ?_
  refine l_g (s := 14) (Cls.gs _ _) (by kernel_rfl) rfl (beq_f _) (fun hg => y_fieldAddr rfl fa64_3) rfl ?_
  refine l_g (s := 14) (Cls.gs _ _) (by kernel_rfl) rfl (beq_f _) (fun hg => y_load (gvt hg rfl) (LoadAt.oneL .z ty2 (.s (.s (.s .z))))) rfl ?_
  refine l_g (s := 14) (Cls.gs _ _) (by kernel_rfl) rfl (beq_f _) (fun hg => (y_min4 (gvt hg rfl) (gvt hg rfl) (gvt hg rfl) (gvt hg rfl)).lit (by kernel_rfl : _ = Value.int .i64 0)) rfl ?_
  refine l_g (s := 14) (Cls.gs _ _) (by kernel_rfl) rfl (beq_f _) (fun hg => (y_lss (gvt hg rfl) rfl).lit (by kernel_rfl : _ = Value.bool false)) rfl ?_
  refine l_y (Cls.gs _ _) ((y_or rfl rfl rfl).lit (by kernel_rfl : _ = Value.bool false)) rfl ?_
  refine l_y (Cls.gs _ _) (y_assign rfl) rfl ?_
  refine l_nil ?_
  refine e_then ?_
  refine CJ.weak (.c (t := 1) rfl (.c (t := 3) rfl .n)) (fun _ h => h) ?_
  refine c_false (by kernel_rfl) ?_
  refine c_seq ?_
  refine c_text ?_
  refine l_y (Cls.gs _ _) (y_load rfl (LoadAt.aggL .z ty64 (.t (.t (.t (.t .d)))))) rfl ?_
  refine l_y (Cls.gs _ _) (y_build pl64 ty64 .a .n .d) rfl ?_
  refine l_y (Cls.gs _ _) ((y_eqA Tryz.underlying64 (by kernel_rfl) (by kernel_rfl) rfl rfl (.one rfl ty2 .z .z (.int Tryz.underlying2) (.one rfl ty2 (.s .z) (.s .z) (.int Tryz.underlying2) (.one rfl ty2 (.s (.s .z)) (.s (.s .z)) (.int Tryz.underlying2) (.one rfl ty2 (.s (.s (.s .z))) (.s (.s (.s .z))) (.int Tryz.underlying2) .nil))))).lit (by kernel_rfl : _ = Value.bool false)) rfl ?_
  refine l_y (Cls.gs _ _) (y_assign rfl) rfl ?_
  refine l_nil ?_
  refine e_then ?_
  refine CJ.weak (.c (t := 26) rfl .n) (fun _ h => h) ?_
  refine c_false (by kernel_rfl) ?_
  refine c_skip ?_
  refine e_block ?_
  refine e_then ?_
  refine CJ.weak .n (fun _ h => h) ?_
  refine c_seq ?_
  refine c_text ?_
  refine l_y (Cls.gs _ _) (y_assign rfl) rfl ?_
  refine l_nil ?_
  refine e_then ?_
  refine c_ret ?_
  refine e_ret rfl (.t rfl .n) (fun wF hw => ?_)
  exact ⟨rfl, (hw.anc (w, []) (by simp)).below⟩

theorem c51_0 (w : World) : Calls Tryz.prog 51 #[.int .i64 32, .int .i64 32] w fun e w' => e = .returned (.int .i64 0) ∧ Gr w w' := by
  refine enter Tryz.func51 rfl rfl rfl rfl (Cls.start w) ?_
  refine c_seq ?_
  refine c_text ?_
  refine l_y (Cls.gs _ _) (y_assign rfl) rfl ?_
  refine l_nil ?_
  refine e_then ?_
  refine CJ.weak (.c (t := 0) rfl (.c (t := 1) rfl .n)) (fun _ h => h) ?_
  refine c_seq ?_
  refine c_seq ?_
  refine c_text ?_
  refine l_y (Cls.gs _ _) (y_move rfl) rfl ?_
  refine l_y (Cls.gs _ _) ((y_lss rfl rfl).lit (by kernel_rfl : _ = Value.bool false)) rfl ?_
  refine l_y (Cls.gs _ _) (y_move rfl) rfl ?_
  refine l_g (s := 7) (Cls.gs _ _) (by kernel_rfl) rfl (beq_f _) (fun hg => y_move rfl) rfl ?_
  refine l_g (s := 7) (Cls.gs _ _) (by kernel_rfl) rfl (beq_f _) (fun hg => (y_gtr (gvt hg rfl) rfl).lit (by kernel_rfl : _ = Value.bool false)) rfl ?_
  refine l_y (Cls.gs _ _) ((y_or rfl rfl rfl).lit (by kernel_rfl : _ = Value.bool false)) rfl ?_
  refine l_y (Cls.gs _ _) (y_move rfl) rfl ?_
  refine l_g (s := 11) (Cls.gs _ _) (by kernel_rfl) rfl (beq_f _) (fun hg => y_move rfl) rfl ?_
  refine l_g (s := 11) (Cls.gs _ _) (by kernel_rfl) rfl (beq_f _) (fun hg => (y_lss (gvt hg rfl) rfl).lit (by kernel_rfl : _ = Value.bool false)) rfl ?_
  refine l_y (Cls.gs _ _) ((y_or rfl rfl rfl).lit (by kernel_rfl : _ = Value.bool false)) rfl ?_
  refine l_y (Cls.gs _ _) (y_move rfl) rfl ?_
  refine l_g (s := 15) (Cls.gs _ _) (by kernel_rfl) rfl (beq_f _) (fun hg => y_move rfl) rfl ?_
  refine l_g (s := 15) (Cls.gs _ _) (by kernel_rfl) rfl (beq_f _) (fun hg => (y_gtr (gvt hg rfl) rfl).lit (by kernel_rfl : _ = Value.bool false)) rfl ?_
  refine l_y (Cls.gs _ _) ((y_or rfl rfl rfl).lit (by kernel_rfl : _ = Value.bool false)) rfl ?_
  refine l_nil ?_
  refine e_then ?_
  refine CJ.weak (.c (t := 18) rfl .n) (fun _ h => h) ?_
  refine c_false (by kernel_rfl) ?_
  refine c_skip ?_
  refine e_then ?_
  refine CJ.weak .n (fun _ h => h) ?_
  refine c_seq ?_
  refine c_text ?_
  refine l_y (Cls.gs _ _) (y_assign rfl) rfl ?_
  refine l_nil ?_
  refine e_then ?_
  refine c_ret ?_
  refine e_ret rfl (.t rfl .n) (fun wF hw => ?_)
  exact ⟨rfl, (hw.anc (w, []) (by simp)).below⟩

theorem c52_0 (w : World) : Calls Tryz.prog 52 #[.agg #[.int .i64 1, .int .i64 (-1), .int .i64 512]] w fun e w' => e = .returned (.int .i64 0) ∧ Gr w w' := by
  refine enter Tryz.func52 rfl rfl rfl rfl (Cls.start w) ?_
  refine c_seq ?_
  refine c_text ?_
  refine l_n rfl (n_box rfl .a rfl) (fun b0 _ => ?_)
  refine l_y (Cls.gs _ _) (y_assign rfl) rfl ?_
  refine l_nil ?_
  refine e_then ?_
  refine CJ.weak (.c (t := 1) rfl .n) (fun _ h => h) ?_
  refine c_seq ?_
  refine c_block ?_
  refine c_seq ?_
  refine c_text ?_
  refine l_y (Cls.gs _ _) (y_fieldAddr rfl fa66_0) rfl ?_
  refine l_y (Cls.gs _ _) (y_load rfl (LoadAt.oneL .z ty2 .z)) rfl ?_
  refine l_y (Cls.gs _ _) (y_fieldAddr rfl fa66_1) rfl ?_
  refine l_y (Cls.gs _ _) (y_load rfl (LoadAt.oneL .z ty2 (.s .z))) rfl ?_
  refine l_y (Cls.gs _ _) (y_fieldAddr rfl fa66_2) rfl ?_
  refine l_y (Cls.gs _ _) (y_load rfl (LoadAt.oneL .z ty2 (.s (.s .z)))) rfl ?_
  refine l_y (Cls.gs _ _) ((y_max3 rfl rfl rfl).lit (by kernel_rfl : _ = Value.int .i64 512)) rfl ?_
  refine l_y (Cls.gs _ _) ((y_gtr rfl rfl).lit (by kernel_rfl : _ = Value.bool false)) rfl ?_
  refine l_y (Cls.gs _ _) (y_move rfl) rfl ?_
  refine l_g (s := 12) (Cls.gs _ _) (by kernel_rfl) rfl (beq_f _) (fun hg => y_fieldAddr rfl fa66_0) rfl ?_
  refine l_g (s := 12) (Cls.gs _ _) (by kernel_rfl) rfl (beq_f _) (fun hg => y_load (gvt hg rfl) (LoadAt.oneL .z ty2 .z)) rfl ?_
  refine l_g (s := 12) (Cls.gs _ _) (by kernel_rfl) rfl (beq_f _) (fun hg => y_fieldAddr rfl fa66_1) rfl ?_
  refine l_g (s := 12) (Cls.gs _ _) (by kernel_rfl) rfl (beq_f _) (fun hg => y_load (gvt hg rfl) (LoadAt.oneL .z ty2 (.s .z))) rfl ?_
  refine l_g (s := 12) (Cls.gs _ _) (by kernel_rfl) rfl (beq_f _) (fun hg => y_fieldAddr rfl fa66_2) rfl ?_
  refine l_g (s := 12) (Cls.gs _ _) (by kernel_rfl) rfl (beq_f _) (fun hg => y_load (gvt hg rfl) (LoadAt.oneL .z ty2 (.s (.s .z)))) rfl ?_
  refine l_g (s := 12) (Cls.gs _ _) (by kernel_rfl) rfl (beq_f _) (fun hg => (y_min3 (gvt hg rfl) (gvt hg rfl) (gvt hg rfl)).lit (by kernel_rfl : _ = Value.int .i64 (-1))) rfl ?_
  refine l_g (s := 12) (Cls.gs _ _) (by kernel_rfl) rfl (beq_f _) (fun hg => (y_lss (gvt hg rfl) rfl).lit (by kernel_rfl : _ = Value.bool false)) rfl ?_
  refine l_y (Cls.gs _ _) ((y_or rfl rfl rfl).lit (by kernel_rfl : _ = Value.bool false)) rfl ?_
  refine l_y (Cls.gs _ _) (y_assign rfl) rfl ?_
  refine l_nil ?_
  refine e_then ?_
  refine CJ.weak (.c (t := 1) rfl (.c (t := 3) rfl .n)) (fun _ h => h) ?_
  refine c_false (by kernel_rfl) ?_
  refine c_seq ?_
  refine c_text ?_
  refine l_y (Cls.gs _ _) (y_load rfl (LoadAt.aggL .z ty66 (.t (.t (.t .d))))) rfl ?_
  refine l_y (Cls.gs _ _) (y_build pl66 ty66 .a .n .d) rfl ?_
  refine l_y (Cls.gs _ _) ((y_eqA Tryz.underlying66 (by kernel_rfl) (by kernel_rfl) rfl rfl (.one rfl ty2 .z .z (.int Tryz.underlying2) (.one rfl ty2 (.s .z) (.s .z) (.int Tryz.underlying2) (.one rfl ty2 (.s (.s .z)) (.s (.s .z)) (.int Tryz.underlying2) .nil)))).lit (by kernel_rfl : _ = Value.bool false)) rfl ?_
  refine l_y (Cls.gs _ _) (y_assign rfl) rfl ?_
  refine l_nil ?_
  refine e_then ?_
  refine CJ.weak (.c (t := 22) rfl .n) (fun _ h => h) ?_
  refine c_false (by kernel_rfl) ?_
  refine c_skip ?_
  refine e_block ?_
  refine e_then ?_
  refine CJ.weak .n (fun _ h => h) ?_
  refine c_seq ?_
  refine c_text ?_
  refine l_y (Cls.gs _ _) (y_assign rfl) rfl ?_
  refine l_nil ?_
  refine e_then ?_
  refine c_ret ?_
  refine e_ret rfl (.t rfl .n) (fun wF hw => ?_)
  exact ⟨rfl, (hw.anc (w, []) (by simp)).below⟩

theorem c75_0 (w : World) : Calls Tryz.prog 75 #[.agg #[.int .i64 1, .int .i64 0, .int .i64 0, .int .i64 0]] w fun e w' => e = .returned (.tuple #[.agg #[.int .i64 1, .int .i64 0, .int .i64 0, .int .i64 0, .int .i64 1, .int .i64 0, .int .i64 0, .int .i64 0, .int .i64 1], .int .i64 1]) ∧ Gr w w' := by
  refine enter Tryz.func75 rfl rfl rfl rfl (Cls.start w) ?_
  refine c_seq ?_
  refine c_text ?_
  refine l_n rfl (n_box rfl .a rfl) (fun b0 _ => ?_)
  refine l_n rfl (n_alloc ty148 .a rfl) (fun b1 _ => ?_)
  refine l_y (Cls.gs _ _) (y_assign rfl) rfl ?_
  refine l_nil ?_
  refine e_then ?_
  refine CJ.weak (.c (t := 1) rfl (.c (t := 2) rfl .n)) (fun _ h => h) ?_
  refine c_seq ?_
  refine c_seq ?_
  refine c_text ?_
  refine l_y (Cls.gs _ _) (y_load rfl (LoadAt.aggL (.s .z) ty64 (.t (.t (.t (.t .d)))))) rfl ?_
  refine l_y (Cls.gs _ _) (y_call ent50 (.c rfl .n) (fun w hw => c50_0  w )) rfl ?_
  refine l_y (Cls.gs _ _) ((y_neq rfl rfl).lit (by kernel_rfl : _ = Value.bool false)) rfl ?_
  refine l_nil ?_
  refine e_then ?_
  refine CJ.weak (.c (t := 1) rfl (.c (t := 2) rfl (.c (t := 10) rfl .n))) (fun _ h => h) ?_
  refine c_false (by kernel_rfl) ?_
  refine c_skip ?_
  refine e_then ?_
  refine CJ.weak (.c (t := 1) rfl (.c (t := 2) rfl .n)) (fun _ h => h) ?_
  refine c_seq ?_
  refine c_draw (m := 12) (S0 := fun _ => True) (fun _ => false) (fun _ _ => trivial) hmix (Cls.gs _ _) rfl ?_
  refine a_y (i := 0) (Cls.gs _ _) (by kernel_rfl) rfl (by kernel_rfl) (by kernel_rfl) (y_fieldAddr rfl fa64_0) rfl ?_
  refine a_y (i := 1) (Cls.gs _ _) (by kernel_rfl) rfl (by kernel_rfl) (by kernel_rfl) (y_load rfl (LoadAt.oneL (.s .z) ty2 .z)) rfl ?_
  refine a_y (i := 2) (Cls.gs _ _) (by kernel_rfl) rfl (by kernel_rfl) (by kernel_rfl) (y_fieldAddr rfl fa64_1) rfl ?_
  refine a_y (i := 3) (Cls.gs _ _) (by kernel_rfl) rfl (by kernel_rfl) (by kernel_rfl) (y_load rfl (LoadAt.oneL (.s .z) ty2 (.s .z))) rfl ?_
  refine a_y (i := 4) (Cls.gs _ _) (by kernel_rfl) rfl (by kernel_rfl) (by kernel_rfl) (y_fieldAddr rfl fa64_2) rfl ?_
  refine a_y (i := 5) (Cls.gs _ _) (by kernel_rfl) rfl (by kernel_rfl) (by kernel_rfl) (y_load rfl (LoadAt.oneL (.s .z) ty2 (.s (.s .z)))) rfl ?_
  refine a_y (i := 6) (Cls.gs _ _) (by kernel_rfl) rfl (by kernel_rfl) (by kernel_rfl) (y_fieldAddr rfl fa64_3) rfl ?_
  refine a_y (i := 7) (Cls.gs _ _) (by kernel_rfl) rfl (by kernel_rfl) (by kernel_rfl) (y_load rfl (LoadAt.oneL (.s .z) ty2 (.s (.s (.s .z))))) rfl ?_
  refine a_y (i := 8) (Cls.gs _ _) (by kernel_rfl) rfl (by kernel_rfl) (by kernel_rfl) (y_assign rfl) rfl ?_
  refine a_y (i := 9) (Cls.gs _ _) (by kernel_rfl) rfl (by kernel_rfl) (by kernel_rfl) (y_assign rfl) rfl ?_
  refine a_y (i := 10) (Cls.gs _ _) (by kernel_rfl) rfl (by kernel_rfl) (by kernel_rfl) (y_assign rfl) rfl ?_
  refine a_y (i := 11) (Cls.gs _ _) (by kernel_rfl) rfl (by kernel_rfl) (by kernel_rfl) (y_assign rfl) rfl ?_
  refine a_done (by kernel_rfl) ?_
  refine e_then ?_
  refine CJ.weak (.c (t := 2) rfl (.c (t := 4) rfl (.c (t := 5) rfl (.c (t := 6) rfl (.c (t := 7) rfl .n))))) (fun _ h => h) ?_
  refine c_seq ?_
  refine c_text ?_
  refine l_y (Cls.gs _ _) (y_move rfl) rfl ?_
  refine l_y (Cls.gs _ _) (y_move rfl) rfl ?_
  refine l_y (Cls.gs _ _) ((y_mul rfl rfl).lit (by kernel_rfl : _ = Value.int .i64 1)) rfl ?_
  refine l_y (Cls.gs _ _) (y_move rfl) rfl ?_
  refine l_y (Cls.gs _ _) (y_move rfl) rfl ?_
  refine l_y (Cls.gs _ _) ((y_mul rfl rfl).lit (by kernel_rfl : _ = Value.int .i64 0)) rfl ?_
  refine l_y (Cls.gs _ _) ((y_add rfl rfl).lit (by kernel_rfl : _ = Value.int .i64 1)) rfl ?_
  refine l_y (Cls.gs _ _) (y_move rfl) rfl ?_
  refine l_y (Cls.gs _ _) (y_move rfl) rfl ?_
  refine l_y (Cls.gs _ _) ((y_mul rfl rfl).lit (by kernel_rfl : _ = Value.int .i64 0)) rfl ?_
  refine l_y (Cls.gs _ _) ((y_sub rfl rfl).lit (by kernel_rfl : _ = Value.int .i64 1)) rfl ?_
  refine l_y (Cls.gs _ _) (y_move rfl) rfl ?_
  refine l_y (Cls.gs _ _) (y_move rfl) rfl ?_
  refine l_y (Cls.gs _ _) ((y_mul rfl rfl).lit (by kernel_rfl : _ = Value.int .i64 0)) rfl ?_
  refine l_y (Cls.gs _ _) ((y_sub rfl rfl).lit (by kernel_rfl : _ = Value.int .i64 1)) rfl ?_
  refine l_y (Cls.gs _ _) (y_move rfl) rfl ?_
  refine l_y (Cls.gs _ _) (y_move rfl) rfl ?_
  refine l_y (Cls.gs _ _) ((y_mul rfl rfl).lit (by kernel_rfl : _ = Value.int .i64 0)) rfl ?_
  refine l_y (Cls.gs _ _) (y_move rfl) rfl ?_
  refine l_y (Cls.gs _ _) (y_move rfl) rfl ?_
  refine l_y (Cls.gs _ _) ((y_mul rfl rfl).lit (by kernel_rfl : _ = Value.int .i64 0)) rfl ?_
  refine l_y (Cls.gs _ _) ((y_sub rfl rfl).lit (by kernel_rfl : _ = Value.int .i64 0)) rfl ?_
  refine l_y (Cls.gs _ _) ((y_mul rfl rfl).lit (by kernel_rfl : _ = Value.int .i64 0)) rfl ?_
  refine l_y (Cls.gs _ _) (y_move rfl) rfl ?_
  refine l_y (Cls.gs _ _) (y_move rfl) rfl ?_
  refine l_y (Cls.gs _ _) ((y_mul rfl rfl).lit (by kernel_rfl : _ = Value.int .i64 0)) rfl ?_
  refine l_y (Cls.gs _ _) (y_move rfl) rfl ?_
  refine l_y (Cls.gs _ _) (y_move rfl) rfl ?_
  refine l_y (Cls.gs _ _) ((y_mul rfl rfl).lit (by kernel_rfl : _ = Value.int .i64 0)) rfl ?_
  refine l_y (Cls.gs _ _) ((y_add rfl rfl).lit (by kernel_rfl : _ = Value.int .i64 0)) rfl ?_
  refine l_y (Cls.gs _ _) ((y_mul rfl rfl).lit (by kernel_rfl : _ = Value.int .i64 0)) rfl ?_
  refine l_y (Cls.gs _ _) (y_buildArr Tryz.underlying120 ty2 ty120 .a (.c rfl (.c rfl (.c rfl .n))) (.c rfl (.o rfl) rfl rfl (.t .d) (.c rfl (.o rfl) rfl rfl (.s (.t .d)) (.c rfl (.o rfl) rfl rfl (.s (.s (.t .d))) .d)))) rfl ?_
  refine l_y (Cls.gs _ _) (y_move rfl) rfl ?_
  refine l_y (Cls.gs _ _) (y_move rfl) rfl ?_
  refine l_y (Cls.gs _ _) ((y_mul rfl rfl).lit (by kernel_rfl : _ = Value.int .i64 0)) rfl ?_
  refine l_y (Cls.gs _ _) (y_move rfl) rfl ?_
  refine l_y (Cls.gs _ _) (y_move rfl) rfl ?_
  refine l_y (Cls.gs _ _) ((y_mul rfl rfl).lit (by kernel_rfl : _ = Value.int .i64 0)) rfl ?_
  refine l_y (Cls.gs _ _) ((y_add rfl rfl).lit (by kernel_rfl : _ = Value.int .i64 0)) rfl ?_
  refine l_y (Cls.gs _ _) ((y_mul rfl rfl).lit (by kernel_rfl : _ = Value.int .i64 0)) rfl ?_
  refine l_y (Cls.gs _ _) (y_move rfl) rfl ?_
  refine l_y (Cls.gs _ _) (y_move rfl) rfl ?_
  refine l_y (Cls.gs _ _) ((y_mul rfl rfl).lit (by kernel_rfl : _ = Value.int .i64 1)) rfl ?_
  refine l_y (Cls.gs _ _) (y_move rfl) rfl ?_
  refine l_y (Cls.gs _ _) (y_move rfl) rfl ?_
  refine l_y (Cls.gs _ _) ((y_mul rfl rfl).lit (by kernel_rfl : _ = Value.int .i64 0)) rfl ?_
  refine l_y (Cls.gs _ _) ((y_sub rfl rfl).lit (by kernel_rfl : _ = Value.int .i64 1)) rfl ?_
  refine l_y (Cls.gs _ _) (y_move rfl) rfl ?_
  refine l_y (Cls.gs _ _) (y_move rfl) rfl ?_
  refine l_y (Cls.gs _ _) ((y_mul rfl rfl).lit (by kernel_rfl : _ = Value.int .i64 0)) rfl ?_
  refine l_y (Cls.gs _ _) ((y_add rfl rfl).lit (by kernel_rfl : _ = Value.int .i64 1)) rfl ?_
  refine l_y (Cls.gs _ _) (y_move rfl) rfl ?_
  refine l_y (Cls.gs _ _) (y_move rfl) rfl ?_
  refine l_y (Cls.gs _ _) ((y_mul rfl rfl).lit (by kernel_rfl : _ = Value.int .i64 0)) rfl ?_
  refine l_y (Cls.gs _ _) ((y_sub rfl rfl).lit (by kernel_rfl : _ = Value.int .i64 1)) rfl ?_
  refine l_y (Cls.gs _ _) (y_move rfl) rfl ?_
  refine l_y (Cls.gs _ _) (y_move rfl) rfl ?_
  refine l_y (Cls.gs _ _) ((y_mul rfl rfl).lit (by kernel_rfl : _ = Value.int .i64 0)) rfl ?_
  refine l_y (Cls.gs _ _) (y_move rfl) rfl ?_
  refine l_y (Cls.gs _ _) (y_move rfl) rfl ?_
  refine l_y (Cls.gs _ _) ((y_mul rfl rfl).lit (by kernel_rfl : _ = Value.int .i64 0)) rfl ?_
  refine l_y (Cls.gs _ _) ((y_sub rfl rfl).lit (by kernel_rfl : _ = Value.int .i64 0)) rfl ?_
  refine l_y (Cls.gs _ _) ((y_mul rfl rfl).lit (by kernel_rfl : _ = Value.int .i64 0)) rfl ?_
  refine l_y (Cls.gs _ _) (y_buildArr Tryz.underlying120 ty2 ty120 .a (.c rfl (.c rfl (.c rfl .n))) (.c rfl (.o rfl) rfl rfl (.t .d) (.c rfl (.o rfl) rfl rfl (.s (.t .d)) (.c rfl (.o rfl) rfl rfl (.s (.s (.t .d))) .d)))) rfl ?_
  refine l_y (Cls.gs _ _) (y_move rfl) rfl ?_
  refine l_y (Cls.gs _ _) (y_move rfl) rfl ?_
  refine l_y (Cls.gs _ _) ((y_mul rfl rfl).lit (by kernel_rfl : _ = Value.int .i64 0)) rfl ?_
  refine l_y (Cls.gs _ _) (y_move rfl) rfl ?_
  refine l_y (Cls.gs _ _) (y_move rfl) rfl ?_
  refine l_y (Cls.gs _ _) ((y_mul rfl rfl).lit (by kernel_rfl : _ = Value.int .i64 0)) rfl ?_
  refine l_y (Cls.gs _ _) ((y_sub rfl rfl).lit (by kernel_rfl : _ = Value.int .i64 0)) rfl ?_
  refine l_y (Cls.gs _ _) ((y_mul rfl rfl).lit (by kernel_rfl : _ = Value.int .i64 0)) rfl ?_
  refine l_y (Cls.gs _ _) (y_move rfl) rfl ?_
  refine l_y (Cls.gs _ _) (y_move rfl) rfl ?_
  refine l_y (Cls.gs _ _) ((y_mul rfl rfl).lit (by kernel_rfl : _ = Value.int .i64 0)) rfl ?_
  refine l_y (Cls.gs _ _) (y_move rfl) rfl ?_
  refine l_y (Cls.gs _ _) (y_move rfl) rfl ?_
  refine l_y (Cls.gs _ _) ((y_mul rfl rfl).lit (by kernel_rfl : _ = Value.int .i64 0)) rfl ?_
  refine l_y (Cls.gs _ _) ((y_add rfl rfl).lit (by kernel_rfl : _ = Value.int .i64 0)) rfl ?_
  refine l_y (Cls.gs _ _) ((y_mul rfl rfl).lit (by kernel_rfl : _ = Value.int .i64 0)) rfl ?_
  refine l_y (Cls.gs _ _) (y_move rfl) rfl ?_
  refine l_y (Cls.gs _ _) (y_move rfl) rfl ?_
  refine l_y (Cls.gs _ _) ((y_mul rfl rfl).lit (by kernel_rfl : _ = Value.int .i64 1)) rfl ?_
  refine l_y (Cls.gs _ _) (y_move rfl) rfl ?_
  refine l_y (Cls.gs _ _) (y_move rfl) rfl ?_
  refine l_y (Cls.gs _ _) ((y_mul rfl rfl).lit (by kernel_rfl : _ = Value.int .i64 0)) rfl ?_
  refine l_y (Cls.gs _ _) ((y_sub rfl rfl).lit (by kernel_rfl : _ = Value.int .i64 1)) rfl ?_
  refine l_y (Cls.gs _ _) (y_move rfl) rfl ?_
  refine l_y (Cls.gs _ _) (y_move rfl) rfl ?_
  refine l_y (Cls.gs _ _) ((y_mul rfl rfl).lit (by kernel_rfl : _ = Value.int .i64 0)) rfl ?_
  refine l_y (Cls.gs _ _) ((y_sub rfl rfl).lit (by kernel_rfl : _ = Value.int .i64 1)) rfl ?_
  refine l_y (Cls.gs _ _) (y_move rfl) rfl ?_
  refine l_y (Cls.gs _ _) (y_move rfl) rfl ?_
  refine l_y (Cls.gs _ _) ((y_mul rfl rfl).lit (by kernel_rfl : _ = Value.int .i64 0)) rfl ?_
  refine l_y (Cls.gs _ _) ((y_add rfl rfl).lit (by kernel_rfl : _ = Value.int .i64 1)) rfl ?_
  refine l_y (Cls.gs _ _) (y_buildArr Tryz.underlying120 ty2 ty120 .a (.c rfl (.c rfl (.c rfl .n))) (.c rfl (.o rfl) rfl rfl (.t .d) (.c rfl (.o rfl) rfl rfl (.s (.t .d)) (.c rfl (.o rfl) rfl rfl (.s (.s (.t .d))) .d)))) rfl ?_
  refine l_y (Cls.gs _ _) (y_buildArr Tryz.underlying148 ty120 ty148 .a (.c rfl (.c rfl (.c rfl .n))) (.c rfl .a rfl rfl (.t (.t (.t .d))) (.c rfl .a rfl rfl (.s (.s (.s (.t (.t (.t .d)))))) (.c rfl .a rfl rfl (.s (.s (.s (.s (.s (.s (.t (.t (.t .d))))))))) .d)))) rfl ?_
  refine l_y (Cls.gs _ _) (y_move rfl) rfl ?_
  refine l_y (Cls.gs _ _) (y_move rfl) rfl ?_
  refine l_y (Cls.gs _ _) ((y_mul rfl rfl).lit (by kernel_rfl : _ = Value.int .i64 1)) rfl ?_
  refine l_y (Cls.gs _ _) (y_move rfl) rfl ?_
  refine l_y (Cls.gs _ _) (y_move rfl) rfl ?_
  refine l_y (Cls.gs _ _) ((y_mul rfl rfl).lit (by kernel_rfl : _ = Value.int .i64 0)) rfl ?_
  refine l_y (Cls.gs _ _) ((y_add rfl rfl).lit (by kernel_rfl : _ = Value.int .i64 1)) rfl ?_
  refine l_y (Cls.gs _ _) (y_move rfl) rfl ?_
  refine l_y (Cls.gs _ _) (y_move rfl) rfl ?_
  refine l_y (Cls.gs _ _) ((y_mul rfl rfl).lit (by kernel_rfl : _ = Value.int .i64 0)) rfl ?_
  refine l_y (Cls.gs _ _) ((y_add rfl rfl).lit (by kernel_rfl : _ = Value.int .i64 1)) rfl ?_
  refine l_y (Cls.gs _ _) (y_move rfl) rfl ?_
  refine l_y (Cls.gs _ _) (y_move rfl) rfl ?_
  refine l_y (Cls.gs _ _) ((y_mul rfl rfl).lit (by kernel_rfl : _ = Value.int .i64 0)) rfl ?_
  refine l_y (Cls.gs _ _) ((y_add rfl rfl).lit (by kernel_rfl : _ = Value.int .i64 1)) rfl ?_
  refine l_n rfl (n_store rfl rfl ty148 .a rfl rfl .z (.t (.t (.t (.t (.t (.t (.t (.t (.t .d)))))))))) (fun _ _ => ?_)
  refine l_y (Cls.gs _ _) (y_assign rfl) rfl ?_
  refine l_nil ?_
  refine e_then ?_
  refine CJ.weak (.c (t := 2) rfl (.c (t := 3) rfl .n)) (fun _ h => h) ?_
  refine c_ret ?_
  refine e_ret rfl (.c rfl (LoadAt.aggL .z ty148 (.t (.t (.t (.t (.t (.t (.t (.t (.t .d)))))))))) (.t rfl .n)) (fun wF hw => ?_)
  exact ⟨rfl, (hw.anc (w, []) (by simp)).below⟩

theorem c76_0 (p0 : Nat) (p1 : Nat) (w : World) (hp0 : w.heap[p0]? = some (blk [.int .i64 1, .int .i64 0, .int .i64 0, .int .i64 0, .int .i64 1, .int .i64 0, .int .i64 0, .int .i64 0, .int .i64 1] 148)) (hp1 : w.heap[p1]? = some (blk [.int .i64 1, .int .i64 (-1), .int .i64 512] 66)) : Calls Tryz.prog 76 #[.int .i64 0, .pointer (some ⟨p0, 0, none⟩), .pointer (some ⟨p1, 0, none⟩)] w fun e w' => e = .returned (.int .i64 1) ∧ Gr w w' := by
  refine enter Tryz.func76 rfl rfl rfl rfl (Cls.start w) ?_
  refine c_seq ?_
  refine c_text ?_
  refine l_y (Cls.gs _ _) (y_assign rfl) rfl ?_
  refine l_nil ?_
  refine e_then ?_
  refine CJ.weak (.c (t := 0) rfl (.c (t := 1) rfl (.c (t := 2) rfl .n))) (fun _ h => h) ?_
  refine c_seq ?_
  refine c_draw (m := 24) (S0 := fun _ => True) (fun _ => false) (fun _ _ => trivial) hmix (Cls.gs _ _) rfl ?_
  refine a_y (i := 0) (Cls.gs _ _) (by kernel_rfl) rfl (by kernel_rfl) (by kernel_rfl) (y_move rfl) rfl ?_
  refine a_y (i := 1) (Cls.gs _ _) (by kernel_rfl) rfl (by kernel_rfl) (by kernel_rfl) (y_indexArr Tryz.underlying148 ty120 rfl rfl (by decide) (by decide)) rfl ?_
  refine a_y (i := 2) (Cls.gs _ _) (by kernel_rfl) rfl (by kernel_rfl) (by kernel_rfl) (y_indexArr Tryz.underlying120 ty2 rfl rfl (by decide) (by decide)) rfl ?_
  refine a_y (i := 3) (Cls.gs _ _) (by kernel_rfl) rfl (by kernel_rfl) (by kernel_rfl) (y_load rfl (LoadAt.oneB .z hp0 ty2 .z)) rfl ?_
  refine a_y (i := 4) (Cls.gs _ _) (by kernel_rfl) rfl (by kernel_rfl) (by kernel_rfl) (y_fieldAddr rfl fa66_0) rfl ?_
  refine a_y (i := 5) (Cls.gs _ _) (by kernel_rfl) rfl (by kernel_rfl) (by kernel_rfl) (y_load rfl (LoadAt.oneB .z hp1 ty2 .z)) rfl ?_
  refine a_y (i := 6) (Cls.gs _ _) (by kernel_rfl) rfl (by kernel_rfl) (by kernel_rfl) ((y_mul rfl rfl).lit (by kernel_rfl : _ = Value.int .i64 1)) rfl ?_
  refine a_y (i := 7) (Cls.gs _ _) (by kernel_rfl) rfl (by kernel_rfl) (by kernel_rfl) (y_move rfl) rfl ?_
  refine a_y (i := 8) (Cls.gs _ _) (by kernel_rfl) rfl (by kernel_rfl) (by kernel_rfl) (y_indexArr Tryz.underlying148 ty120 rfl rfl (by decide) (by decide)) rfl ?_
  refine a_y (i := 9) (Cls.gs _ _) (by kernel_rfl) rfl (by kernel_rfl) (by kernel_rfl) (y_indexArr Tryz.underlying120 ty2 rfl rfl (by decide) (by decide)) rfl ?_
  refine a_y (i := 10) (Cls.gs _ _) (by kernel_rfl) rfl (by kernel_rfl) (by kernel_rfl) (y_load rfl (LoadAt.oneB .z hp0 ty2 (.s .z))) rfl ?_
  refine a_y (i := 11) (Cls.gs _ _) (by kernel_rfl) rfl (by kernel_rfl) (by kernel_rfl) (y_fieldAddr rfl fa66_1) rfl ?_
  refine a_y (i := 12) (Cls.gs _ _) (by kernel_rfl) rfl (by kernel_rfl) (by kernel_rfl) (y_load rfl (LoadAt.oneB .z hp1 ty2 (.s .z))) rfl ?_
  refine a_y (i := 13) (Cls.gs _ _) (by kernel_rfl) rfl (by kernel_rfl) (by kernel_rfl) ((y_mul rfl rfl).lit (by kernel_rfl : _ = Value.int .i64 0)) rfl ?_
  refine a_y (i := 14) (Cls.gs _ _) (by kernel_rfl) rfl (by kernel_rfl) (by kernel_rfl) ((y_add rfl rfl).lit (by kernel_rfl : _ = Value.int .i64 1)) rfl ?_
  refine a_y (i := 15) (Cls.gs _ _) (by kernel_rfl) rfl (by kernel_rfl) (by kernel_rfl) (y_move rfl) rfl ?_
  refine a_y (i := 16) (Cls.gs _ _) (by kernel_rfl) rfl (by kernel_rfl) (by kernel_rfl) (y_indexArr Tryz.underlying148 ty120 rfl rfl (by decide) (by decide)) rfl ?_
  refine a_y (i := 17) (Cls.gs _ _) (by kernel_rfl) rfl (by kernel_rfl) (by kernel_rfl) (y_indexArr Tryz.underlying120 ty2 rfl rfl (by decide) (by decide)) rfl ?_
  refine a_y (i := 18) (Cls.gs _ _) (by kernel_rfl) rfl (by kernel_rfl) (by kernel_rfl) (y_load rfl (LoadAt.oneB .z hp0 ty2 (.s (.s .z)))) rfl ?_
  refine a_y (i := 19) (Cls.gs _ _) (by kernel_rfl) rfl (by kernel_rfl) (by kernel_rfl) (y_fieldAddr rfl fa66_2) rfl ?_
  refine a_y (i := 20) (Cls.gs _ _) (by kernel_rfl) rfl (by kernel_rfl) (by kernel_rfl) (y_load rfl (LoadAt.oneB .z hp1 ty2 (.s (.s .z)))) rfl ?_
  refine a_y (i := 21) (Cls.gs _ _) (by kernel_rfl) rfl (by kernel_rfl) (by kernel_rfl) ((y_mul rfl rfl).lit (by kernel_rfl : _ = Value.int .i64 0)) rfl ?_
  refine a_y (i := 22) (Cls.gs _ _) (by kernel_rfl) rfl (by kernel_rfl) (by kernel_rfl) ((y_add rfl rfl).lit (by kernel_rfl : _ = Value.int .i64 1)) rfl ?_
  refine a_y (i := 23) (Cls.gs _ _) (by kernel_rfl) rfl (by kernel_rfl) (by kernel_rfl) (y_assign rfl) rfl ?_
  refine a_done (by kernel_rfl) ?_
  refine e_then ?_
  refine CJ.weak (.c (t := 4) rfl .n) (fun _ h => h) ?_
  refine c_ret ?_
  refine e_ret rfl (.t rfl .n) (fun wF hw => ?_)
  exact ⟨rfl, (hw.anc (w, []) (by simp)).below⟩

theorem c76_1 (p0 : Nat) (p1 : Nat) (w : World) (hp0 : w.heap[p0]? = some (blk [.int .i64 1, .int .i64 0, .int .i64 0, .int .i64 0, .int .i64 1, .int .i64 0, .int .i64 0, .int .i64 0, .int .i64 1] 148)) (hp1 : w.heap[p1]? = some (blk [.int .i64 1, .int .i64 (-1), .int .i64 512] 66)) : Calls Tryz.prog 76 #[.int .i64 1, .pointer (some ⟨p0, 0, none⟩), .pointer (some ⟨p1, 0, none⟩)] w fun e w' => e = .returned (.int .i64 (-1)) ∧ Gr w w' := by
  refine enter Tryz.func76 rfl rfl rfl rfl (Cls.start w) ?_
  refine c_seq ?_
  refine c_text ?_
  refine l_y (Cls.gs _ _) (y_assign rfl) rfl ?_
  refine l_nil ?_
  refine e_then ?_
  refine CJ.weak (.c (t := 0) rfl (.c (t := 1) rfl (.c (t := 2) rfl .n))) (fun _ h => h) ?_
  refine c_seq ?_
  refine c_draw (m := 24) (S0 := fun _ => True) (fun _ => false) (fun _ _ => trivial) hmix (Cls.gs _ _) rfl ?_
  refine a_y (i := 0) (Cls.gs _ _) (by kernel_rfl) rfl (by kernel_rfl) (by kernel_rfl) (y_move rfl) rfl ?_
  refine a_y (i := 1) (Cls.gs _ _) (by kernel_rfl) rfl (by kernel_rfl) (by kernel_rfl) (y_indexArr Tryz.underlying148 ty120 rfl rfl (by decide) (by decide)) rfl ?_
  refine a_y (i := 2) (Cls.gs _ _) (by kernel_rfl) rfl (by kernel_rfl) (by kernel_rfl) (y_indexArr Tryz.underlying120 ty2 rfl rfl (by decide) (by decide)) rfl ?_
  refine a_y (i := 3) (Cls.gs _ _) (by kernel_rfl) rfl (by kernel_rfl) (by kernel_rfl) (y_load rfl (LoadAt.oneB .z hp0 ty2 (.s (.s (.s .z))))) rfl ?_
  refine a_y (i := 4) (Cls.gs _ _) (by kernel_rfl) rfl (by kernel_rfl) (by kernel_rfl) (y_fieldAddr rfl fa66_0) rfl ?_
  refine a_y (i := 5) (Cls.gs _ _) (by kernel_rfl) rfl (by kernel_rfl) (by kernel_rfl) (y_load rfl (LoadAt.oneB .z hp1 ty2 .z)) rfl ?_
  refine a_y (i := 6) (Cls.gs _ _) (by kernel_rfl) rfl (by kernel_rfl) (by kernel_rfl) ((y_mul rfl rfl).lit (by kernel_rfl : _ = Value.int .i64 0)) rfl ?_
  refine a_y (i := 7) (Cls.gs _ _) (by kernel_rfl) rfl (by kernel_rfl) (by kernel_rfl) (y_move rfl) rfl ?_
  refine a_y (i := 8) (Cls.gs _ _) (by kernel_rfl) rfl (by kernel_rfl) (by kernel_rfl) (y_indexArr Tryz.underlying148 ty120 rfl rfl (by decide) (by decide)) rfl ?_
  refine a_y (i := 9) (Cls.gs _ _) (by kernel_rfl) rfl (by kernel_rfl) (by kernel_rfl) (y_indexArr Tryz.underlying120 ty2 rfl rfl (by decide) (by decide)) rfl ?_
  refine a_y (i := 10) (Cls.gs _ _) (by kernel_rfl) rfl (by kernel_rfl) (by kernel_rfl) (y_load rfl (LoadAt.oneB .z hp0 ty2 (.s (.s (.s (.s .z)))))) rfl ?_
  refine a_y (i := 11) (Cls.gs _ _) (by kernel_rfl) rfl (by kernel_rfl) (by kernel_rfl) (y_fieldAddr rfl fa66_1) rfl ?_
  refine a_y (i := 12) (Cls.gs _ _) (by kernel_rfl) rfl (by kernel_rfl) (by kernel_rfl) (y_load rfl (LoadAt.oneB .z hp1 ty2 (.s .z))) rfl ?_
  refine a_y (i := 13) (Cls.gs _ _) (by kernel_rfl) rfl (by kernel_rfl) (by kernel_rfl) ((y_mul rfl rfl).lit (by kernel_rfl : _ = Value.int .i64 (-1))) rfl ?_
  refine a_y (i := 14) (Cls.gs _ _) (by kernel_rfl) rfl (by kernel_rfl) (by kernel_rfl) ((y_add rfl rfl).lit (by kernel_rfl : _ = Value.int .i64 (-1))) rfl ?_
  refine a_y (i := 15) (Cls.gs _ _) (by kernel_rfl) rfl (by kernel_rfl) (by kernel_rfl) (y_move rfl) rfl ?_
  refine a_y (i := 16) (Cls.gs _ _) (by kernel_rfl) rfl (by kernel_rfl) (by kernel_rfl) (y_indexArr Tryz.underlying148 ty120 rfl rfl (by decide) (by decide)) rfl ?_
  refine a_y (i := 17) (Cls.gs _ _) (by kernel_rfl) rfl (by kernel_rfl) (by kernel_rfl) (y_indexArr Tryz.underlying120 ty2 rfl rfl (by decide) (by decide)) rfl ?_
  refine a_y (i := 18) (Cls.gs _ _) (by kernel_rfl) rfl (by kernel_rfl) (by kernel_rfl) (y_load rfl (LoadAt.oneB .z hp0 ty2 (.s (.s (.s (.s (.s .z))))))) rfl ?_
  refine a_y (i := 19) (Cls.gs _ _) (by kernel_rfl) rfl (by kernel_rfl) (by kernel_rfl) (y_fieldAddr rfl fa66_2) rfl ?_
  refine a_y (i := 20) (Cls.gs _ _) (by kernel_rfl) rfl (by kernel_rfl) (by kernel_rfl) (y_load rfl (LoadAt.oneB .z hp1 ty2 (.s (.s .z)))) rfl ?_
  refine a_y (i := 21) (Cls.gs _ _) (by kernel_rfl) rfl (by kernel_rfl) (by kernel_rfl) ((y_mul rfl rfl).lit (by kernel_rfl : _ = Value.int .i64 0)) rfl ?_
  refine a_y (i := 22) (Cls.gs _ _) (by kernel_rfl) rfl (by kernel_rfl) (by kernel_rfl) ((y_add rfl rfl).lit (by kernel_rfl : _ = Value.int .i64 (-1))) rfl ?_
  refine a_y (i := 23) (Cls.gs _ _) (by kernel_rfl) rfl (by kernel_rfl) (by kernel_rfl) (y_assign rfl) rfl ?_
  refine a_done (by kernel_rfl) ?_
  refine e_then ?_
  refine CJ.weak (.c (t := 4) rfl .n) (fun _ h => h) ?_
  refine c_ret ?_
  refine e_ret rfl (.t rfl .n) (fun wF hw => ?_)
  exact ⟨rfl, (hw.anc (w, []) (by simp)).below⟩

theorem c76_2 (p0 : Nat) (p1 : Nat) (w : World) (hp0 : w.heap[p0]? = some (blk [.int .i64 1, .int .i64 0, .int .i64 0, .int .i64 0, .int .i64 1, .int .i64 0, .int .i64 0, .int .i64 0, .int .i64 1] 148)) (hp1 : w.heap[p1]? = some (blk [.int .i64 1, .int .i64 (-1), .int .i64 512] 66)) : Calls Tryz.prog 76 #[.int .i64 2, .pointer (some ⟨p0, 0, none⟩), .pointer (some ⟨p1, 0, none⟩)] w fun e w' => e = .returned (.int .i64 512) ∧ Gr w w' := by
  refine enter Tryz.func76 rfl rfl rfl rfl (Cls.start w) ?_
  refine c_seq ?_
  refine c_text ?_
  refine l_y (Cls.gs _ _) (y_assign rfl) rfl ?_
  refine l_nil ?_
  refine e_then ?_
  refine CJ.weak (.c (t := 0) rfl (.c (t := 1) rfl (.c (t := 2) rfl .n))) (fun _ h => h) ?_
  refine c_seq ?_
  refine c_draw (m := 24) (S0 := fun _ => True) (fun _ => false) (fun _ _ => trivial) hmix (Cls.gs _ _) rfl ?_
  refine a_y (i := 0) (Cls.gs _ _) (by kernel_rfl) rfl (by kernel_rfl) (by kernel_rfl) (y_move rfl) rfl ?_
  refine a_y (i := 1) (Cls.gs _ _) (by kernel_rfl) rfl (by kernel_rfl) (by kernel_rfl) (y_indexArr Tryz.underlying148 ty120 rfl rfl (by decide) (by decide)) rfl ?_
  refine a_y (i := 2) (Cls.gs _ _) (by kernel_rfl) rfl (by kernel_rfl) (by kernel_rfl) (y_indexArr Tryz.underlying120 ty2 rfl rfl (by decide) (by decide)) rfl ?_
  refine a_y (i := 3) (Cls.gs _ _) (by kernel_rfl) rfl (by kernel_rfl) (by kernel_rfl) (y_load rfl (LoadAt.oneB .z hp0 ty2 (.s (.s (.s (.s (.s (.s .z)))))))) rfl ?_
  refine a_y (i := 4) (Cls.gs _ _) (by kernel_rfl) rfl (by kernel_rfl) (by kernel_rfl) (y_fieldAddr rfl fa66_0) rfl ?_
  refine a_y (i := 5) (Cls.gs _ _) (by kernel_rfl) rfl (by kernel_rfl) (by kernel_rfl) (y_load rfl (LoadAt.oneB .z hp1 ty2 .z)) rfl ?_
  refine a_y (i := 6) (Cls.gs _ _) (by kernel_rfl) rfl (by kernel_rfl) (by kernel_rfl) ((y_mul rfl rfl).lit (by kernel_rfl : _ = Value.int .i64 0)) rfl ?_
  refine a_y (i := 7) (Cls.gs _ _) (by kernel_rfl) rfl (by kernel_rfl) (by kernel_rfl) (y_move rfl) rfl ?_
  refine a_y (i := 8) (Cls.gs _ _) (by kernel_rfl) rfl (by kernel_rfl) (by kernel_rfl) (y_indexArr Tryz.underlying148 ty120 rfl rfl (by decide) (by decide)) rfl ?_
  refine a_y (i := 9) (Cls.gs _ _) (by kernel_rfl) rfl (by kernel_rfl) (by kernel_rfl) (y_indexArr Tryz.underlying120 ty2 rfl rfl (by decide) (by decide)) rfl ?_
  refine a_y (i := 10) (Cls.gs _ _) (by kernel_rfl) rfl (by kernel_rfl) (by kernel_rfl) (y_load rfl (LoadAt.oneB .z hp0 ty2 (.s (.s (.s (.s (.s (.s (.s .z))))))))) rfl ?_
  refine a_y (i := 11) (Cls.gs _ _) (by kernel_rfl) rfl (by kernel_rfl) (by kernel_rfl) (y_fieldAddr rfl fa66_1) rfl ?_
  refine a_y (i := 12) (Cls.gs _ _) (by kernel_rfl) rfl (by kernel_rfl) (by kernel_rfl) (y_load rfl (LoadAt.oneB .z hp1 ty2 (.s .z))) rfl ?_
  refine a_y (i := 13) (Cls.gs _ _) (by kernel_rfl) rfl (by kernel_rfl) (by kernel_rfl) ((y_mul rfl rfl).lit (by kernel_rfl : _ = Value.int .i64 0)) rfl ?_
  refine a_y (i := 14) (Cls.gs _ _) (by kernel_rfl) rfl (by kernel_rfl) (by kernel_rfl) ((y_add rfl rfl).lit (by kernel_rfl : _ = Value.int .i64 0)) rfl ?_
  refine a_y (i := 15) (Cls.gs _ _) (by kernel_rfl) rfl (by kernel_rfl) (by kernel_rfl) (y_move rfl) rfl ?_
  refine a_y (i := 16) (Cls.gs _ _) (by kernel_rfl) rfl (by kernel_rfl) (by kernel_rfl) (y_indexArr Tryz.underlying148 ty120 rfl rfl (by decide) (by decide)) rfl ?_
  refine a_y (i := 17) (Cls.gs _ _) (by kernel_rfl) rfl (by kernel_rfl) (by kernel_rfl) (y_indexArr Tryz.underlying120 ty2 rfl rfl (by decide) (by decide)) rfl ?_
  refine a_y (i := 18) (Cls.gs _ _) (by kernel_rfl) rfl (by kernel_rfl) (by kernel_rfl) (y_load rfl (LoadAt.oneB .z hp0 ty2 (.s (.s (.s (.s (.s (.s (.s (.s .z)))))))))) rfl ?_
  refine a_y (i := 19) (Cls.gs _ _) (by kernel_rfl) rfl (by kernel_rfl) (by kernel_rfl) (y_fieldAddr rfl fa66_2) rfl ?_
  refine a_y (i := 20) (Cls.gs _ _) (by kernel_rfl) rfl (by kernel_rfl) (by kernel_rfl) (y_load rfl (LoadAt.oneB .z hp1 ty2 (.s (.s .z)))) rfl ?_
  refine a_y (i := 21) (Cls.gs _ _) (by kernel_rfl) rfl (by kernel_rfl) (by kernel_rfl) ((y_mul rfl rfl).lit (by kernel_rfl : _ = Value.int .i64 512)) rfl ?_
  refine a_y (i := 22) (Cls.gs _ _) (by kernel_rfl) rfl (by kernel_rfl) (by kernel_rfl) ((y_add rfl rfl).lit (by kernel_rfl : _ = Value.int .i64 512)) rfl ?_
  refine a_y (i := 23) (Cls.gs _ _) (by kernel_rfl) rfl (by kernel_rfl) (by kernel_rfl) (y_assign rfl) rfl ?_
  refine a_done (by kernel_rfl) ?_
  refine e_then ?_
  refine CJ.weak (.c (t := 4) rfl .n) (fun _ h => h) ?_
  refine c_ret ?_
  refine e_ret rfl (.t rfl .n) (fun wF hw => ?_)
  exact ⟨rfl, (hw.anc (w, []) (by simp)).below⟩

theorem c53_0 (w : World) : Calls Tryz.prog 53 #[.agg #[.int .i64 1, .int .i64 0, .int .i64 0, .int .i64 0], .agg #[.int .i64 1, .int .i64 (-1), .int .i64 512]] w fun e w' => e = .returned (.agg #[.int .i64 1, .int .i64 (-1), .int .i64 512]) ∧ Gr w w' := by
  refine enter Tryz.func53 rfl rfl rfl rfl (Cls.start w) ?_
  refine c_seq ?_
  refine c_text ?_
  refine l_n rfl (n_box rfl .a rfl) (fun b0 _ => ?_)
  refine l_n rfl (n_box rfl .a rfl) (fun b1 _ => ?_)
  refine l_n rfl (n_alloc ty66 .a rfl) (fun b2 _ => ?_)
  refine l_nil ?_
  refine e_then ?_
  refine CJ.weak (.c (t := 2) rfl (.c (t := 3) rfl (.c (t := 4) rfl .n))) (fun _ h => h) ?_
  refine c_seq ?_
  refine c_seq ?_
  refine c_text ?_
  refine l_y (Cls.gs _ _) (y_load rfl (LoadAt.aggL (.s .z) ty66 (.t (.t (.t .d))))) rfl ?_
  refine l_y (Cls.gs _ _) (y_call ent52 (.c rfl .n) (fun w hw => c52_0  w )) rfl ?_
  refine l_y (Cls.gs _ _) ((y_neq rfl rfl).lit (by kernel_rfl : _ = Value.bool false)) rfl ?_
  refine l_nil ?_
  refine e_then ?_
  refine CJ.weak (.c (t := 2) rfl (.c (t := 3) rfl (.c (t := 4) rfl (.c (t := 10) rfl .n)))) (fun _ h => h) ?_
  refine c_false (by kernel_rfl) ?_
  refine c_skip ?_
  refine e_then ?_
  refine CJ.weak (.c (t := 2) rfl (.c (t := 3) rfl (.c (t := 4) rfl .n))) (fun _ h => h) ?_
  refine c_seq ?_
  refine c_text ?_
  refine l_y (Cls.gs _ _) (y_load rfl (LoadAt.aggL (.s (.s .z)) ty64 (.t (.t (.t (.t .d)))))) rfl ?_
  refine l_y (Cls.gs _ _) (y_call ent75 (.c rfl .n) (fun w hw => c75_0  w )) rfl ?_
  refine l_y (Cls.gs _ _) (y_move rfl) rfl ?_
  refine l_y (Cls.gs _ _) (y_extract rfl .z) rfl ?_
  refine l_y (Cls.gs _ _) (y_extract rfl (.s .z)) rfl ?_
  refine l_n rfl (n_alloc ty148 .a rfl) (fun b3 _ => ?_)
  refine l_n rfl (n_store rfl rfl ty148 .a rfl rfl .z (.t (.t (.t (.t (.t (.t (.t (.t (.t .d)))))))))) (fun _ _ => ?_)
  refine l_y (Cls.gs _ _) (y_assign rfl) rfl ?_
  refine l_nil ?_
  refine e_then ?_
  refine CJ.weak (.c (t := 3) rfl (.c (t := 4) rfl (.c (t := 5) rfl .n))) (fun _ h => h) ?_
  refine c_seq ?_
  refine c_text ?_
  refine l_y (Cls.gs _ _) (y_makeFunc .n (.c rfl (.c rfl .n))) rfl ?_
  refine l_y (Cls.gs _ _) (y_assign rfl) rfl ?_
  refine l_nil ?_
  refine e_then ?_
  refine CJ.weak (.c (t := 4) rfl (.c (t := 7) rfl .n)) (fun _ h => h) ?_
  refine c_seq ?_
  refine c_text ?_
  refine l_y (Cls.gs _ _) (y_move rfl) rfl ?_
  refine l_y (Cls.gs _ _) (y_callv ent76 rfl (.c rfl .n) (fun w hw => c76_0 _ _ w (hw.locM .z) (hw.locM (.s (.s .z))))) rfl ?_
  refine l_y (Cls.gs _ _) (y_move rfl) rfl ?_
  refine l_y (Cls.gs _ _) (y_callv ent76 rfl (.c rfl .n) (fun w hw => c76_1 _ _ w (hw.locM .z) (hw.locM (.s (.s .z))))) rfl ?_
  refine l_y (Cls.gs _ _) (y_move rfl) rfl ?_
  refine l_y (Cls.gs _ _) (y_callv ent76 rfl (.c rfl .n) (fun w hw => c76_2 _ _ w (hw.locM .z) (hw.locM (.s (.s .z))))) rfl ?_
  refine l_y (Cls.gs _ _) (y_build pl66 ty66 .a (.c rfl (.c rfl (.c rfl .n))) (.c rfl (.o rfl) rfl rfl (.t .d) (.c rfl (.o rfl) rfl rfl (.s (.t .d)) (.c rfl (.o rfl) rfl rfl (.s (.s (.t .d))) .d)))) rfl ?_
  refine l_n rfl (n_store rfl rfl ty66 .a rfl rfl (.s .z) (.t (.t (.t .d)))) (fun _ _ => ?_)
  refine l_nil ?_
  refine e_then ?_
  refine CJ.weak (.c (t := 4) rfl .n) (fun _ h => h) ?_
  refine c_ret ?_
  refine e_ret rfl (.c rfl (LoadAt.aggL (.s .z) ty66 (.t (.t (.t .d)))) .n) (fun wF hw => ?_)
  exact ⟨rfl, (hw.anc (w, []) (by simp)).below⟩

theorem c100_0 (w : World) : Calls Tryz.prog 100 #[.int .i64 131072] w fun e w' => e = .returned (.int .u64 131072) ∧ Gr w w' := by
  refine enter Tryz.func100 rfl rfl rfl rfl (Cls.start w) ?_
  refine c_seq ?_
  refine c_text ?_
  refine l_y (Cls.gs _ _) (y_assign rfl) rfl ?_
  refine l_nil ?_
  refine e_then ?_
  refine CJ.weak (.c (t := 0) rfl .n) (fun _ h => h) ?_
  refine c_seq ?_
  refine c_seq ?_
  refine c_text ?_
  refine l_y (Cls.gs _ _) (y_move rfl) rfl ?_
  refine l_y (Cls.gs _ _) ((y_lss rfl rfl).lit (by kernel_rfl : _ = Value.bool false)) rfl ?_
  refine l_nil ?_
  refine e_then ?_
  refine CJ.weak (.c (t := 0) rfl (.c (t := 4) rfl .n)) (fun _ h => h) ?_
  refine c_false (by kernel_rfl) ?_
  refine c_skip ?_
  refine e_then ?_
  refine CJ.weak (.c (t := 0) rfl .n) (fun _ h => h) ?_
  refine c_seq ?_
  refine c_text ?_
  refine l_y (Cls.gs _ _) (y_move rfl) rfl ?_
  refine l_y (Cls.gs _ _) ((y_conv Tryz.underlying2 Tryz.underlying79 rfl).lit (by kernel_rfl : _ = Value.int .u64 131072)) rfl ?_
  refine l_y (Cls.gs _ _) (y_assign rfl) rfl ?_
  refine l_nil ?_
  refine e_then ?_
  refine CJ.weak (.c (t := 2) rfl .n) (fun _ h => h) ?_
  refine c_ret ?_
  refine e_ret rfl (.t rfl .n) (fun wF hw => ?_)
  exact ⟨rfl, (hw.anc (w, []) (by simp)).below⟩

theorem c100_1 (w : World) : Calls Tryz.prog 100 #[.int .i64 1] w fun e w' => e = .returned (.int .u64 1) ∧ Gr w w' := by
  refine enter Tryz.func100 rfl rfl rfl rfl (Cls.start w) ?_
  refine c_seq ?_
  refine c_text ?_
  refine l_y (Cls.gs _ _) (y_assign rfl) rfl ?_
  refine l_nil ?_
  refine e_then ?_
  refine CJ.weak (.c (t := 0) rfl .n) (fun _ h => h) ?_
  refine c_seq ?_
  refine c_seq ?_
  refine c_text ?_
  refine l_y (Cls.gs _ _) (y_move rfl) rfl ?_
  refine l_y (Cls.gs _ _) ((y_lss rfl rfl).lit (by kernel_rfl : _ = Value.bool false)) rfl ?_
  refine l_nil ?_
  refine e_then ?_
  refine CJ.weak (.c (t := 0) rfl (.c (t := 4) rfl .n)) (fun _ h => h) ?_
  refine c_false (by kernel_rfl) ?_
  refine c_skip ?_
  refine e_then ?_
  refine CJ.weak (.c (t := 0) rfl .n) (fun _ h => h) ?_
  refine c_seq ?_
  refine c_text ?_
  refine l_y (Cls.gs _ _) (y_move rfl) rfl ?_
  refine l_y (Cls.gs _ _) ((y_conv Tryz.underlying2 Tryz.underlying79 rfl).lit (by kernel_rfl : _ = Value.int .u64 1)) rfl ?_
  refine l_y (Cls.gs _ _) (y_assign rfl) rfl ?_
  refine l_nil ?_
  refine e_then ?_
  refine CJ.weak (.c (t := 2) rfl .n) (fun _ h => h) ?_
  refine c_ret ?_
  refine e_ret rfl (.t rfl .n) (fun wF hw => ?_)
  exact ⟨rfl, (hw.anc (w, []) (by simp)).below⟩

theorem c99_0 (w : World) : Calls Tryz.prog 99 #[.int .u64 131072, .int .u64 1] w fun e w' => e = .returned (.tuple #[.int .u64 0, .int .u64 131072]) ∧ Gr w w' := by
  refine enter Tryz.func99 rfl rfl rfl rfl (Cls.start w) ?_
  refine c_seq ?_
  refine c_text ?_
  refine l_y (Cls.gs _ _) (y_assign rfl) rfl ?_
  refine l_y (Cls.gs _ _) (y_assign rfl) rfl ?_
  refine l_nil ?_
  refine e_then ?_
  refine CJ.weak (.c (t := 0) rfl (.c (t := 1) rfl .n)) (fun _ h => h) ?_
  refine c_seq ?_
  refine c_text ?_
  refine l_y (Cls.gs _ _) (y_move rfl) rfl ?_
  refine l_y (Cls.gs _ _) ((y_band rfl rfl).lit (by kernel_rfl : _ = Value.int .u64 131072)) rfl ?_
  refine l_y (Cls.gs _ _) (y_assign rfl) rfl ?_
  refine l_nil ?_
  refine e_then ?_
  refine CJ.weak (.c (t := 0) rfl (.c (t := 1) rfl (.c (t := 6) rfl .n))) (fun _ h => h) ?_
  refine c_seq ?_
  refine c_text ?_
  refine l_y (Cls.gs _ _) (y_move rfl) rfl ?_
  refine l_y (Cls.gs _ _) ((y_shr rfl rfl (by decide)).lit (by kernel_rfl : _ = Value.int .u64 0)) rfl ?_
  refine l_y (Cls.gs _ _) (y_assign rfl) rfl ?_
  refine l_nil ?_
  refine e_then ?_
  refine CJ.weak (.c (t := 0) rfl (.c (t := 1) rfl (.c (t := 6) rfl (.c (t := 7) rfl .n)))) (fun _ h => h) ?_
  refine c_seq ?_
  refine c_text ?_
  refine l_y (Cls.gs _ _) (y_move rfl) rfl ?_
  refine l_y (Cls.gs _ _) ((y_band rfl rfl).lit (by kernel_rfl : _ = Value.int .u64 1)) rfl ?_
  refine l_y (Cls.gs _ _) (y_assign rfl) rfl ?_
  refine l_nil ?_
  refine e_then ?_
  refine CJ.weak (.c (t := 0) rfl (.c (t := 1) rfl (.c (t := 6) rfl (.c (t := 7) rfl (.c (t := 8) rfl .n))))) (fun _ h => h) ?_
  refine c_seq ?_
  refine c_text ?_
  refine l_y (Cls.gs _ _) (y_move rfl) rfl ?_
  refine l_y (Cls.gs _ _) ((y_shr rfl rfl (by decide)).lit (by kernel_rfl : _ = Value.int .u64 0)) rfl ?_
  refine l_y (Cls.gs _ _) (y_assign rfl) rfl ?_
  refine l_nil ?_
  refine e_then ?_
  refine CJ.weak (.c (t := 0) rfl (.c (t := 1) rfl (.c (t := 6) rfl (.c (t := 7) rfl (.c (t := 8) rfl (.c (t := 9) rfl .n)))))) (fun _ h => h) ?_
  refine c_seq ?_
  refine c_text ?_
  refine l_y (Cls.gs _ _) (y_move rfl) rfl ?_
  refine l_y (Cls.gs _ _) (y_move rfl) rfl ?_
  refine l_y (Cls.gs _ _) ((y_mul rfl rfl).lit (by kernel_rfl : _ = Value.int .u64 131072)) rfl ?_
  refine l_y (Cls.gs _ _) (y_assign rfl) rfl ?_
  refine l_nil ?_
  refine e_then ?_
  refine CJ.weak (.c (t := 0) rfl (.c (t := 1) rfl (.c (t := 6) rfl (.c (t := 7) rfl (.c (t := 8) rfl (.c (t := 9) rfl (.c (t := 10) rfl .n))))))) (fun _ h => h) ?_
  refine c_seq ?_
  refine c_text ?_
  refine l_y (Cls.gs _ _) (y_move rfl) rfl ?_
  refine l_y (Cls.gs _ _) (y_move rfl) rfl ?_
  refine l_y (Cls.gs _ _) ((y_mul rfl rfl).lit (by kernel_rfl : _ = Value.int .u64 0)) rfl ?_
  refine l_y (Cls.gs _ _) (y_move rfl) rfl ?_
  refine l_y (Cls.gs _ _) ((y_shr rfl rfl (by decide)).lit (by kernel_rfl : _ = Value.int .u64 0)) rfl ?_
  refine l_y (Cls.gs _ _) ((y_add rfl rfl).lit (by kernel_rfl : _ = Value.int .u64 0)) rfl ?_
  refine l_y (Cls.gs _ _) (y_assign rfl) rfl ?_
  refine l_nil ?_
  refine e_then ?_
  refine CJ.weak (.c (t := 0) rfl (.c (t := 1) rfl (.c (t := 6) rfl (.c (t := 7) rfl (.c (t := 9) rfl (.c (t := 11) rfl .n)))))) (fun _ h => h) ?_
  refine c_seq ?_
  refine c_text ?_
  refine l_y (Cls.gs _ _) (y_move rfl) rfl ?_
  refine l_y (Cls.gs _ _) ((y_band rfl rfl).lit (by kernel_rfl : _ = Value.int .u64 0)) rfl ?_
  refine l_y (Cls.gs _ _) (y_assign rfl) rfl ?_
  refine l_nil ?_
  refine e_then ?_
  refine CJ.weak (.c (t := 0) rfl (.c (t := 1) rfl (.c (t := 6) rfl (.c (t := 7) rfl (.c (t := 9) rfl (.c (t := 11) rfl (.c (t := 12) rfl .n))))))) (fun _ h => h) ?_
  refine c_seq ?_
  refine c_text ?_
  refine l_y (Cls.gs _ _) (y_move rfl) rfl ?_
  refine l_y (Cls.gs _ _) ((y_shr rfl rfl (by decide)).lit (by kernel_rfl : _ = Value.int .u64 0)) rfl ?_
  refine l_y (Cls.gs _ _) (y_assign rfl) rfl ?_
  refine l_nil ?_
  refine e_then ?_
  refine CJ.weak (.c (t := 0) rfl (.c (t := 1) rfl (.c (t := 6) rfl (.c (t := 7) rfl (.c (t := 9) rfl (.c (t := 12) rfl (.c (t := 13) rfl .n))))))) (fun _ h => h) ?_
  refine c_seq ?_
  refine c_text ?_
  refine l_y (Cls.gs _ _) (y_move rfl) rfl ?_
  refine l_y (Cls.gs _ _) (y_move rfl) rfl ?_
  refine l_y (Cls.gs _ _) (y_move rfl) rfl ?_
  refine l_y (Cls.gs _ _) ((y_mul rfl rfl).lit (by kernel_rfl : _ = Value.int .u64 0)) rfl ?_
  refine l_y (Cls.gs _ _) ((y_add rfl rfl).lit (by kernel_rfl : _ = Value.int .u64 0)) rfl ?_
  refine l_y (Cls.gs _ _) (y_assign rfl) rfl ?_
  refine l_nil ?_
  refine e_then ?_
  refine CJ.weak (.c (t := 0) rfl (.c (t := 1) rfl (.c (t := 7) rfl (.c (t := 9) rfl (.c (t := 12) rfl (.c (t := 13) rfl .n)))))) (fun _ h => h) ?_
  refine c_seq ?_
  refine c_text ?_
  refine l_y (Cls.gs _ _) (y_move rfl) rfl ?_
  refine l_y (Cls.gs _ _) (y_move rfl) rfl ?_
  refine l_y (Cls.gs _ _) ((y_mul rfl rfl).lit (by kernel_rfl : _ = Value.int .u64 0)) rfl ?_
  refine l_y (Cls.gs _ _) (y_move rfl) rfl ?_
  refine l_y (Cls.gs _ _) ((y_add rfl rfl).lit (by kernel_rfl : _ = Value.int .u64 0)) rfl ?_
  refine l_y (Cls.gs _ _) (y_move rfl) rfl ?_
  refine l_y (Cls.gs _ _) ((y_shr rfl rfl (by decide)).lit (by kernel_rfl : _ = Value.int .u64 0)) rfl ?_
  refine l_y (Cls.gs _ _) ((y_add rfl rfl).lit (by kernel_rfl : _ = Value.int .u64 0)) rfl ?_
  refine l_y (Cls.gs _ _) (y_assign rfl) rfl ?_
  refine l_nil ?_
  refine e_then ?_
  refine CJ.weak (.c (t := 0) rfl (.c (t := 1) rfl (.c (t := 4) rfl .n))) (fun _ h => h) ?_
  refine c_seq ?_
  refine c_text ?_
  refine l_y (Cls.gs _ _) (y_move rfl) rfl ?_
  refine l_y (Cls.gs _ _) (y_move rfl) rfl ?_
  refine l_y (Cls.gs _ _) ((y_mul rfl rfl).lit (by kernel_rfl : _ = Value.int .u64 131072)) rfl ?_
  refine l_y (Cls.gs _ _) (y_assign rfl) rfl ?_
  refine l_nil ?_
  refine e_then ?_
  refine CJ.weak (.c (t := 4) rfl (.c (t := 5) rfl .n)) (fun _ h => h) ?_
  refine c_ret ?_
  refine e_ret rfl (.t rfl (.t rfl .n)) (fun wF hw => ?_)
  exact ⟨rfl, (hw.anc (w, []) (by simp)).below⟩

theorem c77_0 (w : World) : Calls Tryz.prog 77 #[.int .i64 131072, .int .i64 1] w fun e w' => e = .returned (.agg #[.int .i64 0, .int .u64 131072]) ∧ Gr w w' := by
  refine enter Tryz.func77 rfl rfl rfl rfl (Cls.start w) ?_
  refine c_seq ?_
  refine c_text ?_
  refine l_n rfl (n_alloc ty153 .a rfl) (fun b0 _ => ?_)
  refine l_nil ?_
  refine e_then ?_
  refine c_seq ?_
  refine c_text ?_
  refine l_y (Cls.gs _ _) (y_move rfl) rfl ?_
  refine l_y (Cls.gs _ _) (y_call ent100 (.c rfl .n) (fun w hw => c100_0  w )) rfl ?_
  refine l_y (Cls.gs _ _) (y_move rfl) rfl ?_
  refine l_y (Cls.gs _ _) (y_call ent100 (.c rfl .n) (fun w hw => c100_1  w )) rfl ?_
  refine l_y (Cls.gs _ _) (y_call ent99 (.c rfl (.c rfl .n)) (fun w hw => c99_0  w )) rfl ?_
  refine l_y (Cls.gs _ _) (y_move rfl) rfl ?_
  refine l_y (Cls.gs _ _) (y_extract rfl .z) rfl ?_
  refine l_y (Cls.gs _ _) (y_extract rfl (.s .z)) rfl ?_
  refine l_y (Cls.gs _ _) (y_assign rfl) rfl ?_
  refine l_y (Cls.gs _ _) (y_assign rfl) rfl ?_
  refine l_nil ?_
  refine e_then ?_
  refine CJ.weak (.c (t := 0) rfl (.c (t := 1) rfl (.c (t := 4) rfl (.c (t := 5) rfl (.c (t := 6) rfl .n))))) (fun _ h => h) ?_
  refine c_seq ?_
  refine c_text ?_
  refine l_y (Cls.gs _ _) (y_move rfl) rfl ?_
  refine l_y (Cls.gs _ _) ((y_conv Tryz.underlying79 Tryz.underlying2 rfl).lit (by kernel_rfl : _ = Value.int .i64 0)) rfl ?_
  refine l_y (Cls.gs _ _) (y_move rfl) rfl ?_
  refine l_y (Cls.gs _ _) (y_build pl153 ty153 .a (.c rfl (.c rfl .n)) (.c rfl (.o rfl) rfl rfl (.t .d) (.c rfl (.o rfl) rfl rfl (.s (.t .d)) .d))) rfl ?_
  refine l_n rfl (n_alloc ty153 .a rfl) (fun b1 _ => ?_)
  refine l_n rfl (n_store rfl rfl ty153 .a rfl rfl .z (.t (.t .d))) (fun _ _ => ?_)
  refine l_nil ?_
  refine e_then ?_
  refine CJ.weak (.c (t := 0) rfl (.c (t := 1) rfl (.c (t := 4) rfl (.c (t := 7) rfl .n)))) (fun _ h => h) ?_
  refine c_seq ?_
  refine c_seq ?_
  refine c_text ?_
  refine l_y (Cls.gs _ _) (y_move rfl) rfl ?_
  refine l_y (Cls.gs _ _) ((y_lss rfl rfl).lit (by kernel_rfl : _ = Value.bool false)) rfl ?_
  refine l_y (Cls.gs _ _) (y_move rfl) rfl ?_
  refine l_y (Cls.gs _ _) ((y_lss rfl rfl).lit (by kernel_rfl : _ = Value.bool false)) rfl ?_
  refine l_y (Cls.gs _ _) ((y_neb Tryz.underlying4 rfl rfl).lit (by kernel_rfl : _ = Value.bool false)) rfl ?_
  refine l_nil ?_
  refine e_then ?_
  refine CJ.weak (.c (t := 4) rfl (.c (t := 7) rfl (.c (t := 24) rfl .n))) (fun _ h => h) ?_
  refine c_false (by kernel_rfl) ?_
  refine c_skip ?_
  refine e_then ?_
  refine CJ.weak (.c (t := 4) rfl (.c (t := 7) rfl .n)) (fun _ h => h) ?_
  refine c_seq ?_
  refine c_text ?_
  refine l_y (Cls.gs _ _) (y_load rfl (LoadAt.aggL .z ty153 (.t (.t .d)))) rfl ?_
  refine l_n rfl (n_store rfl rfl ty153 .a rfl rfl (.s .z) (.t (.t .d))) (fun _ _ => ?_)
  refine l_nil ?_
  refine e_then ?_
  refine CJ.weak (.c (t := 4) rfl .n) (fun _ h => h) ?_
  refine c_ret ?_
  refine e_ret rfl (.c rfl (LoadAt.aggL (.s .z) ty153 (.t (.t .d))) .n) (fun wF hw => ?_)
  exact ⟨rfl, (hw.anc (w, []) (by simp)).below⟩

theorem c102_0 (w : World) : Calls Tryz.prog 102 #[.int .u64 0, .int .u64 131072, .int .u64 512] w fun e w' => e = .returned (.tuple #[.int .u64 256, .int .u64 0]) ∧ Gr w w' := by
  refine enter Tryz.func102 rfl rfl rfl rfl (Cls.start w) ?_
  refine c_seq ?_
  refine c_text ?_
  refine l_y (Cls.gs _ _) (y_assign rfl) rfl ?_
  refine l_y (Cls.gs _ _) (y_assign rfl) rfl ?_
  refine l_nil ?_
  refine e_then ?_
  refine CJ.weak (.c (t := 0) rfl (.c (t := 1) rfl (.c (t := 2) rfl .n))) (fun _ h => h) ?_
  refine c_seq ?_
  refine c_seq ?_
  refine c_text ?_
  refine l_y (Cls.gs _ _) (y_move rfl) rfl ?_
  refine l_y (Cls.gs _ _) ((y_eql rfl rfl).lit (by kernel_rfl : _ = Value.bool false)) rfl ?_
  refine l_nil ?_
  refine e_then ?_
  refine CJ.weak (.c (t := 0) rfl (.c (t := 1) rfl (.c (t := 2) rfl (.c (t := 20) rfl .n)))) (fun _ h => h) ?_
  refine c_false (by kernel_rfl) ?_
  refine c_skip ?_
  refine e_then ?_
  refine CJ.weak (.c (t := 0) rfl (.c (t := 1) rfl (.c (t := 2) rfl .n))) (fun _ h => h) ?_
  refine c_seq ?_
  refine c_seq ?_
  refine c_text ?_
  refine l_y (Cls.gs _ _) (y_move rfl) rfl ?_
  refine l_y (Cls.gs _ _) (y_move rfl) rfl ?_
  refine l_y (Cls.gs _ _) ((y_leq rfl rfl).lit (by kernel_rfl : _ = Value.bool false)) rfl ?_
  refine l_nil ?_
  refine e_then ?_
  refine CJ.weak (.c (t := 0) rfl (.c (t := 1) rfl (.c (t := 2) rfl (.c (t := 24) rfl .n)))) (fun _ h => h) ?_
  refine c_false (by kernel_rfl) ?_
  refine c_skip ?_
  refine e_then ?_
  refine CJ.weak (.c (t := 0) rfl (.c (t := 1) rfl (.c (t := 2) rfl .n))) (fun _ h => h) ?_
  refine c_seq ?_
  refine c_seq ?_
  refine c_text ?_
  refine l_y (Cls.gs _ _) (y_move rfl) rfl ?_
  refine l_y (Cls.gs _ _) ((y_eql rfl rfl).lit (by kernel_rfl : _ = Value.bool true)) rfl ?_
  refine l_nil ?_
  refine e_then ?_
  refine CJ.weak (.c (t := 0) rfl (.c (t := 1) rfl (.c (t := 2) rfl (.c (t := 27) rfl .n)))) (fun _ h => h) ?_
  refine c_true (by kernel_rfl) ?_
  refine c_seq ?_
  refine c_draw (m := 8) (S0 := fun _ => True) (fun _ => false) (fun _ _ => trivial) hmix (Cls.gs _ _) rfl ?_
  refine a_y (i := 0) (Cls.gs _ _) (by kernel_rfl) rfl (by kernel_rfl) (by kernel_rfl) (y_move rfl) rfl ?_
  refine a_y (i := 1) (Cls.gs _ _) (by kernel_rfl) rfl (by kernel_rfl) (by kernel_rfl) (y_move rfl) rfl ?_
  refine a_y (i := 2) (Cls.gs _ _) (by kernel_rfl) rfl (by kernel_rfl) (by kernel_rfl) ((y_quo rfl rfl (by decide)).lit (by kernel_rfl : _ = Value.int .u64 256)) rfl ?_
  refine a_y (i := 3) (Cls.gs _ _) (by kernel_rfl) rfl (by kernel_rfl) (by kernel_rfl) (y_move rfl) rfl ?_
  refine a_y (i := 4) (Cls.gs _ _) (by kernel_rfl) rfl (by kernel_rfl) (by kernel_rfl) (y_move rfl) rfl ?_
  refine a_y (i := 5) (Cls.gs _ _) (by kernel_rfl) rfl (by kernel_rfl) (by kernel_rfl) ((y_rem rfl rfl (by decide)).lit (by kernel_rfl : _ = Value.int .u64 0)) rfl ?_
  refine a_y (i := 6) (Cls.gs _ _) (by kernel_rfl) rfl (by kernel_rfl) (by kernel_rfl) (y_assign rfl) rfl ?_
  refine a_y (i := 7) (Cls.gs _ _) (by kernel_rfl) rfl (by kernel_rfl) (by kernel_rfl) (y_assign rfl) rfl ?_
  refine a_done (by kernel_rfl) ?_
  refine e_then ?_
  refine CJ.weak (.c (t := 6) rfl (.c (t := 7) rfl .n)) (fun _ h => h) ?_
  refine c_ret ?_
  refine e_then_ret ?_
  refine e_ret rfl (.t rfl (.t rfl .n)) (fun wF hw => ?_)
  exact ⟨rfl, (hw.anc (w, []) (by simp)).below⟩

theorem c78_0 (w : World) : Calls Tryz.prog 78 #[.agg #[.int .i64 0, .int .u64 131072], .int .i64 512] w fun e w' => e = .returned (.tuple #[.int .i64 256, .int .i64 0]) ∧ Gr w w' := by
  refine enter Tryz.func78 rfl rfl rfl rfl (Cls.start w) ?_
  refine c_seq ?_
  refine c_text ?_
  refine l_n rfl (n_box rfl .a rfl) (fun b0 _ => ?_)
  refine l_y (Cls.gs _ _) (y_assign rfl) rfl ?_
  refine l_y (Cls.gs _ _) (y_assign rfl) rfl ?_
  refine l_nil ?_
  refine e_then ?_
  refine CJ.weak (.c (t := 1) rfl (.c (t := 2) rfl .n)) (fun _ h => h) ?_
  refine c_seq ?_
  refine c_seq ?_
  refine c_text ?_
  refine l_y (Cls.gs _ _) (y_move rfl) rfl ?_
  refine l_y (Cls.gs _ _) ((y_lss rfl rfl).lit (by kernel_rfl : _ = Value.bool false)) rfl ?_
  refine l_nil ?_
  refine e_then ?_
  refine CJ.weak (.c (t := 1) rfl (.c (t := 2) rfl (.c (t := 11) rfl .n))) (fun _ h => h) ?_
  refine c_false (by kernel_rfl) ?_
  refine c_skip ?_
  refine e_then ?_
  refine CJ.weak (.c (t := 1) rfl (.c (t := 2) rfl .n)) (fun _ h => h) ?_
  refine c_seq ?_
  refine c_text ?_
  refine l_y (Cls.gs _ _) (y_load rfl (LoadAt.aggL .z ty153 (.t (.t .d)))) rfl ?_
  refine l_n rfl (n_alloc ty153 .a rfl) (fun b1 _ => ?_)
  refine l_n rfl (n_store rfl rfl ty153 .a rfl rfl .z (.t (.t .d))) (fun _ _ => ?_)
  refine l_nil ?_
  refine e_then ?_
  refine CJ.weak (.c (t := 1) rfl (.c (t := 2) rfl (.c (t := 6) rfl .n))) (fun _ h => h) ?_
  refine c_seq ?_
  refine c_seq ?_
  refine c_text ?_
  refine l_y (Cls.gs _ _) (y_fieldAddr rfl fa153_0) rfl ?_
  refine l_y (Cls.gs _ _) (y_load rfl (LoadAt.oneL (.s .z) ty2 .z)) rfl ?_
  refine l_y (Cls.gs _ _) ((y_lss rfl rfl).lit (by kernel_rfl : _ = Value.bool false)) rfl ?_
  refine l_nil ?_
  refine e_then ?_
  refine CJ.weak (.c (t := 1) rfl (.c (t := 2) rfl (.c (t := 6) rfl (.c (t := 15) rfl .n)))) (fun _ h => h) ?_
  refine c_false (by kernel_rfl) ?_
  refine c_skip ?_
  refine e_then ?_
  refine CJ.weak (.c (t := 1) rfl (.c (t := 2) rfl (.c (t := 6) rfl .n))) (fun _ h => h) ?_
  refine c_seq ?_
  refine c_seq ?_
  refine c_text ?_
  refine l_y (Cls.gs _ _) (y_fieldAddr rfl fa153_0) rfl ?_
  refine l_y (Cls.gs _ _) (y_load rfl (LoadAt.oneL .z ty2 .z)) rfl ?_
  refine l_y (Cls.gs _ _) ((y_conv Tryz.underlying2 Tryz.underlying79 rfl).lit (by kernel_rfl : _ = Value.int .u64 0)) rfl ?_
  refine l_y (Cls.gs _ _) (y_move rfl) rfl ?_
  refine l_y (Cls.gs _ _) ((y_conv Tryz.underlying2 Tryz.underlying79 rfl).lit (by kernel_rfl : _ = Value.int .u64 512)) rfl ?_
  refine l_y (Cls.gs _ _) ((y_geq rfl rfl).lit (by kernel_rfl : _ = Value.bool false)) rfl ?_
  refine l_nil ?_
  refine e_then ?_
  refine CJ.weak (.c (t := 1) rfl (.c (t := 2) rfl (.c (t := 6) rfl (.c (t := 23) rfl .n)))) (fun _ h => h) ?_
  refine c_false (by kernel_rfl) ?_
  refine c_skip ?_
  refine e_then ?_
  refine CJ.weak (.c (t := 1) rfl (.c (t := 2) rfl (.c (t := 6) rfl .n))) (fun _ h => h) ?_
  refine c_seq ?_
  refine c_text ?_
  refine l_y (Cls.gs _ _) (y_fieldAddr rfl fa153_0) rfl ?_
  refine l_y (Cls.gs _ _) (y_load rfl (LoadAt.oneL .z ty2 .z)) rfl ?_
  refine l_y (Cls.gs _ _) ((y_conv Tryz.underlying2 Tryz.underlying79 rfl).lit (by kernel_rfl : _ = Value.int .u64 0)) rfl ?_
  refine l_y (Cls.gs _ _) (y_fieldAddr rfl fa153_1) rfl ?_
  refine l_y (Cls.gs _ _) (y_load rfl (LoadAt.oneL .z ty79 (.s .z))) rfl ?_
  refine l_y (Cls.gs _ _) (y_move rfl) rfl ?_
  refine l_y (Cls.gs _ _) ((y_conv Tryz.underlying2 Tryz.underlying79 rfl).lit (by kernel_rfl : _ = Value.int .u64 512)) rfl ?_
  refine l_y (Cls.gs _ _) (y_call ent102 (.c rfl (.c rfl (.c rfl .n))) (fun w hw => c102_0  w )) rfl ?_
  refine l_y (Cls.gs _ _) (y_move rfl) rfl ?_
  refine l_y (Cls.gs _ _) (y_extract rfl .z) rfl ?_
  refine l_y (Cls.gs _ _) (y_extract rfl (.s .z)) rfl ?_
  refine l_y (Cls.gs _ _) (y_assign rfl) rfl ?_
  refine l_y (Cls.gs _ _) (y_assign rfl) rfl ?_
  refine l_nil ?_
  refine e_then ?_
  refine CJ.weak (.c (t := 2) rfl (.c (t := 7) rfl (.c (t := 8) rfl .n))) (fun _ h => h) ?_
  refine c_seq ?_
  refine c_text ?_
  refine l_y (Cls.gs _ _) (y_assign rfl) rfl ?_
  refine l_nil ?_
  refine e_then ?_
  refine c_seq ?_
  refine c_seq ?_
  refine c_text ?_
  refine l_y (Cls.gs _ _) (y_fieldAddr rfl fa153_0) rfl ?_
  refine l_y (Cls.gs _ _) (y_load rfl (LoadAt.oneL (.s .z) ty2 .z)) rfl ?_
  refine l_y (Cls.gs _ _) ((y_lss rfl rfl).lit (by kernel_rfl : _ = Value.bool false)) rfl ?_
  refine l_nil ?_
  refine e_then ?_
  refine CJ.weak (.c (t := 2) rfl (.c (t := 7) rfl (.c (t := 8) rfl (.c (t := 9) rfl (.c (t := 37) rfl .n))))) (fun _ h => h) ?_
  refine c_false (by kernel_rfl) ?_
  refine c_skip ?_
  refine e_then ?_
  refine CJ.weak (.c (t := 2) rfl (.c (t := 7) rfl (.c (t := 8) rfl (.c (t := 9) rfl .n)))) (fun _ h => h) ?_
  refine c_seq ?_
  refine c_seq ?_
  refine c_text ?_
  refine l_y (Cls.gs _ _) (y_move rfl) rfl ?_
  refine l_y (Cls.gs _ _) (y_move rfl) rfl ?_
  refine l_y (Cls.gs _ _) ((y_gtr rfl rfl).lit (by kernel_rfl : _ = Value.bool false)) rfl ?_
  refine l_nil ?_
  refine e_then ?_
  refine CJ.weak (.c (t := 2) rfl (.c (t := 7) rfl (.c (t := 8) rfl (.c (t := 44) rfl .n)))) (fun _ h => h) ?_
  refine c_false (by kernel_rfl) ?_
  refine c_skip ?_
  refine e_then ?_
  refine CJ.weak (.c (t := 2) rfl (.c (t := 7) rfl (.c (t := 8) rfl .n))) (fun _ h => h) ?_
  refine c_seq ?_
  refine c_block ?_
  refine c_seq ?_
  refine c_text ?_
  refine l_y (Cls.gs _ _) (y_fieldAddr rfl fa153_0) rfl ?_
  refine l_y (Cls.gs _ _) (y_load rfl (LoadAt.oneL (.s .z) ty2 .z)) rfl ?_
  refine l_y (Cls.gs _ _) ((y_geq rfl rfl).lit (by kernel_rfl : _ = Value.bool true)) rfl ?_
  refine l_y (Cls.gs _ _) (y_assign rfl) rfl ?_
  refine l_nil ?_
  refine e_then ?_
  refine CJ.weak (.c (t := 7) rfl (.c (t := 8) rfl (.c (t := 45) rfl .n))) (fun _ h => h) ?_
  refine c_true (by kernel_rfl) ?_
  refine c_seq ?_
  refine c_text ?_
  refine l_y (Cls.gs _ _) (y_move rfl) rfl ?_
  refine l_y (Cls.gs _ _) ((y_conv Tryz.underlying79 Tryz.underlying2 rfl).lit (by kernel_rfl : _ = Value.int .i64 256)) rfl ?_
  refine l_y (Cls.gs _ _) (y_assign rfl) rfl ?_
  refine l_y (Cls.gs _ _) (y_assign rfl) rfl ?_
  refine l_nil ?_
  refine e_then ?_
  refine CJ.weak (.c (t := 4) rfl (.c (t := 5) rfl .n)) (fun _ h => h) ?_
  refine c_ret ?_
  refine e_block_ret ?_
  refine e_then_ret ?_
  refine e_ret rfl (.t rfl (.t rfl .n)) (fun wF hw => ?_)
  exact ⟨rfl, (hw.anc (w, []) (by simp)).below⟩

theorem c54_0 (w : World) : Calls Tryz.prog 54 #[.int .i64 131072, .int .i64 1, .int .i64 512] w fun e w' => e = .returned (.tuple #[.int .i64 256, .int .i64 0]) ∧ Gr w w' := by
  refine enter Tryz.func54 rfl rfl rfl rfl (Cls.start w) ?_
  refine c_seq ?_
  refine c_text ?_
  refine l_y (Cls.gs _ _) (y_assign rfl) rfl ?_
  refine l_y (Cls.gs _ _) (y_assign rfl) rfl ?_
  refine l_nil ?_
  refine e_then ?_
  refine CJ.weak (.c (t := 0) rfl (.c (t := 1) rfl (.c (t := 2) rfl .n))) (fun _ h => h) ?_
  refine c_seq ?_
  refine c_text ?_
  refine l_y (Cls.gs _ _) (y_move rfl) rfl ?_
  refine l_y (Cls.gs _ _) (y_move rfl) rfl ?_
  refine l_y (Cls.gs _ _) (y_call ent77 (.c rfl (.c rfl .n)) (fun w hw => c77_0  w )) rfl ?_
  refine l_y (Cls.gs _ _) (y_move rfl) rfl ?_
  refine l_y (Cls.gs _ _) (y_call ent78 (.c rfl (.c rfl .n)) (fun w hw => c78_0  w )) rfl ?_
  refine l_y (Cls.gs _ _) (y_extract rfl .z) rfl ?_
  refine l_y (Cls.gs _ _) (y_extract rfl (.s .z)) rfl ?_
  refine l_y (Cls.gs _ _) (y_assign rfl) rfl ?_
  refine l_y (Cls.gs _ _) (y_assign rfl) rfl ?_
  refine l_nil ?_
  refine e_then ?_
  refine CJ.weak (.c (t := 6) rfl (.c (t := 7) rfl .n)) (fun _ h => h) ?_
  refine c_ret ?_
  refine e_ret rfl (.t rfl (.t rfl .n)) (fun wF hw => ?_)
  exact ⟨rfl, (hw.anc (w, []) (by simp)).below⟩

theorem c100_2 (w : World) : Calls Tryz.prog 100 #[.int .i64 (-1)] w fun e w' => e = .returned (.int .u64 1) ∧ Gr w w' := by
  refine enter Tryz.func100 rfl rfl rfl rfl (Cls.start w) ?_
  refine c_seq ?_
  refine c_text ?_
  refine l_y (Cls.gs _ _) (y_assign rfl) rfl ?_
  refine l_nil ?_
  refine e_then ?_
  refine CJ.weak (.c (t := 0) rfl .n) (fun _ h => h) ?_
  refine c_seq ?_
  refine c_seq ?_
  refine c_text ?_
  refine l_y (Cls.gs _ _) (y_move rfl) rfl ?_
  refine l_y (Cls.gs _ _) ((y_lss rfl rfl).lit (by kernel_rfl : _ = Value.bool true)) rfl ?_
  refine l_nil ?_
  refine e_then ?_
  refine CJ.weak (.c (t := 0) rfl (.c (t := 4) rfl .n)) (fun _ h => h) ?_
  refine c_true (by kernel_rfl) ?_
  refine c_seq ?_
  refine c_text ?_
  refine l_y (Cls.gs _ _) (y_move rfl) rfl ?_
  refine l_y (Cls.gs _ _) ((y_conv Tryz.underlying2 Tryz.underlying79 rfl).lit (by kernel_rfl : _ = Value.int .u64 18446744073709551615)) rfl ?_
  refine l_y (Cls.gs _ _) ((y_neg rfl).lit (by kernel_rfl : _ = Value.int .u64 1)) rfl ?_
  refine l_y (Cls.gs _ _) (y_assign rfl) rfl ?_
  refine l_nil ?_
  refine e_then ?_
  refine CJ.weak (.c (t := 2) rfl .n) (fun _ h => h) ?_
  refine c_ret ?_
  refine e_then_ret ?_
  refine e_ret rfl (.t rfl .n) (fun wF hw => ?_)
  exact ⟨rfl, (hw.anc (w, []) (by simp)).below⟩

theorem c124_0 (w : World) : (callFunc 124 #[.int .u64 18446744073709420543, .int .u64 1, .int .u64 0]).run Tryz.prog w = .ok (.value (.tuple #[.int .u64 18446744073709420544, .int .u64 0])) w := by
  have h := add64_run 18446744073709420543 1 0 (by decide) (by decide) (by decide) (by decide) (w := w)
  rw [show ((18446744073709420543 : Int) + 1 + 0) % 18446744073709551616 = 18446744073709420544 by kernel_rfl, show ((18446744073709420543 : Int) + 1 + 0) / 18446744073709551616 = 0 by kernel_rfl] at h
  exact h

theorem c124_1 (w : World) : (callFunc 124 #[.int .u64 18446744073709551615, .int .u64 0, .int .u64 0]).run Tryz.prog w = .ok (.value (.tuple #[.int .u64 18446744073709551615, .int .u64 0])) w := by
  have h := add64_run 18446744073709551615 0 0 (by decide) (by decide) (by decide) (by decide) (w := w)
  rw [show ((18446744073709551615 : Int) + 0 + 0) % 18446744073709551616 = 18446744073709551615 by kernel_rfl, show ((18446744073709551615 : Int) + 0 + 0) / 18446744073709551616 = 0 by kernel_rfl] at h
  exact h

theorem c101_0 (w : World) : Calls Tryz.prog 101 #[.agg #[.int .i64 0, .int .u64 131072]] w fun e w' => e = .returned (.agg #[.int .i64 (-1), .int .u64 18446744073709420544]) ∧ Gr w w' := by
  refine enter Tryz.func101 rfl rfl rfl rfl (Cls.start w) ?_
  refine c_seq ?_
  refine c_text ?_
  refine l_n rfl (n_box rfl .a rfl) (fun b0 _ => ?_)
  refine l_n rfl (n_alloc ty153 .a rfl) (fun b1 _ => ?_)
  refine l_nil ?_
  refine e_then ?_
  refine CJ.weak (.c (t := 1) rfl (.c (t := 2) rfl .n)) (fun _ h => h) ?_
  refine c_seq ?_
  refine c_text ?_
  refine l_y (Cls.gs _ _) (y_fieldAddr rfl fa153_1) rfl ?_
  refine l_y (Cls.gs _ _) (y_load rfl (LoadAt.oneL (.s .z) ty79 (.s .z))) rfl ?_
  refine l_y (Cls.gs _ _) ((y_com rfl).lit (by kernel_rfl : _ = Value.int .u64 18446744073709420543)) rfl ?_
  refine l_y (Cls.gs _ _) (y_callx (.c rfl (.c rfl (.c rfl .n))) (c124_0)) rfl ?_
  refine l_y (Cls.gs _ _) (y_move rfl) rfl ?_
  refine l_y (Cls.gs _ _) (y_extract rfl .z) rfl ?_
  refine l_y (Cls.gs _ _) (y_extract rfl (.s .z)) rfl ?_
  refine l_y (Cls.gs _ _) (y_assign rfl) rfl ?_
  refine l_y (Cls.gs _ _) (y_assign rfl) rfl ?_
  refine l_nil ?_
  refine e_then ?_
  refine CJ.weak (.c (t := 1) rfl (.c (t := 2) rfl (.c (t := 3) rfl (.c (t := 4) rfl .n)))) (fun _ h => h) ?_
  refine c_seq ?_
  refine c_text ?_
  refine l_y (Cls.gs _ _) (y_fieldAddr rfl fa153_0) rfl ?_
  refine l_y (Cls.gs _ _) (y_load rfl (LoadAt.oneL (.s .z) ty2 .z)) rfl ?_
  refine l_y (Cls.gs _ _) ((y_conv Tryz.underlying2 Tryz.underlying79 rfl).lit (by kernel_rfl : _ = Value.int .u64 0)) rfl ?_
  refine l_y (Cls.gs _ _) ((y_com rfl).lit (by kernel_rfl : _ = Value.int .u64 18446744073709551615)) rfl ?_
  refine l_y (Cls.gs _ _) (y_move rfl) rfl ?_
  refine l_y (Cls.gs _ _) (y_callx (.c rfl (.c rfl (.c rfl .n))) (c124_1)) rfl ?_
  refine l_y (Cls.gs _ _) (y_move rfl) rfl ?_
  refine l_y (Cls.gs _ _) (y_extract rfl .z) rfl ?_
  refine l_y (Cls.gs _ _) (y_extract rfl (.s .z)) rfl ?_
  refine l_y (Cls.gs _ _) (y_assign rfl) rfl ?_
  refine l_y (Cls.gs _ _) (y_assign rfl) rfl ?_
  refine l_nil ?_
  refine e_then ?_
  refine CJ.weak (.c (t := 2) rfl (.c (t := 3) rfl (.c (t := 5) rfl .n))) (fun _ h => h) ?_
  refine c_seq ?_
  refine c_text ?_
  refine l_y (Cls.gs _ _) (y_move rfl) rfl ?_
  refine l_y (Cls.gs _ _) ((y_conv Tryz.underlying79 Tryz.underlying2 rfl).lit (by kernel_rfl : _ = Value.int .i64 (-1))) rfl ?_
  refine l_y (Cls.gs _ _) (y_move rfl) rfl ?_
  refine l_y (Cls.gs _ _) (y_build pl153 ty153 .a (.c rfl (.c rfl .n)) (.c rfl (.o rfl) rfl rfl (.t .d) (.c rfl (.o rfl) rfl rfl (.s (.t .d)) .d))) rfl ?_
  refine l_n rfl (n_store rfl rfl ty153 .a rfl rfl .z (.t (.t .d))) (fun _ _ => ?_)
  refine l_nil ?_
  refine e_then ?_
  refine CJ.weak (.c (t := 2) rfl .n) (fun _ h => h) ?_
  refine c_ret ?_
  refine e_ret rfl (.c rfl (LoadAt.aggL .z ty153 (.t (.t .d))) .n) (fun wF hw => ?_)
  exact ⟨rfl, (hw.anc (w, []) (by simp)).below⟩

theorem c77_1 (w : World) : Calls Tryz.prog 77 #[.int .i64 131072, .int .i64 (-1)] w fun e w' => e = .returned (.agg #[.int .i64 (-1), .int .u64 18446744073709420544]) ∧ Gr w w' := by
  refine enter Tryz.func77 rfl rfl rfl rfl (Cls.start w) ?_
  refine c_seq ?_
  refine c_text ?_
  refine l_n rfl (n_alloc ty153 .a rfl) (fun b0 _ => ?_)
  refine l_nil ?_
  refine e_then ?_
  refine c_seq ?_
  refine c_text ?_
  refine l_y (Cls.gs _ _) (y_move rfl) rfl ?_
  refine l_y (Cls.gs _ _) (y_call ent100 (.c rfl .n) (fun w hw => c100_0  w )) rfl ?_
  refine l_y (Cls.gs _ _) (y_move rfl) rfl ?_
  refine l_y (Cls.gs _ _) (y_call ent100 (.c rfl .n) (fun w hw => c100_2  w )) rfl ?_
  refine l_y (Cls.gs _ _) (y_call ent99 (.c rfl (.c rfl .n)) (fun w hw => c99_0  w )) rfl ?_
  refine l_y (Cls.gs _ _) (y_move rfl) rfl ?_
  refine l_y (Cls.gs _ _) (y_extract rfl .z) rfl ?_
  refine l_y (Cls.gs _ _) (y_extract rfl (.s .z)) rfl ?_
  refine l_y (Cls.gs _ _) (y_assign rfl) rfl ?_
  refine l_y (Cls.gs _ _) (y_assign rfl) rfl ?_
  refine l_nil ?_
  refine e_then ?_
  refine CJ.weak (.c (t := 0) rfl (.c (t := 1) rfl (.c (t := 4) rfl (.c (t := 5) rfl (.c (t := 6) rfl .n))))) (fun _ h => h) ?_
  refine c_seq ?_
  refine c_text ?_
  refine l_y (Cls.gs _ _) (y_move rfl) rfl ?_
  refine l_y (Cls.gs _ _) ((y_conv Tryz.underlying79 Tryz.underlying2 rfl).lit (by kernel_rfl : _ = Value.int .i64 0)) rfl ?_
  refine l_y (Cls.gs _ _) (y_move rfl) rfl ?_
  refine l_y (Cls.gs _ _) (y_build pl153 ty153 .a (.c rfl (.c rfl .n)) (.c rfl (.o rfl) rfl rfl (.t .d) (.c rfl (.o rfl) rfl rfl (.s (.t .d)) .d))) rfl ?_
  refine l_n rfl (n_alloc ty153 .a rfl) (fun b1 _ => ?_)
  refine l_n rfl (n_store rfl rfl ty153 .a rfl rfl .z (.t (.t .d))) (fun _ _ => ?_)
  refine l_nil ?_
  refine e_then ?_
  refine CJ.weak (.c (t := 0) rfl (.c (t := 1) rfl (.c (t := 4) rfl (.c (t := 7) rfl .n)))) (fun _ h => h) ?_
  refine c_seq ?_
  refine c_seq ?_
  refine c_text ?_
  refine l_y (Cls.gs _ _) (y_move rfl) rfl ?_
  refine l_y (Cls.gs _ _) ((y_lss rfl rfl).lit (by kernel_rfl : _ = Value.bool false)) rfl ?_
  refine l_y (Cls.gs _ _) (y_move rfl) rfl ?_
  refine l_y (Cls.gs _ _) ((y_lss rfl rfl).lit (by kernel_rfl : _ = Value.bool true)) rfl ?_
  refine l_y (Cls.gs _ _) ((y_neb Tryz.underlying4 rfl rfl).lit (by kernel_rfl : _ = Value.bool true)) rfl ?_
  refine l_nil ?_
  refine e_then ?_
  refine CJ.weak (.c (t := 4) rfl (.c (t := 7) rfl (.c (t := 24) rfl .n))) (fun _ h => h) ?_
  refine c_true (by kernel_rfl) ?_
  refine c_seq ?_
  refine c_text ?_
  refine l_y (Cls.gs _ _) (y_load rfl (LoadAt.aggL .z ty153 (.t (.t .d)))) rfl ?_
  refine l_y (Cls.gs _ _) (y_call ent101 (.c rfl .n) (fun w hw => c101_0  w )) rfl ?_
  refine l_n rfl (n_store rfl rfl ty153 .a rfl rfl (.s .z) (.t (.t .d))) (fun _ _ => ?_)
  refine l_nil ?_
  refine e_then ?_
  refine CJ.weak (.c (t := 4) rfl .n) (fun _ h => h) ?_
  refine c_ret ?_
  refine e_then_ret ?_
  refine e_ret rfl (.c rfl (LoadAt.aggL (.s .z) ty153 (.t (.t .d))) .n) (fun wF hw => ?_)
  exact ⟨rfl, (hw.anc (w, []) (by simp)).below⟩

theorem c124_2 (w : World) : (callFunc 124 #[.int .u64 131071, .int .u64 1, .int .u64 0]).run Tryz.prog w = .ok (.value (.tuple #[.int .u64 131072, .int .u64 0])) w := by
  have h := add64_run 131071 1 0 (by decide) (by decide) (by decide) (by decide) (w := w)
  rw [show ((131071 : Int) + 1 + 0) % 18446744073709551616 = 131072 by kernel_rfl, show ((131071 : Int) + 1 + 0) / 18446744073709551616 = 0 by kernel_rfl] at h
  exact h

theorem c124_3 (w : World) : (callFunc 124 #[.int .u64 0, .int .u64 0, .int .u64 0]).run Tryz.prog w = .ok (.value (.tuple #[.int .u64 0, .int .u64 0])) w := by
  have h := add64_run 0 0 0 (by decide) (by decide) (by decide) (by decide) (w := w)
  rw [show ((0 : Int) + 0 + 0) % 18446744073709551616 = 0 by kernel_rfl, show ((0 : Int) + 0 + 0) / 18446744073709551616 = 0 by kernel_rfl] at h
  exact h

theorem c101_1 (w : World) : Calls Tryz.prog 101 #[.agg #[.int .i64 (-1), .int .u64 18446744073709420544]] w fun e w' => e = .returned (.agg #[.int .i64 0, .int .u64 131072]) ∧ Gr w w' := by
  refine enter Tryz.func101 rfl rfl rfl rfl (Cls.start w) ?_
  refine c_seq ?_
  refine c_text ?_
  refine l_n rfl (n_box rfl .a rfl) (fun b0 _ => ?_)
  refine l_n rfl (n_alloc ty153 .a rfl) (fun b1 _ => ?_)
  refine l_nil ?_
  refine e_then ?_
  refine CJ.weak (.c (t := 1) rfl (.c (t := 2) rfl .n)) (fun _ h => h) ?_
  refine c_seq ?_
  refine c_text ?_
  refine l_y (Cls.gs _ _) (y_fieldAddr rfl fa153_1) rfl ?_
  refine l_y (Cls.gs _ _) (y_load rfl (LoadAt.oneL (.s .z) ty79 (.s .z))) rfl ?_
  refine l_y (Cls.gs _ _) ((y_com rfl).lit (by kernel_rfl : _ = Value.int .u64 131071)) rfl ?_
  refine l_y (Cls.gs _ _) (y_callx (.c rfl (.c rfl (.c rfl .n))) (c124_2)) rfl ?_
  refine l_y (Cls.gs _ _) (y_move rfl) rfl ?_
  refine l_y (Cls.gs _ _) (y_extract rfl .z) rfl ?_
  refine l_y (Cls.gs _ _) (y_extract rfl (.s .z)) rfl ?_
  refine l_y (Cls.gs _ _) (y_assign rfl) rfl ?_
  refine l_y (Cls.gs _ _) (y_assign rfl) rfl ?_
  refine l_nil ?_
  refine e_then ?_
  refine CJ.weak (.c (t := 1) rfl (.c (t := 2) rfl (.c (t := 3) rfl (.c (t := 4) rfl .n)))) (fun _ h => h) ?_
  refine c_seq ?_
  refine c_text ?_
  refine l_y (Cls.gs _ _) (y_fieldAddr rfl fa153_0) rfl ?_
  refine l_y (Cls.gs _ _) (y_load rfl (LoadAt.oneL (.s .z) ty2 .z)) rfl ?_
  refine l_y (Cls.gs _ _) ((y_conv Tryz.underlying2 Tryz.underlying79 rfl).lit (by kernel_rfl : _ = Value.int .u64 18446744073709551615)) rfl ?_
  refine l_y (Cls.gs _ _) ((y_com rfl).lit (by kernel_rfl : _ = Value.int .u64 0)) rfl ?_
  refine l_y (Cls.gs _ _) (y_move rfl) rfl ?_
  refine l_y (Cls.gs _ _) (y_callx (.c rfl (.c rfl (.c rfl .n))) (c124_3)) rfl ?_
  refine l_y (Cls.gs _ _) (y_move rfl) rfl ?_
  refine l_y (Cls.gs _ _) (y_extract rfl .z) rfl ?_
  refine l_y (Cls.gs _ _) (y_extract rfl (.s .z)) rfl ?_
  refine l_y (Cls.gs _ _) (y_assign rfl) rfl ?_
  refine l_y (Cls.gs _ _) (y_assign rfl) rfl ?_
  refine l_nil ?_
  refine e_then ?_
  refine CJ.weak (.c (t := 2) rfl (.c (t := 3) rfl (.c (t := 5) rfl .n))) (fun _ h => h) ?_
  refine c_seq ?_
  refine c_text ?_
  refine l_y (Cls.gs _ _) (y_move rfl) rfl ?_
  refine l_y (Cls.gs _ _) ((y_conv Tryz.underlying79 Tryz.underlying2 rfl).lit (by kernel_rfl : _ = Value.int .i64 0)) rfl ?_
  refine l_y (Cls.gs _ _) (y_move rfl) rfl ?_
  refine l_y (Cls.gs _ _) (y_build pl153 ty153 .a (.c rfl (.c rfl .n)) (.c rfl (.o rfl) rfl rfl (.t .d) (.c rfl (.o rfl) rfl rfl (.s (.t .d)) .d))) rfl ?_
  refine l_n rfl (n_store rfl rfl ty153 .a rfl rfl .z (.t (.t .d))) (fun _ _ => ?_)
  refine l_nil ?_
  refine e_then ?_
  refine CJ.weak (.c (t := 2) rfl .n) (fun _ h => h) ?_
  refine c_ret ?_
  refine e_ret rfl (.c rfl (LoadAt.aggL .z ty153 (.t (.t .d))) .n) (fun wF hw => ?_)
  exact ⟨rfl, (hw.anc (w, []) (by simp)).below⟩

theorem c78_1 (w : World) : Calls Tryz.prog 78 #[.agg #[.int .i64 (-1), .int .u64 18446744073709420544], .int .i64 512] w fun e w' => e = .returned (.tuple #[.int .i64 (-256), .int .i64 0]) ∧ Gr w w' := by
  refine enter Tryz.func78 rfl rfl rfl rfl (Cls.start w) ?_
  refine c_seq ?_
  refine c_text ?_
  refine l_n rfl (n_box rfl .a rfl) (fun b0 _ => ?_)
  refine l_y (Cls.gs _ _) (y_assign rfl) rfl ?_
  refine l_y (Cls.gs _ _) (y_assign rfl) rfl ?_
  refine l_nil ?_
  refine e_then ?_
  refine CJ.weak (.c (t := 1) rfl (.c (t := 2) rfl .n)) (fun _ h => h) ?_
  refine c_seq ?_
  refine c_seq ?_
  refine c_text ?_
  refine l_y (Cls.gs _ _) (y_move rfl) rfl ?_
  refine l_y (Cls.gs _ _) ((y_lss rfl rfl).lit (by kernel_rfl : _ = Value.bool false)) rfl ?_
  refine l_nil ?_
  refine e_then ?_
  refine CJ.weak (.c (t := 1) rfl (.c (t := 2) rfl (.c (t := 11) rfl .n))) (fun _ h => h) ?_
  refine c_false (by kernel_rfl) ?_
  refine c_skip ?_
  refine e_then ?_
  refine CJ.weak (.c (t := 1) rfl (.c (t := 2) rfl .n)) (fun _ h => h) ?_
  refine c_seq ?_
  refine c_text ?_
  refine l_y (Cls.gs _ _) (y_load rfl (LoadAt.aggL .z ty153 (.t (.t .d)))) rfl ?_
  refine l_n rfl (n_alloc ty153 .a rfl) (fun b1 _ => ?_)
  refine l_n rfl (n_store rfl rfl ty153 .a rfl rfl .z (.t (.t .d))) (fun _ _ => ?_)
  refine l_nil ?_
  refine e_then ?_
  refine CJ.weak (.c (t := 1) rfl (.c (t := 2) rfl (.c (t := 6) rfl .n))) (fun _ h => h) ?_
  refine c_seq ?_
  refine c_seq ?_
  refine c_text ?_
  refine l_y (Cls.gs _ _) (y_fieldAddr rfl fa153_0) rfl ?_
  refine l_y (Cls.gs _ _) (y_load rfl (LoadAt.oneL (.s .z) ty2 .z)) rfl ?_
  refine l_y (Cls.gs _ _) ((y_lss rfl rfl).lit (by kernel_rfl : _ = Value.bool true)) rfl ?_
  refine l_nil ?_
  refine e_then ?_
  refine CJ.weak (.c (t := 1) rfl (.c (t := 2) rfl (.c (t := 6) rfl (.c (t := 15) rfl .n)))) (fun _ h => h) ?_
  refine c_true (by kernel_rfl) ?_
  refine c_text ?_
  refine l_y (Cls.gs _ _) (y_load rfl (LoadAt.aggL (.s .z) ty153 (.t (.t .d)))) rfl ?_
  refine l_y (Cls.gs _ _) (y_call ent101 (.c rfl .n) (fun w hw => c101_1  w )) rfl ?_
  refine l_n rfl (n_store rfl rfl ty153 .a rfl rfl .z (.t (.t .d))) (fun _ _ => ?_)
  refine l_nil ?_
  refine e_then ?_
  refine CJ.weak (.c (t := 1) rfl (.c (t := 2) rfl (.c (t := 6) rfl .n))) (fun _ h => h) ?_
  refine c_seq ?_
  refine c_seq ?_
  refine c_text ?_
  refine l_y (Cls.gs _ _) (y_fieldAddr rfl fa153_0) rfl ?_
  refine l_y (Cls.gs _ _) (y_load rfl (LoadAt.oneL .z ty2 .z)) rfl ?_
  refine l_y (Cls.gs _ _) ((y_conv Tryz.underlying2 Tryz.underlying79 rfl).lit (by kernel_rfl : _ = Value.int .u64 0)) rfl ?_
  refine l_y (Cls.gs _ _) (y_move rfl) rfl ?_
  refine l_y (Cls.gs _ _) ((y_conv Tryz.underlying2 Tryz.underlying79 rfl).lit (by kernel_rfl : _ = Value.int .u64 512)) rfl ?_
  refine l_y (Cls.gs _ _) ((y_geq rfl rfl).lit (by kernel_rfl : _ = Value.bool false)) rfl ?_
  refine l_nil ?_
  refine e_then ?_
  refine CJ.weak (.c (t := 1) rfl (.c (t := 2) rfl (.c (t := 6) rfl (.c (t := 23) rfl .n)))) (fun _ h => h) ?_
  refine c_false (by kernel_rfl) ?_
  refine c_skip ?_
  refine e_then ?_
  refine CJ.weak (.c (t := 1) rfl (.c (t := 2) rfl (.c (t := 6) rfl .n))) (fun _ h => h) ?_
  refine c_seq ?_
  refine c_text ?_
  refine l_y (Cls.gs _ _) (y_fieldAddr rfl fa153_0) rfl ?_
  refine l_y (Cls.gs _ _) (y_load rfl (LoadAt.oneL .z ty2 .z)) rfl ?_
  refine l_y (Cls.gs _ _) ((y_conv Tryz.underlying2 Tryz.underlying79 rfl).lit (by kernel_rfl : _ = Value.int .u64 0)) rfl ?_
  refine l_y (Cls.gs _ _) (y_fieldAddr rfl fa153_1) rfl ?_
  refine l_y (Cls.gs _ _) (y_load rfl (LoadAt.oneL .z ty79 (.s .z))) rfl ?_
  refine l_y (Cls.gs _ _) (y_move rfl) rfl ?_
  refine l_y (Cls.gs _ _) ((y_conv Tryz.underlying2 Tryz.underlying79 rfl).lit (by kernel_rfl : _ = Value.int .u64 512)) rfl ?_
  refine l_y (Cls.gs _ _) (y_call ent102 (.c rfl (.c rfl (.c rfl .n))) (fun w hw => c102_0  w )) rfl ?_
  refine l_y (Cls.gs _ _) (y_move rfl) rfl ?_
  refine l_y (Cls.gs _ _) (y_extract rfl .z) rfl ?_
  refine l_y (Cls.gs _ _) (y_extract rfl (.s .z)) rfl ?_
  refine l_y (Cls.gs _ _) (y_assign rfl) rfl ?_
  refine l_y (Cls.gs _ _) (y_assign rfl) rfl ?_
  refine l_nil ?_
  refine e_then ?_
  refine CJ.weak (.c (t := 2) rfl (.c (t := 7) rfl (.c (t := 8) rfl .n))) (fun _ h => h) ?_
  refine c_seq ?_
  refine c_text ?_
  refine l_y (Cls.gs _ _) (y_assign rfl) rfl ?_
  refine l_nil ?_
  refine e_then ?_
  refine c_seq ?_
  refine c_seq ?_
  refine c_text ?_
  refine l_y (Cls.gs _ _) (y_fieldAddr rfl fa153_0) rfl ?_
  refine l_y (Cls.gs _ _) (y_load rfl (LoadAt.oneL (.s .z) ty2 .z)) rfl ?_
  refine l_y (Cls.gs _ _) ((y_lss rfl rfl).lit (by kernel_rfl : _ = Value.bool true)) rfl ?_
  refine l_nil ?_
  refine e_then ?_
  refine CJ.weak (.c (t := 2) rfl (.c (t := 7) rfl (.c (t := 8) rfl (.c (t := 9) rfl (.c (t := 37) rfl .n))))) (fun _ h => h) ?_
  refine c_true (by kernel_rfl) ?_
  refine c_seq ?_
  refine c_text ?_
  refine l_y (Cls.gs _ _) (y_assign rfl) rfl ?_
  refine l_nil ?_
  refine e_then ?_
  refine CJ.weak (.c (t := 2) rfl (.c (t := 7) rfl (.c (t := 8) rfl (.c (t := 9) rfl .n)))) (fun _ h => h) ?_
  refine c_seq ?_
  refine c_text ?_
  refine l_y (Cls.gs _ _) (y_move rfl) rfl ?_
  refine l_y (Cls.gs _ _) ((y_gtr rfl rfl).lit (by kernel_rfl : _ = Value.bool false)) rfl ?_
  refine l_nil ?_
  refine e_then ?_
  refine CJ.weak (.c (t := 2) rfl (.c (t := 7) rfl (.c (t := 8) rfl (.c (t := 9) rfl (.c (t := 39) rfl .n))))) (fun _ h => h) ?_
  refine c_false (by kernel_rfl) ?_
  refine c_skip ?_
  refine e_then ?_
  refine CJ.weak (.c (t := 2) rfl (.c (t := 7) rfl (.c (t := 8) rfl (.c (t := 9) rfl .n)))) (fun _ h => h) ?_
  refine c_seq ?_
  refine c_seq ?_
  refine c_text ?_
  refine l_y (Cls.gs _ _) (y_move rfl) rfl ?_
  refine l_y (Cls.gs _ _) (y_move rfl) rfl ?_
  refine l_y (Cls.gs _ _) ((y_gtr rfl rfl).lit (by kernel_rfl : _ = Value.bool false)) rfl ?_
  refine l_nil ?_
  refine e_then ?_
  refine CJ.weak (.c (t := 2) rfl (.c (t := 7) rfl (.c (t := 8) rfl (.c (t := 44) rfl .n)))) (fun _ h => h) ?_
  refine c_false (by kernel_rfl) ?_
  refine c_skip ?_
  refine e_then ?_
  refine CJ.weak (.c (t := 2) rfl (.c (t := 7) rfl (.c (t := 8) rfl .n))) (fun _ h => h) ?_
  refine c_seq ?_
  refine c_block ?_
  refine c_seq ?_
  refine c_text ?_
  refine l_y (Cls.gs _ _) (y_fieldAddr rfl fa153_0) rfl ?_
  refine l_y (Cls.gs _ _) (y_load rfl (LoadAt.oneL (.s .z) ty2 .z)) rfl ?_
  refine l_y (Cls.gs _ _) ((y_geq rfl rfl).lit (by kernel_rfl : _ = Value.bool false)) rfl ?_
  refine l_y (Cls.gs _ _) (y_assign rfl) rfl ?_
  refine l_nil ?_
  refine e_then ?_
  refine CJ.weak (.c (t := 7) rfl (.c (t := 8) rfl (.c (t := 45) rfl .n))) (fun _ h => h) ?_
  refine c_false (by kernel_rfl) ?_
  refine c_seq ?_
  refine c_text ?_
  refine l_y (Cls.gs _ _) (y_move rfl) rfl ?_
  refine l_y (Cls.gs _ _) ((y_gtr rfl rfl).lit (by kernel_rfl : _ = Value.bool false)) rfl ?_
  refine l_y (Cls.gs _ _) (y_assign rfl) rfl ?_
  refine l_nil ?_
  refine e_then ?_
  refine CJ.weak (.c (t := 7) rfl (.c (t := 51) rfl .n)) (fun _ h => h) ?_
  refine c_false (by kernel_rfl) ?_
  refine c_skip ?_
  refine e_block ?_
  refine e_then ?_
  refine CJ.weak (.c (t := 7) rfl .n) (fun _ h => h) ?_
  refine c_seq ?_
  refine c_text ?_
  refine l_y (Cls.gs _ _) (y_move rfl) rfl ?_
  refine l_y (Cls.gs _ _) ((y_neg rfl).lit (by kernel_rfl : _ = Value.int .u64 18446744073709551360)) rfl ?_
  refine l_y (Cls.gs _ _) ((y_conv Tryz.underlying79 Tryz.underlying2 rfl).lit (by kernel_rfl : _ = Value.int .i64 (-256))) rfl ?_
  refine l_y (Cls.gs _ _) (y_assign rfl) rfl ?_
  refine l_y (Cls.gs _ _) (y_assign rfl) rfl ?_
  refine l_nil ?_
  refine e_then ?_
  refine CJ.weak (.c (t := 4) rfl (.c (t := 5) rfl .n)) (fun _ h => h) ?_
  refine c_ret ?_
  refine e_ret rfl (.t rfl (.t rfl .n)) (fun wF hw => ?_)
  exact ⟨rfl, (hw.anc (w, []) (by simp)).below⟩

theorem c54_1 (w : World) : Calls Tryz.prog 54 #[.int .i64 131072, .int .i64 (-1), .int .i64 512] w fun e w' => e = .returned (.tuple #[.int .i64 (-256), .int .i64 0]) ∧ Gr w w' := by
  refine enter Tryz.func54 rfl rfl rfl rfl (Cls.start w) ?_
  refine c_seq ?_
  refine c_text ?_
  refine l_y (Cls.gs _ _) (y_assign rfl) rfl ?_
  refine l_y (Cls.gs _ _) (y_assign rfl) rfl ?_
  refine l_nil ?_
  refine e_then ?_
  refine CJ.weak (.c (t := 0) rfl (.c (t := 1) rfl (.c (t := 2) rfl .n))) (fun _ h => h) ?_
  refine c_seq ?_
  refine c_text ?_
  refine l_y (Cls.gs _ _) (y_move rfl) rfl ?_
  refine l_y (Cls.gs _ _) (y_move rfl) rfl ?_
  refine l_y (Cls.gs _ _) (y_call ent77 (.c rfl (.c rfl .n)) (fun w hw => c77_1  w )) rfl ?_
  refine l_y (Cls.gs _ _) (y_move rfl) rfl ?_
  refine l_y (Cls.gs _ _) (y_call ent78 (.c rfl (.c rfl .n)) (fun w hw => c78_1  w )) rfl ?_
  refine l_y (Cls.gs _ _) (y_extract rfl .z) rfl ?_
  refine l_y (Cls.gs _ _) (y_extract rfl (.s .z)) rfl ?_
  refine l_y (Cls.gs _ _) (y_assign rfl) rfl ?_
  refine l_y (Cls.gs _ _) (y_assign rfl) rfl ?_
  refine l_nil ?_
  refine e_then ?_
  refine CJ.weak (.c (t := 6) rfl (.c (t := 7) rfl .n)) (fun _ h => h) ?_
  refine c_ret ?_
  refine e_ret rfl (.t rfl (.t rfl .n)) (fun wF hw => ?_)
  exact ⟨rfl, (hw.anc (w, []) (by simp)).below⟩

theorem c17_0 (w : World) : Calls Tryz.prog 17 #[.agg #[.int .i64 1, .int .i64 0, .int .i64 0, .int .i64 0], .int .i64 32, .int .i64 32, .agg #[.int .i64 1, .int .i64 (-1), .int .i64 512]] w fun e w' => e = .returned (.tuple #[.agg #[.int .i64 4352, .int .i64 3840], .int .i64 0]) ∧ Gr w w' := by
  refine enter Tryz.func17 rfl rfl rfl rfl (Cls.start w) ?_
  refine c_seq ?_
  refine c_text ?_
  refine l_n rfl (n_box rfl .a rfl) (fun b0 _ => ?_)
  refine l_n rfl (n_box rfl .a rfl) (fun b1 _ => ?_)
  refine l_n rfl (n_alloc ty60 .a rfl) (fun b2 _ => ?_)
  refine l_y (Cls.gs _ _) (y_assign rfl) rfl ?_
  refine l_nil ?_
  refine e_then ?_
  refine CJ.weak (.c (t := 1) rfl (.c (t := 2) rfl (.c (t := 4) rfl (.c (t := 7) rfl (.c (t := 8) rfl .n))))) (fun _ h => h) ?_
  refine c_seq ?_
  refine c_seq ?_
  refine c_draw (m := 10) (S0 := fun _ => True) (fun _ => false) (fun _ _ => trivial) hmix (Cls.gs _ _) rfl ?_
  refine a_y (i := 0) (Cls.gs _ _) (by kernel_rfl) rfl (by kernel_rfl) (by kernel_rfl) (y_load rfl (LoadAt.aggL (.s (.s .z)) ty64 (.t (.t (.t (.t .d)))))) rfl ?_
  refine a_y (i := 1) (Cls.gs _ _) (by kernel_rfl) rfl (by kernel_rfl) (by kernel_rfl) (y_call ent50 (.c rfl .n) (fun w hw => c50_0  w )) rfl ?_
  refine a_y (i := 2) (Cls.gs _ _) (by kernel_rfl) rfl (by kernel_rfl) (by kernel_rfl) (y_move rfl) rfl ?_
  refine a_y (i := 3) (Cls.gs _ _) (by kernel_rfl) rfl (by kernel_rfl) (by kernel_rfl) (y_move rfl) rfl ?_
  refine a_y (i := 4) (Cls.gs _ _) (by kernel_rfl) rfl (by kernel_rfl) (by kernel_rfl) (y_call ent51 (.c rfl (.c rfl .n)) (fun w hw => c51_0  w )) rfl ?_
  refine a_y (i := 5) (Cls.gs _ _) (by kernel_rfl) rfl (by kernel_rfl) (by kernel_rfl) (y_load rfl (LoadAt.aggL (.s .z) ty66 (.t (.t (.t .d))))) rfl ?_
  refine a_y (i := 6) (Cls.gs _ _) (by kernel_rfl) rfl (by kernel_rfl) (by kernel_rfl) (y_call ent52 (.c rfl .n) (fun w hw => c52_0  w )) rfl ?_
  refine a_n (i := 7) rfl rfl (by kernel_rfl) (fun _ => Cls.gs _ _) (.inr fun _ _ h => h.tail) (n_buildSlice (l := [.int .i64 0, .int .i64 0, .int .i64 0]) Tryz.underlying73 ty37 (.o rfl) rfl (by simp) (by kernel_rfl) (.c rfl (.c rfl (.c rfl .n))) (.c rfl (.o rfl) rfl rfl (.t .d) (.c rfl (.o rfl) rfl rfl (.s (.t .d)) (.c rfl (.o rfl) rfl rfl (.s (.s (.t .d))) .d))) rfl) (fun b3 _ => ?_)
  refine a_y (i := 8) (Cls.gs _ _) (by kernel_rfl) rfl (by kernel_rfl) (by kernel_rfl) (y_call ent49 (.c rfl .n) (fun w hw => or49z3 _ w (hw.locM .z))) rfl ?_
  refine a_y (i := 9) (Cls.gs _ _) (by kernel_rfl) rfl (by kernel_rfl) (by kernel_rfl) (y_assign rfl) rfl ?_
  refine a_done (by kernel_rfl) ?_
  refine e_then ?_
  refine CJ.weak (.c (t := 1) rfl (.c (t := 2) rfl (.c (t := 4) rfl (.c (t := 7) rfl (.c (t := 8) rfl (.c (t := 10) rfl .n)))))) (fun _ h => h) ?_
  refine c_seq ?_
  refine c_text ?_
  refine l_y (Cls.gs _ _) (y_move rfl) rfl ?_
  refine l_y (Cls.gs _ _) ((y_neq rfl rfl).lit (by kernel_rfl : _ = Value.bool false)) rfl ?_
  refine l_nil ?_
  refine e_then ?_
  refine CJ.weak (.c (t := 1) rfl (.c (t := 2) rfl (.c (t := 4) rfl (.c (t := 7) rfl (.c (t := 8) rfl (.c (t := 10) rfl (.c (t := 26) rfl .n))))))) (fun _ h => h) ?_
  refine c_false (by kernel_rfl) ?_
  refine c_skip ?_
  refine e_then ?_
  refine CJ.weak (.c (t := 1) rfl (.c (t := 2) rfl (.c (t := 4) rfl (.c (t := 7) rfl (.c (t := 8) rfl .n))))) (fun _ h => h) ?_
  refine c_seq ?_
  refine c_text ?_
  refine l_y (Cls.gs _ _) (y_load rfl (LoadAt.aggL (.s (.s (.s .z))) ty64 (.t (.t (.t (.t .d)))))) rfl ?_
  refine l_y (Cls.gs _ _) (y_load rfl (LoadAt.aggL (.s (.s .z)) ty66 (.t (.t (.t .d))))) rfl ?_
  refine l_y (Cls.gs _ _) (y_call ent53 (.c rfl (.c rfl .n)) (fun w hw => c53_0  w )) rfl ?_
  refine l_n rfl (n_alloc ty66 .a rfl) (fun b4 _ => ?_)
  refine l_n rfl (n_store rfl rfl ty66 .a rfl rfl .z (.t (.t (.t .d)))) (fun _ _ => ?_)
  refine l_nil ?_
  refine e_then ?_
  refine CJ.weak (.c (t := 1) rfl (.c (t := 2) rfl (.c (t := 8) rfl (.c (t := 11) rfl .n)))) (fun _ h => h) ?_
  refine c_seq ?_
  refine c_seq ?_
  refine c_text ?_
  refine l_y (Cls.gs _ _) (y_fieldAddr rfl fa66_2) rfl ?_
  refine l_y (Cls.gs _ _) (y_load rfl (LoadAt.oneL .z ty2 (.s (.s .z)))) rfl ?_
  refine l_y (Cls.gs _ _) ((y_leq rfl rfl).lit (by kernel_rfl : _ = Value.bool false)) rfl ?_
  refine l_nil ?_
  refine e_then ?_
  refine CJ.weak (.c (t := 1) rfl (.c (t := 2) rfl (.c (t := 8) rfl (.c (t := 11) rfl (.c (t := 34) rfl .n))))) (fun _ h => h) ?_
  refine c_false (by kernel_rfl) ?_
  refine c_skip ?_
  refine e_then ?_
  refine CJ.weak (.c (t := 1) rfl (.c (t := 2) rfl (.c (t := 8) rfl (.c (t := 11) rfl .n)))) (fun _ h => h) ?_
  refine c_seq ?_
  refine c_text ?_
  refine l_y (Cls.gs _ _) (y_fieldAddr rfl fa66_0) rfl ?_
  refine l_y (Cls.gs _ _) (y_load rfl (LoadAt.oneL .z ty2 .z)) rfl ?_
  refine l_y (Cls.gs _ _) (y_fieldAddr rfl fa66_2) rfl ?_
  refine l_y (Cls.gs _ _) (y_load rfl (LoadAt.oneL .z ty2 (.s (.s .z)))) rfl ?_
  refine l_y (Cls.gs _ _) (y_call ent54 (.c rfl (.c rfl (.c rfl .n))) (fun w hw => c54_0  w )) rfl ?_
  refine l_y (Cls.gs _ _) (y_move rfl) rfl ?_
  refine l_y (Cls.gs _ _) (y_extract rfl .z) rfl ?_
  refine l_y (Cls.gs _ _) (y_extract rfl (.s .z)) rfl ?_
  refine l_y (Cls.gs _ _) (y_assign rfl) rfl ?_
  refine l_y (Cls.gs _ _) (y_assign rfl) rfl ?_
  refine l_nil ?_
  refine e_then ?_
  refine CJ.weak (.c (t := 1) rfl (.c (t := 2) rfl (.c (t := 8) rfl (.c (t := 11) rfl (.c (t := 12) rfl .n))))) (fun _ h => h) ?_
  refine c_seq ?_
  refine c_text ?_
  refine l_y (Cls.gs _ _) (y_fieldAddr rfl fa66_1) rfl ?_
  refine l_y (Cls.gs _ _) (y_load rfl (LoadAt.oneL .z ty2 (.s .z))) rfl ?_
  refine l_y (Cls.gs _ _) (y_fieldAddr rfl fa66_2) rfl ?_
  refine l_y (Cls.gs _ _) (y_load rfl (LoadAt.oneL .z ty2 (.s (.s .z)))) rfl ?_
  refine l_y (Cls.gs _ _) (y_call ent54 (.c rfl (.c rfl (.c rfl .n))) (fun w hw => c54_1  w )) rfl ?_
  refine l_y (Cls.gs _ _) (y_move rfl) rfl ?_
  refine l_y (Cls.gs _ _) (y_extract rfl .z) rfl ?_
  refine l_y (Cls.gs _ _) (y_extract rfl (.s .z)) rfl ?_
  refine l_y (Cls.gs _ _) (y_assign rfl) rfl ?_
  refine l_y (Cls.gs _ _) (y_assign rfl) rfl ?_
  refine l_nil ?_
  refine e_then ?_
  refine CJ.weak (.c (t := 1) rfl (.c (t := 2) rfl (.c (t := 8) rfl (.c (t := 12) rfl (.c (t := 14) rfl .n))))) (fun _ h => h) ?_
  refine c_seq ?_
  refine c_text ?_
  refine l_y (Cls.gs _ _) (y_move rfl) rfl ?_
  refine l_y (Cls.gs _ _) (y_move rfl) rfl ?_
  refine l_y (Cls.gs _ _) ((y_mul rfl rfl).lit (by kernel_rfl : _ = Value.int .i64 4096)) rfl ?_
  refine l_y (Cls.gs _ _) ((y_add rfl rfl).lit (by kernel_rfl : _ = Value.int .i64 4352)) rfl ?_
  refine l_y (Cls.gs _ _) (y_move rfl) rfl ?_
  refine l_y (Cls.gs _ _) (y_move rfl) rfl ?_
  refine l_y (Cls.gs _ _) ((y_mul rfl rfl).lit (by kernel_rfl : _ = Value.int .i64 4096)) rfl ?_
  refine l_y (Cls.gs _ _) ((y_add rfl rfl).lit (by kernel_rfl : _ = Value.int .i64 3840)) rfl ?_
  refine l_y (Cls.gs _ _) (y_assign rfl) rfl ?_
  refine l_y (Cls.gs _ _) (y_assign rfl) rfl ?_
  refine l_nil ?_
  refine e_then ?_
  refine CJ.weak (.c (t := 8) rfl (.c (t := 12) rfl (.c (t := 14) rfl .n))) (fun _ h => h) ?_
  refine c_seq ?_
  refine c_seq ?_
  refine c_text ?_
  refine l_y (Cls.gs _ _) (y_move rfl) rfl ?_
  refine l_y (Cls.gs _ _) (y_move rfl) rfl ?_
  refine l_y (Cls.gs _ _) ((y_max2 rfl rfl).lit (by kernel_rfl : _ = Value.int .i64 4352)) rfl ?_
  refine l_y (Cls.gs _ _) ((y_gtr rfl rfl).lit (by kernel_rfl : _ = Value.bool false)) rfl ?_
  refine l_y (Cls.gs _ _) (y_move rfl) rfl ?_
  refine l_g (s := 64) (Cls.gs _ _) (by kernel_rfl) rfl (beq_f _) (fun hg => y_move rfl) rfl ?_
  refine l_g (s := 64) (Cls.gs _ _) (by kernel_rfl) rfl (beq_f _) (fun hg => y_move rfl) rfl ?_
  refine l_g (s := 64) (Cls.gs _ _) (by kernel_rfl) rfl (beq_f _) (fun hg => (y_min2 (gvt hg rfl) (gvt hg rfl)).lit (by kernel_rfl : _ = Value.int .i64 3840)) rfl ?_
  refine l_g (s := 64) (Cls.gs _ _) (by kernel_rfl) rfl (beq_f _) (fun hg => (y_lss (gvt hg rfl) rfl).lit (by kernel_rfl : _ = Value.bool false)) rfl ?_
  refine l_y (Cls.gs _ _) ((y_or rfl rfl rfl).lit (by kernel_rfl : _ = Value.bool false)) rfl ?_
  refine l_nil ?_
  refine e_then ?_
  refine CJ.weak (.c (t := 8) rfl (.c (t := 12) rfl (.c (t := 14) rfl (.c (t := 69) rfl .n)))) (fun _ h => h) ?_
  refine c_false (by kernel_rfl) ?_
  refine c_skip ?_
  refine e_then ?_
  refine CJ.weak (.c (t := 8) rfl (.c (t := 12) rfl (.c (t := 14) rfl .n))) (fun _ h => h) ?_
  refine c_seq ?_
  refine c_text ?_
  refine l_y (Cls.gs _ _) (y_move rfl) rfl ?_
  refine l_y (Cls.gs _ _) (y_move rfl) rfl ?_
  refine l_y (Cls.gs _ _) (y_build pl60 ty60 .a (.c rfl (.c rfl .n)) (.c rfl (.o rfl) rfl rfl (.t .d) (.c rfl (.o rfl) rfl rfl (.s (.t .d)) .d))) rfl ?_
  refine l_n rfl (n_store rfl rfl ty60 .a rfl rfl (.s (.s .z)) (.t (.t .d))) (fun _ _ => ?_)
  refine l_y (Cls.gs _ _) (y_assign rfl) rfl ?_
  refine l_nil ?_
  refine e_then ?_
  refine CJ.weak (.c (t := 8) rfl (.c (t := 9) rfl .n)) (fun _ h => h) ?_
  refine c_ret ?_
  refine e_ret rfl (.c rfl (LoadAt.aggL (.s (.s .z)) ty60 (.t (.t .d))) (.t rfl .n)) (fun wF hw => ?_)
  exact ⟨rfl, (hw.anc (w, []) (by simp)).below⟩

theorem c52_1 (w : World) : Calls Tryz.prog 52 #[.agg #[.int .i64 3, .int .i64 (-1), .int .i64 2]] w fun e w' => e = .returned (.int .i64 0) ∧ Gr w w' := by
  refine enter Tryz.func52 rfl rfl rfl rfl (Cls.start w) ?_
  refine c_seq ?_
  refine c_text ?_
  refine l_n rfl (n_box rfl .a rfl) (fun b0 _ => ?_)
  refine l_y (Cls.gs _ _) (y_assign rfl) rfl ?_
  refine l_nil ?_
  refine e_then ?_
  refine CJ.weak (.c (t := 1) rfl .n) (fun _ h => h) ?_
  refine c_seq ?_
  refine c_block ?_
  refine c_seq ?_
  refine c_text ?_
  refine l_y (Cls.gs _ _) (y_fieldAddr rfl fa66_0) rfl ?_
  refine l_y (Cls.gs _ _) (y_load rfl (LoadAt.oneL .z ty2 .z)) rfl ?_
  refine l_y (Cls.gs _ _) (y_fieldAddr rfl fa66_1) rfl ?_
  refine l_y (Cls.gs _ _) (y_load rfl (LoadAt.oneL .z ty2 (.s .z))) rfl ?_
  refine l_y (Cls.gs _ _) (y_fieldAddr rfl fa66_2) rfl ?_
  refine l_y (Cls.gs _ _) (y_load rfl (LoadAt.oneL .z ty2 (.s (.s .z)))) rfl ?_
  refine l_y (Cls.gs _ _) ((y_max3 rfl rfl rfl).lit (by kernel_rfl : _ = Value.int .i64 3)) rfl ?_
  refine l_y (Cls.gs _ _) ((y_gtr rfl rfl).lit (by kernel_rfl : _ = Value.bool false)) rfl ?_
  refine l_y (Cls.gs _ _) (y_move rfl) rfl ?_
  refine l_g (s := 12) (Cls.gs _ _) (by kernel_rfl) rfl (beq_f _) (fun hg => y_fieldAddr rfl fa66_0) rfl ?_
  refine l_g (s := 12) (Cls.gs _ _) (by kernel_rfl) rfl (beq_f _) (fun hg => y_load (gvt hg rfl) (LoadAt.oneL .z ty2 .z)) rfl ?_
  refine l_g (s := 12) (Cls.gs _ _) (by kernel_rfl) rfl (beq_f _) (fun hg => y_fieldAddr rfl fa66_1) rfl ?_
  refine l_g (s := 12) (Cls.gs _ _) (by kernel_rfl) rfl (beq_f _) (fun hg => y_load (gvt hg rfl) (LoadAt.oneL .z ty2 (.s .z))) rfl ?_
  refine l_g (s := 12) (Cls.gs _ _) (by kernel_rfl) rfl (beq_f _) (fun hg => y_fieldAddr rfl fa66_2) rfl ?_
  refine l_g (s := 12) (Cls.gs _ _) (by kernel_rfl) rfl (beq_f _) (fun hg => y_load (gvt hg rfl) (LoadAt.oneL .z ty2 (.s (.s .z)))) rfl ?_
  refine l_g (s := 12) (Cls.gs _ _) (by kernel_rfl) rfl (beq_f _) (fun hg => (y_min3 (gvt hg rfl) (gvt hg rfl) (gvt hg rfl)).lit (by kernel_rfl : _ = Value.int .i64 (-1))) rfl ?_
  refine l_g (s := 12) (Cls.gs _ _) (by kernel_rfl) rfl (beq_f _) (fun hg => (y_lss (gvt hg rfl) rfl).lit (by kernel_rfl : _ = Value.bool false)) rfl ?_
  refine l_y (Cls.gs _ _) ((y_or rfl rfl rfl).lit (by kernel_rfl : _ = Value.bool false)) rfl ?_
  refine l_y (Cls.gs _ _) (y_assign rfl) rfl ?_
  refine l_nil ?_
  refine e_then ?_
  refine CJ.weak (.c (t := 1) rfl (.c (t := 3) rfl .n)) (fun _ h => h) ?_
  refine c_false (by kernel_rfl) ?_
  refine c_seq ?_
  refine c_text ?_
  refine l_y (Cls.gs _ _) (y_load rfl (LoadAt.aggL .z ty66 (.t (.t (.t .d))))) rfl ?_
  refine l_y (Cls.gs _ _) (y_build pl66 ty66 .a .n .d) rfl ?_
  refine l_y (Cls.gs _ _) ((y_eqA Tryz.underlying66 (by kernel_rfl) (by kernel_rfl) rfl rfl (.one rfl ty2 .z .z (.int Tryz.underlying2) (.one rfl ty2 (.s .z) (.s .z) (.int Tryz.underlying2) (.one rfl ty2 (.s (.s .z)) (.s (.s .z)) (.int Tryz.underlying2) .nil)))).lit (by kernel_rfl : _ = Value.bool false)) rfl ?_
  refine l_y (Cls.gs _ _) (y_assign rfl) rfl ?_
  refine l_nil ?_
  refine e_then ?_
  refine CJ.weak (.c (t := 22) rfl .n) (fun _ h => h) ?_
  refine c_false (by kernel_rfl) ?_
  refine c_skip ?_
  refine e_block ?_
  refine e_then ?_
  refine CJ.weak .n (fun _ h => h) ?_
  refine c_seq ?_
  refine c_text ?_
  refine l_y (Cls.gs _ _) (y_assign rfl) rfl ?_
  refine l_nil ?_
  refine e_then ?_
  refine c_ret ?_
  refine e_ret rfl (.t rfl .n) (fun wF hw => ?_)
  exact ⟨rfl, (hw.anc (w, []) (by simp)).below⟩

theorem c56_0 (w : World) : Calls Tryz.prog 56 #[.agg #[.int .i64 3, .int .i64 (-1), .int .i64 2]] w fun e w' => e = .returned (.agg #[.int .i64 3, .int .i64 (-1), .int .i64 2]) ∧ Gr w w' := by
  refine enter Tryz.func56 rfl rfl rfl rfl (Cls.start w) ?_
  refine c_seq ?_
  refine c_text ?_
  refine l_n rfl (n_box rfl .a rfl) (fun b0 _ => ?_)
  refine l_n rfl (n_alloc ty120 .a rfl) (fun b1 _ => ?_)
  refine l_nil ?_
  refine e_then ?_
  refine CJ.weak (.c (t := 1) rfl (.c (t := 2) rfl .n)) (fun _ h => h) ?_
  refine c_seq ?_
  refine c_text ?_
  refine l_y (Cls.gs _ _) (y_fieldAddr rfl fa66_0) rfl ?_
  refine l_y (Cls.gs _ _) (y_load rfl (LoadAt.oneL (.s .z) ty2 .z)) rfl ?_
  refine l_y (Cls.gs _ _) (y_fieldAddr rfl fa66_1) rfl ?_
  refine l_y (Cls.gs _ _) (y_load rfl (LoadAt.oneL (.s .z) ty2 (.s .z))) rfl ?_
  refine l_y (Cls.gs _ _) (y_fieldAddr rfl fa66_2) rfl ?_
  refine l_y (Cls.gs _ _) (y_load rfl (LoadAt.oneL (.s .z) ty2 (.s (.s .z)))) rfl ?_
  refine l_y (Cls.gs _ _) (y_buildArr Tryz.underlying120 ty2 ty120 .a (.c rfl (.c rfl (.c rfl .n))) (.c rfl (.o rfl) rfl rfl (.t .d) (.c rfl (.o rfl) rfl rfl (.s (.t .d)) (.c rfl (.o rfl) rfl rfl (.s (.s (.t .d))) .d)))) rfl ?_
  refine l_n rfl (n_store rfl rfl ty120 .a rfl rfl .z (.t (.t (.t .d)))) (fun _ _ => ?_)
  refine l_nil ?_
  refine e_then ?_
  refine CJ.weak (.c (t := 2) rfl .n) (fun _ h => h) ?_
  refine c_ret ?_
  refine e_ret rfl (.c rfl (LoadAt.aggL .z ty120 (.t (.t (.t .d)))) .n) (fun wF hw => ?_)
  exact ⟨rfl, (hw.anc (w, []) (by simp)).below⟩

theorem c55_0 (w : World) : Calls Tryz.prog 55 #[.agg #[.int .i64 3, .int .i64 (-1), .int .i64 2]] w fun e w' => e = .returned (.int .i64 0) ∧ Gr w w' := by
  refine enter Tryz.func55 rfl rfl rfl rfl (Cls.start w) ?_
  refine c_seq ?_
  refine c_text ?_
  refine l_n rfl (n_box rfl .a rfl) (fun b0 _ => ?_)
  refine l_y (Cls.gs _ _) (y_assign rfl) rfl ?_
  refine l_nil ?_
  refine e_then ?_
  refine CJ.weak (.c (t := 1) rfl .n) (fun _ h => h) ?_
  refine c_seq ?_
  refine c_text ?_
  refine l_y (Cls.gs _ _) (y_load rfl (LoadAt.aggL .z ty66 (.t (.t (.t .d))))) rfl ?_
  refine l_y (Cls.gs _ _) (y_call ent56 (.c rfl .n) (fun w hw => c56_0  w )) rfl ?_
  refine l_n rfl (n_alloc ty120 .a rfl) (fun b1 _ => ?_)
  refine l_n rfl (n_store rfl rfl ty120 .a rfl rfl .z (.t (.t (.t .d)))) (fun _ _ => ?_)
  refine l_nil ?_
  refine e_then ?_
  refine CJ.weak (.c (t := 3) rfl .n) (fun _ h => h) ?_
  refine c_seq ?_
  refine c_text ?_
  refine l_y (Cls.gs _ _) (y_assign rfl) rfl ?_
  refine l_nil ?_
  refine e_then ?_
  refine c_seq ?_
  refine c_seq ?_
  refine c_text ?_
  refine l_y (Cls.gs _ _) (y_move rfl) rfl ?_
  refine l_nil ?_
  refine e_then ?_
  refine c_block ?_
  refine c_rounds 80 ?_
  refine r_succ ?_
  refine c_seq ?_
  refine c_text ?_
  refine l_y (Cls.gs _ _) ((y_lss rfl rfl).lit (by kernel_rfl : _ = Value.bool true)) rfl ?_
  refine l_nil ?_
  refine e_then ?_
  refine c_seq ?_
  refine c_true (by kernel_rfl) ?_
  refine c_skip ?_
  refine e_then ?_
  refine CJ.weak (.c (t := 3) rfl (.c (t := 4) rfl (.c (t := 8) rfl .n))) (fun _ h => h) ?_
  refine c_seq ?_
  refine c_block ?_
  refine c_seq ?_
  refine c_text ?_
  refine l_y (Cls.gs _ _) (y_move rfl) rfl ?_
  refine l_y (Cls.gs _ _) (y_assign rfl) rfl ?_
  refine l_nil ?_
  refine e_then ?_
  refine CJ.weak (.c (t := 3) rfl (.c (t := 4) rfl (.c (t := 5) rfl (.c (t := 8) rfl .n)))) (fun _ h => h) ?_
  refine c_seq ?_
  refine c_draw (m := 17) (S0 := fun _ => True) (fun _ => false) (fun _ _ => trivial) hmix (Cls.gs _ _) rfl ?_
  refine a_y (i := 0) (Cls.gs _ _) (by kernel_rfl) rfl (by kernel_rfl) (by kernel_rfl) (y_move rfl) rfl ?_
  refine a_y (i := 1) (Cls.gs _ _) (by kernel_rfl) rfl (by kernel_rfl) (by kernel_rfl) (y_indexArr Tryz.underlying120 ty2 rfl rfl (by decide) (by decide)) rfl ?_
  refine a_y (i := 2) (Cls.gs _ _) (by kernel_rfl) rfl (by kernel_rfl) (by kernel_rfl) (y_load rfl (LoadAt.oneL .z ty2 .z)) rfl ?_
  refine a_y (i := 3) (Cls.gs _ _) (by kernel_rfl) rfl (by kernel_rfl) (by kernel_rfl) (y_move rfl) rfl ?_
  refine a_y (i := 4) (Cls.gs _ _) (by kernel_rfl) rfl (by kernel_rfl) (by kernel_rfl) (y_indexArr Tryz.underlying120 ty2 rfl rfl (by decide) (by decide)) rfl ?_
  refine a_y (i := 5) (Cls.gs _ _) (by kernel_rfl) rfl (by kernel_rfl) (by kernel_rfl) (y_load rfl (LoadAt.oneL .z ty2 .z)) rfl ?_
  refine a_y (i := 6) (Cls.gs _ _) (by kernel_rfl) rfl (by kernel_rfl) (by kernel_rfl) ((y_neg rfl).lit (by kernel_rfl : _ = Value.int .i64 (-3))) rfl ?_
  refine a_y (i := 7) (Cls.gs _ _) (by kernel_rfl) rfl (by kernel_rfl) (by kernel_rfl) ((y_max2 rfl rfl).lit (by kernel_rfl : _ = Value.int .i64 3)) rfl ?_
  refine a_y (i := 8) (Cls.gs _ _) (by kernel_rfl) rfl (by kernel_rfl) (by kernel_rfl) (y_move rfl) rfl ?_
  refine a_y (i := 9) (Cls.gs _ _) (by kernel_rfl) rfl (by kernel_rfl) (by kernel_rfl) (y_indexArr Tryz.underlying120 ty2 rfl rfl (by decide) (by decide)) rfl ?_
  refine a_y (i := 10) (Cls.gs _ _) (by kernel_rfl) rfl (by kernel_rfl) (by kernel_rfl) (y_load rfl (LoadAt.oneL .z ty2 .z)) rfl ?_
  refine a_y (i := 11) (Cls.gs _ _) (by kernel_rfl) rfl (by kernel_rfl) (by kernel_rfl) (y_move rfl) rfl ?_
  refine a_y (i := 12) (Cls.gs _ _) (by kernel_rfl) rfl (by kernel_rfl) (by kernel_rfl) (y_indexArr Tryz.underlying120 ty2 rfl rfl (by decide) (by decide)) rfl ?_
  refine a_y (i := 13) (Cls.gs _ _) (by kernel_rfl) rfl (by kernel_rfl) (by kernel_rfl) (y_load rfl (LoadAt.oneL .z ty2 .z)) rfl ?_
  refine a_y (i := 14) (Cls.gs _ _) (by kernel_rfl) rfl (by kernel_rfl) (by kernel_rfl) ((y_neg rfl).lit (by kernel_rfl : _ = Value.int .i64 (-3))) rfl ?_
  refine a_y (i := 15) (Cls.gs _ _) (by kernel_rfl) rfl (by kernel_rfl) (by kernel_rfl) ((y_max2 rfl rfl).lit (by kernel_rfl : _ = Value.int .i64 3)) rfl ?_
  refine a_y (i := 16) (Cls.gs _ _) (by kernel_rfl) rfl (by kernel_rfl) (by kernel_rfl) ((y_gtr rfl rfl).lit (by kernel_rfl : _ = Value.bool false)) rfl ?_
  refine a_done (by kernel_rfl) ?_
  refine e_then ?_
  refine CJ.weak (.c (t := 3) rfl (.c (t := 4) rfl (.c (t := 5) rfl (.c (t := 8) rfl (.c (t := 27) rfl .n))))) (fun _ h => h) ?_
  refine c_false (by kernel_rfl) ?_
  refine c_skip ?_
  refine e_block ?_
  refine e_then ?_
  refine CJ.weak (.c (t := 3) rfl (.c (t := 4) rfl (.c (t := 8) rfl .n))) (fun _ h => h) ?_
  refine c_text ?_
  refine l_y (Cls.gs _ _) ((y_add rfl rfl).lit (by kernel_rfl : _ = Value.int .i64 1)) rfl ?_
  refine l_y (Cls.gs _ _) (y_move rfl) rfl ?_
  refine l_nil ?_
  refine e_rounds ?_
  refine RJ.weak (.c (t := 3) rfl (.c (t := 4) rfl (.c (t := 8) rfl .n))) (fun _ h => h) ?_
  refine r_succ ?_
  refine c_seq ?_
  refine c_text ?_
  refine l_y (Cls.gs _ _) ((y_lss rfl rfl).lit (by kernel_rfl : _ = Value.bool true)) rfl ?_
  refine l_nil ?_
  refine e_then ?_
  refine c_seq ?_
  refine c_true (by kernel_rfl) ?_
  refine c_skip ?_
  refine e_then ?_
  refine CJ.weak (.c (t := 3) rfl (.c (t := 4) rfl (.c (t := 8) rfl .n))) (fun _ h => h) ?_
  refine c_seq ?_
  refine c_block ?_
  refine c_seq ?_
  refine c_text ?_
  refine l_y (Cls.gs _ _) (y_move rfl) rfl ?_
  refine l_y (Cls.gs _ _) (y_assign rfl) rfl ?_
  refine l_nil ?_
  refine e_then ?_
  refine CJ.weak (.c (t := 3) rfl (.c (t := 4) rfl (.c (t := 5) rfl (.c (t := 8) rfl .n)))) (fun _ h => h) ?_
  refine c_seq ?_
  refine c_draw (m := 17) (S0 := fun _ => True) (fun _ => false) (fun _ _ => trivial) hmix (Cls.gs _ _) rfl ?_
  refine a_y (i := 0) (Cls.gs _ _) (by kernel_rfl) rfl (by kernel_rfl) (by kernel_rfl) (y_move rfl) rfl ?_
  refine a_y (i := 1) (Cls.gs _ _) (by kernel_rfl) rfl (by kernel_rfl) (by kernel_rfl) (y_indexArr Tryz.underlying120 ty2 rfl rfl (by decide) (by decide)) rfl ?_
  refine a_y (i := 2) (Cls.gs _ _) (by kernel_rfl) rfl (by kernel_rfl) (by kernel_rfl) (y_load rfl (LoadAt.oneL .z ty2 (.s .z))) rfl ?_
  refine a_y (i := 3) (Cls.gs _ _) (by kernel_rfl) rfl (by kernel_rfl) (by kernel_rfl) (y_move rfl) rfl ?_
  refine a_y (i := 4) (Cls.gs _ _) (by kernel_rfl) rfl (by kernel_rfl) (by kernel_rfl) (y_indexArr Tryz.underlying120 ty2 rfl rfl (by decide) (by decide)) rfl ?_
  refine a_y (i := 5) (Cls.gs _ _) (by kernel_rfl) rfl (by kernel_rfl) (by kernel_rfl) (y_load rfl (LoadAt.oneL .z ty2 (.s .z))) rfl ?_
  refine a_y (i := 6) (Cls.gs _ _) (by kernel_rfl) rfl (by kernel_rfl) (by kernel_rfl) ((y_neg rfl).lit (by kernel_rfl : _ = Value.int .i64 1)) rfl ?_
  refine a_y (i := 7) (Cls.gs _ _) (by kernel_rfl) rfl (by kernel_rfl) (by kernel_rfl) ((y_max2 rfl rfl).lit (by kernel_rfl : _ = Value.int .i64 1)) rfl ?_
  refine a_y (i := 8) (Cls.gs _ _) (by kernel_rfl) rfl (by kernel_rfl) (by kernel_rfl) (y_move rfl) rfl ?_
  refine a_y (i := 9) (Cls.gs _ _) (by kernel_rfl) rfl (by kernel_rfl) (by kernel_rfl) (y_indexArr Tryz.underlying120 ty2 rfl rfl (by decide) (by decide)) rfl ?_
  refine a_y (i := 10) (Cls.gs _ _) (by kernel_rfl) rfl (by kernel_rfl) (by kernel_rfl) (y_load rfl (LoadAt.oneL .z ty2 .z)) rfl ?_
  refine a_y (i := 11) (Cls.gs _ _) (by kernel_rfl) rfl (by kernel_rfl) (by kernel_rfl) (y_move rfl) rfl ?_
  refine a_y (i := 12) (Cls.gs _ _) (by kernel_rfl) rfl (by kernel_rfl) (by kernel_rfl) (y_indexArr Tryz.underlying120 ty2 rfl rfl (by decide) (by decide)) rfl ?_
  refine a_y (i := 13) (Cls.gs _ _) (by kernel_rfl) rfl (by kernel_rfl) (by kernel_rfl) (y_load rfl (LoadAt.oneL .z ty2 .z)) rfl ?_
  refine a_y (i := 14) (Cls.gs _ _) (by kernel_rfl) rfl (by kernel_rfl) (by kernel_rfl) ((y_neg rfl).lit (by kernel_rfl : _ = Value.int .i64 (-3))) rfl ?_
  refine a_y (i := 15) (Cls.gs _ _) (by kernel_rfl) rfl (by kernel_rfl) (by kernel_rfl) ((y_max2 rfl rfl).lit (by kernel_rfl : _ = Value.int .i64 3)) rfl ?_
  refine a_y (i := 16) (Cls.gs _ _) (by kernel_rfl) rfl (by kernel_rfl) (by kernel_rfl) ((y_gtr rfl rfl).lit (by kernel_rfl : _ = Value.bool false)) rfl ?_
  refine a_done (by kernel_rfl) ?_
  refine e_then ?_
  refine CJ.weak (.c (t := 3) rfl (.c (t := 4) rfl (.c (t := 5) rfl (.c (t := 8) rfl (.c (t := 27) rfl .n))))) (fun _ h => h) ?_
  refine c_false (by kernel_rfl) ?_
  refine c_skip ?_
  refine e_block ?_
  refine e_then ?_
  refine CJ.weak (.c (t := 3) rfl (.c (t := 4) rfl (.c (t := 8) rfl .n))) (fun _ h => h) ?_
  refine c_text ?_
  refine l_y (Cls.gs _ _) ((y_add rfl rfl).lit (by kernel_rfl : _ = Value.int .i64 2)) rfl ?_
  refine l_y (Cls.gs _ _) (y_move rfl) rfl ?_
  refine l_nil ?_
  refine e_rounds ?_
  refine RJ.weak (.c (t := 3) rfl (.c (t := 4) rfl (.c (t := 8) rfl .n))) (fun _ h => h) ?_
  refine r_succ ?_
  refine c_seq ?_
  refine c_text ?_
  refine l_y (Cls.gs _ _) ((y_lss rfl rfl).lit (by kernel_rfl : _ = Value.bool true)) rfl ?_
  refine l_nil ?_
  refine e_then ?_
  refine c_seq ?_
  refine c_true (by kernel_rfl) ?_
  refine c_skip ?_
  refine e_then ?_
  refine CJ.weak (.c (t := 3) rfl (.c (t := 4) rfl (.c (t := 8) rfl .n))) (fun _ h => h) ?_
  refine c_seq ?_
  refine c_block ?_
  refine c_seq ?_
  refine c_text ?_
  refine l_y (Cls.gs _ _) (y_move rfl) rfl ?_
  refine l_y (Cls.gs _ _) (y_assign rfl) rfl ?_
  refine l_nil ?_
  refine e_then ?_
  refine CJ.weak (.c (t := 3) rfl (.c (t := 4) rfl (.c (t := 5) rfl (.c (t := 8) rfl .n)))) (fun _ h => h) ?_
  refine c_seq ?_
  refine c_draw (m := 17) (S0 := fun _ => True) (fun _ => false) (fun _ _ => trivial) hmix (Cls.gs _ _) rfl ?_
  refine a_y (i := 0) (Cls.gs _ _) (by kernel_rfl) rfl (by kernel_rfl) (by kernel_rfl) (y_move rfl) rfl ?_
  refine a_y (i := 1) (Cls.gs _ _) (by kernel_rfl) rfl (by kernel_rfl) (by kernel_rfl) (y_indexArr Tryz.underlying120 ty2 rfl rfl (by decide) (by decide)) rfl ?_
  refine a_y (i := 2) (Cls.gs _ _) (by kernel_rfl) rfl (by kernel_rfl) (by kernel_rfl) (y_load rfl (LoadAt.oneL .z ty2 (.s (.s .z)))) rfl ?_
  refine a_y (i := 3) (Cls.gs _ _) (by kernel_rfl) rfl (by kernel_rfl) (by kernel_rfl) (y_move rfl) rfl ?_
  refine a_y (i := 4) (Cls.gs _ _) (by kernel_rfl) rfl (by kernel_rfl) (by kernel_rfl) (y_indexArr Tryz.underlying120 ty2 rfl rfl (by decide) (by decide)) rfl ?_
  refine a_y (i := 5) (Cls.gs _ _) (by kernel_rfl) rfl (by kernel_rfl) (by kernel_rfl) (y_load rfl (LoadAt.oneL .z ty2 (.s (.s .z)))) rfl ?_
  refine a_y (i := 6) (Cls.gs _ _) (by kernel_rfl) rfl (by kernel_rfl) (by kernel_rfl) ((y_neg rfl).lit (by kernel_rfl : _ = Value.int .i64 (-2))) rfl ?_
  refine a_y (i := 7) (Cls.gs _ _) (by kernel_rfl) rfl (by kernel_rfl) (by kernel_rfl) ((y_max2 rfl rfl).lit (by kernel_rfl : _ = Value.int .i64 2)) rfl ?_
  refine a_y (i := 8) (Cls.gs _ _) (by kernel_rfl) rfl (by kernel_rfl) (by kernel_rfl) (y_move rfl) rfl ?_
  refine a_y (i := 9) (Cls.gs _ _) (by kernel_rfl) rfl (by kernel_rfl) (by kernel_rfl) (y_indexArr Tryz.underlying120 ty2 rfl rfl (by decide) (by decide)) rfl ?_
  refine a_y (i := 10) (Cls.gs _ _) (by kernel_rfl) rfl (by kernel_rfl) (by kernel_rfl) (y_load rfl (LoadAt.oneL .z ty2 .z)) rfl ?_
  refine a_y (i := 11) (Cls.gs _ _) (by kernel_rfl) rfl (by kernel_rfl) (by kernel_rfl) (y_move rfl) rfl ?_
  refine a_y (i := 12) (Cls.gs _ _) (by kernel_rfl) rfl (by kernel_rfl) (by kernel_rfl) (y_indexArr Tryz.underlying120 ty2 rfl rfl (by decide) (by decide)) rfl ?_
  refine a_y (i := 13) (Cls.gs _ _) (by kernel_rfl) rfl (by kernel_rfl) (by kernel_rfl) (y_load rfl (LoadAt.oneL .z ty2 .z)) rfl ?_
  refine a_y (i := 14) (Cls.gs _ _) (by kernel_rfl) rfl (by kernel_rfl) (by kernel_rfl) ((y_neg rfl).lit (by kernel_rfl : _ = Value.int .i64 (-3))) rfl ?_
  refine a_y (i := 15) (Cls.gs _ _) (by kernel_rfl) rfl (by kernel_rfl) (by kernel_rfl) ((y_max2 rfl rfl).lit (by kernel_rfl : _ = Value.int .i64 3)) rfl ?_
  refine a_y (i := 16) (Cls.gs _ _) (by kernel_rfl) rfl (by kernel_rfl) (by kernel_rfl) ((y_gtr rfl rfl).lit (by kernel_rfl : _ = Value.bool false)) rfl ?_
  refine a_done (by kernel_rfl) ?_
  refine e_then ?_
  refine CJ.weak (.c (t := 3) rfl (.c (t := 4) rfl (.c (t := 5) rfl (.c (t := 8) rfl (.c (t := 27) rfl .n))))) (fun _ h => h) ?_
  refine c_false (by kernel_rfl) ?_
  refine c_skip ?_
  refine e_block ?_
  refine e_then ?_
  refine CJ.weak (.c (t := 3) rfl (.c (t := 4) rfl (.c (t := 8) rfl .n))) (fun _ h => h) ?_
  refine c_text ?_
  refine l_y (Cls.gs _ _) ((y_add rfl rfl).lit (by kernel_rfl : _ = Value.int .i64 3)) rfl ?_
  refine l_y (Cls.gs _ _) (y_move rfl) rfl ?_
  refine l_nil ?_
  refine e_rounds ?_
  refine RJ.weak (.c (t := 3) rfl (.c (t := 4) rfl (.c (t := 8) rfl .n))) (fun _ h => h) ?_
  refine r_succ ?_
  refine c_seq ?_
  refine c_text ?_
  refine l_y (Cls.gs _ _) ((y_lss rfl rfl).lit (by kernel_rfl : _ = Value.bool false)) rfl ?_
  refine l_nil ?_
  refine e_then ?_
  refine c_seq ?_
  refine c_false (by kernel_rfl) ?_
  refine c_exit ?_
  refine e_then_exit ?_
  refine e_then_exit ?_
  refine e_block_hit ?_
  refine e_then ?_
  refine CJ.weak (.c (t := 3) rfl (.c (t := 4) rfl .n)) (fun _ h => h) ?_
  refine c_seq ?_
  refine c_seq ?_
  refine c_text ?_
  refine l_y (Cls.gs _ _) (y_move rfl) rfl ?_
  refine l_y (Cls.gs _ _) (y_indexArr Tryz.underlying120 ty2 rfl rfl (by decide) (by decide)) rfl ?_
  refine l_y (Cls.gs _ _) (y_load rfl (LoadAt.oneL .z ty2 .z)) rfl ?_
  refine l_y (Cls.gs _ _) ((y_lss rfl rfl).lit (by kernel_rfl : _ = Value.bool false)) rfl ?_
  refine l_nil ?_
  refine e_then ?_
  refine CJ.weak (.c (t := 4) rfl (.c (t := 33) rfl .n)) (fun _ h => h) ?_
  refine c_false (by kernel_rfl) ?_
  refine c_skip ?_
  refine e_then ?_
  refine CJ.weak (.c (t := 4) rfl .n) (fun _ h => h) ?_
  refine c_seq ?_
  refine c_text ?_
  refine l_y (Cls.gs _ _) (y_move rfl) rfl ?_
  refine l_y (Cls.gs _ _) ((y_mul rfl rfl).lit (by kernel_rfl : _ = Value.int .i64 0)) rfl ?_
  refine l_y (Cls.gs _ _) (y_assign rfl) rfl ?_
  refine l_nil ?_
  refine e_then ?_
  refine CJ.weak (.c (t := 2) rfl .n) (fun _ h => h) ?_
  refine c_ret ?_
  refine e_ret rfl (.t rfl .n) (fun wF hw => ?_)
  exact ⟨rfl, (hw.anc (w, []) (by simp)).below⟩

theorem c57_0 (w : World) : Calls Tryz.prog 57 #[.int .i64 0] w fun e w' => e = .returned (.tuple #[.int .i64 0, .int .i64 1, .int .i64 2]) ∧ Gr w w' := by
  refine enter Tryz.func57 rfl rfl rfl rfl (Cls.start w) ?_
  refine c_seq ?_
  refine c_text ?_
  refine l_y (Cls.gs _ _) (y_assign rfl) rfl ?_
  refine l_y (Cls.gs _ _) (y_assign rfl) rfl ?_
  refine l_y (Cls.gs _ _) (y_assign rfl) rfl ?_
  refine l_nil ?_
  refine e_then ?_
  refine CJ.weak (.c (t := 0) rfl .n) (fun _ h => h) ?_
  refine c_seq ?_
  refine c_text ?_
  refine l_y (Cls.gs _ _) (y_move rfl) rfl ?_
  refine l_y (Cls.gs _ _) ((y_quo rfl rfl (by decide)).lit (by kernel_rfl : _ = Value.int .i64 0)) rfl ?_
  refine l_y (Cls.gs _ _) (y_assign rfl) rfl ?_
  refine l_nil ?_
  refine e_then ?_
  refine CJ.weak (.c (t := 5) rfl .n) (fun _ h => h) ?_
  refine c_seq ?_
  refine c_text ?_
  refine l_y (Cls.gs _ _) (y_move rfl) rfl ?_
  refine l_y (Cls.gs _ _) (y_move rfl) rfl ?_
  refine l_y (Cls.gs _ _) ((y_add rfl rfl).lit (by kernel_rfl : _ = Value.int .i64 1)) rfl ?_
  refine l_y (Cls.gs _ _) ((y_rem rfl rfl (by decide)).lit (by kernel_rfl : _ = Value.int .i64 1)) rfl ?_
  refine l_y (Cls.gs _ _) (y_move rfl) rfl ?_
  refine l_y (Cls.gs _ _) ((y_add rfl rfl).lit (by kernel_rfl : _ = Value.int .i64 2)) rfl ?_
  refine l_y (Cls.gs _ _) ((y_rem rfl rfl (by decide)).lit (by kernel_rfl : _ = Value.int .i64 2)) rfl ?_
  refine l_y (Cls.gs _ _) (y_assign rfl) rfl ?_
  refine l_y (Cls.gs _ _) (y_assign rfl) rfl ?_
  refine l_y (Cls.gs _ _) (y_assign rfl) rfl ?_
  refine l_nil ?_
  refine e_then ?_
  refine CJ.weak (.c (t := 2) rfl (.c (t := 3) rfl (.c (t := 4) rfl .n))) (fun _ h => h) ?_
  refine c_ret ?_
  refine e_ret rfl (.t rfl (.t rfl (.t rfl .n))) (fun wF hw => ?_)
  exact ⟨rfl, (hw.anc (w, []) (by simp)).below⟩

theorem c58_0 (p0 : Nat) (p1 : Nat) (w : World) (hp0 : w.heap[p0]? = some (blk [.int .i64 3] 2)) (hp1 : w.heap[p1]? = some (blk [.int .i64 1] 3)) : Calls Tryz.prog 58 #[.int .i64 (-1), .pointer (some ⟨p0, 0, none⟩), .pointer (some ⟨p1, 0, none⟩)] w fun e w' => e = .returned (.int .i64 0) ∧ Gr w w' := by
  refine enter Tryz.func58 rfl rfl rfl rfl (Cls.start w) ?_
  refine c_seq ?_
  refine c_text ?_
  refine l_y (Cls.gs _ _) (y_assign rfl) rfl ?_
  refine l_nil ?_
  refine e_then ?_
  refine CJ.weak (.c (t := 0) rfl (.c (t := 1) rfl (.c (t := 2) rfl .n))) (fun _ h => h) ?_
  refine c_seq ?_
  refine c_draw (m := 13) (S0 := fun _ => True) (fun _ => false) (fun _ _ => trivial) hmix (Cls.gs _ _) rfl ?_
  refine a_y (i := 0) (Cls.gs _ _) (by kernel_rfl) rfl (by kernel_rfl) (by kernel_rfl) (y_move rfl) rfl ?_
  refine a_y (i := 1) (Cls.gs _ _) (by kernel_rfl) rfl (by kernel_rfl) (by kernel_rfl) (y_load rfl (LoadAt.oneB .z hp0 ty2 .z)) rfl ?_
  refine a_y (i := 2) (Cls.gs _ _) (by kernel_rfl) rfl (by kernel_rfl) (by kernel_rfl) ((y_add rfl rfl).lit (by kernel_rfl : _ = Value.int .i64 2)) rfl ?_
  refine a_y (i := 3) (Cls.gs _ _) (by kernel_rfl) rfl (by kernel_rfl) (by kernel_rfl) (y_load rfl (LoadAt.oneB .z hp1 ty3 .z)) rfl ?_
  refine a_y (i := 4) (Cls.gs _ _) (by kernel_rfl) rfl (by kernel_rfl) (by kernel_rfl) ((y_shl rfl rfl (by decide)).lit (by kernel_rfl : _ = Value.int .i64 4)) rfl ?_
  refine a_y (i := 5) (Cls.gs _ _) (by kernel_rfl) rfl (by kernel_rfl) (by kernel_rfl) (y_load rfl (LoadAt.oneB .z hp0 ty2 .z)) rfl ?_
  refine a_y (i := 6) (Cls.gs _ _) (by kernel_rfl) rfl (by kernel_rfl) (by kernel_rfl) ((y_mul rfl rfl).lit (by kernel_rfl : _ = Value.int .i64 6)) rfl ?_
  refine a_y (i := 7) (Cls.gs _ _) (by kernel_rfl) rfl (by kernel_rfl) (by kernel_rfl) ((y_quo rfl rfl (by decide)).lit (by kernel_rfl : _ = Value.int .i64 0)) rfl ?_
  refine a_y (i := 8) (Cls.gs _ _) (by kernel_rfl) rfl (by kernel_rfl) (by kernel_rfl) (y_load rfl (LoadAt.oneB .z hp1 ty3 .z)) rfl ?_
  refine a_y (i := 9) (Cls.gs _ _) (by kernel_rfl) rfl (by kernel_rfl) (by kernel_rfl) ((y_shl rfl rfl (by decide)).lit (by kernel_rfl : _ = Value.int .i64 2)) rfl ?_
  refine a_y (i := 10) (Cls.gs _ _) (by kernel_rfl) rfl (by kernel_rfl) (by kernel_rfl) ((y_sub rfl rfl).lit (by kernel_rfl : _ = Value.int .i64 1)) rfl ?_
  refine a_y (i := 11) (Cls.gs _ _) (by kernel_rfl) rfl (by kernel_rfl) (by kernel_rfl) ((y_min2 rfl rfl).lit (by kernel_rfl : _ = Value.int .i64 0)) rfl ?_
  refine a_y (i := 12) (Cls.gs _ _) (by kernel_rfl) rfl (by kernel_rfl) (by kernel_rfl) (y_assign rfl) rfl ?_
  refine a_done (by kernel_rfl) ?_
  refine e_then ?_
  refine CJ.weak (.c (t := 4) rfl .n) (fun _ h => h) ?_
  refine c_ret ?_
  refine e_ret rfl (.t rfl .n) (fun wF hw => ?_)
  exact ⟨rfl, (hw.anc (w, []) (by simp)).below⟩

theorem c58_1 (p0 : Nat) (p1 : Nat) (w : World) (hp0 : w.heap[p0]? = some (blk [.int .i64 3] 2)) (hp1 : w.heap[p1]? = some (blk [.int .i64 1] 3)) : Calls Tryz.prog 58 #[.int .i64 2, .pointer (some ⟨p0, 0, none⟩), .pointer (some ⟨p1, 0, none⟩)] w fun e w' => e = .returned (.int .i64 1) ∧ Gr w w' := by
  refine enter Tryz.func58 rfl rfl rfl rfl (Cls.start w) ?_
  refine c_seq ?_
  refine c_text ?_
  refine l_y (Cls.gs _ _) (y_assign rfl) rfl ?_
  refine l_nil ?_
  refine e_then ?_
  refine CJ.weak (.c (t := 0) rfl (.c (t := 1) rfl (.c (t := 2) rfl .n))) (fun _ h => h) ?_
  refine c_seq ?_
  refine c_draw (m := 13) (S0 := fun _ => True) (fun _ => false) (fun _ _ => trivial) hmix (Cls.gs _ _) rfl ?_
  refine a_y (i := 0) (Cls.gs _ _) (by kernel_rfl) rfl (by kernel_rfl) (by kernel_rfl) (y_move rfl) rfl ?_
  refine a_y (i := 1) (Cls.gs _ _) (by kernel_rfl) rfl (by kernel_rfl) (by kernel_rfl) (y_load rfl (LoadAt.oneB .z hp0 ty2 .z)) rfl ?_
  refine a_y (i := 2) (Cls.gs _ _) (by kernel_rfl) rfl (by kernel_rfl) (by kernel_rfl) ((y_add rfl rfl).lit (by kernel_rfl : _ = Value.int .i64 5)) rfl ?_
  refine a_y (i := 3) (Cls.gs _ _) (by kernel_rfl) rfl (by kernel_rfl) (by kernel_rfl) (y_load rfl (LoadAt.oneB .z hp1 ty3 .z)) rfl ?_
  refine a_y (i := 4) (Cls.gs _ _) (by kernel_rfl) rfl (by kernel_rfl) (by kernel_rfl) ((y_shl rfl rfl (by decide)).lit (by kernel_rfl : _ = Value.int .i64 10)) rfl ?_
  refine a_y (i := 5) (Cls.gs _ _) (by kernel_rfl) rfl (by kernel_rfl) (by kernel_rfl) (y_load rfl (LoadAt.oneB .z hp0 ty2 .z)) rfl ?_
  refine a_y (i := 6) (Cls.gs _ _) (by kernel_rfl) rfl (by kernel_rfl) (by kernel_rfl) ((y_mul rfl rfl).lit (by kernel_rfl : _ = Value.int .i64 6)) rfl ?_
  refine a_y (i := 7) (Cls.gs _ _) (by kernel_rfl) rfl (by kernel_rfl) (by kernel_rfl) ((y_quo rfl rfl (by decide)).lit (by kernel_rfl : _ = Value.int .i64 1)) rfl ?_
  refine a_y (i := 8) (Cls.gs _ _) (by kernel_rfl) rfl (by kernel_rfl) (by kernel_rfl) (y_load rfl (LoadAt.oneB .z hp1 ty3 .z)) rfl ?_
  refine a_y (i := 9) (Cls.gs _ _) (by kernel_rfl) rfl (by kernel_rfl) (by kernel_rfl) ((y_shl rfl rfl (by decide)).lit (by kernel_rfl : _ = Value.int .i64 2)) rfl ?_
  refine a_y (i := 10) (Cls.gs _ _) (by kernel_rfl) rfl (by kernel_rfl) (by kernel_rfl) ((y_sub rfl rfl).lit (by kernel_rfl : _ = Value.int .i64 1)) rfl ?_
  refine a_y (i := 11) (Cls.gs _ _) (by kernel_rfl) rfl (by kernel_rfl) (by kernel_rfl) ((y_min2 rfl rfl).lit (by kernel_rfl : _ = Value.int .i64 1)) rfl ?_
  refine a_y (i := 12) (Cls.gs _ _) (by kernel_rfl) rfl (by kernel_rfl) (by kernel_rfl) (y_assign rfl) rfl ?_
  refine a_done (by kernel_rfl) ?_
  refine e_then ?_
  refine CJ.weak (.c (t := 4) rfl .n) (fun _ h => h) ?_
  refine c_ret ?_
  refine e_ret rfl (.t rfl .n) (fun wF hw => ?_)
  exact ⟨rfl, (hw.anc (w, []) (by simp)).below⟩

theorem c18_0 (w : World) : Calls Tryz.prog 18 #[.agg #[.int .i64 3, .int .i64 (-1), .int .i64 2], .int .i64 1] w fun e w' => e = .returned (.tuple #[.int .i64 34, .int .i64 0]) ∧ Gr w w' := by
  refine enter Tryz.func18 rfl rfl rfl rfl (Cls.start w) ?_
  refine c_seq ?_
  refine c_text ?_
  refine l_n rfl (n_box rfl .a rfl) (fun b0 _ => ?_)
  refine l_n rfl (n_box rfl (.o rfl) rfl) (fun b1 _ => ?_)
  refine l_y (Cls.gs _ _) (y_assign rfl) rfl ?_
  refine l_y (Cls.gs _ _) (y_assign rfl) rfl ?_
  refine l_nil ?_
  refine e_then ?_
  refine CJ.weak (.c (t := 2) rfl (.c (t := 3) rfl .n)) (fun _ h => h) ?_
  refine c_seq ?_
  refine c_seq ?_
  refine c_text ?_
  refine l_y (Cls.gs _ _) (y_load rfl (LoadAt.aggL (.s .z) ty66 (.t (.t (.t .d))))) rfl ?_
  refine l_y (Cls.gs _ _) (y_call ent52 (.c rfl .n) (fun w hw => c52_1  w )) rfl ?_
  refine l_y (Cls.gs _ _) (y_assign rfl) rfl ?_
  refine l_nil ?_
  refine e_then ?_
  refine CJ.weak (.c (t := 2) rfl (.c (t := 3) rfl (.c (t := 6) rfl .n))) (fun _ h => h) ?_
  refine c_seq ?_
  refine c_text ?_
  refine l_y (Cls.gs _ _) (y_move rfl) rfl ?_
  refine l_y (Cls.gs _ _) ((y_neq rfl rfl).lit (by kernel_rfl : _ = Value.bool false)) rfl ?_
  refine l_nil ?_
  refine e_then ?_
  refine CJ.weak (.c (t := 2) rfl (.c (t := 3) rfl (.c (t := 6) rfl (.c (t := 21) rfl .n)))) (fun _ h => h) ?_
  refine c_false (by kernel_rfl) ?_
  refine c_skip ?_
  refine e_then ?_
  refine CJ.weak (.c (t := 2) rfl (.c (t := 3) rfl .n)) (fun _ h => h) ?_
  refine c_seq ?_
  refine c_seq ?_
  refine c_text ?_
  refine l_y (Cls.gs _ _) (y_load rfl (LoadAt.oneL .z ty3 .z)) rfl ?_
  refine l_y (Cls.gs _ _) ((y_lss rfl rfl).lit (by kernel_rfl : _ = Value.bool false)) rfl ?_
  refine l_y (Cls.gs _ _) (y_move rfl) rfl ?_
  refine l_g (s := 25) (Cls.gs _ _) (by kernel_rfl) rfl (beq_f _) (fun hg => y_load rfl (LoadAt.oneL .z ty3 .z)) rfl ?_
  refine l_g (s := 25) (Cls.gs _ _) (by kernel_rfl) rfl (beq_f _) (fun hg => (y_gtr (gvt hg rfl) rfl).lit (by kernel_rfl : _ = Value.bool false)) rfl ?_
  refine l_y (Cls.gs _ _) ((y_or rfl rfl rfl).lit (by kernel_rfl : _ = Value.bool false)) rfl ?_
  refine l_nil ?_
  refine e_then ?_
  refine CJ.weak (.c (t := 2) rfl (.c (t := 3) rfl (.c (t := 28) rfl .n))) (fun _ h => h) ?_
  refine c_false (by kernel_rfl) ?_
  refine c_skip ?_
  refine e_then ?_
  refine CJ.weak (.c (t := 2) rfl (.c (t := 3) rfl .n)) (fun _ h => h) ?_
  refine c_seq ?_
  refine c_text ?_
  refine l_y (Cls.gs _ _) (y_load rfl (LoadAt.aggL (.s .z) ty66 (.t (.t (.t .d))))) rfl ?_
  refine l_y (Cls.gs _ _) (y_call ent55 (.c rfl .n) (fun w hw => c55_0  w )) rfl ?_
  refine l_y (Cls.gs _ _) (y_assign rfl) rfl ?_
  refine l_nil ?_
  refine e_then ?_
  refine CJ.weak (.c (t := 2) rfl (.c (t := 3) rfl (.c (t := 7) rfl .n))) (fun _ h => h) ?_
  refine c_seq ?_
  refine c_text ?_
  refine l_y (Cls.gs _ _) (y_load rfl (LoadAt.aggL (.s .z) ty66 (.t (.t (.t .d))))) rfl ?_
  refine l_y (Cls.gs _ _) (y_call ent56 (.c rfl .n) (fun w hw => c56_0  w )) rfl ?_
  refine l_n rfl (n_alloc ty120 .a rfl) (fun b2 _ => ?_)
  refine l_n rfl (n_store rfl rfl ty120 .a rfl rfl .z (.t (.t (.t .d)))) (fun _ _ => ?_)
  refine l_nil ?_
  refine e_then ?_
  refine CJ.weak (.c (t := 3) rfl (.c (t := 7) rfl (.c (t := 8) rfl .n))) (fun _ h => h) ?_
  refine c_seq ?_
  refine c_text ?_
  refine l_y (Cls.gs _ _) (y_move rfl) rfl ?_
  refine l_y (Cls.gs _ _) (y_call ent57 (.c rfl .n) (fun w hw => c57_0  w )) rfl ?_
  refine l_y (Cls.gs _ _) (y_move rfl) rfl ?_
  refine l_y (Cls.gs _ _) (y_extract rfl .z) rfl ?_
  refine l_y (Cls.gs _ _) (y_extract rfl (.s .z)) rfl ?_
  refine l_y (Cls.gs _ _) (y_extract rfl (.s (.s .z))) rfl ?_
  refine l_y (Cls.gs _ _) (y_assign rfl) rfl ?_
  refine l_y (Cls.gs _ _) (y_assign rfl) rfl ?_
  refine l_y (Cls.gs _ _) (y_assign rfl) rfl ?_
  refine l_nil ?_
  refine e_then ?_
  refine CJ.weak (.c (t := 3) rfl (.c (t := 7) rfl (.c (t := 8) rfl (.c (t := 9) rfl (.c (t := 10) rfl (.c (t := 11) rfl .n)))))) (fun _ h => h) ?_
  refine c_seq ?_
  refine c_draw (m := 10) (S0 := fun _ => True) (fun i => Nat.beq i 9) (fun _ _ => trivial) hmix (Cls.gs _ _) rfl ?_
  refine a_y (i := 0) (Cls.gs _ _) (by kernel_rfl) rfl (by kernel_rfl) (by kernel_rfl) (y_move rfl) rfl ?_
  refine a_y (i := 1) (Cls.gs _ _) (by kernel_rfl) rfl (by kernel_rfl) (by kernel_rfl) (y_indexArr Tryz.underlying120 ty2 rfl rfl (by decide) (by decide)) rfl ?_
  refine a_y (i := 2) (Cls.gs _ _) (by kernel_rfl) rfl (by kernel_rfl) (by kernel_rfl) (y_load rfl (LoadAt.oneL .z ty2 .z)) rfl ?_
  refine a_y (i := 3) (Cls.gs _ _) (by kernel_rfl) rfl (by kernel_rfl) (by kernel_rfl) (y_move rfl) rfl ?_
  refine a_y (i := 4) (Cls.gs _ _) (by kernel_rfl) rfl (by kernel_rfl) (by kernel_rfl) (y_indexArr Tryz.underlying120 ty2 rfl rfl (by decide) (by decide)) rfl ?_
  refine a_y (i := 5) (Cls.gs _ _) (by kernel_rfl) rfl (by kernel_rfl) (by kernel_rfl) (y_load rfl (LoadAt.oneL .z ty2 .z)) rfl ?_
  refine a_y (i := 6) (Cls.gs _ _) (by kernel_rfl) rfl (by kernel_rfl) (by kernel_rfl) ((y_neg rfl).lit (by kernel_rfl : _ = Value.int .i64 (-3))) rfl ?_
  refine a_y (i := 7) (Cls.gs _ _) (by kernel_rfl) rfl (by kernel_rfl) (by kernel_rfl) ((y_max2 rfl rfl).lit (by kernel_rfl : _ = Value.int .i64 3)) rfl ?_
  refine a_n (i := 8) rfl rfl (by kernel_rfl) (fun _ => Cls.gs _ _) (.inr fun _ _ h => h.tail) (n_alloc ty2 (.o rfl) rfl) (fun b3 _ => ?_)
  refine a_n (i := 9) rfl rfl (by kernel_rfl) (fun _ => Cls.gs _ _) (.inl ⟨rfl, fun _ _ _ => trivial⟩) (n_store rfl rfl ty2 (.o rfl) rfl rfl .z (.t .d)) (fun _ _ => ?_)
  refine a_done (by kernel_rfl) ?_
  refine e_then ?_
  refine CJ.weak (.c (t := 3) rfl (.c (t := 7) rfl (.c (t := 8) rfl (.c (t := 10) rfl (.c (t := 11) rfl (.c (t := 12) rfl .n)))))) (fun _ h => h) ?_
  refine c_seq ?_
  refine c_text ?_
  refine l_y (Cls.gs _ _) (y_makeFunc .n (.c rfl (.c rfl .n))) rfl ?_
  refine l_y (Cls.gs _ _) (y_assign rfl) rfl ?_
  refine l_nil ?_
  refine e_then ?_
  refine CJ.weak (.c (t := 3) rfl (.c (t := 7) rfl (.c (t := 8) rfl (.c (t := 10) rfl (.c (t := 11) rfl (.c (t := 13) rfl .n)))))) (fun _ h => h) ?_
  refine c_seq ?_
  refine c_text ?_
  refine l_y (Cls.gs _ _) (y_move rfl) rfl ?_
  refine l_y (Cls.gs _ _) ((y_add rfl rfl).lit (by kernel_rfl : _ = Value.int .i64 8)) rfl ?_
  refine l_y (Cls.gs _ _) (y_assign rfl) rfl ?_
  refine l_nil ?_
  refine e_then ?_
  refine CJ.weak (.c (t := 3) rfl (.c (t := 8) rfl (.c (t := 10) rfl (.c (t := 11) rfl (.c (t := 13) rfl (.c (t := 14) rfl .n)))))) (fun _ h => h) ?_
  refine c_seq ?_
  refine c_seq ?_
  refine c_draw (m := 15) (S0 := fun _ => True) (fun _ => false) (fun _ _ => trivial) hmix (Cls.gs _ _) rfl ?_
  refine a_y (i := 0) (Cls.gs _ _) (by kernel_rfl) rfl (by kernel_rfl) (by kernel_rfl) (y_load rfl (LoadAt.oneL (.s (.s .z)) ty3 .z)) rfl ?_
  refine a_y (i := 1) (Cls.gs _ _) (by kernel_rfl) rfl (by kernel_rfl) (by kernel_rfl) ((y_sub rfl rfl).lit (by kernel_rfl : _ = Value.int .i64 0)) rfl ?_
  refine a_y (i := 2) (Cls.gs _ _) (by kernel_rfl) rfl (by kernel_rfl) (by kernel_rfl) (y_move rfl) rfl ?_
  refine a_y (i := 3) (Cls.gs _ _) (by kernel_rfl) rfl (by kernel_rfl) (by kernel_rfl) (y_move rfl) rfl ?_
  refine a_y (i := 4) (Cls.gs _ _) (by kernel_rfl) rfl (by kernel_rfl) (by kernel_rfl) (y_indexArr Tryz.underlying120 ty2 rfl rfl (by decide) (by decide)) rfl ?_
  refine a_y (i := 5) (Cls.gs _ _) (by kernel_rfl) rfl (by kernel_rfl) (by kernel_rfl) (y_load rfl (LoadAt.oneL (.s .z) ty2 (.s .z))) rfl ?_
  refine a_y (i := 6) (Cls.gs _ _) (by kernel_rfl) rfl (by kernel_rfl) (by kernel_rfl) (y_callv ent58 rfl (.c rfl .n) (fun w hw => c58_0 _ _ w (hw.locM .z) (hw.locM (.s (.s .z))))) rfl ?_
  refine a_y (i := 7) (Cls.gs _ _) (by kernel_rfl) rfl (by kernel_rfl) (by kernel_rfl) (y_move rfl) rfl ?_
  refine a_y (i := 8) (Cls.gs _ _) (by kernel_rfl) rfl (by kernel_rfl) (by kernel_rfl) (y_move rfl) rfl ?_
  refine a_y (i := 9) (Cls.gs _ _) (by kernel_rfl) rfl (by kernel_rfl) (by kernel_rfl) (y_indexArr Tryz.underlying120 ty2 rfl rfl (by decide) (by decide)) rfl ?_
  refine a_y (i := 10) (Cls.gs _ _) (by kernel_rfl) rfl (by kernel_rfl) (by kernel_rfl) (y_load rfl (LoadAt.oneL (.s .z) ty2 (.s (.s .z)))) rfl ?_
  refine a_y (i := 11) (Cls.gs _ _) (by kernel_rfl) rfl (by kernel_rfl) (by kernel_rfl) (y_callv ent58 rfl (.c rfl .n) (fun w hw => c58_1 _ _ w (hw.locM .z) (hw.locM (.s (.s .z))))) rfl ?_
  refine a_y (i := 12) (Cls.gs _ _) (by kernel_rfl) rfl (by kernel_rfl) (by kernel_rfl) (y_assign rfl) rfl ?_
  refine a_y (i := 13) (Cls.gs _ _) (by kernel_rfl) rfl (by kernel_rfl) (by kernel_rfl) (y_assign rfl) rfl ?_
  refine a_y (i := 14) (Cls.gs _ _) (by kernel_rfl) rfl (by kernel_rfl) (by kernel_rfl) (y_assign rfl) rfl ?_
  refine a_done (by kernel_rfl) ?_
  refine e_then ?_
  refine CJ.weak (.c (t := 14) rfl (.c (t := 15) rfl (.c (t := 16) rfl (.c (t := 17) rfl .n)))) (fun _ h => h) ?_
  refine c_block ?_
  refine c_rounds 80 ?_
  refine r_succ ?_
  refine c_seq ?_
  refine c_seq ?_
  refine c_text ?_
  refine l_y (Cls.gs _ _) (y_move rfl) rfl ?_
  refine l_y (Cls.gs _ _) ((y_geq rfl rfl).lit (by kernel_rfl : _ = Value.bool true)) rfl ?_
  refine l_nil ?_
  refine e_then ?_
  refine CJ.weak (.c (t := 14) rfl (.c (t := 15) rfl (.c (t := 16) rfl (.c (t := 17) rfl (.c (t := 63) rfl .n))))) (fun _ h => h) ?_
  refine c_true (by kernel_rfl) ?_
  refine c_skip ?_
  refine e_then ?_
  refine CJ.weak (.c (t := 14) rfl (.c (t := 15) rfl (.c (t := 16) rfl (.c (t := 17) rfl .n)))) (fun _ h => h) ?_
  refine c_seq ?_
  refine c_block ?_
  refine c_draw (m := 14) (S0 := fun _ => True) (fun _ => false) (fun _ _ => trivial) hmix (Cls.gs _ _) rfl ?_
  refine a_y (i := 0) (Cls.gs _ _) (by kernel_rfl) rfl (by kernel_rfl) (by kernel_rfl) (y_move rfl) rfl ?_
  refine a_y (i := 1) (Cls.gs _ _) (by kernel_rfl) rfl (by kernel_rfl) (by kernel_rfl) ((y_mul rfl rfl).lit (by kernel_rfl : _ = Value.int .i64 32)) rfl ?_
  refine a_y (i := 2) (Cls.gs _ _) (by kernel_rfl) rfl (by kernel_rfl) (by kernel_rfl) (y_move rfl) rfl ?_
  refine a_y (i := 3) (Cls.gs _ _) (by kernel_rfl) rfl (by kernel_rfl) (by kernel_rfl) (y_move rfl) rfl ?_
  refine a_y (i := 4) (Cls.gs _ _) (by kernel_rfl) rfl (by kernel_rfl) (by kernel_rfl) ((y_shr rfl rfl (by decide)).lit (by kernel_rfl : _ = Value.int .i64 0)) rfl ?_
  refine a_y (i := 5) (Cls.gs _ _) (by kernel_rfl) rfl (by kernel_rfl) (by kernel_rfl) ((y_band rfl rfl).lit (by kernel_rfl : _ = Value.int .i64 0)) rfl ?_
  refine a_y (i := 6) (Cls.gs _ _) (by kernel_rfl) rfl (by kernel_rfl) (by kernel_rfl) (y_move rfl) rfl ?_
  refine a_y (i := 7) (Cls.gs _ _) (by kernel_rfl) rfl (by kernel_rfl) (by kernel_rfl) (y_move rfl) rfl ?_
  refine a_y (i := 8) (Cls.gs _ _) (by kernel_rfl) rfl (by kernel_rfl) (by kernel_rfl) ((y_shr rfl rfl (by decide)).lit (by kernel_rfl : _ = Value.int .i64 1)) rfl ?_
  refine a_y (i := 9) (Cls.gs _ _) (by kernel_rfl) rfl (by kernel_rfl) (by kernel_rfl) ((y_band rfl rfl).lit (by kernel_rfl : _ = Value.int .i64 1)) rfl ?_
  refine a_y (i := 10) (Cls.gs _ _) (by kernel_rfl) rfl (by kernel_rfl) (by kernel_rfl) ((y_mul rfl rfl).lit (by kernel_rfl : _ = Value.int .i64 2)) rfl ?_
  refine a_y (i := 11) (Cls.gs _ _) (by kernel_rfl) rfl (by kernel_rfl) (by kernel_rfl) ((y_add rfl rfl).lit (by kernel_rfl : _ = Value.int .i64 2)) rfl ?_
  refine a_y (i := 12) (Cls.gs _ _) (by kernel_rfl) rfl (by kernel_rfl) (by kernel_rfl) ((y_add rfl rfl).lit (by kernel_rfl : _ = Value.int .i64 34)) rfl ?_
  refine a_y (i := 13) (Cls.gs _ _) (by kernel_rfl) rfl (by kernel_rfl) (by kernel_rfl) (y_assign rfl) rfl ?_
  refine a_done (by kernel_rfl) ?_
  refine e_block ?_
  refine e_then ?_
  refine CJ.weak (.c (t := 14) rfl (.c (t := 15) rfl (.c (t := 16) rfl (.c (t := 17) rfl .n)))) (fun _ h => h) ?_
  refine c_text ?_
  refine l_y (Cls.gs _ _) (y_move rfl) rfl ?_
  refine l_y (Cls.gs _ _) ((y_sub rfl rfl).lit (by kernel_rfl : _ = Value.int .i64 (-1))) rfl ?_
  refine l_y (Cls.gs _ _) (y_assign rfl) rfl ?_
  refine l_nil ?_
  refine e_rounds ?_
  refine RJ.weak (.c (t := 14) rfl (.c (t := 15) rfl (.c (t := 16) rfl (.c (t := 17) rfl .n)))) (fun _ h => h) ?_
  refine r_succ ?_
  refine c_seq ?_
  refine c_seq ?_
  refine c_text ?_
  refine l_y (Cls.gs _ _) (y_move rfl) rfl ?_
  refine l_y (Cls.gs _ _) ((y_geq rfl rfl).lit (by kernel_rfl : _ = Value.bool false)) rfl ?_
  refine l_nil ?_
  refine e_then ?_
  refine CJ.weak (.c (t := 14) rfl (.c (t := 15) rfl (.c (t := 16) rfl (.c (t := 17) rfl (.c (t := 63) rfl .n))))) (fun _ h => h) ?_
  refine c_false (by kernel_rfl) ?_
  refine c_exit ?_
  refine e_then_exit ?_
  refine e_then_exit ?_
  refine e_block_hit ?_
  refine e_then ?_
  refine CJ.weak (.c (t := 14) rfl .n) (fun _ h => h) ?_
  refine c_seq ?_
  refine c_text ?_
  refine l_y (Cls.gs _ _) (y_move rfl) rfl ?_
  refine l_y (Cls.gs _ _) (y_assign rfl) rfl ?_
  refine l_y (Cls.gs _ _) (y_assign rfl) rfl ?_
  refine l_nil ?_
  refine e_then ?_
  refine CJ.weak (.c (t := 4) rfl (.c (t := 5) rfl .n)) (fun _ h => h) ?_
  refine c_ret ?_
  refine e_ret rfl (.t rfl (.t rfl .n)) (fun wF hw => ?_)
  exact ⟨rfl, (hw.anc (w, []) (by simp)).below⟩

theorem c5_0 (w : World) : Calls Tryz.prog 5 #[] w fun e w' => e = .returned (.bool true) ∧ Gr w w' := by
  refine enter Tryz.func5 rfl rfl rfl rfl (Cls.start w) ?_
  refine c_seq ?_
  refine c_text ?_
  refine l_y (Cls.gs _ _) (y_assign rfl) rfl ?_
  refine l_nil ?_
  refine e_then ?_
  refine CJ.weak .n (fun _ h => h) ?_
  refine c_seq ?_
  refine c_text ?_
  refine l_y (Cls.gs _ _) (y_build pl64 ty64 .a (.c rfl .n) (.c rfl (.o rfl) rfl rfl (.t .d) .d)) rfl ?_
  refine l_y (Cls.gs _ _) (y_build pl66 ty66 .a (.c rfl (.c rfl (.c rfl .n))) (.c rfl (.o rfl) rfl rfl (.t .d) (.c rfl (.o rfl) rfl rfl (.s (.t .d)) (.c rfl (.o rfl) rfl rfl (.s (.s (.t .d))) .d)))) rfl ?_
  refine l_y (Cls.gs _ _) (y_call ent17 (.c rfl (.c rfl (.c rfl (.c rfl .n)))) (fun w hw => c17_0  w )) rfl ?_
  refine l_y (Cls.gs _ _) (y_move rfl) rfl ?_
  refine l_y (Cls.gs _ _) (y_extract rfl .z) rfl ?_
  refine l_y (Cls.gs _ _) (y_extract rfl (.s .z)) rfl ?_
  refine l_n rfl (n_alloc ty60 .a rfl) (fun b0 _ => ?_)
  refine l_n rfl (n_store rfl rfl ty60 .a rfl rfl .z (.t (.t .d))) (fun _ _ => ?_)
  refine l_y (Cls.gs _ _) (y_assign rfl) rfl ?_
  refine l_nil ?_
  refine e_then ?_
  refine CJ.weak (.c (t := 1) rfl (.c (t := 2) rfl .n)) (fun _ h => h) ?_
  refine c_seq ?_
  refine c_text ?_
  refine l_y (Cls.gs _ _) (y_build pl66 ty66 .a (.c rfl (.c rfl (.c rfl .n))) (.c rfl (.o rfl) rfl rfl (.t .d) (.c rfl (.o rfl) rfl rfl (.s (.t .d)) (.c rfl (.o rfl) rfl rfl (.s (.s (.t .d))) .d)))) rfl ?_
  refine l_y (Cls.gs _ _) (y_call ent18 (.c rfl (.c rfl .n)) (fun w hw => c18_0  w )) rfl ?_
  refine l_y (Cls.gs _ _) (y_move rfl) rfl ?_
  refine l_y (Cls.gs _ _) (y_extract rfl .z) rfl ?_
  refine l_y (Cls.gs _ _) (y_extract rfl (.s .z)) rfl ?_
  refine l_y (Cls.gs _ _) (y_assign rfl) rfl ?_
  refine l_y (Cls.gs _ _) (y_assign rfl) rfl ?_
  refine l_nil ?_
  refine e_then ?_
  refine CJ.weak (.c (t := 1) rfl (.c (t := 2) rfl (.c (t := 3) rfl (.c (t := 4) rfl .n)))) (fun _ h => h) ?_
  refine c_seq ?_
  refine c_text ?_
  refine l_y (Cls.gs _ _) (y_move rfl) rfl ?_
  refine l_y (Cls.gs _ _) ((y_eql rfl rfl).lit (by kernel_rfl : _ = Value.bool true)) rfl ?_
  refine l_y (Cls.gs _ _) (y_move rfl) rfl ?_
  refine l_g (s := 18) (Cls.gs _ _) (by kernel_rfl) rfl (beq_t _) (fun hg => y_move rfl) rfl ?_
  refine l_g (s := 18) (Cls.gs _ _) (by kernel_rfl) rfl (beq_t _) (fun hg => (y_eql (gvt hg rfl) rfl).lit (by kernel_rfl : _ = Value.bool true)) rfl ?_
  refine l_y (Cls.gs _ _) ((y_and rfl rfl rfl).lit (by kernel_rfl : _ = Value.bool true)) rfl ?_
  refine l_y (Cls.gs _ _) (y_move rfl) rfl ?_
  refine l_g (s := 22) (Cls.gs _ _) (by kernel_rfl) rfl (beq_t _) (fun hg => y_load rfl (LoadAt.aggL .z ty60 (.t (.t .d)))) rfl ?_
  refine l_g (s := 22) (Cls.gs _ _) (by kernel_rfl) rfl (beq_t _) (fun hg => y_build pl60 ty60 .a (.c rfl (.c rfl .n)) (.c rfl (.o rfl) rfl rfl (.t .d) (.c rfl (.o rfl) rfl rfl (.s (.t .d)) .d))) rfl ?_
  refine l_g (s := 22) (Cls.gs _ _) (by kernel_rfl) rfl (beq_t _) (fun hg => (y_eqA Tryz.underlying60 (by kernel_rfl) (by kernel_rfl) (gvt hg rfl) (gvt hg rfl) (.one rfl ty58 .z .z (.int Tryz.underlying58) (.one rfl ty58 (.s .z) (.s .z) (.int Tryz.underlying58) .nil))).lit (by kernel_rfl : _ = Value.bool true)) rfl ?_
  refine l_y (Cls.gs _ _) ((y_and rfl rfl rfl).lit (by kernel_rfl : _ = Value.bool true)) rfl ?_
  refine l_y (Cls.gs _ _) (y_move rfl) rfl ?_
  refine l_g (s := 27) (Cls.gs _ _) (by kernel_rfl) rfl (beq_t _) (fun hg => y_move rfl) rfl ?_
  refine l_g (s := 27) (Cls.gs _ _) (by kernel_rfl) rfl (beq_t _) (fun hg => (y_eql (gvt hg rfl) rfl).lit (by kernel_rfl : _ = Value.bool true)) rfl ?_
  refine l_y (Cls.gs _ _) ((y_and rfl rfl rfl).lit (by kernel_rfl : _ = Value.bool true)) rfl ?_
  refine l_y (Cls.gs _ _) (y_assign rfl) rfl ?_
  refine l_nil ?_
  refine e_then ?_
  refine CJ.weak (.c (t := 0) rfl .n) (fun _ h => h) ?_
  refine c_ret ?_
  refine e_ret rfl (.t rfl .n) (fun wF hw => ?_)
  exact ⟨rfl, (hw.anc (w, []) (by simp)).below⟩

end Go.Proofs.YtpjacndlbjeehaaGreatDoor
