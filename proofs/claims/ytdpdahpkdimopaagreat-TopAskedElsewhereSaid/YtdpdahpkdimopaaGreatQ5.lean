/-
  A part of the proof of TopAskedElsewhere: walks of single functions.
-/
import Derived.Test.YtdpdahpkdimopaaGreatQf
import Derived.Test.YtdpdahpkdimopaaGreatB
import Derived.KernelRfl
set_option linter.unusedVariables false
set_option linter.unusedSimpArgs false
set_option maxRecDepth 100000
namespace Go.Proofs.YtdpdahpkdimopaaGreat
open Go Go.Px Sg
open Go.Px Sg
theorem product53 (a b : Bd) (ha : okB a = true) (hb : okB b = true) (w : World) : Calls Tryz.prog 53 #[.agg #[.int .i64 a.lo, .int .i64 a.hi, .bool a.u], .agg #[.int .i64 b.lo, .int .i64 b.hi, .bool b.u]] w fun e w' => e = .returned (.tuple #[.int .i64 (pmin a b), .int .i64 (pmax a b)]) ∧ Gr w w' := by
  obtain ⟨⟨p1, p1'⟩, ⟨p2, p2'⟩, ⟨p3, p3'⟩, ⟨p4, p4'⟩⟩ := pb ha hb
  refine enter Tryz.func53 rfl rfl rfl rfl (Cls.start w) ?_
  refine c_seq ?_
  refine c_text ?_
  refine l_n rfl (n_box rfl .a rfl) (fun b0 _ => ?_)
  refine l_n rfl (n_box rfl .a rfl) (fun b1 _ => ?_)
  refine l_y (Cls.gs _ _) (y_assign rfl) rfl ?_
  refine l_y (Cls.gs _ _) (y_assign rfl) rfl ?_
  refine l_nil ?_
  refine e_then ?_
  refine CJ.weak (.c (t := 2) rfl (.c (t := 3) rfl .n)) (fun _ h => h) ?_
  refine c_seq ?_
  refine c_draw (m := 12) (S0 := fun _ => True) (fun _ => false) (fun _ _ => trivial) hmix (Cls.gs _ _) rfl ?_
  refine a_y (i := 0) (Cls.gs _ _) (by kernel_rfl) rfl (by kernel_rfl) (by kernel_rfl) (y_fieldAddr rfl fa43_0) rfl ?_
  refine a_y (i := 1) (Cls.gs _ _) (by kernel_rfl) rfl (by kernel_rfl) (by kernel_rfl) (y_load rfl (LoadAt.oneL (.s .z) ty41 .z)) rfl ?_
  refine a_y (i := 2) (Cls.gs _ _) (by kernel_rfl) rfl (by kernel_rfl) (by kernel_rfl) (y_fieldAddr rfl fa43_0) rfl ?_
  refine a_y (i := 3) (Cls.gs _ _) (by kernel_rfl) rfl (by kernel_rfl) (by kernel_rfl) (y_load rfl (LoadAt.oneL .z ty41 .z)) rfl ?_
  refine a_y (i := 4) (Cls.gs _ _) (by kernel_rfl) rfl (by kernel_rfl) (by kernel_rfl) ((y_mul rfl rfl).lit (lit64 rfl (Int.le_trans (by decide) p1) (Int.le_trans p1' (by decide)))) rfl ?_
  refine a_y (i := 5) (Cls.gs _ _) (by kernel_rfl) rfl (by kernel_rfl) (by kernel_rfl) (y_fieldAddr rfl fa43_0) rfl ?_
  refine a_y (i := 6) (Cls.gs _ _) (by kernel_rfl) rfl (by kernel_rfl) (by kernel_rfl) (y_load rfl (LoadAt.oneL (.s .z) ty41 .z)) rfl ?_
  refine a_y (i := 7) (Cls.gs _ _) (by kernel_rfl) rfl (by kernel_rfl) (by kernel_rfl) (y_fieldAddr rfl fa43_1) rfl ?_
  refine a_y (i := 8) (Cls.gs _ _) (by kernel_rfl) rfl (by kernel_rfl) (by kernel_rfl) (y_load rfl (LoadAt.oneL .z ty41 (.s .z))) rfl ?_
  refine a_y (i := 9) (Cls.gs _ _) (by kernel_rfl) rfl (by kernel_rfl) (by kernel_rfl) ((y_mul rfl rfl).lit (lit64 rfl (Int.le_trans (by decide) p2) (Int.le_trans p2' (by decide)))) rfl ?_
  refine a_y (i := 10) (Cls.gs _ _) (by kernel_rfl) rfl (by kernel_rfl) (by kernel_rfl) (y_assign rfl) rfl ?_
  refine a_y (i := 11) (Cls.gs _ _) (by kernel_rfl) rfl (by kernel_rfl) (by kernel_rfl) (y_assign rfl) rfl ?_
  refine a_done (by kernel_rfl) ?_
  refine e_then ?_
  refine CJ.weak (.c (t := 2) rfl (.c (t := 3) rfl (.c (t := 6) rfl (.c (t := 7) rfl .n)))) (fun _ h => h) ?_
  refine c_seq ?_
  refine c_draw (m := 12) (S0 := fun _ => True) (fun _ => false) (fun _ _ => trivial) hmix (Cls.gs _ _) rfl ?_
  refine a_y (i := 0) (Cls.gs _ _) (by kernel_rfl) rfl (by kernel_rfl) (by kernel_rfl) (y_fieldAddr rfl fa43_1) rfl ?_
  refine a_y (i := 1) (Cls.gs _ _) (by kernel_rfl) rfl (by kernel_rfl) (by kernel_rfl) (y_load rfl (LoadAt.oneL (.s .z) ty41 (.s .z))) rfl ?_
  refine a_y (i := 2) (Cls.gs _ _) (by kernel_rfl) rfl (by kernel_rfl) (by kernel_rfl) (y_fieldAddr rfl fa43_0) rfl ?_
  refine a_y (i := 3) (Cls.gs _ _) (by kernel_rfl) rfl (by kernel_rfl) (by kernel_rfl) (y_load rfl (LoadAt.oneL .z ty41 .z)) rfl ?_
  refine a_y (i := 4) (Cls.gs _ _) (by kernel_rfl) rfl (by kernel_rfl) (by kernel_rfl) ((y_mul rfl rfl).lit (lit64 rfl (Int.le_trans (by decide) p3) (Int.le_trans p3' (by decide)))) rfl ?_
  refine a_y (i := 5) (Cls.gs _ _) (by kernel_rfl) rfl (by kernel_rfl) (by kernel_rfl) (y_fieldAddr rfl fa43_1) rfl ?_
  refine a_y (i := 6) (Cls.gs _ _) (by kernel_rfl) rfl (by kernel_rfl) (by kernel_rfl) (y_load rfl (LoadAt.oneL (.s .z) ty41 (.s .z))) rfl ?_
  refine a_y (i := 7) (Cls.gs _ _) (by kernel_rfl) rfl (by kernel_rfl) (by kernel_rfl) (y_fieldAddr rfl fa43_1) rfl ?_
  refine a_y (i := 8) (Cls.gs _ _) (by kernel_rfl) rfl (by kernel_rfl) (by kernel_rfl) (y_load rfl (LoadAt.oneL .z ty41 (.s .z))) rfl ?_
  refine a_y (i := 9) (Cls.gs _ _) (by kernel_rfl) rfl (by kernel_rfl) (by kernel_rfl) ((y_mul rfl rfl).lit (lit64 rfl (Int.le_trans (by decide) p4) (Int.le_trans p4' (by decide)))) rfl ?_
  refine a_y (i := 10) (Cls.gs _ _) (by kernel_rfl) rfl (by kernel_rfl) (by kernel_rfl) (y_assign rfl) rfl ?_
  refine a_y (i := 11) (Cls.gs _ _) (by kernel_rfl) rfl (by kernel_rfl) (by kernel_rfl) (y_assign rfl) rfl ?_
  refine a_done (by kernel_rfl) ?_
  refine e_then ?_
  refine CJ.weak (.c (t := 6) rfl (.c (t := 7) rfl (.c (t := 8) rfl (.c (t := 9) rfl .n)))) (fun _ h => h) ?_
  refine c_seq ?_
  refine c_text ?_
  refine l_y (Cls.gs _ _) (y_move rfl) rfl ?_
  refine l_y (Cls.gs _ _) (y_move rfl) rfl ?_
  refine l_y (Cls.gs _ _) (y_move rfl) rfl ?_
  refine l_y (Cls.gs _ _) (y_move rfl) rfl ?_
  refine l_y (Cls.gs _ _) (y_min4 rfl rfl rfl rfl) rfl ?_
  refine l_y (Cls.gs _ _) (y_move rfl) rfl ?_
  refine l_y (Cls.gs _ _) (y_move rfl) rfl ?_
  refine l_y (Cls.gs _ _) (y_move rfl) rfl ?_
  refine l_y (Cls.gs _ _) (y_move rfl) rfl ?_
  refine l_y (Cls.gs _ _) (y_max4 rfl rfl rfl rfl) rfl ?_
  refine l_y (Cls.gs _ _) (y_assign rfl) rfl ?_
  refine l_y (Cls.gs _ _) (y_assign rfl) rfl ?_
  refine l_nil ?_
  refine e_then ?_
  refine CJ.weak (.c (t := 4) rfl (.c (t := 5) rfl .n)) (fun _ h => h) ?_
  refine c_ret ?_
  refine e_ret rfl (.t rfl (.t rfl .n)) (fun wF hw => ?_)
  exact ⟨rfl, (hw.anc (w, []) (by simp)).below⟩

theorem square54 (a : Bd) (ha : okB a = true) (w : World) : Calls Tryz.prog 54 #[.agg #[.int .i64 a.lo, .int .i64 a.hi, .bool a.u]] w fun e w' => e = .returned (.tuple #[.int .i64 (sqlo a), .int .i64 (sqhi a)]) ∧ Gr w w' := by
  obtain ⟨⟨p1, p1'⟩, ⟨p2, p2'⟩, ⟨p3, p3'⟩, ⟨p4, p4'⟩⟩ := pb ha ha
  refine enter Tryz.func54 rfl rfl rfl rfl (Cls.start w) ?_
  refine c_seq ?_
  refine c_text ?_
  refine l_n rfl (n_box rfl .a rfl) (fun b0 _ => ?_)
  refine l_y (Cls.gs _ _) (y_assign rfl) rfl ?_
  refine l_y (Cls.gs _ _) (y_assign rfl) rfl ?_
  refine l_nil ?_
  refine e_then ?_
  refine CJ.weak (.c (t := 1) rfl (.c (t := 2) rfl .n)) (fun _ h => h) ?_
  refine c_seq ?_
  refine c_draw (m := 6) (S0 := fun _ => True) (fun _ => false) (fun _ _ => trivial) hmix (Cls.gs _ _) rfl ?_
  refine a_y (i := 0) (Cls.gs _ _) (by kernel_rfl) rfl (by kernel_rfl) (by kernel_rfl) (y_fieldAddr rfl fa43_0) rfl ?_
  refine a_y (i := 1) (Cls.gs _ _) (by kernel_rfl) rfl (by kernel_rfl) (by kernel_rfl) (y_load rfl (LoadAt.oneL .z ty41 .z)) rfl ?_
  refine a_y (i := 2) (Cls.gs _ _) (by kernel_rfl) rfl (by kernel_rfl) (by kernel_rfl) (y_fieldAddr rfl fa43_1) rfl ?_
  refine a_y (i := 3) (Cls.gs _ _) (by kernel_rfl) rfl (by kernel_rfl) (by kernel_rfl) (y_load rfl (LoadAt.oneL .z ty41 (.s .z))) rfl ?_
  refine a_y (i := 4) (Cls.gs _ _) (by kernel_rfl) rfl (by kernel_rfl) (by kernel_rfl) (y_assign rfl) rfl ?_
  refine a_y (i := 5) (Cls.gs _ _) (by kernel_rfl) rfl (by kernel_rfl) (by kernel_rfl) (y_assign rfl) rfl ?_
  refine a_done (by kernel_rfl) ?_
  refine e_then ?_
  refine CJ.weak (.c (t := 2) rfl (.c (t := 4) rfl (.c (t := 5) rfl .n))) (fun _ h => h) ?_
  refine c_seq ?_
  refine c_text ?_
  refine l_y (Cls.gs _ _) (y_move rfl) rfl ?_
  refine l_y (Cls.gs _ _) (y_move rfl) rfl ?_
  refine l_y (Cls.gs _ _) ((y_mul rfl rfl).lit (lit64 rfl (Int.le_trans (by decide) p1) (Int.le_trans p1' (by decide)))) rfl ?_
  refine l_y (Cls.gs _ _) (y_move rfl) rfl ?_
  refine l_y (Cls.gs _ _) (y_move rfl) rfl ?_
  refine l_y (Cls.gs _ _) ((y_mul rfl rfl).lit (lit64 rfl (Int.le_trans (by decide) p4) (Int.le_trans p4' (by decide)))) rfl ?_
  refine l_y (Cls.gs _ _) (y_max2 rfl rfl) rfl ?_
  refine l_y (Cls.gs _ _) (y_assign rfl) rfl ?_
  refine l_nil ?_
  refine e_then ?_
  refine CJ.weak (.c (t := 2) rfl (.c (t := 3) rfl (.c (t := 4) rfl (.c (t := 5) rfl .n)))) (fun _ h => h) ?_
  refine c_seq ?_
  refine c_seq ?_
  refine c_text ?_
  refine l_y (Cls.gs _ _) (y_move rfl) rfl ?_
  refine l_y (Cls.gs _ _) (y_gtr rfl rfl) rfl ?_
  refine l_y (Cls.gs _ _) (y_move rfl) rfl ?_
  refine l_g (s := 19) (Cls.gs _ _) (by kernel_rfl) rfl (beq_f _) (fun hg => y_move rfl) rfl ?_
  refine l_g (s := 19) (Cls.gs _ _) (by kernel_rfl) rfl (beq_f _) (fun hg => y_lss (gvt hg rfl) rfl) rfl ?_
  refine l_y (Cls.gs _ _) (y_or rfl rfl rfl) rfl ?_
  refine l_nil ?_
  refine e_then ?_
  refine CJ.weak (.c (t := 2) rfl (.c (t := 3) rfl (.c (t := 4) rfl (.c (t := 5) rfl (.c (t := 22) rfl .n))))) (fun _ h => h) ?_
  refine c_cond rfl (fun h0 => ?_) (fun h0 => ?_)
  ·
    refine c_text ?_
    refine l_y (Cls.gs _ _) (y_move rfl) rfl ?_
    refine l_y (Cls.gs _ _) (y_move rfl) rfl ?_
    refine l_y (Cls.gs _ _) ((y_mul rfl rfl).lit (lit64 rfl (Int.le_trans (by decide) p1) (Int.le_trans p1' (by decide)))) rfl ?_
    refine l_y (Cls.gs _ _) (y_move rfl) rfl ?_
    refine l_y (Cls.gs _ _) (y_move rfl) rfl ?_
    refine l_y (Cls.gs _ _) ((y_mul rfl rfl).lit (lit64 rfl (Int.le_trans (by decide) p4) (Int.le_trans p4' (by decide)))) rfl ?_
    refine l_y (Cls.gs _ _) (y_min2 rfl rfl) rfl ?_
    refine l_y (Cls.gs _ _) (y_assign rfl) rfl ?_
    refine l_nil ?_
    refine e_then ?_
    refine CJ.weak (.c (t := 2) rfl (.c (t := 3) rfl .n)) (fun _ h => h) ?_
    refine c_seq ?_
    refine c_text ?_
    refine l_y (Cls.gs _ _) (y_move rfl) rfl ?_
    refine l_y (Cls.gs _ _) (y_move rfl) rfl ?_
    refine l_y (Cls.gs _ _) (y_assign rfl) rfl ?_
    refine l_y (Cls.gs _ _) (y_assign rfl) rfl ?_
    refine l_nil ?_
    refine e_then ?_
    refine CJ.weak (.c (t := 2) rfl (.c (t := 3) rfl .n)) (fun _ h => h) ?_
    refine c_ret ?_
    refine e_ret rfl (.t rfl (.t rfl .n)) (fun wF hw => ?_)
    exact ⟨by simp only [outOf, sqlo, sqhi, *, reduceIte, Bool.false_eq_true], (hw.anc (w, []) (by simp)).below⟩
  ·
    refine c_skip ?_
    refine e_then ?_
    refine CJ.weak (.c (t := 2) rfl (.c (t := 3) rfl .n)) (fun _ h => h) ?_
    refine c_seq ?_
    refine c_text ?_
    refine l_y (Cls.gs _ _) (y_move rfl) rfl ?_
    refine l_y (Cls.gs _ _) (y_move rfl) rfl ?_
    refine l_y (Cls.gs _ _) (y_assign rfl) rfl ?_
    refine l_y (Cls.gs _ _) (y_assign rfl) rfl ?_
    refine l_nil ?_
    refine e_then ?_
    refine CJ.weak (.c (t := 2) rfl (.c (t := 3) rfl .n)) (fun _ h => h) ?_
    refine c_ret ?_
    refine e_ret rfl (.t rfl (.t rfl .n)) (fun wF hw => ?_)
    exact ⟨by simp only [outOf, sqlo, sqhi, *, reduceIte, Bool.false_eq_true], (hw.anc (w, []) (by simp)).below⟩

theorem sides46 (a : Bx) (w : World) : Calls Tryz.prog 46 #[.agg #[.int .i64 a.x.lo, .int .i64 a.x.hi, .bool a.x.u, .int .i64 a.y.lo, .int .i64 a.y.hi, .bool a.y.u, .int .i64 a.z.lo, .int .i64 a.z.hi, .bool a.z.u]] w fun e w' => e = .returned (.tuple #[.agg #[.int .i64 a.x.lo, .int .i64 a.x.hi, .bool a.x.u, .int .i64 a.y.lo, .int .i64 a.y.hi, .bool a.y.u, .int .i64 a.z.lo, .int .i64 a.z.hi, .bool a.z.u], .bool (okX a)]) ∧ Gr w w' := by
  refine enter Tryz.func46 rfl rfl rfl rfl (Cls.start w) ?_
  refine c_seq ?_
  refine c_text ?_
  refine l_n rfl (n_box rfl .a rfl) (fun b0 _ => ?_)
  refine l_n rfl (n_alloc ty117 .a rfl) (fun b1 _ => ?_)
  refine l_y (Cls.gs _ _) (y_assign rfl) rfl ?_
  refine l_nil ?_
  refine e_then ?_
  refine CJ.weak (.c (t := 1) rfl (.c (t := 2) rfl .n)) (fun _ h => h) ?_
  refine c_seq ?_
  refine c_text ?_
  refine l_y (Cls.gs _ _) (y_fieldAddr rfl fa45_0) rfl ?_
  refine l_y (Cls.gs _ _) (y_load rfl (LoadAt.aggL (.s .z) ty43 (.t (.t (.t .d))))) rfl ?_
  refine l_y (Cls.gs _ _) (y_fieldAddr rfl fa45_1) rfl ?_
  refine l_y (Cls.gs _ _) (y_load rfl (LoadAt.aggL (.s .z) ty43 (.s (.s (.s (.t (.t (.t .d)))))))) rfl ?_
  refine l_y (Cls.gs _ _) (y_fieldAddr rfl fa45_2) rfl ?_
  refine l_y (Cls.gs _ _) (y_load rfl (LoadAt.aggL (.s .z) ty43 (.s (.s (.s (.s (.s (.s (.t (.t (.t .d))))))))))) rfl ?_
  refine l_y (Cls.gs _ _) (y_buildArr Tryz.underlying117 ty43 ty117 .a (.c rfl (.c rfl (.c rfl .n))) (.c rfl .a rfl rfl (.t (.t (.t .d))) (.c rfl .a rfl rfl (.s (.s (.s (.t (.t (.t .d)))))) (.c rfl .a rfl rfl (.s (.s (.s (.s (.s (.s (.t (.t (.t .d))))))))) .d)))) rfl ?_
  refine l_n rfl (n_alloc ty117 .a rfl) (fun b2 _ => ?_)
  refine l_n rfl (n_store rfl rfl ty117 .a rfl rfl .z (.t (.t (.t (.t (.t (.t (.t (.t (.t .d)))))))))) (fun _ _ => ?_)
  refine l_nil ?_
  refine e_then ?_
  refine CJ.weak (.c (t := 2) rfl (.c (t := 4) rfl .n)) (fun _ h => h) ?_
  refine c_seq ?_
  refine c_seq ?_
  refine c_text ?_
  refine l_y (Cls.gs _ _) (y_load rfl (LoadAt.aggL .z ty117 (.t (.t (.t (.t (.t (.t (.t (.t (.t .d))))))))))) rfl ?_
  refine l_y (Cls.gs _ _) (y_move rfl) rfl ?_
  refine l_nil ?_
  refine e_then ?_
  refine c_block ?_
  refine c_rounds 4 ?_
  refine r_succ ?_
  refine c_seq ?_
  refine c_text ?_
  refine l_y (Cls.gs _ _) ((y_lss rfl rfl).lit (by kernel_rfl : _ = Value.bool true)) rfl ?_
  refine l_nil ?_
  refine e_then ?_
  refine c_seq ?_
  refine c_true (by kernel_rfl) ?_
  refine c_skip ?_
  refine e_then ?_
  refine CJ.weak (.c (t := 2) rfl (.c (t := 4) rfl (.c (t := 14) rfl (.c (t := 15) rfl .n)))) (fun _ h => h) ?_
  refine c_seq ?_
  refine c_block ?_
  refine c_seq ?_
  refine c_text ?_
  refine l_y (Cls.gs _ _) (y_indexV 0 Tryz.underlying117 ty43 rfl rfl rfl rfl (.t (.t (.t .d)))) rfl ?_
  refine l_n rfl (n_alloc ty43 .a rfl) (fun b3 _ => ?_)
  refine l_n rfl (n_store rfl rfl ty43 .a rfl rfl .z (.t (.t (.t .d)))) (fun _ _ => ?_)
  refine l_nil ?_
  refine e_then ?_
  refine CJ.weak (.c (t := 2) rfl (.c (t := 4) rfl (.c (t := 6) rfl (.c (t := 14) rfl (.c (t := 15) rfl .n))))) (fun _ h => h) ?_
  refine c_seq ?_
  refine c_text ?_
  refine l_y (Cls.gs _ _) (y_fieldAddr rfl fa43_2) rfl ?_
  refine l_y (Cls.gs _ _) (y_load rfl (LoadAt.oneL .z ty4 (.s (.s .z)))) rfl ?_
  refine l_y (Cls.gs _ _) (y_move rfl) rfl ?_
  refine l_g (s := 20) (Cls.gs _ _) (by kernel_rfl) rfl (beq_f _) (fun hg => y_fieldAddr rfl fa43_0) rfl ?_
  refine l_g (s := 20) (Cls.gs _ _) (by kernel_rfl) rfl (beq_f _) (fun hg => y_load (gvt hg rfl) (LoadAt.oneL .z ty41 .z)) rfl ?_
  refine l_g (s := 20) (Cls.gs _ _) (by kernel_rfl) rfl (beq_f _) (fun hg => y_fieldAddr rfl fa43_1) rfl ?_
  refine l_g (s := 20) (Cls.gs _ _) (by kernel_rfl) rfl (beq_f _) (fun hg => y_load (gvt hg rfl) (LoadAt.oneL .z ty41 (.s .z))) rfl ?_
  refine l_g (s := 20) (Cls.gs _ _) (by kernel_rfl) rfl (beq_f _) (fun hg => y_gtr (gvt hg rfl) (gvt hg rfl)) rfl ?_
  refine l_y (Cls.gs _ _) (y_or rfl rfl rfl) rfl ?_
  refine l_y (Cls.gs _ _) (y_move rfl) rfl ?_
  refine l_g (s := 27) (Cls.gs _ _) (by kernel_rfl) rfl (beq_f _) (fun hg => y_fieldAddr rfl fa43_0) rfl ?_
  refine l_g (s := 27) (Cls.gs _ _) (by kernel_rfl) rfl (beq_f _) (fun hg => y_load (gvt hg rfl) (LoadAt.oneL .z ty41 .z)) rfl ?_
  refine l_g (s := 27) (Cls.gs _ _) (by kernel_rfl) rfl (beq_f _) (fun hg => y_lss (gvt hg rfl) rfl) rfl ?_
  refine l_y (Cls.gs _ _) (y_or rfl rfl rfl) rfl ?_
  refine l_y (Cls.gs _ _) (y_move rfl) rfl ?_
  refine l_g (s := 32) (Cls.gs _ _) (by kernel_rfl) rfl (beq_f _) (fun hg => y_fieldAddr rfl fa43_1) rfl ?_
  refine l_g (s := 32) (Cls.gs _ _) (by kernel_rfl) rfl (beq_f _) (fun hg => y_load (gvt hg rfl) (LoadAt.oneL .z ty41 (.s .z))) rfl ?_
  refine l_g (s := 32) (Cls.gs _ _) (by kernel_rfl) rfl (beq_f _) (fun hg => y_gtr (gvt hg rfl) rfl) rfl ?_
  refine l_y (Cls.gs _ _) (y_or rfl rfl rfl) rfl ?_
  refine l_nil ?_
  refine e_then ?_
  refine CJ.weak (.c (t := 2) rfl (.c (t := 4) rfl (.c (t := 14) rfl (.c (t := 15) rfl (.c (t := 36) rfl .n))))) (fun _ h => h) ?_
  refine c_cond rfl (fun h0 => ?_) (fun h0 => ?_)
  ·
    refine c_seq ?_
    refine c_text ?_
    refine l_y (Cls.gs _ _) (y_load rfl (LoadAt.aggL (.s .z) ty117 (.t (.t (.t (.t (.t (.t (.t (.t (.t .d))))))))))) rfl ?_
    refine l_n rfl (n_store rfl rfl ty117 .a rfl rfl (.s (.s .z)) (.t (.t (.t (.t (.t (.t (.t (.t (.t .d)))))))))) (fun _ _ => ?_)
    refine l_y (Cls.gs _ _) (y_assign rfl) rfl ?_
    refine l_nil ?_
    refine e_then ?_
    refine CJ.weak (.c (t := 2) rfl (.c (t := 3) rfl .n)) (fun _ h => h) ?_
    refine c_ret ?_
    refine e_block_ret ?_
    refine e_then_ret ?_
    refine e_then_ret ?_
    refine e_block_ret ?_
    refine e_then_ret ?_
    refine e_ret rfl (.c rfl (LoadAt.aggL (.s (.s .z)) ty117 (.t (.t (.t (.t (.t (.t (.t (.t (.t .d)))))))))) (.t rfl .n)) (fun wF hw => ?_)
    exact ⟨by simp only [outOf, okX, okB]; simp [*], (hw.anc (w, []) (by simp)).below⟩
  ·
    refine c_skip ?_
    refine e_block ?_
    refine e_then ?_
    refine CJ.weak (.c (t := 2) rfl (.c (t := 4) rfl (.c (t := 14) rfl (.c (t := 15) rfl .n)))) (fun _ h => h) ?_
    refine c_text ?_
    refine l_y (Cls.gs _ _) ((y_add rfl rfl).lit (by kernel_rfl : _ = Value.int .i64 1)) rfl ?_
    refine l_y (Cls.gs _ _) (y_move rfl) rfl ?_
    refine l_nil ?_
    refine e_rounds ?_
    refine RJ.weak (.c (t := 2) rfl (.c (t := 4) rfl (.c (t := 14) rfl (.c (t := 15) rfl .n)))) (fun _ h => h) ?_
    refine r_succ ?_
    refine c_seq ?_
    refine c_text ?_
    refine l_y (Cls.gs _ _) ((y_lss rfl rfl).lit (by kernel_rfl : _ = Value.bool true)) rfl ?_
    refine l_nil ?_
    refine e_then ?_
    refine c_seq ?_
    refine c_true (by kernel_rfl) ?_
    refine c_skip ?_
    refine e_then ?_
    refine CJ.weak (.c (t := 2) rfl (.c (t := 4) rfl (.c (t := 14) rfl (.c (t := 15) rfl .n)))) (fun _ h => h) ?_
    refine c_seq ?_
    refine c_block ?_
    refine c_seq ?_
    refine c_text ?_
    refine l_y (Cls.gs _ _) (y_indexV 1 Tryz.underlying117 ty43 rfl rfl rfl rfl (.s (.s (.s (.t (.t (.t .d))))))) rfl ?_
    refine l_n rfl (n_alloc ty43 .a rfl) (fun b4 _ => ?_)
    refine l_n rfl (n_store rfl rfl ty43 .a rfl rfl .z (.t (.t (.t .d)))) (fun _ _ => ?_)
    refine l_nil ?_
    refine e_then ?_
    refine CJ.weak (.c (t := 2) rfl (.c (t := 4) rfl (.c (t := 6) rfl (.c (t := 14) rfl (.c (t := 15) rfl .n))))) (fun _ h => h) ?_
    refine c_seq ?_
    refine c_text ?_
    refine l_y (Cls.gs _ _) (y_fieldAddr rfl fa43_2) rfl ?_
    refine l_y (Cls.gs _ _) (y_load rfl (LoadAt.oneL .z ty4 (.s (.s .z)))) rfl ?_
    refine l_y (Cls.gs _ _) (y_move rfl) rfl ?_
    refine l_g (s := 20) (Cls.gs _ _) (by kernel_rfl) rfl (beq_f _) (fun hg => y_fieldAddr rfl fa43_0) rfl ?_
    refine l_g (s := 20) (Cls.gs _ _) (by kernel_rfl) rfl (beq_f _) (fun hg => y_load (gvt hg rfl) (LoadAt.oneL .z ty41 .z)) rfl ?_
    refine l_g (s := 20) (Cls.gs _ _) (by kernel_rfl) rfl (beq_f _) (fun hg => y_fieldAddr rfl fa43_1) rfl ?_
    refine l_g (s := 20) (Cls.gs _ _) (by kernel_rfl) rfl (beq_f _) (fun hg => y_load (gvt hg rfl) (LoadAt.oneL .z ty41 (.s .z))) rfl ?_
    refine l_g (s := 20) (Cls.gs _ _) (by kernel_rfl) rfl (beq_f _) (fun hg => y_gtr (gvt hg rfl) (gvt hg rfl)) rfl ?_
    refine l_y (Cls.gs _ _) (y_or rfl rfl rfl) rfl ?_
    refine l_y (Cls.gs _ _) (y_move rfl) rfl ?_
    refine l_g (s := 27) (Cls.gs _ _) (by kernel_rfl) rfl (beq_f _) (fun hg => y_fieldAddr rfl fa43_0) rfl ?_
    refine l_g (s := 27) (Cls.gs _ _) (by kernel_rfl) rfl (beq_f _) (fun hg => y_load (gvt hg rfl) (LoadAt.oneL .z ty41 .z)) rfl ?_
    refine l_g (s := 27) (Cls.gs _ _) (by kernel_rfl) rfl (beq_f _) (fun hg => y_lss (gvt hg rfl) rfl) rfl ?_
    refine l_y (Cls.gs _ _) (y_or rfl rfl rfl) rfl ?_
    refine l_y (Cls.gs _ _) (y_move rfl) rfl ?_
    refine l_g (s := 32) (Cls.gs _ _) (by kernel_rfl) rfl (beq_f _) (fun hg => y_fieldAddr rfl fa43_1) rfl ?_
    refine l_g (s := 32) (Cls.gs _ _) (by kernel_rfl) rfl (beq_f _) (fun hg => y_load (gvt hg rfl) (LoadAt.oneL .z ty41 (.s .z))) rfl ?_
    refine l_g (s := 32) (Cls.gs _ _) (by kernel_rfl) rfl (beq_f _) (fun hg => y_gtr (gvt hg rfl) rfl) rfl ?_
    refine l_y (Cls.gs _ _) (y_or rfl rfl rfl) rfl ?_
    refine l_nil ?_
    refine e_then ?_
    refine CJ.weak (.c (t := 2) rfl (.c (t := 4) rfl (.c (t := 14) rfl (.c (t := 15) rfl (.c (t := 36) rfl .n))))) (fun _ h => h) ?_
    refine c_cond rfl (fun h1 => ?_) (fun h1 => ?_)
    ·
      refine c_seq ?_
      refine c_text ?_
      refine l_y (Cls.gs _ _) (y_load rfl (LoadAt.aggL (.s (.s .z)) ty117 (.t (.t (.t (.t (.t (.t (.t (.t (.t .d))))))))))) rfl ?_
      refine l_n rfl (n_store rfl rfl ty117 .a rfl rfl (.s (.s (.s .z))) (.t (.t (.t (.t (.t (.t (.t (.t (.t .d)))))))))) (fun _ _ => ?_)
      refine l_y (Cls.gs _ _) (y_assign rfl) rfl ?_
      refine l_nil ?_
      refine e_then ?_
      refine CJ.weak (.c (t := 2) rfl (.c (t := 3) rfl .n)) (fun _ h => h) ?_
      refine c_ret ?_
      refine e_block_ret ?_
      refine e_then_ret ?_
      refine e_then_ret ?_
      refine e_block_ret ?_
      refine e_then_ret ?_
      refine e_ret rfl (.c rfl (LoadAt.aggL (.s (.s (.s .z))) ty117 (.t (.t (.t (.t (.t (.t (.t (.t (.t .d)))))))))) (.t rfl .n)) (fun wF hw => ?_)
      exact ⟨by simp only [outOf, okX, okB]; simp [*], (hw.anc (w, []) (by simp)).below⟩
    ·
      refine c_skip ?_
      refine e_block ?_
      refine e_then ?_
      refine CJ.weak (.c (t := 2) rfl (.c (t := 4) rfl (.c (t := 14) rfl (.c (t := 15) rfl .n)))) (fun _ h => h) ?_
      refine c_text ?_
      refine l_y (Cls.gs _ _) ((y_add rfl rfl).lit (by kernel_rfl : _ = Value.int .i64 2)) rfl ?_
      refine l_y (Cls.gs _ _) (y_move rfl) rfl ?_
      refine l_nil ?_
      refine e_rounds ?_
      refine RJ.weak (.c (t := 2) rfl (.c (t := 4) rfl (.c (t := 14) rfl (.c (t := 15) rfl .n)))) (fun _ h => h) ?_
      refine r_succ ?_
      refine c_seq ?_
      refine c_text ?_
      refine l_y (Cls.gs _ _) ((y_lss rfl rfl).lit (by kernel_rfl : _ = Value.bool true)) rfl ?_
      refine l_nil ?_
      refine e_then ?_
      refine c_seq ?_
      refine c_true (by kernel_rfl) ?_
      refine c_skip ?_
      refine e_then ?_
      refine CJ.weak (.c (t := 2) rfl (.c (t := 4) rfl (.c (t := 14) rfl (.c (t := 15) rfl .n)))) (fun _ h => h) ?_
      refine c_seq ?_
      refine c_block ?_
      refine c_seq ?_
      refine c_text ?_
      refine l_y (Cls.gs _ _) (y_indexV 2 Tryz.underlying117 ty43 rfl rfl rfl rfl (.s (.s (.s (.s (.s (.s (.t (.t (.t .d)))))))))) rfl ?_
      refine l_n rfl (n_alloc ty43 .a rfl) (fun b5 _ => ?_)
      refine l_n rfl (n_store rfl rfl ty43 .a rfl rfl .z (.t (.t (.t .d)))) (fun _ _ => ?_)
      refine l_nil ?_
      refine e_then ?_
      refine CJ.weak (.c (t := 2) rfl (.c (t := 4) rfl (.c (t := 6) rfl (.c (t := 14) rfl (.c (t := 15) rfl .n))))) (fun _ h => h) ?_
      refine c_seq ?_
      refine c_text ?_
      refine l_y (Cls.gs _ _) (y_fieldAddr rfl fa43_2) rfl ?_
      refine l_y (Cls.gs _ _) (y_load rfl (LoadAt.oneL .z ty4 (.s (.s .z)))) rfl ?_
      refine l_y (Cls.gs _ _) (y_move rfl) rfl ?_
      refine l_g (s := 20) (Cls.gs _ _) (by kernel_rfl) rfl (beq_f _) (fun hg => y_fieldAddr rfl fa43_0) rfl ?_
      refine l_g (s := 20) (Cls.gs _ _) (by kernel_rfl) rfl (beq_f _) (fun hg => y_load (gvt hg rfl) (LoadAt.oneL .z ty41 .z)) rfl ?_
      refine l_g (s := 20) (Cls.gs _ _) (by kernel_rfl) rfl (beq_f _) (fun hg => y_fieldAddr rfl fa43_1) rfl ?_
      refine l_g (s := 20) (Cls.gs _ _) (by kernel_rfl) rfl (beq_f _) (fun hg => y_load (gvt hg rfl) (LoadAt.oneL .z ty41 (.s .z))) rfl ?_
      refine l_g (s := 20) (Cls.gs _ _) (by kernel_rfl) rfl (beq_f _) (fun hg => y_gtr (gvt hg rfl) (gvt hg rfl)) rfl ?_
      refine l_y (Cls.gs _ _) (y_or rfl rfl rfl) rfl ?_
      refine l_y (Cls.gs _ _) (y_move rfl) rfl ?_
      refine l_g (s := 27) (Cls.gs _ _) (by kernel_rfl) rfl (beq_f _) (fun hg => y_fieldAddr rfl fa43_0) rfl ?_
      refine l_g (s := 27) (Cls.gs _ _) (by kernel_rfl) rfl (beq_f _) (fun hg => y_load (gvt hg rfl) (LoadAt.oneL .z ty41 .z)) rfl ?_
      refine l_g (s := 27) (Cls.gs _ _) (by kernel_rfl) rfl (beq_f _) (fun hg => y_lss (gvt hg rfl) rfl) rfl ?_
      refine l_y (Cls.gs _ _) (y_or rfl rfl rfl) rfl ?_
      refine l_y (Cls.gs _ _) (y_move rfl) rfl ?_
      refine l_g (s := 32) (Cls.gs _ _) (by kernel_rfl) rfl (beq_f _) (fun hg => y_fieldAddr rfl fa43_1) rfl ?_
      refine l_g (s := 32) (Cls.gs _ _) (by kernel_rfl) rfl (beq_f _) (fun hg => y_load (gvt hg rfl) (LoadAt.oneL .z ty41 (.s .z))) rfl ?_
      refine l_g (s := 32) (Cls.gs _ _) (by kernel_rfl) rfl (beq_f _) (fun hg => y_gtr (gvt hg rfl) rfl) rfl ?_
      refine l_y (Cls.gs _ _) (y_or rfl rfl rfl) rfl ?_
      refine l_nil ?_
      refine e_then ?_
      refine CJ.weak (.c (t := 2) rfl (.c (t := 4) rfl (.c (t := 14) rfl (.c (t := 15) rfl (.c (t := 36) rfl .n))))) (fun _ h => h) ?_
      refine c_cond rfl (fun h2 => ?_) (fun h2 => ?_)
      ·
        refine c_seq ?_
        refine c_text ?_
        refine l_y (Cls.gs _ _) (y_load rfl (LoadAt.aggL (.s (.s (.s .z))) ty117 (.t (.t (.t (.t (.t (.t (.t (.t (.t .d))))))))))) rfl ?_
        refine l_n rfl (n_store rfl rfl ty117 .a rfl rfl (.s (.s (.s (.s .z)))) (.t (.t (.t (.t (.t (.t (.t (.t (.t .d)))))))))) (fun _ _ => ?_)
        refine l_y (Cls.gs _ _) (y_assign rfl) rfl ?_
        refine l_nil ?_
        refine e_then ?_
        refine CJ.weak (.c (t := 2) rfl (.c (t := 3) rfl .n)) (fun _ h => h) ?_
        refine c_ret ?_
        refine e_block_ret ?_
        refine e_then_ret ?_
        refine e_then_ret ?_
        refine e_block_ret ?_
        refine e_then_ret ?_
        refine e_ret rfl (.c rfl (LoadAt.aggL (.s (.s (.s (.s .z)))) ty117 (.t (.t (.t (.t (.t (.t (.t (.t (.t .d)))))))))) (.t rfl .n)) (fun wF hw => ?_)
        exact ⟨by simp only [outOf, okX, okB]; simp [*], (hw.anc (w, []) (by simp)).below⟩
      ·
        refine c_skip ?_
        refine e_block ?_
        refine e_then ?_
        refine CJ.weak (.c (t := 2) rfl (.c (t := 4) rfl (.c (t := 14) rfl (.c (t := 15) rfl .n)))) (fun _ h => h) ?_
        refine c_text ?_
        refine l_y (Cls.gs _ _) ((y_add rfl rfl).lit (by kernel_rfl : _ = Value.int .i64 3)) rfl ?_
        refine l_y (Cls.gs _ _) (y_move rfl) rfl ?_
        refine l_nil ?_
        refine e_rounds ?_
        refine RJ.weak (.c (t := 2) rfl (.c (t := 4) rfl (.c (t := 14) rfl (.c (t := 15) rfl .n)))) (fun _ h => h) ?_
        refine r_succ ?_
        refine c_seq ?_
        refine c_text ?_
        refine l_y (Cls.gs _ _) ((y_lss rfl rfl).lit (by kernel_rfl : _ = Value.bool false)) rfl ?_
        refine l_nil ?_
        refine e_then ?_
        refine c_seq ?_
        refine c_false (by kernel_rfl) ?_
        refine c_exit ?_
        refine e_then_exit ?_
        refine e_then_exit ?_
        refine e_block_hit ?_
        refine e_then ?_
        refine CJ.weak (.c (t := 2) rfl (.c (t := 4) rfl .n)) (fun _ h => h) ?_
        refine c_seq ?_
        refine c_text ?_
        refine l_y (Cls.gs _ _) (y_load rfl (LoadAt.aggL (.s (.s (.s .z))) ty117 (.t (.t (.t (.t (.t (.t (.t (.t (.t .d))))))))))) rfl ?_
        refine l_n rfl (n_store rfl rfl ty117 .a rfl rfl (.s (.s (.s (.s .z)))) (.t (.t (.t (.t (.t (.t (.t (.t (.t .d)))))))))) (fun _ _ => ?_)
        refine l_y (Cls.gs _ _) (y_assign rfl) rfl ?_
        refine l_nil ?_
        refine e_then ?_
        refine CJ.weak (.c (t := 2) rfl (.c (t := 3) rfl .n)) (fun _ h => h) ?_
        refine c_ret ?_
        refine e_ret rfl (.c rfl (LoadAt.aggL (.s (.s (.s (.s .z)))) ty117 (.t (.t (.t (.t (.t (.t (.t (.t (.t .d)))))))))) (.t rfl .n)) (fun wF hw => ?_)
        exact ⟨by simp only [outOf, okX, okB]; simp [*], (hw.anc (w, []) (by simp)).below⟩

end Go.Proofs.YtdpdahpkdimopaaGreat
