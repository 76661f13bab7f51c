/-
  A part of the proof of TopAskedElsewhere: walks of single functions.
-/
import Derived.Test.YtdpdahpkdimopaaGreatQf
import Derived.Test.YtdpdahpkdimopaaGreatB
import Derived.Test.YtdpdahpkdimopaaGreatQ1
import Derived.Test.YtdpdahpkdimopaaGreatQ2
import Derived.Test.YtdpdahpkdimopaaGreatQ3
import Derived.Test.YtdpdahpkdimopaaGreatQ4
import Derived.Test.YtdpdahpkdimopaaGreatQ5
import Derived.KernelRfl
set_option linter.unusedVariables false
set_option linter.unusedSimpArgs false
set_option maxRecDepth 100000
namespace Go.Proofs.YtdpdahpkdimopaaGreat
open Go Go.Px Sg
open Go.Px Sg
theorem pt58 (c : Int) (w : World) : Calls Tryz.prog 58 #[.int .i64 c] w fun e w' => e = .returned (.agg #[.int .i64 c, .int .i64 c, .bool false]) ∧ Gr w w' := by
  refine enter Tryz.func58 rfl rfl rfl rfl (Cls.start w) ?_
  refine c_seq ?_
  refine c_text ?_
  refine l_n rfl (n_alloc ty43 .a rfl) (fun b0 _ => ?_)
  refine l_nil ?_
  refine e_then ?_
  refine c_seq ?_
  refine c_text ?_
  refine l_y (Cls.gs _ _) (y_move rfl) rfl ?_
  refine l_y (Cls.gs _ _) (y_move rfl) rfl ?_
  refine l_y (Cls.gs _ _) (y_build pl43 ty43 .a (.c rfl (.c rfl .n)) (.c rfl (.o rfl) rfl rfl (.t .d) (.c rfl (.o rfl) rfl rfl (.s (.t .d)) .d))) rfl ?_
  refine l_n rfl (n_store rfl rfl ty43 .a rfl rfl .z (.t (.t (.t .d)))) (fun _ _ => ?_)
  refine l_nil ?_
  refine e_then ?_
  refine CJ.weak (.c (t := 2) rfl .n) (fun _ h => h) ?_
  refine c_ret ?_
  refine e_ret rfl (.c rfl (LoadAt.aggL .z ty43 (.t (.t (.t .d)))) .n) (fun wF hw => ?_)
  exact ⟨rfl, (hw.anc (w, []) (by simp)).below⟩

theorem point29 (x y z : Int) (w : World) : Calls Tryz.prog 29 #[.agg #[.int .i64 x, .int .i64 y, .int .i64 z]] w fun e w' => e = .returned (.agg #[.int .i64 x, .int .i64 x, .bool false, .int .i64 y, .int .i64 y, .bool false, .int .i64 z, .int .i64 z, .bool false]) ∧ Gr w w' := by
  refine enter Tryz.func29 rfl rfl rfl rfl (Cls.start w) ?_
  refine c_seq ?_
  refine c_text ?_
  refine l_n rfl (n_box rfl .a rfl) (fun b0 _ => ?_)
  refine l_n rfl (n_alloc ty45 .a rfl) (fun b1 _ => ?_)
  refine l_nil ?_
  refine e_then ?_
  refine CJ.weak (.c (t := 1) rfl (.c (t := 2) rfl .n)) (fun _ h => h) ?_
  refine c_seq ?_
  refine c_text ?_
  refine l_y (Cls.gs _ _) (y_assign rfl) rfl ?_
  refine l_nil ?_
  refine e_then ?_
  refine c_seq ?_
  refine c_draw (m := 14) (S0 := fun _ => True) (fun i => Nat.beq i 13) (fun _ _ => trivial) hmix (Cls.gs _ _) rfl ?_
  refine a_y (i := 0) (Cls.gs _ _) (by kernel_rfl) rfl (by kernel_rfl) (by kernel_rfl) (y_move rfl) rfl ?_
  refine a_y (i := 1) (Cls.gs _ _) (by kernel_rfl) rfl (by kernel_rfl) (by kernel_rfl) (y_fieldAddr rfl fa36_0) rfl ?_
  refine a_y (i := 2) (Cls.gs _ _) (by kernel_rfl) rfl (by kernel_rfl) (by kernel_rfl) (y_load rfl (LoadAt.oneL (.s .z) ty2 .z)) rfl ?_
  refine a_y (i := 3) (Cls.gs _ _) (by kernel_rfl) rfl (by kernel_rfl) (by kernel_rfl) (y_callv ent58 rfl (.c rfl .n) (fun w _ => pt58 _ w)) rfl ?_
  refine a_y (i := 4) (Cls.gs _ _) (by kernel_rfl) rfl (by kernel_rfl) (by kernel_rfl) (y_move rfl) rfl ?_
  refine a_y (i := 5) (Cls.gs _ _) (by kernel_rfl) rfl (by kernel_rfl) (by kernel_rfl) (y_fieldAddr rfl fa36_1) rfl ?_
  refine a_y (i := 6) (Cls.gs _ _) (by kernel_rfl) rfl (by kernel_rfl) (by kernel_rfl) (y_load rfl (LoadAt.oneL (.s .z) ty2 (.s .z))) rfl ?_
  refine a_y (i := 7) (Cls.gs _ _) (by kernel_rfl) rfl (by kernel_rfl) (by kernel_rfl) (y_callv ent58 rfl (.c rfl .n) (fun w _ => pt58 _ w)) rfl ?_
  refine a_y (i := 8) (Cls.gs _ _) (by kernel_rfl) rfl (by kernel_rfl) (by kernel_rfl) (y_move rfl) rfl ?_
  refine a_y (i := 9) (Cls.gs _ _) (by kernel_rfl) rfl (by kernel_rfl) (by kernel_rfl) (y_fieldAddr rfl fa36_2) rfl ?_
  refine a_y (i := 10) (Cls.gs _ _) (by kernel_rfl) rfl (by kernel_rfl) (by kernel_rfl) (y_load rfl (LoadAt.oneL (.s .z) ty2 (.s (.s .z)))) rfl ?_
  refine a_y (i := 11) (Cls.gs _ _) (by kernel_rfl) rfl (by kernel_rfl) (by kernel_rfl) (y_callv ent58 rfl (.c rfl .n) (fun w _ => pt58 _ w)) rfl ?_
  refine a_y (i := 12) (Cls.gs _ _) (by kernel_rfl) rfl (by kernel_rfl) (by kernel_rfl) (y_build pl45 ty45 .a (.c rfl (.c rfl (.c rfl .n))) (.c rfl .a rfl rfl (.t (.t (.t .d))) (.c rfl .a rfl rfl (.s (.s (.s (.t (.t (.t .d)))))) (.c rfl .a rfl rfl (.s (.s (.s (.s (.s (.s (.t (.t (.t .d))))))))) .d)))) rfl ?_
  refine a_n (i := 13) rfl rfl (by kernel_rfl) (fun _ => Cls.gs _ _) (.inl ⟨rfl, fun _ _ _ => trivial⟩) (n_store rfl rfl ty45 .a rfl rfl .z (.t (.t (.t (.t (.t (.t (.t (.t (.t .d)))))))))) (fun _ _ => ?_)
  refine a_done (by kernel_rfl) ?_
  refine e_then ?_
  refine CJ.weak (.c (t := 2) rfl .n) (fun _ h => h) ?_
  refine c_ret ?_
  refine e_ret rfl (.c rfl (LoadAt.aggL .z ty45 (.t (.t (.t (.t (.t (.t (.t (.t (.t .d)))))))))) .n) (fun wF hw => ?_)
  exact ⟨rfl, (hw.anc (w, []) (by simp)).below⟩

theorem near28 (a b : Bx) (c : Int) (w : World) : Calls Tryz.prog 28 #[.agg #[.int .i64 a.x.lo, .int .i64 a.x.hi, .bool a.x.u, .int .i64 a.y.lo, .int .i64 a.y.hi, .bool a.y.u, .int .i64 a.z.lo, .int .i64 a.z.hi, .bool a.z.u], .agg #[.int .i64 b.x.lo, .int .i64 b.x.hi, .bool b.x.u, .int .i64 b.y.lo, .int .i64 b.y.hi, .bool b.y.u, .int .i64 b.z.lo, .int .i64 b.z.hi, .bool b.z.u], .int .i64 c] w fun e w' => e = .returned (.int .i64 (nearV a b c)) ∧ Gr w w' := by
  refine enter Tryz.func28 rfl rfl rfl rfl (Cls.start w) ?_
  refine c_seq ?_
  refine c_text ?_
  refine l_n rfl (n_box rfl .a rfl) (fun b0 _ => ?_)
  refine l_n rfl (n_box rfl .a rfl) (fun b1 _ => ?_)
  refine l_y (Cls.gs _ _) (y_assign rfl) rfl ?_
  refine l_nil ?_
  refine e_then ?_
  refine CJ.weak (.c (t := 2) rfl (.c (t := 3) rfl (.c (t := 4) rfl .n))) (fun _ h => h) ?_
  refine c_seq ?_
  refine c_text ?_
  refine l_y (Cls.gs _ _) (y_load rfl (LoadAt.aggL (.s .z) ty45 (.t (.t (.t (.t (.t (.t (.t (.t (.t .d))))))))))) rfl ?_
  refine l_y (Cls.gs _ _) (y_call ent46 (.c rfl .n) (fun w _ => sides46 _ w)) rfl ?_
  refine l_y (Cls.gs _ _) (y_move rfl) rfl ?_
  refine l_y (Cls.gs _ _) (y_extract rfl .z) rfl ?_
  refine l_y (Cls.gs _ _) (y_extract rfl (.s .z)) rfl ?_
  refine l_n rfl (n_alloc ty117 .a rfl) (fun b2 _ => ?_)
  refine l_n rfl (n_store rfl rfl ty117 .a rfl rfl .z (.t (.t (.t (.t (.t (.t (.t (.t (.t .d)))))))))) (fun _ _ => ?_)
  refine l_y (Cls.gs _ _) (y_assign rfl) rfl ?_
  refine l_nil ?_
  refine e_then ?_
  refine CJ.weak (.c (t := 2) rfl (.c (t := 4) rfl (.c (t := 7) rfl (.c (t := 8) rfl .n)))) (fun _ h => h) ?_
  refine c_seq ?_
  refine c_text ?_
  refine l_y (Cls.gs _ _) (y_load rfl (LoadAt.aggL (.s .z) ty45 (.t (.t (.t (.t (.t (.t (.t (.t (.t .d))))))))))) rfl ?_
  refine l_y (Cls.gs _ _) (y_call ent46 (.c rfl .n) (fun w _ => sides46 _ w)) rfl ?_
  refine l_y (Cls.gs _ _) (y_move rfl) rfl ?_
  refine l_y (Cls.gs _ _) (y_extract rfl .z) rfl ?_
  refine l_y (Cls.gs _ _) (y_extract rfl (.s .z)) rfl ?_
  refine l_n rfl (n_alloc ty117 .a rfl) (fun b3 _ => ?_)
  refine l_n rfl (n_store rfl rfl ty117 .a rfl rfl .z (.t (.t (.t (.t (.t (.t (.t (.t (.t .d)))))))))) (fun _ _ => ?_)
  refine l_y (Cls.gs _ _) (y_assign rfl) rfl ?_
  refine l_nil ?_
  refine e_then ?_
  refine CJ.weak (.c (t := 2) rfl (.c (t := 7) rfl (.c (t := 8) rfl (.c (t := 9) rfl (.c (t := 10) rfl .n))))) (fun _ h => h) ?_
  refine c_seq ?_
  refine c_seq ?_
  refine c_text ?_
  refine l_y (Cls.gs _ _) (y_move rfl) rfl ?_
  refine l_y (Cls.gs _ _) (y_lss rfl rfl) rfl ?_
  refine l_y (Cls.gs _ _) (y_move rfl) rfl ?_
  refine l_g (s := 33) (Cls.gs _ _) (by kernel_rfl) rfl (beq_f _) (fun hg => y_move rfl) rfl ?_
  refine l_g (s := 33) (Cls.gs _ _) (by kernel_rfl) rfl (beq_f _) (fun hg => y_gtr (gvt hg rfl) rfl) rfl ?_
  refine l_y (Cls.gs _ _) (y_or rfl rfl rfl) rfl ?_
  refine l_nil ?_
  refine e_then ?_
  refine CJ.weak (.c (t := 2) rfl (.c (t := 7) rfl (.c (t := 8) rfl (.c (t := 9) rfl (.c (t := 10) rfl (.c (t := 36) rfl .n)))))) (fun _ h => h) ?_
  refine c_cond rfl (fun h0 => ?_) (fun h0 => ?_)
  ·
    refine c_seq ?_
    refine c_text ?_
    refine l_y (Cls.gs _ _) (y_assign rfl) rfl ?_
    refine l_nil ?_
    refine e_then ?_
    refine CJ.weak (.c (t := 6) rfl .n) (fun _ h => h) ?_
    refine c_ret ?_
    refine e_then_ret ?_
    refine e_ret rfl (.t rfl .n) (fun wF hw => ?_)
    exact ⟨congrArg (fun x => Ending.returned (.int .i64 x)) (near_a h0).symm, (hw.anc (w, []) (by simp)).below⟩
  · have hc : 0 ≤ c ∧ c ≤ 1073741824 := by simpa only [Bool.or_eq_false_iff, decide_eq_false_iff_not, Int.not_lt] using h0
    refine c_skip ?_
    refine e_then ?_
    refine CJ.weak (.c (t := 2) rfl (.c (t := 7) rfl (.c (t := 8) rfl (.c (t := 9) rfl (.c (t := 10) rfl .n))))) (fun _ h => h) ?_
    refine c_seq ?_
    refine c_seq ?_
    refine c_text ?_
    refine l_y (Cls.gs _ _) (y_move rfl) rfl ?_
    refine l_y (Cls.gs _ _) (y_not rfl) rfl ?_
    refine l_y (Cls.gs _ _) (y_move rfl) rfl ?_
    refine l_g (s := 39) (Cls.gs _ _) (by kernel_rfl) rfl (beq_f _) (fun hg => y_move rfl) rfl ?_
    refine l_g (s := 39) (Cls.gs _ _) (by kernel_rfl) rfl (beq_f _) (fun hg => y_not (gvt hg rfl)) rfl ?_
    refine l_y (Cls.gs _ _) (y_or rfl rfl rfl) rfl ?_
    refine l_nil ?_
    refine e_then ?_
    refine CJ.weak (.c (t := 2) rfl (.c (t := 7) rfl (.c (t := 9) rfl (.c (t := 42) rfl .n)))) (fun _ h => h) ?_
    refine c_cond rfl (fun h1 => ?_) (fun h1 => ?_)
    ·
      refine c_seq ?_
      refine c_text ?_
      refine l_y (Cls.gs _ _) (y_assign rfl) rfl ?_
      refine l_nil ?_
      refine e_then ?_
      refine CJ.weak (.c (t := 6) rfl .n) (fun _ h => h) ?_
      refine c_ret ?_
      refine e_then_ret ?_
      refine e_ret rfl (.t rfl .n) (fun wF hw => ?_)
      exact ⟨congrArg (fun x => Ending.returned (.int .i64 x)) (near_b h0 h1).symm, (hw.anc (w, []) (by simp)).below⟩
    · obtain ⟨⟨⟨oa1, oa2⟩, oa3⟩, ⟨⟨ob1, ob2⟩, ob3⟩⟩ := okX_both h1
      have M1 := pm_in oa1 ob1
      have M2 := pm_in oa2 ob2
      have M3 := pm_in oa3 ob3
      have S1 := sq_in oa1
      have S2 := sq_in oa2
      have S3 := sq_in oa3
      have T1 := sq_in ob1
      have T2 := sq_in ob2
      have T3 := sq_in ob3
      have G1 := isq_le (h := (0 + sqhi a.x + sqhi a.y + sqhi a.z)) (k := (0 + sqhi b.x + sqhi b.y + sqhi b.z)) (by omega) (by omega) (by omega) (by omega)
      have G2 := isq_le (h := (0 + sqlo a.x + sqlo a.y + sqlo a.z)) (k := (0 + sqlo b.x + sqlo b.y + sqlo b.z)) (by omega) (by omega) (by omega) (by omega)
      refine c_skip ?_
      refine e_then ?_
      refine CJ.weak (.c (t := 2) rfl (.c (t := 7) rfl (.c (t := 9) rfl .n))) (fun _ h => h) ?_
      refine c_seq ?_
      refine c_text ?_
      refine l_y (Cls.gs _ _) (y_assign rfl) rfl ?_
      refine l_y (Cls.gs _ _) (y_assign rfl) rfl ?_
      refine l_y (Cls.gs _ _) (y_assign rfl) rfl ?_
      refine l_y (Cls.gs _ _) (y_assign rfl) rfl ?_
      refine l_y (Cls.gs _ _) (y_assign rfl) rfl ?_
      refine l_y (Cls.gs _ _) (y_assign rfl) rfl ?_
      refine l_nil ?_
      refine e_then ?_
      refine c_seq ?_
      refine c_seq ?_
      refine c_text ?_
      refine l_y (Cls.gs _ _) (y_move rfl) rfl ?_
      refine l_nil ?_
      refine e_then ?_
      refine c_block ?_
      refine c_rounds 4 ?_
      refine r_succ ?_
      refine c_seq ?_
      refine c_text ?_
      refine l_y (Cls.gs _ _) ((y_lss rfl rfl).lit (by kernel_rfl : _ = Value.bool true)) rfl ?_
      refine l_nil ?_
      refine e_then ?_
      refine c_seq ?_
      refine c_true (by kernel_rfl) ?_
      refine c_skip ?_
      refine e_then ?_
      refine CJ.weak (.c (t := 2) rfl (.c (t := 7) rfl (.c (t := 9) rfl (.c (t := 11) rfl (.c (t := 12) rfl (.c (t := 13) rfl (.c (t := 14) rfl (.c (t := 15) rfl (.c (t := 16) rfl (.c (t := 43) rfl .n)))))))))) (fun _ h => h) ?_
      refine c_seq ?_
      refine c_block ?_
      refine c_seq ?_
      refine c_text ?_
      refine l_y (Cls.gs _ _) (y_move rfl) rfl ?_
      refine l_y (Cls.gs _ _) (y_assign rfl) rfl ?_
      refine l_nil ?_
      refine e_then ?_
      refine CJ.weak (.c (t := 2) rfl (.c (t := 7) rfl (.c (t := 9) rfl (.c (t := 11) rfl (.c (t := 12) rfl (.c (t := 13) rfl (.c (t := 14) rfl (.c (t := 15) rfl (.c (t := 16) rfl (.c (t := 17) rfl (.c (t := 43) rfl .n))))))))))) (fun _ h => h) ?_
      refine c_seq ?_
      refine c_draw (m := 12) (S0 := fun _ => True) (fun _ => false) (fun _ _ => trivial) hmix (Cls.gs _ _) rfl ?_
      refine a_y (i := 0) (Cls.gs _ _) (by kernel_rfl) rfl (by kernel_rfl) (by kernel_rfl) (y_move rfl) rfl ?_
      refine a_y (i := 1) (Cls.gs _ _) (by kernel_rfl) rfl (by kernel_rfl) (by kernel_rfl) (y_indexArr Tryz.underlying117 ty43 rfl rfl (by decide) (by decide)) rfl ?_
      refine a_y (i := 2) (Cls.gs _ _) (by kernel_rfl) rfl (by kernel_rfl) (by kernel_rfl) (y_load rfl (LoadAt.aggL (.s .z) ty43 (.t (.t (.t .d))))) rfl ?_
      refine a_y (i := 3) (Cls.gs _ _) (by kernel_rfl) rfl (by kernel_rfl) (by kernel_rfl) (y_move rfl) rfl ?_
      refine a_y (i := 4) (Cls.gs _ _) (by kernel_rfl) rfl (by kernel_rfl) (by kernel_rfl) (y_indexArr Tryz.underlying117 ty43 rfl rfl (by decide) (by decide)) rfl ?_
      refine a_y (i := 5) (Cls.gs _ _) (by kernel_rfl) rfl (by kernel_rfl) (by kernel_rfl) (y_load rfl (LoadAt.aggL .z ty43 (.t (.t (.t .d))))) rfl ?_
      refine a_y (i := 6) (Cls.gs _ _) (by kernel_rfl) rfl (by kernel_rfl) (by kernel_rfl) (y_call ent53 (.c rfl (.c rfl .n)) (fun w _ => product53 _ _ (by assumption) (by assumption) w)) rfl ?_
      refine a_y (i := 7) (Cls.gs _ _) (by kernel_rfl) rfl (by kernel_rfl) (by kernel_rfl) (y_move rfl) rfl ?_
      refine a_y (i := 8) (Cls.gs _ _) (by kernel_rfl) rfl (by kernel_rfl) (by kernel_rfl) (y_extract rfl .z) rfl ?_
      refine a_y (i := 9) (Cls.gs _ _) (by kernel_rfl) rfl (by kernel_rfl) (by kernel_rfl) (y_extract rfl (.s .z)) rfl ?_
      refine a_y (i := 10) (Cls.gs _ _) (by kernel_rfl) rfl (by kernel_rfl) (by kernel_rfl) (y_assign rfl) rfl ?_
      refine a_y (i := 11) (Cls.gs _ _) (by kernel_rfl) rfl (by kernel_rfl) (by kernel_rfl) (y_assign rfl) rfl ?_
      refine a_done (by kernel_rfl) ?_
      refine e_then ?_
      refine CJ.weak (.c (t := 2) rfl (.c (t := 7) rfl (.c (t := 9) rfl (.c (t := 11) rfl (.c (t := 12) rfl (.c (t := 13) rfl (.c (t := 14) rfl (.c (t := 15) rfl (.c (t := 16) rfl (.c (t := 17) rfl (.c (t := 18) rfl (.c (t := 19) rfl (.c (t := 43) rfl .n))))))))))))) (fun _ h => h) ?_
      refine c_seq ?_
      refine c_text ?_
      refine l_y (Cls.gs _ _) (y_move rfl) rfl ?_
      refine l_y (Cls.gs _ _) (y_move rfl) rfl ?_
      refine l_y (Cls.gs _ _) ((y_add rfl rfl).lit (lit64 rfl (by omega) (by omega))) rfl ?_
      refine l_y (Cls.gs _ _) (y_move rfl) rfl ?_
      refine l_y (Cls.gs _ _) (y_move rfl) rfl ?_
      refine l_y (Cls.gs _ _) ((y_add rfl rfl).lit (lit64 rfl (by omega) (by omega))) rfl ?_
      refine l_y (Cls.gs _ _) (y_assign rfl) rfl ?_
      refine l_y (Cls.gs _ _) (y_assign rfl) rfl ?_
      refine l_nil ?_
      refine e_then ?_
      refine CJ.weak (.c (t := 2) rfl (.c (t := 7) rfl (.c (t := 9) rfl (.c (t := 11) rfl (.c (t := 12) rfl (.c (t := 13) rfl (.c (t := 14) rfl (.c (t := 15) rfl (.c (t := 16) rfl (.c (t := 17) rfl (.c (t := 43) rfl .n))))))))))) (fun _ h => h) ?_
      refine c_seq ?_
      refine c_text ?_
      refine l_y (Cls.gs _ _) (y_move rfl) rfl ?_
      refine l_y (Cls.gs _ _) (y_indexArr Tryz.underlying117 ty43 rfl rfl (by decide) (by decide)) rfl ?_
      refine l_y (Cls.gs _ _) (y_load rfl (LoadAt.aggL (.s .z) ty43 (.t (.t (.t .d))))) rfl ?_
      refine l_y (Cls.gs _ _) (y_call ent54 (.c rfl .n) (fun w _ => square54 _ (by assumption) w)) rfl ?_
      refine l_y (Cls.gs _ _) (y_move rfl) rfl ?_
      refine l_y (Cls.gs _ _) (y_extract rfl .z) rfl ?_
      refine l_y (Cls.gs _ _) (y_extract rfl (.s .z)) rfl ?_
      refine l_y (Cls.gs _ _) (y_assign rfl) rfl ?_
      refine l_y (Cls.gs _ _) (y_assign rfl) rfl ?_
      refine l_nil ?_
      refine e_then ?_
      refine CJ.weak (.c (t := 2) rfl (.c (t := 7) rfl (.c (t := 9) rfl (.c (t := 11) rfl (.c (t := 12) rfl (.c (t := 13) rfl (.c (t := 14) rfl (.c (t := 15) rfl (.c (t := 16) rfl (.c (t := 17) rfl (.c (t := 18) rfl (.c (t := 19) rfl (.c (t := 43) rfl .n))))))))))))) (fun _ h => h) ?_
      refine c_seq ?_
      refine c_text ?_
      refine l_y (Cls.gs _ _) (y_move rfl) rfl ?_
      refine l_y (Cls.gs _ _) (y_move rfl) rfl ?_
      refine l_y (Cls.gs _ _) ((y_add rfl rfl).lit (lit64 rfl (by omega) (by omega))) rfl ?_
      refine l_y (Cls.gs _ _) (y_move rfl) rfl ?_
      refine l_y (Cls.gs _ _) (y_move rfl) rfl ?_
      refine l_y (Cls.gs _ _) ((y_add rfl rfl).lit (lit64 rfl (by omega) (by omega))) rfl ?_
      refine l_y (Cls.gs _ _) (y_assign rfl) rfl ?_
      refine l_y (Cls.gs _ _) (y_assign rfl) rfl ?_
      refine l_nil ?_
      refine e_then ?_
      refine CJ.weak (.c (t := 2) rfl (.c (t := 7) rfl (.c (t := 9) rfl (.c (t := 11) rfl (.c (t := 12) rfl (.c (t := 13) rfl (.c (t := 14) rfl (.c (t := 15) rfl (.c (t := 16) rfl (.c (t := 17) rfl (.c (t := 43) rfl .n))))))))))) (fun _ h => h) ?_
      refine c_seq ?_
      refine c_text ?_
      refine l_y (Cls.gs _ _) (y_move rfl) rfl ?_
      refine l_y (Cls.gs _ _) (y_indexArr Tryz.underlying117 ty43 rfl rfl (by decide) (by decide)) rfl ?_
      refine l_y (Cls.gs _ _) (y_load rfl (LoadAt.aggL .z ty43 (.t (.t (.t .d))))) rfl ?_
      refine l_y (Cls.gs _ _) (y_call ent54 (.c rfl .n) (fun w _ => square54 _ (by assumption) w)) rfl ?_
      refine l_y (Cls.gs _ _) (y_move rfl) rfl ?_
      refine l_y (Cls.gs _ _) (y_extract rfl .z) rfl ?_
      refine l_y (Cls.gs _ _) (y_extract rfl (.s .z)) rfl ?_
      refine l_y (Cls.gs _ _) (y_assign rfl) rfl ?_
      refine l_y (Cls.gs _ _) (y_assign rfl) rfl ?_
      refine l_nil ?_
      refine e_then ?_
      refine CJ.weak (.c (t := 2) rfl (.c (t := 7) rfl (.c (t := 9) rfl (.c (t := 11) rfl (.c (t := 12) rfl (.c (t := 13) rfl (.c (t := 14) rfl (.c (t := 15) rfl (.c (t := 16) rfl (.c (t := 18) rfl (.c (t := 19) rfl (.c (t := 43) rfl .n)))))))))))) (fun _ h => h) ?_
      refine c_text ?_
      refine l_y (Cls.gs _ _) (y_move rfl) rfl ?_
      refine l_y (Cls.gs _ _) (y_move rfl) rfl ?_
      refine l_y (Cls.gs _ _) ((y_add rfl rfl).lit (lit64 rfl (by omega) (by omega))) rfl ?_
      refine l_y (Cls.gs _ _) (y_move rfl) rfl ?_
      refine l_y (Cls.gs _ _) (y_move rfl) rfl ?_
      refine l_y (Cls.gs _ _) ((y_add rfl rfl).lit (lit64 rfl (by omega) (by omega))) rfl ?_
      refine l_y (Cls.gs _ _) (y_assign rfl) rfl ?_
      refine l_y (Cls.gs _ _) (y_assign rfl) rfl ?_
      refine l_nil ?_
      refine e_block ?_
      refine e_then ?_
      refine CJ.weak (.c (t := 2) rfl (.c (t := 7) rfl (.c (t := 9) rfl (.c (t := 11) rfl (.c (t := 12) rfl (.c (t := 13) rfl (.c (t := 14) rfl (.c (t := 15) rfl (.c (t := 16) rfl (.c (t := 43) rfl .n)))))))))) (fun _ h => h) ?_
      refine c_text ?_
      refine l_y (Cls.gs _ _) ((y_add rfl rfl).lit (by kernel_rfl : _ = Value.int .i64 1)) rfl ?_
      refine l_y (Cls.gs _ _) (y_move rfl) rfl ?_
      refine l_nil ?_
      refine e_rounds ?_
      refine RJ.weak (.c (t := 2) rfl (.c (t := 7) rfl (.c (t := 9) rfl (.c (t := 11) rfl (.c (t := 12) rfl (.c (t := 13) rfl (.c (t := 14) rfl (.c (t := 15) rfl (.c (t := 16) rfl (.c (t := 43) rfl .n)))))))))) (fun _ h => h) ?_
      refine r_succ ?_
      refine c_seq ?_
      refine c_text ?_
      refine l_y (Cls.gs _ _) ((y_lss rfl rfl).lit (by kernel_rfl : _ = Value.bool true)) rfl ?_
      refine l_nil ?_
      refine e_then ?_
      refine c_seq ?_
      refine c_true (by kernel_rfl) ?_
      refine c_skip ?_
      refine e_then ?_
      refine CJ.weak (.c (t := 2) rfl (.c (t := 7) rfl (.c (t := 9) rfl (.c (t := 11) rfl (.c (t := 12) rfl (.c (t := 13) rfl (.c (t := 14) rfl (.c (t := 15) rfl (.c (t := 16) rfl (.c (t := 43) rfl .n)))))))))) (fun _ h => h) ?_
      refine c_seq ?_
      refine c_block ?_
      refine c_seq ?_
      refine c_text ?_
      refine l_y (Cls.gs _ _) (y_move rfl) rfl ?_
      refine l_y (Cls.gs _ _) (y_assign rfl) rfl ?_
      refine l_nil ?_
      refine e_then ?_
      refine CJ.weak (.c (t := 2) rfl (.c (t := 7) rfl (.c (t := 9) rfl (.c (t := 11) rfl (.c (t := 12) rfl (.c (t := 13) rfl (.c (t := 14) rfl (.c (t := 15) rfl (.c (t := 16) rfl (.c (t := 17) rfl (.c (t := 43) rfl .n))))))))))) (fun _ h => h) ?_
      refine c_seq ?_
      refine c_draw (m := 12) (S0 := fun _ => True) (fun _ => false) (fun _ _ => trivial) hmix (Cls.gs _ _) rfl ?_
      refine a_y (i := 0) (Cls.gs _ _) (by kernel_rfl) rfl (by kernel_rfl) (by kernel_rfl) (y_move rfl) rfl ?_
      refine a_y (i := 1) (Cls.gs _ _) (by kernel_rfl) rfl (by kernel_rfl) (by kernel_rfl) (y_indexArr Tryz.underlying117 ty43 rfl rfl (by decide) (by decide)) rfl ?_
      refine a_y (i := 2) (Cls.gs _ _) (by kernel_rfl) rfl (by kernel_rfl) (by kernel_rfl) (y_load rfl (LoadAt.aggL (.s .z) ty43 (.s (.s (.s (.t (.t (.t .d)))))))) rfl ?_
      refine a_y (i := 3) (Cls.gs _ _) (by kernel_rfl) rfl (by kernel_rfl) (by kernel_rfl) (y_move rfl) rfl ?_
      refine a_y (i := 4) (Cls.gs _ _) (by kernel_rfl) rfl (by kernel_rfl) (by kernel_rfl) (y_indexArr Tryz.underlying117 ty43 rfl rfl (by decide) (by decide)) rfl ?_
      refine a_y (i := 5) (Cls.gs _ _) (by kernel_rfl) rfl (by kernel_rfl) (by kernel_rfl) (y_load rfl (LoadAt.aggL .z ty43 (.s (.s (.s (.t (.t (.t .d)))))))) rfl ?_
      refine a_y (i := 6) (Cls.gs _ _) (by kernel_rfl) rfl (by kernel_rfl) (by kernel_rfl) (y_call ent53 (.c rfl (.c rfl .n)) (fun w _ => product53 _ _ (by assumption) (by assumption) w)) rfl ?_
      refine a_y (i := 7) (Cls.gs _ _) (by kernel_rfl) rfl (by kernel_rfl) (by kernel_rfl) (y_move rfl) rfl ?_
      refine a_y (i := 8) (Cls.gs _ _) (by kernel_rfl) rfl (by kernel_rfl) (by kernel_rfl) (y_extract rfl .z) rfl ?_
      refine a_y (i := 9) (Cls.gs _ _) (by kernel_rfl) rfl (by kernel_rfl) (by kernel_rfl) (y_extract rfl (.s .z)) rfl ?_
      refine a_y (i := 10) (Cls.gs _ _) (by kernel_rfl) rfl (by kernel_rfl) (by kernel_rfl) (y_assign rfl) rfl ?_
      refine a_y (i := 11) (Cls.gs _ _) (by kernel_rfl) rfl (by kernel_rfl) (by kernel_rfl) (y_assign rfl) rfl ?_
      refine a_done (by kernel_rfl) ?_
      refine e_then ?_
      refine CJ.weak (.c (t := 2) rfl (.c (t := 7) rfl (.c (t := 9) rfl (.c (t := 11) rfl (.c (t := 12) rfl (.c (t := 13) rfl (.c (t := 14) rfl (.c (t := 15) rfl (.c (t := 16) rfl (.c (t := 17) rfl (.c (t := 18) rfl (.c (t := 19) rfl (.c (t := 43) rfl .n))))))))))))) (fun _ h => h) ?_
      refine c_seq ?_
      refine c_text ?_
      refine l_y (Cls.gs _ _) (y_move rfl) rfl ?_
      refine l_y (Cls.gs _ _) (y_move rfl) rfl ?_
      refine l_y (Cls.gs _ _) ((y_add rfl rfl).lit (lit64 rfl (by omega) (by omega))) rfl ?_
      refine l_y (Cls.gs _ _) (y_move rfl) rfl ?_
      refine l_y (Cls.gs _ _) (y_move rfl) rfl ?_
      refine l_y (Cls.gs _ _) ((y_add rfl rfl).lit (lit64 rfl (by omega) (by omega))) rfl ?_
      refine l_y (Cls.gs _ _) (y_assign rfl) rfl ?_
      refine l_y (Cls.gs _ _) (y_assign rfl) rfl ?_
      refine l_nil ?_
      refine e_then ?_
      refine CJ.weak (.c (t := 2) rfl (.c (t := 7) rfl (.c (t := 9) rfl (.c (t := 11) rfl (.c (t := 12) rfl (.c (t := 13) rfl (.c (t := 14) rfl (.c (t := 15) rfl (.c (t := 16) rfl (.c (t := 17) rfl (.c (t := 43) rfl .n))))))))))) (fun _ h => h) ?_
      refine c_seq ?_
      refine c_text ?_
      refine l_y (Cls.gs _ _) (y_move rfl) rfl ?_
      refine l_y (Cls.gs _ _) (y_indexArr Tryz.underlying117 ty43 rfl rfl (by decide) (by decide)) rfl ?_
      refine l_y (Cls.gs _ _) (y_load rfl (LoadAt.aggL (.s .z) ty43 (.s (.s (.s (.t (.t (.t .d)))))))) rfl ?_
      refine l_y (Cls.gs _ _) (y_call ent54 (.c rfl .n) (fun w _ => square54 _ (by assumption) w)) rfl ?_
      refine l_y (Cls.gs _ _) (y_move rfl) rfl ?_
      refine l_y (Cls.gs _ _) (y_extract rfl .z) rfl ?_
      refine l_y (Cls.gs _ _) (y_extract rfl (.s .z)) rfl ?_
      refine l_y (Cls.gs _ _) (y_assign rfl) rfl ?_
      refine l_y (Cls.gs _ _) (y_assign rfl) rfl ?_
      refine l_nil ?_
      refine e_then ?_
      refine CJ.weak (.c (t := 2) rfl (.c (t := 7) rfl (.c (t := 9) rfl (.c (t := 11) rfl (.c (t := 12) rfl (.c (t := 13) rfl (.c (t := 14) rfl (.c (t := 15) rfl (.c (t := 16) rfl (.c (t := 17) rfl (.c (t := 18) rfl (.c (t := 19) rfl (.c (t := 43) rfl .n))))))))))))) (fun _ h => h) ?_
      refine c_seq ?_
      refine c_text ?_
      refine l_y (Cls.gs _ _) (y_move rfl) rfl ?_
      refine l_y (Cls.gs _ _) (y_move rfl) rfl ?_
      refine l_y (Cls.gs _ _) ((y_add rfl rfl).lit (lit64 rfl (by omega) (by omega))) rfl ?_
      refine l_y (Cls.gs _ _) (y_move rfl) rfl ?_
      refine l_y (Cls.gs _ _) (y_move rfl) rfl ?_
      refine l_y (Cls.gs _ _) ((y_add rfl rfl).lit (lit64 rfl (by omega) (by omega))) rfl ?_
      refine l_y (Cls.gs _ _) (y_assign rfl) rfl ?_
      refine l_y (Cls.gs _ _) (y_assign rfl) rfl ?_
      refine l_nil ?_
      refine e_then ?_
      refine CJ.weak (.c (t := 2) rfl (.c (t := 7) rfl (.c (t := 9) rfl (.c (t := 11) rfl (.c (t := 12) rfl (.c (t := 13) rfl (.c (t := 14) rfl (.c (t := 15) rfl (.c (t := 16) rfl (.c (t := 17) rfl (.c (t := 43) rfl .n))))))))))) (fun _ h => h) ?_
      refine c_seq ?_
      refine c_text ?_
      refine l_y (Cls.gs _ _) (y_move rfl) rfl ?_
      refine l_y (Cls.gs _ _) (y_indexArr Tryz.underlying117 ty43 rfl rfl (by decide) (by decide)) rfl ?_
      refine l_y (Cls.gs _ _) (y_load rfl (LoadAt.aggL .z ty43 (.s (.s (.s (.t (.t (.t .d)))))))) rfl ?_
      refine l_y (Cls.gs _ _) (y_call ent54 (.c rfl .n) (fun w _ => square54 _ (by assumption) w)) rfl ?_
      refine l_y (Cls.gs _ _) (y_move rfl) rfl ?_
      refine l_y (Cls.gs _ _) (y_extract rfl .z) rfl ?_
      refine l_y (Cls.gs _ _) (y_extract rfl (.s .z)) rfl ?_
      refine l_y (Cls.gs _ _) (y_assign rfl) rfl ?_
      refine l_y (Cls.gs _ _) (y_assign rfl) rfl ?_
      refine l_nil ?_
      refine e_then ?_
      refine CJ.weak (.c (t := 2) rfl (.c (t := 7) rfl (.c (t := 9) rfl (.c (t := 11) rfl (.c (t := 12) rfl (.c (t := 13) rfl (.c (t := 14) rfl (.c (t := 15) rfl (.c (t := 16) rfl (.c (t := 18) rfl (.c (t := 19) rfl (.c (t := 43) rfl .n)))))))))))) (fun _ h => h) ?_
      refine c_text ?_
      refine l_y (Cls.gs _ _) (y_move rfl) rfl ?_
      refine l_y (Cls.gs _ _) (y_move rfl) rfl ?_
      refine l_y (Cls.gs _ _) ((y_add rfl rfl).lit (lit64 rfl (by omega) (by omega))) rfl ?_
      refine l_y (Cls.gs _ _) (y_move rfl) rfl ?_
      refine l_y (Cls.gs _ _) (y_move rfl) rfl ?_
      refine l_y (Cls.gs _ _) ((y_add rfl rfl).lit (lit64 rfl (by omega) (by omega))) rfl ?_
      refine l_y (Cls.gs _ _) (y_assign rfl) rfl ?_
      refine l_y (Cls.gs _ _) (y_assign rfl) rfl ?_
      refine l_nil ?_
      refine e_block ?_
      refine e_then ?_
      refine CJ.weak (.c (t := 2) rfl (.c (t := 7) rfl (.c (t := 9) rfl (.c (t := 11) rfl (.c (t := 12) rfl (.c (t := 13) rfl (.c (t := 14) rfl (.c (t := 15) rfl (.c (t := 16) rfl (.c (t := 43) rfl .n)))))))))) (fun _ h => h) ?_
      refine c_text ?_
      refine l_y (Cls.gs _ _) ((y_add rfl rfl).lit (by kernel_rfl : _ = Value.int .i64 2)) rfl ?_
      refine l_y (Cls.gs _ _) (y_move rfl) rfl ?_
      refine l_nil ?_
      refine e_rounds ?_
      refine RJ.weak (.c (t := 2) rfl (.c (t := 7) rfl (.c (t := 9) rfl (.c (t := 11) rfl (.c (t := 12) rfl (.c (t := 13) rfl (.c (t := 14) rfl (.c (t := 15) rfl (.c (t := 16) rfl (.c (t := 43) rfl .n)))))))))) (fun _ h => h) ?_
      refine r_succ ?_
      refine c_seq ?_
      refine c_text ?_
      refine l_y (Cls.gs _ _) ((y_lss rfl rfl).lit (by kernel_rfl : _ = Value.bool true)) rfl ?_
      refine l_nil ?_
      refine e_then ?_
      refine c_seq ?_
      refine c_true (by kernel_rfl) ?_
      refine c_skip ?_
      refine e_then ?_
      refine CJ.weak (.c (t := 2) rfl (.c (t := 7) rfl (.c (t := 9) rfl (.c (t := 11) rfl (.c (t := 12) rfl (.c (t := 13) rfl (.c (t := 14) rfl (.c (t := 15) rfl (.c (t := 16) rfl (.c (t := 43) rfl .n)))))))))) (fun _ h => h) ?_
      refine c_seq ?_
      refine c_block ?_
      refine c_seq ?_
      refine c_text ?_
      refine l_y (Cls.gs _ _) (y_move rfl) rfl ?_
      refine l_y (Cls.gs _ _) (y_assign rfl) rfl ?_
      refine l_nil ?_
      refine e_then ?_
      refine CJ.weak (.c (t := 2) rfl (.c (t := 7) rfl (.c (t := 9) rfl (.c (t := 11) rfl (.c (t := 12) rfl (.c (t := 13) rfl (.c (t := 14) rfl (.c (t := 15) rfl (.c (t := 16) rfl (.c (t := 17) rfl (.c (t := 43) rfl .n))))))))))) (fun _ h => h) ?_
      refine c_seq ?_
      refine c_draw (m := 12) (S0 := fun _ => True) (fun _ => false) (fun _ _ => trivial) hmix (Cls.gs _ _) rfl ?_
      refine a_y (i := 0) (Cls.gs _ _) (by kernel_rfl) rfl (by kernel_rfl) (by kernel_rfl) (y_move rfl) rfl ?_
      refine a_y (i := 1) (Cls.gs _ _) (by kernel_rfl) rfl (by kernel_rfl) (by kernel_rfl) (y_indexArr Tryz.underlying117 ty43 rfl rfl (by decide) (by decide)) rfl ?_
      refine a_y (i := 2) (Cls.gs _ _) (by kernel_rfl) rfl (by kernel_rfl) (by kernel_rfl) (y_load rfl (LoadAt.aggL (.s .z) ty43 (.s (.s (.s (.s (.s (.s (.t (.t (.t .d))))))))))) rfl ?_
      refine a_y (i := 3) (Cls.gs _ _) (by kernel_rfl) rfl (by kernel_rfl) (by kernel_rfl) (y_move rfl) rfl ?_
      refine a_y (i := 4) (Cls.gs _ _) (by kernel_rfl) rfl (by kernel_rfl) (by kernel_rfl) (y_indexArr Tryz.underlying117 ty43 rfl rfl (by decide) (by decide)) rfl ?_
      refine a_y (i := 5) (Cls.gs _ _) (by kernel_rfl) rfl (by kernel_rfl) (by kernel_rfl) (y_load rfl (LoadAt.aggL .z ty43 (.s (.s (.s (.s (.s (.s (.t (.t (.t .d))))))))))) rfl ?_
      refine a_y (i := 6) (Cls.gs _ _) (by kernel_rfl) rfl (by kernel_rfl) (by kernel_rfl) (y_call ent53 (.c rfl (.c rfl .n)) (fun w _ => product53 _ _ (by assumption) (by assumption) w)) rfl ?_
      refine a_y (i := 7) (Cls.gs _ _) (by kernel_rfl) rfl (by kernel_rfl) (by kernel_rfl) (y_move rfl) rfl ?_
      refine a_y (i := 8) (Cls.gs _ _) (by kernel_rfl) rfl (by kernel_rfl) (by kernel_rfl) (y_extract rfl .z) rfl ?_
      refine a_y (i := 9) (Cls.gs _ _) (by kernel_rfl) rfl (by kernel_rfl) (by kernel_rfl) (y_extract rfl (.s .z)) rfl ?_
      refine a_y (i := 10) (Cls.gs _ _) (by kernel_rfl) rfl (by kernel_rfl) (by kernel_rfl) (y_assign rfl) rfl ?_
      refine a_y (i := 11) (Cls.gs _ _) (by kernel_rfl) rfl (by kernel_rfl) (by kernel_rfl) (y_assign rfl) rfl ?_
      refine a_done (by kernel_rfl) ?_
      refine e_then ?_
      refine CJ.weak (.c (t := 2) rfl (.c (t := 7) rfl (.c (t := 9) rfl (.c (t := 11) rfl (.c (t := 12) rfl (.c (t := 13) rfl (.c (t := 14) rfl (.c (t := 15) rfl (.c (t := 16) rfl (.c (t := 17) rfl (.c (t := 18) rfl (.c (t := 19) rfl (.c (t := 43) rfl .n))))))))))))) (fun _ h => h) ?_
      refine c_seq ?_
      refine c_text ?_
      refine l_y (Cls.gs _ _) (y_move rfl) rfl ?_
      refine l_y (Cls.gs _ _) (y_move rfl) rfl ?_
      refine l_y (Cls.gs _ _) ((y_add rfl rfl).lit (lit64 rfl (by omega) (by omega))) rfl ?_
      refine l_y (Cls.gs _ _) (y_move rfl) rfl ?_
      refine l_y (Cls.gs _ _) (y_move rfl) rfl ?_
      refine l_y (Cls.gs _ _) ((y_add rfl rfl).lit (lit64 rfl (by omega) (by omega))) rfl ?_
      refine l_y (Cls.gs _ _) (y_assign rfl) rfl ?_
      refine l_y (Cls.gs _ _) (y_assign rfl) rfl ?_
      refine l_nil ?_
      refine e_then ?_
      refine CJ.weak (.c (t := 2) rfl (.c (t := 7) rfl (.c (t := 9) rfl (.c (t := 11) rfl (.c (t := 12) rfl (.c (t := 13) rfl (.c (t := 14) rfl (.c (t := 15) rfl (.c (t := 16) rfl (.c (t := 17) rfl (.c (t := 43) rfl .n))))))))))) (fun _ h => h) ?_
      refine c_seq ?_
      refine c_text ?_
      refine l_y (Cls.gs _ _) (y_move rfl) rfl ?_
      refine l_y (Cls.gs _ _) (y_indexArr Tryz.underlying117 ty43 rfl rfl (by decide) (by decide)) rfl ?_
      refine l_y (Cls.gs _ _) (y_load rfl (LoadAt.aggL (.s .z) ty43 (.s (.s (.s (.s (.s (.s (.t (.t (.t .d))))))))))) rfl ?_
      refine l_y (Cls.gs _ _) (y_call ent54 (.c rfl .n) (fun w _ => square54 _ (by assumption) w)) rfl ?_
      refine l_y (Cls.gs _ _) (y_move rfl) rfl ?_
      refine l_y (Cls.gs _ _) (y_extract rfl .z) rfl ?_
      refine l_y (Cls.gs _ _) (y_extract rfl (.s .z)) rfl ?_
      refine l_y (Cls.gs _ _) (y_assign rfl) rfl ?_
      refine l_y (Cls.gs _ _) (y_assign rfl) rfl ?_
      refine l_nil ?_
      refine e_then ?_
      refine CJ.weak (.c (t := 2) rfl (.c (t := 7) rfl (.c (t := 9) rfl (.c (t := 11) rfl (.c (t := 12) rfl (.c (t := 13) rfl (.c (t := 14) rfl (.c (t := 15) rfl (.c (t := 16) rfl (.c (t := 17) rfl (.c (t := 18) rfl (.c (t := 19) rfl (.c (t := 43) rfl .n))))))))))))) (fun _ h => h) ?_
      refine c_seq ?_
      refine c_text ?_
      refine l_y (Cls.gs _ _) (y_move rfl) rfl ?_
      refine l_y (Cls.gs _ _) (y_move rfl) rfl ?_
      refine l_y (Cls.gs _ _) ((y_add rfl rfl).lit (lit64 rfl (by omega) (by omega))) rfl ?_
      refine l_y (Cls.gs _ _) (y_move rfl) rfl ?_
      refine l_y (Cls.gs _ _) (y_move rfl) rfl ?_
      refine l_y (Cls.gs _ _) ((y_add rfl rfl).lit (lit64 rfl (by omega) (by omega))) rfl ?_
      refine l_y (Cls.gs _ _) (y_assign rfl) rfl ?_
      refine l_y (Cls.gs _ _) (y_assign rfl) rfl ?_
      refine l_nil ?_
      refine e_then ?_
      refine CJ.weak (.c (t := 2) rfl (.c (t := 7) rfl (.c (t := 9) rfl (.c (t := 11) rfl (.c (t := 12) rfl (.c (t := 13) rfl (.c (t := 14) rfl (.c (t := 15) rfl (.c (t := 16) rfl (.c (t := 17) rfl (.c (t := 43) rfl .n))))))))))) (fun _ h => h) ?_
      refine c_seq ?_
      refine c_text ?_
      refine l_y (Cls.gs _ _) (y_move rfl) rfl ?_
      refine l_y (Cls.gs _ _) (y_indexArr Tryz.underlying117 ty43 rfl rfl (by decide) (by decide)) rfl ?_
      refine l_y (Cls.gs _ _) (y_load rfl (LoadAt.aggL .z ty43 (.s (.s (.s (.s (.s (.s (.t (.t (.t .d))))))))))) rfl ?_
      refine l_y (Cls.gs _ _) (y_call ent54 (.c rfl .n) (fun w _ => square54 _ (by assumption) w)) rfl ?_
      refine l_y (Cls.gs _ _) (y_move rfl) rfl ?_
      refine l_y (Cls.gs _ _) (y_extract rfl .z) rfl ?_
      refine l_y (Cls.gs _ _) (y_extract rfl (.s .z)) rfl ?_
      refine l_y (Cls.gs _ _) (y_assign rfl) rfl ?_
      refine l_y (Cls.gs _ _) (y_assign rfl) rfl ?_
      refine l_nil ?_
      refine e_then ?_
      refine CJ.weak (.c (t := 2) rfl (.c (t := 7) rfl (.c (t := 9) rfl (.c (t := 11) rfl (.c (t := 12) rfl (.c (t := 13) rfl (.c (t := 14) rfl (.c (t := 15) rfl (.c (t := 16) rfl (.c (t := 18) rfl (.c (t := 19) rfl (.c (t := 43) rfl .n)))))))))))) (fun _ h => h) ?_
      refine c_text ?_
      refine l_y (Cls.gs _ _) (y_move rfl) rfl ?_
      refine l_y (Cls.gs _ _) (y_move rfl) rfl ?_
      refine l_y (Cls.gs _ _) ((y_add rfl rfl).lit (lit64 rfl (by omega) (by omega))) rfl ?_
      refine l_y (Cls.gs _ _) (y_move rfl) rfl ?_
      refine l_y (Cls.gs _ _) (y_move rfl) rfl ?_
      refine l_y (Cls.gs _ _) ((y_add rfl rfl).lit (lit64 rfl (by omega) (by omega))) rfl ?_
      refine l_y (Cls.gs _ _) (y_assign rfl) rfl ?_
      refine l_y (Cls.gs _ _) (y_assign rfl) rfl ?_
      refine l_nil ?_
      refine e_block ?_
      refine e_then ?_
      refine CJ.weak (.c (t := 2) rfl (.c (t := 7) rfl (.c (t := 9) rfl (.c (t := 11) rfl (.c (t := 12) rfl (.c (t := 13) rfl (.c (t := 14) rfl (.c (t := 15) rfl (.c (t := 16) rfl (.c (t := 43) rfl .n)))))))))) (fun _ h => h) ?_
      refine c_text ?_
      refine l_y (Cls.gs _ _) ((y_add rfl rfl).lit (by kernel_rfl : _ = Value.int .i64 3)) rfl ?_
      refine l_y (Cls.gs _ _) (y_move rfl) rfl ?_
      refine l_nil ?_
      refine e_rounds ?_
      refine RJ.weak (.c (t := 2) rfl (.c (t := 7) rfl (.c (t := 9) rfl (.c (t := 11) rfl (.c (t := 12) rfl (.c (t := 13) rfl (.c (t := 14) rfl (.c (t := 15) rfl (.c (t := 16) rfl (.c (t := 43) rfl .n)))))))))) (fun _ h => h) ?_
      refine r_succ ?_
      refine c_seq ?_
      refine c_text ?_
      refine l_y (Cls.gs _ _) ((y_lss rfl rfl).lit (by kernel_rfl : _ = Value.bool false)) rfl ?_
      refine l_nil ?_
      refine e_then ?_
      refine c_seq ?_
      refine c_false (by kernel_rfl) ?_
      refine c_exit ?_
      refine e_then_exit ?_
      refine e_then_exit ?_
      refine e_block_hit ?_
      refine e_then ?_
      refine CJ.weak (.c (t := 2) rfl (.c (t := 11) rfl (.c (t := 12) rfl (.c (t := 13) rfl (.c (t := 14) rfl (.c (t := 15) rfl (.c (t := 16) rfl .n))))))) (fun _ h => h) ?_
      refine c_seq ?_
      refine c_text ?_
      refine l_y (Cls.gs _ _) (y_move rfl) rfl ?_
      refine l_y (Cls.gs _ _) (y_move rfl) rfl ?_
      refine l_y (Cls.gs _ _) (y_call ent55 (.c rfl (.c rfl .n)) (fun w _ => sqrtMul55 _ _ (by omega) (by omega) (by omega) (by omega) w)) rfl ?_
      refine l_y (Cls.gs _ _) (y_assign rfl) rfl ?_
      refine l_nil ?_
      refine e_then ?_
      refine CJ.weak (.c (t := 2) rfl (.c (t := 11) rfl (.c (t := 12) rfl (.c (t := 13) rfl (.c (t := 14) rfl (.c (t := 15) rfl (.c (t := 16) rfl (.c (t := 20) rfl .n)))))))) (fun _ h => h) ?_
      refine c_seq ?_
      refine c_seq ?_
      refine c_text ?_
      refine l_y (Cls.gs _ _) (y_move rfl) rfl ?_
      refine l_y (Cls.gs _ _) (y_move rfl) rfl ?_
      refine l_y (Cls.gs _ _) (y_call ent56 (.c rfl (.c rfl .n)) (fun w _ => product56 _ _ (by omega) (by omega) (by omega) (by omega) w)) rfl ?_
      refine l_y (Cls.gs _ _) (y_move rfl) rfl ?_
      refine l_y (Cls.gs _ _) (y_move rfl) rfl ?_
      refine l_y (Cls.gs _ _) (y_call ent56 (.c rfl (.c rfl .n)) (fun w _ => product56 _ _ (by omega) (by omega) (by omega) (by omega) w)) rfl ?_
      refine l_y (Cls.gs _ _) (y_call ent57 (.c rfl (.c rfl .n)) (fun w _ => cmp57 _ _ w)) rfl ?_
      refine l_y (Cls.gs _ _) (y_lss rfl rfl) rfl ?_
      refine l_nil ?_
      refine e_then ?_
      refine CJ.weak (.c (t := 2) rfl (.c (t := 11) rfl (.c (t := 12) rfl (.c (t := 13) rfl (.c (t := 15) rfl (.c (t := 20) rfl (.c (t := 99) rfl .n))))))) (fun _ h => h) ?_
      refine c_cond rfl (fun h2 => ?_) (fun h2 => ?_)
      ·
        refine c_text ?_
        refine l_y (Cls.gs _ _) (y_move rfl) rfl ?_
        refine l_y (Cls.gs _ _) ((y_add rfl rfl).lit (lit64 rfl (by omega) (by omega))) rfl ?_
        refine l_y (Cls.gs _ _) (y_assign rfl) rfl ?_
        refine l_nil ?_
        refine e_then ?_
        refine CJ.weak (.c (t := 2) rfl (.c (t := 11) rfl (.c (t := 12) rfl (.c (t := 13) rfl (.c (t := 15) rfl (.c (t := 20) rfl .n)))))) (fun _ h => h) ?_
        refine c_seq ?_
        refine c_block ?_
        refine c_seq ?_
        refine c_text ?_
        refine l_y (Cls.gs _ _) (y_move rfl) rfl ?_
        refine l_y (Cls.gs _ _) (y_gtr rfl rfl) rfl ?_
        refine l_y (Cls.gs _ _) (y_move rfl) rfl ?_
        refine l_g (s := 105) (Cls.gs _ _) (by kernel_rfl) rfl (beq_t _) (fun hg => y_move rfl) rfl ?_
        refine l_g (s := 105) (Cls.gs _ _) (by kernel_rfl) rfl (beq_t _) (fun hg => y_gtr (gvt hg rfl) rfl) rfl ?_
        refine l_y (Cls.gs _ _) (y_and rfl rfl rfl) rfl ?_
        refine l_y (Cls.gs _ _) (y_move rfl) rfl ?_
        refine l_g (s := 109) (Cls.gs _ _) (by kernel_rfl) rfl (beq_t _) (fun hg => y_move rfl) rfl ?_
        refine l_g (s := 109) (Cls.gs _ _) (by kernel_rfl) rfl (beq_t _) (fun hg => y_call ent56 (.c (gvt hg rfl) (.c rfl .n)) (fun w _ => product56 _ _ (by omega) (by omega) (by omega) (by omega) w)) rfl ?_
        refine l_g (s := 109) (Cls.gs _ _) (by kernel_rfl) rfl (beq_t _) (fun hg => y_move rfl) rfl ?_
        refine l_g (s := 109) (Cls.gs _ _) (by kernel_rfl) rfl (beq_t _) (fun hg => y_move rfl) rfl ?_
        refine l_g (s := 109) (Cls.gs _ _) (by kernel_rfl) rfl (beq_t _) (fun hg => y_call ent56 (.c (gvt hg rfl) (.c (gvt hg rfl) .n)) (fun w _ => product56 _ _ (by omega) (by omega) (by omega) (by omega) w)) rfl ?_
        refine l_g (s := 109) (Cls.gs _ _) (by kernel_rfl) rfl (beq_t _) (fun hg => y_call ent57 (.c (gvt hg rfl) (.c (gvt hg rfl) .n)) (fun w _ => cmp57 _ _ w)) rfl ?_
        refine l_g (s := 109) (Cls.gs _ _) (by kernel_rfl) rfl (beq_t _) (fun hg => y_geq (gvt hg rfl) rfl) rfl ?_
        refine l_y (Cls.gs _ _) (y_and rfl rfl rfl) rfl ?_
        refine l_y (Cls.gs _ _) (y_assign rfl) rfl ?_
        refine l_nil ?_
        refine e_then ?_
        refine CJ.weak (.c (t := 2) rfl (.c (t := 12) rfl (.c (t := 13) rfl (.c (t := 15) rfl (.c (t := 102) rfl .n))))) (fun _ h => h) ?_
        refine c_cond rfl (fun h3 => ?_) (fun h3 => ?_)
        ·
          refine c_seq ?_
          refine c_text ?_
          refine l_y (Cls.gs _ _) (y_assign rfl) rfl ?_
          refine l_nil ?_
          refine e_then ?_
          refine CJ.weak (.c (t := 6) rfl .n) (fun _ h => h) ?_
          refine c_ret ?_
          refine e_block_ret ?_
          refine e_then_ret ?_
          refine e_ret rfl (.t rfl .n) (fun wF hw => ?_)
          exact ⟨congrArg (fun x => Ending.returned (.int .i64 x)) (near_c h0 h1 (if_pos h2) h3).symm, (hw.anc (w, []) (by simp)).below⟩
        ·
          refine c_seq ?_
          refine c_text ?_
          refine l_y (Cls.gs _ _) (y_move rfl) rfl ?_
          refine l_y (Cls.gs _ _) (y_call ent56 (.c rfl (.c rfl .n)) (fun w _ => product56 _ _ (by omega) (by omega) (by omega) (by omega) w)) rfl ?_
          refine l_y (Cls.gs _ _) (y_move rfl) rfl ?_
          refine l_y (Cls.gs _ _) (y_move rfl) rfl ?_
          refine l_y (Cls.gs _ _) (y_move rfl) rfl ?_
          refine l_y (Cls.gs _ _) (y_call ent55 (.c rfl (.c rfl .n)) (fun w _ => sqrtMul55 _ _ (by omega) (by omega) (by omega) (by omega) w)) rfl ?_
          refine l_y (Cls.gs _ _) (y_call ent56 (.c rfl (.c rfl .n)) (fun w _ => product56 _ _ (by omega) (by omega) (by omega) (by omega) w)) rfl ?_
          refine l_y (Cls.gs _ _) (y_call ent57 (.c rfl (.c rfl .n)) (fun w _ => cmp57 _ _ w)) rfl ?_
          refine l_y (Cls.gs _ _) (y_lss rfl rfl) rfl ?_
          refine l_y (Cls.gs _ _) (y_assign rfl) rfl ?_
          refine l_nil ?_
          refine e_then ?_
          refine CJ.weak (.c (t := 118) rfl .n) (fun _ h => h) ?_
          refine c_cond rfl (fun h4 => ?_) (fun h4 => ?_)
          ·
            refine c_seq ?_
            refine c_text ?_
            refine l_y (Cls.gs _ _) (y_assign rfl) rfl ?_
            refine l_nil ?_
            refine e_then ?_
            refine CJ.weak (.c (t := 6) rfl .n) (fun _ h => h) ?_
            refine c_ret ?_
            refine e_block_ret ?_
            refine e_then_ret ?_
            refine e_ret rfl (.t rfl .n) (fun wF hw => ?_)
            exact ⟨congrArg (fun x => Ending.returned (.int .i64 x)) (near_d h0 h1 (if_pos h2) h3 h4).symm, (hw.anc (w, []) (by simp)).below⟩
          ·
            refine c_skip ?_
            refine e_block ?_
            refine e_then ?_
            refine CJ.weak .n (fun _ h => h) ?_
            refine c_seq ?_
            refine c_text ?_
            refine l_y (Cls.gs _ _) (y_assign rfl) rfl ?_
            refine l_nil ?_
            refine e_then ?_
            refine c_ret ?_
            refine e_ret rfl (.t rfl .n) (fun wF hw => ?_)
            exact ⟨congrArg (fun x => Ending.returned (.int .i64 x)) (near_e h0 h1 (if_pos h2) h3 h4).symm, (hw.anc (w, []) (by simp)).below⟩
      ·
        refine c_skip ?_
        refine e_then ?_
        refine CJ.weak (.c (t := 2) rfl (.c (t := 11) rfl (.c (t := 12) rfl (.c (t := 13) rfl (.c (t := 15) rfl (.c (t := 20) rfl .n)))))) (fun _ h => h) ?_
        refine c_seq ?_
        refine c_block ?_
        refine c_seq ?_
        refine c_text ?_
        refine l_y (Cls.gs _ _) (y_move rfl) rfl ?_
        refine l_y (Cls.gs _ _) (y_gtr rfl rfl) rfl ?_
        refine l_y (Cls.gs _ _) (y_move rfl) rfl ?_
        refine l_g (s := 105) (Cls.gs _ _) (by kernel_rfl) rfl (beq_t _) (fun hg => y_move rfl) rfl ?_
        refine l_g (s := 105) (Cls.gs _ _) (by kernel_rfl) rfl (beq_t _) (fun hg => y_gtr (gvt hg rfl) rfl) rfl ?_
        refine l_y (Cls.gs _ _) (y_and rfl rfl rfl) rfl ?_
        refine l_y (Cls.gs _ _) (y_move rfl) rfl ?_
        refine l_g (s := 109) (Cls.gs _ _) (by kernel_rfl) rfl (beq_t _) (fun hg => y_move rfl) rfl ?_
        refine l_g (s := 109) (Cls.gs _ _) (by kernel_rfl) rfl (beq_t _) (fun hg => y_call ent56 (.c (gvt hg rfl) (.c rfl .n)) (fun w _ => product56 _ _ (by omega) (by omega) (by omega) (by omega) w)) rfl ?_
        refine l_g (s := 109) (Cls.gs _ _) (by kernel_rfl) rfl (beq_t _) (fun hg => y_move rfl) rfl ?_
        refine l_g (s := 109) (Cls.gs _ _) (by kernel_rfl) rfl (beq_t _) (fun hg => y_move rfl) rfl ?_
        refine l_g (s := 109) (Cls.gs _ _) (by kernel_rfl) rfl (beq_t _) (fun hg => y_call ent56 (.c (gvt hg rfl) (.c (gvt hg rfl) .n)) (fun w _ => product56 _ _ (by omega) (by omega) (by omega) (by omega) w)) rfl ?_
        refine l_g (s := 109) (Cls.gs _ _) (by kernel_rfl) rfl (beq_t _) (fun hg => y_call ent57 (.c (gvt hg rfl) (.c (gvt hg rfl) .n)) (fun w _ => cmp57 _ _ w)) rfl ?_
        refine l_g (s := 109) (Cls.gs _ _) (by kernel_rfl) rfl (beq_t _) (fun hg => y_geq (gvt hg rfl) rfl) rfl ?_
        refine l_y (Cls.gs _ _) (y_and rfl rfl rfl) rfl ?_
        refine l_y (Cls.gs _ _) (y_assign rfl) rfl ?_
        refine l_nil ?_
        refine e_then ?_
        refine CJ.weak (.c (t := 2) rfl (.c (t := 12) rfl (.c (t := 13) rfl (.c (t := 15) rfl (.c (t := 102) rfl .n))))) (fun _ h => h) ?_
        refine c_cond rfl (fun h5 => ?_) (fun h5 => ?_)
        ·
          refine c_seq ?_
          refine c_text ?_
          refine l_y (Cls.gs _ _) (y_assign rfl) rfl ?_
          refine l_nil ?_
          refine e_then ?_
          refine CJ.weak (.c (t := 6) rfl .n) (fun _ h => h) ?_
          refine c_ret ?_
          refine e_block_ret ?_
          refine e_then_ret ?_
          refine e_ret rfl (.t rfl .n) (fun wF hw => ?_)
          exact ⟨congrArg (fun x => Ending.returned (.int .i64 x)) (near_c h0 h1 (if_neg (ne_true_of_eq_false h2)) h5).symm, (hw.anc (w, []) (by simp)).below⟩
        ·
          refine c_seq ?_
          refine c_text ?_
          refine l_y (Cls.gs _ _) (y_move rfl) rfl ?_
          refine l_y (Cls.gs _ _) (y_call ent56 (.c rfl (.c rfl .n)) (fun w _ => product56 _ _ (by omega) (by omega) (by omega) (by omega) w)) rfl ?_
          refine l_y (Cls.gs _ _) (y_move rfl) rfl ?_
          refine l_y (Cls.gs _ _) (y_move rfl) rfl ?_
          refine l_y (Cls.gs _ _) (y_move rfl) rfl ?_
          refine l_y (Cls.gs _ _) (y_call ent55 (.c rfl (.c rfl .n)) (fun w _ => sqrtMul55 _ _ (by omega) (by omega) (by omega) (by omega) w)) rfl ?_
          refine l_y (Cls.gs _ _) (y_call ent56 (.c rfl (.c rfl .n)) (fun w _ => product56 _ _ (by omega) (by omega) (by omega) (by omega) w)) rfl ?_
          refine l_y (Cls.gs _ _) (y_call ent57 (.c rfl (.c rfl .n)) (fun w _ => cmp57 _ _ w)) rfl ?_
          refine l_y (Cls.gs _ _) (y_lss rfl rfl) rfl ?_
          refine l_y (Cls.gs _ _) (y_assign rfl) rfl ?_
          refine l_nil ?_
          refine e_then ?_
          refine CJ.weak (.c (t := 118) rfl .n) (fun _ h => h) ?_
          refine c_cond rfl (fun h6 => ?_) (fun h6 => ?_)
          ·
            refine c_seq ?_
            refine c_text ?_
            refine l_y (Cls.gs _ _) (y_assign rfl) rfl ?_
            refine l_nil ?_
            refine e_then ?_
            refine CJ.weak (.c (t := 6) rfl .n) (fun _ h => h) ?_
            refine c_ret ?_
            refine e_block_ret ?_
            refine e_then_ret ?_
            refine e_ret rfl (.t rfl .n) (fun wF hw => ?_)
            exact ⟨congrArg (fun x => Ending.returned (.int .i64 x)) (near_d h0 h1 (if_neg (ne_true_of_eq_false h2)) h5 h6).symm, (hw.anc (w, []) (by simp)).below⟩
          ·
            refine c_skip ?_
            refine e_block ?_
            refine e_then ?_
            refine CJ.weak .n (fun _ h => h) ?_
            refine c_seq ?_
            refine c_text ?_
            refine l_y (Cls.gs _ _) (y_assign rfl) rfl ?_
            refine l_nil ?_
            refine e_then ?_
            refine c_ret ?_
            refine e_ret rfl (.t rfl .n) (fun wF hw => ?_)
            exact ⟨congrArg (fun x => Ending.returned (.int .i64 x)) (near_e h0 h1 (if_neg (ne_true_of_eq_false h2)) h5 h6).symm, (hw.anc (w, []) (by simp)).below⟩

end Go.Proofs.YtdpdahpkdimopaaGreat
