/-
  A part of the proof of TopAskedElsewhere: walks of single functions.
-/
import Derived.Test.YtdpdahpkdimopaaGreatQf
import Derived.Test.YtdpdahpkdimopaaGreatB
import Derived.Test.YtdpdahpkdimopaaGreatQ5
import Derived.Test.YtdpdahpkdimopaaGreatQ7
import Derived.KernelRfl
set_option linter.unusedVariables false
set_option linter.unusedSimpArgs false
set_option maxRecDepth 100000
namespace Go.Proofs.YtdpdahpkdimopaaGreat
open Go Go.Px Sg
open Go.Px Sg
theorem half47 (b : Bd) (hb : okB b = true) (w : World) : Calls Tryz.prog 47 #[.agg #[.int .i64 b.lo, .int .i64 b.hi, .bool b.u]] w fun e w' => e = .returned (.int .i64 (halfB b)) ∧ Gr w w' := by
  obtain ⟨_, h1, h2, h3⟩ := okB_iff hb
  have hh := halfB_in hb
  unfold halfB at hh
  refine enter Tryz.func47 rfl rfl rfl rfl (Cls.start w) ?_
  refine c_seq ?_
  refine c_text ?_
  refine l_n rfl (n_box rfl .a rfl) (fun b0 _ => ?_)
  refine l_y (Cls.gs _ _) (y_assign rfl) rfl ?_
  refine l_nil ?_
  refine e_then ?_
  refine CJ.weak (.c (t := 1) rfl .n) (fun _ h => h) ?_
  refine c_seq ?_
  refine c_text ?_
  refine l_y (Cls.gs _ _) (y_fieldAddr rfl fa43_0) rfl ?_
  refine l_y (Cls.gs _ _) (y_load rfl (LoadAt.oneL .z ty41 .z)) rfl ?_
  refine l_y (Cls.gs _ _) (y_fieldAddr rfl fa43_1) rfl ?_
  refine l_y (Cls.gs _ _) (y_load rfl (LoadAt.oneL .z ty41 (.s .z))) rfl ?_
  refine l_y (Cls.gs _ _) (y_fieldAddr rfl fa43_0) rfl ?_
  refine l_y (Cls.gs _ _) (y_load rfl (LoadAt.oneL .z ty41 .z)) rfl ?_
  refine l_y (Cls.gs _ _) (y_sub64 b.hi b.lo rfl rfl (by omega) (by omega)) rfl ?_
  refine l_y (Cls.gs _ _) ((y_quo rfl rfl (by decide)).lit (lit64 rfl (by omega) (by omega))) rfl ?_
  refine l_y (Cls.gs _ _) (y_add64 b.lo ((b.hi - b.lo).tdiv 2) rfl rfl (by omega) (by omega)) rfl ?_
  refine l_y (Cls.gs _ _) (y_assign rfl) rfl ?_
  refine l_nil ?_
  refine e_then ?_
  refine CJ.weak (.c (t := 2) rfl .n) (fun _ h => h) ?_
  refine c_ret ?_
  refine e_ret rfl (.t rfl .n) (fun wF hw => ?_)
  exact ⟨rfl, (hw.anc (w, []) (by simp)).below⟩

theorem hull48 (a b : Bd) (w : World) : Calls Tryz.prog 48 #[.agg #[.int .i64 a.lo, .int .i64 a.hi, .bool a.u], .agg #[.int .i64 b.lo, .int .i64 b.hi, .bool b.u]] w fun e w' => e = .returned (.agg #[.int .i64 (hullB a b).lo, .int .i64 (hullB a b).hi, .bool (hullB a b).u]) ∧ Gr w w' := by
  refine enter Tryz.func48 rfl rfl rfl rfl (Cls.start w) ?_
  refine c_seq ?_
  refine c_text ?_
  refine l_n rfl (n_box rfl .a rfl) (fun b0 _ => ?_)
  refine l_n rfl (n_box rfl .a rfl) (fun b1 _ => ?_)
  refine l_n rfl (n_alloc ty43 .a rfl) (fun b2 _ => ?_)
  refine l_nil ?_
  refine e_then ?_
  refine CJ.weak (.c (t := 2) rfl (.c (t := 3) rfl (.c (t := 4) rfl .n))) (fun _ h => h) ?_
  refine c_seq ?_
  refine c_text ?_
  refine l_y (Cls.gs _ _) (y_fieldAddr rfl fa43_0) rfl ?_
  refine l_y (Cls.gs _ _) (y_load rfl (LoadAt.oneL (.s (.s .z)) ty41 .z)) rfl ?_
  refine l_y (Cls.gs _ _) (y_fieldAddr rfl fa43_0) rfl ?_
  refine l_y (Cls.gs _ _) (y_load rfl (LoadAt.oneL (.s .z) ty41 .z)) rfl ?_
  refine l_y (Cls.gs _ _) (y_min2 rfl rfl) rfl ?_
  refine l_y (Cls.gs _ _) (y_fieldAddr rfl fa43_1) rfl ?_
  refine l_y (Cls.gs _ _) (y_load rfl (LoadAt.oneL (.s (.s .z)) ty41 (.s .z))) rfl ?_
  refine l_y (Cls.gs _ _) (y_fieldAddr rfl fa43_1) rfl ?_
  refine l_y (Cls.gs _ _) (y_load rfl (LoadAt.oneL (.s .z) ty41 (.s .z))) rfl ?_
  refine l_y (Cls.gs _ _) (y_max2 rfl rfl) rfl ?_
  refine l_y (Cls.gs _ _) (y_build pl43 ty43 .a (.c rfl (.c rfl .n)) (.c rfl (.o rfl) rfl rfl (.t .d) (.c rfl (.o rfl) rfl rfl (.s (.t .d)) .d))) rfl ?_
  refine l_n rfl (n_store rfl rfl ty43 .a rfl rfl .z (.t (.t (.t .d)))) (fun _ _ => ?_)
  refine l_nil ?_
  refine e_then ?_
  refine CJ.weak (.c (t := 4) rfl .n) (fun _ h => h) ?_
  refine c_ret ?_
  refine e_ret rfl (.c rfl (LoadAt.aggL .z ty43 (.t (.t (.t .d)))) .n) (fun wF hw => ?_)
  exact ⟨rfl, (hw.anc (w, []) (by simp)).below⟩

theorem hull49 (a b : Bd) (w : World) : Calls Tryz.prog 49 #[.agg #[.int .i64 a.lo, .int .i64 a.hi, .bool a.u], .agg #[.int .i64 b.lo, .int .i64 b.hi, .bool b.u]] w fun e w' => e = .returned (.agg #[.int .i64 (hullB a b).lo, .int .i64 (hullB a b).hi, .bool (hullB a b).u]) ∧ Gr w w' := by
  refine enter Tryz.func49 rfl rfl rfl rfl (Cls.start w) ?_
  refine c_seq ?_
  refine c_text ?_
  refine l_n rfl (n_box rfl .a rfl) (fun b0 _ => ?_)
  refine l_n rfl (n_box rfl .a rfl) (fun b1 _ => ?_)
  refine l_n rfl (n_alloc ty49 .a rfl) (fun b2 _ => ?_)
  refine l_nil ?_
  refine e_then ?_
  refine CJ.weak (.c (t := 2) rfl (.c (t := 3) rfl (.c (t := 4) rfl .n))) (fun _ h => h) ?_
  refine c_seq ?_
  refine c_text ?_
  refine l_y (Cls.gs _ _) (y_fieldAddr rfl fa49_0) rfl ?_
  refine l_y (Cls.gs _ _) (y_load rfl (LoadAt.oneL (.s (.s .z)) ty24 .z)) rfl ?_
  refine l_y (Cls.gs _ _) (y_fieldAddr rfl fa49_0) rfl ?_
  refine l_y (Cls.gs _ _) (y_load rfl (LoadAt.oneL (.s .z) ty24 .z)) rfl ?_
  refine l_y (Cls.gs _ _) (y_min2 rfl rfl) rfl ?_
  refine l_y (Cls.gs _ _) (y_fieldAddr rfl fa49_1) rfl ?_
  refine l_y (Cls.gs _ _) (y_load rfl (LoadAt.oneL (.s (.s .z)) ty24 (.s .z))) rfl ?_
  refine l_y (Cls.gs _ _) (y_fieldAddr rfl fa49_1) rfl ?_
  refine l_y (Cls.gs _ _) (y_load rfl (LoadAt.oneL (.s .z) ty24 (.s .z))) rfl ?_
  refine l_y (Cls.gs _ _) (y_max2 rfl rfl) rfl ?_
  refine l_y (Cls.gs _ _) (y_build pl49 ty49 .a (.c rfl (.c rfl .n)) (.c rfl (.o rfl) rfl rfl (.t .d) (.c rfl (.o rfl) rfl rfl (.s (.t .d)) .d))) rfl ?_
  refine l_n rfl (n_store rfl rfl ty49 .a rfl rfl .z (.t (.t (.t .d)))) (fun _ _ => ?_)
  refine l_nil ?_
  refine e_then ?_
  refine CJ.weak (.c (t := 4) rfl .n) (fun _ h => h) ?_
  refine c_ret ?_
  refine e_ret rfl (.c rfl (LoadAt.aggL .z ty49 (.t (.t (.t .d)))) .n) (fun wF hw => ?_)
  exact ⟨rfl, (hw.anc (w, []) (by simp)).below⟩

theorem middle20 (a : Bx) (w : World) : Calls Tryz.prog 20 #[.agg #[.int .i64 a.x.lo, .int .i64 a.x.hi, .bool a.x.u, .int .i64 a.y.lo, .int .i64 a.y.hi, .bool a.y.u, .int .i64 a.z.lo, .int .i64 a.z.hi, .bool a.z.u]] w fun e w' => ∃ p : Int × Int × Int × Bool, e = .returned (.tuple #[.agg #[.int .i64 p.1, .int .i64 p.2.1, .int .i64 p.2.2.1], .bool p.2.2.2]) ∧ Gr w w' ∧ (p.2.2.2 = true → okX a = true ∧ vecErr p.1 p.2.1 p.2.2.1 = 0) := by
  refine enter Tryz.func20 rfl rfl rfl rfl (Cls.start w) ?_
  refine c_seq ?_
  refine c_text ?_
  refine l_n rfl (n_box rfl .a rfl) (fun b0 _ => ?_)
  refine l_n rfl (n_alloc ty36 .a rfl) (fun b1 _ => ?_)
  refine l_y (Cls.gs _ _) (y_assign rfl) rfl ?_
  refine l_nil ?_
  refine e_then ?_
  refine CJ.weak (.c (t := 1) rfl (.c (t := 2) rfl .n)) (fun _ h => h) ?_
  refine c_seq ?_
  refine c_seq ?_
  refine c_text ?_
  refine l_y (Cls.gs _ _) (y_load rfl (LoadAt.aggL (.s .z) ty45 (.t (.t (.t (.t (.t (.t (.t (.t (.t .d))))))))))) rfl ?_
  refine l_y (Cls.gs _ _) (y_call ent46 (.c rfl .n) (fun w _ => sides46 _ w)) rfl ?_
  refine l_y (Cls.gs _ _) (y_move rfl) rfl ?_
  refine l_y (Cls.gs _ _) (y_extract rfl .z) rfl ?_
  refine l_y (Cls.gs _ _) (y_extract rfl (.s .z)) rfl ?_
  refine l_n rfl (n_alloc ty117 .a rfl) (fun b2 _ => ?_)
  refine l_n rfl (n_store rfl rfl ty117 .a rfl rfl .z (.t (.t (.t (.t (.t (.t (.t (.t (.t .d)))))))))) (fun _ _ => ?_)
  refine l_y (Cls.gs _ _) (y_assign rfl) rfl ?_
  refine l_nil ?_
  refine e_then ?_
  refine CJ.weak (.c (t := 1) rfl (.c (t := 2) rfl (.c (t := 5) rfl .n))) (fun _ h => h) ?_
  refine c_seq ?_
  refine c_text ?_
  refine l_y (Cls.gs _ _) (y_move rfl) rfl ?_
  refine l_y (Cls.gs _ _) (y_not rfl) rfl ?_
  refine l_nil ?_
  refine e_then ?_
  refine CJ.weak (.c (t := 1) rfl (.c (t := 2) rfl (.c (t := 14) rfl .n))) (fun _ h => h) ?_
  refine c_cond rfl (fun h0 => ?_) (fun h0 => ?_)
  ·
    refine c_seq ?_
    refine c_text ?_
    refine l_y (Cls.gs _ _) (y_build pl36 ty36 .a .n .d) rfl ?_
    refine l_n rfl (n_store rfl rfl ty36 .a rfl rfl (.s .z) (.t (.t (.t .d)))) (fun _ _ => ?_)
    refine l_y (Cls.gs _ _) (y_assign rfl) rfl ?_
    refine l_nil ?_
    refine e_then ?_
    refine CJ.weak (.c (t := 2) rfl (.c (t := 3) rfl .n)) (fun _ h => h) ?_
    refine c_ret ?_
    refine e_then_ret ?_
    refine e_ret rfl (.c rfl (LoadAt.aggL (.s .z) ty36 (.t (.t (.t .d)))) (.t rfl .n)) (fun wF hw => ?_)
    exact ⟨(0, 0, 0, false), rfl, (hw.anc (w, []) (by simp)).below, by simp⟩
  · have hok : okX a = true := by simpa using h0
    obtain ⟨⟨o1, o2⟩, o3⟩ : (okB a.x = true ∧ okB a.y = true) ∧ okB a.z = true := by simpa [okX] using hok
    have q1 := halfB_in o1
    have q2 := halfB_in o2
    have q3 := halfB_in o3
    refine c_skip ?_
    refine e_then ?_
    refine CJ.weak (.c (t := 1) rfl (.c (t := 2) rfl .n)) (fun _ h => h) ?_
    refine c_seq ?_
    refine c_text ?_
    refine l_y (Cls.gs _ _) (y_assign rfl) rfl ?_
    refine l_nil ?_
    refine e_then ?_
    refine c_seq ?_
    refine c_draw (m := 15) (S0 := fun _ => True) (fun i => Nat.beq i 14) (fun _ _ => trivial) hmix (Cls.gs _ _) rfl ?_
    refine a_y (i := 0) (Cls.gs _ _) (by kernel_rfl) rfl (by kernel_rfl) (by kernel_rfl) (y_move rfl) rfl ?_
    refine a_y (i := 1) (Cls.gs _ _) (by kernel_rfl) rfl (by kernel_rfl) (by kernel_rfl) (y_fieldAddr rfl fa45_0) rfl ?_
    refine a_y (i := 2) (Cls.gs _ _) (by kernel_rfl) rfl (by kernel_rfl) (by kernel_rfl) (y_load rfl (LoadAt.aggL (.s (.s .z)) ty43 (.t (.t (.t .d))))) rfl ?_
    refine a_y (i := 3) (Cls.gs _ _) (by kernel_rfl) rfl (by kernel_rfl) (by kernel_rfl) (y_callv ent47 rfl (.c rfl .n) (fun w _ => half47 _ (by assumption) w)) rfl ?_
    refine a_y (i := 4) (Cls.gs _ _) (by kernel_rfl) rfl (by kernel_rfl) (by kernel_rfl) (y_move rfl) rfl ?_
    refine a_y (i := 5) (Cls.gs _ _) (by kernel_rfl) rfl (by kernel_rfl) (by kernel_rfl) (y_fieldAddr rfl fa45_1) rfl ?_
    refine a_y (i := 6) (Cls.gs _ _) (by kernel_rfl) rfl (by kernel_rfl) (by kernel_rfl) (y_load rfl (LoadAt.aggL (.s (.s .z)) ty43 (.s (.s (.s (.t (.t (.t .d)))))))) rfl ?_
    refine a_y (i := 7) (Cls.gs _ _) (by kernel_rfl) rfl (by kernel_rfl) (by kernel_rfl) (y_callv ent47 rfl (.c rfl .n) (fun w _ => half47 _ (by assumption) w)) rfl ?_
    refine a_y (i := 8) (Cls.gs _ _) (by kernel_rfl) rfl (by kernel_rfl) (by kernel_rfl) (y_move rfl) rfl ?_
    refine a_y (i := 9) (Cls.gs _ _) (by kernel_rfl) rfl (by kernel_rfl) (by kernel_rfl) (y_fieldAddr rfl fa45_2) rfl ?_
    refine a_y (i := 10) (Cls.gs _ _) (by kernel_rfl) rfl (by kernel_rfl) (by kernel_rfl) (y_load rfl (LoadAt.aggL (.s (.s .z)) ty43 (.s (.s (.s (.s (.s (.s (.t (.t (.t .d))))))))))) rfl ?_
    refine a_y (i := 11) (Cls.gs _ _) (by kernel_rfl) rfl (by kernel_rfl) (by kernel_rfl) (y_callv ent47 rfl (.c rfl .n) (fun w _ => half47 _ (by assumption) w)) rfl ?_
    refine a_y (i := 12) (Cls.gs _ _) (by kernel_rfl) rfl (by kernel_rfl) (by kernel_rfl) (y_build pl36 ty36 .a (.c rfl (.c rfl (.c rfl .n))) (.c rfl (.o rfl) rfl rfl (.t .d) (.c rfl (.o rfl) rfl rfl (.s (.t .d)) (.c rfl (.o rfl) rfl rfl (.s (.s (.t .d))) .d)))) rfl ?_
    refine a_n (i := 13) rfl rfl (by kernel_rfl) (fun _ => Cls.gs _ _) (.inr fun _ _ h => h.tail) (n_alloc ty36 .a rfl) (fun b3 _ => ?_)
    refine a_n (i := 14) rfl rfl (by kernel_rfl) (fun _ => Cls.gs _ _) (.inl ⟨rfl, fun _ _ _ => trivial⟩) (n_store rfl rfl ty36 .a rfl rfl .z (.t (.t (.t .d)))) (fun _ _ => ?_)
    refine a_done (by kernel_rfl) ?_
    refine e_then ?_
    refine CJ.weak (.c (t := 2) rfl (.c (t := 7) rfl .n)) (fun _ h => h) ?_
    refine c_seq ?_
    refine c_block ?_
    refine CJ.weak (.c (t := 2) rfl (.c (t := 7) rfl .n)) (fun _ h => h) ?_
    refine c_loopV (fun x : Int × Int × Int => (-1073741824 ≤ x.1 ∧ x.1 ≤ 1073741824) ∧ (-1073741824 ≤ x.2.1 ∧ x.2.1 ≤ 1073741824) ∧ (-1073741824 ≤ x.2.2 ∧ x.2.2 ≤ 1073741824)) (fun _ => []) (fun x => [(b3, blk [.int .i64 x.1, .int .i64 x.2.1, .int .i64 x.2.2] 36)]) (fun x => x.1.natAbs + x.2.1.natAbs + x.2.2.natAbs) ((_, _, _)) (⟨q1, q2, q3⟩) .h ?_
    rintro ⟨x, y, z⟩ ⟨i1, i2, i3⟩
    refine c_seq ?_
    refine c_seq ?_
    refine c_text ?_
    refine l_y (Cls.gs _ _) (y_fieldAddr rfl fa36_0) rfl ?_
    refine l_y (Cls.gs _ _) (y_load rfl (LoadAt.oneL .z ty2 .z)) rfl ?_
    refine l_y (Cls.gs _ _) (y_fieldAddr rfl fa36_1) rfl ?_
    refine l_y (Cls.gs _ _) (y_load rfl (LoadAt.oneL .z ty2 (.s .z))) rfl ?_
    refine l_y (Cls.gs _ _) (y_fieldAddr rfl fa36_2) rfl ?_
    refine l_y (Cls.gs _ _) (y_load rfl (LoadAt.oneL .z ty2 (.s (.s .z)))) rfl ?_
    refine l_y (Cls.gs _ _) (y_max3 rfl rfl rfl) rfl ?_
    refine l_y (Cls.gs _ _) (y_gtr rfl rfl) rfl ?_
    refine l_y (Cls.gs _ _) (y_move rfl) rfl ?_
    refine l_g (s := 37) (Cls.gs _ _) (by kernel_rfl) rfl (beq_f _) (fun hg => y_fieldAddr rfl fa36_0) rfl ?_
    refine l_g (s := 37) (Cls.gs _ _) (by kernel_rfl) rfl (beq_f _) (fun hg => y_load (gvt hg rfl) (LoadAt.oneL .z ty2 .z)) rfl ?_
    refine l_g (s := 37) (Cls.gs _ _) (by kernel_rfl) rfl (beq_f _) (fun hg => y_fieldAddr rfl fa36_1) rfl ?_
    refine l_g (s := 37) (Cls.gs _ _) (by kernel_rfl) rfl (beq_f _) (fun hg => y_load (gvt hg rfl) (LoadAt.oneL .z ty2 (.s .z))) rfl ?_
    refine l_g (s := 37) (Cls.gs _ _) (by kernel_rfl) rfl (beq_f _) (fun hg => y_fieldAddr rfl fa36_2) rfl ?_
    refine l_g (s := 37) (Cls.gs _ _) (by kernel_rfl) rfl (beq_f _) (fun hg => y_load (gvt hg rfl) (LoadAt.oneL .z ty2 (.s (.s .z)))) rfl ?_
    refine l_g (s := 37) (Cls.gs _ _) (by kernel_rfl) rfl (beq_f _) (fun hg => y_min3 (gvt hg rfl) (gvt hg rfl) (gvt hg rfl)) rfl ?_
    refine l_g (s := 37) (Cls.gs _ _) (by kernel_rfl) rfl (beq_f _) (fun hg => y_lss (gvt hg rfl) rfl) rfl ?_
    refine l_y (Cls.gs _ _) (y_or rfl rfl rfl) rfl ?_
    refine l_nil ?_
    refine e_then ?_
    refine CJ.weak (.c (t := 2) rfl (.c (t := 7) rfl (.c (t := 46) rfl .n))) (fun _ h => h) ?_
    refine c_cond rfl (fun h1 => ?_) (fun h1 => ?_)
    ·
      refine c_skip ?_
      refine e_then ?_
      refine CJ.weak (.c (t := 2) rfl (.c (t := 7) rfl .n)) (fun _ h => h) ?_
      refine c_block ?_
      refine c_text ?_
      refine l_y (Cls.gs _ _) (y_fieldAddr rfl fa36_0) rfl ?_
      refine l_y (Cls.gs _ _) (y_load rfl (LoadAt.oneL .z ty2 .z)) rfl ?_
      refine l_y (Cls.gs _ _) ((y_quo rfl rfl (by decide)).lit (lit64 rfl (by have := tdiv2_in i1.1 i1.2; omega) (by have := tdiv2_in i1.1 i1.2; omega))) rfl ?_
      refine l_y (Cls.gs _ _) (y_fieldAddr rfl fa36_1) rfl ?_
      refine l_y (Cls.gs _ _) (y_load rfl (LoadAt.oneL .z ty2 (.s .z))) rfl ?_
      refine l_y (Cls.gs _ _) ((y_quo rfl rfl (by decide)).lit (lit64 rfl (by have := tdiv2_in i2.1 i2.2; omega) (by have := tdiv2_in i2.1 i2.2; omega))) rfl ?_
      refine l_y (Cls.gs _ _) (y_fieldAddr rfl fa36_2) rfl ?_
      refine l_y (Cls.gs _ _) (y_load rfl (LoadAt.oneL .z ty2 (.s (.s .z)))) rfl ?_
      refine l_y (Cls.gs _ _) ((y_quo rfl rfl (by decide)).lit (lit64 rfl (by have := tdiv2_in i3.1 i3.2; omega) (by have := tdiv2_in i3.1 i3.2; omega))) rfl ?_
      refine l_y (Cls.gs _ _) (y_build pl36 ty36 .a (.c rfl (.c rfl (.c rfl .n))) (.c rfl (.o rfl) rfl rfl (.t .d) (.c rfl (.o rfl) rfl rfl (.s (.t .d)) (.c rfl (.o rfl) rfl rfl (.s (.s (.t .d))) .d)))) rfl ?_
      refine l_n rfl (n_store rfl rfl ty36 .a rfl rfl .z (.t (.t (.t .d)))) (fun _ _ => ?_)
      refine l_nil ?_
      refine e_block ?_
      refine e_again ((x.tdiv 2, y.tdiv 2, z.tdiv 2)) (⟨tdiv2_in i1.1 i1.2, tdiv2_in i2.1 i2.2, tdiv2_in i3.1 i3.2⟩) (by have := big3 h1; simp only [tdiv2_abs]; exact this) (.c (t := 2) rfl (.c (t := 7) rfl .n)) (fun _ h => h.thin .r)
    ·
      refine c_exit ?_
      refine e_then_exit ?_
      refine e_then_exit ?_
      refine e_block_hit ?_
      refine e_then ?_
      refine CJ.weak (.c (t := 2) rfl (.c (t := 7) rfl .n)) (fun _ h => h) ?_
      refine c_seq ?_
      refine c_draw (m := 6) (fun i => Nat.beq i 4) (fun _ h => h.thin (.k (.k (.d .r)))) hmix (Cls.gs _ _) rfl ?_
      refine a_y (i := 0) (Cls.gs _ _) (by kernel_rfl) rfl (by kernel_rfl) (by kernel_rfl) (y_load rfl (LoadAt.aggL .z ty36 (.t (.t (.t .d))))) rfl ?_
      refine a_yM (i := 1) (Cls.gs _ _) (by kernel_rfl) rfl (by kernel_rfl) (by kernel_rfl) (y_load rfl (LoadAt.aggL .z ty36 (.t (.t (.t .d))))) rfl ?_
      refine a_yM (i := 2) (Cls.gs _ _) (by kernel_rfl) rfl (by kernel_rfl) (by kernel_rfl) (y_build pl36 ty36 .a .n .d) rfl ?_
      refine a_yM (i := 3) (Cls.gs _ _) (by kernel_rfl) rfl (by kernel_rfl) (by kernel_rfl) (y_neA Tryz.underlying36 (by kernel_rfl) (by kernel_rfl) rfl rfl (.one rfl ty2 .z .z (.int Tryz.underlying2) (.one rfl ty2 (.s .z) (.s .z) (.int Tryz.underlying2) (.one rfl ty2 (.s (.s .z)) (.s (.s .z)) (.int Tryz.underlying2) .nil)))) rfl ?_
      refine a_n (i := 4) rfl rfl (by kernel_rfl) (fun _ => Cls.gs _ _) (.inl ⟨rfl, fun _ _ h => h.thin (.k (.k (.d .r)))⟩) (n_store rfl rfl ty36 .a rfl rfl (.s (.s .z)) (.t (.t (.t .d)))) (fun _ _ => ?_)
      refine a_y (i := 5) (Cls.gs _ _) (by kernel_rfl) rfl (by kernel_rfl) (by kernel_rfl) (y_assign rfl) rfl ?_
      refine a_done (by kernel_rfl) ?_
      refine e_then ?_
      refine CJ.weak (.c (t := 2) rfl (.c (t := 3) rfl .n)) (fun _ h => h) ?_
      refine c_ret ?_
      refine e_ret rfl (.c rfl (LoadAt.aggL (.s (.s .z)) ty36 (.t (.t (.t .d)))) (.t rfl .n)) (fun wF hw => ?_)
      exact ⟨(x, y, z, _), rfl, (hw.anc (w, []) (by simp)).below, fun h => ⟨hok, vecErr_zero h1 h⟩⟩

end Go.Proofs.YtdpdahpkdimopaaGreat
