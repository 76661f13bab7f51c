/-
  A part of the proof of TopAskedElsewhere: walks of single functions.
-/
import Derived.Test.YtdpdahpkdimopaaGreatQf
import Derived.Test.YtdpdahpkdimopaaGreatB
import Derived.Test.YtdpdahpkdimopaaGreatQ7
import Derived.Test.YtdpdahpkdimopaaGreatQ15
import Derived.KernelRfl
set_option linter.unusedVariables false
set_option linter.unusedSimpArgs false
set_option maxRecDepth 100000
namespace Go.Proofs.YtdpdahpkdimopaaGreat
open Go Go.Px Sg
open Go.Px Sg
theorem of15 (x y z lv : Int) (hz : vecErr x y z = 0) (hl : 0 ≤ lv ∧ lv ≤ 12) (w : World) : Calls Tryz.prog 15 #[.agg #[.int .i64 x, .int .i64 y, .int .i64 z], .int .i64 lv] w fun e w' => ∃ t : Int, e = .returned (.tuple #[.int .i64 t, .int .i64 0]) ∧ Gr w w' ∧ (-9223372036854775808 ≤ t ∧ t ≤ 9223372036854775807) := by
  have hd := dir_ok hz
  refine enter Tryz.func15 rfl rfl rfl rfl (Cls.start w) ?_
  refine c_seq ?_
  refine c_text ?_
  refine l_n rfl (n_box rfl .a rfl) (fun b0 _ => ?_)
  refine l_n rfl (n_box rfl (.o rfl) rfl) (fun b1 _ => ?_)
  refine l_y (Cls.gs _ _) (y_assign rfl) rfl ?_
  refine l_y (Cls.gs _ _) (y_assign rfl) rfl ?_
  refine l_nil ?_
  refine e_then ?_
  refine CJ.weak (.c (t := 2) rfl (.c (t := 3) rfl .n)) (fun _ h => h) ?_
  refine c_seq ?_
  refine c_seq ?_
  refine c_text ?_
  refine l_y (Cls.gs _ _) (y_load rfl (LoadAt.aggL (.s .z) ty36 (.t (.t (.t .d))))) rfl ?_
  refine l_y (Cls.gs _ _) (y_call ent35 (.c rfl .n) (fun w _ => vec35 _ _ _ w)) rfl ?_
  refine l_y (Cls.gs _ _) (y_assign rfl) rfl ?_
  refine l_nil ?_
  refine e_then ?_
  refine CJ.weak (.c (t := 2) rfl (.c (t := 3) rfl (.c (t := 6) rfl .n))) (fun _ h => h) ?_
  refine c_seq ?_
  refine c_text ?_
  refine l_y (Cls.gs _ _) (y_move rfl) rfl ?_
  refine l_y (Cls.gs _ _) (y_neq rfl rfl) rfl ?_
  refine l_nil ?_
  refine e_then ?_
  refine CJ.weak (.c (t := 2) rfl (.c (t := 3) rfl (.c (t := 6) rfl (.c (t := 21) rfl .n)))) (fun _ h => h) ?_
  refine c_cond rfl (fun h0 => ?_) (fun h0 => ?_)
  · rw [hz] at h0; simp at h0
  ·
    refine c_skip ?_
    refine e_then ?_
    refine CJ.weak (.c (t := 2) rfl (.c (t := 3) rfl .n)) (fun _ h => h) ?_
    refine c_seq ?_
    refine c_seq ?_
    refine c_text ?_
    refine l_y (Cls.gs _ _) (y_load rfl (LoadAt.oneL .z ty3 .z)) rfl ?_
    refine l_y (Cls.gs _ _) (y_lss rfl rfl) rfl ?_
    refine l_y (Cls.gs _ _) (y_move rfl) rfl ?_
    refine l_g (s := 25) (Cls.gs _ _) (by kernel_rfl) rfl (beq_f _) (fun hg => y_load rfl (LoadAt.oneL .z ty3 .z)) rfl ?_
    refine l_g (s := 25) (Cls.gs _ _) (by kernel_rfl) rfl (beq_f _) (fun hg => y_gtr (gvt hg rfl) rfl) rfl ?_
    refine l_y (Cls.gs _ _) (y_or rfl rfl rfl) rfl ?_
    refine l_nil ?_
    refine e_then ?_
    refine CJ.weak (.c (t := 2) rfl (.c (t := 3) rfl (.c (t := 28) rfl .n))) (fun _ h => h) ?_
    refine c_cond rfl (fun h1 => ?_) (fun h1 => ?_)
    · simp only [Bool.or_eq_true, decide_eq_true_eq] at h1; omega
    ·
      refine c_skip ?_
      refine e_then ?_
      refine CJ.weak (.c (t := 2) rfl (.c (t := 3) rfl .n)) (fun _ h => h) ?_
      refine c_seq ?_
      refine c_text ?_
      refine l_y (Cls.gs _ _) (y_load rfl (LoadAt.aggL (.s .z) ty36 (.t (.t (.t .d))))) rfl ?_
      refine l_n rfl (n_callW ent38 (.c rfl .n) (fun w' hw' => face38 _ _ _ hd w') rfl) (fun f hf => ?_)
      have hfr := hf.rng
      have hM := hf.pos hd
      have hp3 := pick3_in (k := f / 2) hd
      refine l_y (Cls.gs _ _) (y_assign rfl) rfl ?_
      refine l_nil ?_
      refine e_then ?_
      refine CJ.weak (.c (t := 2) rfl (.c (t := 3) rfl (.c (t := 7) rfl .n))) (fun _ h => h) ?_
      refine c_seq ?_
      refine c_text ?_
      refine l_y (Cls.gs _ _) (y_load rfl (LoadAt.aggL (.s .z) ty36 (.t (.t (.t .d))))) rfl ?_
      refine l_y (Cls.gs _ _) (y_call ent39 (.c rfl .n) (fun w _ => parts39 _ _ _ w)) rfl ?_
      refine l_n rfl (n_alloc ty109 .a rfl) (fun b2 _ => ?_)
      refine l_n rfl (n_store rfl rfl ty109 .a rfl rfl .z (.t (.t (.t .d)))) (fun _ _ => ?_)
      refine l_nil ?_
      refine e_then ?_
      refine CJ.weak (.c (t := 3) rfl (.c (t := 7) rfl (.c (t := 8) rfl .n))) (fun _ h => h) ?_
      refine c_seq ?_
      refine c_text ?_
      refine l_y (Cls.gs _ _) (y_move rfl) rfl ?_
      refine l_y (Cls.gs _ _) (y_call ent40 (.c rfl .n) (fun w _ => axes40 _ (by assumption) w)) rfl ?_
      refine l_y (Cls.gs _ _) (y_move rfl) rfl ?_
      refine l_y (Cls.gs _ _) (y_extract rfl .z) rfl ?_
      refine l_y (Cls.gs _ _) (y_extract rfl (.s .z)) rfl ?_
      refine l_y (Cls.gs _ _) (y_extract rfl (.s (.s .z))) rfl ?_
      refine l_y (Cls.gs _ _) (y_assign rfl) rfl ?_
      refine l_y (Cls.gs _ _) (y_assign rfl) rfl ?_
      refine l_y (Cls.gs _ _) (y_assign rfl) rfl ?_
      refine l_nil ?_
      refine e_then ?_
      refine CJ.weak (.c (t := 3) rfl (.c (t := 7) rfl (.c (t := 8) rfl (.c (t := 9) rfl (.c (t := 10) rfl (.c (t := 11) rfl .n)))))) (fun _ h => h) ?_
      refine c_seq ?_
      refine c_draw (m := 10) (S0 := fun _ => True) (fun i => Nat.beq i 9) (fun _ _ => trivial) hmix (Cls.gs _ _) rfl ?_
      refine a_y (i := 0) (Cls.gs _ _) (by kernel_rfl) rfl (by kernel_rfl) (by kernel_rfl) (y_move rfl) rfl ?_
      refine a_y (i := 1) (Cls.gs _ _) (by kernel_rfl) rfl (by kernel_rfl) (by kernel_rfl) (y_indexArr Tryz.underlying109 ty2 rfl rfl (by omega) (by omega)) rfl ?_
      refine a_y (i := 2) (Cls.gs _ _) (by kernel_rfl) rfl (by kernel_rfl) (by kernel_rfl) (y_load rfl (LoadAt.oneL .z ty2 (nth3 (by omega) (by omega)))) rfl ?_
      refine a_y (i := 3) (Cls.gs _ _) (by kernel_rfl) rfl (by kernel_rfl) (by kernel_rfl) (y_move rfl) rfl ?_
      refine a_y (i := 4) (Cls.gs _ _) (by kernel_rfl) rfl (by kernel_rfl) (by kernel_rfl) (y_indexArr Tryz.underlying109 ty2 rfl rfl (by omega) (by omega)) rfl ?_
      refine a_y (i := 5) (Cls.gs _ _) (by kernel_rfl) rfl (by kernel_rfl) (by kernel_rfl) (y_load rfl (LoadAt.oneL .z ty2 (nth3 (by omega) (by omega)))) rfl ?_
      refine a_y (i := 6) (Cls.gs _ _) (by kernel_rfl) rfl (by kernel_rfl) (by kernel_rfl) ((y_neg rfl).lit (lit64 (y := -(pick3 x y z (f / 2))) (by omega) (by omega) (by omega))) rfl ?_
      refine a_y (i := 7) (Cls.gs _ _) (by kernel_rfl) rfl (by kernel_rfl) (by kernel_rfl) (y_max2 rfl rfl) rfl ?_
      refine a_n (i := 8) rfl rfl (by kernel_rfl) (fun _ => Cls.gs _ _) (.inr fun _ _ h => h.tail) (n_alloc ty2 (.o rfl) rfl) (fun b3 _ => ?_)
      refine a_n (i := 9) rfl rfl (by kernel_rfl) (fun _ => Cls.gs _ _) (.inl ⟨rfl, fun _ _ _ => trivial⟩) (n_store rfl rfl ty2 (.o rfl) rfl rfl .z (.t .d)) (fun _ _ => ?_)
      refine a_done (by kernel_rfl) ?_
      refine e_then ?_
      refine CJ.weak (.c (t := 3) rfl (.c (t := 7) rfl (.c (t := 8) rfl (.c (t := 10) rfl (.c (t := 11) rfl (.c (t := 12) rfl .n)))))) (fun _ h => h) ?_
      refine c_seq ?_
      refine c_text ?_
      refine l_y (Cls.gs _ _) (y_makeFunc .n (.c rfl (.c rfl .n))) rfl ?_
      refine l_y (Cls.gs _ _) (y_assign rfl) rfl ?_
      refine l_nil ?_
      refine e_then ?_
      refine CJ.weak (.c (t := 3) rfl (.c (t := 7) rfl (.c (t := 8) rfl (.c (t := 10) rfl (.c (t := 11) rfl (.c (t := 13) rfl .n)))))) (fun _ h => h) ?_
      refine c_seq ?_
      refine c_text ?_
      refine l_y (Cls.gs _ _) (y_move rfl) rfl ?_
      refine l_y (Cls.gs _ _) (y_add64 8 f rfl rfl (by omega) (by omega)) rfl ?_
      refine l_y (Cls.gs _ _) (y_assign rfl) rfl ?_
      refine l_nil ?_
      refine e_then ?_
      refine CJ.weak (.c (t := 3) rfl (.c (t := 8) rfl (.c (t := 10) rfl (.c (t := 11) rfl (.c (t := 13) rfl (.c (t := 14) rfl .n)))))) (fun _ h => h) ?_
      refine c_seq ?_
      refine c_seq ?_
      refine c_draw (m := 15) (S0 := fun _ => True) (fun _ => false) (fun _ _ => trivial) hmix (Cls.gs _ _) rfl ?_
      refine a_y (i := 0) (Cls.gs _ _) (by kernel_rfl) rfl (by kernel_rfl) (by kernel_rfl) (y_load rfl (LoadAt.oneL (.s (.s .z)) ty3 .z)) rfl ?_
      refine a_y (i := 1) (Cls.gs _ _) (by kernel_rfl) rfl (by kernel_rfl) (by kernel_rfl) (y_sub64 lv 1 rfl rfl (by omega) (by omega)) rfl ?_
      refine a_y (i := 2) (Cls.gs _ _) (by kernel_rfl) rfl (by kernel_rfl) (by kernel_rfl) (y_move rfl) rfl ?_
      refine a_y (i := 3) (Cls.gs _ _) (by kernel_rfl) rfl (by kernel_rfl) (by kernel_rfl) (y_move rfl) rfl ?_
      refine a_y (i := 4) (Cls.gs _ _) (by kernel_rfl) rfl (by kernel_rfl) (by kernel_rfl) (y_indexArr Tryz.underlying109 ty2 rfl rfl (by omega) (by omega)) rfl ?_
      refine a_y (i := 5) (Cls.gs _ _) (by kernel_rfl) rfl (by kernel_rfl) (by kernel_rfl) (y_load rfl (LoadAt.oneL (.s .z) ty2 (nth3 (by omega) (by omega)))) rfl ?_
      refine a_y (i := 6) (Cls.gs _ _) (by kernel_rfl) rfl (by kernel_rfl) (by kernel_rfl) (y_callv ent41 rfl (.c rfl .n) (fun w hw => place41 _ _ _ _ _ hM hl.1 w (hw.locM .z) (hw.locM (.s (.s .z))))) rfl ?_
      refine a_y (i := 7) (Cls.gs _ _) (by kernel_rfl) rfl (by kernel_rfl) (by kernel_rfl) (y_move rfl) rfl ?_
      refine a_y (i := 8) (Cls.gs _ _) (by kernel_rfl) rfl (by kernel_rfl) (by kernel_rfl) (y_move rfl) rfl ?_
      refine a_y (i := 9) (Cls.gs _ _) (by kernel_rfl) rfl (by kernel_rfl) (by kernel_rfl) (y_indexArr Tryz.underlying109 ty2 rfl rfl (by omega) (by omega)) rfl ?_
      refine a_y (i := 10) (Cls.gs _ _) (by kernel_rfl) rfl (by kernel_rfl) (by kernel_rfl) (y_load rfl (LoadAt.oneL (.s .z) ty2 (nth3 (by omega) (by omega)))) rfl ?_
      refine a_y (i := 11) (Cls.gs _ _) (by kernel_rfl) rfl (by kernel_rfl) (by kernel_rfl) (y_callv ent41 rfl (.c rfl .n) (fun w hw => place41 _ _ _ _ _ hM hl.1 w (hw.locM .z) (hw.locM (.s (.s .z))))) rfl ?_
      refine a_y (i := 12) (Cls.gs _ _) (by kernel_rfl) rfl (by kernel_rfl) (by kernel_rfl) (y_assign rfl) rfl ?_
      refine a_y (i := 13) (Cls.gs _ _) (by kernel_rfl) rfl (by kernel_rfl) (by kernel_rfl) (y_assign rfl) rfl ?_
      refine a_y (i := 14) (Cls.gs _ _) (by kernel_rfl) rfl (by kernel_rfl) (by kernel_rfl) (y_assign rfl) rfl ?_
      refine a_done (by kernel_rfl) ?_
      refine e_then ?_
      refine CJ.weak (.c (t := 14) rfl (.c (t := 15) rfl (.c (t := 16) rfl (.c (t := 17) rfl .n)))) (fun _ h => h) ?_
      refine c_block ?_
      refine CJ.weak (.c (t := 14) rfl (.c (t := 15) rfl (.c (t := 16) rfl (.c (t := 17) rfl .n)))) (fun _ h => h) ?_
      refine c_loopC (fun p : Int × Int => p.1 ≤ 11 ∧ (-9223372036854775808 ≤ p.2 ∧ p.2 ≤ 9223372036854775807)) (fun p => [(14, .int .i64 p.2), (15, .int .i64 p.1)]) (fun p => (p.1 + 1).toNat) ((_, _)) (⟨by dsimp only; omega, by dsimp only; omega, by dsimp only; omega⟩) ?_
      rintro ⟨b, t⟩ hI
      dsimp only at hI
      refine c_seq ?_
      refine c_seq ?_
      refine c_text ?_
      refine l_y (Cls.gs _ _) (y_move rfl) rfl ?_
      refine l_y (Cls.gs _ _) (y_geq rfl rfl) rfl ?_
      refine l_nil ?_
      refine e_then ?_
      refine CJ.weak (.c (t := 14) rfl (.c (t := 15) rfl (.c (t := 16) rfl (.c (t := 17) rfl (.c (t := 63) rfl .n))))) (fun _ h => h) ?_
      refine c_cond rfl (fun h2 => ?_) (fun h2 => ?_)
      · have hb := of_decide_eq_true h2
        dsimp only at hb
        refine c_skip ?_
        refine e_then ?_
        refine CJ.weak (.c (t := 14) rfl (.c (t := 15) rfl (.c (t := 16) rfl (.c (t := 17) rfl .n)))) (fun _ h => h) ?_
        refine c_seq ?_
        refine c_block ?_
        refine c_draw (m := 14) (S0 := fun _ => True) (fun _ => false) (fun _ _ => trivial) hmix (Cls.gs _ _) rfl ?_
        refine a_y (i := 0) (Cls.gs _ _) (by kernel_rfl) rfl (by kernel_rfl) (by kernel_rfl) (y_move rfl) rfl ?_
        refine a_y (i := 1) (Cls.gs _ _) (by kernel_rfl) rfl (by kernel_rfl) (by kernel_rfl) (y_mul rfl rfl) rfl ?_
        refine a_y (i := 2) (Cls.gs _ _) (by kernel_rfl) rfl (by kernel_rfl) (by kernel_rfl) (y_move rfl) rfl ?_
        refine a_y (i := 3) (Cls.gs _ _) (by kernel_rfl) rfl (by kernel_rfl) (by kernel_rfl) (y_move rfl) rfl ?_
        refine a_y (i := 4) (Cls.gs _ _) (by kernel_rfl) rfl (by kernel_rfl) (by kernel_rfl) (y_shr rfl rfl (by omega)) rfl ?_
        refine a_y (i := 5) (Cls.gs _ _) (by kernel_rfl) rfl (by kernel_rfl) (by kernel_rfl) (y_band rfl rfl) rfl ?_
        refine a_y (i := 6) (Cls.gs _ _) (by kernel_rfl) rfl (by kernel_rfl) (by kernel_rfl) (y_move rfl) rfl ?_
        refine a_y (i := 7) (Cls.gs _ _) (by kernel_rfl) rfl (by kernel_rfl) (by kernel_rfl) (y_move rfl) rfl ?_
        refine a_y (i := 8) (Cls.gs _ _) (by kernel_rfl) rfl (by kernel_rfl) (by kernel_rfl) (y_shr rfl rfl (by omega)) rfl ?_
        refine a_y (i := 9) (Cls.gs _ _) (by kernel_rfl) rfl (by kernel_rfl) (by kernel_rfl) (y_band rfl rfl) rfl ?_
        refine a_y (i := 10) (Cls.gs _ _) (by kernel_rfl) rfl (by kernel_rfl) (by kernel_rfl) (y_mul rfl rfl) rfl ?_
        refine a_y (i := 11) (Cls.gs _ _) (by kernel_rfl) rfl (by kernel_rfl) (by kernel_rfl) (y_add rfl rfl) rfl ?_
        refine a_y (i := 12) (Cls.gs _ _) (by kernel_rfl) rfl (by kernel_rfl) (by kernel_rfl) (y_add rfl rfl) rfl ?_
        refine a_y (i := 13) (Cls.gs _ _) (by kernel_rfl) rfl (by kernel_rfl) (by kernel_rfl) (y_assign rfl) rfl ?_
        refine a_done (by kernel_rfl) ?_
        refine e_block ?_
        refine e_then ?_
        refine CJ.weak (.c (t := 14) rfl (.c (t := 15) rfl (.c (t := 16) rfl (.c (t := 17) rfl .n)))) (fun _ h => h) ?_
        refine c_text ?_
        refine l_y (Cls.gs _ _) (y_move rfl) rfl ?_
        refine l_y (Cls.gs _ _) (y_sub64 b 1 rfl rfl (by omega) (by omega)) rfl ?_
        refine l_y (Cls.gs _ _) (y_assign rfl) rfl ?_
        refine l_nil ?_
        refine e_again ((b - 1, _)) (⟨by dsimp only; omega, wrap_in _⟩) (by dsimp only; omega) (.c (t := 14) rfl (.c (t := 15) rfl (.c (t := 16) rfl (.c (t := 17) rfl .n)))) (fun _ h => h.thin .r)
      ·
        refine c_exit ?_
        refine e_then_exit ?_
        refine e_then_exit ?_
        refine e_block_hit ?_
        refine e_then ?_
        refine CJ.weak (.c (t := 14) rfl .n) (fun _ h => h) ?_
        refine c_seq ?_
        refine c_text ?_
        refine l_y (Cls.gs _ _) (y_move rfl) rfl ?_
        refine l_y (Cls.gs _ _) (y_assign rfl) rfl ?_
        refine l_y (Cls.gs _ _) (y_assign rfl) rfl ?_
        refine l_nil ?_
        refine e_then ?_
        refine CJ.weak (.c (t := 4) rfl (.c (t := 5) rfl .n)) (fun _ h => h) ?_
        refine c_ret ?_
        refine e_ret rfl (.t rfl (.t rfl .n)) (fun wF hw => ?_)
        exact ⟨t, rfl, (hw.anc (w, []) (by simp)).below, hI.2⟩

end Go.Proofs.YtdpdahpkdimopaaGreat
