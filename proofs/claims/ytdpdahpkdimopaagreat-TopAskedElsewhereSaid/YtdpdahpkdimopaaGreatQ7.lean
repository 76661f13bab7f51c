/-
  A part of the proof of TopAskedElsewhere: walks of single functions.
-/
import Derived.Test.YtdpdahpkdimopaaGreatQf
import Derived.Test.YtdpdahpkdimopaaGreatB
import Derived.Test.YtdpdahpkdimopaaGreatQ1
import Derived.Test.YtdpdahpkdimopaaGreatQ3
import Derived.Test.YtdpdahpkdimopaaGreatQ6
import Derived.KernelRfl
set_option linter.unusedVariables false
set_option linter.unusedSimpArgs false
set_option maxRecDepth 100000
namespace Go.Proofs.YtdpdahpkdimopaaGreat
open Go Go.Px Sg
open Go.Px Sg
theorem grade18 (r : Row) (q : Sg.Ask) (fa : Option Addr) (fn fc : Nat) (ca : Option Addr) (cc : Nat) (hl : q.cones.length < 9223372036854775808) (w : World) (hI : Elts w ca 4 (q.cones.map Cone.cells)) : Calls Tryz.prog 18 #[.agg #[.int .i64 r.id, .int .i64 r.box.x.lo, .int .i64 r.box.x.hi, .bool r.box.x.u, .int .i64 r.box.y.lo, .int .i64 r.box.y.hi, .bool r.box.y.u, .int .i64 r.box.z.lo, .int .i64 r.box.z.hi, .bool r.box.z.u, .int .i64 r.flux.lo, .int .i64 r.flux.hi, .bool r.flux.u, .int .i64 r.when_.lo, .int .i64 r.when_.hi, .bool r.when_.u, .slice fa fn fc, .int .i64 r.marks], .agg #[.slice ca q.cones.length cc, .int .i64 q.from_, .int .i64 q.to_, .int .i64 q.least, .int .i64 q.ban]] w fun e w' => e = .returned (.int .i64 (gradeV r q)) ∧ Gr w w' := by
  refine enter Tryz.func18 rfl rfl rfl rfl (Cls.start w) ?_
  refine c_seq ?_
  refine c_text ?_
  refine l_n rfl (n_box rfl .a rfl) (fun b0 _ => ?_)
  refine l_n rfl (n_box rfl .a rfl) (fun b1 _ => ?_)
  refine l_y (Cls.gs _ _) (y_assign rfl) rfl ?_
  refine l_nil ?_
  refine e_then ?_
  refine CJ.weak (.c (t := 2) rfl (.c (t := 3) rfl .n)) (fun _ h => h) ?_
  refine c_seq ?_
  refine c_draw (m := 14) (S0 := fun _ => True) (fun _ => false) (fun _ _ => trivial) hmix (Cls.gs _ _) rfl ?_
  refine a_y (i := 0) (Cls.gs _ _) (by kernel_rfl) rfl (by kernel_rfl) (by kernel_rfl) (y_fieldAddr rfl fa52_3) rfl ?_
  refine a_y (i := 1) (Cls.gs _ _) (by kernel_rfl) rfl (by kernel_rfl) (by kernel_rfl) (y_load rfl (LoadAt.aggL (.s .z) ty49 (.s (.s (.s (.s (.s (.s (.s (.s (.s (.s (.s (.s (.s (.t (.t (.t .d)))))))))))))))))) rfl ?_
  refine a_y (i := 2) (Cls.gs _ _) (by kernel_rfl) rfl (by kernel_rfl) (by kernel_rfl) (y_fieldAddr rfl fa27_1) rfl ?_
  refine a_y (i := 3) (Cls.gs _ _) (by kernel_rfl) rfl (by kernel_rfl) (by kernel_rfl) (y_load rfl (LoadAt.oneL .z ty24 (.s .z))) rfl ?_
  refine a_y (i := 4) (Cls.gs _ _) (by kernel_rfl) rfl (by kernel_rfl) (by kernel_rfl) (y_fieldAddr rfl fa27_2) rfl ?_
  refine a_y (i := 5) (Cls.gs _ _) (by kernel_rfl) rfl (by kernel_rfl) (by kernel_rfl) (y_load rfl (LoadAt.oneL .z ty24 (.s (.s .z)))) rfl ?_
  refine a_y (i := 6) (Cls.gs _ _) (by kernel_rfl) rfl (by kernel_rfl) (by kernel_rfl) (y_call ent27 (.c rfl (.c rfl (.c rfl .n))) (fun w _ => between27 _ _ _ w)) rfl ?_
  refine a_y (i := 7) (Cls.gs _ _) (by kernel_rfl) rfl (by kernel_rfl) (by kernel_rfl) (y_fieldAddr rfl fa52_2) rfl ?_
  refine a_y (i := 8) (Cls.gs _ _) (by kernel_rfl) rfl (by kernel_rfl) (by kernel_rfl) (y_load rfl (LoadAt.aggL (.s .z) ty47 (.s (.s (.s (.s (.s (.s (.s (.s (.s (.s (.t (.t (.t .d))))))))))))))) rfl ?_
  refine a_y (i := 9) (Cls.gs _ _) (by kernel_rfl) rfl (by kernel_rfl) (by kernel_rfl) (y_fieldAddr rfl fa27_3) rfl ?_
  refine a_y (i := 10) (Cls.gs _ _) (by kernel_rfl) rfl (by kernel_rfl) (by kernel_rfl) (y_load rfl (LoadAt.oneL .z ty25 (.s (.s (.s .z))))) rfl ?_
  refine a_y (i := 11) (Cls.gs _ _) (by kernel_rfl) rfl (by kernel_rfl) (by kernel_rfl) (y_call ent43 (.c rfl (.c rfl (.c rfl .n))) (fun w _ => between43 _ _ _ w)) rfl ?_
  refine a_y (i := 12) (Cls.gs _ _) (by kernel_rfl) rfl (by kernel_rfl) (by kernel_rfl) (y_min2 rfl rfl) rfl ?_
  refine a_y (i := 13) (Cls.gs _ _) (by kernel_rfl) rfl (by kernel_rfl) (by kernel_rfl) (y_assign rfl) rfl ?_
  refine a_done (by kernel_rfl) ?_
  refine e_then ?_
  refine CJ.weak (.c (t := 2) rfl (.c (t := 3) rfl (.c (t := 5) rfl .n))) (fun _ h => h) ?_
  refine c_seq ?_
  refine c_seq ?_
  refine c_text ?_
  refine l_y (Cls.gs _ _) (y_fieldAddr rfl fa52_5) rfl ?_
  refine l_y (Cls.gs _ _) (y_load rfl (LoadAt.oneL (.s .z) ty3 (.s (.s (.s (.s (.s (.s (.s (.s (.s (.s (.s (.s (.s (.s (.s (.s (.s .z))))))))))))))))))) rfl ?_
  refine l_y (Cls.gs _ _) (y_fieldAddr rfl fa27_4) rfl ?_
  refine l_y (Cls.gs _ _) (y_load rfl (LoadAt.oneL .z ty3 (.s (.s (.s (.s .z)))))) rfl ?_
  refine l_y (Cls.gs _ _) (y_band rfl rfl) rfl ?_
  refine l_y (Cls.gs _ _) (y_neq rfl rfl) rfl ?_
  refine l_nil ?_
  refine e_then ?_
  refine CJ.weak (.c (t := 2) rfl (.c (t := 3) rfl (.c (t := 5) rfl (.c (t := 26) rfl .n)))) (fun _ h => h) ?_
  refine c_cond rfl (fun h0 => ?_) (fun h0 => ?_)
  ·
    refine c_text ?_
    refine l_y (Cls.gs _ _) (y_assign rfl) rfl ?_
    refine l_nil ?_
    refine e_then ?_
    refine CJ.weak (.c (t := 2) rfl (.c (t := 3) rfl (.c (t := 5) rfl .n))) (fun _ h => h) ?_
    refine c_seq ?_
    refine c_seq ?_
    refine c_text ?_
    refine l_y (Cls.gs _ _) (y_fieldAddr rfl fa27_0) rfl ?_
    refine l_y (Cls.gs _ _) (y_load rfl (LoadAt.oneL .z ty23 .z)) rfl ?_
    refine l_y (Cls.gs _ _) (y_lenS Tryz.underlying23 rfl rfl) rfl ?_
    refine l_y (Cls.gs _ _) (y_move rfl) rfl ?_
    refine l_nil ?_
    refine e_then ?_
    refine CJ.weak (.c (t := 2) rfl (.c (t := 5) rfl (.c (t := 28) rfl (.c (t := 29) rfl (.c (t := 30) rfl .n))))) (fun _ h => h) ?_
    refine c_block ?_
    refine CJ.weak (.c (t := 5) rfl (.c (t := 30) rfl (.c (t := 2) rfl (.c (t := 28) rfl (.c (t := 29) rfl .n))))) (fun _ h => h) ?_
    refine c_loopC (fun x : Int × Nat => x.2 ≤ q.cones.length ∧ coneFold r.box x.1 (q.cones.drop x.2) = gradeV r q) (fun x => [(5, .int .i64 x.1), (30, .int .i64 (x.2 : Int))]) (fun x => q.cones.length - x.2) ((_, 0)) (⟨Nat.zero_le _, by rw [gradeV, grade0, bandI, h0]; rfl⟩) ?_
    rintro ⟨g, k⟩ hk
    refine c_seq ?_
    refine c_text ?_
    refine l_y (Cls.gs _ _) (y_lss rfl rfl) rfl ?_
    refine l_nil ?_
    refine e_then ?_
    refine c_seq ?_
    refine c_cond rfl (fun h1 => ?_) (fun h1 => ?_)
    · have hlt : k < q.cones.length := by have := of_decide_eq_true h1; omega
      obtain ⟨c, hc⟩ : ∃ c, q.cones[k]? = some c := ⟨_, List.getElem?_eq_getElem hlt⟩
      obtain ⟨b, o, ha, he⟩ := hI k (Cone.cells c) (by simp [hc])
      replace he := elt_load he
      refine c_skip ?_
      refine e_then ?_
      refine CJ.weak (.c (t := 2) rfl (.c (t := 5) rfl (.c (t := 28) rfl (.c (t := 29) rfl (.c (t := 30) rfl .n))))) (fun _ h => h) ?_
      refine c_seq ?_
      refine c_block ?_
      refine c_seq ?_
      refine c_text ?_
      refine l_y (Cls.gs _ _) (y_indexAddrF Tryz.underlying23 ty39 rfl rfl ha (by omega) (by omega)) rfl ?_
      refine l_y (Cls.gs _ _) (y_load rfl (LoadAt.aggF (l := [.int .i64 c.x, .int .i64 c.y, .int .i64 c.z, .int .i64 c.cos]) .z ty39 rfl he)) rfl ?_
      refine l_n rfl (n_alloc ty39 .a rfl) (fun b2 _ => ?_)
      refine l_n rfl (n_store rfl rfl ty39 .a rfl rfl .z (.t (.t (.t (.t .d))))) (fun _ _ => ?_)
      refine l_nil ?_
      refine e_then ?_
      refine CJ.weak (.c (t := 2) rfl (.c (t := 5) rfl (.c (t := 7) rfl (.c (t := 28) rfl (.c (t := 29) rfl (.c (t := 30) rfl .n)))))) (fun _ h => h) ?_
      refine c_draw (m := 11) (S0 := fun _ => True) (fun _ => false) (fun _ _ => trivial) hmix (Cls.gs _ _) rfl ?_
      refine a_y (i := 0) (Cls.gs _ _) (by kernel_rfl) rfl (by kernel_rfl) (by kernel_rfl) (y_move rfl) rfl ?_
      refine a_y (i := 1) (Cls.gs _ _) (by kernel_rfl) rfl (by kernel_rfl) (by kernel_rfl) (y_fieldAddr rfl fa52_1) rfl ?_
      refine a_y (i := 2) (Cls.gs _ _) (by kernel_rfl) rfl (by kernel_rfl) (by kernel_rfl) (y_load rfl (LoadAt.aggL (.s (.s .z)) ty45 (.s (.t (.t (.t (.t (.t (.t (.t (.t (.t .d)))))))))))) rfl ?_
      refine a_y (i := 3) (Cls.gs _ _) (by kernel_rfl) rfl (by kernel_rfl) (by kernel_rfl) (y_fieldAddr rfl fa39_0) rfl ?_
      refine a_y (i := 4) (Cls.gs _ _) (by kernel_rfl) rfl (by kernel_rfl) (by kernel_rfl) (y_load rfl (LoadAt.aggL .z ty36 (.t (.t (.t .d))))) rfl ?_
      refine a_y (i := 5) (Cls.gs _ _) (by kernel_rfl) rfl (by kernel_rfl) (by kernel_rfl) (y_call ent29 (.c rfl .n) (fun w _ => point29 _ _ _ w)) rfl ?_
      refine a_y (i := 6) (Cls.gs _ _) (by kernel_rfl) rfl (by kernel_rfl) (by kernel_rfl) (y_fieldAddr rfl fa39_1) rfl ?_
      refine a_y (i := 7) (Cls.gs _ _) (by kernel_rfl) rfl (by kernel_rfl) (by kernel_rfl) (y_load rfl (LoadAt.oneL .z ty37 (.s (.s (.s .z))))) rfl ?_
      refine a_y (i := 8) (Cls.gs _ _) (by kernel_rfl) rfl (by kernel_rfl) (by kernel_rfl) (y_call ent28 (.c rfl (.c rfl (.c rfl .n))) (fun w _ => near28 r.box (ptBx c.x c.y c.z) c.cos w)) rfl ?_
      refine a_y (i := 9) (Cls.gs _ _) (by kernel_rfl) rfl (by kernel_rfl) (by kernel_rfl) (y_min2 rfl rfl) rfl ?_
      refine a_y (i := 10) (Cls.gs _ _) (by kernel_rfl) rfl (by kernel_rfl) (by kernel_rfl) (y_assign rfl) rfl ?_
      refine a_done (by kernel_rfl) ?_
      refine e_block ?_
      refine e_then ?_
      refine CJ.weak (.c (t := 2) rfl (.c (t := 5) rfl (.c (t := 28) rfl (.c (t := 29) rfl (.c (t := 30) rfl .n))))) (fun _ h => h) ?_
      refine c_text ?_
      refine l_y (Cls.gs _ _) ((y_add rfl rfl).lit (succ64 (by omega))) rfl ?_
      refine l_y (Cls.gs _ _) (y_move rfl) rfl ?_
      refine l_nil ?_
      refine e_again ((_, k + 1)) (⟨by omega, by rw [← coneFold_step hc]; exact hk.2⟩) (by dsimp only at hlt ⊢; omega) (.c (t := 5) rfl (.c (t := 30) rfl (.c (t := 2) rfl (.c (t := 28) rfl (.c (t := 29) rfl .n))))) (fun _ h => h.thin (.d .r))
    ·
      refine c_exit ?_
      refine e_then_exit ?_
      refine e_then_exit ?_
      refine e_block_hit ?_
      refine e_then ?_
      refine CJ.weak (.c (t := 5) rfl .n) (fun _ h => h) ?_
      refine c_seq ?_
      refine c_text ?_
      refine l_y (Cls.gs _ _) (y_move rfl) rfl ?_
      refine l_y (Cls.gs _ _) (y_assign rfl) rfl ?_
      refine l_nil ?_
      refine e_then ?_
      refine CJ.weak (.c (t := 4) rfl .n) (fun _ h => h) ?_
      refine c_ret ?_
      refine e_ret rfl (.t rfl .n) (fun wF hw => ?_)
      exact ⟨by simp only [outOf]; rw [← hk.2, coneFold_end (by have := of_decide_eq_false h1; dsimp only; omega)], (hw.anc (w, []) (by simp)).below⟩
  ·
    refine c_skip ?_
    refine e_then ?_
    refine CJ.weak (.c (t := 2) rfl (.c (t := 3) rfl (.c (t := 5) rfl .n))) (fun _ h => h) ?_
    refine c_seq ?_
    refine c_seq ?_
    refine c_text ?_
    refine l_y (Cls.gs _ _) (y_fieldAddr rfl fa27_0) rfl ?_
    refine l_y (Cls.gs _ _) (y_load rfl (LoadAt.oneL .z ty23 .z)) rfl ?_
    refine l_y (Cls.gs _ _) (y_lenS Tryz.underlying23 rfl rfl) rfl ?_
    refine l_y (Cls.gs _ _) (y_move rfl) rfl ?_
    refine l_nil ?_
    refine e_then ?_
    refine CJ.weak (.c (t := 2) rfl (.c (t := 5) rfl (.c (t := 28) rfl (.c (t := 29) rfl (.c (t := 30) rfl .n))))) (fun _ h => h) ?_
    refine c_block ?_
    refine CJ.weak (.c (t := 5) rfl (.c (t := 30) rfl (.c (t := 2) rfl (.c (t := 28) rfl (.c (t := 29) rfl .n))))) (fun _ h => h) ?_
    refine c_loopC (fun x : Int × Nat => x.2 ≤ q.cones.length ∧ coneFold r.box x.1 (q.cones.drop x.2) = gradeV r q) (fun x => [(5, .int .i64 x.1), (30, .int .i64 (x.2 : Int))]) (fun x => q.cones.length - x.2) ((_, 0)) (⟨Nat.zero_le _, by rw [gradeV, grade0, bandI, h0]; rfl⟩) ?_
    rintro ⟨g, k⟩ hk
    refine c_seq ?_
    refine c_text ?_
    refine l_y (Cls.gs _ _) (y_lss rfl rfl) rfl ?_
    refine l_nil ?_
    refine e_then ?_
    refine c_seq ?_
    refine c_cond rfl (fun h2 => ?_) (fun h2 => ?_)
    · have hlt : k < q.cones.length := by have := of_decide_eq_true h2; omega
      obtain ⟨c, hc⟩ : ∃ c, q.cones[k]? = some c := ⟨_, List.getElem?_eq_getElem hlt⟩
      obtain ⟨b, o, ha, he⟩ := hI k (Cone.cells c) (by simp [hc])
      replace he := elt_load he
      refine c_skip ?_
      refine e_then ?_
      refine CJ.weak (.c (t := 2) rfl (.c (t := 5) rfl (.c (t := 28) rfl (.c (t := 29) rfl (.c (t := 30) rfl .n))))) (fun _ h => h) ?_
      refine c_seq ?_
      refine c_block ?_
      refine c_seq ?_
      refine c_text ?_
      refine l_y (Cls.gs _ _) (y_indexAddrF Tryz.underlying23 ty39 rfl rfl ha (by omega) (by omega)) rfl ?_
      refine l_y (Cls.gs _ _) (y_load rfl (LoadAt.aggF (l := [.int .i64 c.x, .int .i64 c.y, .int .i64 c.z, .int .i64 c.cos]) .z ty39 rfl he)) rfl ?_
      refine l_n rfl (n_alloc ty39 .a rfl) (fun b3 _ => ?_)
      refine l_n rfl (n_store rfl rfl ty39 .a rfl rfl .z (.t (.t (.t (.t .d))))) (fun _ _ => ?_)
      refine l_nil ?_
      refine e_then ?_
      refine CJ.weak (.c (t := 2) rfl (.c (t := 5) rfl (.c (t := 7) rfl (.c (t := 28) rfl (.c (t := 29) rfl (.c (t := 30) rfl .n)))))) (fun _ h => h) ?_
      refine c_draw (m := 11) (S0 := fun _ => True) (fun _ => false) (fun _ _ => trivial) hmix (Cls.gs _ _) rfl ?_
      refine a_y (i := 0) (Cls.gs _ _) (by kernel_rfl) rfl (by kernel_rfl) (by kernel_rfl) (y_move rfl) rfl ?_
      refine a_y (i := 1) (Cls.gs _ _) (by kernel_rfl) rfl (by kernel_rfl) (by kernel_rfl) (y_fieldAddr rfl fa52_1) rfl ?_
      refine a_y (i := 2) (Cls.gs _ _) (by kernel_rfl) rfl (by kernel_rfl) (by kernel_rfl) (y_load rfl (LoadAt.aggL (.s (.s .z)) ty45 (.s (.t (.t (.t (.t (.t (.t (.t (.t (.t .d)))))))))))) rfl ?_
      refine a_y (i := 3) (Cls.gs _ _) (by kernel_rfl) rfl (by kernel_rfl) (by kernel_rfl) (y_fieldAddr rfl fa39_0) rfl ?_
      refine a_y (i := 4) (Cls.gs _ _) (by kernel_rfl) rfl (by kernel_rfl) (by kernel_rfl) (y_load rfl (LoadAt.aggL .z ty36 (.t (.t (.t .d))))) rfl ?_
      refine a_y (i := 5) (Cls.gs _ _) (by kernel_rfl) rfl (by kernel_rfl) (by kernel_rfl) (y_call ent29 (.c rfl .n) (fun w _ => point29 _ _ _ w)) rfl ?_
      refine a_y (i := 6) (Cls.gs _ _) (by kernel_rfl) rfl (by kernel_rfl) (by kernel_rfl) (y_fieldAddr rfl fa39_1) rfl ?_
      refine a_y (i := 7) (Cls.gs _ _) (by kernel_rfl) rfl (by kernel_rfl) (by kernel_rfl) (y_load rfl (LoadAt.oneL .z ty37 (.s (.s (.s .z))))) rfl ?_
      refine a_y (i := 8) (Cls.gs _ _) (by kernel_rfl) rfl (by kernel_rfl) (by kernel_rfl) (y_call ent28 (.c rfl (.c rfl (.c rfl .n))) (fun w _ => near28 r.box (ptBx c.x c.y c.z) c.cos w)) rfl ?_
      refine a_y (i := 9) (Cls.gs _ _) (by kernel_rfl) rfl (by kernel_rfl) (by kernel_rfl) (y_min2 rfl rfl) rfl ?_
      refine a_y (i := 10) (Cls.gs _ _) (by kernel_rfl) rfl (by kernel_rfl) (by kernel_rfl) (y_assign rfl) rfl ?_
      refine a_done (by kernel_rfl) ?_
      refine e_block ?_
      refine e_then ?_
      refine CJ.weak (.c (t := 2) rfl (.c (t := 5) rfl (.c (t := 28) rfl (.c (t := 29) rfl (.c (t := 30) rfl .n))))) (fun _ h => h) ?_
      refine c_text ?_
      refine l_y (Cls.gs _ _) ((y_add rfl rfl).lit (succ64 (by omega))) rfl ?_
      refine l_y (Cls.gs _ _) (y_move rfl) rfl ?_
      refine l_nil ?_
      refine e_again ((_, k + 1)) (⟨by omega, by rw [← coneFold_step hc]; exact hk.2⟩) (by dsimp only at hlt ⊢; omega) (.c (t := 5) rfl (.c (t := 30) rfl (.c (t := 2) rfl (.c (t := 28) rfl (.c (t := 29) rfl .n))))) (fun _ h => h.thin (.d .r))
    ·
      refine c_exit ?_
      refine e_then_exit ?_
      refine e_then_exit ?_
      refine e_block_hit ?_
      refine e_then ?_
      refine CJ.weak (.c (t := 5) rfl .n) (fun _ h => h) ?_
      refine c_seq ?_
      refine c_text ?_
      refine l_y (Cls.gs _ _) (y_move rfl) rfl ?_
      refine l_y (Cls.gs _ _) (y_assign rfl) rfl ?_
      refine l_nil ?_
      refine e_then ?_
      refine CJ.weak (.c (t := 4) rfl .n) (fun _ h => h) ?_
      refine c_ret ?_
      refine e_ret rfl (.t rfl .n) (fun wF hw => ?_)
      exact ⟨by simp only [outOf]; rw [← hk.2, coneFold_end (by have := of_decide_eq_false h2; dsimp only; omega)], (hw.anc (w, []) (by simp)).below⟩

theorem vec35 (x y z : Int) (w : World) : Calls Tryz.prog 35 #[.agg #[.int .i64 x, .int .i64 y, .int .i64 z]] w fun e w' => e = .returned (.int .i64 (vecErr x y z)) ∧ Gr w w' := by
  refine enter Tryz.func35 rfl rfl rfl rfl (Cls.start w) ?_
  refine c_seq ?_
  refine c_text ?_
  refine l_n rfl (n_box rfl .a rfl) (fun b0 _ => ?_)
  refine l_y (Cls.gs _ _) (y_assign rfl) rfl ?_
  refine l_nil ?_
  refine e_then ?_
  refine CJ.weak (.c (t := 1) rfl .n) (fun _ h => h) ?_
  refine c_seq ?_
  refine c_block ?_
  refine c_seq ?_
  refine c_text ?_
  refine l_y (Cls.gs _ _) (y_fieldAddr rfl fa36_0) rfl ?_
  refine l_y (Cls.gs _ _) (y_load rfl (LoadAt.oneL .z ty2 .z)) rfl ?_
  refine l_y (Cls.gs _ _) (y_fieldAddr rfl fa36_1) rfl ?_
  refine l_y (Cls.gs _ _) (y_load rfl (LoadAt.oneL .z ty2 (.s .z))) rfl ?_
  refine l_y (Cls.gs _ _) (y_fieldAddr rfl fa36_2) rfl ?_
  refine l_y (Cls.gs _ _) (y_load rfl (LoadAt.oneL .z ty2 (.s (.s .z)))) rfl ?_
  refine l_y (Cls.gs _ _) (y_max3 rfl rfl rfl) rfl ?_
  refine l_y (Cls.gs _ _) (y_gtr rfl rfl) rfl ?_
  refine l_y (Cls.gs _ _) (y_move rfl) rfl ?_
  refine l_g (s := 12) (Cls.gs _ _) (by kernel_rfl) rfl (beq_f _) (fun hg => y_fieldAddr rfl fa36_0) rfl ?_
  refine l_g (s := 12) (Cls.gs _ _) (by kernel_rfl) rfl (beq_f _) (fun hg => y_load (gvt hg rfl) (LoadAt.oneL .z ty2 .z)) rfl ?_
  refine l_g (s := 12) (Cls.gs _ _) (by kernel_rfl) rfl (beq_f _) (fun hg => y_fieldAddr rfl fa36_1) rfl ?_
  refine l_g (s := 12) (Cls.gs _ _) (by kernel_rfl) rfl (beq_f _) (fun hg => y_load (gvt hg rfl) (LoadAt.oneL .z ty2 (.s .z))) rfl ?_
  refine l_g (s := 12) (Cls.gs _ _) (by kernel_rfl) rfl (beq_f _) (fun hg => y_fieldAddr rfl fa36_2) rfl ?_
  refine l_g (s := 12) (Cls.gs _ _) (by kernel_rfl) rfl (beq_f _) (fun hg => y_load (gvt hg rfl) (LoadAt.oneL .z ty2 (.s (.s .z)))) rfl ?_
  refine l_g (s := 12) (Cls.gs _ _) (by kernel_rfl) rfl (beq_f _) (fun hg => y_min3 (gvt hg rfl) (gvt hg rfl) (gvt hg rfl)) rfl ?_
  refine l_g (s := 12) (Cls.gs _ _) (by kernel_rfl) rfl (beq_f _) (fun hg => y_lss (gvt hg rfl) rfl) rfl ?_
  refine l_y (Cls.gs _ _) (y_or rfl rfl rfl) rfl ?_
  refine l_y (Cls.gs _ _) (y_assign rfl) rfl ?_
  refine l_nil ?_
  refine e_then ?_
  refine CJ.weak (.c (t := 1) rfl (.c (t := 3) rfl .n)) (fun _ h => h) ?_
  refine c_cond rfl (fun h0 => ?_) (fun h0 => ?_)
  ·
    refine c_seq ?_
    refine c_text ?_
    refine l_y (Cls.gs _ _) (y_assign rfl) rfl ?_
    refine l_nil ?_
    refine e_then ?_
    refine CJ.weak (.c (t := 2) rfl .n) (fun _ h => h) ?_
    refine c_ret ?_
    refine e_block_ret ?_
    refine e_then_ret ?_
    refine e_ret rfl (.t rfl .n) (fun wF hw => ?_)
    exact ⟨by simp only [outOf, vecErr, Bool.and_true, *, reduceIte, Bool.false_eq_true], (hw.anc (w, []) (by simp)).below⟩
  ·
    refine c_seq ?_
    refine c_text ?_
    refine l_y (Cls.gs _ _) (y_load rfl (LoadAt.aggL .z ty36 (.t (.t (.t .d))))) rfl ?_
    refine l_y (Cls.gs _ _) (y_build pl36 ty36 .a .n .d) rfl ?_
    refine l_y (Cls.gs _ _) (y_eqA (xs := [.int .i64 x, .int .i64 y, .int .i64 z]) (ys := [.int .i64 0, .int .i64 0, .int .i64 0]) Tryz.underlying36 (by kernel_rfl) (by kernel_rfl) rfl rfl (.one rfl ty2 .z .z (.int Tryz.underlying2) (.one rfl ty2 (.s .z) (.s .z) (.int Tryz.underlying2) (.one rfl ty2 (.s (.s .z)) (.s (.s .z)) (.int Tryz.underlying2) .nil)))) rfl ?_
    refine l_y (Cls.gs _ _) (y_assign rfl) rfl ?_
    refine l_nil ?_
    refine e_then ?_
    refine CJ.weak (.c (t := 22) rfl .n) (fun _ h => h) ?_
    refine c_cond rfl (fun h1 => ?_) (fun h1 => ?_)
    · rw [Bool.and_true] at h1
      refine c_seq ?_
      refine c_text ?_
      refine l_y (Cls.gs _ _) (y_assign rfl) rfl ?_
      refine l_nil ?_
      refine e_then ?_
      refine CJ.weak (.c (t := 2) rfl .n) (fun _ h => h) ?_
      refine c_ret ?_
      refine e_block_ret ?_
      refine e_then_ret ?_
      refine e_ret rfl (.t rfl .n) (fun wF hw => ?_)
      exact ⟨by simp only [outOf, vecErr, Bool.and_true, *, reduceIte, Bool.false_eq_true], (hw.anc (w, []) (by simp)).below⟩
    · rw [Bool.and_true] at h1
      refine c_skip ?_
      refine e_block ?_
      refine e_then ?_
      refine CJ.weak .n (fun _ h => h) ?_
      refine c_seq ?_
      refine c_text ?_
      refine l_y (Cls.gs _ _) (y_assign rfl) rfl ?_
      refine l_nil ?_
      refine e_then ?_
      refine c_ret ?_
      refine e_ret rfl (.t rfl .n) (fun wF hw => ?_)
      exact ⟨by simp only [outOf, vecErr, Bool.and_true, *, reduceIte, Bool.false_eq_true], (hw.anc (w, []) (by simp)).below⟩

theorem ask17 (q : Sg.Ask) (ca : Option Addr) (cc : Nat) (hl : q.cones.length < 9223372036854775808) (w : World) (hI : Elts w ca 4 (q.cones.map Cone.cells)) : Calls Tryz.prog 17 #[.agg #[.slice ca q.cones.length cc, .int .i64 q.from_, .int .i64 q.to_, .int .i64 q.least, .int .i64 q.ban]] w fun e w' => e = .returned (.int .i64 (askErr q)) ∧ Gr w w' := by
  refine enter Tryz.func17 rfl rfl rfl rfl (Cls.start w) ?_
  refine c_seq ?_
  refine c_text ?_
  refine l_n rfl (n_box rfl .a rfl) (fun b0 _ => ?_)
  refine l_y (Cls.gs _ _) (y_assign rfl) rfl ?_
  refine l_nil ?_
  refine e_then ?_
  refine CJ.weak (.c (t := 1) rfl .n) (fun _ h => h) ?_
  refine c_seq ?_
  refine c_seq ?_
  refine c_text ?_
  refine l_y (Cls.gs _ _) (y_fieldAddr rfl fa27_0) rfl ?_
  refine l_y (Cls.gs _ _) (y_load rfl (LoadAt.oneL .z ty23 .z)) rfl ?_
  refine l_y (Cls.gs _ _) (y_lenS Tryz.underlying23 rfl rfl) rfl ?_
  refine l_y (Cls.gs _ _) (y_gtr rfl rfl) rfl ?_
  refine l_nil ?_
  refine e_then ?_
  refine CJ.weak (.c (t := 1) rfl (.c (t := 9) rfl .n)) (fun _ h => h) ?_
  refine c_cond rfl (fun h0 => ?_) (fun h0 => ?_)
  ·
    refine c_seq ?_
    refine c_text ?_
    refine l_y (Cls.gs _ _) (y_assign rfl) rfl ?_
    refine l_nil ?_
    refine e_then ?_
    refine CJ.weak (.c (t := 2) rfl .n) (fun _ h => h) ?_
    refine c_ret ?_
    refine e_then_ret ?_
    refine e_ret rfl (.t rfl .n) (fun wF hw => ?_)
    exact ⟨congrArg (fun x => Ending.returned (.int .i64 x)) (if_pos h0).symm, (hw.anc (w, []) (by simp)).below⟩
  ·
    refine c_skip ?_
    refine e_then ?_
    refine CJ.weak (.c (t := 1) rfl .n) (fun _ h => h) ?_
    refine c_seq ?_
    refine c_seq ?_
    refine c_text ?_
    refine l_y (Cls.gs _ _) (y_fieldAddr rfl fa27_0) rfl ?_
    refine l_y (Cls.gs _ _) (y_load rfl (LoadAt.oneL .z ty23 .z)) rfl ?_
    refine l_y (Cls.gs _ _) (y_lenS Tryz.underlying23 rfl rfl) rfl ?_
    refine l_y (Cls.gs _ _) (y_move rfl) rfl ?_
    refine l_nil ?_
    refine e_then ?_
    refine CJ.weak (.c (t := 1) rfl (.c (t := 11) rfl (.c (t := 12) rfl (.c (t := 13) rfl .n)))) (fun _ h => h) ?_
    refine c_block ?_
    refine CJ.weak (.c (t := 13) rfl (.c (t := 1) rfl (.c (t := 11) rfl (.c (t := 12) rfl .n)))) (fun _ h => h) ?_
    refine c_loopC (fun k : Nat => k ≤ q.cones.length ∧ conesErr q.cones = conesErr (q.cones.drop k)) (fun k => [(13, .int .i64 (k : Int))]) (fun k => q.cones.length - k) (0) (⟨Nat.zero_le _, rfl⟩) ?_
    rintro k hk
    refine c_seq ?_
    refine c_text ?_
    refine l_y (Cls.gs _ _) (y_lss rfl rfl) rfl ?_
    refine l_nil ?_
    refine e_then ?_
    refine c_seq ?_
    refine c_cond rfl (fun h1 => ?_) (fun h1 => ?_)
    · have hlt : k < q.cones.length := by have := of_decide_eq_true h1; omega
      obtain ⟨c, hc⟩ : ∃ c, q.cones[k]? = some c := ⟨_, List.getElem?_eq_getElem hlt⟩
      obtain ⟨b, o, ha, he⟩ := hI k (Cone.cells c) (by simp [hc])
      replace he := elt_load he
      refine c_skip ?_
      refine e_then ?_
      refine CJ.weak (.c (t := 1) rfl (.c (t := 11) rfl (.c (t := 12) rfl (.c (t := 13) rfl .n)))) (fun _ h => h) ?_
      refine c_seq ?_
      refine c_block ?_
      refine c_seq ?_
      refine c_text ?_
      refine l_y (Cls.gs _ _) (y_indexAddrF Tryz.underlying23 ty39 rfl rfl ha (by omega) (by omega)) rfl ?_
      refine l_y (Cls.gs _ _) (y_load rfl (LoadAt.aggF (l := [.int .i64 c.x, .int .i64 c.y, .int .i64 c.z, .int .i64 c.cos]) .z ty39 rfl he)) rfl ?_
      refine l_n rfl (n_alloc ty39 .a rfl) (fun b1 _ => ?_)
      refine l_n rfl (n_store rfl rfl ty39 .a rfl rfl .z (.t (.t (.t (.t .d))))) (fun _ _ => ?_)
      refine l_nil ?_
      refine e_then ?_
      refine CJ.weak (.c (t := 1) rfl (.c (t := 4) rfl (.c (t := 11) rfl (.c (t := 12) rfl (.c (t := 13) rfl .n))))) (fun _ h => h) ?_
      refine c_seq ?_
      refine c_seq ?_
      refine c_text ?_
      refine l_y (Cls.gs _ _) (y_fieldAddr rfl fa39_0) rfl ?_
      refine l_y (Cls.gs _ _) (y_load rfl (LoadAt.aggL .z ty36 (.t (.t (.t .d))))) rfl ?_
      refine l_y (Cls.gs _ _) (y_call ent35 (.c rfl .n) (fun w _ => vec35 _ _ _ w)) rfl ?_
      refine l_y (Cls.gs _ _) (y_assign rfl) rfl ?_
      refine l_nil ?_
      refine e_then ?_
      refine CJ.weak (.c (t := 1) rfl (.c (t := 4) rfl (.c (t := 5) rfl (.c (t := 11) rfl (.c (t := 12) rfl (.c (t := 13) rfl .n)))))) (fun _ h => h) ?_
      refine c_seq ?_
      refine c_text ?_
      refine l_y (Cls.gs _ _) (y_move rfl) rfl ?_
      refine l_y (Cls.gs _ _) (y_neq rfl rfl) rfl ?_
      refine l_nil ?_
      refine e_then ?_
      refine CJ.weak (.c (t := 1) rfl (.c (t := 4) rfl (.c (t := 5) rfl (.c (t := 11) rfl (.c (t := 12) rfl (.c (t := 13) rfl (.c (t := 21) rfl .n))))))) (fun _ h => h) ?_
      refine c_cond rfl (fun h2 => ?_) (fun h2 => ?_)
      ·
        refine c_seq ?_
        refine c_text ?_
        refine l_y (Cls.gs _ _) (y_move rfl) rfl ?_
        refine l_y (Cls.gs _ _) (y_assign rfl) rfl ?_
        refine l_nil ?_
        refine e_then ?_
        refine CJ.weak (.c (t := 2) rfl .n) (fun _ h => h) ?_
        refine c_ret ?_
        refine e_then_ret ?_
        refine e_block_ret ?_
        refine e_then_ret ?_
        refine e_then_ret ?_
        refine e_block_ret ?_
        refine e_then_ret ?_
        refine e_ret rfl (.t rfl .n) (fun wF hw => ?_)
        exact ⟨congrArg (fun x => Ending.returned (.int .i64 x)) (ask_cone h0 (hk.2.trans ((conesErr_step hc).trans (if_pos h2))) h2).symm, (hw.anc (w, []) (by simp)).below⟩
      ·
        refine c_skip ?_
        refine e_then ?_
        refine CJ.weak (.c (t := 1) rfl (.c (t := 4) rfl (.c (t := 11) rfl (.c (t := 12) rfl (.c (t := 13) rfl .n))))) (fun _ h => h) ?_
        refine c_seq ?_
        refine c_text ?_
        refine l_y (Cls.gs _ _) (y_fieldAddr rfl fa39_1) rfl ?_
        refine l_y (Cls.gs _ _) (y_load rfl (LoadAt.oneL .z ty37 (.s (.s (.s .z))))) rfl ?_
        refine l_y (Cls.gs _ _) (y_lss rfl rfl) rfl ?_
        refine l_y (Cls.gs _ _) (y_move rfl) rfl ?_
        refine l_g (s := 26) (Cls.gs _ _) (by kernel_rfl) rfl (beq_f _) (fun hg => y_fieldAddr rfl fa39_1) rfl ?_
        refine l_g (s := 26) (Cls.gs _ _) (by kernel_rfl) rfl (beq_f _) (fun hg => y_load (gvt hg rfl) (LoadAt.oneL .z ty37 (.s (.s (.s .z))))) rfl ?_
        refine l_g (s := 26) (Cls.gs _ _) (by kernel_rfl) rfl (beq_f _) (fun hg => y_gtr (gvt hg rfl) rfl) rfl ?_
        refine l_y (Cls.gs _ _) (y_or rfl rfl rfl) rfl ?_
        refine l_nil ?_
        refine e_then ?_
        refine CJ.weak (.c (t := 1) rfl (.c (t := 11) rfl (.c (t := 12) rfl (.c (t := 13) rfl (.c (t := 30) rfl .n))))) (fun _ h => h) ?_
        refine c_cond rfl (fun h3 => ?_) (fun h3 => ?_)
        ·
          refine c_seq ?_
          refine c_text ?_
          refine l_y (Cls.gs _ _) (y_assign rfl) rfl ?_
          refine l_nil ?_
          refine e_then ?_
          refine CJ.weak (.c (t := 2) rfl .n) (fun _ h => h) ?_
          refine c_ret ?_
          refine e_block_ret ?_
          refine e_then_ret ?_
          refine e_then_ret ?_
          refine e_block_ret ?_
          refine e_then_ret ?_
          refine e_ret rfl (.t rfl .n) (fun wF hw => ?_)
          exact ⟨congrArg (fun x => Ending.returned (.int .i64 x)) (ask_cone h0 (hk.2.trans ((conesErr_step hc).trans ((if_neg (ne_true_of_eq_false h2)).trans (if_pos h3)))) rfl).symm, (hw.anc (w, []) (by simp)).below⟩
        ·
          refine c_skip ?_
          refine e_block ?_
          refine e_then ?_
          refine CJ.weak (.c (t := 1) rfl (.c (t := 11) rfl (.c (t := 12) rfl (.c (t := 13) rfl .n)))) (fun _ h => h) ?_
          refine c_text ?_
          refine l_y (Cls.gs _ _) ((y_add rfl rfl).lit (succ64 (by omega))) rfl ?_
          refine l_y (Cls.gs _ _) (y_move rfl) rfl ?_
          refine l_nil ?_
          refine e_again (k + 1) (⟨by omega, by rw [hk.2, conesErr_step hc, h2, h3]; rfl⟩) (by omega) (.c (t := 13) rfl (.c (t := 1) rfl (.c (t := 11) rfl (.c (t := 12) rfl .n)))) (fun _ h => h.thin (.d .r))
    ·
      refine c_exit ?_
      refine e_then_exit ?_
      refine e_then_exit ?_
      refine e_block_hit ?_
      refine e_then ?_
      refine CJ.weak (.c (t := 1) rfl .n) (fun _ h => h) ?_
      refine c_seq ?_
      refine c_block ?_
      refine c_seq ?_
      refine c_text ?_
      refine l_y (Cls.gs _ _) (y_fieldAddr rfl fa27_1) rfl ?_
      refine l_y (Cls.gs _ _) (y_load rfl (LoadAt.oneL .z ty24 (.s .z))) rfl ?_
      refine l_y (Cls.gs _ _) (y_fieldAddr rfl fa27_2) rfl ?_
      refine l_y (Cls.gs _ _) (y_load rfl (LoadAt.oneL .z ty24 (.s (.s .z)))) rfl ?_
      refine l_y (Cls.gs _ _) (y_min2 rfl rfl) rfl ?_
      refine l_y (Cls.gs _ _) (y_lss rfl rfl) rfl ?_
      refine l_y (Cls.gs _ _) (y_move rfl) rfl ?_
      refine l_g (s := 39) (Cls.gs _ _) (by kernel_rfl) rfl (beq_f _) (fun hg => y_fieldAddr rfl fa27_1) rfl ?_
      refine l_g (s := 39) (Cls.gs _ _) (by kernel_rfl) rfl (beq_f _) (fun hg => y_load (gvt hg rfl) (LoadAt.oneL .z ty24 (.s .z))) rfl ?_
      refine l_g (s := 39) (Cls.gs _ _) (by kernel_rfl) rfl (beq_f _) (fun hg => y_fieldAddr rfl fa27_2) rfl ?_
      refine l_g (s := 39) (Cls.gs _ _) (by kernel_rfl) rfl (beq_f _) (fun hg => y_load (gvt hg rfl) (LoadAt.oneL .z ty24 (.s (.s .z)))) rfl ?_
      refine l_g (s := 39) (Cls.gs _ _) (by kernel_rfl) rfl (beq_f _) (fun hg => y_max2 (gvt hg rfl) (gvt hg rfl)) rfl ?_
      refine l_g (s := 39) (Cls.gs _ _) (by kernel_rfl) rfl (beq_f _) (fun hg => y_gtr (gvt hg rfl) rfl) rfl ?_
      refine l_y (Cls.gs _ _) (y_or rfl rfl rfl) rfl ?_
      refine l_y (Cls.gs _ _) (y_assign rfl) rfl ?_
      refine l_nil ?_
      refine e_then ?_
      refine CJ.weak (.c (t := 1) rfl (.c (t := 32) rfl .n)) (fun _ h => h) ?_
      refine c_cond rfl (fun h4 => ?_) (fun h4 => ?_)
      ·
        refine c_seq ?_
        refine c_text ?_
        refine l_y (Cls.gs _ _) (y_assign rfl) rfl ?_
        refine l_nil ?_
        refine e_then ?_
        refine CJ.weak (.c (t := 2) rfl .n) (fun _ h => h) ?_
        refine c_ret ?_
        refine e_block_ret ?_
        refine e_then_ret ?_
        refine e_ret rfl (.t rfl .n) (fun wF hw => ?_)
        exact ⟨congrArg (fun x => Ending.returned (.int .i64 x)) ((ask_rest h0 (hk.2.trans (conesErr_end (by have := of_decide_eq_false h1; omega)))).trans (if_pos h4)).symm, (hw.anc (w, []) (by simp)).below⟩
      ·
        refine c_seq ?_
        refine c_text ?_
        refine l_y (Cls.gs _ _) (y_fieldAddr rfl fa27_1) rfl ?_
        refine l_y (Cls.gs _ _) (y_load rfl (LoadAt.oneL .z ty24 (.s .z))) rfl ?_
        refine l_y (Cls.gs _ _) (y_fieldAddr rfl fa27_2) rfl ?_
        refine l_y (Cls.gs _ _) (y_load rfl (LoadAt.oneL .z ty24 (.s (.s .z)))) rfl ?_
        refine l_y (Cls.gs _ _) (y_gtr rfl rfl) rfl ?_
        refine l_y (Cls.gs _ _) (y_assign rfl) rfl ?_
        refine l_nil ?_
        refine e_then ?_
        refine CJ.weak (.c (t := 1) rfl (.c (t := 47) rfl .n)) (fun _ h => h) ?_
        refine c_cond rfl (fun h5 => ?_) (fun h5 => ?_)
        ·
          refine c_seq ?_
          refine c_text ?_
          refine l_y (Cls.gs _ _) (y_assign rfl) rfl ?_
          refine l_nil ?_
          refine e_then ?_
          refine CJ.weak (.c (t := 2) rfl .n) (fun _ h => h) ?_
          refine c_ret ?_
          refine e_block_ret ?_
          refine e_then_ret ?_
          refine e_ret rfl (.t rfl .n) (fun wF hw => ?_)
          exact ⟨congrArg (fun x => Ending.returned (.int .i64 x)) ((ask_rest h0 (hk.2.trans (conesErr_end (by have := of_decide_eq_false h1; omega)))).trans ((if_neg (ne_true_of_eq_false h4)).trans (if_pos h5))).symm, (hw.anc (w, []) (by simp)).below⟩
        ·
          refine c_seq ?_
          refine c_text ?_
          refine l_y (Cls.gs _ _) (y_fieldAddr rfl fa27_3) rfl ?_
          refine l_y (Cls.gs _ _) (y_load rfl (LoadAt.oneL .z ty25 (.s (.s (.s .z))))) rfl ?_
          refine l_y (Cls.gs _ _) (y_lss rfl rfl) rfl ?_
          refine l_y (Cls.gs _ _) (y_move rfl) rfl ?_
          refine l_g (s := 57) (Cls.gs _ _) (by kernel_rfl) rfl (beq_f _) (fun hg => y_fieldAddr rfl fa27_3) rfl ?_
          refine l_g (s := 57) (Cls.gs _ _) (by kernel_rfl) rfl (beq_f _) (fun hg => y_load (gvt hg rfl) (LoadAt.oneL .z ty25 (.s (.s (.s .z))))) rfl ?_
          refine l_g (s := 57) (Cls.gs _ _) (by kernel_rfl) rfl (beq_f _) (fun hg => y_gtr (gvt hg rfl) rfl) rfl ?_
          refine l_y (Cls.gs _ _) (y_or rfl rfl rfl) rfl ?_
          refine l_y (Cls.gs _ _) (y_move rfl) rfl ?_
          refine l_g (s := 62) (Cls.gs _ _) (by kernel_rfl) rfl (beq_f _) (fun hg => y_fieldAddr rfl fa27_4) rfl ?_
          refine l_g (s := 62) (Cls.gs _ _) (by kernel_rfl) rfl (beq_f _) (fun hg => y_load (gvt hg rfl) (LoadAt.oneL .z ty3 (.s (.s (.s (.s .z)))))) rfl ?_
          refine l_g (s := 62) (Cls.gs _ _) (by kernel_rfl) rfl (beq_f _) (fun hg => y_lss (gvt hg rfl) rfl) rfl ?_
          refine l_y (Cls.gs _ _) (y_or rfl rfl rfl) rfl ?_
          refine l_y (Cls.gs _ _) (y_move rfl) rfl ?_
          refine l_g (s := 67) (Cls.gs _ _) (by kernel_rfl) rfl (beq_f _) (fun hg => y_fieldAddr rfl fa27_4) rfl ?_
          refine l_g (s := 67) (Cls.gs _ _) (by kernel_rfl) rfl (beq_f _) (fun hg => y_load (gvt hg rfl) (LoadAt.oneL .z ty3 (.s (.s (.s (.s .z)))))) rfl ?_
          refine l_g (s := 67) (Cls.gs _ _) (by kernel_rfl) rfl (beq_f _) (fun hg => y_gtr (gvt hg rfl) rfl) rfl ?_
          refine l_y (Cls.gs _ _) (y_or rfl rfl rfl) rfl ?_
          refine l_y (Cls.gs _ _) (y_assign rfl) rfl ?_
          refine l_nil ?_
          refine e_then ?_
          refine CJ.weak (.c (t := 53) rfl .n) (fun _ h => h) ?_
          refine c_cond rfl (fun h6 => ?_) (fun h6 => ?_)
          ·
            refine c_seq ?_
            refine c_text ?_
            refine l_y (Cls.gs _ _) (y_assign rfl) rfl ?_
            refine l_nil ?_
            refine e_then ?_
            refine CJ.weak (.c (t := 2) rfl .n) (fun _ h => h) ?_
            refine c_ret ?_
            refine e_block_ret ?_
            refine e_then_ret ?_
            refine e_ret rfl (.t rfl .n) (fun wF hw => ?_)
            exact ⟨congrArg (fun x => Ending.returned (.int .i64 x)) ((ask_rest h0 (hk.2.trans (conesErr_end (by have := of_decide_eq_false h1; omega)))).trans ((if_neg (ne_true_of_eq_false h4)).trans ((if_neg (ne_true_of_eq_false h5)).trans (if_pos h6)))).symm, (hw.anc (w, []) (by simp)).below⟩
          ·
            refine c_skip ?_
            refine e_block ?_
            refine e_then ?_
            refine CJ.weak .n (fun _ h => h) ?_
            refine c_seq ?_
            refine c_text ?_
            refine l_y (Cls.gs _ _) (y_assign rfl) rfl ?_
            refine l_nil ?_
            refine e_then ?_
            refine c_ret ?_
            refine e_ret rfl (.t rfl .n) (fun wF hw => ?_)
            exact ⟨congrArg (fun x => Ending.returned (.int .i64 x)) ((ask_rest h0 (hk.2.trans (conesErr_end (by have := of_decide_eq_false h1; omega)))).trans ((if_neg (ne_true_of_eq_false h4)).trans ((if_neg (ne_true_of_eq_false h5)).trans (if_neg (ne_true_of_eq_false h6))))).symm, (hw.anc (w, []) (by simp)).below⟩

theorem row42 (r : Row) (fa : Option Addr) (fc : Nat) (hl : r.frames.length < 9223372036854775808) (w : World) (hI : Ints w fa r.frames) : Calls Tryz.prog 42 #[.agg #[.int .i64 r.id, .int .i64 r.box.x.lo, .int .i64 r.box.x.hi, .bool r.box.x.u, .int .i64 r.box.y.lo, .int .i64 r.box.y.hi, .bool r.box.y.u, .int .i64 r.box.z.lo, .int .i64 r.box.z.hi, .bool r.box.z.u, .int .i64 r.flux.lo, .int .i64 r.flux.hi, .bool r.flux.u, .int .i64 r.when_.lo, .int .i64 r.when_.hi, .bool r.when_.u, .slice fa r.frames.length fc, .int .i64 r.marks]] w fun e w' => e = .returned (.int .i64 (rowErr r)) ∧ Gr w w' := by
  refine enter Tryz.func42 rfl rfl rfl rfl (Cls.start w) ?_
  refine c_seq ?_
  refine c_text ?_
  refine l_n rfl (n_box rfl .a rfl) (fun b0 _ => ?_)
  refine l_y (Cls.gs _ _) (y_assign rfl) rfl ?_
  refine l_nil ?_
  refine e_then ?_
  refine CJ.weak (.c (t := 1) rfl .n) (fun _ h => h) ?_
  refine c_seq ?_
  refine c_seq ?_
  refine c_text ?_
  refine l_y (Cls.gs _ _) (y_fieldAddr rfl fa52_0) rfl ?_
  refine l_y (Cls.gs _ _) (y_load rfl (LoadAt.oneL .z ty3 .z)) rfl ?_
  refine l_y (Cls.gs _ _) (y_lss rfl rfl) rfl ?_
  refine l_y (Cls.gs _ _) (y_move rfl) rfl ?_
  refine l_g (s := 12) (Cls.gs _ _) (by kernel_rfl) rfl (beq_f _) (fun hg => y_fieldAddr rfl fa52_0) rfl ?_
  refine l_g (s := 12) (Cls.gs _ _) (by kernel_rfl) rfl (beq_f _) (fun hg => y_load (gvt hg rfl) (LoadAt.oneL .z ty3 .z)) rfl ?_
  refine l_g (s := 12) (Cls.gs _ _) (by kernel_rfl) rfl (beq_f _) (fun hg => y_gtr (gvt hg rfl) rfl) rfl ?_
  refine l_y (Cls.gs _ _) (y_or rfl rfl rfl) rfl ?_
  refine l_nil ?_
  refine e_then ?_
  refine CJ.weak (.c (t := 1) rfl (.c (t := 16) rfl .n)) (fun _ h => h) ?_
  refine c_cond rfl (fun h0 => ?_) (fun h0 => ?_)
  ·
    refine c_seq ?_
    refine c_text ?_
    refine l_y (Cls.gs _ _) (y_assign rfl) rfl ?_
    refine l_nil ?_
    refine e_then ?_
    refine CJ.weak (.c (t := 2) rfl .n) (fun _ h => h) ?_
    refine c_ret ?_
    refine e_then_ret ?_
    refine e_ret rfl (.t rfl .n) (fun wF hw => ?_)
    exact ⟨congrArg (fun x => Ending.returned (.int .i64 x)) (if_pos h0).symm, (hw.anc (w, []) (by simp)).below⟩
  ·
    refine c_skip ?_
    refine e_then ?_
    refine CJ.weak (.c (t := 1) rfl .n) (fun _ h => h) ?_
    refine c_seq ?_
    refine c_seq ?_
    refine c_text ?_
    refine l_y (Cls.gs _ _) (y_fieldAddr rfl fa52_1) rfl ?_
    refine l_y (Cls.gs _ _) (y_fieldAddr rfl fa45_0) rfl ?_
    refine l_y (Cls.gs _ _) (y_load rfl (LoadAt.aggL .z ty43 (.s (.t (.t (.t .d)))))) rfl ?_
    refine l_y (Cls.gs _ _) (y_fieldAddr rfl fa52_1) rfl ?_
    refine l_y (Cls.gs _ _) (y_fieldAddr rfl fa45_1) rfl ?_
    refine l_y (Cls.gs _ _) (y_load rfl (LoadAt.aggL .z ty43 (.s (.s (.s (.s (.t (.t (.t .d))))))))) rfl ?_
    refine l_y (Cls.gs _ _) (y_fieldAddr rfl fa52_1) rfl ?_
    refine l_y (Cls.gs _ _) (y_fieldAddr rfl fa45_2) rfl ?_
    refine l_y (Cls.gs _ _) (y_load rfl (LoadAt.aggL .z ty43 (.s (.s (.s (.s (.s (.s (.s (.t (.t (.t .d)))))))))))) rfl ?_
    refine l_y (Cls.gs _ _) (y_buildArr Tryz.underlying117 ty43 ty117 .a (.c rfl (.c rfl (.c rfl .n))) (.c rfl .a rfl rfl (.t (.t (.t .d))) (.c rfl .a rfl rfl (.s (.s (.s (.t (.t (.t .d)))))) (.c rfl .a rfl rfl (.s (.s (.s (.s (.s (.s (.t (.t (.t .d))))))))) .d)))) rfl ?_
    refine l_y (Cls.gs _ _) (y_move rfl) rfl ?_
    refine l_nil ?_
    refine e_then ?_
    refine CJ.weak (.c (t := 1) rfl (.c (t := 26) rfl (.c (t := 27) rfl .n))) (fun _ h => h) ?_
    refine c_block ?_
    refine c_rounds 5 ?_
    refine r_succ ?_
    refine c_seq ?_
    refine c_text ?_
    refine l_y (Cls.gs _ _) ((y_lss rfl rfl).lit (by kernel_rfl : _ = Value.bool true)) rfl ?_
    refine l_nil ?_
    refine e_then ?_
    refine c_seq ?_
    refine c_true (by kernel_rfl) ?_
    refine c_skip ?_
    refine e_then ?_
    refine CJ.weak (.c (t := 1) rfl (.c (t := 26) rfl (.c (t := 27) rfl .n))) (fun _ h => h) ?_
    refine c_seq ?_
    refine c_block ?_
    refine c_seq ?_
    refine c_text ?_
    refine l_y (Cls.gs _ _) (y_indexV 0 Tryz.underlying117 ty43 rfl rfl rfl rfl (.t (.t (.t .d)))) rfl ?_
    refine l_n rfl (n_alloc ty43 .a rfl) (fun b1 _ => ?_)
    refine l_n rfl (n_store rfl rfl ty43 .a rfl rfl .z (.t (.t (.t .d)))) (fun _ _ => ?_)
    refine l_nil ?_
    refine e_then ?_
    refine CJ.weak (.c (t := 1) rfl (.c (t := 4) rfl (.c (t := 26) rfl (.c (t := 27) rfl .n)))) (fun _ h => h) ?_
    refine c_seq ?_
    refine c_text ?_
    refine l_y (Cls.gs _ _) (y_load rfl (LoadAt.aggL .z ty43 (.t (.t (.t .d))))) rfl ?_
    refine l_y (Cls.gs _ _) (y_call ent64 (.c rfl (.c rfl .n)) (fun w _ => ends64 _ _ (by decide) (by decide) w)) rfl ?_
    refine l_y (Cls.gs _ _) (y_assign rfl) rfl ?_
    refine l_nil ?_
    refine e_then ?_
    refine CJ.weak (.c (t := 1) rfl (.c (t := 5) rfl (.c (t := 26) rfl (.c (t := 27) rfl .n)))) (fun _ h => h) ?_
    refine c_seq ?_
    refine c_text ?_
    refine l_y (Cls.gs _ _) (y_move rfl) rfl ?_
    refine l_y (Cls.gs _ _) (y_neq rfl rfl) rfl ?_
    refine l_nil ?_
    refine e_then ?_
    refine CJ.weak (.c (t := 1) rfl (.c (t := 5) rfl (.c (t := 26) rfl (.c (t := 27) rfl (.c (t := 33) rfl .n))))) (fun _ h => h) ?_
    refine c_cond rfl (fun h1 => ?_) (fun h1 => ?_)
    ·
      refine c_seq ?_
      refine c_text ?_
      refine l_y (Cls.gs _ _) (y_move rfl) rfl ?_
      refine l_y (Cls.gs _ _) (y_assign rfl) rfl ?_
      refine l_nil ?_
      refine e_then ?_
      refine CJ.weak (.c (t := 2) rfl .n) (fun _ h => h) ?_
      refine c_ret ?_
      refine e_block_ret ?_
      refine e_then_ret ?_
      refine e_then_ret ?_
      refine e_block_ret ?_
      refine e_then_ret ?_
      refine e_ret rfl (.t rfl .n) (fun wF hw => ?_)
      exact ⟨congrArg (fun x => Ending.returned (.int .i64 x)) (((if_neg (ne_true_of_eq_false h0)).trans (if_pos h1))).symm, (hw.anc (w, []) (by simp)).below⟩
    ·
      refine c_skip ?_
      refine e_block ?_
      refine e_then ?_
      refine CJ.weak (.c (t := 1) rfl (.c (t := 26) rfl (.c (t := 27) rfl .n))) (fun _ h => h) ?_
      refine c_text ?_
      refine l_y (Cls.gs _ _) ((y_add rfl rfl).lit (by kernel_rfl : _ = Value.int .i64 1)) rfl ?_
      refine l_y (Cls.gs _ _) (y_move rfl) rfl ?_
      refine l_nil ?_
      refine e_rounds ?_
      refine RJ.weak (.c (t := 1) rfl (.c (t := 26) rfl (.c (t := 27) rfl .n))) (fun _ h => h) ?_
      refine r_succ ?_
      refine c_seq ?_
      refine c_text ?_
      refine l_y (Cls.gs _ _) ((y_lss rfl rfl).lit (by kernel_rfl : _ = Value.bool true)) rfl ?_
      refine l_nil ?_
      refine e_then ?_
      refine c_seq ?_
      refine c_true (by kernel_rfl) ?_
      refine c_skip ?_
      refine e_then ?_
      refine CJ.weak (.c (t := 1) rfl (.c (t := 26) rfl (.c (t := 27) rfl .n))) (fun _ h => h) ?_
      refine c_seq ?_
      refine c_block ?_
      refine c_seq ?_
      refine c_text ?_
      refine l_y (Cls.gs _ _) (y_indexV 1 Tryz.underlying117 ty43 rfl rfl rfl rfl (.s (.s (.s (.t (.t (.t .d))))))) rfl ?_
      refine l_n rfl (n_alloc ty43 .a rfl) (fun b2 _ => ?_)
      refine l_n rfl (n_store rfl rfl ty43 .a rfl rfl .z (.t (.t (.t .d)))) (fun _ _ => ?_)
      refine l_nil ?_
      refine e_then ?_
      refine CJ.weak (.c (t := 1) rfl (.c (t := 4) rfl (.c (t := 26) rfl (.c (t := 27) rfl .n)))) (fun _ h => h) ?_
      refine c_seq ?_
      refine c_text ?_
      refine l_y (Cls.gs _ _) (y_load rfl (LoadAt.aggL .z ty43 (.t (.t (.t .d))))) rfl ?_
      refine l_y (Cls.gs _ _) (y_call ent64 (.c rfl (.c rfl .n)) (fun w _ => ends64 _ _ (by decide) (by decide) w)) rfl ?_
      refine l_y (Cls.gs _ _) (y_assign rfl) rfl ?_
      refine l_nil ?_
      refine e_then ?_
      refine CJ.weak (.c (t := 1) rfl (.c (t := 5) rfl (.c (t := 26) rfl (.c (t := 27) rfl .n)))) (fun _ h => h) ?_
      refine c_seq ?_
      refine c_text ?_
      refine l_y (Cls.gs _ _) (y_move rfl) rfl ?_
      refine l_y (Cls.gs _ _) (y_neq rfl rfl) rfl ?_
      refine l_nil ?_
      refine e_then ?_
      refine CJ.weak (.c (t := 1) rfl (.c (t := 5) rfl (.c (t := 26) rfl (.c (t := 27) rfl (.c (t := 33) rfl .n))))) (fun _ h => h) ?_
      refine c_cond rfl (fun h2 => ?_) (fun h2 => ?_)
      ·
        refine c_seq ?_
        refine c_text ?_
        refine l_y (Cls.gs _ _) (y_move rfl) rfl ?_
        refine l_y (Cls.gs _ _) (y_assign rfl) rfl ?_
        refine l_nil ?_
        refine e_then ?_
        refine CJ.weak (.c (t := 2) rfl .n) (fun _ h => h) ?_
        refine c_ret ?_
        refine e_block_ret ?_
        refine e_then_ret ?_
        refine e_then_ret ?_
        refine e_block_ret ?_
        refine e_then_ret ?_
        refine e_ret rfl (.t rfl .n) (fun wF hw => ?_)
        exact ⟨congrArg (fun x => Ending.returned (.int .i64 x)) (((if_neg (ne_true_of_eq_false h0)).trans ((if_neg (ne_true_of_eq_false h1)).trans (if_pos h2)))).symm, (hw.anc (w, []) (by simp)).below⟩
      ·
        refine c_skip ?_
        refine e_block ?_
        refine e_then ?_
        refine CJ.weak (.c (t := 1) rfl (.c (t := 26) rfl (.c (t := 27) rfl .n))) (fun _ h => h) ?_
        refine c_text ?_
        refine l_y (Cls.gs _ _) ((y_add rfl rfl).lit (by kernel_rfl : _ = Value.int .i64 2)) rfl ?_
        refine l_y (Cls.gs _ _) (y_move rfl) rfl ?_
        refine l_nil ?_
        refine e_rounds ?_
        refine RJ.weak (.c (t := 1) rfl (.c (t := 26) rfl (.c (t := 27) rfl .n))) (fun _ h => h) ?_
        refine r_succ ?_
        refine c_seq ?_
        refine c_text ?_
        refine l_y (Cls.gs _ _) ((y_lss rfl rfl).lit (by kernel_rfl : _ = Value.bool true)) rfl ?_
        refine l_nil ?_
        refine e_then ?_
        refine c_seq ?_
        refine c_true (by kernel_rfl) ?_
        refine c_skip ?_
        refine e_then ?_
        refine CJ.weak (.c (t := 1) rfl (.c (t := 26) rfl (.c (t := 27) rfl .n))) (fun _ h => h) ?_
        refine c_seq ?_
        refine c_block ?_
        refine c_seq ?_
        refine c_text ?_
        refine l_y (Cls.gs _ _) (y_indexV 2 Tryz.underlying117 ty43 rfl rfl rfl rfl (.s (.s (.s (.s (.s (.s (.t (.t (.t .d)))))))))) rfl ?_
        refine l_n rfl (n_alloc ty43 .a rfl) (fun b3 _ => ?_)
        refine l_n rfl (n_store rfl rfl ty43 .a rfl rfl .z (.t (.t (.t .d)))) (fun _ _ => ?_)
        refine l_nil ?_
        refine e_then ?_
        refine CJ.weak (.c (t := 1) rfl (.c (t := 4) rfl (.c (t := 26) rfl (.c (t := 27) rfl .n)))) (fun _ h => h) ?_
        refine c_seq ?_
        refine c_text ?_
        refine l_y (Cls.gs _ _) (y_load rfl (LoadAt.aggL .z ty43 (.t (.t (.t .d))))) rfl ?_
        refine l_y (Cls.gs _ _) (y_call ent64 (.c rfl (.c rfl .n)) (fun w _ => ends64 _ _ (by decide) (by decide) w)) rfl ?_
        refine l_y (Cls.gs _ _) (y_assign rfl) rfl ?_
        refine l_nil ?_
        refine e_then ?_
        refine CJ.weak (.c (t := 1) rfl (.c (t := 5) rfl (.c (t := 26) rfl (.c (t := 27) rfl .n)))) (fun _ h => h) ?_
        refine c_seq ?_
        refine c_text ?_
        refine l_y (Cls.gs _ _) (y_move rfl) rfl ?_
        refine l_y (Cls.gs _ _) (y_neq rfl rfl) rfl ?_
        refine l_nil ?_
        refine e_then ?_
        refine CJ.weak (.c (t := 1) rfl (.c (t := 5) rfl (.c (t := 26) rfl (.c (t := 27) rfl (.c (t := 33) rfl .n))))) (fun _ h => h) ?_
        refine c_cond rfl (fun h3 => ?_) (fun h3 => ?_)
        ·
          refine c_seq ?_
          refine c_text ?_
          refine l_y (Cls.gs _ _) (y_move rfl) rfl ?_
          refine l_y (Cls.gs _ _) (y_assign rfl) rfl ?_
          refine l_nil ?_
          refine e_then ?_
          refine CJ.weak (.c (t := 2) rfl .n) (fun _ h => h) ?_
          refine c_ret ?_
          refine e_block_ret ?_
          refine e_then_ret ?_
          refine e_then_ret ?_
          refine e_block_ret ?_
          refine e_then_ret ?_
          refine e_ret rfl (.t rfl .n) (fun wF hw => ?_)
          exact ⟨congrArg (fun x => Ending.returned (.int .i64 x)) (((if_neg (ne_true_of_eq_false h0)).trans ((if_neg (ne_true_of_eq_false h1)).trans ((if_neg (ne_true_of_eq_false h2)).trans (if_pos h3))))).symm, (hw.anc (w, []) (by simp)).below⟩
        ·
          refine c_skip ?_
          refine e_block ?_
          refine e_then ?_
          refine CJ.weak (.c (t := 1) rfl (.c (t := 26) rfl (.c (t := 27) rfl .n))) (fun _ h => h) ?_
          refine c_text ?_
          refine l_y (Cls.gs _ _) ((y_add rfl rfl).lit (by kernel_rfl : _ = Value.int .i64 3)) rfl ?_
          refine l_y (Cls.gs _ _) (y_move rfl) rfl ?_
          refine l_nil ?_
          refine e_rounds ?_
          refine RJ.weak (.c (t := 1) rfl (.c (t := 26) rfl (.c (t := 27) rfl .n))) (fun _ h => h) ?_
          refine r_succ ?_
          refine c_seq ?_
          refine c_text ?_
          refine l_y (Cls.gs _ _) ((y_lss rfl rfl).lit (by kernel_rfl : _ = Value.bool false)) rfl ?_
          refine l_nil ?_
          refine e_then ?_
          refine c_seq ?_
          refine c_false (by kernel_rfl) ?_
          refine c_exit ?_
          refine e_then_exit ?_
          refine e_then_exit ?_
          refine e_block_hit ?_
          refine e_then ?_
          refine CJ.weak (.c (t := 1) rfl .n) (fun _ h => h) ?_
          refine c_seq ?_
          refine c_seq ?_
          refine c_draw (m := 9) (S0 := fun _ => True) (fun _ => false) (fun _ _ => trivial) hmix (Cls.gs _ _) rfl ?_
          refine a_y (i := 0) (Cls.gs _ _) (by kernel_rfl) rfl (by kernel_rfl) (by kernel_rfl) (y_fieldAddr rfl fa52_2) rfl ?_
          refine a_y (i := 1) (Cls.gs _ _) (by kernel_rfl) rfl (by kernel_rfl) (by kernel_rfl) (y_load rfl (LoadAt.aggL (.s (.s (.s .z))) ty47 (.s (.s (.s (.s (.s (.s (.s (.s (.s (.s (.t (.t (.t .d))))))))))))))) rfl ?_
          refine a_y (i := 2) (Cls.gs _ _) (by kernel_rfl) rfl (by kernel_rfl) (by kernel_rfl) (y_call ent65 (.c rfl (.c rfl .n)) (fun w _ => ends65 _ _ (by decide) (by decide) w)) rfl ?_
          refine a_y (i := 3) (Cls.gs _ _) (by kernel_rfl) rfl (by kernel_rfl) (by kernel_rfl) (y_fieldAddr rfl fa52_3) rfl ?_
          refine a_y (i := 4) (Cls.gs _ _) (by kernel_rfl) rfl (by kernel_rfl) (by kernel_rfl) (y_load rfl (LoadAt.aggL (.s (.s (.s .z))) ty49 (.s (.s (.s (.s (.s (.s (.s (.s (.s (.s (.s (.s (.s (.t (.t (.t .d)))))))))))))))))) rfl ?_
          refine a_y (i := 5) (Cls.gs _ _) (by kernel_rfl) rfl (by kernel_rfl) (by kernel_rfl) (y_call ent66 (.c rfl (.c rfl .n)) (fun w _ => ends66 _ _ (by decide) (by decide) w)) rfl ?_
          refine a_n (i := 6) rfl rfl (by kernel_rfl) (fun _ => Cls.gs _ _) (.inr fun _ _ h => h.tail) (n_buildSlice (l := [.int .i64 0, .int .i64 0]) Tryz.underlying138 ty30 (.o rfl) rfl (by simp) (by kernel_rfl) (.c rfl (.c rfl .n)) (.c rfl (.o rfl) rfl rfl (.t .d) (.c rfl (.o rfl) rfl rfl (.s (.t .d)) .d)) rfl) (fun b4 _ => ?_)
          refine a_y (i := 7) (Cls.gs _ _) (by kernel_rfl) rfl (by kernel_rfl) (by kernel_rfl) (y_call ent32 (.c rfl .n) (fun w hw => or32 _ _ [endsErr r.flux 1125899906842624, endsErr r.when_ 17592186044416] (by simp) w (locInts hw .z))) rfl ?_
          refine a_y (i := 8) (Cls.gs _ _) (by kernel_rfl) rfl (by kernel_rfl) (by kernel_rfl) (y_assign rfl) rfl ?_
          refine a_done (by kernel_rfl) ?_
          refine e_then ?_
          refine CJ.weak (.c (t := 1) rfl (.c (t := 6) rfl .n)) (fun _ h => h) ?_
          refine c_seq ?_
          refine c_text ?_
          refine l_y (Cls.gs _ _) (y_move rfl) rfl ?_
          refine l_y (Cls.gs _ _) (y_neq rfl rfl) rfl ?_
          refine l_nil ?_
          refine e_then ?_
          refine CJ.weak (.c (t := 1) rfl (.c (t := 6) rfl (.c (t := 45) rfl .n))) (fun _ h => h) ?_
          refine c_cond rfl (fun h4 => ?_) (fun h4 => ?_)
          ·
            refine c_seq ?_
            refine c_text ?_
            refine l_y (Cls.gs _ _) (y_move rfl) rfl ?_
            refine l_y (Cls.gs _ _) (y_assign rfl) rfl ?_
            refine l_nil ?_
            refine e_then ?_
            refine CJ.weak (.c (t := 2) rfl .n) (fun _ h => h) ?_
            refine c_ret ?_
            refine e_then_ret ?_
            refine e_ret rfl (.t rfl .n) (fun wF hw => ?_)
            exact ⟨congrArg (fun x => Ending.returned (.int .i64 x)) (((if_neg (ne_true_of_eq_false h0)).trans ((if_neg (ne_true_of_eq_false h1)).trans ((if_neg (ne_true_of_eq_false h2)).trans ((if_neg (ne_true_of_eq_false h3)).trans (if_pos h4)))))).symm, (hw.anc (w, []) (by simp)).below⟩
          ·
            refine c_skip ?_
            refine e_then ?_
            refine CJ.weak (.c (t := 1) rfl .n) (fun _ h => h) ?_
            refine c_seq ?_
            refine c_block ?_
            refine c_seq ?_
            refine c_text ?_
            refine l_y (Cls.gs _ _) (y_fieldAddr rfl fa52_4) rfl ?_
            refine l_y (Cls.gs _ _) (y_load rfl (LoadAt.oneL (.s (.s (.s (.s .z)))) ty50 (.s (.s (.s (.s (.s (.s (.s (.s (.s (.s (.s (.s (.s (.s (.s (.s .z)))))))))))))))))) rfl ?_
            refine l_y (Cls.gs _ _) (y_lenS Tryz.underlying50 rfl rfl) rfl ?_
            refine l_y (Cls.gs _ _) (y_eql rfl rfl) rfl ?_
            refine l_y (Cls.gs _ _) (y_assign rfl) rfl ?_
            refine l_nil ?_
            refine e_then ?_
            refine CJ.weak (.c (t := 1) rfl (.c (t := 47) rfl .n)) (fun _ h => h) ?_
            refine c_cond rfl (fun h5 => ?_) (fun h5 => ?_)
            ·
              refine c_seq ?_
              refine c_text ?_
              refine l_y (Cls.gs _ _) (y_assign rfl) rfl ?_
              refine l_nil ?_
              refine e_then ?_
              refine CJ.weak (.c (t := 2) rfl .n) (fun _ h => h) ?_
              refine c_ret ?_
              refine e_block_ret ?_
              refine e_then_ret ?_
              refine e_ret rfl (.t rfl .n) (fun wF hw => ?_)
              exact ⟨congrArg (fun x => Ending.returned (.int .i64 x)) (((if_neg (ne_true_of_eq_false h0)).trans ((if_neg (ne_true_of_eq_false h1)).trans ((if_neg (ne_true_of_eq_false h2)).trans ((if_neg (ne_true_of_eq_false h3)).trans ((if_neg (ne_true_of_eq_false h4)).trans (if_pos h5))))))).symm, (hw.anc (w, []) (by simp)).below⟩
            ·
              refine c_seq ?_
              refine c_text ?_
              refine l_y (Cls.gs _ _) (y_fieldAddr rfl fa52_4) rfl ?_
              refine l_y (Cls.gs _ _) (y_load rfl (LoadAt.oneL (.s (.s (.s (.s .z)))) ty50 (.s (.s (.s (.s (.s (.s (.s (.s (.s (.s (.s (.s (.s (.s (.s (.s .z)))))))))))))))))) rfl ?_
              refine l_y (Cls.gs _ _) (y_lenS Tryz.underlying50 rfl rfl) rfl ?_
              refine l_y (Cls.gs _ _) (y_gtr rfl rfl) rfl ?_
              refine l_y (Cls.gs _ _) (y_assign rfl) rfl ?_
              refine l_nil ?_
              refine e_then ?_
              refine CJ.weak (.c (t := 1) rfl (.c (t := 52) rfl .n)) (fun _ h => h) ?_
              refine c_cond rfl (fun h6 => ?_) (fun h6 => ?_)
              ·
                refine c_seq ?_
                refine c_text ?_
                refine l_y (Cls.gs _ _) (y_assign rfl) rfl ?_
                refine l_nil ?_
                refine e_then ?_
                refine CJ.weak (.c (t := 2) rfl .n) (fun _ h => h) ?_
                refine c_ret ?_
                refine e_block_ret ?_
                refine e_then_ret ?_
                refine e_ret rfl (.t rfl .n) (fun wF hw => ?_)
                exact ⟨congrArg (fun x => Ending.returned (.int .i64 x)) (((if_neg (ne_true_of_eq_false h0)).trans ((if_neg (ne_true_of_eq_false h1)).trans ((if_neg (ne_true_of_eq_false h2)).trans ((if_neg (ne_true_of_eq_false h3)).trans ((if_neg (ne_true_of_eq_false h4)).trans ((if_neg (ne_true_of_eq_false h5)).trans (if_pos h6)))))))).symm, (hw.anc (w, []) (by simp)).below⟩
              ·
                refine c_skip ?_
                refine e_block ?_
                refine e_then ?_
                refine CJ.weak (.c (t := 1) rfl .n) (fun _ h => h) ?_
                refine c_seq ?_
                refine c_seq ?_
                refine c_text ?_
                refine l_y (Cls.gs _ _) (y_fieldAddr rfl fa52_4) rfl ?_
                refine l_y (Cls.gs _ _) (y_load rfl (LoadAt.oneL (.s (.s (.s (.s .z)))) ty50 (.s (.s (.s (.s (.s (.s (.s (.s (.s (.s (.s (.s (.s (.s (.s (.s .z)))))))))))))))))) rfl ?_
                refine l_y (Cls.gs _ _) (y_lenS Tryz.underlying50 rfl rfl) rfl ?_
                refine l_y (Cls.gs _ _) (y_move rfl) rfl ?_
                refine l_nil ?_
                refine e_then ?_
                refine CJ.weak (.c (t := 1) rfl (.c (t := 58) rfl (.c (t := 59) rfl (.c (t := 60) rfl .n)))) (fun _ h => h) ?_
                refine c_block ?_
                refine CJ.weak (.c (t := 60) rfl (.c (t := 1) rfl (.c (t := 58) rfl (.c (t := 59) rfl .n)))) (fun _ h => h) ?_
                refine c_loopC (fun k : Nat => k ≤ r.frames.length ∧ framesErr r.frames 0 = framesErr (r.frames.drop k) (prevOf r.frames k)) (fun k => [(60, .int .i64 (k : Int))]) (fun k => r.frames.length - k) (0) (⟨Nat.zero_le _, rfl⟩) ?_
                rintro k hk
                refine c_seq ?_
                refine c_text ?_
                refine l_y (Cls.gs _ _) (y_lss rfl rfl) rfl ?_
                refine l_nil ?_
                refine e_then ?_
                refine c_seq ?_
                refine c_cond rfl (fun h7 => ?_) (fun h7 => ?_)
                · have hlt : k < r.frames.length := by have := of_decide_eq_true h7; omega
                  obtain ⟨c, hc⟩ : ∃ c, r.frames[k]? = some c := ⟨_, List.getElem?_eq_getElem hlt⟩
                  obtain ⟨p, hp⟩ : ∃ p, r.frames[k - 1]? = some p := ⟨_, List.getElem?_eq_getElem (by omega)⟩
                  obtain ⟨b, o, ha, he⟩ := hI.at_ hc
                  obtain ⟨b', o', ha', he'⟩ := hI.at_ hp
                  refine c_skip ?_
                  refine e_then ?_
                  refine CJ.weak (.c (t := 1) rfl (.c (t := 58) rfl (.c (t := 59) rfl (.c (t := 60) rfl .n)))) (fun _ h => h) ?_
                  refine c_seq ?_
                  refine c_block ?_
                  refine c_seq ?_
                  refine c_text ?_
                  refine l_y (Cls.gs _ _) (y_move rfl) rfl ?_
                  refine l_y (Cls.gs _ _) (y_indexAddrF Tryz.underlying50 ty3 rfl rfl ha (by omega) (by omega)) rfl ?_
                  refine l_y (Cls.gs _ _) (y_load rfl (LoadAt.oneF .z ty3 (by simpa using he))) rfl ?_
                  refine l_y (Cls.gs _ _) (y_assign rfl) rfl ?_
                  refine l_y (Cls.gs _ _) (y_assign rfl) rfl ?_
                  refine l_nil ?_
                  refine e_then ?_
                  refine CJ.weak (.c (t := 1) rfl (.c (t := 7) rfl (.c (t := 8) rfl (.c (t := 58) rfl (.c (t := 59) rfl (.c (t := 60) rfl .n)))))) (fun _ h => h) ?_
                  refine c_block ?_
                  refine c_seq ?_
                  refine c_text ?_
                  refine l_y (Cls.gs _ _) (y_move rfl) rfl ?_
                  refine l_y (Cls.gs _ _) (y_lss rfl rfl) rfl ?_
                  refine l_y (Cls.gs _ _) (y_move rfl) rfl ?_
                  refine l_g (s := 68) (Cls.gs _ _) (by kernel_rfl) rfl (beq_f _) (fun hg => y_move rfl) rfl ?_
                  refine l_g (s := 68) (Cls.gs _ _) (by kernel_rfl) rfl (beq_f _) (fun hg => y_gtr (gvt hg rfl) rfl) rfl ?_
                  refine l_y (Cls.gs _ _) (y_or rfl rfl rfl) rfl ?_
                  refine l_y (Cls.gs _ _) (y_assign rfl) rfl ?_
                  refine l_nil ?_
                  refine e_then ?_
                  refine CJ.weak (.c (t := 1) rfl (.c (t := 7) rfl (.c (t := 8) rfl (.c (t := 58) rfl (.c (t := 59) rfl (.c (t := 60) rfl (.c (t := 65) rfl .n))))))) (fun _ h => h) ?_
                  refine c_cond rfl (fun h8 => ?_) (fun h8 => ?_)
                  ·
                    refine c_seq ?_
                    refine c_text ?_
                    refine l_y (Cls.gs _ _) (y_assign rfl) rfl ?_
                    refine l_nil ?_
                    refine e_then ?_
                    refine CJ.weak (.c (t := 2) rfl .n) (fun _ h => h) ?_
                    refine c_ret ?_
                    refine e_block_ret ?_
                    refine e_block_ret ?_
                    refine e_then_ret ?_
                    refine e_then_ret ?_
                    refine e_block_ret ?_
                    refine e_then_ret ?_
                    refine e_ret rfl (.t rfl .n) (fun wF hw => ?_)
                    exact ⟨congrArg (fun x => Ending.returned (.int .i64 x)) (RowHead.err (RowHead.mk h0 h1 h2 h3 h4 h5 h6) (hk.2.trans ((framesErr_step hc).trans (if_pos h8))) rfl).symm, (hw.anc (w, []) (by simp)).below⟩
                  ·
                    refine c_seq ?_
                    refine c_text ?_
                    refine l_y (Cls.gs _ _) (y_move rfl) rfl ?_
                    refine l_y (Cls.gs _ _) (y_gtr rfl rfl) rfl ?_
                    refine l_y (Cls.gs _ _) (y_move rfl) rfl ?_
                    refine l_g (s := 75) (Cls.gs _ _) (by kernel_rfl) rfl (beq_t _) (fun hg => y_move rfl) rfl ?_
                    refine l_g (s := 75) (Cls.gs _ _) (by kernel_rfl) rfl (beq_t _) (fun hg => y_fieldAddr rfl fa52_4) rfl ?_
                    refine l_g (s := 75) (Cls.gs _ _) (by kernel_rfl) rfl (beq_t _) (fun hg => y_load (gvt hg rfl) (LoadAt.oneL (.s (.s (.s (.s .z)))) ty50 (.s (.s (.s (.s (.s (.s (.s (.s (.s (.s (.s (.s (.s (.s (.s (.s .z)))))))))))))))))) rfl ?_
                    refine l_g (s := 75) (Cls.gs _ _) (by kernel_rfl) rfl (beq_t _) (fun hg => y_move rfl) rfl ?_
                    refine l_g (s := 75) (Cls.gs _ _) (by kernel_rfl) rfl (beq_t _) (fun hg => y_sub64 (k : Int) 1 (gvt hg rfl) rfl (by omega) (by omega)) rfl ?_
                    refine l_g (s := 75) (Cls.gs _ _) (by kernel_rfl) rfl (beq_t _) (fun hg => y_indexAddrF (i := (k : Int) - 1) Tryz.underlying50 ty3 (gvt hg rfl) (gvt hg rfl) ha' (by have := of_decide_eq_true hg; omega) (by have := of_decide_eq_true hg; omega)) rfl ?_
                    refine l_g (s := 75) (Cls.gs _ _) (by kernel_rfl) rfl (beq_t _) (fun hg => y_load (gvt hg rfl) (LoadAt.oneF .z ty3 (by rw [show ((k : Int) - 1).toNat * 1 = k - 1 by omega]; exact he'))) rfl ?_
                    refine l_g (s := 75) (Cls.gs _ _) (by kernel_rfl) rfl (beq_t _) (fun hg => y_leq (gvt hg rfl) (gvt hg rfl)) rfl ?_
                    refine l_y (Cls.gs _ _) (y_and rfl rfl rfl) rfl ?_
                    refine l_y (Cls.gs _ _) (y_assign rfl) rfl ?_
                    refine l_nil ?_
                    refine e_then ?_
                    refine CJ.weak (.c (t := 1) rfl (.c (t := 58) rfl (.c (t := 59) rfl (.c (t := 60) rfl (.c (t := 72) rfl .n))))) (fun _ h => h) ?_
                    refine c_cond rfl (fun h9 => ?_) (fun h9 => ?_)
                    · rw [frames_le hp h8] at h9
                      refine c_seq ?_
                      refine c_text ?_
                      refine l_y (Cls.gs _ _) (y_assign rfl) rfl ?_
                      refine l_nil ?_
                      refine e_then ?_
                      refine CJ.weak (.c (t := 2) rfl .n) (fun _ h => h) ?_
                      refine c_ret ?_
                      refine e_block_ret ?_
                      refine e_block_ret ?_
                      refine e_then_ret ?_
                      refine e_then_ret ?_
                      refine e_block_ret ?_
                      refine e_then_ret ?_
                      refine e_ret rfl (.t rfl .n) (fun wF hw => ?_)
                      exact ⟨congrArg (fun x => Ending.returned (.int .i64 x)) (RowHead.err (RowHead.mk h0 h1 h2 h3 h4 h5 h6) (hk.2.trans ((framesErr_step hc).trans ((if_neg (ne_true_of_eq_false h8)).trans (if_pos h9)))) rfl).symm, (hw.anc (w, []) (by simp)).below⟩
                    · rw [frames_le hp h8] at h9
                      refine c_skip ?_
                      refine e_block ?_
                      refine e_block ?_
                      refine e_then ?_
                      refine CJ.weak (.c (t := 1) rfl (.c (t := 58) rfl (.c (t := 59) rfl (.c (t := 60) rfl .n)))) (fun _ h => h) ?_
                      refine c_text ?_
                      refine l_y (Cls.gs _ _) ((y_add rfl rfl).lit (succ64 (by omega))) rfl ?_
                      refine l_y (Cls.gs _ _) (y_move rfl) rfl ?_
                      refine l_nil ?_
                      refine e_again (k + 1) (⟨by omega, by rw [hk.2, framesErr_step hc, if_neg (ne_true_of_eq_false h8), if_neg (ne_true_of_eq_false h9), prevOf_succ hc]⟩) (by omega) (.c (t := 60) rfl (.c (t := 1) rfl (.c (t := 58) rfl (.c (t := 59) rfl .n)))) (fun _ h => h.thin .r)
                ·
                  refine c_exit ?_
                  refine e_then_exit ?_
                  refine e_then_exit ?_
                  refine e_block_hit ?_
                  refine e_then ?_
                  refine CJ.weak (.c (t := 1) rfl .n) (fun _ h => h) ?_
                  refine c_seq ?_
                  refine c_seq ?_
                  refine c_text ?_
                  refine l_y (Cls.gs _ _) (y_fieldAddr rfl fa52_5) rfl ?_
                  refine l_y (Cls.gs _ _) (y_load rfl (LoadAt.oneL (.s (.s (.s (.s .z)))) ty3 (.s (.s (.s (.s (.s (.s (.s (.s (.s (.s (.s (.s (.s (.s (.s (.s (.s .z))))))))))))))))))) rfl ?_
                  refine l_y (Cls.gs _ _) (y_lss rfl rfl) rfl ?_
                  refine l_y (Cls.gs _ _) (y_move rfl) rfl ?_
                  refine l_g (s := 89) (Cls.gs _ _) (by kernel_rfl) rfl (beq_f _) (fun hg => y_fieldAddr rfl fa52_5) rfl ?_
                  refine l_g (s := 89) (Cls.gs _ _) (by kernel_rfl) rfl (beq_f _) (fun hg => y_load (gvt hg rfl) (LoadAt.oneL (.s (.s (.s (.s .z)))) ty3 (.s (.s (.s (.s (.s (.s (.s (.s (.s (.s (.s (.s (.s (.s (.s (.s (.s .z))))))))))))))))))) rfl ?_
                  refine l_g (s := 89) (Cls.gs _ _) (by kernel_rfl) rfl (beq_f _) (fun hg => y_gtr (gvt hg rfl) rfl) rfl ?_
                  refine l_y (Cls.gs _ _) (y_or rfl rfl rfl) rfl ?_
                  refine l_nil ?_
                  refine e_then ?_
                  refine CJ.weak (.c (t := 93) rfl .n) (fun _ h => h) ?_
                  refine c_cond rfl (fun h10 => ?_) (fun h10 => ?_)
                  ·
                    refine c_seq ?_
                    refine c_text ?_
                    refine l_y (Cls.gs _ _) (y_assign rfl) rfl ?_
                    refine l_nil ?_
                    refine e_then ?_
                    refine CJ.weak (.c (t := 2) rfl .n) (fun _ h => h) ?_
                    refine c_ret ?_
                    refine e_then_ret ?_
                    refine e_ret rfl (.t rfl .n) (fun wF hw => ?_)
                    exact ⟨congrArg (fun x => Ending.returned (.int .i64 x)) ((RowHead.ok (RowHead.mk h0 h1 h2 h3 h4 h5 h6) (hk.2.trans (framesErr_end (by have := of_decide_eq_false h7; omega)))).trans (if_pos h10)).symm, (hw.anc (w, []) (by simp)).below⟩
                  ·
                    refine c_skip ?_
                    refine e_then ?_
                    refine CJ.weak .n (fun _ h => h) ?_
                    refine c_seq ?_
                    refine c_text ?_
                    refine l_y (Cls.gs _ _) (y_assign rfl) rfl ?_
                    refine l_nil ?_
                    refine e_then ?_
                    refine c_ret ?_
                    refine e_ret rfl (.t rfl .n) (fun wF hw => ?_)
                    exact ⟨congrArg (fun x => Ending.returned (.int .i64 x)) ((RowHead.ok (RowHead.mk h0 h1 h2 h3 h4 h5 h6) (hk.2.trans (framesErr_end (by have := of_decide_eq_false h7; omega)))).trans (if_neg (ne_true_of_eq_false h10))).symm, (hw.anc (w, []) (by simp)).below⟩

end Go.Proofs.YtdpdahpkdimopaaGreat
