/-
  A part of the proof of TopAskedElsewhere: walks of single functions.
-/
import Derived.Test.YtdpdahpkdimopaaGreatQf
import Derived.Test.YtdpdahpkdimopaaGreatB
import Derived.Test.YtdpdahpkdimopaaGreatQ7
import Derived.KernelRfl
set_option linter.unusedVariables false
set_option linter.unusedSimpArgs false
set_option maxRecDepth 100000
namespace Go.Proofs.YtdpdahpkdimopaaGreat
open Go Go.Px Sg
open Go.Px Sg
theorem check16 (ms : List MRow) (ra : Option Addr) (rc : Nat) (w : World) (hR : RowsAt w ra ms) : Calls Tryz.prog 16 #[.slice ra ms.length rc] w fun e w' => e = .returned (.int .i64 (rowsErr (rowsOf ms))) ∧ Gr w w' := by
  refine enter Tryz.func16 rfl rfl rfl rfl (Cls.start w) ?_
  refine c_seq ?_
  refine c_text ?_
  refine l_y (Cls.gs _ _) (y_assign rfl) rfl ?_
  refine l_nil ?_
  refine e_then ?_
  refine CJ.weak (.c (t := 0) rfl .n) (fun _ h => h) ?_
  refine c_seq ?_
  refine c_seq ?_
  refine c_text ?_
  refine l_y (Cls.gs _ _) (y_move rfl) rfl ?_
  refine l_y (Cls.gs _ _) (y_lenS Tryz.underlying22 rfl rfl) rfl ?_
  refine l_y (Cls.gs _ _) (y_gtr rfl rfl) rfl ?_
  refine l_nil ?_
  refine e_then ?_
  refine CJ.weak (.c (t := 0) rfl (.c (t := 8) rfl .n)) (fun _ h => h) ?_
  refine c_cond rfl (fun h0 => ?_) (fun h0 => ?_)
  ·
    refine c_seq ?_
    refine c_text ?_
    refine l_y (Cls.gs _ _) (y_assign rfl) rfl ?_
    refine l_nil ?_
    refine e_then ?_
    refine CJ.weak (.c (t := 2) rfl .n) (fun _ h => h) ?_
    refine c_ret ?_
    refine e_then_ret ?_
    refine e_ret rfl (.t rfl .n) (fun wF hw => ?_)
    exact ⟨congrArg (fun x => Ending.returned (.int .i64 x)) (rows_big h0).symm, (hw.anc (w, []) (by simp)).below⟩
  ·
    refine c_skip ?_
    refine e_then ?_
    refine CJ.weak (.c (t := 0) rfl .n) (fun _ h => h) ?_
    refine c_seq ?_
    refine c_seq ?_
    refine c_text ?_
    refine l_y (Cls.gs _ _) (y_move rfl) rfl ?_
    refine l_y (Cls.gs _ _) (y_lenS Tryz.underlying22 rfl rfl) rfl ?_
    refine l_y (Cls.gs _ _) (y_move rfl) rfl ?_
    refine l_nil ?_
    refine e_then ?_
    refine c_block ?_
    refine CJ.weak (.c (t := 11) rfl (.c (t := 0) rfl (.c (t := 9) rfl (.c (t := 10) rfl .n)))) (fun _ h => h) ?_
    refine c_loopC (fun k : Nat => k ≤ ms.length ∧ rowsErr1 (rowsOf ms) none = rowsErr1 ((rowsOf ms).drop k) (prevR ms k)) (fun k => [(11, .int .i64 (k : Int))]) (fun k => ms.length - k) (0) (⟨Nat.zero_le _, rfl⟩) ?_
    rintro k hk
    refine c_seq ?_
    refine c_text ?_
    refine l_y (Cls.gs _ _) (y_lss rfl rfl) rfl ?_
    refine l_nil ?_
    refine e_then ?_
    refine c_seq ?_
    refine c_cond rfl (fun h1 => ?_) (fun h1 => ?_)
    · have hsm : ms.length ≤ 200 := by have := of_decide_eq_false h0; omega
      have hlt : k < ms.length := by have := of_decide_eq_true h1; omega
      obtain ⟨m, hm⟩ : ∃ m, ms[k]? = some m := ⟨_, List.getElem?_eq_getElem hlt⟩
      obtain ⟨b, o, ha, he⟩ := hR.els k m.cells (by simp [hm])
      obtain ⟨hF1, hF2⟩ := hR.fr m (List.mem_of_getElem? hm)
      replace he := elt_load he
      obtain ⟨p, hp⟩ : ∃ p, ms[k - 1]? = some p := ⟨_, List.getElem?_eq_getElem (by omega)⟩
      obtain ⟨b', o', ha', he'⟩ := hR.els (k - 1) p.cells (by simp [hp])
      refine c_skip ?_
      refine e_then ?_
      refine CJ.weak (.c (t := 0) rfl (.c (t := 9) rfl (.c (t := 10) rfl (.c (t := 11) rfl .n)))) (fun _ h => h) ?_
      refine c_seq ?_
      refine c_block ?_
      refine c_seq ?_
      refine c_text ?_
      refine l_y (Cls.gs _ _) (y_move rfl) rfl ?_
      refine l_y (Cls.gs _ _) (y_indexAddrF Tryz.underlying22 ty52 rfl rfl ha (by omega) (by omega)) rfl ?_
      refine l_y (Cls.gs _ _) (y_load rfl (LoadAt.aggF (l := [.int .i64 m.row.id, .int .i64 m.row.box.x.lo, .int .i64 m.row.box.x.hi, .bool m.row.box.x.u, .int .i64 m.row.box.y.lo, .int .i64 m.row.box.y.hi, .bool m.row.box.y.u, .int .i64 m.row.box.z.lo, .int .i64 m.row.box.z.hi, .bool m.row.box.z.u, .int .i64 m.row.flux.lo, .int .i64 m.row.flux.hi, .bool m.row.flux.u, .int .i64 m.row.when_.lo, .int .i64 m.row.when_.hi, .bool m.row.when_.u, .slice m.fa m.row.frames.length m.fc, .int .i64 m.row.marks]) .z ty52 rfl he)) rfl ?_
      refine l_n rfl (n_alloc ty52 .a rfl) (fun b0 _ => ?_)
      refine l_y (Cls.gs _ _) (y_assign rfl) rfl ?_
      refine l_n rfl (n_store rfl rfl ty52 .a rfl rfl .z (.t (.t (.t (.t (.t (.t (.t (.t (.t (.t (.t (.t (.t (.t (.t (.t (.t (.t .d))))))))))))))))))) (fun _ _ => ?_)
      refine l_nil ?_
      refine e_then ?_
      refine CJ.weak (.c (t := 0) rfl (.c (t := 3) rfl (.c (t := 4) rfl (.c (t := 9) rfl (.c (t := 10) rfl (.c (t := 11) rfl .n)))))) (fun _ h => h) ?_
      refine c_seq ?_
      refine c_seq ?_
      refine c_text ?_
      refine l_y (Cls.gs _ _) (y_load rfl (LoadAt.aggL .z ty52 (.t (.t (.t (.t (.t (.t (.t (.t (.t (.t (.t (.t (.t (.t (.t (.t (.t (.t .d)))))))))))))))))))) rfl ?_
      refine l_y (Cls.gs _ _) (y_call ent42 (.c rfl .n) (fun w' hw' => row42 m.row m.fa m.fc hF2 w' (hF1.gr (hw'.gr .z)))) rfl ?_
      refine l_y (Cls.gs _ _) (y_assign rfl) rfl ?_
      refine l_nil ?_
      refine e_then ?_
      refine CJ.weak (.c (t := 0) rfl (.c (t := 3) rfl (.c (t := 4) rfl (.c (t := 5) rfl (.c (t := 9) rfl (.c (t := 10) rfl (.c (t := 11) rfl .n))))))) (fun _ h => h) ?_
      refine c_seq ?_
      refine c_text ?_
      refine l_y (Cls.gs _ _) (y_move rfl) rfl ?_
      refine l_y (Cls.gs _ _) (y_neq rfl rfl) rfl ?_
      refine l_nil ?_
      refine e_then ?_
      refine CJ.weak (.c (t := 0) rfl (.c (t := 3) rfl (.c (t := 4) rfl (.c (t := 5) rfl (.c (t := 9) rfl (.c (t := 10) rfl (.c (t := 11) rfl (.c (t := 19) rfl .n)))))))) (fun _ h => h) ?_
      refine c_cond rfl (fun h2 => ?_) (fun h2 => ?_)
      ·
        refine c_seq ?_
        refine c_text ?_
        refine l_y (Cls.gs _ _) (y_move rfl) rfl ?_
        refine l_y (Cls.gs _ _) (y_assign rfl) rfl ?_
        refine l_nil ?_
        refine e_then ?_
        refine CJ.weak (.c (t := 2) rfl .n) (fun _ h => h) ?_
        refine c_ret ?_
        refine e_then_ret ?_
        refine e_block_ret ?_
        refine e_then_ret ?_
        refine e_then_ret ?_
        refine e_block_ret ?_
        refine e_then_ret ?_
        refine e_ret rfl (.t rfl .n) (fun wF hw => ?_)
        exact ⟨congrArg (fun x => Ending.returned (.int .i64 x)) ((rows_small h0).trans (hk.2.trans ((rowsErr1_step (r := m.row) (by simp [rowsOf, hm])).trans (if_pos h2)))).symm, (hw.anc (w, []) (by simp)).below⟩
      ·
        refine c_skip ?_
        refine e_then ?_
        refine CJ.weak (.c (t := 0) rfl (.c (t := 3) rfl (.c (t := 4) rfl (.c (t := 9) rfl (.c (t := 10) rfl (.c (t := 11) rfl .n)))))) (fun _ h => h) ?_
        refine c_seq ?_
        refine c_draw (m := 13) (S0 := fun _ => True) (fun _ => false) (fun _ _ => trivial) hmix (Cls.gs _ _) rfl ?_
        refine a_y (i := 0) (Cls.gs _ _) (by kernel_rfl) rfl (by kernel_rfl) (by kernel_rfl) (y_move rfl) rfl ?_
        refine a_y (i := 1) (Cls.gs _ _) (by kernel_rfl) rfl (by kernel_rfl) (by kernel_rfl) (y_gtr rfl rfl) rfl ?_
        refine a_y (i := 2) (Cls.gs _ _) (by kernel_rfl) rfl (by kernel_rfl) (by kernel_rfl) (y_move rfl) rfl ?_
        refine a_g (i := 3) (s := 23) (Cls.gs _ _) (by kernel_rfl) rfl (by kernel_rfl) (by kernel_rfl) (by kernel_rfl) rfl (beq_t _) (fun hg => y_fieldAddr rfl fa52_0) rfl ?_
        refine a_g (i := 4) (s := 23) (Cls.gs _ _) (by kernel_rfl) rfl (by kernel_rfl) (by kernel_rfl) (by kernel_rfl) rfl (beq_t _) (fun hg => y_load (gvt hg rfl) (LoadAt.oneL .z ty3 .z)) rfl ?_
        refine a_g (i := 5) (s := 23) (Cls.gs _ _) (by kernel_rfl) rfl (by kernel_rfl) (by kernel_rfl) (by kernel_rfl) rfl (beq_t _) (fun hg => y_move rfl) rfl ?_
        refine a_g (i := 6) (s := 23) (Cls.gs _ _) (by kernel_rfl) rfl (by kernel_rfl) (by kernel_rfl) (by kernel_rfl) rfl (beq_t _) (fun hg => y_move rfl) rfl ?_
        refine a_g (i := 7) (s := 23) (Cls.gs _ _) (by kernel_rfl) rfl (by kernel_rfl) (by kernel_rfl) (by kernel_rfl) rfl (beq_t _) (fun hg => y_sub64 (k : Int) 1 (gvt hg rfl) rfl (by omega) (by omega)) rfl ?_
        refine a_g (i := 8) (s := 23) (Cls.gs _ _) (by kernel_rfl) rfl (by kernel_rfl) (by kernel_rfl) (by kernel_rfl) rfl (beq_t _) (fun hg => y_indexAddrF (i := (k : Int) - 1) Tryz.underlying22 ty52 (gvt hg rfl) (gvt hg rfl) ha' (by have := of_decide_eq_true hg; omega) (by have := of_decide_eq_true hg; omega)) rfl ?_
        refine a_g (i := 9) (s := 23) (Cls.gs _ _) (by kernel_rfl) rfl (by kernel_rfl) (by kernel_rfl) (by kernel_rfl) rfl (beq_t _) (fun hg => y_fieldAddr (gvt hg rfl) fa52_0) rfl ?_
        refine a_g (i := 10) (s := 23) (Cls.gs _ _) (by kernel_rfl) rfl (by kernel_rfl) (by kernel_rfl) (by kernel_rfl) rfl (beq_t _) (fun hg => y_load (gvt hg rfl) (LoadAt.oneF .z ty3 (by rw [show ((k : Int) - 1).toNat = k - 1 by omega]; exact he' 0 _ rfl))) rfl ?_
        refine a_g (i := 11) (s := 23) (Cls.gs _ _) (by kernel_rfl) rfl (by kernel_rfl) (by kernel_rfl) (by kernel_rfl) rfl (beq_t _) (fun hg => y_leq (gvt hg rfl) (gvt hg rfl)) rfl ?_
        refine a_y (i := 12) (Cls.gs _ _) (by kernel_rfl) rfl (by kernel_rfl) (by kernel_rfl) (y_and rfl rfl rfl) rfl ?_
        refine a_done (by kernel_rfl) ?_
        refine e_then ?_
        refine CJ.weak (.c (t := 0) rfl (.c (t := 9) rfl (.c (t := 10) rfl (.c (t := 11) rfl (.c (t := 33) rfl .n))))) (fun _ h => h) ?_
        refine c_cond rfl (fun h3 => ?_) (fun h3 => ?_)
        · rw [rows_le hp] at h3
          refine c_seq ?_
          refine c_text ?_
          refine l_y (Cls.gs _ _) (y_assign rfl) rfl ?_
          refine l_nil ?_
          refine e_then ?_
          refine CJ.weak (.c (t := 2) rfl .n) (fun _ h => h) ?_
          refine c_ret ?_
          refine e_block_ret ?_
          refine e_then_ret ?_
          refine e_then_ret ?_
          refine e_block_ret ?_
          refine e_then_ret ?_
          refine e_ret rfl (.t rfl .n) (fun wF hw => ?_)
          exact ⟨congrArg (fun x => Ending.returned (.int .i64 x)) ((rows_small h0).trans (hk.2.trans ((rowsErr1_step (r := m.row) (by simp [rowsOf, hm])).trans ((if_neg (ne_true_of_eq_false h2)).trans (if_pos h3))))).symm, (hw.anc (w, []) (by simp)).below⟩
        · rw [rows_le hp] at h3
          refine c_skip ?_
          refine e_block ?_
          refine e_then ?_
          refine CJ.weak (.c (t := 0) rfl (.c (t := 9) rfl (.c (t := 10) rfl (.c (t := 11) rfl .n)))) (fun _ h => h) ?_
          refine c_text ?_
          refine l_y (Cls.gs _ _) ((y_add rfl rfl).lit (succ64 (by omega))) rfl ?_
          refine l_y (Cls.gs _ _) (y_move rfl) rfl ?_
          refine l_nil ?_
          refine e_again (k + 1) (⟨by omega, by rw [hk.2, rowsErr1_step (r := m.row) (by simp [rowsOf, hm]), if_neg (ne_true_of_eq_false h2), if_neg (ne_true_of_eq_false h3), prevR_succ hm]⟩) (by omega) (.c (t := 11) rfl (.c (t := 0) rfl (.c (t := 9) rfl (.c (t := 10) rfl .n)))) (fun _ h => h.thin (.d .r))
    ·
      refine c_exit ?_
      refine e_then_exit ?_
      refine e_then_exit ?_
      refine e_block_hit ?_
      refine e_then ?_
      refine CJ.weak .n (fun _ h => h) ?_
      refine c_seq ?_
      refine c_text ?_
      refine l_y (Cls.gs _ _) (y_assign rfl) rfl ?_
      refine l_nil ?_
      refine e_then ?_
      refine c_ret ?_
      refine e_ret rfl (.t rfl .n) (fun wF hw => ?_)
      exact ⟨congrArg (fun x => Ending.returned (.int .i64 x)) ((rows_small h0).trans (hk.2.trans (rowsErr1_end (by have := of_decide_eq_false h1; simp [rowsOf]; omega)))).symm, (hw.anc (w, []) (by simp)).below⟩

end Go.Proofs.YtdpdahpkdimopaaGreat
