/-
  A part of the proof of TopAskedElsewhere: walks of single functions.
-/
import Derived.Test.YtdpdahpkdimopaaGreatQf
import Derived.Test.YtdpdahpkdimopaaGreatB
import Derived.Test.YtdpdahpkdimopaaGreatQ7
import Derived.KernelRfl
set_option linter.unusedVariables false
set_option linter.unusedSimpArgs false
set_option maxRecDepth 100000
namespace Go.Proofs.YtdpdahpkdimopaaGreat
open Go Go.Px Sg
open Go.Px Sg
theorem use26 (box : Bx) (wh : Bd) (kv rv : Value) (q : Sg.Ask) (nb p2 : Nat) (ca : Option Addr) (cc : Nat) (hl : q.cones.length < 9223372036854775808) (w : World) (hnb : w.heap[nb]? = some (blk (nodeL box wh kv rv) 87)) (hp2 : w.heap[p2]? = some (blk [.slice ca q.cones.length cc, .int .i64 q.from_, .int .i64 q.to_, .int .i64 q.least, .int .i64 q.ban] 27)) (hI : Elts w ca 4 (q.cones.map Cone.cells)) : Calls Tryz.prog 26 #[ptrV nb, ptrV p2] w fun e w' => e = .returned (.bool (!decide (coneFold box (between wh q.from_ q.to_) q.cones = 0))) ∧ Gr w w' := by
  refine enter Tryz.func26 rfl rfl rfl rfl (Cls.start w) ?_
  refine c_seq ?_
  refine c_text ?_
  refine l_y (Cls.gs _ _) (y_assign rfl) rfl ?_
  refine l_nil ?_
  refine e_then ?_
  refine CJ.weak (.c (t := 0) rfl (.c (t := 1) rfl .n)) (fun _ h => h) ?_
  refine c_seq ?_
  refine c_draw (m := 10) (S0 := fun _ => True) (fun _ => false) (fun _ _ => trivial) hmix (Cls.gs _ _) rfl ?_
  refine a_y (i := 0) (Cls.gs _ _) (by kernel_rfl) rfl (by kernel_rfl) (by kernel_rfl) (y_move rfl) rfl ?_
  refine a_y (i := 1) (Cls.gs _ _) (by kernel_rfl) rfl (by kernel_rfl) (by kernel_rfl) (y_nilCheck rfl) rfl ?_
  refine a_y (i := 2) (Cls.gs _ _) (by kernel_rfl) rfl (by kernel_rfl) (by kernel_rfl) (y_fieldAddr rfl fa87_1) rfl ?_
  refine a_y (i := 3) (Cls.gs _ _) (by kernel_rfl) rfl (by kernel_rfl) (by kernel_rfl) (y_load rfl (LoadAt.aggB .z hnb ty49 (.s (.s (.s (.s (.s (.s (.s (.s (.s (.t (.t (.t .d)))))))))))))) rfl ?_
  refine a_y (i := 4) (Cls.gs _ _) (by kernel_rfl) rfl (by kernel_rfl) (by kernel_rfl) (y_fieldAddr rfl fa27_1) rfl ?_
  refine a_y (i := 5) (Cls.gs _ _) (by kernel_rfl) rfl (by kernel_rfl) (by kernel_rfl) (y_load rfl (LoadAt.oneB .z hp2 ty24 (.s .z))) rfl ?_
  refine a_y (i := 6) (Cls.gs _ _) (by kernel_rfl) rfl (by kernel_rfl) (by kernel_rfl) (y_fieldAddr rfl fa27_2) rfl ?_
  refine a_y (i := 7) (Cls.gs _ _) (by kernel_rfl) rfl (by kernel_rfl) (by kernel_rfl) (y_load rfl (LoadAt.oneB .z hp2 ty24 (.s (.s .z)))) rfl ?_
  refine a_y (i := 8) (Cls.gs _ _) (by kernel_rfl) rfl (by kernel_rfl) (by kernel_rfl) (y_call ent27 (.c rfl (.c rfl (.c rfl .n))) (fun w _ => between27 _ _ _ w)) rfl ?_
  refine a_y (i := 9) (Cls.gs _ _) (by kernel_rfl) rfl (by kernel_rfl) (by kernel_rfl) (y_assign rfl) rfl ?_
  refine a_done (by kernel_rfl) ?_
  refine e_then ?_
  refine CJ.weak (.c (t := 0) rfl (.c (t := 1) rfl (.c (t := 4) rfl .n))) (fun _ h => h) ?_
  refine c_seq ?_
  refine c_seq ?_
  refine c_text ?_
  refine l_y (Cls.gs _ _) (y_fieldAddr rfl fa27_0) rfl ?_
  refine l_y (Cls.gs _ _) (y_load rfl (LoadAt.oneB .z hp2 ty23 .z)) rfl ?_
  refine l_y (Cls.gs _ _) (y_lenS Tryz.underlying23 rfl rfl) rfl ?_
  refine l_y (Cls.gs _ _) (y_move rfl) rfl ?_
  refine l_nil ?_
  refine e_then ?_
  refine CJ.weak (.c (t := 0) rfl (.c (t := 4) rfl (.c (t := 17) rfl (.c (t := 18) rfl (.c (t := 19) rfl .n))))) (fun _ h => h) ?_
  refine c_block ?_
  refine CJ.weak (.c (t := 4) rfl (.c (t := 19) rfl (.c (t := 0) rfl (.c (t := 17) rfl (.c (t := 18) rfl .n))))) (fun _ h => h) ?_
  refine c_loopC (fun x : Int × Nat => x.2 ≤ q.cones.length ∧ coneFold box x.1 (q.cones.drop x.2) = coneFold box (between wh q.from_ q.to_) q.cones) (fun x => [(4, .int .i64 x.1), (19, .int .i64 (x.2 : Int))]) (fun x => q.cones.length - x.2) ((_, 0)) (⟨Nat.zero_le _, rfl⟩) ?_
  rintro ⟨g, k⟩ hk
  refine c_seq ?_
  refine c_text ?_
  refine l_y (Cls.gs _ _) (y_lss rfl rfl) rfl ?_
  refine l_nil ?_
  refine e_then ?_
  refine c_seq ?_
  refine c_cond rfl (fun h0 => ?_) (fun h0 => ?_)
  · have hlt : k < q.cones.length := by have := of_decide_eq_true h0; omega
    obtain ⟨c, hc⟩ : ∃ c, q.cones[k]? = some c := ⟨_, List.getElem?_eq_getElem hlt⟩
    obtain ⟨b, o, ha, he⟩ := hI k (Cone.cells c) (by simp [hc])
    replace he := elt_load he
    refine c_skip ?_
    refine e_then ?_
    refine CJ.weak (.c (t := 0) rfl (.c (t := 4) rfl (.c (t := 17) rfl (.c (t := 18) rfl (.c (t := 19) rfl .n))))) (fun _ h => h) ?_
    refine c_seq ?_
    refine c_block ?_
    refine c_seq ?_
    refine c_text ?_
    refine l_y (Cls.gs _ _) (y_indexAddrF Tryz.underlying23 ty39 rfl rfl ha (by omega) (by omega)) rfl ?_
    refine l_y (Cls.gs _ _) (y_load rfl (LoadAt.aggF (l := [.int .i64 c.x, .int .i64 c.y, .int .i64 c.z, .int .i64 c.cos]) .z ty39 rfl he)) rfl ?_
    refine l_n rfl (n_alloc ty39 .a rfl) (fun b0 _ => ?_)
    refine l_n rfl (n_store rfl rfl ty39 .a rfl rfl .z (.t (.t (.t (.t .d))))) (fun _ _ => ?_)
    refine l_nil ?_
    refine e_then ?_
    refine CJ.weak (.c (t := 0) rfl (.c (t := 4) rfl (.c (t := 6) rfl (.c (t := 17) rfl (.c (t := 18) rfl (.c (t := 19) rfl .n)))))) (fun _ h => h) ?_
    refine c_draw (m := 13) (S0 := fun _ => True) (fun _ => false) (fun _ _ => trivial) hmix (Cls.gs _ _) rfl ?_
    refine a_y (i := 0) (Cls.gs _ _) (by kernel_rfl) rfl (by kernel_rfl) (by kernel_rfl) (y_move rfl) rfl ?_
    refine a_y (i := 1) (Cls.gs _ _) (by kernel_rfl) rfl (by kernel_rfl) (by kernel_rfl) (y_move rfl) rfl ?_
    refine a_y (i := 2) (Cls.gs _ _) (by kernel_rfl) rfl (by kernel_rfl) (by kernel_rfl) (y_nilCheck rfl) rfl ?_
    refine a_y (i := 3) (Cls.gs _ _) (by kernel_rfl) rfl (by kernel_rfl) (by kernel_rfl) (y_fieldAddr rfl fa87_0) rfl ?_
    refine a_y (i := 4) (Cls.gs _ _) (by kernel_rfl) rfl (by kernel_rfl) (by kernel_rfl) (y_load rfl (LoadAt.aggB .z hnb ty45 (.t (.t (.t (.t (.t (.t (.t (.t (.t .d))))))))))) rfl ?_
    refine a_y (i := 5) (Cls.gs _ _) (by kernel_rfl) rfl (by kernel_rfl) (by kernel_rfl) (y_fieldAddr rfl fa39_0) rfl ?_
    refine a_y (i := 6) (Cls.gs _ _) (by kernel_rfl) rfl (by kernel_rfl) (by kernel_rfl) (y_load rfl (LoadAt.aggL .z ty36 (.t (.t (.t .d))))) rfl ?_
    refine a_y (i := 7) (Cls.gs _ _) (by kernel_rfl) rfl (by kernel_rfl) (by kernel_rfl) (y_call ent29 (.c rfl .n) (fun w _ => point29 _ _ _ w)) rfl ?_
    refine a_y (i := 8) (Cls.gs _ _) (by kernel_rfl) rfl (by kernel_rfl) (by kernel_rfl) (y_fieldAddr rfl fa39_1) rfl ?_
    refine a_y (i := 9) (Cls.gs _ _) (by kernel_rfl) rfl (by kernel_rfl) (by kernel_rfl) (y_load rfl (LoadAt.oneL .z ty37 (.s (.s (.s .z))))) rfl ?_
    refine a_y (i := 10) (Cls.gs _ _) (by kernel_rfl) rfl (by kernel_rfl) (by kernel_rfl) (y_call ent28 (.c rfl (.c rfl (.c rfl .n))) (fun w _ => near28 box (ptBx c.x c.y c.z) c.cos w)) rfl ?_
    refine a_y (i := 11) (Cls.gs _ _) (by kernel_rfl) rfl (by kernel_rfl) (by kernel_rfl) (y_min2 rfl rfl) rfl ?_
    refine a_y (i := 12) (Cls.gs _ _) (by kernel_rfl) rfl (by kernel_rfl) (by kernel_rfl) (y_assign rfl) rfl ?_
    refine a_done (by kernel_rfl) ?_
    refine e_block ?_
    refine e_then ?_
    refine CJ.weak (.c (t := 0) rfl (.c (t := 4) rfl (.c (t := 17) rfl (.c (t := 18) rfl (.c (t := 19) rfl .n))))) (fun _ h => h) ?_
    refine c_text ?_
    refine l_y (Cls.gs _ _) ((y_add rfl rfl).lit (succ64 (by omega))) rfl ?_
    refine l_y (Cls.gs _ _) (y_move rfl) rfl ?_
    refine l_nil ?_
    refine e_again ((_, k + 1)) (⟨by omega, by rw [← coneFold_step hc]; exact hk.2⟩) (by dsimp only at hlt ⊢; omega) (.c (t := 4) rfl (.c (t := 19) rfl (.c (t := 0) rfl (.c (t := 17) rfl (.c (t := 18) rfl .n))))) (fun _ h => h.thin (.d .r))
  ·
    refine c_exit ?_
    refine e_then_exit ?_
    refine e_then_exit ?_
    refine e_block_hit ?_
    refine e_then ?_
    refine CJ.weak (.c (t := 4) rfl .n) (fun _ h => h) ?_
    refine c_seq ?_
    refine c_text ?_
    refine l_y (Cls.gs _ _) (y_move rfl) rfl ?_
    refine l_y (Cls.gs _ _) (y_neq rfl rfl) rfl ?_
    refine l_y (Cls.gs _ _) (y_assign rfl) rfl ?_
    refine l_nil ?_
    refine e_then ?_
    refine CJ.weak (.c (t := 3) rfl .n) (fun _ h => h) ?_
    refine c_ret ?_
    refine e_ret rfl (.t rfl .n) (fun wF hw => ?_)
    exact ⟨by simp only [outOf]; rw [← hk.2, coneFold_end (by have := of_decide_eq_false h0; dsimp only; omega)], (hw.anc (w, []) (by simp)).below⟩

end Go.Proofs.YtdpdahpkdimopaaGreat
