/-
  A part of the proof of TopAskedElsewhere: walks of single functions.
-/
import Derived.Test.YtdpdahpkdimopaaGreatQf
import Derived.Test.YtdpdahpkdimopaaGreatB
import Derived.Test.YtdpdahpkdimopaaGreatQ14
import Derived.KernelRfl
set_option linter.unusedVariables false
set_option linter.unusedSimpArgs false
set_option maxRecDepth 100000
namespace Go.Proofs.YtdpdahpkdimopaaGreat
open Go Go.Px Sg
open Go.Px Sg
theorem join21 (nb : Nat) (b b2 : Bx) (t t2 : Bd) (kv rv : Value) (w : World) (hB : w.heap[nb]? = some (blk (nodeL b t kv rv) 87)) : Calls Tryz.prog 21 #[ptrV nb, .agg #[.int .i64 b2.x.lo, .int .i64 b2.x.hi, .bool b2.x.u, .int .i64 b2.y.lo, .int .i64 b2.y.hi, .bool b2.y.u, .int .i64 b2.z.lo, .int .i64 b2.z.hi, .bool b2.z.u], .agg #[.int .i64 t2.lo, .int .i64 t2.hi, .bool t2.u]] w fun e w' => e = .returned (.tuple #[]) ∧ Keeps w [nb] w' ∧ w'.heap[nb]? = some (blk (nodeL (hullX b b2) (hullB t t2) kv rv) 87) := by
  refine enter Tryz.func21 rfl rfl rfl rfl (Cls.startB hB) ?_
  refine c_seq ?_
  refine c_text ?_
  refine l_n rfl (n_box rfl .a rfl) (fun b0 _ => ?_)
  refine l_n rfl (n_box rfl .a rfl) (fun b1 _ => ?_)
  refine l_nil ?_
  refine e_then ?_
  refine CJ.weak (.c (t := 0) rfl (.c (t := 4) rfl (.c (t := 5) rfl .n))) (fun _ h => h) ?_
  refine c_seq ?_
  refine c_draw (m := 29) (S0 := fun _ => True) (fun i => Nat.beq i 28) (fun _ _ => trivial) hmix (Cls.gs _ _) rfl ?_
  refine a_y (i := 0) (Cls.gs _ _) (by kernel_rfl) rfl (by kernel_rfl) (by kernel_rfl) (y_move rfl) rfl ?_
  refine a_y (i := 1) (Cls.gs _ _) (by kernel_rfl) rfl (by kernel_rfl) (by kernel_rfl) (y_move rfl) rfl ?_
  refine a_y (i := 2) (Cls.gs _ _) (by kernel_rfl) rfl (by kernel_rfl) (by kernel_rfl) (y_nilCheck rfl) rfl ?_
  refine a_y (i := 3) (Cls.gs _ _) (by kernel_rfl) rfl (by kernel_rfl) (by kernel_rfl) (y_fieldAddr rfl fa87_0) rfl ?_
  refine a_y (i := 4) (Cls.gs _ _) (by kernel_rfl) rfl (by kernel_rfl) (by kernel_rfl) (y_fieldAddr rfl fa45_0) rfl ?_
  refine a_y (i := 5) (Cls.gs _ _) (by kernel_rfl) rfl (by kernel_rfl) (by kernel_rfl) (y_load rfl (LoadAt.aggL (.s (.s .z)) ty43 (.t (.t (.t .d))))) rfl ?_
  refine a_y (i := 6) (Cls.gs _ _) (by kernel_rfl) rfl (by kernel_rfl) (by kernel_rfl) (y_fieldAddr rfl fa45_0) rfl ?_
  refine a_y (i := 7) (Cls.gs _ _) (by kernel_rfl) rfl (by kernel_rfl) (by kernel_rfl) (y_load rfl (LoadAt.aggL (.s .z) ty43 (.t (.t (.t .d))))) rfl ?_
  refine a_y (i := 8) (Cls.gs _ _) (by kernel_rfl) rfl (by kernel_rfl) (by kernel_rfl) (y_call ent48 (.c rfl (.c rfl .n)) (fun w _ => hull48 _ _ w)) rfl ?_
  refine a_y (i := 9) (Cls.gs _ _) (by kernel_rfl) rfl (by kernel_rfl) (by kernel_rfl) (y_move rfl) rfl ?_
  refine a_y (i := 10) (Cls.gs _ _) (by kernel_rfl) rfl (by kernel_rfl) (by kernel_rfl) (y_nilCheck rfl) rfl ?_
  refine a_y (i := 11) (Cls.gs _ _) (by kernel_rfl) rfl (by kernel_rfl) (by kernel_rfl) (y_fieldAddr rfl fa87_0) rfl ?_
  refine a_y (i := 12) (Cls.gs _ _) (by kernel_rfl) rfl (by kernel_rfl) (by kernel_rfl) (y_fieldAddr rfl fa45_1) rfl ?_
  refine a_y (i := 13) (Cls.gs _ _) (by kernel_rfl) rfl (by kernel_rfl) (by kernel_rfl) (y_load rfl (LoadAt.aggL (.s (.s .z)) ty43 (.s (.s (.s (.t (.t (.t .d)))))))) rfl ?_
  refine a_y (i := 14) (Cls.gs _ _) (by kernel_rfl) rfl (by kernel_rfl) (by kernel_rfl) (y_fieldAddr rfl fa45_1) rfl ?_
  refine a_y (i := 15) (Cls.gs _ _) (by kernel_rfl) rfl (by kernel_rfl) (by kernel_rfl) (y_load rfl (LoadAt.aggL (.s .z) ty43 (.s (.s (.s (.t (.t (.t .d)))))))) rfl ?_
  refine a_y (i := 16) (Cls.gs _ _) (by kernel_rfl) rfl (by kernel_rfl) (by kernel_rfl) (y_call ent48 (.c rfl (.c rfl .n)) (fun w _ => hull48 _ _ w)) rfl ?_
  refine a_y (i := 17) (Cls.gs _ _) (by kernel_rfl) rfl (by kernel_rfl) (by kernel_rfl) (y_move rfl) rfl ?_
  refine a_y (i := 18) (Cls.gs _ _) (by kernel_rfl) rfl (by kernel_rfl) (by kernel_rfl) (y_nilCheck rfl) rfl ?_
  refine a_y (i := 19) (Cls.gs _ _) (by kernel_rfl) rfl (by kernel_rfl) (by kernel_rfl) (y_fieldAddr rfl fa87_0) rfl ?_
  refine a_y (i := 20) (Cls.gs _ _) (by kernel_rfl) rfl (by kernel_rfl) (by kernel_rfl) (y_fieldAddr rfl fa45_2) rfl ?_
  refine a_y (i := 21) (Cls.gs _ _) (by kernel_rfl) rfl (by kernel_rfl) (by kernel_rfl) (y_load rfl (LoadAt.aggL (.s (.s .z)) ty43 (.s (.s (.s (.s (.s (.s (.t (.t (.t .d))))))))))) rfl ?_
  refine a_y (i := 22) (Cls.gs _ _) (by kernel_rfl) rfl (by kernel_rfl) (by kernel_rfl) (y_fieldAddr rfl fa45_2) rfl ?_
  refine a_y (i := 23) (Cls.gs _ _) (by kernel_rfl) rfl (by kernel_rfl) (by kernel_rfl) (y_load rfl (LoadAt.aggL (.s .z) ty43 (.s (.s (.s (.s (.s (.s (.t (.t (.t .d))))))))))) rfl ?_
  refine a_y (i := 24) (Cls.gs _ _) (by kernel_rfl) rfl (by kernel_rfl) (by kernel_rfl) (y_call ent48 (.c rfl (.c rfl .n)) (fun w _ => hull48 _ _ w)) rfl ?_
  refine a_y (i := 25) (Cls.gs _ _) (by kernel_rfl) rfl (by kernel_rfl) (by kernel_rfl) (y_build pl45 ty45 .a (.c rfl (.c rfl (.c rfl .n))) (.c rfl .a rfl rfl (.t (.t (.t .d))) (.c rfl .a rfl rfl (.s (.s (.s (.t (.t (.t .d)))))) (.c rfl .a rfl rfl (.s (.s (.s (.s (.s (.s (.t (.t (.t .d))))))))) .d)))) rfl ?_
  refine a_yM (i := 26) (Cls.gs _ _) (by kernel_rfl) rfl (by kernel_rfl) (by kernel_rfl) (y_nilCheck rfl) rfl ?_
  refine a_y (i := 27) (Cls.gs _ _) (by kernel_rfl) rfl (by kernel_rfl) (by kernel_rfl) (y_fieldAddr rfl fa87_0) rfl ?_
  refine a_n (i := 28) rfl rfl (by kernel_rfl) (fun _ => Cls.gs _ _) (.inl ⟨rfl, fun _ _ _ => trivial⟩) (n_store rfl rfl ty45 .a rfl rfl (.s (.s .z)) (.t (.t (.t (.t (.t (.t (.t (.t (.t .d)))))))))) (fun _ _ => ?_)
  refine a_done (by kernel_rfl) ?_
  refine e_then ?_
  refine CJ.weak (.c (t := 0) rfl (.c (t := 5) rfl .n)) (fun _ h => h) ?_
  refine c_draw (m := 10) (S0 := fun _ => True) (fun i => Nat.beq i 9) (fun _ _ => trivial) hmix (Cls.gs _ _) rfl ?_
  refine a_y (i := 0) (Cls.gs _ _) (by kernel_rfl) rfl (by kernel_rfl) (by kernel_rfl) (y_move rfl) rfl ?_
  refine a_y (i := 1) (Cls.gs _ _) (by kernel_rfl) rfl (by kernel_rfl) (by kernel_rfl) (y_move rfl) rfl ?_
  refine a_y (i := 2) (Cls.gs _ _) (by kernel_rfl) rfl (by kernel_rfl) (by kernel_rfl) (y_nilCheck rfl) rfl ?_
  refine a_y (i := 3) (Cls.gs _ _) (by kernel_rfl) rfl (by kernel_rfl) (by kernel_rfl) (y_fieldAddr rfl fa87_1) rfl ?_
  refine a_y (i := 4) (Cls.gs _ _) (by kernel_rfl) rfl (by kernel_rfl) (by kernel_rfl) (y_load rfl (LoadAt.aggL (.s (.s .z)) ty49 (.s (.s (.s (.s (.s (.s (.s (.s (.s (.t (.t (.t .d)))))))))))))) rfl ?_
  refine a_y (i := 5) (Cls.gs _ _) (by kernel_rfl) rfl (by kernel_rfl) (by kernel_rfl) (y_load rfl (LoadAt.aggL .z ty49 (.t (.t (.t .d))))) rfl ?_
  refine a_y (i := 6) (Cls.gs _ _) (by kernel_rfl) rfl (by kernel_rfl) (by kernel_rfl) (y_call ent49 (.c rfl (.c rfl .n)) (fun w _ => hull49 _ _ w)) rfl ?_
  refine a_yM (i := 7) (Cls.gs _ _) (by kernel_rfl) rfl (by kernel_rfl) (by kernel_rfl) (y_nilCheck rfl) rfl ?_
  refine a_y (i := 8) (Cls.gs _ _) (by kernel_rfl) rfl (by kernel_rfl) (by kernel_rfl) (y_fieldAddr rfl fa87_1) rfl ?_
  refine a_n (i := 9) rfl rfl (by kernel_rfl) (fun _ => Cls.gs _ _) (.inl ⟨rfl, fun _ _ _ => trivial⟩) (n_store rfl rfl ty49 .a rfl rfl (.s (.s .z)) (.s (.s (.s (.s (.s (.s (.s (.s (.s (.t (.t (.t .d))))))))))))) (fun _ _ => ?_)
  refine a_done (by kernel_rfl) ?_
  refine e_end rfl .n (fun wF hw => ?_)
  exact ⟨rfl, hw.anc (w, [nb]) (by simp), hw.locM (.s (.s .z))⟩

end Go.Proofs.YtdpdahpkdimopaaGreat
