/-
  A part of the proof of TopMailbox: walks of single functions, and plain facts.
-/
import Derived.Test.YtpjacndlbjeehaaGreatDoorPf
import Derived.Test.YtpjacndlbjeehaaGreatDoorMK
import Derived.Test.YtpjacndlbjeehaaGreatDoorW1
import Derived.KernelRfl
set_option linter.unusedVariables false
set_option linter.unusedSimpArgs false
set_option maxRecDepth 100000
namespace Go.Proofs.YtpjacndlbjeehaaGreatDoor
open Go Go.Px Mb
theorem new4  (w : World) : TurnsL Tryz.prog 4 [] w ([]) (fun x : Nat × Nat × Nat => ptrV x.1) (fun x => ibOwn x.1 x.2.1 x.2.2 (([], 0), ([], 0))) (fun _ => True) := by
  refine enter Tryz.func4 rfl rfl rfl rfl (Cls.start w) ?_
  refine c_seq ?_
  refine c_text ?_
  refine l_y (Cls.gs _ _) (y_assign rfl) rfl ?_
  refine l_nil ?_
  refine e_then ?_
  refine CJ.weak .n (fun _ h => h) ?_
  refine c_seq ?_
  refine c_text ?_
  refine l_n rfl (n_makeMap rfl) (fun b0 _ => ?_)
  refine l_n rfl (n_makeMap rfl) (fun b1 _ => ?_)
  refine l_y (Cls.gs _ _) (y_build pl57 ty57 .a (.c rfl (.c rfl .n)) (.c rfl (.o rfl) rfl rfl (.t .d) (.c rfl (.o rfl) rfl rfl (.s (.t .d)) .d))) rfl ?_
  refine l_n rfl (n_box rfl .a rfl) (fun b2 _ => ?_)
  refine l_y (Cls.gs _ _) (y_assign rfl) rfl ?_
  refine l_nil ?_
  refine e_then ?_
  refine CJ.weak (.c (t := 0) rfl .n) (fun _ h => h) ?_
  refine c_ret ?_
  refine e_ret rfl (.t rfl .n) (fun wF hw => ?_)
  have hw := hw.perm (L' := ibOwn b2 b0 b1 (([], 0), ([], 0))) (List.Perm.cons _ (List.Perm.swap _ _ _))
  have T := Cls.turnedL (r := []) (r' := ibOwn b2 b0 b1 (([], 0), ([], 0))) hw .z .z
  exact ⟨(b2, b0, b1), rfl, T.1, T.2.1, T.2.2, trivial⟩

theorem take13 (xb vb gb : Nat) (s : IB) (a : Al) (h : AlOK a) (hs : IBOK s) (w : World) (hown : ∀ p ∈ ibOwn xb vb gb s, w.heap[p.1]? = some p.2) (hnd : ((ibOwn xb vb gb s).map (·.1)).Nodup) : TurnsL Tryz.prog 13 [ptrV xb, .agg #[.int .i64 a.id, .int .i64 a.kind, .int .i64 a.object, .int .i64 a.at_.lo, .int .i64 a.at_.hi, .bool a.at_.u, .int .i64 a.ra.lo, .int .i64 a.ra.hi, .bool a.ra.u, .int .i64 a.dec.lo, .int .i64 a.dec.hi, .bool a.dec.u, .int .i64 a.flux.lo, .int .i64 a.flux.hi, .bool a.flux.u, .int .i64 a.of_]] w (ibOwn xb vb gb s) (fun x : Bool => .bool x) (fun _ => ibOwn xb vb gb (takeI s a)) (fun _ => True) := by
  refine enter Tryz.func13 rfl rfl rfl rfl (Cls.startL hown hnd) ?_
  refine c_seq ?_
  refine c_text ?_
  refine l_n rfl (n_box rfl .a rfl) (fun b0 _ => ?_)
  refine l_y (Cls.gs _ _) (y_assign rfl) rfl ?_
  refine l_nil ?_
  refine e_then ?_
  refine CJ.weak (.c (t := 0) rfl (.c (t := 3) rfl .n)) (fun _ h => h) ?_
  refine c_seq ?_
  refine c_seq ?_
  refine c_text ?_
  refine l_y (Cls.gs _ _) (y_load rfl (LoadAt.aggL .z ty36 (.t (.t (.t (.t (.t (.t (.t (.t (.t (.t (.t (.t (.t (.t (.t (.t .d)))))))))))))))))) rfl ?_
  refine l_y (Cls.gs _ _) (y_call ent24 (.c rfl .n) (fun w _ => check24 a h w)) rfl ?_
  refine l_y (Cls.gs _ _) ((y_neq rfl rfl).lit (by kernel_rfl : _ = Value.bool false)) rfl ?_
  refine l_nil ?_
  refine e_then ?_
  refine CJ.weak (.c (t := 0) rfl (.c (t := 3) rfl (.c (t := 8) rfl .n))) (fun _ h => h) ?_
  refine c_false (by kernel_rfl) ?_
  refine c_skip ?_
  refine e_then ?_
  refine CJ.weak (.c (t := 0) rfl (.c (t := 3) rfl .n)) (fun _ h => h) ?_
  refine c_seq ?_
  refine c_seq ?_
  refine c_text ?_
  refine l_y (Cls.gs _ _) (y_fieldAddr rfl fa36_1) rfl ?_
  refine l_y (Cls.gs _ _) (y_load rfl (LoadAt.oneL .z ty3 (.s .z))) rfl ?_
  refine l_y (Cls.gs _ _) (y_eql rfl rfl) rfl ?_
  refine l_nil ?_
  refine e_then ?_
  refine CJ.weak (.c (t := 0) rfl (.c (t := 3) rfl (.c (t := 11) rfl .n))) (fun _ h => h) ?_
  refine c_cond rfl (fun h0 => ?_) (fun h0 => ?_)
  ·
    refine c_seq ?_
    refine c_draw (m := 8) (S0 := fun _ => True) (fun _ => false) (fun _ _ => trivial) hmix (Cls.gs _ _) rfl ?_
    refine a_y (i := 0) (Cls.gs _ _) (by kernel_rfl) rfl (by kernel_rfl) (by kernel_rfl) (y_move rfl) rfl ?_
    refine a_y (i := 1) (Cls.gs _ _) (by kernel_rfl) rfl (by kernel_rfl) (by kernel_rfl) (y_nilCheck rfl) rfl ?_
    refine a_y (i := 2) (Cls.gs _ _) (by kernel_rfl) rfl (by kernel_rfl) (by kernel_rfl) (y_fieldAddr rfl fa57_0) rfl ?_
    refine a_y (i := 3) (Cls.gs _ _) (by kernel_rfl) rfl (by kernel_rfl) (by kernel_rfl) (y_load rfl (LoadAt.oneL (.s .z) ty55 .z)) rfl ?_
    refine a_y (i := 4) (Cls.gs _ _) (by kernel_rfl) rfl (by kernel_rfl) (by kernel_rfl) (y_fieldAddr rfl fa36_7) rfl ?_
    refine a_y (i := 5) (Cls.gs _ _) (by kernel_rfl) rfl (by kernel_rfl) (by kernel_rfl) (y_load rfl (LoadAt.oneL .z ty3 (.s (.s (.s (.s (.s (.s (.s (.s (.s (.s (.s (.s (.s (.s (.s .z))))))))))))))))) rfl ?_
    refine a_y (i := 6) (Cls.gs _ _) (by kernel_rfl) rfl (by kernel_rfl) (by kernel_rfl) (y_lookupT Tryz.underlying55 Tryz.underlying3 ty4 (.s (.s .z)) rfl rfl) rfl ?_
    refine a_y (i := 7) (Cls.gs _ _) (by kernel_rfl) rfl (by kernel_rfl) (by kernel_rfl) (y_assign rfl) rfl ?_
    refine a_done (by kernel_rfl) ?_
    refine e_then ?_
    refine CJ.weak (.c (t := 0) rfl (.c (t := 3) rfl (.c (t := 5) rfl .n))) (fun _ h => h) ?_
    refine c_seq ?_
    refine c_draw (m := 7) (S0 := fun _ => True) (fun i => Nat.beq i 6) (fun _ _ => trivial) hmix (Cls.gs _ _) rfl ?_
    refine a_yM (i := 0) (Cls.gs _ _) (by kernel_rfl) rfl (by kernel_rfl) (by kernel_rfl) (y_move rfl) rfl ?_
    refine a_yM (i := 1) (Cls.gs _ _) (by kernel_rfl) rfl (by kernel_rfl) (by kernel_rfl) (y_nilCheck rfl) rfl ?_
    refine a_yM (i := 2) (Cls.gs _ _) (by kernel_rfl) rfl (by kernel_rfl) (by kernel_rfl) (y_fieldAddr rfl fa57_0) rfl ?_
    refine a_y (i := 3) (Cls.gs _ _) (by kernel_rfl) rfl (by kernel_rfl) (by kernel_rfl) (y_load rfl (LoadAt.oneL (.s .z) ty55 .z)) rfl ?_
    refine a_yM (i := 4) (Cls.gs _ _) (by kernel_rfl) rfl (by kernel_rfl) (by kernel_rfl) (y_fieldAddr rfl fa36_7) rfl ?_
    refine a_y (i := 5) (Cls.gs _ _) (by kernel_rfl) rfl (by kernel_rfl) (by kernel_rfl) (y_load rfl (LoadAt.oneL .z ty3 (.s (.s (.s (.s (.s (.s (.s (.s (.s (.s (.s (.s (.s (.s (.s .z))))))))))))))))) rfl ?_
    refine a_n (i := 6) rfl rfl (by kernel_rfl) (fun _ => Cls.gs _ _) (.inl ⟨rfl, fun _ _ _ => trivial⟩) (n_delT Tryz.underlying55 Tryz.underlying3 rfl rfl rfl hs.v.nk (.s (.s .z))) (fun _ _ => ?_)
    refine a_done (by kernel_rfl) ?_
    refine e_then ?_
    refine CJ.weak (.c (t := 0) rfl (.c (t := 3) rfl (.c (t := 5) rfl .n))) (fun _ h => h) ?_
    refine c_seq ?_
    refine c_draw (m := 7) (S0 := fun _ => True) (fun i => Nat.beq i 6) (fun _ _ => trivial) hmix (Cls.gs _ _) rfl ?_
    refine a_y (i := 0) (Cls.gs _ _) (by kernel_rfl) rfl (by kernel_rfl) (by kernel_rfl) (y_move rfl) rfl ?_
    refine a_y (i := 1) (Cls.gs _ _) (by kernel_rfl) rfl (by kernel_rfl) (by kernel_rfl) (y_nilCheck rfl) rfl ?_
    refine a_y (i := 2) (Cls.gs _ _) (by kernel_rfl) rfl (by kernel_rfl) (by kernel_rfl) (y_fieldAddr rfl fa57_1) rfl ?_
    refine a_y (i := 3) (Cls.gs _ _) (by kernel_rfl) rfl (by kernel_rfl) (by kernel_rfl) (y_load rfl (LoadAt.oneL (.s .z) ty55 (.s .z))) rfl ?_
    refine a_y (i := 4) (Cls.gs _ _) (by kernel_rfl) rfl (by kernel_rfl) (by kernel_rfl) (y_fieldAddr rfl fa36_7) rfl ?_
    refine a_y (i := 5) (Cls.gs _ _) (by kernel_rfl) rfl (by kernel_rfl) (by kernel_rfl) (y_load rfl (LoadAt.oneL .z ty3 (.s (.s (.s (.s (.s (.s (.s (.s (.s (.s (.s (.s (.s (.s (.s .z))))))))))))))))) rfl ?_
    refine a_n (i := 6) rfl rfl (by kernel_rfl) (fun _ => Cls.gs _ _) (.inl ⟨rfl, fun _ _ _ => trivial⟩) (n_setT Tryz.underlying55 Tryz.underlying3 rfl rfl rfl (.s (.s (.s .z)))) (fun _ _ => ?_)
    refine a_done (by kernel_rfl) ?_
    refine e_then ?_
    refine CJ.weak (.c (t := 5) rfl .n) (fun _ h => h) ?_
    refine c_seq ?_
    refine c_text ?_
    refine l_y (Cls.gs _ _) (y_move rfl) rfl ?_
    refine l_y (Cls.gs _ _) (y_assign rfl) rfl ?_
    refine l_nil ?_
    refine e_then ?_
    refine CJ.weak (.c (t := 4) rfl .n) (fun _ h => h) ?_
    refine c_ret ?_
    refine e_then_ret ?_
    refine e_ret rfl (.t rfl .n) (fun wF hw => ?_)
    have e : takeI s a = ((delT s.1.1 a.of_, s.1.2), setT s.2.1 s.2.2 a.of_) := if_pos (of_decide_eq_true h0)
    have hw := hw.thin (.d .r)
    have T := Cls.turnedL (r := ibOwn xb vb gb s) (r' := ibOwn xb vb gb (takeI s a)) (F := fun r => r) (L := ibOwn xb vb gb (takeI s a)) (by rw [e]; exact hw) .z .z
    exact ⟨_, rfl, T.1, T.2.1, T.2.2, trivial⟩
  ·
    refine c_skip ?_
    refine e_then ?_
    refine CJ.weak (.c (t := 0) rfl (.c (t := 3) rfl .n)) (fun _ h => h) ?_
    refine c_seq ?_
    refine c_seq ?_
    refine c_draw (m := 16) (S0 := fun _ => True) (fun _ => false) (fun _ _ => trivial) hmix (Cls.gs _ _) rfl ?_
    refine a_y (i := 0) (Cls.gs _ _) (by kernel_rfl) rfl (by kernel_rfl) (by kernel_rfl) (y_move rfl) rfl ?_
    refine a_y (i := 1) (Cls.gs _ _) (by kernel_rfl) rfl (by kernel_rfl) (by kernel_rfl) (y_nilCheck rfl) rfl ?_
    refine a_y (i := 2) (Cls.gs _ _) (by kernel_rfl) rfl (by kernel_rfl) (by kernel_rfl) (y_fieldAddr rfl fa57_0) rfl ?_
    refine a_y (i := 3) (Cls.gs _ _) (by kernel_rfl) rfl (by kernel_rfl) (by kernel_rfl) (y_load rfl (LoadAt.oneL (.s .z) ty55 .z)) rfl ?_
    refine a_y (i := 4) (Cls.gs _ _) (by kernel_rfl) rfl (by kernel_rfl) (by kernel_rfl) (y_fieldAddr rfl fa36_0) rfl ?_
    refine a_y (i := 5) (Cls.gs _ _) (by kernel_rfl) rfl (by kernel_rfl) (by kernel_rfl) (y_load rfl (LoadAt.oneL .z ty3 .z)) rfl ?_
    refine a_y (i := 6) (Cls.gs _ _) (by kernel_rfl) rfl (by kernel_rfl) (by kernel_rfl) (y_lookupT Tryz.underlying55 Tryz.underlying3 ty4 (.s (.s .z)) rfl rfl) rfl ?_
    refine a_y (i := 7) (Cls.gs _ _) (by kernel_rfl) rfl (by kernel_rfl) (by kernel_rfl) (y_move rfl) rfl ?_
    refine a_g (i := 8) (s := 39) (Cls.gs _ _) (by kernel_rfl) rfl (by kernel_rfl) (by kernel_rfl) (by kernel_rfl) rfl (beq_f _) (fun hg => y_move rfl) rfl ?_
    refine a_g (i := 9) (s := 39) (Cls.gs _ _) (by kernel_rfl) rfl (by kernel_rfl) (by kernel_rfl) (by kernel_rfl) rfl (beq_f _) (fun hg => y_nilCheck (gvt hg rfl)) rfl ?_
    refine a_g (i := 10) (s := 39) (Cls.gs _ _) (by kernel_rfl) rfl (by kernel_rfl) (by kernel_rfl) (by kernel_rfl) rfl (beq_f _) (fun hg => y_fieldAddr (gvt hg rfl) fa57_1) rfl ?_
    refine a_g (i := 11) (s := 39) (Cls.gs _ _) (by kernel_rfl) rfl (by kernel_rfl) (by kernel_rfl) (by kernel_rfl) rfl (beq_f _) (fun hg => y_load (gvt hg rfl) (LoadAt.oneL (.s .z) ty55 (.s .z))) rfl ?_
    refine a_g (i := 12) (s := 39) (Cls.gs _ _) (by kernel_rfl) rfl (by kernel_rfl) (by kernel_rfl) (by kernel_rfl) rfl (beq_f _) (fun hg => y_fieldAddr rfl fa36_0) rfl ?_
    refine a_g (i := 13) (s := 39) (Cls.gs _ _) (by kernel_rfl) rfl (by kernel_rfl) (by kernel_rfl) (by kernel_rfl) rfl (beq_f _) (fun hg => y_load (gvt hg rfl) (LoadAt.oneL .z ty3 .z)) rfl ?_
    refine a_g (i := 14) (s := 39) (Cls.gs _ _) (by kernel_rfl) rfl (by kernel_rfl) (by kernel_rfl) (by kernel_rfl) rfl (beq_f _) (fun hg => y_lookupT Tryz.underlying55 Tryz.underlying3 ty4 (.s (.s (.s .z))) (gvt hg rfl) (gvt hg rfl)) rfl ?_
    refine a_y (i := 15) (Cls.gs _ _) (by kernel_rfl) rfl (by kernel_rfl) (by kernel_rfl) (y_or rfl rfl rfl) rfl ?_
    refine a_done (by kernel_rfl) ?_
    refine e_then ?_
    refine CJ.weak (.c (t := 0) rfl (.c (t := 3) rfl (.c (t := 47) rfl .n))) (fun _ h => h) ?_
    refine c_cond rfl (fun h1 => ?_) (fun h1 => ?_)
    ·
      refine c_seq ?_
      refine c_text ?_
      refine l_y (Cls.gs _ _) (y_assign rfl) rfl ?_
      refine l_nil ?_
      refine e_then ?_
      refine CJ.weak (.c (t := 4) rfl .n) (fun _ h => h) ?_
      refine c_ret ?_
      refine e_then_ret ?_
      refine e_ret rfl (.t rfl .n) (fun wF hw => ?_)
      have e : takeI s a = s := (if_neg (of_decide_eq_false h0)).trans (if_pos (by simpa using h1))
      have hw := hw.thin (.d .r)
      have T := Cls.turnedL (r := ibOwn xb vb gb s) (r' := ibOwn xb vb gb (takeI s a)) (F := fun r => r) (L := ibOwn xb vb gb (takeI s a)) (by rw [e]; exact hw) .z .z
      exact ⟨_, rfl, T.1, T.2.1, T.2.2, trivial⟩
    ·
      refine c_skip ?_
      refine e_then ?_
      refine CJ.weak (.c (t := 0) rfl (.c (t := 3) rfl .n)) (fun _ h => h) ?_
      refine c_seq ?_
      refine c_draw (m := 7) (S0 := fun _ => True) (fun i => Nat.beq i 6) (fun _ _ => trivial) hmix (Cls.gs _ _) rfl ?_
      refine a_y (i := 0) (Cls.gs _ _) (by kernel_rfl) rfl (by kernel_rfl) (by kernel_rfl) (y_move rfl) rfl ?_
      refine a_y (i := 1) (Cls.gs _ _) (by kernel_rfl) rfl (by kernel_rfl) (by kernel_rfl) (y_nilCheck rfl) rfl ?_
      refine a_y (i := 2) (Cls.gs _ _) (by kernel_rfl) rfl (by kernel_rfl) (by kernel_rfl) (y_fieldAddr rfl fa57_0) rfl ?_
      refine a_y (i := 3) (Cls.gs _ _) (by kernel_rfl) rfl (by kernel_rfl) (by kernel_rfl) (y_load rfl (LoadAt.oneL (.s .z) ty55 .z)) rfl ?_
      refine a_y (i := 4) (Cls.gs _ _) (by kernel_rfl) rfl (by kernel_rfl) (by kernel_rfl) (y_fieldAddr rfl fa36_0) rfl ?_
      refine a_y (i := 5) (Cls.gs _ _) (by kernel_rfl) rfl (by kernel_rfl) (by kernel_rfl) (y_load rfl (LoadAt.oneL .z ty3 .z)) rfl ?_
      refine a_n (i := 6) rfl rfl (by kernel_rfl) (fun _ => Cls.gs _ _) (.inl ⟨rfl, fun _ _ _ => trivial⟩) (n_setT Tryz.underlying55 Tryz.underlying3 rfl rfl rfl (.s (.s .z))) (fun _ _ => ?_)
      refine a_done (by kernel_rfl) ?_
      refine e_then ?_
      refine CJ.weak .n (fun _ h => h) ?_
      refine c_seq ?_
      refine c_text ?_
      refine l_y (Cls.gs _ _) (y_assign rfl) rfl ?_
      refine l_nil ?_
      refine e_then ?_
      refine c_ret ?_
      refine e_ret rfl (.t rfl .n) (fun wF hw => ?_)
      have e : takeI s a = (setT s.1.1 s.1.2 a.id, s.2) := (if_neg (of_decide_eq_false h0)).trans (if_neg (by simpa using h1))
      have hw := hw.thin (.d .r)
      have T := Cls.turnedL (r := ibOwn xb vb gb s) (r' := ibOwn xb vb gb (takeI s a)) (F := fun r => r) (L := ibOwn xb vb gb (takeI s a)) (by rw [e]; exact hw) .z .z
      exact ⟨_, rfl, T.1, T.2.1, T.2.2, trivial⟩

end Go.Proofs.YtpjacndlbjeehaaGreatDoor
