/-
  A part of the proof of TopMailbox: walks of single functions, and plain facts.
-/
import Derived.Test.YtpjacndlbjeehaaGreatDoorPf
import Derived.Test.YtpjacndlbjeehaaGreatDoorM3
import Derived.Test.YtpjacndlbjeehaaGreatDoorW4
import Derived.KernelRfl
set_option linter.unusedVariables false
set_option linter.unusedSimpArgs false
set_option maxRecDepth 100000
namespace Go.Proofs.YtpjacndlbjeehaaGreatDoor
open Go Go.Px Mb
theorem number25 (n : Nat) (v : Vec) (hv : VecOK 1 5 v) (hl : v.es.length < 1000) (w : World) (hn : n < 9223372036854775808) (hV : ∀ p ∈ v.own, w.heap[p.1]? = some p.2) : Turns Tryz.prog 25 [v.val, .int .u64 (n : Int)] w v (fun x : Vec => x.val) (fun x => x) (fun x => VecOK 1 5 x ∧ x.es = v.es ++ (numB n).map bC) := by
  have hnl := numB_len 8 n (by omega)
  refine enter Tryz.func25 rfl rfl rfl rfl (Cls.startV hv hV) ?_
  refine c_seq ?_
  refine c_text ?_
  refine l_y (Cls.gs _ _) (y_assign rfl) rfl ?_
  refine l_nil ?_
  refine e_then ?_
  refine CJ.weak (.c (t := 0) rfl (.c (t := 1) rfl .n)) (fun _ h => h) ?_
  refine c_seq ?_
  refine c_block ?_
  refine CJ.weak (.c (t := 0) rfl (.c (t := 1) rfl .n)) (fun _ h => h) ?_
  refine c_loopV (fun x : Vec × Nat => VecOK 1 5 x.1 ∧ x.1.es ++ (numB x.2).map bC = v.es ++ (numB n).map bC) (fun x => [(0, x.1.val), (1, .int .u64 (x.2 : Int))]) (fun x => x.1.own) (fun x => x.2) ((v, n)) (⟨hv, rfl⟩) .z ?_
  rintro ⟨u, m⟩ hk
  dsimp only at hk
  refine c_seq ?_
  refine c_seq ?_
  refine c_text ?_
  refine l_y (Cls.gs _ _) (y_move rfl) rfl ?_
  refine l_y (Cls.gs _ _) (y_geq rfl rfl) rfl ?_
  refine l_nil ?_
  refine e_then ?_
  refine CJ.weak (.c (t := 0) rfl (.c (t := 1) rfl (.c (t := 6) rfl .n))) (fun _ h => h) ?_
  refine c_cond rfl (fun h0 => ?_) (fun h0 => ?_)
  · have hm : 128 ≤ m := by have := of_decide_eq_true h0; dsimp only at this; omega
    refine c_skip ?_
    refine e_then ?_
    refine CJ.weak (.c (t := 0) rfl (.c (t := 1) rfl .n)) (fun _ h => h) ?_
    refine c_seq ?_
    refine c_block ?_
    refine c_text ?_
    refine l_y (Cls.gs _ _) (y_move rfl) rfl ?_
    refine l_y (Cls.gs _ _) (y_move rfl) rfl ?_
    refine l_y (Cls.gs _ _) (y_conv Tryz.underlying79 Tryz.underlying5 rfl) rfl ?_
    refine l_y (Cls.gs _ _) ((y_bor rfl rfl).lit (bor128 m)) rfl ?_
    refine l_n rfl (n_buildSlice (l := [.int .u8 0]) Tryz.underlying41 ty5 (.o rfl) rfl (by simp) (by kernel_rfl) (.c rfl .n) (.c rfl (.o rfl) rfl rfl (.t .d) .d) rfl) (fun b0 _ => ?_)
    refine l_n rfl (n_append1 (v := u) 140000 Tryz.underlying41 ti5 hk.1 (.c .z) rfl rfl .z rfl rfl (by have e := congrArg List.length hk.2; simp only [List.length_append, List.length_map] at e; show u.es.length < 1000000000; omega) rfl rfl) (fun u1 hu1 => ?_)
    refine l_y (Cls.gs _ _) (y_assign rfl) rfl ?_
    refine l_nil ?_
    refine e_block ?_
    refine e_then ?_
    refine CJ.weak (.c (t := 0) rfl (.c (t := 1) rfl .n)) (fun _ h => h) ?_
    refine c_text ?_
    refine l_y (Cls.gs _ _) (y_move rfl) rfl ?_
    refine l_y (Cls.gs _ _) ((y_shr rfl rfl (by decide)).lit (shr7 m)) rfl ?_
    refine l_y (Cls.gs _ _) (y_assign rfl) rfl ?_
    refine l_nil ?_
    refine e_again ((u1, m / 128)) (⟨hu1.1, by dsimp only; rw [hu1.2, ← hk.2, numB_big (n := m) (by omega)]; simp⟩) (by dsimp only; omega) (.c (t := 0) rfl (.c (t := 1) rfl .n)) (fun _ h => h.thin (.d .r))
  · have hm : m < 128 := by have := of_decide_eq_false h0; dsimp only at this; omega
    refine c_exit ?_
    refine e_then_exit ?_
    refine e_then_exit ?_
    refine e_block_hit ?_
    refine e_then ?_
    refine CJ.weak (.c (t := 0) rfl (.c (t := 1) rfl .n)) (fun _ h => h) ?_
    refine c_seq ?_
    refine c_text ?_
    refine l_y (Cls.gs _ _) (y_move rfl) rfl ?_
    refine l_y (Cls.gs _ _) (y_move rfl) rfl ?_
    refine l_y (Cls.gs _ _) ((y_conv Tryz.underlying79 Tryz.underlying5 rfl).lit (conv8 (by dsimp only; omega))) rfl ?_
    refine l_n rfl (n_buildSlice (l := [.int .u8 0]) Tryz.underlying41 ty5 (.o rfl) rfl (by simp) (by kernel_rfl) (.c rfl .n) (.c rfl (.o rfl) rfl rfl (.t .d) .d) rfl) (fun b1 _ => ?_)
    refine l_n rfl (n_append1 (v := u) 140000 Tryz.underlying41 ti5 hk.1 (.c .z) rfl rfl .z rfl rfl (by have e := congrArg List.length hk.2; simp only [List.length_append, List.length_map] at e; show u.es.length < 1000000000; omega) rfl rfl) (fun u2 hu2 => ?_)
    refine l_y (Cls.gs _ _) (y_assign rfl) rfl ?_
    refine l_nil ?_
    refine e_then ?_
    refine CJ.weak (.c (t := 4) rfl .n) (fun _ h => h) ?_
    refine c_ret ?_
    refine e_ret rfl (.t rfl .n) (fun wF hw => ?_)
    have hw := hw.thin (.d .r)
    exact ⟨u2, rfl, (hw.turned hu2.1 .z .z).1, (hw.turned hu2.1 .z .z).2.1, (hw.turned hu2.1 .z .z).2.2, hu2.1, by rw [hu2.2, ← hk.2, numB_small hm]; rfl⟩

theorem ends26 (b : Bd) (h : BdOK b) (v : Vec) (hv : VecOK 1 5 v) (hl : v.es.length < 900) (w : World) (hV : ∀ p ∈ v.own, w.heap[p.1]? = some p.2) : Turns Tryz.prog 26 [v.val, .agg #[.int .i64 b.lo, .int .i64 b.hi, .bool b.u]] w v (fun x : Vec => x.val) (fun x => x) (fun x => VecOK 1 5 x ∧ x.es = v.es ++ (endsB b).map bC) := by
  have h1 := h.lo
  have h2 := h.hi
  have h3 := h.le
  have hz : zig b.lo < 9223372036854775808 := by unfold zig; split <;> omega
  have hzl := numB_len 8 (zig b.lo) (by omega)
  refine enter Tryz.func26 rfl rfl rfl rfl (Cls.startV hv hV) ?_
  refine c_seq ?_
  refine c_text ?_
  refine l_n rfl (n_box rfl .a rfl) (fun b0 _ => ?_)
  refine l_y (Cls.gs _ _) (y_assign rfl) rfl ?_
  refine l_nil ?_
  refine e_then ?_
  refine CJ.weak (.c (t := 0) rfl (.c (t := 3) rfl .n)) (fun _ h => h) ?_
  refine c_seq ?_
  refine c_seq ?_
  refine c_text ?_
  refine l_y (Cls.gs _ _) (y_fieldAddr rfl fa28_2) rfl ?_
  refine l_y (Cls.gs _ _) (y_load rfl (LoadAt.oneL .z ty4 (.s (.s .z)))) rfl ?_
  refine l_nil ?_
  refine e_then ?_
  refine CJ.weak (.c (t := 0) rfl (.c (t := 3) rfl (.c (t := 6) rfl .n))) (fun _ h => h) ?_
  refine c_cond rfl (fun h0 => ?_) (fun h0 => ?_)
  ·
    refine c_seq ?_
    refine c_text ?_
    refine l_y (Cls.gs _ _) (y_move rfl) rfl ?_
    refine l_y (Cls.gs _ _) (y_assign rfl) rfl ?_
    refine l_nil ?_
    refine e_then ?_
    refine CJ.weak (.c (t := 4) rfl .n) (fun _ h => h) ?_
    refine c_ret ?_
    refine e_then_ret ?_
    refine e_ret rfl (.t rfl .n) (fun wF hw => ?_)
    have hw := hw.thin (.d .r)
    exact ⟨v, rfl, (hw.turned hv .z .z).1, (hw.turned hv .z .z).2.1, (hw.turned hv .z .z).2.2, hv, by rw [endsB, if_pos h0]; simp⟩
  ·
    refine c_skip ?_
    refine e_then ?_
    refine CJ.weak (.c (t := 0) rfl (.c (t := 3) rfl .n)) (fun _ h => h) ?_
    refine c_seq ?_
    refine c_draw (m := 19) (fun i => Nat.beq i 10 || Nat.beq i 17) (fun _ h => h.thin (.k .n)) hmix (Cls.gs _ _) rfl ?_
    refine a_yM (i := 0) (Cls.gs _ _) (by kernel_rfl) rfl (by kernel_rfl) (by kernel_rfl) (y_move rfl) rfl ?_
    refine a_yM (i := 1) (Cls.gs _ _) (by kernel_rfl) rfl (by kernel_rfl) (by kernel_rfl) (y_fieldAddr rfl fa28_0) rfl ?_
    refine a_yM (i := 2) (Cls.gs _ _) (by kernel_rfl) rfl (by kernel_rfl) (by kernel_rfl) (y_load rfl (LoadAt.oneL .z ty26 .z)) rfl ?_
    refine a_yM (i := 3) (Cls.gs _ _) (by kernel_rfl) rfl (by kernel_rfl) (by kernel_rfl) (y_shl rfl rfl (by decide)) rfl ?_
    refine a_yM (i := 4) (Cls.gs _ _) (by kernel_rfl) rfl (by kernel_rfl) (by kernel_rfl) (y_conv Tryz.underlying26 Tryz.underlying79 rfl) rfl ?_
    refine a_yM (i := 5) (Cls.gs _ _) (by kernel_rfl) rfl (by kernel_rfl) (by kernel_rfl) (y_fieldAddr rfl fa28_0) rfl ?_
    refine a_yM (i := 6) (Cls.gs _ _) (by kernel_rfl) rfl (by kernel_rfl) (by kernel_rfl) (y_load rfl (LoadAt.oneL .z ty26 .z)) rfl ?_
    refine a_yM (i := 7) (Cls.gs _ _) (by kernel_rfl) rfl (by kernel_rfl) (by kernel_rfl) (y_shr rfl rfl (by decide)) rfl ?_
    refine a_yM (i := 8) (Cls.gs _ _) (by kernel_rfl) rfl (by kernel_rfl) (by kernel_rfl) (y_conv Tryz.underlying26 Tryz.underlying79 rfl) rfl ?_
    refine a_yM (i := 9) (Cls.gs _ _) (by kernel_rfl) rfl (by kernel_rfl) (by kernel_rfl) ((y_bxor rfl rfl).lit (zigV (by omega) (by omega))) rfl ?_
    refine a_yM (i := 11) (Cls.gs _ _) (by kernel_rfl) rfl (by kernel_rfl) (by kernel_rfl) (y_fieldAddr rfl fa28_1) rfl ?_
    refine a_yM (i := 12) (Cls.gs _ _) (by kernel_rfl) rfl (by kernel_rfl) (by kernel_rfl) (y_load rfl (LoadAt.oneL .z ty26 (.s .z))) rfl ?_
    refine a_yM (i := 13) (Cls.gs _ _) (by kernel_rfl) rfl (by kernel_rfl) (by kernel_rfl) (y_fieldAddr rfl fa28_0) rfl ?_
    refine a_yM (i := 14) (Cls.gs _ _) (by kernel_rfl) rfl (by kernel_rfl) (by kernel_rfl) (y_load rfl (LoadAt.oneL .z ty26 .z)) rfl ?_
    refine a_yM (i := 15) (Cls.gs _ _) (by kernel_rfl) rfl (by kernel_rfl) (by kernel_rfl) (y_sub64 b.hi b.lo rfl rfl (by omega) (by omega)) rfl ?_
    refine a_yM (i := 16) (Cls.gs _ _) (by kernel_rfl) rfl (by kernel_rfl) (by kernel_rfl) ((y_conv Tryz.underlying26 Tryz.underlying79 rfl).lit (conv64 (by omega) (by omega))) rfl ?_
    refine a_n (i := 10) rfl rfl (by kernel_rfl) (fun _ => Cls.gs _ _) (.inl ⟨rfl, fun _ _ h => h.thin (.k .n)⟩) (n_callTV (v := v) ent25 (.c .z) (.c rfl (.c rfl .n)) (fun w' hw' => number25 (zig b.lo) v hv (by omega) w' hz (Cls.ownV hv hw' (.c .z))) rfl) (fun u1 hu1 => ?_)
    refine a_n (i := 17) rfl rfl (by kernel_rfl) (fun _ => Cls.gs _ _) (.inl ⟨rfl, fun _ _ h => h.thin (.k .n)⟩) (n_callTV (v := u1) ent25 (.c .z) (.c rfl (.c rfl .n)) (fun w' hw' => number25 (b.hi - b.lo).toNat u1 hu1.1 (by rw [hu1.2, List.length_append, List.length_map]; omega) w' (by omega) (Cls.ownV hu1.1 hw' (.c .z))) rfl) (fun u2 hu2 => ?_)
    refine a_y (i := 18) (Cls.gs _ _) (by kernel_rfl) rfl (by kernel_rfl) (by kernel_rfl) (y_assign rfl) rfl ?_
    refine a_done (by kernel_rfl) ?_
    refine e_then ?_
    refine CJ.weak (.c (t := 4) rfl .n) (fun _ h => h) ?_
    refine c_ret ?_
    refine e_ret rfl (.t rfl .n) (fun wF hw => ?_)
    have hw := hw.thin (.d .r)
    exact ⟨u2, rfl, (hw.turned hu2.1 .z .z).1, (hw.turned hu2.1 .z .z).2.1, (hw.turned hu2.1 .z .z).2.2, hu2.1, by rw [hu2.2, hu1.2, endsB, if_neg (ne_true_of_eq_false h0)]; simp⟩

theorem ends27 (b : Bd) (h : BdOK b) (v : Vec) (hv : VecOK 1 5 v) (hl : v.es.length < 900) (w : World) (hV : ∀ p ∈ v.own, w.heap[p.1]? = some p.2) : Turns Tryz.prog 27 [v.val, .agg #[.int .i64 b.lo, .int .i64 b.hi, .bool b.u]] w v (fun x : Vec => x.val) (fun x => x) (fun x => VecOK 1 5 x ∧ x.es = v.es ++ (endsB b).map bC) := by
  have h1 := h.lo
  have h2 := h.hi
  have h3 := h.le
  have hz : zig b.lo < 9223372036854775808 := by unfold zig; split <;> omega
  have hzl := numB_len 8 (zig b.lo) (by omega)
  refine enter Tryz.func27 rfl rfl rfl rfl (Cls.startV hv hV) ?_
  refine c_seq ?_
  refine c_text ?_
  refine l_n rfl (n_box rfl .a rfl) (fun b0 _ => ?_)
  refine l_y (Cls.gs _ _) (y_assign rfl) rfl ?_
  refine l_nil ?_
  refine e_then ?_
  refine CJ.weak (.c (t := 0) rfl (.c (t := 3) rfl .n)) (fun _ h => h) ?_
  refine c_seq ?_
  refine c_seq ?_
  refine c_text ?_
  refine l_y (Cls.gs _ _) (y_fieldAddr rfl fa34_2) rfl ?_
  refine l_y (Cls.gs _ _) (y_load rfl (LoadAt.oneL .z ty4 (.s (.s .z)))) rfl ?_
  refine l_nil ?_
  refine e_then ?_
  refine CJ.weak (.c (t := 0) rfl (.c (t := 3) rfl (.c (t := 6) rfl .n))) (fun _ h => h) ?_
  refine c_cond rfl (fun h0 => ?_) (fun h0 => ?_)
  ·
    refine c_seq ?_
    refine c_text ?_
    refine l_y (Cls.gs _ _) (y_move rfl) rfl ?_
    refine l_y (Cls.gs _ _) (y_assign rfl) rfl ?_
    refine l_nil ?_
    refine e_then ?_
    refine CJ.weak (.c (t := 4) rfl .n) (fun _ h => h) ?_
    refine c_ret ?_
    refine e_then_ret ?_
    refine e_ret rfl (.t rfl .n) (fun wF hw => ?_)
    have hw := hw.thin (.d .r)
    exact ⟨v, rfl, (hw.turned hv .z .z).1, (hw.turned hv .z .z).2.1, (hw.turned hv .z .z).2.2, hv, by rw [endsB, if_pos h0]; simp⟩
  ·
    refine c_skip ?_
    refine e_then ?_
    refine CJ.weak (.c (t := 0) rfl (.c (t := 3) rfl .n)) (fun _ h => h) ?_
    refine c_seq ?_
    refine c_draw (m := 19) (fun i => Nat.beq i 10 || Nat.beq i 17) (fun _ h => h.thin (.k .n)) hmix (Cls.gs _ _) rfl ?_
    refine a_yM (i := 0) (Cls.gs _ _) (by kernel_rfl) rfl (by kernel_rfl) (by kernel_rfl) (y_move rfl) rfl ?_
    refine a_yM (i := 1) (Cls.gs _ _) (by kernel_rfl) rfl (by kernel_rfl) (by kernel_rfl) (y_fieldAddr rfl fa34_0) rfl ?_
    refine a_yM (i := 2) (Cls.gs _ _) (by kernel_rfl) rfl (by kernel_rfl) (by kernel_rfl) (y_load rfl (LoadAt.oneL .z ty32 .z)) rfl ?_
    refine a_yM (i := 3) (Cls.gs _ _) (by kernel_rfl) rfl (by kernel_rfl) (by kernel_rfl) (y_shl rfl rfl (by decide)) rfl ?_
    refine a_yM (i := 4) (Cls.gs _ _) (by kernel_rfl) rfl (by kernel_rfl) (by kernel_rfl) (y_conv Tryz.underlying32 Tryz.underlying79 rfl) rfl ?_
    refine a_yM (i := 5) (Cls.gs _ _) (by kernel_rfl) rfl (by kernel_rfl) (by kernel_rfl) (y_fieldAddr rfl fa34_0) rfl ?_
    refine a_yM (i := 6) (Cls.gs _ _) (by kernel_rfl) rfl (by kernel_rfl) (by kernel_rfl) (y_load rfl (LoadAt.oneL .z ty32 .z)) rfl ?_
    refine a_yM (i := 7) (Cls.gs _ _) (by kernel_rfl) rfl (by kernel_rfl) (by kernel_rfl) (y_shr rfl rfl (by decide)) rfl ?_
    refine a_yM (i := 8) (Cls.gs _ _) (by kernel_rfl) rfl (by kernel_rfl) (by kernel_rfl) (y_conv Tryz.underlying32 Tryz.underlying79 rfl) rfl ?_
    refine a_yM (i := 9) (Cls.gs _ _) (by kernel_rfl) rfl (by kernel_rfl) (by kernel_rfl) ((y_bxor rfl rfl).lit (zigV (by omega) (by omega))) rfl ?_
    refine a_yM (i := 11) (Cls.gs _ _) (by kernel_rfl) rfl (by kernel_rfl) (by kernel_rfl) (y_fieldAddr rfl fa34_1) rfl ?_
    refine a_yM (i := 12) (Cls.gs _ _) (by kernel_rfl) rfl (by kernel_rfl) (by kernel_rfl) (y_load rfl (LoadAt.oneL .z ty32 (.s .z))) rfl ?_
    refine a_yM (i := 13) (Cls.gs _ _) (by kernel_rfl) rfl (by kernel_rfl) (by kernel_rfl) (y_fieldAddr rfl fa34_0) rfl ?_
    refine a_yM (i := 14) (Cls.gs _ _) (by kernel_rfl) rfl (by kernel_rfl) (by kernel_rfl) (y_load rfl (LoadAt.oneL .z ty32 .z)) rfl ?_
    refine a_yM (i := 15) (Cls.gs _ _) (by kernel_rfl) rfl (by kernel_rfl) (by kernel_rfl) (y_sub64 b.hi b.lo rfl rfl (by omega) (by omega)) rfl ?_
    refine a_yM (i := 16) (Cls.gs _ _) (by kernel_rfl) rfl (by kernel_rfl) (by kernel_rfl) ((y_conv Tryz.underlying32 Tryz.underlying79 rfl).lit (conv64 (by omega) (by omega))) rfl ?_
    refine a_n (i := 10) rfl rfl (by kernel_rfl) (fun _ => Cls.gs _ _) (.inl ⟨rfl, fun _ _ h => h.thin (.k .n)⟩) (n_callTV (v := v) ent25 (.c .z) (.c rfl (.c rfl .n)) (fun w' hw' => number25 (zig b.lo) v hv (by omega) w' hz (Cls.ownV hv hw' (.c .z))) rfl) (fun u1 hu1 => ?_)
    refine a_n (i := 17) rfl rfl (by kernel_rfl) (fun _ => Cls.gs _ _) (.inl ⟨rfl, fun _ _ h => h.thin (.k .n)⟩) (n_callTV (v := u1) ent25 (.c .z) (.c rfl (.c rfl .n)) (fun w' hw' => number25 (b.hi - b.lo).toNat u1 hu1.1 (by rw [hu1.2, List.length_append, List.length_map]; omega) w' (by omega) (Cls.ownV hu1.1 hw' (.c .z))) rfl) (fun u2 hu2 => ?_)
    refine a_y (i := 18) (Cls.gs _ _) (by kernel_rfl) rfl (by kernel_rfl) (by kernel_rfl) (y_assign rfl) rfl ?_
    refine a_done (by kernel_rfl) ?_
    refine e_then ?_
    refine CJ.weak (.c (t := 4) rfl .n) (fun _ h => h) ?_
    refine c_ret ?_
    refine e_ret rfl (.t rfl .n) (fun wF hw => ?_)
    have hw := hw.thin (.d .r)
    exact ⟨u2, rfl, (hw.turned hu2.1 .z .z).1, (hw.turned hu2.1 .z .z).2.1, (hw.turned hu2.1 .z .z).2.2, hu2.1, by rw [hu2.2, hu1.2, endsB, if_neg (ne_true_of_eq_false h0)]; simp⟩

theorem ends28 (b : Bd) (h : BdOK b) (v : Vec) (hv : VecOK 1 5 v) (hl : v.es.length < 900) (w : World) (hV : ∀ p ∈ v.own, w.heap[p.1]? = some p.2) : Turns Tryz.prog 28 [v.val, .agg #[.int .i64 b.lo, .int .i64 b.hi, .bool b.u]] w v (fun x : Vec => x.val) (fun x => x) (fun x => VecOK 1 5 x ∧ x.es = v.es ++ (endsB b).map bC) := by
  have h1 := h.lo
  have h2 := h.hi
  have h3 := h.le
  have hz : zig b.lo < 9223372036854775808 := by unfold zig; split <;> omega
  have hzl := numB_len 8 (zig b.lo) (by omega)
  refine enter Tryz.func28 rfl rfl rfl rfl (Cls.startV hv hV) ?_
  refine c_seq ?_
  refine c_text ?_
  refine l_n rfl (n_box rfl .a rfl) (fun b0 _ => ?_)
  refine l_y (Cls.gs _ _) (y_assign rfl) rfl ?_
  refine l_nil ?_
  refine e_then ?_
  refine CJ.weak (.c (t := 0) rfl (.c (t := 3) rfl .n)) (fun _ h => h) ?_
  refine c_seq ?_
  refine c_seq ?_
  refine c_text ?_
  refine l_y (Cls.gs _ _) (y_fieldAddr rfl fa31_2) rfl ?_
  refine l_y (Cls.gs _ _) (y_load rfl (LoadAt.oneL .z ty4 (.s (.s .z)))) rfl ?_
  refine l_nil ?_
  refine e_then ?_
  refine CJ.weak (.c (t := 0) rfl (.c (t := 3) rfl (.c (t := 6) rfl .n))) (fun _ h => h) ?_
  refine c_cond rfl (fun h0 => ?_) (fun h0 => ?_)
  ·
    refine c_seq ?_
    refine c_text ?_
    refine l_y (Cls.gs _ _) (y_move rfl) rfl ?_
    refine l_y (Cls.gs _ _) (y_assign rfl) rfl ?_
    refine l_nil ?_
    refine e_then ?_
    refine CJ.weak (.c (t := 4) rfl .n) (fun _ h => h) ?_
    refine c_ret ?_
    refine e_then_ret ?_
    refine e_ret rfl (.t rfl .n) (fun wF hw => ?_)
    have hw := hw.thin (.d .r)
    exact ⟨v, rfl, (hw.turned hv .z .z).1, (hw.turned hv .z .z).2.1, (hw.turned hv .z .z).2.2, hv, by rw [endsB, if_pos h0]; simp⟩
  ·
    refine c_skip ?_
    refine e_then ?_
    refine CJ.weak (.c (t := 0) rfl (.c (t := 3) rfl .n)) (fun _ h => h) ?_
    refine c_seq ?_
    refine c_draw (m := 19) (fun i => Nat.beq i 10 || Nat.beq i 17) (fun _ h => h.thin (.k .n)) hmix (Cls.gs _ _) rfl ?_
    refine a_yM (i := 0) (Cls.gs _ _) (by kernel_rfl) rfl (by kernel_rfl) (by kernel_rfl) (y_move rfl) rfl ?_
    refine a_yM (i := 1) (Cls.gs _ _) (by kernel_rfl) rfl (by kernel_rfl) (by kernel_rfl) (y_fieldAddr rfl fa31_0) rfl ?_
    refine a_yM (i := 2) (Cls.gs _ _) (by kernel_rfl) rfl (by kernel_rfl) (by kernel_rfl) (y_load rfl (LoadAt.oneL .z ty29 .z)) rfl ?_
    refine a_yM (i := 3) (Cls.gs _ _) (by kernel_rfl) rfl (by kernel_rfl) (by kernel_rfl) (y_shl rfl rfl (by decide)) rfl ?_
    refine a_yM (i := 4) (Cls.gs _ _) (by kernel_rfl) rfl (by kernel_rfl) (by kernel_rfl) (y_conv Tryz.underlying29 Tryz.underlying79 rfl) rfl ?_
    refine a_yM (i := 5) (Cls.gs _ _) (by kernel_rfl) rfl (by kernel_rfl) (by kernel_rfl) (y_fieldAddr rfl fa31_0) rfl ?_
    refine a_yM (i := 6) (Cls.gs _ _) (by kernel_rfl) rfl (by kernel_rfl) (by kernel_rfl) (y_load rfl (LoadAt.oneL .z ty29 .z)) rfl ?_
    refine a_yM (i := 7) (Cls.gs _ _) (by kernel_rfl) rfl (by kernel_rfl) (by kernel_rfl) (y_shr rfl rfl (by decide)) rfl ?_
    refine a_yM (i := 8) (Cls.gs _ _) (by kernel_rfl) rfl (by kernel_rfl) (by kernel_rfl) (y_conv Tryz.underlying29 Tryz.underlying79 rfl) rfl ?_
    refine a_yM (i := 9) (Cls.gs _ _) (by kernel_rfl) rfl (by kernel_rfl) (by kernel_rfl) ((y_bxor rfl rfl).lit (zigV (by omega) (by omega))) rfl ?_
    refine a_yM (i := 11) (Cls.gs _ _) (by kernel_rfl) rfl (by kernel_rfl) (by kernel_rfl) (y_fieldAddr rfl fa31_1) rfl ?_
    refine a_yM (i := 12) (Cls.gs _ _) (by kernel_rfl) rfl (by kernel_rfl) (by kernel_rfl) (y_load rfl (LoadAt.oneL .z ty29 (.s .z))) rfl ?_
    refine a_yM (i := 13) (Cls.gs _ _) (by kernel_rfl) rfl (by kernel_rfl) (by kernel_rfl) (y_fieldAddr rfl fa31_0) rfl ?_
    refine a_yM (i := 14) (Cls.gs _ _) (by kernel_rfl) rfl (by kernel_rfl) (by kernel_rfl) (y_load rfl (LoadAt.oneL .z ty29 .z)) rfl ?_
    refine a_yM (i := 15) (Cls.gs _ _) (by kernel_rfl) rfl (by kernel_rfl) (by kernel_rfl) (y_sub64 b.hi b.lo rfl rfl (by omega) (by omega)) rfl ?_
    refine a_yM (i := 16) (Cls.gs _ _) (by kernel_rfl) rfl (by kernel_rfl) (by kernel_rfl) ((y_conv Tryz.underlying29 Tryz.underlying79 rfl).lit (conv64 (by omega) (by omega))) rfl ?_
    refine a_n (i := 10) rfl rfl (by kernel_rfl) (fun _ => Cls.gs _ _) (.inl ⟨rfl, fun _ _ h => h.thin (.k .n)⟩) (n_callTV (v := v) ent25 (.c .z) (.c rfl (.c rfl .n)) (fun w' hw' => number25 (zig b.lo) v hv (by omega) w' hz (Cls.ownV hv hw' (.c .z))) rfl) (fun u1 hu1 => ?_)
    refine a_n (i := 17) rfl rfl (by kernel_rfl) (fun _ => Cls.gs _ _) (.inl ⟨rfl, fun _ _ h => h.thin (.k .n)⟩) (n_callTV (v := u1) ent25 (.c .z) (.c rfl (.c rfl .n)) (fun w' hw' => number25 (b.hi - b.lo).toNat u1 hu1.1 (by rw [hu1.2, List.length_append, List.length_map]; omega) w' (by omega) (Cls.ownV hu1.1 hw' (.c .z))) rfl) (fun u2 hu2 => ?_)
    refine a_y (i := 18) (Cls.gs _ _) (by kernel_rfl) rfl (by kernel_rfl) (by kernel_rfl) (y_assign rfl) rfl ?_
    refine a_done (by kernel_rfl) ?_
    refine e_then ?_
    refine CJ.weak (.c (t := 4) rfl .n) (fun _ h => h) ?_
    refine c_ret ?_
    refine e_ret rfl (.t rfl .n) (fun wF hw => ?_)
    have hw := hw.thin (.d .r)
    exact ⟨u2, rfl, (hw.turned hu2.1 .z .z).1, (hw.turned hu2.1 .z .z).2.1, (hw.turned hu2.1 .z .z).2.2, hu2.1, by rw [hu2.2, hu1.2, endsB, if_neg (ne_true_of_eq_false h0)]; simp⟩

theorem sum29 (l : List Nat) (a : Option Addr) (c : Nat) (hn : l.length < 1000000) (w : World) (hI : Elts w a 1 (l.map bC)) : Calls Tryz.prog 29 #[.slice a l.length c] w fun e w' => e = .returned (.int .u32 (crcV l)) ∧ Gr w w' := by
  refine enter Tryz.func29 rfl rfl rfl rfl (Cls.start w) ?_
  refine c_seq ?_
  refine c_text ?_
  refine l_y (Cls.gs _ _) (y_assign rfl) rfl ?_
  refine l_nil ?_
  refine e_then ?_
  refine CJ.weak (.c (t := 0) rfl .n) (fun _ h => h) ?_
  refine c_seq ?_
  refine c_text ?_
  refine l_y (Cls.gs _ _) (y_assign rfl) rfl ?_
  refine l_nil ?_
  refine e_then ?_
  refine c_seq ?_
  refine c_seq ?_
  refine c_text ?_
  refine l_y (Cls.gs _ _) (y_move rfl) rfl ?_
  refine l_y (Cls.gs _ _) (y_lenS Tryz.underlying41 rfl rfl) rfl ?_
  refine l_y (Cls.gs _ _) (y_move rfl) rfl ?_
  refine l_nil ?_
  refine e_then ?_
  refine CJ.weak (.c (t := 3) rfl (.c (t := 6) rfl (.c (t := 7) rfl (.c (t := 8) rfl .n)))) (fun _ h => h) ?_
  refine c_block ?_
  refine CJ.weak (.c (t := 3) rfl (.c (t := 8) rfl (.c (t := 6) rfl (.c (t := 7) rfl .n)))) (fun _ h => h) ?_
  refine c_loopC (fun x : Int × Nat => x.2 ≤ l.length ∧ crcF x.1 (l.drop x.2) = crcF 4294967295 l) (fun x => [(3, .int .u32 x.1), (8, .int .i64 (x.2 : Int))]) (fun x => l.length - x.2) ((4294967295, 0)) (⟨Nat.zero_le _, rfl⟩) ?_
  rintro ⟨c0, k⟩ hk
  dsimp only at hk
  refine c_seq ?_
  refine c_text ?_
  refine l_y (Cls.gs _ _) (y_lss rfl rfl) rfl ?_
  refine l_nil ?_
  refine e_then ?_
  refine c_seq ?_
  refine c_cond rfl (fun h0 => ?_) (fun h0 => ?_)
  · have hlt : k < l.length := by have := of_decide_eq_true h0; dsimp only at this; omega
    obtain ⟨x, hx⟩ : ∃ x, l[k]? = some x := ⟨_, List.getElem?_eq_getElem hlt⟩
    obtain ⟨bb, o, ha, he⟩ := hI k (bC x) (by simp [hx])
    have he := he 0 _ rfl
    refine c_skip ?_
    refine e_then ?_
    refine CJ.weak (.c (t := 3) rfl (.c (t := 6) rfl (.c (t := 7) rfl (.c (t := 8) rfl .n)))) (fun _ h => h) ?_
    refine c_seq ?_
    refine c_block ?_
    refine c_seq ?_
    refine c_text ?_
    refine l_y (Cls.gs _ _) (y_indexAddrF Tryz.underlying41 ty5 rfl rfl ha (by dsimp only; omega) (by dsimp only; omega)) rfl ?_
    refine l_y (Cls.gs _ _) (y_load rfl (LoadAt.oneF .z ty5 he)) rfl ?_
    refine l_y (Cls.gs _ _) (y_assign rfl) rfl ?_
    refine l_nil ?_
    refine e_then ?_
    refine CJ.weak (.c (t := 3) rfl (.c (t := 5) rfl (.c (t := 6) rfl (.c (t := 7) rfl (.c (t := 8) rfl .n))))) (fun _ h => h) ?_
    refine c_seq ?_
    refine c_text ?_
    refine l_y (Cls.gs _ _) (y_move rfl) rfl ?_
    refine l_y (Cls.gs _ _) (y_move rfl) rfl ?_
    refine l_y (Cls.gs _ _) (y_conv Tryz.underlying5 Tryz.underlying83 rfl) rfl ?_
    refine l_y (Cls.gs _ _) (y_bxor rfl rfl) rfl ?_
    refine l_y (Cls.gs _ _) (y_assign rfl) rfl ?_
    refine l_nil ?_
    refine e_then ?_
    refine CJ.weak (.c (t := 3) rfl (.c (t := 6) rfl (.c (t := 7) rfl (.c (t := 8) rfl .n)))) (fun _ h => h) ?_
    refine c_seq ?_
    refine c_text ?_
    refine l_y (Cls.gs _ _) (y_move rfl) rfl ?_
    refine l_nil ?_
    refine e_then ?_
    refine c_block ?_
    refine CJ.weak (.c (t := 3) rfl (.c (t := 16) rfl (.c (t := 6) rfl (.c (t := 7) rfl (.c (t := 8) rfl .n))))) (fun _ h => h) ?_
    refine c_loopC (fun y : Int × Nat => y.2 ≤ 8 ∧ stepK (8 - y.2) y.1 = stepK 8 (bxor32 c0 (IntKind.u32.wrap (x : Int)))) (fun y => [(3, .int .u32 y.1), (16, .int .i64 (y.2 : Int))]) (fun y => 8 - y.2) ((_, 0)) (⟨by omega, rfl⟩) ?_
    rintro ⟨c1, j⟩ hj
    dsimp only at hj
    refine c_seq ?_
    refine c_text ?_
    refine l_y (Cls.gs _ _) (y_lss rfl rfl) rfl ?_
    refine l_nil ?_
    refine e_then ?_
    refine c_seq ?_
    refine c_cond rfl (fun h1 => ?_) (fun h1 => ?_)
    · have hj8 : j < 8 := by have := of_decide_eq_true h1; dsimp only at this; omega
      refine c_skip ?_
      refine e_then ?_
      refine CJ.weak (.c (t := 3) rfl (.c (t := 6) rfl (.c (t := 7) rfl (.c (t := 8) rfl (.c (t := 16) rfl .n))))) (fun _ h => h) ?_
      refine c_seq ?_
      refine c_block ?_
      refine c_seq ?_
      refine c_text ?_
      refine l_y (Cls.gs _ _) (y_move rfl) rfl ?_
      refine l_y (Cls.gs _ _) (y_band rfl rfl) rfl ?_
      refine l_y (Cls.gs _ _) (y_eql rfl rfl) rfl ?_
      refine l_nil ?_
      refine e_then ?_
      refine CJ.weak (.c (t := 3) rfl (.c (t := 6) rfl (.c (t := 7) rfl (.c (t := 8) rfl (.c (t := 16) rfl (.c (t := 20) rfl .n)))))) (fun _ h => h) ?_
      refine c_cond rfl (fun h2 => ?_) (fun h2 => ?_)
      ·
        refine c_text ?_
        refine l_y (Cls.gs _ _) (y_move rfl) rfl ?_
        refine l_y (Cls.gs _ _) (y_shr rfl rfl (by decide)) rfl ?_
        refine l_y (Cls.gs _ _) ((y_bxor rfl rfl).lit (show _ = Value.int .u32 (bitStep c1) by unfold bitStep; rw [if_pos (show decide (band32 c1 1 = 1) = true from h2)]; rfl)) rfl ?_
        refine l_y (Cls.gs _ _) (y_assign rfl) rfl ?_
        refine l_nil ?_
        refine e_block ?_
        refine e_then ?_
        refine CJ.weak (.c (t := 3) rfl (.c (t := 6) rfl (.c (t := 7) rfl (.c (t := 8) rfl (.c (t := 16) rfl .n))))) (fun _ h => h) ?_
        refine c_text ?_
        refine l_y (Cls.gs _ _) ((y_add rfl rfl).lit (succ64 (by dsimp only; omega))) rfl ?_
        refine l_y (Cls.gs _ _) (y_move rfl) rfl ?_
        refine l_nil ?_
        refine e_again ((bitStep c1, j + 1)) (⟨by dsimp only; omega, by dsimp only; rw [← hj.2, show 8 - j = (8 - (j + 1)) + 1 by omega]; rfl⟩) (by dsimp only; omega) (.c (t := 3) rfl (.c (t := 16) rfl (.c (t := 6) rfl (.c (t := 7) rfl (.c (t := 8) rfl .n))))) (fun _ h => h.thin .r)
      ·
        refine c_text ?_
        refine l_y (Cls.gs _ _) (y_move rfl) rfl ?_
        refine l_y (Cls.gs _ _) ((y_shr rfl rfl (by decide)).lit (show _ = Value.int .u32 (bitStep c1) by unfold bitStep; rw [if_neg (ne_true_of_eq_false (show decide (band32 c1 1 = 1) = false from h2))])) rfl ?_
        refine l_y (Cls.gs _ _) (y_assign rfl) rfl ?_
        refine l_nil ?_
        refine e_block ?_
        refine e_then ?_
        refine CJ.weak (.c (t := 3) rfl (.c (t := 6) rfl (.c (t := 7) rfl (.c (t := 8) rfl (.c (t := 16) rfl .n))))) (fun _ h => h) ?_
        refine c_text ?_
        refine l_y (Cls.gs _ _) ((y_add rfl rfl).lit (succ64 (by dsimp only; omega))) rfl ?_
        refine l_y (Cls.gs _ _) (y_move rfl) rfl ?_
        refine l_nil ?_
        refine e_again ((bitStep c1, j + 1)) (⟨by dsimp only; omega, by dsimp only; rw [← hj.2, show 8 - j = (8 - (j + 1)) + 1 by omega]; rfl⟩) (by dsimp only; omega) (.c (t := 3) rfl (.c (t := 16) rfl (.c (t := 6) rfl (.c (t := 7) rfl (.c (t := 8) rfl .n))))) (fun _ h => h.thin .r)
    ·
      refine c_exit ?_
      refine e_then_exit ?_
      refine e_then_exit ?_
      refine e_block_hit ?_
      refine e_block ?_
      refine e_then ?_
      refine CJ.weak (.c (t := 3) rfl (.c (t := 6) rfl (.c (t := 7) rfl (.c (t := 8) rfl .n)))) (fun _ h => h) ?_
      refine c_text ?_
      refine l_y (Cls.gs _ _) ((y_add rfl rfl).lit (succ64 (by dsimp only; omega))) rfl ?_
      refine l_y (Cls.gs _ _) (y_move rfl) rfl ?_
      refine l_nil ?_
      refine e_again ((c1, k + 1)) (⟨by dsimp only; omega, by dsimp only; rw [← hk.2, crcF_step hx, ← hj.2, show 8 - j = 0 by have := of_decide_eq_false h1; dsimp only at this; omega]; rfl⟩) (by dsimp only; omega) (.c (t := 3) rfl (.c (t := 8) rfl (.c (t := 6) rfl (.c (t := 7) rfl .n)))) (fun _ h => h.thin .r)
  ·
    refine c_exit ?_
    refine e_then_exit ?_
    refine e_then_exit ?_
    refine e_block_hit ?_
    refine e_then ?_
    refine CJ.weak (.c (t := 3) rfl .n) (fun _ h => h) ?_
    refine c_seq ?_
    refine c_text ?_
    refine l_y (Cls.gs _ _) (y_move rfl) rfl ?_
    refine l_y (Cls.gs _ _) (y_com rfl) rfl ?_
    refine l_y (Cls.gs _ _) (y_assign rfl) rfl ?_
    refine l_nil ?_
    refine e_then ?_
    refine CJ.weak (.c (t := 2) rfl .n) (fun _ h => h) ?_
    refine c_ret ?_
    refine e_ret rfl (.t rfl .n) (fun wF hw => ?_)
    exact ⟨by simp only [outOf]; unfold crcV; rw [← hk.2, crcF_end (by have := of_decide_eq_false h0; dsimp only at this ⊢; omega)], (hw.anc (w, []) (by simp)).below⟩

end Go.Proofs.YtpjacndlbjeehaaGreatDoor
