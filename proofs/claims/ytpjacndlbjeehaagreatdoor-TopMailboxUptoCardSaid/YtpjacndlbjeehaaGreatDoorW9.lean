/-
  A part of the proof of TopMailbox: walks of single functions, and plain facts.
-/
import Derived.Test.YtpjacndlbjeehaaGreatDoorPf
import Derived.Test.YtpjacndlbjeehaaGreatDoorM7
import Derived.Test.YtpjacndlbjeehaaGreatDoorW9a
import Derived.KernelRfl
set_option linter.unusedVariables false
set_option linter.unusedSimpArgs false
set_option maxRecDepth 100000
namespace Go.Proofs.YtpjacndlbjeehaaGreatDoor
open Go Go.Px Mb
theorem bdIs {b : Bd} (h : BdOK b) : Value.bool ((bdS b).toList == (bs [63]).toList) = Value.bool b.u := by
  congr 1
  cases hu : b.u with
  | true => rw [bdS, if_pos hu]; simp
  | false =>
    rw [bdS_some hu]
    rw [ByteArray.toList_eq, ByteArray.toList_eq, beq_eq_false_iff_ne]
    intro e
    have e2 := congrArg List.length e
    simp only [Array.length_toList, List.size_toArray, List.length_append, List.length_cons, List.length_nil] at e2
    omega
def head5 (a : Al) : List (List Value) := [sC (bs [97, 108, 101, 114, 116]), sC (numS a.id), sC (nameOf a.kind), sC (bs [97, 116]), sC (bdS a.at_)]
theorem kpred {k : Int} (h1 : 1 ≤ k) (h2 : k ≤ 6) : Value.int .i64 (IntKind.i64.wrap (k - 1)) = Value.int .i64 ((k.toNat - 1 : Nat) : Int) := by
  rw [i64w]; congr 1; split <;> omega
theorem whole44 (n : Int) (h0 : -9223372036854775808 ≤ n) (h1 : n ≤ 9223372036854775807) (w : World) (hE : Env0 w) : Calls Tryz.prog 44 #[.string (numS n)] w fun e w' => e = .returned (.tuple #[.int .i64 n, .bool true]) ∧ Gr w w' := by
  refine enter Tryz.func44 rfl rfl rfl rfl (Cls.start w) ?_
  refine c_seq ?_
  refine c_text ?_
  refine l_y (Cls.gs _ _) (y_assign rfl) rfl ?_
  refine l_y (Cls.gs _ _) (y_assign rfl) rfl ?_
  refine l_nil ?_
  refine e_then ?_
  refine CJ.weak (.c (t := 0) rfl .n) (fun _ h => h) ?_
  refine c_seq ?_
  refine c_text ?_
  refine l_y (Cls.gs _ _) (y_move rfl) rfl ?_
  refine l_y (Cls.gs _ _) (y_call ent71 (.c rfl (.c rfl (.c rfl .n))) (fun w' hw' => parse71 n h0 h1 w')) rfl ?_
  refine l_y (Cls.gs _ _) (y_move rfl) rfl ?_
  refine l_y (Cls.gs _ _) (y_extract rfl .z) rfl ?_
  refine l_y (Cls.gs _ _) (y_extract rfl (.s .z)) rfl ?_
  refine l_y (Cls.gs _ _) (y_assign rfl) rfl ?_
  refine l_y (Cls.gs _ _) (y_assign rfl) rfl ?_
  refine l_nil ?_
  refine e_then ?_
  refine CJ.weak (.c (t := 0) rfl (.c (t := 4) rfl (.c (t := 5) rfl .n))) (fun _ h => h) ?_
  refine c_seq ?_
  refine c_text ?_
  refine l_y (Cls.gs _ _) (y_move rfl) rfl ?_
  refine l_y (Cls.gs _ _) (y_move rfl) rfl ?_
  refine l_y (Cls.gs _ _) (y_bin (r := .bool true) rfl rfl (fun w => by rw [eqGuard_nil_constR]; rfl) fun w => by kernel_rfl) rfl ?_
  refine l_y (Cls.gs _ _) (y_move rfl) rfl ?_
  refine l_g (s := 14) (Cls.gs _ _) (by kernel_rfl) rfl (beq_t _) (fun hg => y_move rfl) rfl ?_
  refine l_g (s := 14) (Cls.gs _ _) (by kernel_rfl) rfl (beq_t _) (fun hg => y_call ent66 (.c (gvt hg rfl) (.c rfl .n)) (fun w' hw' => fmt66 n h0 h1 w' (hE.gr (hw'.gr .z)))) rfl ?_
  refine l_g (s := 14) (Cls.gs _ _) (by kernel_rfl) rfl (beq_t _) (fun hg => y_move rfl) rfl ?_
  refine l_g (s := 14) (Cls.gs _ _) (by kernel_rfl) rfl (beq_t _) (fun hg => (y_strEq (gvt hg rfl) (gvt hg rfl)).lit (show Value.bool _ = Value.bool true by simp)) rfl ?_
  refine l_y (Cls.gs _ _) ((y_and rfl rfl rfl).lit (by kernel_rfl : _ = Value.bool true)) rfl ?_
  refine l_y (Cls.gs _ _) (y_assign rfl) rfl ?_
  refine l_y (Cls.gs _ _) (y_assign rfl) rfl ?_
  refine l_nil ?_
  refine e_then ?_
  refine CJ.weak (.c (t := 2) rfl (.c (t := 3) rfl .n)) (fun _ h => h) ?_
  refine c_ret ?_
  refine e_ret rfl (.t rfl (.t rfl .n)) (fun wF hw => ?_)
  exact ⟨rfl, (hw.anc (w, []) (by simp)).below⟩

theorem names37  (w : World) : Calls Tryz.prog 37 #[] w fun e w' => ∃ x : Vec, e = .returned x.val ∧ Gr w w' ∧ VIn w x w' ∧ (VecOK 1 9 x ∧ x.es = names.map sC) := by
  refine enter Tryz.func37 rfl rfl rfl rfl (Cls.start w) ?_
  refine c_seq ?_
  refine c_text ?_
  refine l_y (Cls.gs _ _) (y_assign rfl) rfl ?_
  refine l_nil ?_
  refine e_then ?_
  refine CJ.weak .n (fun _ h => h) ?_
  refine c_seq ?_
  refine c_text ?_
  refine l_n rfl (n_buildSlice (l := [.string ByteArray.empty, .string ByteArray.empty, .string ByteArray.empty, .string ByteArray.empty, .string ByteArray.empty, .string ByteArray.empty]) Tryz.underlying95 ty9 (.o rfl) rfl (by simp) (by kernel_rfl) (.c rfl (.c rfl (.c rfl (.c rfl (.c rfl (.c rfl .n)))))) (.c rfl (.o rfl) rfl rfl (.t .d) (.c rfl (.o rfl) rfl rfl (.s (.t .d)) (.c rfl (.o rfl) rfl rfl (.s (.s (.t .d))) (.c rfl (.o rfl) rfl rfl (.s (.s (.s (.t .d)))) (.c rfl (.o rfl) rfl rfl (.s (.s (.s (.s (.t .d))))) (.c rfl (.o rfl) rfl rfl (.s (.s (.s (.s (.s (.t .d)))))) .d)))))) rfl) (fun b0 _ => ?_)
  refine l_y (Cls.gs _ _) (y_assign rfl) rfl ?_
  refine l_nil ?_
  refine e_then ?_
  refine CJ.weak (.c (t := 0) rfl .n) (fun _ h => h) ?_
  refine c_ret ?_
  refine e_ret rfl (.t rfl .n) (fun wF hw => ?_)
  have hv : VecOK 1 9 (ofBlk b0 6 (names.map sC) 9) := .row (m := 1) (e := 9) (b := b0) (cap := 6) (es := names.map sC) (rest := []) (by simp) (by simp) (by simp [maxLen]) (by simp)
  exact ⟨ofBlk b0 6 (names.map sC) 9, rfl, (hw.anc (w, []) (by simp)).below, Cls.vin hv hw .z .z, hv, rfl⟩

theorem text38 (b : Bd) (h : BdOK b) (w : World) (hE : Env0 w) : Calls Tryz.prog 38 #[.agg #[.int .i64 b.lo, .int .i64 b.hi, .bool b.u]] w fun e w' => e = .returned (.string (bdS b)) ∧ Gr w w' := by
  have k1 := h.lo
  have k2 := h.hi
  have k3 := h.le
  have s1 := itoa_len b.lo (by omega) (by omega)
  have s2 := itoa_len b.hi (by omega) (by omega)
  have s3 : (numS b.lo).size ≤ 20 := by unfold numS; rw [bs_size]; exact s1
  have s4 : (numS b.hi).size ≤ 20 := by unfold numS; rw [bs_size]; exact s2
  have s5 : (numS b.lo ++ bs [46, 46]).size ≤ 22 := by rw [ByteArray.size_append]; show _ + (2 : Nat) ≤ _; omega
  refine enter Tryz.func38 rfl rfl rfl rfl (Cls.start w) ?_
  refine c_seq ?_
  refine c_text ?_
  refine l_n rfl (n_box rfl .a rfl) (fun b0 _ => ?_)
  refine l_y (Cls.gs _ _) (y_assign rfl) rfl ?_
  refine l_nil ?_
  refine e_then ?_
  refine CJ.weak (.c (t := 1) rfl .n) (fun _ h => h) ?_
  refine c_seq ?_
  refine c_seq ?_
  refine c_text ?_
  refine l_y (Cls.gs _ _) (y_fieldAddr rfl fa28_2) rfl ?_
  refine l_y (Cls.gs _ _) (y_load rfl (LoadAt.oneL .z ty4 (.s (.s .z)))) rfl ?_
  refine l_nil ?_
  refine e_then ?_
  refine CJ.weak (.c (t := 1) rfl (.c (t := 4) rfl .n)) (fun _ h => h) ?_
  refine c_cond rfl (fun h0 => ?_) (fun h0 => ?_)
  ·
    refine c_seq ?_
    refine c_text ?_
    refine l_y (Cls.gs _ _) (y_assign rfl) rfl ?_
    refine l_nil ?_
    refine e_then ?_
    refine CJ.weak (.c (t := 2) rfl .n) (fun _ h => h) ?_
    refine c_ret ?_
    refine e_then_ret ?_
    refine e_ret rfl (.t rfl .n) (fun wF hw => ?_)
    exact ⟨by rw [bdS, if_pos h0]; rfl, (hw.anc (w, []) (by simp)).below⟩
  ·
    refine c_skip ?_
    refine e_then ?_
    refine CJ.weak (.c (t := 1) rfl .n) (fun _ h => h) ?_
    refine c_seq ?_
    refine c_draw (m := 9) (S0 := fun _ => True) (fun _ => false) (fun _ _ => trivial) hmix (Cls.gs _ _) rfl ?_
    refine a_y (i := 0) (Cls.gs _ _) (by kernel_rfl) rfl (by kernel_rfl) (by kernel_rfl) (y_fieldAddr rfl fa28_0) rfl ?_
    refine a_y (i := 1) (Cls.gs _ _) (by kernel_rfl) rfl (by kernel_rfl) (by kernel_rfl) (y_load rfl (LoadAt.oneL .z ty26 .z)) rfl ?_
    refine a_y (i := 2) (Cls.gs _ _) (by kernel_rfl) rfl (by kernel_rfl) (by kernel_rfl) (y_call ent66 (.c rfl (.c rfl .n)) (fun w' hw' => fmt66 b.lo (by omega) (by omega) w' (hE.gr (hw'.gr .z)))) rfl ?_
    refine a_y (i := 3) (Cls.gs _ _) (by kernel_rfl) rfl (by kernel_rfl) (by kernel_rfl) (y_strAdd rfl rfl (by show _ + (2 : Nat) ≤ _; omega)) rfl ?_
    refine a_y (i := 4) (Cls.gs _ _) (by kernel_rfl) rfl (by kernel_rfl) (by kernel_rfl) (y_fieldAddr rfl fa28_1) rfl ?_
    refine a_y (i := 5) (Cls.gs _ _) (by kernel_rfl) rfl (by kernel_rfl) (by kernel_rfl) (y_load rfl (LoadAt.oneL .z ty26 (.s .z))) rfl ?_
    refine a_y (i := 6) (Cls.gs _ _) (by kernel_rfl) rfl (by kernel_rfl) (by kernel_rfl) (y_call ent66 (.c rfl (.c rfl .n)) (fun w' hw' => fmt66 b.hi (by omega) (by omega) w' (hE.gr (hw'.gr .z)))) rfl ?_
    refine a_y (i := 7) (Cls.gs _ _) (by kernel_rfl) rfl (by kernel_rfl) (by kernel_rfl) (y_strAdd rfl rfl (by show (numS b.lo ++ bs [46, 46]).size + _ ≤ _; omega)) rfl ?_
    refine a_y (i := 8) (Cls.gs _ _) (by kernel_rfl) rfl (by kernel_rfl) (by kernel_rfl) (y_assign rfl) rfl ?_
    refine a_done (by kernel_rfl) ?_
    refine e_then ?_
    refine CJ.weak (.c (t := 2) rfl .n) (fun _ h => h) ?_
    refine c_ret ?_
    refine e_ret rfl (.t rfl .n) (fun wF hw => ?_)
    exact ⟨by rw [bdS, if_neg (ne_true_of_eq_false h0)]; rfl, (hw.anc (w, []) (by simp)).below⟩

theorem text39 (b : Bd) (h : BdOK b) (w : World) (hE : Env0 w) : Calls Tryz.prog 39 #[.agg #[.int .i64 b.lo, .int .i64 b.hi, .bool b.u]] w fun e w' => e = .returned (.string (bdS b)) ∧ Gr w w' := by
  have k1 := h.lo
  have k2 := h.hi
  have k3 := h.le
  have s1 := itoa_len b.lo (by omega) (by omega)
  have s2 := itoa_len b.hi (by omega) (by omega)
  have s3 : (numS b.lo).size ≤ 20 := by unfold numS; rw [bs_size]; exact s1
  have s4 : (numS b.hi).size ≤ 20 := by unfold numS; rw [bs_size]; exact s2
  have s5 : (numS b.lo ++ bs [46, 46]).size ≤ 22 := by rw [ByteArray.size_append]; show _ + (2 : Nat) ≤ _; omega
  refine enter Tryz.func39 rfl rfl rfl rfl (Cls.start w) ?_
  refine c_seq ?_
  refine c_text ?_
  refine l_n rfl (n_box rfl .a rfl) (fun b0 _ => ?_)
  refine l_y (Cls.gs _ _) (y_assign rfl) rfl ?_
  refine l_nil ?_
  refine e_then ?_
  refine CJ.weak (.c (t := 1) rfl .n) (fun _ h => h) ?_
  refine c_seq ?_
  refine c_seq ?_
  refine c_text ?_
  refine l_y (Cls.gs _ _) (y_fieldAddr rfl fa31_2) rfl ?_
  refine l_y (Cls.gs _ _) (y_load rfl (LoadAt.oneL .z ty4 (.s (.s .z)))) rfl ?_
  refine l_nil ?_
  refine e_then ?_
  refine CJ.weak (.c (t := 1) rfl (.c (t := 4) rfl .n)) (fun _ h => h) ?_
  refine c_cond rfl (fun h0 => ?_) (fun h0 => ?_)
  ·
    refine c_seq ?_
    refine c_text ?_
    refine l_y (Cls.gs _ _) (y_assign rfl) rfl ?_
    refine l_nil ?_
    refine e_then ?_
    refine CJ.weak (.c (t := 2) rfl .n) (fun _ h => h) ?_
    refine c_ret ?_
    refine e_then_ret ?_
    refine e_ret rfl (.t rfl .n) (fun wF hw => ?_)
    exact ⟨by rw [bdS, if_pos h0]; rfl, (hw.anc (w, []) (by simp)).below⟩
  ·
    refine c_skip ?_
    refine e_then ?_
    refine CJ.weak (.c (t := 1) rfl .n) (fun _ h => h) ?_
    refine c_seq ?_
    refine c_draw (m := 9) (S0 := fun _ => True) (fun _ => false) (fun _ _ => trivial) hmix (Cls.gs _ _) rfl ?_
    refine a_y (i := 0) (Cls.gs _ _) (by kernel_rfl) rfl (by kernel_rfl) (by kernel_rfl) (y_fieldAddr rfl fa31_0) rfl ?_
    refine a_y (i := 1) (Cls.gs _ _) (by kernel_rfl) rfl (by kernel_rfl) (by kernel_rfl) (y_load rfl (LoadAt.oneL .z ty29 .z)) rfl ?_
    refine a_y (i := 2) (Cls.gs _ _) (by kernel_rfl) rfl (by kernel_rfl) (by kernel_rfl) (y_call ent66 (.c rfl (.c rfl .n)) (fun w' hw' => fmt66 b.lo (by omega) (by omega) w' (hE.gr (hw'.gr .z)))) rfl ?_
    refine a_y (i := 3) (Cls.gs _ _) (by kernel_rfl) rfl (by kernel_rfl) (by kernel_rfl) (y_strAdd rfl rfl (by show _ + (2 : Nat) ≤ _; omega)) rfl ?_
    refine a_y (i := 4) (Cls.gs _ _) (by kernel_rfl) rfl (by kernel_rfl) (by kernel_rfl) (y_fieldAddr rfl fa31_1) rfl ?_
    refine a_y (i := 5) (Cls.gs _ _) (by kernel_rfl) rfl (by kernel_rfl) (by kernel_rfl) (y_load rfl (LoadAt.oneL .z ty29 (.s .z))) rfl ?_
    refine a_y (i := 6) (Cls.gs _ _) (by kernel_rfl) rfl (by kernel_rfl) (by kernel_rfl) (y_call ent66 (.c rfl (.c rfl .n)) (fun w' hw' => fmt66 b.hi (by omega) (by omega) w' (hE.gr (hw'.gr .z)))) rfl ?_
    refine a_y (i := 7) (Cls.gs _ _) (by kernel_rfl) rfl (by kernel_rfl) (by kernel_rfl) (y_strAdd rfl rfl (by show (numS b.lo ++ bs [46, 46]).size + _ ≤ _; omega)) rfl ?_
    refine a_y (i := 8) (Cls.gs _ _) (by kernel_rfl) rfl (by kernel_rfl) (by kernel_rfl) (y_assign rfl) rfl ?_
    refine a_done (by kernel_rfl) ?_
    refine e_then ?_
    refine CJ.weak (.c (t := 2) rfl .n) (fun _ h => h) ?_
    refine c_ret ?_
    refine e_ret rfl (.t rfl .n) (fun wF hw => ?_)
    exact ⟨by rw [bdS, if_neg (ne_true_of_eq_false h0)]; rfl, (hw.anc (w, []) (by simp)).below⟩

theorem text40 (b : Bd) (h : BdOK b) (w : World) (hE : Env0 w) : Calls Tryz.prog 40 #[.agg #[.int .i64 b.lo, .int .i64 b.hi, .bool b.u]] w fun e w' => e = .returned (.string (bdS b)) ∧ Gr w w' := by
  have k1 := h.lo
  have k2 := h.hi
  have k3 := h.le
  have s1 := itoa_len b.lo (by omega) (by omega)
  have s2 := itoa_len b.hi (by omega) (by omega)
  have s3 : (numS b.lo).size ≤ 20 := by unfold numS; rw [bs_size]; exact s1
  have s4 : (numS b.hi).size ≤ 20 := by unfold numS; rw [bs_size]; exact s2
  have s5 : (numS b.lo ++ bs [46, 46]).size ≤ 22 := by rw [ByteArray.size_append]; show _ + (2 : Nat) ≤ _; omega
  refine enter Tryz.func40 rfl rfl rfl rfl (Cls.start w) ?_
  refine c_seq ?_
  refine c_text ?_
  refine l_n rfl (n_box rfl .a rfl) (fun b0 _ => ?_)
  refine l_y (Cls.gs _ _) (y_assign rfl) rfl ?_
  refine l_nil ?_
  refine e_then ?_
  refine CJ.weak (.c (t := 1) rfl .n) (fun _ h => h) ?_
  refine c_seq ?_
  refine c_seq ?_
  refine c_text ?_
  refine l_y (Cls.gs _ _) (y_fieldAddr rfl fa34_2) rfl ?_
  refine l_y (Cls.gs _ _) (y_load rfl (LoadAt.oneL .z ty4 (.s (.s .z)))) rfl ?_
  refine l_nil ?_
  refine e_then ?_
  refine CJ.weak (.c (t := 1) rfl (.c (t := 4) rfl .n)) (fun _ h => h) ?_
  refine c_cond rfl (fun h0 => ?_) (fun h0 => ?_)
  ·
    refine c_seq ?_
    refine c_text ?_
    refine l_y (Cls.gs _ _) (y_assign rfl) rfl ?_
    refine l_nil ?_
    refine e_then ?_
    refine CJ.weak (.c (t := 2) rfl .n) (fun _ h => h) ?_
    refine c_ret ?_
    refine e_then_ret ?_
    refine e_ret rfl (.t rfl .n) (fun wF hw => ?_)
    exact ⟨by rw [bdS, if_pos h0]; rfl, (hw.anc (w, []) (by simp)).below⟩
  ·
    refine c_skip ?_
    refine e_then ?_
    refine CJ.weak (.c (t := 1) rfl .n) (fun _ h => h) ?_
    refine c_seq ?_
    refine c_draw (m := 9) (S0 := fun _ => True) (fun _ => false) (fun _ _ => trivial) hmix (Cls.gs _ _) rfl ?_
    refine a_y (i := 0) (Cls.gs _ _) (by kernel_rfl) rfl (by kernel_rfl) (by kernel_rfl) (y_fieldAddr rfl fa34_0) rfl ?_
    refine a_y (i := 1) (Cls.gs _ _) (by kernel_rfl) rfl (by kernel_rfl) (by kernel_rfl) (y_load rfl (LoadAt.oneL .z ty32 .z)) rfl ?_
    refine a_y (i := 2) (Cls.gs _ _) (by kernel_rfl) rfl (by kernel_rfl) (by kernel_rfl) (y_call ent66 (.c rfl (.c rfl .n)) (fun w' hw' => fmt66 b.lo (by omega) (by omega) w' (hE.gr (hw'.gr .z)))) rfl ?_
    refine a_y (i := 3) (Cls.gs _ _) (by kernel_rfl) rfl (by kernel_rfl) (by kernel_rfl) (y_strAdd rfl rfl (by show _ + (2 : Nat) ≤ _; omega)) rfl ?_
    refine a_y (i := 4) (Cls.gs _ _) (by kernel_rfl) rfl (by kernel_rfl) (by kernel_rfl) (y_fieldAddr rfl fa34_1) rfl ?_
    refine a_y (i := 5) (Cls.gs _ _) (by kernel_rfl) rfl (by kernel_rfl) (by kernel_rfl) (y_load rfl (LoadAt.oneL .z ty32 (.s .z))) rfl ?_
    refine a_y (i := 6) (Cls.gs _ _) (by kernel_rfl) rfl (by kernel_rfl) (by kernel_rfl) (y_call ent66 (.c rfl (.c rfl .n)) (fun w' hw' => fmt66 b.hi (by omega) (by omega) w' (hE.gr (hw'.gr .z)))) rfl ?_
    refine a_y (i := 7) (Cls.gs _ _) (by kernel_rfl) rfl (by kernel_rfl) (by kernel_rfl) (y_strAdd rfl rfl (by show (numS b.lo ++ bs [46, 46]).size + _ ≤ _; omega)) rfl ?_
    refine a_y (i := 8) (Cls.gs _ _) (by kernel_rfl) rfl (by kernel_rfl) (by kernel_rfl) (y_assign rfl) rfl ?_
    refine a_done (by kernel_rfl) ?_
    refine e_then ?_
    refine CJ.weak (.c (t := 2) rfl .n) (fun _ h => h) ?_
    refine c_ret ?_
    refine e_ret rfl (.t rfl .n) (fun wF hw => ?_)
    exact ⟨by rw [bdS, if_neg (ne_true_of_eq_false h0)]; rfl, (hw.anc (w, []) (by simp)).below⟩

theorem read45 (b : Bd) (h : BdOK b) (w : World) (hE : Env0 w) : Calls Tryz.prog 45 #[.string (bdS b)] w fun e w' => e = .returned (.tuple #[.agg #[.int .i64 b.lo, .int .i64 b.hi, .bool b.u], .bool true]) ∧ Gr w w' := by
  have k1 := h.lo
  have k2 := h.hi
  have k3 := h.le
  have s1 := itoa_len b.lo (by omega) (by omega)
  have s2 := itoa_len b.hi (by omega) (by omega)
  refine enter Tryz.func45 rfl rfl rfl rfl (Cls.start w) ?_
  refine c_seq ?_
  refine c_text ?_
  refine l_n rfl (n_alloc ty28 .a rfl) (fun b0 _ => ?_)
  refine l_y (Cls.gs _ _) (y_assign rfl) rfl ?_
  refine l_nil ?_
  refine e_then ?_
  refine CJ.weak (.c (t := 0) rfl (.c (t := 2) rfl .n)) (fun _ h => h) ?_
  refine c_seq ?_
  refine c_seq ?_
  refine c_text ?_
  refine l_y (Cls.gs _ _) (y_move rfl) rfl ?_
  refine l_y (Cls.gs _ _) ((y_strEq rfl rfl).lit (bdIs h)) rfl ?_
  refine l_nil ?_
  refine e_then ?_
  refine CJ.weak (.c (t := 0) rfl (.c (t := 2) rfl (.c (t := 12) rfl .n))) (fun _ h => h) ?_
  refine c_cond rfl (fun h0 => ?_) (fun h0 => ?_)
  · obtain ⟨e1, e2⟩ := h.u h0
    refine c_seq ?_
    refine c_text ?_
    refine l_y (Cls.gs _ _) (y_call ent62 .n (fun w _ => none62 w)) rfl ?_
    refine l_n rfl (n_store rfl rfl ty28 .a rfl rfl .z (.t (.t (.t .d)))) (fun _ _ => ?_)
    refine l_y (Cls.gs _ _) (y_assign rfl) rfl ?_
    refine l_nil ?_
    refine e_then ?_
    refine CJ.weak (.c (t := 2) rfl (.c (t := 3) rfl .n)) (fun _ h => h) ?_
    refine c_ret ?_
    refine e_then_ret ?_
    refine e_ret rfl (.c rfl (LoadAt.aggL .z ty28 (.t (.t (.t .d)))) (.t rfl .n)) (fun wF hw => ?_)
    exact ⟨by obtain ⟨lo, hi, u⟩ := b; dsimp only at e1 e2 h0; subst e1 e2 h0; rfl, (hw.anc (w, []) (by simp)).below⟩
  · rw [bdS_some h0]
    refine c_skip ?_
    refine e_then ?_
    refine CJ.weak (.c (t := 0) rfl (.c (t := 2) rfl .n)) (fun _ h => h) ?_
    refine c_seq ?_
    refine c_text ?_
    refine l_y (Cls.gs _ _) (y_move rfl) rfl ?_
    refine l_y (Cls.gs _ _) (y_call ent72 (.c rfl (.c rfl .n)) (fun w' hw' => cut72 (itoa_not (by decide) (by decide)) (by simp only [List.length_append, List.length_cons, List.length_nil]; omega) w' (hE.gr (hw'.gr .z)))) rfl ?_
    refine l_y (Cls.gs _ _) (y_move rfl) rfl ?_
    refine l_y (Cls.gs _ _) (y_extract rfl .z) rfl ?_
    refine l_y (Cls.gs _ _) (y_extract rfl (.s .z)) rfl ?_
    refine l_y (Cls.gs _ _) (y_extract rfl (.s (.s .z))) rfl ?_
    refine l_y (Cls.gs _ _) (y_assign rfl) rfl ?_
    refine l_y (Cls.gs _ _) (y_assign rfl) rfl ?_
    refine l_y (Cls.gs _ _) (y_assign rfl) rfl ?_
    refine l_nil ?_
    refine e_then ?_
    refine CJ.weak (.c (t := 2) rfl (.c (t := 4) rfl (.c (t := 5) rfl (.c (t := 6) rfl .n)))) (fun _ h => h) ?_
    refine c_seq ?_
    refine c_text ?_
    refine l_y (Cls.gs _ _) (y_move rfl) rfl ?_
    refine l_y (Cls.gs _ _) (y_call ent44 (.c rfl .n) (fun w' hw' => whole44 b.lo (by omega) (by omega) w' (hE.gr (hw'.gr .z)))) rfl ?_
    refine l_y (Cls.gs _ _) (y_move rfl) rfl ?_
    refine l_y (Cls.gs _ _) (y_extract rfl .z) rfl ?_
    refine l_y (Cls.gs _ _) (y_extract rfl (.s .z)) rfl ?_
    refine l_y (Cls.gs _ _) (y_assign rfl) rfl ?_
    refine l_y (Cls.gs _ _) (y_assign rfl) rfl ?_
    refine l_nil ?_
    refine e_then ?_
    refine CJ.weak (.c (t := 2) rfl (.c (t := 5) rfl (.c (t := 6) rfl (.c (t := 7) rfl (.c (t := 8) rfl .n))))) (fun _ h => h) ?_
    refine c_seq ?_
    refine c_text ?_
    refine l_y (Cls.gs _ _) (y_move rfl) rfl ?_
    refine l_y (Cls.gs _ _) (y_call ent44 (.c rfl .n) (fun w' hw' => whole44 b.hi (by omega) (by omega) w' (hE.gr (hw'.gr .z)))) rfl ?_
    refine l_y (Cls.gs _ _) (y_move rfl) rfl ?_
    refine l_y (Cls.gs _ _) (y_extract rfl .z) rfl ?_
    refine l_y (Cls.gs _ _) (y_extract rfl (.s .z)) rfl ?_
    refine l_y (Cls.gs _ _) (y_assign rfl) rfl ?_
    refine l_y (Cls.gs _ _) (y_assign rfl) rfl ?_
    refine l_nil ?_
    refine e_then ?_
    refine CJ.weak (.c (t := 2) rfl (.c (t := 6) rfl (.c (t := 7) rfl (.c (t := 8) rfl (.c (t := 9) rfl (.c (t := 10) rfl .n)))))) (fun _ h => h) ?_
    refine c_seq ?_
    refine c_text ?_
    refine l_y (Cls.gs _ _) (y_move rfl) rfl ?_
    refine l_y (Cls.gs _ _) (y_move rfl) rfl ?_
    refine l_y (Cls.gs _ _) (y_build pl28 ty28 .a (.c rfl (.c rfl .n)) (.c rfl (.o rfl) rfl rfl (.t .d) (.c rfl (.o rfl) rfl rfl (.s (.t .d)) .d))) rfl ?_
    refine l_y (Cls.gs _ _) (y_move rfl) rfl ?_
    refine l_y (Cls.gs _ _) (y_move rfl) rfl ?_
    refine l_g (s := 34) (Cls.gs _ _) (by kernel_rfl) rfl (beq_t _) (fun hg => y_move rfl) rfl ?_
    refine l_y (Cls.gs _ _) ((y_and rfl rfl rfl).lit (by kernel_rfl : _ = Value.bool true)) rfl ?_
    refine l_y (Cls.gs _ _) (y_move rfl) rfl ?_
    refine l_g (s := 37) (Cls.gs _ _) (by kernel_rfl) rfl (beq_t _) (fun hg => y_move rfl) rfl ?_
    refine l_y (Cls.gs _ _) ((y_and rfl rfl rfl).lit (by kernel_rfl : _ = Value.bool true)) rfl ?_
    refine l_n rfl (n_store rfl rfl ty28 .a rfl rfl .z (.t (.t (.t .d)))) (fun _ _ => ?_)
    refine l_y (Cls.gs _ _) (y_assign rfl) rfl ?_
    refine l_nil ?_
    refine e_then ?_
    refine CJ.weak (.c (t := 2) rfl (.c (t := 3) rfl .n)) (fun _ h => h) ?_
    refine c_ret ?_
    refine e_ret rfl (.c rfl (LoadAt.aggL .z ty28 (.t (.t (.t .d)))) (.t rfl .n)) (fun wF hw => ?_)
    exact ⟨by rw [show b.u = false from h0]; rfl, (hw.anc (w, []) (by simp)).below⟩

theorem read46 (b : Bd) (h : BdOK b) (w : World) (hE : Env0 w) : Calls Tryz.prog 46 #[.string (bdS b)] w fun e w' => e = .returned (.tuple #[.agg #[.int .i64 b.lo, .int .i64 b.hi, .bool b.u], .bool true]) ∧ Gr w w' := by
  have k1 := h.lo
  have k2 := h.hi
  have k3 := h.le
  have s1 := itoa_len b.lo (by omega) (by omega)
  have s2 := itoa_len b.hi (by omega) (by omega)
  refine enter Tryz.func46 rfl rfl rfl rfl (Cls.start w) ?_
  refine c_seq ?_
  refine c_text ?_
  refine l_n rfl (n_alloc ty31 .a rfl) (fun b0 _ => ?_)
  refine l_y (Cls.gs _ _) (y_assign rfl) rfl ?_
  refine l_nil ?_
  refine e_then ?_
  refine CJ.weak (.c (t := 0) rfl (.c (t := 2) rfl .n)) (fun _ h => h) ?_
  refine c_seq ?_
  refine c_seq ?_
  refine c_text ?_
  refine l_y (Cls.gs _ _) (y_move rfl) rfl ?_
  refine l_y (Cls.gs _ _) ((y_strEq rfl rfl).lit (bdIs h)) rfl ?_
  refine l_nil ?_
  refine e_then ?_
  refine CJ.weak (.c (t := 0) rfl (.c (t := 2) rfl (.c (t := 12) rfl .n))) (fun _ h => h) ?_
  refine c_cond rfl (fun h0 => ?_) (fun h0 => ?_)
  · obtain ⟨e1, e2⟩ := h.u h0
    refine c_seq ?_
    refine c_text ?_
    refine l_y (Cls.gs _ _) (y_call ent63 .n (fun w _ => none63 w)) rfl ?_
    refine l_n rfl (n_store rfl rfl ty31 .a rfl rfl .z (.t (.t (.t .d)))) (fun _ _ => ?_)
    refine l_y (Cls.gs _ _) (y_assign rfl) rfl ?_
    refine l_nil ?_
    refine e_then ?_
    refine CJ.weak (.c (t := 2) rfl (.c (t := 3) rfl .n)) (fun _ h => h) ?_
    refine c_ret ?_
    refine e_then_ret ?_
    refine e_ret rfl (.c rfl (LoadAt.aggL .z ty31 (.t (.t (.t .d)))) (.t rfl .n)) (fun wF hw => ?_)
    exact ⟨by obtain ⟨lo, hi, u⟩ := b; dsimp only at e1 e2 h0; subst e1 e2 h0; rfl, (hw.anc (w, []) (by simp)).below⟩
  · rw [bdS_some h0]
    refine c_skip ?_
    refine e_then ?_
    refine CJ.weak (.c (t := 0) rfl (.c (t := 2) rfl .n)) (fun _ h => h) ?_
    refine c_seq ?_
    refine c_text ?_
    refine l_y (Cls.gs _ _) (y_move rfl) rfl ?_
    refine l_y (Cls.gs _ _) (y_call ent72 (.c rfl (.c rfl .n)) (fun w' hw' => cut72 (itoa_not (by decide) (by decide)) (by simp only [List.length_append, List.length_cons, List.length_nil]; omega) w' (hE.gr (hw'.gr .z)))) rfl ?_
    refine l_y (Cls.gs _ _) (y_move rfl) rfl ?_
    refine l_y (Cls.gs _ _) (y_extract rfl .z) rfl ?_
    refine l_y (Cls.gs _ _) (y_extract rfl (.s .z)) rfl ?_
    refine l_y (Cls.gs _ _) (y_extract rfl (.s (.s .z))) rfl ?_
    refine l_y (Cls.gs _ _) (y_assign rfl) rfl ?_
    refine l_y (Cls.gs _ _) (y_assign rfl) rfl ?_
    refine l_y (Cls.gs _ _) (y_assign rfl) rfl ?_
    refine l_nil ?_
    refine e_then ?_
    refine CJ.weak (.c (t := 2) rfl (.c (t := 4) rfl (.c (t := 5) rfl (.c (t := 6) rfl .n)))) (fun _ h => h) ?_
    refine c_seq ?_
    refine c_text ?_
    refine l_y (Cls.gs _ _) (y_move rfl) rfl ?_
    refine l_y (Cls.gs _ _) (y_call ent44 (.c rfl .n) (fun w' hw' => whole44 b.lo (by omega) (by omega) w' (hE.gr (hw'.gr .z)))) rfl ?_
    refine l_y (Cls.gs _ _) (y_move rfl) rfl ?_
    refine l_y (Cls.gs _ _) (y_extract rfl .z) rfl ?_
    refine l_y (Cls.gs _ _) (y_extract rfl (.s .z)) rfl ?_
    refine l_y (Cls.gs _ _) (y_assign rfl) rfl ?_
    refine l_y (Cls.gs _ _) (y_assign rfl) rfl ?_
    refine l_nil ?_
    refine e_then ?_
    refine CJ.weak (.c (t := 2) rfl (.c (t := 5) rfl (.c (t := 6) rfl (.c (t := 7) rfl (.c (t := 8) rfl .n))))) (fun _ h => h) ?_
    refine c_seq ?_
    refine c_text ?_
    refine l_y (Cls.gs _ _) (y_move rfl) rfl ?_
    refine l_y (Cls.gs _ _) (y_call ent44 (.c rfl .n) (fun w' hw' => whole44 b.hi (by omega) (by omega) w' (hE.gr (hw'.gr .z)))) rfl ?_
    refine l_y (Cls.gs _ _) (y_move rfl) rfl ?_
    refine l_y (Cls.gs _ _) (y_extract rfl .z) rfl ?_
    refine l_y (Cls.gs _ _) (y_extract rfl (.s .z)) rfl ?_
    refine l_y (Cls.gs _ _) (y_assign rfl) rfl ?_
    refine l_y (Cls.gs _ _) (y_assign rfl) rfl ?_
    refine l_nil ?_
    refine e_then ?_
    refine CJ.weak (.c (t := 2) rfl (.c (t := 6) rfl (.c (t := 7) rfl (.c (t := 8) rfl (.c (t := 9) rfl (.c (t := 10) rfl .n)))))) (fun _ h => h) ?_
    refine c_seq ?_
    refine c_text ?_
    refine l_y (Cls.gs _ _) (y_move rfl) rfl ?_
    refine l_y (Cls.gs _ _) (y_move rfl) rfl ?_
    refine l_y (Cls.gs _ _) (y_build pl31 ty31 .a (.c rfl (.c rfl .n)) (.c rfl (.o rfl) rfl rfl (.t .d) (.c rfl (.o rfl) rfl rfl (.s (.t .d)) .d))) rfl ?_
    refine l_y (Cls.gs _ _) (y_move rfl) rfl ?_
    refine l_y (Cls.gs _ _) (y_move rfl) rfl ?_
    refine l_g (s := 34) (Cls.gs _ _) (by kernel_rfl) rfl (beq_t _) (fun hg => y_move rfl) rfl ?_
    refine l_y (Cls.gs _ _) ((y_and rfl rfl rfl).lit (by kernel_rfl : _ = Value.bool true)) rfl ?_
    refine l_y (Cls.gs _ _) (y_move rfl) rfl ?_
    refine l_g (s := 37) (Cls.gs _ _) (by kernel_rfl) rfl (beq_t _) (fun hg => y_move rfl) rfl ?_
    refine l_y (Cls.gs _ _) ((y_and rfl rfl rfl).lit (by kernel_rfl : _ = Value.bool true)) rfl ?_
    refine l_n rfl (n_store rfl rfl ty31 .a rfl rfl .z (.t (.t (.t .d)))) (fun _ _ => ?_)
    refine l_y (Cls.gs _ _) (y_assign rfl) rfl ?_
    refine l_nil ?_
    refine e_then ?_
    refine CJ.weak (.c (t := 2) rfl (.c (t := 3) rfl .n)) (fun _ h => h) ?_
    refine c_ret ?_
    refine e_ret rfl (.c rfl (LoadAt.aggL .z ty31 (.t (.t (.t .d)))) (.t rfl .n)) (fun wF hw => ?_)
    exact ⟨by rw [show b.u = false from h0]; rfl, (hw.anc (w, []) (by simp)).below⟩

theorem read47 (b : Bd) (h : BdOK b) (w : World) (hE : Env0 w) : Calls Tryz.prog 47 #[.string (bdS b)] w fun e w' => e = .returned (.tuple #[.agg #[.int .i64 b.lo, .int .i64 b.hi, .bool b.u], .bool true]) ∧ Gr w w' := by
  have k1 := h.lo
  have k2 := h.hi
  have k3 := h.le
  have s1 := itoa_len b.lo (by omega) (by omega)
  have s2 := itoa_len b.hi (by omega) (by omega)
  refine enter Tryz.func47 rfl rfl rfl rfl (Cls.start w) ?_
  refine c_seq ?_
  refine c_text ?_
  refine l_n rfl (n_alloc ty34 .a rfl) (fun b0 _ => ?_)
  refine l_y (Cls.gs _ _) (y_assign rfl) rfl ?_
  refine l_nil ?_
  refine e_then ?_
  refine CJ.weak (.c (t := 0) rfl (.c (t := 2) rfl .n)) (fun _ h => h) ?_
  refine c_seq ?_
  refine c_seq ?_
  refine c_text ?_
  refine l_y (Cls.gs _ _) (y_move rfl) rfl ?_
  refine l_y (Cls.gs _ _) ((y_strEq rfl rfl).lit (bdIs h)) rfl ?_
  refine l_nil ?_
  refine e_then ?_
  refine CJ.weak (.c (t := 0) rfl (.c (t := 2) rfl (.c (t := 12) rfl .n))) (fun _ h => h) ?_
  refine c_cond rfl (fun h0 => ?_) (fun h0 => ?_)
  · obtain ⟨e1, e2⟩ := h.u h0
    refine c_seq ?_
    refine c_text ?_
    refine l_y (Cls.gs _ _) (y_call ent64 .n (fun w _ => none64 w)) rfl ?_
    refine l_n rfl (n_store rfl rfl ty34 .a rfl rfl .z (.t (.t (.t .d)))) (fun _ _ => ?_)
    refine l_y (Cls.gs _ _) (y_assign rfl) rfl ?_
    refine l_nil ?_
    refine e_then ?_
    refine CJ.weak (.c (t := 2) rfl (.c (t := 3) rfl .n)) (fun _ h => h) ?_
    refine c_ret ?_
    refine e_then_ret ?_
    refine e_ret rfl (.c rfl (LoadAt.aggL .z ty34 (.t (.t (.t .d)))) (.t rfl .n)) (fun wF hw => ?_)
    exact ⟨by obtain ⟨lo, hi, u⟩ := b; dsimp only at e1 e2 h0; subst e1 e2 h0; rfl, (hw.anc (w, []) (by simp)).below⟩
  · rw [bdS_some h0]
    refine c_skip ?_
    refine e_then ?_
    refine CJ.weak (.c (t := 0) rfl (.c (t := 2) rfl .n)) (fun _ h => h) ?_
    refine c_seq ?_
    refine c_text ?_
    refine l_y (Cls.gs _ _) (y_move rfl) rfl ?_
    refine l_y (Cls.gs _ _) (y_call ent72 (.c rfl (.c rfl .n)) (fun w' hw' => cut72 (itoa_not (by decide) (by decide)) (by simp only [List.length_append, List.length_cons, List.length_nil]; omega) w' (hE.gr (hw'.gr .z)))) rfl ?_
    refine l_y (Cls.gs _ _) (y_move rfl) rfl ?_
    refine l_y (Cls.gs _ _) (y_extract rfl .z) rfl ?_
    refine l_y (Cls.gs _ _) (y_extract rfl (.s .z)) rfl ?_
    refine l_y (Cls.gs _ _) (y_extract rfl (.s (.s .z))) rfl ?_
    refine l_y (Cls.gs _ _) (y_assign rfl) rfl ?_
    refine l_y (Cls.gs _ _) (y_assign rfl) rfl ?_
    refine l_y (Cls.gs _ _) (y_assign rfl) rfl ?_
    refine l_nil ?_
    refine e_then ?_
    refine CJ.weak (.c (t := 2) rfl (.c (t := 4) rfl (.c (t := 5) rfl (.c (t := 6) rfl .n)))) (fun _ h => h) ?_
    refine c_seq ?_
    refine c_text ?_
    refine l_y (Cls.gs _ _) (y_move rfl) rfl ?_
    refine l_y (Cls.gs _ _) (y_call ent44 (.c rfl .n) (fun w' hw' => whole44 b.lo (by omega) (by omega) w' (hE.gr (hw'.gr .z)))) rfl ?_
    refine l_y (Cls.gs _ _) (y_move rfl) rfl ?_
    refine l_y (Cls.gs _ _) (y_extract rfl .z) rfl ?_
    refine l_y (Cls.gs _ _) (y_extract rfl (.s .z)) rfl ?_
    refine l_y (Cls.gs _ _) (y_assign rfl) rfl ?_
    refine l_y (Cls.gs _ _) (y_assign rfl) rfl ?_
    refine l_nil ?_
    refine e_then ?_
    refine CJ.weak (.c (t := 2) rfl (.c (t := 5) rfl (.c (t := 6) rfl (.c (t := 7) rfl (.c (t := 8) rfl .n))))) (fun _ h => h) ?_
    refine c_seq ?_
    refine c_text ?_
    refine l_y (Cls.gs _ _) (y_move rfl) rfl ?_
    refine l_y (Cls.gs _ _) (y_call ent44 (.c rfl .n) (fun w' hw' => whole44 b.hi (by omega) (by omega) w' (hE.gr (hw'.gr .z)))) rfl ?_
    refine l_y (Cls.gs _ _) (y_move rfl) rfl ?_
    refine l_y (Cls.gs _ _) (y_extract rfl .z) rfl ?_
    refine l_y (Cls.gs _ _) (y_extract rfl (.s .z)) rfl ?_
    refine l_y (Cls.gs _ _) (y_assign rfl) rfl ?_
    refine l_y (Cls.gs _ _) (y_assign rfl) rfl ?_
    refine l_nil ?_
    refine e_then ?_
    refine CJ.weak (.c (t := 2) rfl (.c (t := 6) rfl (.c (t := 7) rfl (.c (t := 8) rfl (.c (t := 9) rfl (.c (t := 10) rfl .n)))))) (fun _ h => h) ?_
    refine c_seq ?_
    refine c_text ?_
    refine l_y (Cls.gs _ _) (y_move rfl) rfl ?_
    refine l_y (Cls.gs _ _) (y_move rfl) rfl ?_
    refine l_y (Cls.gs _ _) (y_build pl34 ty34 .a (.c rfl (.c rfl .n)) (.c rfl (.o rfl) rfl rfl (.t .d) (.c rfl (.o rfl) rfl rfl (.s (.t .d)) .d))) rfl ?_
    refine l_y (Cls.gs _ _) (y_move rfl) rfl ?_
    refine l_y (Cls.gs _ _) (y_move rfl) rfl ?_
    refine l_g (s := 34) (Cls.gs _ _) (by kernel_rfl) rfl (beq_t _) (fun hg => y_move rfl) rfl ?_
    refine l_y (Cls.gs _ _) ((y_and rfl rfl rfl).lit (by kernel_rfl : _ = Value.bool true)) rfl ?_
    refine l_y (Cls.gs _ _) (y_move rfl) rfl ?_
    refine l_g (s := 37) (Cls.gs _ _) (by kernel_rfl) rfl (beq_t _) (fun hg => y_move rfl) rfl ?_
    refine l_y (Cls.gs _ _) ((y_and rfl rfl rfl).lit (by kernel_rfl : _ = Value.bool true)) rfl ?_
    refine l_n rfl (n_store rfl rfl ty34 .a rfl rfl .z (.t (.t (.t .d)))) (fun _ _ => ?_)
    refine l_y (Cls.gs _ _) (y_assign rfl) rfl ?_
    refine l_nil ?_
    refine e_then ?_
    refine CJ.weak (.c (t := 2) rfl (.c (t := 3) rfl .n)) (fun _ h => h) ?_
    refine c_ret ?_
    refine e_ret rfl (.c rfl (LoadAt.aggL .z ty34 (.t (.t (.t .d)))) (.t rfl .n)) (fun wF hw => ?_)
    exact ⟨by rw [show b.u = false from h0]; rfl, (hw.anc (w, []) (by simp)).below⟩

theorem text11 (a : Al) (h : AlOK a) (w : World) (hE : Env0 w) : Calls Tryz.prog 11 #[.agg #[.int .i64 a.id, .int .i64 a.kind, .int .i64 a.object, .int .i64 a.at_.lo, .int .i64 a.at_.hi, .bool a.at_.u, .int .i64 a.ra.lo, .int .i64 a.ra.hi, .bool a.ra.u, .int .i64 a.dec.lo, .int .i64 a.dec.hi, .bool a.dec.u, .int .i64 a.flux.lo, .int .i64 a.flux.hi, .bool a.flux.u, .int .i64 a.of_]] w fun e w' => e = .returned (.tuple #[.string (alText a), .int .i64 0]) ∧ Gr w w' := by
  have i1 := h.id1
  have i2 := h.id2
  have i3 := h.ob1
  have i4 := h.ob2
  have i5 := h.of1
  have i6 := h.of2
  have i7 := h.k1
  have i8 := h.k2
  refine enter Tryz.func11 rfl rfl rfl rfl (Cls.start w) ?_
  refine c_seq ?_
  refine c_text ?_
  refine l_n rfl (n_box rfl .a rfl) (fun b0 _ => ?_)
  refine l_y (Cls.gs _ _) (y_assign rfl) rfl ?_
  refine l_y (Cls.gs _ _) (y_assign rfl) rfl ?_
  refine l_nil ?_
  refine e_then ?_
  refine CJ.weak (.c (t := 1) rfl .n) (fun _ h => h) ?_
  refine c_seq ?_
  refine c_seq ?_
  refine c_text ?_
  refine l_y (Cls.gs _ _) (y_load rfl (LoadAt.aggL .z ty36 (.t (.t (.t (.t (.t (.t (.t (.t (.t (.t (.t (.t (.t (.t (.t (.t .d)))))))))))))))))) rfl ?_
  refine l_y (Cls.gs _ _) (y_call ent24 (.c rfl .n) (fun w _ => check24 a h w)) rfl ?_
  refine l_y (Cls.gs _ _) (y_assign rfl) rfl ?_
  refine l_nil ?_
  refine e_then ?_
  refine CJ.weak (.c (t := 1) rfl (.c (t := 4) rfl .n)) (fun _ h => h) ?_
  refine c_seq ?_
  refine c_text ?_
  refine l_y (Cls.gs _ _) (y_move rfl) rfl ?_
  refine l_y (Cls.gs _ _) ((y_neq rfl rfl).lit (by kernel_rfl : _ = Value.bool false)) rfl ?_
  refine l_nil ?_
  refine e_then ?_
  refine CJ.weak (.c (t := 1) rfl (.c (t := 4) rfl (.c (t := 9) rfl .n))) (fun _ h => h) ?_
  refine c_false (by kernel_rfl) ?_
  refine c_skip ?_
  refine e_then ?_
  refine CJ.weak (.c (t := 1) rfl .n) (fun _ h => h) ?_
  refine c_seq ?_
  refine c_draw (m := 14) (fun i => Nat.beq i 3) (fun _ h => h.thin (.k .n)) hmix (Cls.gs _ _) rfl ?_
  refine a_yM (i := 0) (Cls.gs _ _) (by kernel_rfl) rfl (by kernel_rfl) (by kernel_rfl) (y_fieldAddr rfl fa36_0) rfl ?_
  refine a_yM (i := 1) (Cls.gs _ _) (by kernel_rfl) rfl (by kernel_rfl) (by kernel_rfl) (y_load rfl (LoadAt.oneL .z ty3 .z)) rfl ?_
  refine a_y (i := 2) (Cls.gs _ _) (by kernel_rfl) rfl (by kernel_rfl) (by kernel_rfl) (y_call ent36 (.c rfl .n) (fun w' hw' => itoa36 a.id (by omega) (by omega) w' (hE.gr (hw'.gr .z)))) rfl ?_
  refine a_yM (i := 4) (Cls.gs _ _) (by kernel_rfl) rfl (by kernel_rfl) (by kernel_rfl) (y_fieldAddr rfl fa36_1) rfl ?_
  refine a_yM (i := 5) (Cls.gs _ _) (by kernel_rfl) rfl (by kernel_rfl) (by kernel_rfl) (y_load rfl (LoadAt.oneL .z ty3 (.s .z))) rfl ?_
  refine a_yM (i := 6) (Cls.gs _ _) (by kernel_rfl) rfl (by kernel_rfl) (by kernel_rfl) ((y_sub rfl rfl).lit (kpred i7 i8)) rfl ?_
  refine a_yM (i := 9) (Cls.gs _ _) (by kernel_rfl) rfl (by kernel_rfl) (by kernel_rfl) (y_fieldAddr rfl fa36_3) rfl ?_
  refine a_yM (i := 10) (Cls.gs _ _) (by kernel_rfl) rfl (by kernel_rfl) (by kernel_rfl) (y_load rfl (LoadAt.aggL .z ty28 (.s (.s (.s (.t (.t (.t .d)))))))) rfl ?_
  refine a_n (i := 3) rfl rfl (by kernel_rfl) (fun _ => Cls.gs _ _) (.inl ⟨rfl, fun _ _ h => h.thin (.k .n)⟩) (n_callV ent37 (.c .z) .n (fun w' _ => names37 w') rfl) (fun nv hnv => ?_)
  refine a_y (i := 7) (Cls.gs _ _) (by kernel_rfl) rfl (by kernel_rfl) (by kernel_rfl) (y_idxVec Tryz.underlying95 ty9 hnv.1 rfl rfl rfl (by omega) (by rw [hnv.2]; simp; omega)) rfl ?_
  refine a_y (i := 8) (Cls.gs _ _) (by kernel_rfl) rfl (by kernel_rfl) (by kernel_rfl) (y_load rfl (LoadAt.oneV hnv.1 rfl (.c .z) ty9 (by rw [hnv.2, List.getElem?_map, names_at i7 i8]; rfl) .z (by simp))) rfl ?_
  refine a_y (i := 11) (Cls.gs _ _) (by kernel_rfl) rfl (by kernel_rfl) (by kernel_rfl) (y_call ent38 (.c rfl .n) (fun w' hw' => text38 a.at_ h.at_ w' (hE.gr (hw'.gr .z)))) rfl ?_
  refine a_n (i := 12) rfl rfl (by kernel_rfl) (fun _ => Cls.gs _ _) (.inr fun _ _ h => h.tail) (n_buildSlice (l := [.string ByteArray.empty, .string ByteArray.empty, .string ByteArray.empty, .string ByteArray.empty, .string ByteArray.empty]) Tryz.underlying95 ty9 (.o rfl) rfl (by simp) (by kernel_rfl) (.c rfl (.c rfl (.c rfl (.c rfl (.c rfl .n))))) (.c rfl (.o rfl) rfl rfl (.t .d) (.c rfl (.o rfl) rfl rfl (.s (.t .d)) (.c rfl (.o rfl) rfl rfl (.s (.s (.t .d))) (.c rfl (.o rfl) rfl rfl (.s (.s (.s (.t .d)))) (.c rfl (.o rfl) rfl rfl (.s (.s (.s (.s (.t .d))))) .d))))) rfl) (fun b1 _ => ?_)
  refine a_y (i := 13) (Cls.gs _ _) (by kernel_rfl) rfl (by kernel_rfl) (by kernel_rfl) (y_assign rfl) rfl ?_
  refine a_done (by kernel_rfl) ?_
  refine e_then ?_
  refine CJ.weak (.c (t := 1) rfl (.c (t := 5) rfl .n)) (fun _ h => h) ?_
  refine c_seq ?_
  refine c_seq ?_
  have hpv : VecOK 1 9 (ofBlk b1 5 (head5 a) 9) := .row (m := 1) (e := 9) (b := b1) (cap := 5) (es := head5 a) (rest := []) (by simp [head5]) (by simp [head5]) (by simp [maxLen]) (by simp [head5])
  refine CJ.cls (fun _ h => (h.thin (.k (.k .n))).perm (List.perm_append_comm (l₁ := [_]) (l₂ := [_]))) ?_
  refine c_text ?_
  refine l_y (Cls.gs _ _) (y_fieldAddr rfl fa36_1) rfl ?_
  refine l_y (Cls.gs _ _) (y_load rfl (LoadAt.oneL .z ty3 (.s .z))) rfl ?_
  refine l_y (Cls.gs _ _) (y_eql rfl rfl) rfl ?_
  refine l_nil ?_
  refine e_then ?_
  refine CJ.weak (.c (t := 1) rfl (.c (t := 5) rfl (.c (t := 26) rfl .n))) (fun _ h => h) ?_
  refine c_cond rfl (fun h0 => ?_) (fun h0 => ?_)
  · have hk : a.kind = 6 := of_decide_eq_true h0
    refine c_text ?_
    refine l_y (Cls.gs _ _) (y_move rfl) rfl ?_
    refine l_y (Cls.gs _ _) (y_fieldAddr rfl fa36_7) rfl ?_
    refine l_y (Cls.gs _ _) (y_load rfl (LoadAt.oneL .z ty3 (.s (.s (.s (.s (.s (.s (.s (.s (.s (.s (.s (.s (.s (.s (.s .z))))))))))))))))) rfl ?_
    refine l_y (Cls.gs _ _) (y_call ent36 (.c rfl .n) (fun w' hw' => itoa36 a.of_ (by omega) (by omega) w' (hE.gr (hw'.gr .z)))) rfl ?_
    refine l_n rfl (n_buildSlice (l := [.string ByteArray.empty, .string ByteArray.empty]) Tryz.underlying95 ty9 (.o rfl) rfl (by simp) (by kernel_rfl) (.c rfl (.c rfl .n)) (.c rfl (.o rfl) rfl rfl (.t .d) (.c rfl (.o rfl) rfl rfl (.s (.t .d)) .d)) rfl) (fun b2 _ => ?_)
    refine l_n rfl (n_appendM (v := (ofBlk b1 5 (head5 a) 9)) 140000 Tryz.underlying95 ti9 hpv (.c (.c .z)) rfl rfl .z rfl rfl (by decide) (by simp [head5]) rfl rfl) (fun u1 hu1 => ?_)
    refine l_y (Cls.gs _ _) (y_assign rfl) rfl ?_
    refine l_nil ?_
    refine e_then ?_
    refine CJ.weak (.c (t := 5) rfl .n) (fun _ h => h) ?_
    refine c_seq ?_
    have hu1e : u1.es = (alWords a).map sC := by rw [hu1.2, alWords]; first | (rw [if_pos hk]; rfl) | (rw [if_neg hk]; rfl)
    refine c_text ?_
    refine l_y (Cls.gs _ _) (y_move rfl) rfl ?_
    refine l_y (Cls.gs _ _) (y_call ent41 (.c rfl (.c rfl .n)) (fun w' hw' => join41v (alWords a) (words_ne a) (by have := words_len a; omega) (text_len h) u1 hu1.1 hu1e w' (Cls.ownV hu1.1 hw' (.c (.c .z))))) rfl ?_
    refine l_y (Cls.gs _ _) (y_assign rfl) rfl ?_
    refine l_y (Cls.gs _ _) (y_assign rfl) rfl ?_
    refine l_nil ?_
    refine e_then ?_
    refine CJ.weak (.c (t := 2) rfl (.c (t := 3) rfl .n)) (fun _ h => h) ?_
    refine c_ret ?_
    refine e_ret rfl (.t rfl (.t rfl .n)) (fun wF hw => ?_)
    exact ⟨rfl, (hw.anc (w, []) (by simp)).below⟩
  · have hk : a.kind ≠ 6 := of_decide_eq_false h0
    refine c_draw (m := 16) (fun i => Nat.beq i 14) (fun _ h => h.thin (.k .n)) hmix (Cls.gs _ _) rfl ?_
    refine a_y (i := 0) (Cls.gs _ _) (by kernel_rfl) rfl (by kernel_rfl) (by kernel_rfl) (y_move rfl) rfl ?_
    refine a_yM (i := 1) (Cls.gs _ _) (by kernel_rfl) rfl (by kernel_rfl) (by kernel_rfl) (y_fieldAddr rfl fa36_2) rfl ?_
    refine a_yM (i := 2) (Cls.gs _ _) (by kernel_rfl) rfl (by kernel_rfl) (by kernel_rfl) (y_load rfl (LoadAt.oneL .z ty3 (.s (.s .z)))) rfl ?_
    refine a_yM (i := 4) (Cls.gs _ _) (by kernel_rfl) rfl (by kernel_rfl) (by kernel_rfl) (y_fieldAddr rfl fa36_4) rfl ?_
    refine a_yM (i := 5) (Cls.gs _ _) (by kernel_rfl) rfl (by kernel_rfl) (by kernel_rfl) (y_load rfl (LoadAt.aggL .z ty31 (.s (.s (.s (.s (.s (.s (.t (.t (.t .d))))))))))) rfl ?_
    refine a_yM (i := 7) (Cls.gs _ _) (by kernel_rfl) rfl (by kernel_rfl) (by kernel_rfl) (y_fieldAddr rfl fa36_5) rfl ?_
    refine a_yM (i := 8) (Cls.gs _ _) (by kernel_rfl) rfl (by kernel_rfl) (by kernel_rfl) (y_load rfl (LoadAt.aggL .z ty31 (.s (.s (.s (.s (.s (.s (.s (.s (.s (.t (.t (.t .d)))))))))))))) rfl ?_
    refine a_yM (i := 10) (Cls.gs _ _) (by kernel_rfl) rfl (by kernel_rfl) (by kernel_rfl) (y_fieldAddr rfl fa36_6) rfl ?_
    refine a_yM (i := 11) (Cls.gs _ _) (by kernel_rfl) rfl (by kernel_rfl) (by kernel_rfl) (y_load rfl (LoadAt.aggL .z ty34 (.s (.s (.s (.s (.s (.s (.s (.s (.s (.s (.s (.s (.t (.t (.t .d))))))))))))))))) rfl ?_
    refine a_n (i := 3) rfl rfl (by kernel_rfl) (fun _ => Cls.gs _ _) (.inr fun _ _ h => h) (NO.ofY (Cls.gs _ _) (y_call ent36 (.c rfl .n) (fun w' hw' => itoa36 a.object (by omega) (by omega) w' (hE.gr (hw'.gr .z)))) rfl) (fun _ _ => ?_)
    refine a_n (i := 6) rfl rfl (by kernel_rfl) (fun _ => Cls.gs _ _) (.inr fun _ _ h => h) (NO.ofY (Cls.gs _ _) (y_call ent39 (.c rfl .n) (fun w' hw' => text39 a.ra h.ra w' (hE.gr (hw'.gr .z)))) rfl) (fun _ _ => ?_)
    refine a_n (i := 9) rfl rfl (by kernel_rfl) (fun _ => Cls.gs _ _) (.inr fun _ _ h => h) (NO.ofY (Cls.gs _ _) (y_call ent39 (.c rfl .n) (fun w' hw' => text39 a.dec h.dec w' (hE.gr (hw'.gr .z)))) rfl) (fun _ _ => ?_)
    refine a_y (i := 12) (Cls.gs _ _) (by kernel_rfl) rfl (by kernel_rfl) (by kernel_rfl) (y_call ent40 (.c rfl .n) (fun w' hw' => text40 a.flux h.flux w' (hE.gr (hw'.gr .z)))) rfl ?_
    refine a_n (i := 13) rfl rfl (by kernel_rfl) (fun _ => Cls.gs _ _) (.inr fun _ _ h => h.tail) (n_buildSlice (l := [.string ByteArray.empty, .string ByteArray.empty, .string ByteArray.empty, .string ByteArray.empty, .string ByteArray.empty, .string ByteArray.empty, .string ByteArray.empty, .string ByteArray.empty]) Tryz.underlying95 ty9 (.o rfl) rfl (by simp) (by kernel_rfl) (.c rfl (.c rfl (.c rfl (.c rfl (.c rfl (.c rfl (.c rfl (.c rfl .n)))))))) (.c rfl (.o rfl) rfl rfl (.t .d) (.c rfl (.o rfl) rfl rfl (.s (.t .d)) (.c rfl (.o rfl) rfl rfl (.s (.s (.t .d))) (.c rfl (.o rfl) rfl rfl (.s (.s (.s (.t .d)))) (.c rfl (.o rfl) rfl rfl (.s (.s (.s (.s (.t .d))))) (.c rfl (.o rfl) rfl rfl (.s (.s (.s (.s (.s (.t .d)))))) (.c rfl (.o rfl) rfl rfl (.s (.s (.s (.s (.s (.s (.t .d))))))) (.c rfl (.o rfl) rfl rfl (.s (.s (.s (.s (.s (.s (.s (.t .d)))))))) .d)))))))) rfl) (fun b3 _ => ?_)
    refine a_n (i := 14) rfl rfl (by kernel_rfl) (fun _ => Cls.gs _ _) (.inl ⟨rfl, fun _ _ h => h.thin (.d (.k .n))⟩) (n_appendM (v := (ofBlk b1 5 (head5 a) 9)) 140000 Tryz.underlying95 ti9 hpv (.c (.c .z)) rfl rfl .z rfl rfl (by decide) (by simp [head5]) rfl rfl) (fun u1 hu1 => ?_)
    refine a_y (i := 15) (Cls.gs _ _) (by kernel_rfl) rfl (by kernel_rfl) (by kernel_rfl) (y_assign rfl) rfl ?_
    refine a_done (by kernel_rfl) ?_
    refine e_then ?_
    refine CJ.weak (.c (t := 5) rfl .n) (fun _ h => h) ?_
    refine c_seq ?_
    have hu1e : u1.es = (alWords a).map sC := by rw [hu1.2, alWords]; first | (rw [if_pos hk]; rfl) | (rw [if_neg hk]; rfl)
    refine c_text ?_
    refine l_y (Cls.gs _ _) (y_move rfl) rfl ?_
    refine l_y (Cls.gs _ _) (y_call ent41 (.c rfl (.c rfl .n)) (fun w' hw' => join41v (alWords a) (words_ne a) (by have := words_len a; omega) (text_len h) u1 hu1.1 hu1e w' (Cls.ownV hu1.1 hw' (.c (.c .z))))) rfl ?_
    refine l_y (Cls.gs _ _) (y_assign rfl) rfl ?_
    refine l_y (Cls.gs _ _) (y_assign rfl) rfl ?_
    refine l_nil ?_
    refine e_then ?_
    refine CJ.weak (.c (t := 2) rfl (.c (t := 3) rfl .n)) (fun _ h => h) ?_
    refine c_ret ?_
    refine e_ret rfl (.t rfl (.t rfl .n)) (fun wF hw => ?_)
    exact ⟨rfl, (hw.anc (w, []) (by simp)).below⟩

end Go.Proofs.YtpjacndlbjeehaaGreatDoor
