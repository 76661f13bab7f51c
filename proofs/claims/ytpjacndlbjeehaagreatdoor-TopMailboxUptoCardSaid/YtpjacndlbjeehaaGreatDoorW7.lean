/-
  A part of the proof of TopMailbox: walks of single functions, and plain facts.
-/
import Derived.Test.YtpjacndlbjeehaaGreatDoorPf
import Derived.Test.YtpjacndlbjeehaaGreatDoorM4
import Derived.Test.YtpjacndlbjeehaaGreatDoorW6
import Derived.KernelRfl
set_option linter.unusedVariables false
set_option linter.unusedSimpArgs false
set_option maxRecDepth 100000
namespace Go.Proofs.YtpjacndlbjeehaaGreatDoor
open Go Go.Px Mb
theorem hiV {b : Bd} (h2 : b.hi ≤ 1152921504606846976) (h1 : -1152921504606846976 ≤ b.lo) (h3 : b.lo ≤ b.hi) : Value.int .i64 (IntKind.i64.wrap (b.lo + ((b.hi - b.lo).toNat : Int))) = Value.int .i64 b.hi := lit64 (by omega) (by omega) (by omega)
theorem byte31 (l : List Nat) (a : Option Addr) (c : Nat) (hln : l.length < 1000000) (rb i : Nat) (x : Nat) (r : List Nat) (hx : l.drop i = x :: r) (w : World) {W : World} (hb : w.heap[rb]? = some (rdO (.slice a l.length c) i)) (hK : Keeps W [] w) (hs : W.heap.size ≤ rb) (hI : Elts W a 1 (l.map bC)) : Calls Tryz.prog 31 #[ptrV rb] w fun e w' => e = .returned (.int .u8 (x : Int)) ∧ Keeps w [rb] w' ∧ w'.heap[rb]? = some (rdO (.slice a l.length c) (i + 1)) := by
  have hlt := drop_lt hx
  have hxi := (drop_head hx).1
  obtain ⟨bb, o, ha, he⟩ := hI i (bC x) (by simp [hxi])
  have he := he 0 _ rfl
  refine enter Tryz.func31 rfl rfl rfl rfl (startBW hb hK hs) ?_
  refine c_seq ?_
  refine c_text ?_
  refine l_y (Cls.gs _ _) (y_assign rfl) rfl ?_
  refine l_nil ?_
  refine e_then ?_
  refine CJ.weak (.c (t := 0) rfl .n) (fun _ h => h) ?_
  refine c_seq ?_
  refine c_seq ?_
  refine c_draw (m := 10) (S0 := fun _ => True) (fun _ => false) (fun _ _ => trivial) hmix (Cls.gs _ _) rfl ?_
  refine a_y (i := 0) (Cls.gs _ _) (by kernel_rfl) rfl (by kernel_rfl) (by kernel_rfl) (y_move rfl) rfl ?_
  refine a_y (i := 1) (Cls.gs _ _) (by kernel_rfl) rfl (by kernel_rfl) (by kernel_rfl) (y_nilCheck rfl) rfl ?_
  refine a_y (i := 2) (Cls.gs _ _) (by kernel_rfl) rfl (by kernel_rfl) (by kernel_rfl) (y_fieldAddr rfl fa88_1) rfl ?_
  refine a_y (i := 3) (Cls.gs _ _) (by kernel_rfl) rfl (by kernel_rfl) (by kernel_rfl) (y_load rfl (LoadAt.oneL .z ty3 (.s .z))) rfl ?_
  refine a_y (i := 4) (Cls.gs _ _) (by kernel_rfl) rfl (by kernel_rfl) (by kernel_rfl) (y_move rfl) rfl ?_
  refine a_y (i := 5) (Cls.gs _ _) (by kernel_rfl) rfl (by kernel_rfl) (by kernel_rfl) (y_nilCheck rfl) rfl ?_
  refine a_y (i := 6) (Cls.gs _ _) (by kernel_rfl) rfl (by kernel_rfl) (by kernel_rfl) (y_fieldAddr rfl fa88_0) rfl ?_
  refine a_y (i := 7) (Cls.gs _ _) (by kernel_rfl) rfl (by kernel_rfl) (by kernel_rfl) (y_load rfl (LoadAt.oneL .z ty41 .z)) rfl ?_
  refine a_y (i := 8) (Cls.gs _ _) (by kernel_rfl) rfl (by kernel_rfl) (by kernel_rfl) (y_lenS Tryz.underlying41 rfl rfl) rfl ?_
  refine a_y (i := 9) (Cls.gs _ _) (by kernel_rfl) rfl (by kernel_rfl) (by kernel_rfl) (y_eql rfl rfl) rfl ?_
  refine a_done (by kernel_rfl) ?_
  refine e_then ?_
  refine CJ.weak (.c (t := 0) rfl (.c (t := 12) rfl .n)) (fun _ h => h) ?_
  refine c_cond rfl (fun h0 => ?_) (fun h0 => ?_)
  · exfalso
    have := of_decide_eq_true h0
    omega
  ·
    refine c_skip ?_
    refine e_then ?_
    refine CJ.weak (.c (t := 0) rfl .n) (fun _ h => h) ?_
    refine c_seq ?_
    refine c_text ?_
    refine l_y (Cls.gs _ _) (y_move rfl) rfl ?_
    refine l_y (Cls.gs _ _) (y_nilCheck rfl) rfl ?_
    refine l_y (Cls.gs _ _) (y_fieldAddr rfl fa88_1) rfl ?_
    refine l_y (Cls.gs _ _) (y_load rfl (LoadAt.oneL .z ty3 (.s .z))) rfl ?_
    refine l_y (Cls.gs _ _) ((y_add rfl rfl).lit (succ64 (by omega))) rfl ?_
    refine l_y (Cls.gs _ _) (y_nilCheck rfl) rfl ?_
    refine l_y (Cls.gs _ _) (y_fieldAddr rfl fa88_1) rfl ?_
    refine l_n rfl (n_store rfl rfl ty3 (.o rfl) rfl rfl .z (.s (.t .d))) (fun _ _ => ?_)
    refine l_nil ?_
    refine e_then ?_
    refine CJ.weak (.c (t := 0) rfl .n) (fun _ h => h) ?_
    refine c_seq ?_
    refine c_draw (m := 12) (S0 := fun _ => True) (fun _ => false) (fun _ _ => trivial) hmix (Cls.gs _ _) rfl ?_
    refine a_y (i := 0) (Cls.gs _ _) (by kernel_rfl) rfl (by kernel_rfl) (by kernel_rfl) (y_move rfl) rfl ?_
    refine a_y (i := 1) (Cls.gs _ _) (by kernel_rfl) rfl (by kernel_rfl) (by kernel_rfl) (y_nilCheck rfl) rfl ?_
    refine a_y (i := 2) (Cls.gs _ _) (by kernel_rfl) rfl (by kernel_rfl) (by kernel_rfl) (y_fieldAddr rfl fa88_0) rfl ?_
    refine a_y (i := 3) (Cls.gs _ _) (by kernel_rfl) rfl (by kernel_rfl) (by kernel_rfl) (y_load rfl (LoadAt.oneL .z ty41 .z)) rfl ?_
    refine a_y (i := 4) (Cls.gs _ _) (by kernel_rfl) rfl (by kernel_rfl) (by kernel_rfl) (y_move rfl) rfl ?_
    refine a_y (i := 5) (Cls.gs _ _) (by kernel_rfl) rfl (by kernel_rfl) (by kernel_rfl) (y_nilCheck rfl) rfl ?_
    refine a_y (i := 6) (Cls.gs _ _) (by kernel_rfl) rfl (by kernel_rfl) (by kernel_rfl) (y_fieldAddr rfl fa88_1) rfl ?_
    refine a_y (i := 7) (Cls.gs _ _) (by kernel_rfl) rfl (by kernel_rfl) (by kernel_rfl) (y_load rfl (LoadAt.oneL .z ty3 (.s .z))) rfl ?_
    refine a_y (i := 8) (Cls.gs _ _) (by kernel_rfl) rfl (by kernel_rfl) (by kernel_rfl) ((y_sub rfl rfl).lit (pred64 (by omega))) rfl ?_
    refine a_y (i := 9) (Cls.gs _ _) (by kernel_rfl) rfl (by kernel_rfl) (by kernel_rfl) (y_indexAddrF Tryz.underlying41 ty5 rfl rfl ha (by omega) (by omega)) rfl ?_
    refine a_y (i := 10) (Cls.gs _ _) (by kernel_rfl) rfl (by kernel_rfl) (by kernel_rfl) (y_load rfl (LoadAt.oneF (.s .z) ty5 he)) rfl ?_
    refine a_y (i := 11) (Cls.gs _ _) (by kernel_rfl) rfl (by kernel_rfl) (by kernel_rfl) (y_assign rfl) rfl ?_
    refine a_done (by kernel_rfl) ?_
    refine e_then ?_
    refine CJ.weak (.c (t := 2) rfl .n) (fun _ h => h) ?_
    refine c_ret ?_
    refine e_ret rfl (.t rfl .n) (fun wF hw => ?_)
    exact ⟨rfl, hw.anc (w, [rb]) (by simp), hw.locM .z⟩

theorem number32 (l : List Nat) (a : Option Addr) (c : Nat) (hln : l.length < 1000000) (rb i : Nat) (n : Nat) (hn : n < 9223372036854775808) (r : List Nat) (hx : l.drop i = numB n ++ r) (w : World) {W : World} (hb : w.heap[rb]? = some (rdO (.slice a l.length c) i)) (hK : Keeps W [] w) (hs : W.heap.size ≤ rb) (hI : Elts W a 1 (l.map bC)) : Calls Tryz.prog 32 #[ptrV rb] w fun e w' => e = .returned (.int .i64 (n : Int)) ∧ Keeps w [rb] w' ∧ w'.heap[rb]? = some (rdO (.slice a l.length c) (i + (numB n).length)) := by
  refine enter Tryz.func32 rfl rfl rfl rfl (startBW hb hK hs) ?_
  refine c_seq ?_
  refine c_text ?_
  refine l_y (Cls.gs _ _) (y_assign rfl) rfl ?_
  refine l_nil ?_
  refine e_then ?_
  refine CJ.weak (.c (t := 0) rfl .n) (fun _ h => h) ?_
  refine c_seq ?_
  refine c_text ?_
  refine l_y (Cls.gs _ _) (y_assign rfl) rfl ?_
  refine l_nil ?_
  refine e_then ?_
  refine c_seq ?_
  refine c_text ?_
  refine l_y (Cls.gs _ _) (y_assign rfl) rfl ?_
  refine l_nil ?_
  refine e_then ?_
  refine c_block ?_
  refine CJ.weak (.c (t := 3) rfl (.c (t := 4) rfl (.c (t := 0) rfl .n))) (fun _ h => h) ?_
  refine c_loopV (fun j : Nat => j ≤ 8 ∧ (j = 0 ∨ 0 < n / 128 ^ j) ∧ l.drop (i + j) = numB (n / 128 ^ j) ++ r ∧ (numB n).length = j + (numB (n / 128 ^ j)).length) (fun j => [(3, .int .u64 ((accN n j : Nat) : Int)), (4, .int .i64 ((7 * j : Nat) : Int))]) (fun j => [(rb, rdO (.slice a l.length c) (i + j))]) (fun j => 9 - j) (0) (⟨by omega, .inl rfl, by simpa using hx, by simp⟩) .z ?_
  rintro j hj
  have hj1 := hj.2.2.1
  rw [numB_b0] at hj1
  have hbl := b0_lt (n / 128 ^ j)
  refine c_seq ?_
  refine c_block ?_
  refine c_seq ?_
  refine c_text ?_
  refine l_y (Cls.gs _ _) (y_move rfl) rfl ?_
  refine l_n rfl (n_callB ent31 (.c rfl .n) .z (fun w' hw' => byte31 l a c hln rb (i + j) (b0 (n / 128 ^ j)) (_) (hj1) w' (hw'.locM .z) (hw'.anc (W, []) (by simp)) hs hI) rfl) (fun _ _ => ?_)
  refine l_y (Cls.gs _ _) (y_assign rfl) rfl ?_
  refine l_nil ?_
  refine e_then ?_
  refine CJ.weak (.c (t := 0) rfl (.c (t := 3) rfl (.c (t := 4) rfl (.c (t := 5) rfl .n)))) (fun _ h => h) ?_
  refine c_seq ?_
  refine c_seq ?_
  refine c_text ?_
  refine l_y (Cls.gs _ _) (y_move rfl) rfl ?_
  refine l_y (Cls.gs _ _) (y_eql rfl rfl) rfl ?_
  refine l_y (Cls.gs _ _) (y_move rfl) rfl ?_
  refine l_g (s := 12) (Cls.gs _ _) (by kernel_rfl) rfl (beq_f _) (fun hg => y_move rfl) rfl ?_
  refine l_g (s := 12) (Cls.gs _ _) (by kernel_rfl) rfl (beq_f _) (fun hg => y_eql (gvt hg rfl) rfl) rfl ?_
  refine l_g (s := 12) (Cls.gs _ _) (by kernel_rfl) rfl (beq_f _) (fun hg => y_move (gvt hg rfl)) rfl ?_
  refine l_gg (s := 15) (Cls.gs _ _) (by kernel_rfl) rfl (beq_t _) (fun hg => y_move rfl) rfl ?_
  refine l_gg (s := 15) (Cls.gs _ _) (by kernel_rfl) rfl (beq_t _) (fun hg => y_gtr (gvt hg rfl) rfl) rfl ?_
  refine l_g (s := 12) (Cls.gs _ _) (by kernel_rfl) rfl (beq_f _) (fun hg => y_and (gvt hg rfl) (gva hg rfl) rfl) rfl ?_
  refine l_y (Cls.gs _ _) (y_or rfl rfl rfl) rfl ?_
  refine l_nil ?_
  refine e_then ?_
  refine CJ.weak (.c (t := 0) rfl (.c (t := 3) rfl (.c (t := 4) rfl (.c (t := 5) rfl (.c (t := 19) rfl .n))))) (fun _ h => h) ?_
  refine c_cond rfl (fun h0 => ?_) (fun h0 => ?_)
  · exact (notLast hj.1 hj.2.1 h0).elim
  ·
    refine c_skip ?_
    refine e_then ?_
    refine CJ.weak (.c (t := 0) rfl (.c (t := 3) rfl (.c (t := 4) rfl (.c (t := 5) rfl .n)))) (fun _ h => h) ?_
    refine c_seq ?_
    refine c_text ?_
    refine l_y (Cls.gs _ _) (y_move rfl) rfl ?_
    refine l_y (Cls.gs _ _) (y_move rfl) rfl ?_
    refine l_y (Cls.gs _ _) (y_band rfl rfl) rfl ?_
    refine l_y (Cls.gs _ _) (y_conv Tryz.underlying5 Tryz.underlying79 rfl) rfl ?_
    refine l_y (Cls.gs _ _) (y_move rfl) rfl ?_
    refine l_y (Cls.gs _ _) (y_shl rfl rfl (by omega)) rfl ?_
    refine l_y (Cls.gs _ _) ((y_bor rfl rfl).lit (accStep hn hj.1)) rfl ?_
    refine l_y (Cls.gs _ _) (y_assign rfl) rfl ?_
    refine l_nil ?_
    refine e_then ?_
    refine CJ.weak (.c (t := 0) rfl (.c (t := 3) rfl (.c (t := 4) rfl (.c (t := 5) rfl .n)))) (fun _ h => h) ?_
    refine c_seq ?_
    refine c_text ?_
    refine l_y (Cls.gs _ _) (y_move rfl) rfl ?_
    refine l_y (Cls.gs _ _) (y_lss rfl rfl) rfl ?_
    refine l_nil ?_
    refine e_then ?_
    refine CJ.weak (.c (t := 0) rfl (.c (t := 3) rfl (.c (t := 4) rfl (.c (t := 29) rfl .n)))) (fun _ h => h) ?_
    refine c_cond rfl (fun h1 => ?_) (fun h1 => ?_)
    · have hm : n / 128 ^ j < 128 := by have := of_decide_eq_true h1; unfold b0 at this; split at this <;> omega
      refine c_seq ?_
      refine c_text ?_
      refine l_y (Cls.gs _ _) (y_move rfl) rfl ?_
      refine l_y (Cls.gs _ _) ((y_conv Tryz.underlying79 Tryz.underlying2 rfl).lit (convI (by rw [accEnd hm]; exact hn))) rfl ?_
      refine l_y (Cls.gs _ _) (y_assign rfl) rfl ?_
      refine l_nil ?_
      refine e_then ?_
      refine CJ.weak (.c (t := 2) rfl .n) (fun _ h => h) ?_
      refine c_ret ?_
      refine e_block_ret ?_
      refine e_then_ret ?_
      refine e_then_ret ?_
      refine e_block_ret ?_
      refine e_ret rfl (.t rfl .n) (fun wF hw => ?_)
      have hlen : (numB n).length = j + 1 := by rw [hj.2.2.2, numB_small hm]; rfl
      exact ⟨by rw [accEnd hm]; rfl, hw.anc (w, [rb]) (by simp), by rw [hlen]; exact hw.locM .z⟩
    · have hm : ¬ n / 128 ^ j < 128 := by have := of_decide_eq_false h1; unfold b0 at this; split at this <;> omega
      have hdd : n / 128 ^ (j + 1) = n / 128 ^ j / 128 := by rw [Nat.pow_succ, Nat.div_div_eq_div_mul]
      have hpos : 0 < n / 128 ^ (j + 1) := by rw [hdd]; omega
      have hj9 : j < 8 := small9 hn hm hj.1
      have hrest : l.drop (i + (j + 1)) = numB (n / 128 ^ (j + 1)) ++ r := by
        rw [if_neg hm, List.cons_append] at hj1; rw [hdd]; exact (drop_head hj1).2
      refine c_skip ?_
      refine e_block ?_
      refine e_then ?_
      refine CJ.weak (.c (t := 0) rfl (.c (t := 3) rfl (.c (t := 4) rfl .n))) (fun _ h => h) ?_
      refine c_text ?_
      refine l_y (Cls.gs _ _) (y_move rfl) rfl ?_
      refine l_y (Cls.gs _ _) ((y_add rfl rfl).lit (add7 hj.1)) rfl ?_
      refine l_y (Cls.gs _ _) (y_assign rfl) rfl ?_
      refine l_nil ?_
      refine e_again (j + 1) (⟨by omega, .inr hpos, by exact hrest, by rw [hj.2.2.2, numB_big (n := n / 128 ^ j) (by omega), List.length_cons, ← hdd]; omega⟩) (by omega) (.c (t := 3) rfl (.c (t := 4) rfl (.c (t := 0) rfl .n))) (fun _ h => h.thin .r)

theorem none62  (w : World) : Calls Tryz.prog 62 #[] w fun e w' => e = .returned (.agg #[.int .i64 0, .int .i64 0, .bool true]) ∧ Gr w w' := by
  refine enter Tryz.func62 rfl rfl rfl rfl (Cls.start w) ?_
  refine c_seq ?_
  refine c_text ?_
  refine l_n rfl (n_alloc ty28 .a rfl) (fun b0 _ => ?_)
  refine l_nil ?_
  refine e_then ?_
  refine c_seq ?_
  refine c_text ?_
  refine l_y (Cls.gs _ _) (y_build pl28 ty28 .a (.c rfl .n) (.c rfl (.o rfl) rfl rfl (.s (.s (.t .d))) .d)) rfl ?_
  refine l_n rfl (n_store rfl rfl ty28 .a rfl rfl .z (.t (.t (.t .d)))) (fun _ _ => ?_)
  refine l_nil ?_
  refine e_then ?_
  refine CJ.weak (.c (t := 0) rfl .n) (fun _ h => h) ?_
  refine c_ret ?_
  refine e_ret rfl (.c rfl (LoadAt.aggL .z ty28 (.t (.t (.t .d)))) .n) (fun wF hw => ?_)
  exact ⟨rfl, (hw.anc (w, []) (by simp)).below⟩

theorem none63  (w : World) : Calls Tryz.prog 63 #[] w fun e w' => e = .returned (.agg #[.int .i64 0, .int .i64 0, .bool true]) ∧ Gr w w' := by
  refine enter Tryz.func63 rfl rfl rfl rfl (Cls.start w) ?_
  refine c_seq ?_
  refine c_text ?_
  refine l_n rfl (n_alloc ty31 .a rfl) (fun b0 _ => ?_)
  refine l_nil ?_
  refine e_then ?_
  refine c_seq ?_
  refine c_text ?_
  refine l_y (Cls.gs _ _) (y_build pl31 ty31 .a (.c rfl .n) (.c rfl (.o rfl) rfl rfl (.s (.s (.t .d))) .d)) rfl ?_
  refine l_n rfl (n_store rfl rfl ty31 .a rfl rfl .z (.t (.t (.t .d)))) (fun _ _ => ?_)
  refine l_nil ?_
  refine e_then ?_
  refine CJ.weak (.c (t := 0) rfl .n) (fun _ h => h) ?_
  refine c_ret ?_
  refine e_ret rfl (.c rfl (LoadAt.aggL .z ty31 (.t (.t (.t .d)))) .n) (fun wF hw => ?_)
  exact ⟨rfl, (hw.anc (w, []) (by simp)).below⟩

theorem none64  (w : World) : Calls Tryz.prog 64 #[] w fun e w' => e = .returned (.agg #[.int .i64 0, .int .i64 0, .bool true]) ∧ Gr w w' := by
  refine enter Tryz.func64 rfl rfl rfl rfl (Cls.start w) ?_
  refine c_seq ?_
  refine c_text ?_
  refine l_n rfl (n_alloc ty34 .a rfl) (fun b0 _ => ?_)
  refine l_nil ?_
  refine e_then ?_
  refine c_seq ?_
  refine c_text ?_
  refine l_y (Cls.gs _ _) (y_build pl34 ty34 .a (.c rfl .n) (.c rfl (.o rfl) rfl rfl (.s (.s (.t .d))) .d)) rfl ?_
  refine l_n rfl (n_store rfl rfl ty34 .a rfl rfl .z (.t (.t (.t .d)))) (fun _ _ => ?_)
  refine l_nil ?_
  refine e_then ?_
  refine CJ.weak (.c (t := 0) rfl .n) (fun _ h => h) ?_
  refine c_ret ?_
  refine e_ret rfl (.c rfl (LoadAt.aggL .z ty34 (.t (.t (.t .d)))) .n) (fun wF hw => ?_)
  exact ⟨rfl, (hw.anc (w, []) (by simp)).below⟩

theorem ended33 (l : List Nat) (a : Option Addr) (c : Nat) (hln : l.length < 1000000) (rb i : Nat) (b : Bd) (h : BdOK b) (r : List Nat) (hx : l.drop i = endsB b ++ r) (w : World) {W : World} (hb : w.heap[rb]? = some (rdO (.slice a l.length c) i)) (hK : Keeps W [] w) (hs : W.heap.size ≤ rb) (hI : Elts W a 1 (l.map bC)) : Calls Tryz.prog 33 #[ptrV rb, .bool b.u] w fun e w' => e = .returned (.agg #[.int .i64 b.lo, .int .i64 b.hi, .bool b.u]) ∧ Keeps w [rb] w' ∧ w'.heap[rb]? = some (rdO (.slice a l.length c) (i + (endsB b).length)) := by
  have k1 := h.lo
  have h2 := h.hi
  have h3 := h.le
  have hz : zig b.lo < 9223372036854775808 := by unfold zig; split <;> omega
  refine enter Tryz.func33 rfl rfl rfl rfl (startBW hb hK hs) ?_
  refine c_seq ?_
  refine c_text ?_
  refine l_n rfl (n_alloc ty28 .a rfl) (fun b0 _ => ?_)
  refine l_nil ?_
  refine e_then ?_
  refine c_seq ?_
  refine c_seq ?_
  refine c_text ?_
  refine l_y (Cls.gs _ _) (y_move rfl) rfl ?_
  refine l_nil ?_
  refine e_then ?_
  refine CJ.weak (.c (t := 0) rfl (.c (t := 4) rfl (.c (t := 8) rfl .n))) (fun _ h => h) ?_
  refine c_cond rfl (fun h0 => ?_) (fun h0 => ?_)
  · have he : endsB b = [] := by rw [endsB, if_pos h0]
    obtain ⟨e1, e2⟩ := h.u h0
    refine c_seq ?_
    refine c_text ?_
    refine l_y (Cls.gs _ _) (y_call ent62 .n (fun w _ => none62 w)) rfl ?_
    refine l_n rfl (n_store rfl rfl ty28 .a rfl rfl .z (.t (.t (.t .d)))) (fun _ _ => ?_)
    refine l_nil ?_
    refine e_then ?_
    refine CJ.weak (.c (t := 4) rfl .n) (fun _ h => h) ?_
    refine c_ret ?_
    refine e_then_ret ?_
    refine e_ret rfl (.c rfl (LoadAt.aggL .z ty28 (.t (.t (.t .d)))) .n) (fun wF hw => ?_)
    exact ⟨by obtain ⟨lo, hi, u⟩ := b; dsimp only at e1 e2 h0; subst e1 e2 h0; rfl, hw.anc (w, [rb]) (by simp), by rw [he]; exact hw.locM (.s .z)⟩
  · have he : endsB b = numB (zig b.lo) ++ numB (b.hi - b.lo).toNat := by rw [endsB, if_neg (ne_true_of_eq_false h0)]
    rw [he, List.append_assoc] at hx
    refine c_skip ?_
    refine e_then ?_
    refine CJ.weak (.c (t := 0) rfl (.c (t := 4) rfl .n)) (fun _ h => h) ?_
    refine c_seq ?_
    refine c_text ?_
    refine l_y (Cls.gs _ _) (y_move rfl) rfl ?_
    refine l_n rfl (n_callB ent32 (.c rfl .n) (.s .z) (fun w' hw' => number32 l a c hln rb (i) (zig b.lo) hz (_) (hx) w' (hw'.locM (.s .z)) (hw'.anc (W, []) (by simp)) hs hI) rfl) (fun _ _ => ?_)
    refine l_y (Cls.gs _ _) (y_assign rfl) rfl ?_
    refine l_nil ?_
    refine e_then ?_
    refine CJ.weak (.c (t := 0) rfl (.c (t := 4) rfl (.c (t := 5) rfl .n))) (fun _ h => h) ?_
    refine c_seq ?_
    refine c_text ?_
    refine l_y (Cls.gs _ _) (y_move rfl) rfl ?_
    refine l_y (Cls.gs _ _) (y_shr rfl rfl (by decide)) rfl ?_
    refine l_y (Cls.gs _ _) (y_move rfl) rfl ?_
    refine l_y (Cls.gs _ _) (y_band rfl rfl) rfl ?_
    refine l_y (Cls.gs _ _) (y_neg rfl) rfl ?_
    refine l_y (Cls.gs _ _) ((y_bxor rfl rfl).lit (unzig (by omega) (by omega))) rfl ?_
    refine l_y (Cls.gs _ _) (y_move rfl) rfl ?_
    refine l_n rfl (n_callB ent32 (.c rfl .n) (.s .z) (fun w' hw' => number32 l a c hln rb (i + (numB (zig b.lo)).length) (b.hi - b.lo).toNat (by omega) (_) (drop_app hx) w' (hw'.locM (.s .z)) (hw'.anc (W, []) (by simp)) hs hI) rfl) (fun _ _ => ?_)
    refine l_y (Cls.gs _ _) (y_assign rfl) rfl ?_
    refine l_y (Cls.gs _ _) (y_assign rfl) rfl ?_
    refine l_nil ?_
    refine e_then ?_
    refine CJ.weak (.c (t := 4) rfl (.c (t := 6) rfl (.c (t := 7) rfl .n))) (fun _ h => h) ?_
    refine c_seq ?_
    refine c_seq ?_
    refine c_text ?_
    refine l_y (Cls.gs _ _) (y_move rfl) rfl ?_
    refine l_y (Cls.gs _ _) (y_gtr rfl rfl) rfl ?_
    refine l_nil ?_
    refine e_then ?_
    refine CJ.weak (.c (t := 4) rfl (.c (t := 6) rfl (.c (t := 7) rfl (.c (t := 21) rfl .n)))) (fun _ h => h) ?_
    refine c_cond rfl (fun h1 => ?_) (fun h1 => ?_)
    · exfalso
      have := of_decide_eq_true h1
      omega
    ·
      refine c_skip ?_
      refine e_then ?_
      refine CJ.weak (.c (t := 4) rfl (.c (t := 6) rfl (.c (t := 7) rfl .n))) (fun _ h => h) ?_
      refine c_seq ?_
      refine c_text ?_
      refine l_y (Cls.gs _ _) (y_move rfl) rfl ?_
      refine l_y (Cls.gs _ _) (y_move rfl) rfl ?_
      refine l_y (Cls.gs _ _) (y_move rfl) rfl ?_
      refine l_y (Cls.gs _ _) ((y_add rfl rfl).lit (hiV h2 k1 h3)) rfl ?_
      refine l_y (Cls.gs _ _) (y_build pl28 ty28 .a (.c rfl (.c rfl .n)) (.c rfl (.o rfl) rfl rfl (.t .d) (.c rfl (.o rfl) rfl rfl (.s (.t .d)) .d))) rfl ?_
      refine l_n rfl (n_store rfl rfl ty28 .a rfl rfl .z (.t (.t (.t .d)))) (fun _ _ => ?_)
      refine l_nil ?_
      refine e_then ?_
      refine CJ.weak (.c (t := 4) rfl .n) (fun _ h => h) ?_
      refine c_ret ?_
      refine e_ret rfl (.c rfl (LoadAt.aggL .z ty28 (.t (.t (.t .d)))) .n) (fun wF hw => ?_)
      exact ⟨by rw [show b.u = false from h0]; rfl, hw.anc (w, [rb]) (by simp), by rw [he, List.length_append, ← Nat.add_assoc]; exact hw.locM (.s .z)⟩

theorem ended34 (l : List Nat) (a : Option Addr) (c : Nat) (hln : l.length < 1000000) (rb i : Nat) (b : Bd) (h : BdOK b) (r : List Nat) (hx : l.drop i = endsB b ++ r) (w : World) {W : World} (hb : w.heap[rb]? = some (rdO (.slice a l.length c) i)) (hK : Keeps W [] w) (hs : W.heap.size ≤ rb) (hI : Elts W a 1 (l.map bC)) : Calls Tryz.prog 34 #[ptrV rb, .bool b.u] w fun e w' => e = .returned (.agg #[.int .i64 b.lo, .int .i64 b.hi, .bool b.u]) ∧ Keeps w [rb] w' ∧ w'.heap[rb]? = some (rdO (.slice a l.length c) (i + (endsB b).length)) := by
  have k1 := h.lo
  have h2 := h.hi
  have h3 := h.le
  have hz : zig b.lo < 9223372036854775808 := by unfold zig; split <;> omega
  refine enter Tryz.func34 rfl rfl rfl rfl (startBW hb hK hs) ?_
  refine c_seq ?_
  refine c_text ?_
  refine l_n rfl (n_alloc ty31 .a rfl) (fun b0 _ => ?_)
  refine l_nil ?_
  refine e_then ?_
  refine c_seq ?_
  refine c_seq ?_
  refine c_text ?_
  refine l_y (Cls.gs _ _) (y_move rfl) rfl ?_
  refine l_nil ?_
  refine e_then ?_
  refine CJ.weak (.c (t := 0) rfl (.c (t := 4) rfl (.c (t := 8) rfl .n))) (fun _ h => h) ?_
  refine c_cond rfl (fun h0 => ?_) (fun h0 => ?_)
  · have he : endsB b = [] := by rw [endsB, if_pos h0]
    obtain ⟨e1, e2⟩ := h.u h0
    refine c_seq ?_
    refine c_text ?_
    refine l_y (Cls.gs _ _) (y_call ent63 .n (fun w _ => none63 w)) rfl ?_
    refine l_n rfl (n_store rfl rfl ty31 .a rfl rfl .z (.t (.t (.t .d)))) (fun _ _ => ?_)
    refine l_nil ?_
    refine e_then ?_
    refine CJ.weak (.c (t := 4) rfl .n) (fun _ h => h) ?_
    refine c_ret ?_
    refine e_then_ret ?_
    refine e_ret rfl (.c rfl (LoadAt.aggL .z ty31 (.t (.t (.t .d)))) .n) (fun wF hw => ?_)
    exact ⟨by obtain ⟨lo, hi, u⟩ := b; dsimp only at e1 e2 h0; subst e1 e2 h0; rfl, hw.anc (w, [rb]) (by simp), by rw [he]; exact hw.locM (.s .z)⟩
  · have he : endsB b = numB (zig b.lo) ++ numB (b.hi - b.lo).toNat := by rw [endsB, if_neg (ne_true_of_eq_false h0)]
    rw [he, List.append_assoc] at hx
    refine c_skip ?_
    refine e_then ?_
    refine CJ.weak (.c (t := 0) rfl (.c (t := 4) rfl .n)) (fun _ h => h) ?_
    refine c_seq ?_
    refine c_text ?_
    refine l_y (Cls.gs _ _) (y_move rfl) rfl ?_
    refine l_n rfl (n_callB ent32 (.c rfl .n) (.s .z) (fun w' hw' => number32 l a c hln rb (i) (zig b.lo) hz (_) (hx) w' (hw'.locM (.s .z)) (hw'.anc (W, []) (by simp)) hs hI) rfl) (fun _ _ => ?_)
    refine l_y (Cls.gs _ _) (y_assign rfl) rfl ?_
    refine l_nil ?_
    refine e_then ?_
    refine CJ.weak (.c (t := 0) rfl (.c (t := 4) rfl (.c (t := 5) rfl .n))) (fun _ h => h) ?_
    refine c_seq ?_
    refine c_text ?_
    refine l_y (Cls.gs _ _) (y_move rfl) rfl ?_
    refine l_y (Cls.gs _ _) (y_shr rfl rfl (by decide)) rfl ?_
    refine l_y (Cls.gs _ _) (y_move rfl) rfl ?_
    refine l_y (Cls.gs _ _) (y_band rfl rfl) rfl ?_
    refine l_y (Cls.gs _ _) (y_neg rfl) rfl ?_
    refine l_y (Cls.gs _ _) ((y_bxor rfl rfl).lit (unzig (by omega) (by omega))) rfl ?_
    refine l_y (Cls.gs _ _) (y_move rfl) rfl ?_
    refine l_n rfl (n_callB ent32 (.c rfl .n) (.s .z) (fun w' hw' => number32 l a c hln rb (i + (numB (zig b.lo)).length) (b.hi - b.lo).toNat (by omega) (_) (drop_app hx) w' (hw'.locM (.s .z)) (hw'.anc (W, []) (by simp)) hs hI) rfl) (fun _ _ => ?_)
    refine l_y (Cls.gs _ _) (y_assign rfl) rfl ?_
    refine l_y (Cls.gs _ _) (y_assign rfl) rfl ?_
    refine l_nil ?_
    refine e_then ?_
    refine CJ.weak (.c (t := 4) rfl (.c (t := 6) rfl (.c (t := 7) rfl .n))) (fun _ h => h) ?_
    refine c_seq ?_
    refine c_seq ?_
    refine c_text ?_
    refine l_y (Cls.gs _ _) (y_move rfl) rfl ?_
    refine l_y (Cls.gs _ _) (y_gtr rfl rfl) rfl ?_
    refine l_nil ?_
    refine e_then ?_
    refine CJ.weak (.c (t := 4) rfl (.c (t := 6) rfl (.c (t := 7) rfl (.c (t := 21) rfl .n)))) (fun _ h => h) ?_
    refine c_cond rfl (fun h1 => ?_) (fun h1 => ?_)
    · exfalso
      have := of_decide_eq_true h1
      omega
    ·
      refine c_skip ?_
      refine e_then ?_
      refine CJ.weak (.c (t := 4) rfl (.c (t := 6) rfl (.c (t := 7) rfl .n))) (fun _ h => h) ?_
      refine c_seq ?_
      refine c_text ?_
      refine l_y (Cls.gs _ _) (y_move rfl) rfl ?_
      refine l_y (Cls.gs _ _) (y_move rfl) rfl ?_
      refine l_y (Cls.gs _ _) (y_move rfl) rfl ?_
      refine l_y (Cls.gs _ _) ((y_add rfl rfl).lit (hiV h2 k1 h3)) rfl ?_
      refine l_y (Cls.gs _ _) (y_build pl31 ty31 .a (.c rfl (.c rfl .n)) (.c rfl (.o rfl) rfl rfl (.t .d) (.c rfl (.o rfl) rfl rfl (.s (.t .d)) .d))) rfl ?_
      refine l_n rfl (n_store rfl rfl ty31 .a rfl rfl .z (.t (.t (.t .d)))) (fun _ _ => ?_)
      refine l_nil ?_
      refine e_then ?_
      refine CJ.weak (.c (t := 4) rfl .n) (fun _ h => h) ?_
      refine c_ret ?_
      refine e_ret rfl (.c rfl (LoadAt.aggL .z ty31 (.t (.t (.t .d)))) .n) (fun wF hw => ?_)
      exact ⟨by rw [show b.u = false from h0]; rfl, hw.anc (w, [rb]) (by simp), by rw [he, List.length_append, ← Nat.add_assoc]; exact hw.locM (.s .z)⟩

theorem ended35 (l : List Nat) (a : Option Addr) (c : Nat) (hln : l.length < 1000000) (rb i : Nat) (b : Bd) (h : BdOK b) (r : List Nat) (hx : l.drop i = endsB b ++ r) (w : World) {W : World} (hb : w.heap[rb]? = some (rdO (.slice a l.length c) i)) (hK : Keeps W [] w) (hs : W.heap.size ≤ rb) (hI : Elts W a 1 (l.map bC)) : Calls Tryz.prog 35 #[ptrV rb, .bool b.u] w fun e w' => e = .returned (.agg #[.int .i64 b.lo, .int .i64 b.hi, .bool b.u]) ∧ Keeps w [rb] w' ∧ w'.heap[rb]? = some (rdO (.slice a l.length c) (i + (endsB b).length)) := by
  have k1 := h.lo
  have h2 := h.hi
  have h3 := h.le
  have hz : zig b.lo < 9223372036854775808 := by unfold zig; split <;> omega
  refine enter Tryz.func35 rfl rfl rfl rfl (startBW hb hK hs) ?_
  refine c_seq ?_
  refine c_text ?_
  refine l_n rfl (n_alloc ty34 .a rfl) (fun b0 _ => ?_)
  refine l_nil ?_
  refine e_then ?_
  refine c_seq ?_
  refine c_seq ?_
  refine c_text ?_
  refine l_y (Cls.gs _ _) (y_move rfl) rfl ?_
  refine l_nil ?_
  refine e_then ?_
  refine CJ.weak (.c (t := 0) rfl (.c (t := 4) rfl (.c (t := 8) rfl .n))) (fun _ h => h) ?_
  refine c_cond rfl (fun h0 => ?_) (fun h0 => ?_)
  · have he : endsB b = [] := by rw [endsB, if_pos h0]
    obtain ⟨e1, e2⟩ := h.u h0
    refine c_seq ?_
    refine c_text ?_
    refine l_y (Cls.gs _ _) (y_call ent64 .n (fun w _ => none64 w)) rfl ?_
    refine l_n rfl (n_store rfl rfl ty34 .a rfl rfl .z (.t (.t (.t .d)))) (fun _ _ => ?_)
    refine l_nil ?_
    refine e_then ?_
    refine CJ.weak (.c (t := 4) rfl .n) (fun _ h => h) ?_
    refine c_ret ?_
    refine e_then_ret ?_
    refine e_ret rfl (.c rfl (LoadAt.aggL .z ty34 (.t (.t (.t .d)))) .n) (fun wF hw => ?_)
    exact ⟨by obtain ⟨lo, hi, u⟩ := b; dsimp only at e1 e2 h0; subst e1 e2 h0; rfl, hw.anc (w, [rb]) (by simp), by rw [he]; exact hw.locM (.s .z)⟩
  · have he : endsB b = numB (zig b.lo) ++ numB (b.hi - b.lo).toNat := by rw [endsB, if_neg (ne_true_of_eq_false h0)]
    rw [he, List.append_assoc] at hx
    refine c_skip ?_
    refine e_then ?_
    refine CJ.weak (.c (t := 0) rfl (.c (t := 4) rfl .n)) (fun _ h => h) ?_
    refine c_seq ?_
    refine c_text ?_
    refine l_y (Cls.gs _ _) (y_move rfl) rfl ?_
    refine l_n rfl (n_callB ent32 (.c rfl .n) (.s .z) (fun w' hw' => number32 l a c hln rb (i) (zig b.lo) hz (_) (hx) w' (hw'.locM (.s .z)) (hw'.anc (W, []) (by simp)) hs hI) rfl) (fun _ _ => ?_)
    refine l_y (Cls.gs _ _) (y_assign rfl) rfl ?_
    refine l_nil ?_
    refine e_then ?_
    refine CJ.weak (.c (t := 0) rfl (.c (t := 4) rfl (.c (t := 5) rfl .n))) (fun _ h => h) ?_
    refine c_seq ?_
    refine c_text ?_
    refine l_y (Cls.gs _ _) (y_move rfl) rfl ?_
    refine l_y (Cls.gs _ _) (y_shr rfl rfl (by decide)) rfl ?_
    refine l_y (Cls.gs _ _) (y_move rfl) rfl ?_
    refine l_y (Cls.gs _ _) (y_band rfl rfl) rfl ?_
    refine l_y (Cls.gs _ _) (y_neg rfl) rfl ?_
    refine l_y (Cls.gs _ _) ((y_bxor rfl rfl).lit (unzig (by omega) (by omega))) rfl ?_
    refine l_y (Cls.gs _ _) (y_move rfl) rfl ?_
    refine l_n rfl (n_callB ent32 (.c rfl .n) (.s .z) (fun w' hw' => number32 l a c hln rb (i + (numB (zig b.lo)).length) (b.hi - b.lo).toNat (by omega) (_) (drop_app hx) w' (hw'.locM (.s .z)) (hw'.anc (W, []) (by simp)) hs hI) rfl) (fun _ _ => ?_)
    refine l_y (Cls.gs _ _) (y_assign rfl) rfl ?_
    refine l_y (Cls.gs _ _) (y_assign rfl) rfl ?_
    refine l_nil ?_
    refine e_then ?_
    refine CJ.weak (.c (t := 4) rfl (.c (t := 6) rfl (.c (t := 7) rfl .n))) (fun _ h => h) ?_
    refine c_seq ?_
    refine c_seq ?_
    refine c_text ?_
    refine l_y (Cls.gs _ _) (y_move rfl) rfl ?_
    refine l_y (Cls.gs _ _) (y_gtr rfl rfl) rfl ?_
    refine l_nil ?_
    refine e_then ?_
    refine CJ.weak (.c (t := 4) rfl (.c (t := 6) rfl (.c (t := 7) rfl (.c (t := 21) rfl .n)))) (fun _ h => h) ?_
    refine c_cond rfl (fun h1 => ?_) (fun h1 => ?_)
    · exfalso
      have := of_decide_eq_true h1
      omega
    ·
      refine c_skip ?_
      refine e_then ?_
      refine CJ.weak (.c (t := 4) rfl (.c (t := 6) rfl (.c (t := 7) rfl .n))) (fun _ h => h) ?_
      refine c_seq ?_
      refine c_text ?_
      refine l_y (Cls.gs _ _) (y_move rfl) rfl ?_
      refine l_y (Cls.gs _ _) (y_move rfl) rfl ?_
      refine l_y (Cls.gs _ _) (y_move rfl) rfl ?_
      refine l_y (Cls.gs _ _) ((y_add rfl rfl).lit (hiV h2 k1 h3)) rfl ?_
      refine l_y (Cls.gs _ _) (y_build pl34 ty34 .a (.c rfl (.c rfl .n)) (.c rfl (.o rfl) rfl rfl (.t .d) (.c rfl (.o rfl) rfl rfl (.s (.t .d)) .d))) rfl ?_
      refine l_n rfl (n_store rfl rfl ty34 .a rfl rfl .z (.t (.t (.t .d)))) (fun _ _ => ?_)
      refine l_nil ?_
      refine e_then ?_
      refine CJ.weak (.c (t := 4) rfl .n) (fun _ h => h) ?_
      refine c_ret ?_
      refine e_ret rfl (.c rfl (LoadAt.aggL .z ty34 (.t (.t (.t .d)))) .n) (fun wF hw => ?_)
      exact ⟨by rw [show b.u = false from h0]; rfl, hw.anc (w, [rb]) (by simp), by rw [he, List.length_append, ← Nat.add_assoc]; exact hw.locM (.s .z)⟩

end Go.Proofs.YtpjacndlbjeehaaGreatDoor
