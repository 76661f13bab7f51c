/-
  A part of the proof of TopMailbox: walks of single functions, and plain facts.
-/
import Derived.Test.YtpjacndlbjeehaaGreatDoorPf
import Derived.Test.YtpjacndlbjeehaaGreatDoorM3
import Derived.Test.YtpjacndlbjeehaaGreatDoorW5
import Derived.KernelRfl
set_option linter.unusedVariables false
set_option linter.unusedSimpArgs false
set_option maxRecDepth 100000
namespace Go.Proofs.YtpjacndlbjeehaaGreatDoor
open Go Go.Px Mb
theorem fl1a {a : Al} (h : a.at_.u = true) : (1 : Int) = fl a 1 := by simp [fl, h]
theorem endsB_len {b : Bd} (hb : BdOK b) : (endsB b).length ≤ 20 := by
  have h1 := hb.lo
  have h2 := hb.hi
  have h3 := hb.le
  unfold endsB
  split
  · simp
  · rw [List.length_append]
    have := numB_len 8 (zig b.lo) (by unfold zig; split <;> omega)
    have := numB_len 8 (b.hi - b.lo).toNat (by omega)
    omega
theorem elts_vec {m : Nat} {e : TypeId} {v : Vec} (hv : VecOK m e v) {w : World} (h : ∀ p ∈ v.own, w.heap[p.1]? = some p.2) : ∃ a cap, v.val = .slice a v.es.length cap ∧ Elts w a m v.es := by
  cases hv with
  | nil => exact ⟨none, 0, rfl, fun i l hl => by simp at hl⟩
  | @row b cap es rest hl hc hcap hr =>
    refine ⟨some ⟨b, 0, none⟩, cap, rfl, fun i l hl' => ⟨b, 0, rfl, fun j v hv => ?_⟩⟩
    have hb := h (b, blk (es.flatten ++ rest) e) (by simp)
    have hf := flatten_get hl hl' hv
    rw [Nat.zero_add, cell_blk hb, List.getElem?_append_left (List.getElem?_eq_some_iff.1 hf).1]; exact hf
theorem sum29v (l : List Nat) (v : Vec) (hv : VecOK 1 5 v) (he : v.es = l.map bC) (hn : l.length < 1000000) (w : World) (h : ∀ p ∈ v.own, w.heap[p.1]? = some p.2) : Calls Tryz.prog 29 #[v.val] w fun e w' => e = .returned (.int .u32 (crcV l)) ∧ Gr w w' := by
  obtain ⟨a, c, e1, e2⟩ := elts_vec hv h
  rw [he] at e1 e2
  rw [List.length_map] at e1
  rw [e1]
  exact sum29 l a c hn w e2
theorem pack9 (a : Al) (h : AlOK a) (w : World) : Calls Tryz.prog 9 #[.agg #[.int .i64 a.id, .int .i64 a.kind, .int .i64 a.object, .int .i64 a.at_.lo, .int .i64 a.at_.hi, .bool a.at_.u, .int .i64 a.ra.lo, .int .i64 a.ra.hi, .bool a.ra.u, .int .i64 a.dec.lo, .int .i64 a.dec.hi, .bool a.dec.u, .int .i64 a.flux.lo, .int .i64 a.flux.hi, .bool a.flux.u, .int .i64 a.of_]] w fun e w' => ∃ x : Vec, e = .returned (.tuple #[x.val, .int .i64 0]) ∧ Gr w w' ∧ VIn w x w' ∧ (VecOK 1 5 x ∧ x.es = (packB a).map bC) := by
  have q1 := h.id1
  have q2 := h.id2
  have q3 := h.ob1
  have q4 := h.ob2
  have q5 := h.of1
  have q6 := h.of2
  have hbl := bodyB_len h
  have n1 := numB_len 8 a.id.toNat (by omega)
  have n2 := numB_len 8 a.object.toNat (by omega)
  have n3 := numB_len 8 a.of_.toNat (by omega)
  have m1 := endsB_len h.at_
  have m2 := endsB_len h.ra
  have m3 := endsB_len h.dec
  have m4 := endsB_len h.flux
  refine enter Tryz.func9 rfl rfl rfl rfl (Cls.start w) ?_
  refine c_seq ?_
  refine c_text ?_
  refine l_n rfl (n_box rfl .a rfl) (fun b0 _ => ?_)
  refine l_y (Cls.gs _ _) (y_assign rfl) rfl ?_
  refine l_y (Cls.gs _ _) (y_assign rfl) rfl ?_
  refine l_nil ?_
  refine e_then ?_
  refine CJ.weak (.c (t := 1) rfl .n) (fun _ h => h) ?_
  refine c_seq ?_
  refine c_seq ?_
  refine c_text ?_
  refine l_y (Cls.gs _ _) (y_load rfl (LoadAt.aggL .z ty36 (.t (.t (.t (.t (.t (.t (.t (.t (.t (.t (.t (.t (.t (.t (.t (.t .d)))))))))))))))))) rfl ?_
  refine l_y (Cls.gs _ _) (y_call ent24 (.c rfl .n) (fun w _ => check24 a h w)) rfl ?_
  refine l_y (Cls.gs _ _) (y_assign rfl) rfl ?_
  refine l_nil ?_
  refine e_then ?_
  refine CJ.weak (.c (t := 1) rfl (.c (t := 4) rfl .n)) (fun _ h => h) ?_
  refine c_seq ?_
  refine c_text ?_
  refine l_y (Cls.gs _ _) (y_move rfl) rfl ?_
  refine l_y (Cls.gs _ _) ((y_neq rfl rfl).lit (by kernel_rfl : _ = Value.bool false)) rfl ?_
  refine l_nil ?_
  refine e_then ?_
  refine CJ.weak (.c (t := 1) rfl (.c (t := 4) rfl (.c (t := 13) rfl .n))) (fun _ h => h) ?_
  refine c_false (by kernel_rfl) ?_
  refine c_skip ?_
  refine e_then ?_
  refine CJ.weak (.c (t := 1) rfl .n) (fun _ h => h) ?_
  refine c_seq ?_
  refine c_text ?_
  refine l_y (Cls.gs _ _) (y_assign rfl) rfl ?_
  refine l_nil ?_
  refine e_then ?_
  refine c_seq ?_
  refine c_seq ?_
  refine c_text ?_
  refine l_y (Cls.gs _ _) (y_fieldAddr rfl fa36_3) rfl ?_
  refine l_y (Cls.gs _ _) (y_fieldAddr rfl fa28_2) rfl ?_
  refine l_y (Cls.gs _ _) (y_load rfl (LoadAt.oneL .z ty4 (.s (.s (.s (.s (.s .z))))))) rfl ?_
  refine l_y (Cls.gs _ _) (y_fieldAddr rfl fa36_4) rfl ?_
  refine l_y (Cls.gs _ _) (y_fieldAddr rfl fa31_2) rfl ?_
  refine l_y (Cls.gs _ _) (y_load rfl (LoadAt.oneL .z ty4 (.s (.s (.s (.s (.s (.s (.s (.s .z)))))))))) rfl ?_
  refine l_y (Cls.gs _ _) (y_fieldAddr rfl fa36_5) rfl ?_
  refine l_y (Cls.gs _ _) (y_fieldAddr rfl fa31_2) rfl ?_
  refine l_y (Cls.gs _ _) (y_load rfl (LoadAt.oneL .z ty4 (.s (.s (.s (.s (.s (.s (.s (.s (.s (.s (.s .z))))))))))))) rfl ?_
  refine l_y (Cls.gs _ _) (y_fieldAddr rfl fa36_6) rfl ?_
  refine l_y (Cls.gs _ _) (y_fieldAddr rfl fa34_2) rfl ?_
  refine l_y (Cls.gs _ _) (y_load rfl (LoadAt.oneL .z ty4 (.s (.s (.s (.s (.s (.s (.s (.s (.s (.s (.s (.s (.s (.s .z)))))))))))))))) rfl ?_
  refine l_n rfl (n_buildSlice (l := [.bool false, .bool false, .bool false, .bool false]) Tryz.underlying76 ty4 (.o rfl) rfl (by simp) (by kernel_rfl) (.c rfl (.c rfl (.c rfl (.c rfl .n)))) (.c rfl (.o rfl) rfl rfl (.t .d) (.c rfl (.o rfl) rfl rfl (.s (.t .d)) (.c rfl (.o rfl) rfl rfl (.s (.s (.t .d))) (.c rfl (.o rfl) rfl rfl (.s (.s (.s (.t .d)))) .d)))) rfl) (fun b1 _ => ?_)
  refine l_y (Cls.gs _ _) ((y_lenS Tryz.underlying76 rfl rfl).lit (by kernel_rfl : _ = Value.int .i64 4)) rfl ?_
  refine l_y (Cls.gs _ _) (y_move rfl) rfl ?_
  refine l_nil ?_
  refine e_then ?_
  refine CJ.weak (.c (t := 1) rfl (.c (t := 5) rfl (.c (t := 27) rfl (.c (t := 28) rfl (.c (t := 29) rfl .n))))) (fun _ h => h) ?_
  refine c_block ?_
  refine c_rounds 6 ?_
  refine r_succ ?_
  refine c_seq ?_
  refine c_text ?_
  refine l_y (Cls.gs _ _) ((y_lss rfl rfl).lit (by kernel_rfl : _ = Value.bool true)) rfl ?_
  refine l_nil ?_
  refine e_then ?_
  refine c_seq ?_
  refine c_true (by kernel_rfl) ?_
  refine c_skip ?_
  refine e_then ?_
  refine CJ.weak (.c (t := 1) rfl (.c (t := 5) rfl (.c (t := 27) rfl (.c (t := 28) rfl (.c (t := 29) rfl .n))))) (fun _ h => h) ?_
  refine c_cut (fun _ : Unit => True) (fun x => [(1, ptrV b0), (5, .int .i64 (fl a 1)), (27, .slice (some ⟨b1, 0, none⟩) 4 4), (28, .int .i64 4), (29, .int .i64 0)]) (fun _ => Cls [(w, [])] [(b1, blk [.bool a.at_.u, .bool a.ra.u, .bool a.dec.u, .bool a.flux.u] 4), (b0, blk [.int .i64 a.id, .int .i64 a.kind, .int .i64 a.object, .int .i64 a.at_.lo, .int .i64 a.at_.hi, .bool a.at_.u, .int .i64 a.ra.lo, .int .i64 a.ra.hi, .bool a.ra.u, .int .i64 a.dec.lo, .int .i64 a.dec.hi, .bool a.dec.u, .int .i64 a.flux.lo, .int .i64 a.flux.hi, .bool a.flux.u, .int .i64 a.of_] 36)]) ?_ ?_
  ·
    refine c_block ?_
    refine c_seq ?_
    refine c_text ?_
    refine l_y (Cls.gs _ _) (y_move rfl) rfl ?_
    refine l_y (Cls.gs _ _) (y_indexAddr Tryz.underlying76 ty4 rfl rfl (by decide) (by decide)) rfl ?_
    refine l_y (Cls.gs _ _) (y_load rfl (LoadAt.oneL .z ty4 .z)) rfl ?_
    refine l_y (Cls.gs _ _) (y_assign rfl) rfl ?_
    refine l_y (Cls.gs _ _) (y_assign rfl) rfl ?_
    refine l_nil ?_
    refine e_then ?_
    refine CJ.weak (.c (t := 1) rfl (.c (t := 5) rfl (.c (t := 6) rfl (.c (t := 7) rfl (.c (t := 27) rfl (.c (t := 28) rfl (.c (t := 29) rfl .n))))))) (fun _ h => h) ?_
    refine c_seq ?_
    refine c_text ?_
    refine l_y (Cls.gs _ _) (y_move rfl) rfl ?_
    refine l_nil ?_
    refine e_then ?_
    refine CJ.weak (.c (t := 1) rfl (.c (t := 5) rfl (.c (t := 6) rfl (.c (t := 27) rfl (.c (t := 28) rfl (.c (t := 29) rfl (.c (t := 34) rfl .n))))))) (fun _ h => h) ?_
    refine c_cond rfl (fun h0 => ?_) (fun h0 => ?_)
    ·
      refine c_text ?_
      refine l_y (Cls.gs _ _) (y_move rfl) rfl ?_
      refine l_y (Cls.gs _ _) (y_move rfl) rfl ?_
      refine l_y (Cls.gs _ _) ((y_shl rfl rfl (by decide)).lit (by kernel_rfl : _ = Value.int .i64 1)) rfl ?_
      refine l_y (Cls.gs _ _) ((y_bor rfl rfl).lit (by kernel_rfl : _ = Value.int .i64 1)) rfl ?_
      refine l_y (Cls.gs _ _) (y_assign rfl) rfl ?_
      refine l_nil ?_
      refine e_block ?_
      refine e_mid () trivial (.c (t := 1) rfl (.c (t := 5) (congrArg some (congrArg (Value.int .i64) (fl1a h0))) (.c (t := 27) rfl (.c (t := 28) rfl (.c (t := 29) rfl .n))))) (fun _ h => h)
    ·
      refine c_skip ?_
      refine e_block ?_
      refine e_mid () trivial (.c (t := 1) rfl (.c (t := 5) (congrArg some (congrArg (Value.int .i64) (fl1n h0))) (.c (t := 27) rfl (.c (t := 28) rfl (.c (t := 29) rfl .n))))) (fun _ h => h)
  · rintro _ _
    refine c_text ?_
    refine l_y (Cls.gs _ _) ((y_add rfl rfl).lit (by kernel_rfl : _ = Value.int .i64 1)) rfl ?_
    refine l_y (Cls.gs _ _) (y_move rfl) rfl ?_
    refine l_nil ?_
    refine e_rounds ?_
    refine RJ.weak (.c (t := 1) rfl (.c (t := 5) rfl (.c (t := 27) rfl (.c (t := 28) rfl (.c (t := 29) rfl .n))))) (fun _ h => h) ?_
    refine r_succ ?_
    refine c_seq ?_
    refine c_text ?_
    refine l_y (Cls.gs _ _) ((y_lss rfl rfl).lit (by kernel_rfl : _ = Value.bool true)) rfl ?_
    refine l_nil ?_
    refine e_then ?_
    refine c_seq ?_
    refine c_true (by kernel_rfl) ?_
    refine c_skip ?_
    refine e_then ?_
    refine CJ.weak (.c (t := 1) rfl (.c (t := 5) rfl (.c (t := 27) rfl (.c (t := 28) rfl (.c (t := 29) rfl .n))))) (fun _ h => h) ?_
    refine c_cut (fun _ : Unit => True) (fun x => [(1, ptrV b0), (5, .int .i64 (fl a 2)), (27, .slice (some ⟨b1, 0, none⟩) 4 4), (28, .int .i64 4), (29, .int .i64 1)]) (fun _ => Cls [(w, [])] [(b1, blk [.bool a.at_.u, .bool a.ra.u, .bool a.dec.u, .bool a.flux.u] 4), (b0, blk [.int .i64 a.id, .int .i64 a.kind, .int .i64 a.object, .int .i64 a.at_.lo, .int .i64 a.at_.hi, .bool a.at_.u, .int .i64 a.ra.lo, .int .i64 a.ra.hi, .bool a.ra.u, .int .i64 a.dec.lo, .int .i64 a.dec.hi, .bool a.dec.u, .int .i64 a.flux.lo, .int .i64 a.flux.hi, .bool a.flux.u, .int .i64 a.of_] 36)]) ?_ ?_
    ·
      refine c_block ?_
      refine c_seq ?_
      refine c_text ?_
      refine l_y (Cls.gs _ _) (y_move rfl) rfl ?_
      refine l_y (Cls.gs _ _) (y_indexAddr Tryz.underlying76 ty4 rfl rfl (by decide) (by decide)) rfl ?_
      refine l_y (Cls.gs _ _) (y_load rfl (LoadAt.oneL .z ty4 (.s .z))) rfl ?_
      refine l_y (Cls.gs _ _) (y_assign rfl) rfl ?_
      refine l_y (Cls.gs _ _) (y_assign rfl) rfl ?_
      refine l_nil ?_
      refine e_then ?_
      refine CJ.weak (.c (t := 1) rfl (.c (t := 5) rfl (.c (t := 6) rfl (.c (t := 7) rfl (.c (t := 27) rfl (.c (t := 28) rfl (.c (t := 29) rfl .n))))))) (fun _ h => h) ?_
      refine c_seq ?_
      refine c_text ?_
      refine l_y (Cls.gs _ _) (y_move rfl) rfl ?_
      refine l_nil ?_
      refine e_then ?_
      refine CJ.weak (.c (t := 1) rfl (.c (t := 5) rfl (.c (t := 6) rfl (.c (t := 27) rfl (.c (t := 28) rfl (.c (t := 29) rfl (.c (t := 34) rfl .n))))))) (fun _ h => h) ?_
      refine c_cond rfl (fun h1 => ?_) (fun h1 => ?_)
      ·
        refine c_text ?_
        refine l_y (Cls.gs _ _) (y_move rfl) rfl ?_
        refine l_y (Cls.gs _ _) (y_move rfl) rfl ?_
        refine l_y (Cls.gs _ _) ((y_shl rfl rfl (by decide)).lit (by kernel_rfl : _ = Value.int .i64 2)) rfl ?_
        refine l_y (Cls.gs _ _) (y_bor rfl rfl) rfl ?_
        refine l_y (Cls.gs _ _) (y_assign rfl) rfl ?_
        refine l_nil ?_
        refine e_block ?_
        refine e_mid () trivial (.c (t := 1) rfl (.c (t := 5) (congrArg some (congrArg (Value.int .i64) (fl2 h1))) (.c (t := 27) rfl (.c (t := 28) rfl (.c (t := 29) rfl .n))))) (fun _ h => h)
      ·
        refine c_skip ?_
        refine e_block ?_
        refine e_mid () trivial (.c (t := 1) rfl (.c (t := 5) (congrArg some (congrArg (Value.int .i64) (fl2n h1))) (.c (t := 27) rfl (.c (t := 28) rfl (.c (t := 29) rfl .n))))) (fun _ h => h)
    · rintro _ _
      refine c_text ?_
      refine l_y (Cls.gs _ _) ((y_add rfl rfl).lit (by kernel_rfl : _ = Value.int .i64 2)) rfl ?_
      refine l_y (Cls.gs _ _) (y_move rfl) rfl ?_
      refine l_nil ?_
      refine e_rounds ?_
      refine RJ.weak (.c (t := 1) rfl (.c (t := 5) rfl (.c (t := 27) rfl (.c (t := 28) rfl (.c (t := 29) rfl .n))))) (fun _ h => h) ?_
      refine r_succ ?_
      refine c_seq ?_
      refine c_text ?_
      refine l_y (Cls.gs _ _) ((y_lss rfl rfl).lit (by kernel_rfl : _ = Value.bool true)) rfl ?_
      refine l_nil ?_
      refine e_then ?_
      refine c_seq ?_
      refine c_true (by kernel_rfl) ?_
      refine c_skip ?_
      refine e_then ?_
      refine CJ.weak (.c (t := 1) rfl (.c (t := 5) rfl (.c (t := 27) rfl (.c (t := 28) rfl (.c (t := 29) rfl .n))))) (fun _ h => h) ?_
      refine c_cut (fun _ : Unit => True) (fun x => [(1, ptrV b0), (5, .int .i64 (fl a 3)), (27, .slice (some ⟨b1, 0, none⟩) 4 4), (28, .int .i64 4), (29, .int .i64 2)]) (fun _ => Cls [(w, [])] [(b1, blk [.bool a.at_.u, .bool a.ra.u, .bool a.dec.u, .bool a.flux.u] 4), (b0, blk [.int .i64 a.id, .int .i64 a.kind, .int .i64 a.object, .int .i64 a.at_.lo, .int .i64 a.at_.hi, .bool a.at_.u, .int .i64 a.ra.lo, .int .i64 a.ra.hi, .bool a.ra.u, .int .i64 a.dec.lo, .int .i64 a.dec.hi, .bool a.dec.u, .int .i64 a.flux.lo, .int .i64 a.flux.hi, .bool a.flux.u, .int .i64 a.of_] 36)]) ?_ ?_
      ·
        refine c_block ?_
        refine c_seq ?_
        refine c_text ?_
        refine l_y (Cls.gs _ _) (y_move rfl) rfl ?_
        refine l_y (Cls.gs _ _) (y_indexAddr Tryz.underlying76 ty4 rfl rfl (by decide) (by decide)) rfl ?_
        refine l_y (Cls.gs _ _) (y_load rfl (LoadAt.oneL .z ty4 (.s (.s .z)))) rfl ?_
        refine l_y (Cls.gs _ _) (y_assign rfl) rfl ?_
        refine l_y (Cls.gs _ _) (y_assign rfl) rfl ?_
        refine l_nil ?_
        refine e_then ?_
        refine CJ.weak (.c (t := 1) rfl (.c (t := 5) rfl (.c (t := 6) rfl (.c (t := 7) rfl (.c (t := 27) rfl (.c (t := 28) rfl (.c (t := 29) rfl .n))))))) (fun _ h => h) ?_
        refine c_seq ?_
        refine c_text ?_
        refine l_y (Cls.gs _ _) (y_move rfl) rfl ?_
        refine l_nil ?_
        refine e_then ?_
        refine CJ.weak (.c (t := 1) rfl (.c (t := 5) rfl (.c (t := 6) rfl (.c (t := 27) rfl (.c (t := 28) rfl (.c (t := 29) rfl (.c (t := 34) rfl .n))))))) (fun _ h => h) ?_
        refine c_cond rfl (fun h2 => ?_) (fun h2 => ?_)
        ·
          refine c_text ?_
          refine l_y (Cls.gs _ _) (y_move rfl) rfl ?_
          refine l_y (Cls.gs _ _) (y_move rfl) rfl ?_
          refine l_y (Cls.gs _ _) ((y_shl rfl rfl (by decide)).lit (by kernel_rfl : _ = Value.int .i64 4)) rfl ?_
          refine l_y (Cls.gs _ _) (y_bor rfl rfl) rfl ?_
          refine l_y (Cls.gs _ _) (y_assign rfl) rfl ?_
          refine l_nil ?_
          refine e_block ?_
          refine e_mid () trivial (.c (t := 1) rfl (.c (t := 5) (congrArg some (congrArg (Value.int .i64) (fl3 h2))) (.c (t := 27) rfl (.c (t := 28) rfl (.c (t := 29) rfl .n))))) (fun _ h => h)
        ·
          refine c_skip ?_
          refine e_block ?_
          refine e_mid () trivial (.c (t := 1) rfl (.c (t := 5) (congrArg some (congrArg (Value.int .i64) (fl3n h2))) (.c (t := 27) rfl (.c (t := 28) rfl (.c (t := 29) rfl .n))))) (fun _ h => h)
      · rintro _ _
        refine c_text ?_
        refine l_y (Cls.gs _ _) ((y_add rfl rfl).lit (by kernel_rfl : _ = Value.int .i64 3)) rfl ?_
        refine l_y (Cls.gs _ _) (y_move rfl) rfl ?_
        refine l_nil ?_
        refine e_rounds ?_
        refine RJ.weak (.c (t := 1) rfl (.c (t := 5) rfl (.c (t := 27) rfl (.c (t := 28) rfl (.c (t := 29) rfl .n))))) (fun _ h => h) ?_
        refine r_succ ?_
        refine c_seq ?_
        refine c_text ?_
        refine l_y (Cls.gs _ _) ((y_lss rfl rfl).lit (by kernel_rfl : _ = Value.bool true)) rfl ?_
        refine l_nil ?_
        refine e_then ?_
        refine c_seq ?_
        refine c_true (by kernel_rfl) ?_
        refine c_skip ?_
        refine e_then ?_
        refine CJ.weak (.c (t := 1) rfl (.c (t := 5) rfl (.c (t := 27) rfl (.c (t := 28) rfl (.c (t := 29) rfl .n))))) (fun _ h => h) ?_
        refine c_cut (fun _ : Unit => True) (fun x => [(1, ptrV b0), (5, .int .i64 (fl a 4)), (27, .slice (some ⟨b1, 0, none⟩) 4 4), (28, .int .i64 4), (29, .int .i64 3)]) (fun _ => Cls [(w, [])] [(b1, blk [.bool a.at_.u, .bool a.ra.u, .bool a.dec.u, .bool a.flux.u] 4), (b0, blk [.int .i64 a.id, .int .i64 a.kind, .int .i64 a.object, .int .i64 a.at_.lo, .int .i64 a.at_.hi, .bool a.at_.u, .int .i64 a.ra.lo, .int .i64 a.ra.hi, .bool a.ra.u, .int .i64 a.dec.lo, .int .i64 a.dec.hi, .bool a.dec.u, .int .i64 a.flux.lo, .int .i64 a.flux.hi, .bool a.flux.u, .int .i64 a.of_] 36)]) ?_ ?_
        ·
          refine c_block ?_
          refine c_seq ?_
          refine c_text ?_
          refine l_y (Cls.gs _ _) (y_move rfl) rfl ?_
          refine l_y (Cls.gs _ _) (y_indexAddr Tryz.underlying76 ty4 rfl rfl (by decide) (by decide)) rfl ?_
          refine l_y (Cls.gs _ _) (y_load rfl (LoadAt.oneL .z ty4 (.s (.s (.s .z))))) rfl ?_
          refine l_y (Cls.gs _ _) (y_assign rfl) rfl ?_
          refine l_y (Cls.gs _ _) (y_assign rfl) rfl ?_
          refine l_nil ?_
          refine e_then ?_
          refine CJ.weak (.c (t := 1) rfl (.c (t := 5) rfl (.c (t := 6) rfl (.c (t := 7) rfl (.c (t := 27) rfl (.c (t := 28) rfl (.c (t := 29) rfl .n))))))) (fun _ h => h) ?_
          refine c_seq ?_
          refine c_text ?_
          refine l_y (Cls.gs _ _) (y_move rfl) rfl ?_
          refine l_nil ?_
          refine e_then ?_
          refine CJ.weak (.c (t := 1) rfl (.c (t := 5) rfl (.c (t := 6) rfl (.c (t := 27) rfl (.c (t := 28) rfl (.c (t := 29) rfl (.c (t := 34) rfl .n))))))) (fun _ h => h) ?_
          refine c_cond rfl (fun h3 => ?_) (fun h3 => ?_)
          ·
            refine c_text ?_
            refine l_y (Cls.gs _ _) (y_move rfl) rfl ?_
            refine l_y (Cls.gs _ _) (y_move rfl) rfl ?_
            refine l_y (Cls.gs _ _) ((y_shl rfl rfl (by decide)).lit (by kernel_rfl : _ = Value.int .i64 8)) rfl ?_
            refine l_y (Cls.gs _ _) (y_bor rfl rfl) rfl ?_
            refine l_y (Cls.gs _ _) (y_assign rfl) rfl ?_
            refine l_nil ?_
            refine e_block ?_
            refine e_mid () trivial (.c (t := 1) rfl (.c (t := 5) (congrArg some (congrArg (Value.int .i64) (fl4 h3))) (.c (t := 27) rfl (.c (t := 28) rfl (.c (t := 29) rfl .n))))) (fun _ h => h)
          ·
            refine c_skip ?_
            refine e_block ?_
            refine e_mid () trivial (.c (t := 1) rfl (.c (t := 5) (congrArg some (congrArg (Value.int .i64) (fl4n h3))) (.c (t := 27) rfl (.c (t := 28) rfl (.c (t := 29) rfl .n))))) (fun _ h => h)
        · rintro _ _
          refine c_text ?_
          refine l_y (Cls.gs _ _) ((y_add rfl rfl).lit (by kernel_rfl : _ = Value.int .i64 4)) rfl ?_
          refine l_y (Cls.gs _ _) (y_move rfl) rfl ?_
          refine l_nil ?_
          refine e_rounds ?_
          refine RJ.weak (.c (t := 1) rfl (.c (t := 5) rfl (.c (t := 27) rfl (.c (t := 28) rfl (.c (t := 29) rfl .n))))) (fun _ h => h) ?_
          refine r_succ ?_
          refine c_seq ?_
          refine c_text ?_
          refine l_y (Cls.gs _ _) ((y_lss rfl rfl).lit (by kernel_rfl : _ = Value.bool false)) rfl ?_
          refine l_nil ?_
          refine e_then ?_
          refine c_seq ?_
          refine c_false (by kernel_rfl) ?_
          refine c_exit ?_
          refine e_then_exit ?_
          refine e_then_exit ?_
          refine e_block_hit ?_
          refine e_then ?_
          refine CJ.weak (.c (t := 1) rfl (.c (t := 5) rfl .n)) (fun _ h => h) ?_
          refine c_seq ?_
          refine c_text ?_
          refine l_y (Cls.gs _ _) (y_fieldAddr rfl fa36_1) rfl ?_
          refine l_y (Cls.gs _ _) (y_load rfl (LoadAt.oneL (.s .z) ty3 (.s .z))) rfl ?_
          refine l_y (Cls.gs _ _) (y_move rfl) rfl ?_
          refine l_y (Cls.gs _ _) (y_shl rfl rfl (by decide)) rfl ?_
          refine l_y (Cls.gs _ _) (y_bor rfl rfl) rfl ?_
          refine l_y (Cls.gs _ _) ((y_conv Tryz.underlying3 Tryz.underlying5 rfl).lit (kindFlags h)) rfl ?_
          refine l_n rfl (n_buildSlice (l := [.int .u8 0, .int .u8 0]) Tryz.underlying41 ty5 (.o rfl) rfl (by simp) (by kernel_rfl) (.c rfl (.c rfl .n)) (.c rfl (.o rfl) rfl rfl (.t .d) (.c rfl (.o rfl) rfl rfl (.s (.t .d)) .d)) rfl) (fun b2 _ => ?_)
          have hpv : VecOK 1 5 (ofBlk b2 2 [bC 165, bC (a.kind.toNat + 16 * flagsOf a)] 5) := .row (m := 1) (e := 5) (b := b2) (cap := 2) (es := [bC 165, bC (a.kind.toNat + 16 * flagsOf a)]) (rest := []) (by simp) (by simp) (by simp [maxLen]) (by simp)
          refine LJ.cls (fun _ h => h.perm (List.perm_append_comm (l₁ := [_]) (l₂ := [_, _]))) ?_
          refine l_y (Cls.gs _ _) (y_fieldAddr rfl fa36_0) rfl ?_
          refine l_y (Cls.gs _ _) (y_load rfl (LoadAt.oneL (.s .z) ty3 .z)) rfl ?_
          refine l_y (Cls.gs _ _) ((y_conv Tryz.underlying3 Tryz.underlying79 rfl).lit (conv64 (by omega) (by omega))) rfl ?_
          refine l_n rfl (n_callTV (v := (ofBlk b2 2 [bC 165, bC (a.kind.toNat + 16 * flagsOf a)] 5)) ent25 (.c (.c .z)) (.c rfl (.c rfl .n)) (fun w' hw' => number25 a.id.toNat _ hpv (by simp) w' (by omega) (Cls.ownV hpv hw' (.c (.c .z)))) rfl) (fun u1 hu1 => ?_)
          refine l_y (Cls.gs _ _) (y_assign rfl) rfl ?_
          refine l_nil ?_
          refine e_then ?_
          refine CJ.weak (.c (t := 1) rfl (.c (t := 8) rfl .n)) (fun _ h => h) ?_
          refine c_seq ?_
          refine c_seq ?_
          refine c_text ?_
          refine l_y (Cls.gs _ _) (y_move rfl) rfl ?_
          refine l_y (Cls.gs _ _) (y_fieldAddr rfl fa36_3) rfl ?_
          refine l_y (Cls.gs _ _) (y_load rfl (LoadAt.aggL (.s .z) ty28 (.s (.s (.s (.t (.t (.t .d)))))))) rfl ?_
          refine l_n rfl (n_callTV (v := u1) ent26 (.c (.c .z)) (.c rfl (.c rfl .n)) (fun w' hw' => ends26 a.at_ h.at_ u1 hu1.1 (by have e := congrArg List.length hu1.2; simp only [List.length_append, List.length_map, List.length_cons, List.length_nil] at e; omega) w' (Cls.ownV hu1.1 hw' (.c (.c .z)))) rfl) (fun u2 hu2 => ?_)
          refine l_y (Cls.gs _ _) (y_assign rfl) rfl ?_
          refine l_nil ?_
          refine e_then ?_
          refine CJ.weak (.c (t := 1) rfl (.c (t := 8) rfl .n)) (fun _ h => h) ?_
          refine c_seq ?_
          refine c_text ?_
          refine l_y (Cls.gs _ _) (y_fieldAddr rfl fa36_1) rfl ?_
          refine l_y (Cls.gs _ _) (y_load rfl (LoadAt.oneL (.s .z) ty3 (.s .z))) rfl ?_
          refine l_y (Cls.gs _ _) (y_eql rfl rfl) rfl ?_
          refine l_nil ?_
          refine e_then ?_
          refine CJ.weak (.c (t := 1) rfl (.c (t := 8) rfl (.c (t := 57) rfl .n))) (fun _ h => h) ?_
          refine c_cond rfl (fun h4 => ?_) (fun h4 => ?_)
          · have hu2e : u2.es = ((165 :: (a.kind.toNat + 16 * flagsOf a) :: (numB a.id.toNat ++ endsB a.at_)) : List Nat).map bC := by rw [hu2.2, hu1.2]; simp
            have hu2l := congrArg List.length hu2e
            simp only [List.length_append, List.length_map, List.length_cons] at hu2l
            refine c_text ?_
            refine l_y (Cls.gs _ _) (y_move rfl) rfl ?_
            refine l_y (Cls.gs _ _) (y_fieldAddr rfl fa36_7) rfl ?_
            refine l_y (Cls.gs _ _) (y_load rfl (LoadAt.oneL (.s .z) ty3 (.s (.s (.s (.s (.s (.s (.s (.s (.s (.s (.s (.s (.s (.s (.s .z))))))))))))))))) rfl ?_
            refine l_y (Cls.gs _ _) ((y_conv Tryz.underlying3 Tryz.underlying79 rfl).lit (conv64 (by omega) (by omega))) rfl ?_
            refine l_n rfl (n_callTV (v := u2) ent25 (.c (.c .z)) (.c rfl (.c rfl .n)) (fun w' hw' => number25 a.of_.toNat u2 hu2.1 (by omega) w' (by omega) (Cls.ownV hu2.1 hw' (.c (.c .z)))) rfl) (fun u6 hu6 => ?_)
            refine l_y (Cls.gs _ _) (y_assign rfl) rfl ?_
            refine l_nil ?_
            refine e_then ?_
            refine CJ.weak (.c (t := 8) rfl .n) (fun _ h => h) ?_
            refine c_seq ?_
            have hu6e : u6.es = (bodyB a).map bC := by rw [hu6.2, hu2e]; unfold bodyB; rw [if_pos (of_decide_eq_true h4)]; simp
            refine c_text ?_
            refine l_y (Cls.gs _ _) (y_move rfl) rfl ?_
            refine l_y (Cls.gs _ _) (y_call ent29 (.c rfl .n) (fun w' hw' => sum29v (bodyB a) u6 hu6.1 hu6e (by omega) w' (Cls.ownV hu6.1 hw' (.c (.c .z))))) rfl ?_
            refine l_y (Cls.gs _ _) (y_assign rfl) rfl ?_
            refine l_nil ?_
            refine e_then ?_
            refine CJ.weak (.c (t := 8) rfl (.c (t := 9) rfl .n)) (fun _ h => h) ?_
            refine c_seq ?_
            refine c_text ?_
            refine l_y (Cls.gs _ _) (y_move rfl) rfl ?_
            refine l_y (Cls.gs _ _) (y_move rfl) rfl ?_
            refine l_y (Cls.gs _ _) (y_shr rfl rfl (by decide)) rfl ?_
            refine l_y (Cls.gs _ _) ((y_conv Tryz.underlying83 Tryz.underlying5 rfl).lit (u8nat _)) rfl ?_
            refine l_y (Cls.gs _ _) (y_move rfl) rfl ?_
            refine l_y (Cls.gs _ _) (y_shr rfl rfl (by decide)) rfl ?_
            refine l_y (Cls.gs _ _) ((y_conv Tryz.underlying83 Tryz.underlying5 rfl).lit (u8nat _)) rfl ?_
            refine l_y (Cls.gs _ _) (y_move rfl) rfl ?_
            refine l_y (Cls.gs _ _) (y_shr rfl rfl (by decide)) rfl ?_
            refine l_y (Cls.gs _ _) ((y_conv Tryz.underlying83 Tryz.underlying5 rfl).lit (u8nat _)) rfl ?_
            refine l_y (Cls.gs _ _) (y_move rfl) rfl ?_
            refine l_y (Cls.gs _ _) ((y_conv Tryz.underlying83 Tryz.underlying5 rfl).lit (u8nat _)) rfl ?_
            refine l_n rfl (n_buildSlice (l := [.int .u8 0, .int .u8 0, .int .u8 0, .int .u8 0]) Tryz.underlying41 ty5 (.o rfl) rfl (by simp) (by kernel_rfl) (.c rfl (.c rfl (.c rfl (.c rfl .n)))) (.c rfl (.o rfl) rfl rfl (.t .d) (.c rfl (.o rfl) rfl rfl (.s (.t .d)) (.c rfl (.o rfl) rfl rfl (.s (.s (.t .d))) (.c rfl (.o rfl) rfl rfl (.s (.s (.s (.t .d)))) .d)))) rfl) (fun b3 _ => ?_)
            refine l_n rfl (n_appendM (v := u6) 140000 Tryz.underlying41 ti5 hu6.1 (.c (.c (.c .z))) rfl rfl .z rfl rfl (by decide) (by have e := congrArg List.length hu6e; rw [List.length_map] at e; omega) rfl rfl) (fun u7 hu7 => ?_)
            refine l_y (Cls.gs _ _) (y_assign rfl) rfl ?_
            refine l_y (Cls.gs _ _) (y_assign rfl) rfl ?_
            refine l_nil ?_
            refine e_then ?_
            refine CJ.weak (.c (t := 2) rfl (.c (t := 3) rfl .n)) (fun _ h => h) ?_
            refine c_ret ?_
            refine e_ret rfl (.t rfl (.t rfl .n)) (fun wF hw => ?_)
            have hw := hw.thin (.d .r)
            exact ⟨u7, rfl, (hw.anc (w, []) (by simp)).below, Cls.vin hu7.1 hw (.c (.c .z)) .z, hu7.1, by rw [hu7.2, hu6e]; unfold packB crcB; rw [List.map_append]; rfl⟩
          · have hu2e : u2.es = ((165 :: (a.kind.toNat + 16 * flagsOf a) :: (numB a.id.toNat ++ endsB a.at_)) : List Nat).map bC := by rw [hu2.2, hu1.2]; simp
            have hu2l := congrArg List.length hu2e
            simp only [List.length_append, List.length_map, List.length_cons] at hu2l
            refine c_draw (m := 15) (fun i => Nat.beq i 4 || Nat.beq i 7 || Nat.beq i 10 || Nat.beq i 13) (fun _ h => h.thin (.k (.k .n))) hmix (Cls.gs _ _) rfl ?_
            refine a_yM (i := 0) (Cls.gs _ _) (by kernel_rfl) rfl (by kernel_rfl) (by kernel_rfl) (y_move rfl) rfl ?_
            refine a_yM (i := 1) (Cls.gs _ _) (by kernel_rfl) rfl (by kernel_rfl) (by kernel_rfl) (y_fieldAddr rfl fa36_2) rfl ?_
            refine a_yM (i := 2) (Cls.gs _ _) (by kernel_rfl) rfl (by kernel_rfl) (by kernel_rfl) (y_load rfl (LoadAt.oneL (.s .z) ty3 (.s (.s .z)))) rfl ?_
            refine a_yM (i := 3) (Cls.gs _ _) (by kernel_rfl) rfl (by kernel_rfl) (by kernel_rfl) ((y_conv Tryz.underlying3 Tryz.underlying79 rfl).lit (conv64 (by omega) (by omega))) rfl ?_
            refine a_yM (i := 5) (Cls.gs _ _) (by kernel_rfl) rfl (by kernel_rfl) (by kernel_rfl) (y_fieldAddr rfl fa36_4) rfl ?_
            refine a_yM (i := 6) (Cls.gs _ _) (by kernel_rfl) rfl (by kernel_rfl) (by kernel_rfl) (y_load rfl (LoadAt.aggL (.s .z) ty31 (.s (.s (.s (.s (.s (.s (.t (.t (.t .d))))))))))) rfl ?_
            refine a_yM (i := 8) (Cls.gs _ _) (by kernel_rfl) rfl (by kernel_rfl) (by kernel_rfl) (y_fieldAddr rfl fa36_5) rfl ?_
            refine a_yM (i := 9) (Cls.gs _ _) (by kernel_rfl) rfl (by kernel_rfl) (by kernel_rfl) (y_load rfl (LoadAt.aggL (.s .z) ty31 (.s (.s (.s (.s (.s (.s (.s (.s (.s (.t (.t (.t .d)))))))))))))) rfl ?_
            refine a_yM (i := 11) (Cls.gs _ _) (by kernel_rfl) rfl (by kernel_rfl) (by kernel_rfl) (y_fieldAddr rfl fa36_6) rfl ?_
            refine a_yM (i := 12) (Cls.gs _ _) (by kernel_rfl) rfl (by kernel_rfl) (by kernel_rfl) (y_load rfl (LoadAt.aggL (.s .z) ty34 (.s (.s (.s (.s (.s (.s (.s (.s (.s (.s (.s (.s (.t (.t (.t .d))))))))))))))))) rfl ?_
            refine a_n (i := 4) rfl rfl (by kernel_rfl) (fun _ => Cls.gs _ _) (.inl ⟨rfl, fun _ _ h => h.thin (.k (.k .n))⟩) (n_callTV (v := u2) ent25 (.c (.c .z)) (.c rfl (.c rfl .n)) (fun w' hw' => number25 a.object.toNat u2 hu2.1 (by omega) w' (by omega) (Cls.ownV hu2.1 hw' (.c (.c .z)))) rfl) (fun u3 hu3 => ?_)
            refine a_n (i := 7) rfl rfl (by kernel_rfl) (fun _ => Cls.gs _ _) (.inl ⟨rfl, fun _ _ h => h.thin (.k (.k .n))⟩) (n_callTV (v := u3) ent28 (.c (.c .z)) (.c rfl (.c rfl .n)) (fun w' hw' => ends28 a.ra h.ra u3 hu3.1 (by have e := congrArg List.length hu3.2; simp only [List.length_append, List.length_map] at e; omega) w' (Cls.ownV hu3.1 hw' (.c (.c .z)))) rfl) (fun u4 hu4 => ?_)
            refine a_n (i := 10) rfl rfl (by kernel_rfl) (fun _ => Cls.gs _ _) (.inl ⟨rfl, fun _ _ h => h.thin (.k (.k .n))⟩) (n_callTV (v := u4) ent28 (.c (.c .z)) (.c rfl (.c rfl .n)) (fun w' hw' => ends28 a.dec h.dec u4 hu4.1 (by have e := congrArg List.length hu4.2; have e2 := congrArg List.length hu3.2; simp only [List.length_append, List.length_map] at e e2; omega) w' (Cls.ownV hu4.1 hw' (.c (.c .z)))) rfl) (fun u5 hu5 => ?_)
            refine a_n (i := 13) rfl rfl (by kernel_rfl) (fun _ => Cls.gs _ _) (.inl ⟨rfl, fun _ _ h => h.thin (.k (.k .n))⟩) (n_callTV (v := u5) ent27 (.c (.c .z)) (.c rfl (.c rfl .n)) (fun w' hw' => ends27 a.flux h.flux u5 hu5.1 (by have e := congrArg List.length hu5.2; have e2 := congrArg List.length hu4.2; have e3 := congrArg List.length hu3.2; simp only [List.length_append, List.length_map] at e e2 e3; omega) w' (Cls.ownV hu5.1 hw' (.c (.c .z)))) rfl) (fun u6 hu6 => ?_)
            refine a_y (i := 14) (Cls.gs _ _) (by kernel_rfl) rfl (by kernel_rfl) (by kernel_rfl) (y_assign rfl) rfl ?_
            refine a_done (by kernel_rfl) ?_
            refine e_then ?_
            refine CJ.weak (.c (t := 8) rfl .n) (fun _ h => h) ?_
            refine c_seq ?_
            have hu6e : u6.es = (bodyB a).map bC := by rw [hu6.2, hu5.2, hu4.2, hu3.2, hu2e]; unfold bodyB; rw [if_neg (of_decide_eq_false h4)]; simp
            refine c_text ?_
            refine l_y (Cls.gs _ _) (y_move rfl) rfl ?_
            refine l_y (Cls.gs _ _) (y_call ent29 (.c rfl .n) (fun w' hw' => sum29v (bodyB a) u6 hu6.1 hu6e (by omega) w' (Cls.ownV hu6.1 hw' (.c (.c .z))))) rfl ?_
            refine l_y (Cls.gs _ _) (y_assign rfl) rfl ?_
            refine l_nil ?_
            refine e_then ?_
            refine CJ.weak (.c (t := 8) rfl (.c (t := 9) rfl .n)) (fun _ h => h) ?_
            refine c_seq ?_
            refine c_text ?_
            refine l_y (Cls.gs _ _) (y_move rfl) rfl ?_
            refine l_y (Cls.gs _ _) (y_move rfl) rfl ?_
            refine l_y (Cls.gs _ _) (y_shr rfl rfl (by decide)) rfl ?_
            refine l_y (Cls.gs _ _) ((y_conv Tryz.underlying83 Tryz.underlying5 rfl).lit (u8nat _)) rfl ?_
            refine l_y (Cls.gs _ _) (y_move rfl) rfl ?_
            refine l_y (Cls.gs _ _) (y_shr rfl rfl (by decide)) rfl ?_
            refine l_y (Cls.gs _ _) ((y_conv Tryz.underlying83 Tryz.underlying5 rfl).lit (u8nat _)) rfl ?_
            refine l_y (Cls.gs _ _) (y_move rfl) rfl ?_
            refine l_y (Cls.gs _ _) (y_shr rfl rfl (by decide)) rfl ?_
            refine l_y (Cls.gs _ _) ((y_conv Tryz.underlying83 Tryz.underlying5 rfl).lit (u8nat _)) rfl ?_
            refine l_y (Cls.gs _ _) (y_move rfl) rfl ?_
            refine l_y (Cls.gs _ _) ((y_conv Tryz.underlying83 Tryz.underlying5 rfl).lit (u8nat _)) rfl ?_
            refine l_n rfl (n_buildSlice (l := [.int .u8 0, .int .u8 0, .int .u8 0, .int .u8 0]) Tryz.underlying41 ty5 (.o rfl) rfl (by simp) (by kernel_rfl) (.c rfl (.c rfl (.c rfl (.c rfl .n)))) (.c rfl (.o rfl) rfl rfl (.t .d) (.c rfl (.o rfl) rfl rfl (.s (.t .d)) (.c rfl (.o rfl) rfl rfl (.s (.s (.t .d))) (.c rfl (.o rfl) rfl rfl (.s (.s (.s (.t .d)))) .d)))) rfl) (fun b4 _ => ?_)
            refine l_n rfl (n_appendM (v := u6) 140000 Tryz.underlying41 ti5 hu6.1 (.c (.c (.c .z))) rfl rfl .z rfl rfl (by decide) (by have e := congrArg List.length hu6e; rw [List.length_map] at e; omega) rfl rfl) (fun u7 hu7 => ?_)
            refine l_y (Cls.gs _ _) (y_assign rfl) rfl ?_
            refine l_y (Cls.gs _ _) (y_assign rfl) rfl ?_
            refine l_nil ?_
            refine e_then ?_
            refine CJ.weak (.c (t := 2) rfl (.c (t := 3) rfl .n)) (fun _ h => h) ?_
            refine c_ret ?_
            refine e_ret rfl (.t rfl (.t rfl .n)) (fun wF hw => ?_)
            have hw := hw.thin (.d .r)
            exact ⟨u7, rfl, (hw.anc (w, []) (by simp)).below, Cls.vin hu7.1 hw (.c (.c .z)) .z, hu7.1, by rw [hu7.2, hu6e]; unfold packB crcB; rw [List.map_append]; rfl⟩

end Go.Proofs.YtpjacndlbjeehaaGreatDoor
