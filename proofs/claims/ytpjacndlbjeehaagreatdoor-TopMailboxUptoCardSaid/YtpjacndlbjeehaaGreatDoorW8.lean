/-
  A part of the proof of TopMailbox: walks of single functions, and plain facts.
-/
import Derived.Test.YtpjacndlbjeehaaGreatDoorPf
import Derived.Test.YtpjacndlbjeehaaGreatDoorM5
import Derived.Test.YtpjacndlbjeehaaGreatDoorW7
import Derived.Test.YtpjacndlbjeehaaGreatDoorW8a
import Derived.KernelRfl
set_option linter.unusedVariables false
set_option linter.unusedSimpArgs false
set_option maxRecDepth 100000
namespace Go.Proofs.YtpjacndlbjeehaaGreatDoor
open Go Go.Px Mb
def tailB (a : Al) : List Nat := (if a.kind = 6 then numB a.of_.toNat else numB a.object.toNat ++ (endsB a.ra ++ (endsB a.dec ++ endsB a.flux))) ++ crcB (crcV (bodyB a))
theorem packB_len (a : Al) : (packB a).length = (bodyB a).length + 1 + 1 + 1 + 1 := by simp [packB, crcB]
theorem pack_split (a : Al) : (packB a).drop 0 = 165 :: (a.kind.toNat + 16 * flagsOf a) :: (numB a.id.toNat ++ (endsB a.at_ ++ tailB a)) := by
  rw [List.drop_zero]
  simp only [packB, tailB]
  generalize crcB (crcV (bodyB a)) = t
  simp only [bodyB, List.cons_append, List.append_assoc]
theorem pack_crc0 (a : Al) : (packB a).drop (bodyB a).length = (crcB (crcV (bodyB a)))[0]! :: (crcB (crcV (bodyB a)))[1]! :: (crcB (crcV (bodyB a)))[2]! :: (crcB (crcV (bodyB a)))[3]! :: [] := by
  unfold packB
  rw [List.drop_left]
  rfl
theorem tail6 {a : Al} (hk : a.kind = 6) : tailB a = numB a.of_.toNat ++ crcB (crcV (bodyB a)) := by rw [tailB, if_pos hk]
theorem tailN {a : Al} (hk : a.kind ≠ 6) : tailB a = numB a.object.toNat ++ (endsB a.ra ++ (endsB a.dec ++ (endsB a.flux ++ crcB (crcV (bodyB a))))) := by rw [tailB, if_neg hk]; simp only [List.append_assoc]
theorem body6_len {a : Al} (hk : a.kind = 6) : 0 + 1 + 1 + (numB a.id.toNat).length + (endsB a.at_).length + (numB a.of_.toNat).length = (bodyB a).length := by
  simp only [bodyB, if_pos hk, List.length_cons, List.length_append]; omega
theorem bodyN_len {a : Al} (hk : a.kind ≠ 6) : 0 + 1 + 1 + (numB a.id.toNat).length + (endsB a.at_).length + (numB a.object.toNat).length + (endsB a.ra).length + (endsB a.dec).length + (endsB a.flux).length = (bodyB a).length := by
  simp only [bodyB, if_neg hk, List.length_cons, List.length_append]; omega
theorem elts_body {w : World} {ad : Option Addr} {a : Al} (h : Elts w ad 1 ((packB a).map bC)) : Elts w ad 1 ((bodyB a).map bC) := by
  unfold packB at h
  rw [List.map_append] at h
  exact elts_pre h
theorem unpack10 (a : Al) (h : AlOK a) (ad : Option Addr) (c : Nat) (hc : (packB a).length ≤ c) (w : World) (hI : Elts w ad 1 ((packB a).map bC)) : Calls Tryz.prog 10 #[.slice ad (packB a).length c] w fun e w' => e = .returned (.tuple #[.agg #[.int .i64 a.id, .int .i64 a.kind, .int .i64 a.object, .int .i64 a.at_.lo, .int .i64 a.at_.hi, .bool a.at_.u, .int .i64 a.ra.lo, .int .i64 a.ra.hi, .bool a.ra.u, .int .i64 a.dec.lo, .int .i64 a.dec.hi, .bool a.dec.u, .int .i64 a.flux.lo, .int .i64 a.flux.hi, .bool a.flux.u, .int .i64 a.of_], .int .i64 ((packB a).length : Int), .int .i64 0]) ∧ Gr w w' := by
  have hln : (packB a).length < 1000000 := by rw [packB_len]; have := bodyB_len h; omega
  have d0 : (packB a).drop 0 = 165 :: (a.kind.toNat + 16 * flagsOf a) :: (numB a.id.toNat ++ (endsB a.at_ ++ tailB a)) := pack_split a
  have d1 := (drop_head d0).2
  have d2 := (drop_head d1).2
  have d3 := drop_app d2
  have d4 := drop_app d3
  have dC0 := pack_crc0 a
  have dC1 := (drop_head dC0).2
  have dC2 := (drop_head dC1).2
  have dC3 := (drop_head dC2).2
  have n1 : a.id.toNat < 9223372036854775808 := by have := h.id2; omega
  have n2 : a.object.toNat < 9223372036854775808 := by have := h.ob2; omega
  have n3 : a.of_.toNat < 9223372036854775808 := by have := h.of2; omega
  have q2 := h.ob1
  have hbl := bodyB_len h
  have hpl := packB_len a
  refine enterD Tryz.func10 rfl rfl rfl rfl (Cls.start w) ?_
  refine c_seq ?_
  refine c_text ?_
  refine l_n rfl (n_alloc ty36 .a rfl) (fun b0 _ => ?_)
  refine l_n rfl (n_alloc ty3 (.o rfl) rfl) (fun b1 _ => ?_)
  refine l_n rfl (n_alloc ty37 (.o rfl) rfl) (fun b2 _ => ?_)
  refine l_nil ?_
  refine e_then ?_
  refine c_seq ?_
  refine c_text ?_
  refine l_y (Cls.gs _ _) (y_makeFunc .n (.c rfl (.c rfl (.c rfl .n)))) rfl ?_
  refine l_defer rfl ?_
  refine l_nil ?_
  refine e_then ?_
  refine CJ.weak (.c (t := 0) rfl (.c (t := 2) rfl (.c (t := 3) rfl (.c (t := 4) rfl .n)))) (fun _ h => h) ?_
  refine c_seq ?_
  refine c_text ?_
  refine l_y (Cls.gs _ _) (y_move rfl) rfl ?_
  refine l_y (Cls.gs _ _) (y_build pl88 ty88 .a (.c rfl .n) (.c rfl (.o rfl) rfl rfl (.t .d) .d)) rfl ?_
  refine l_n rfl (n_box rfl .a rfl) (fun b3 _ => ?_)
  refine l_y (Cls.gs _ _) (y_assign rfl) rfl ?_
  refine l_nil ?_
  refine e_then ?_
  refine CJ.weak (.c (t := 0) rfl (.c (t := 2) rfl (.c (t := 3) rfl (.c (t := 4) rfl (.c (t := 5) rfl .n))))) (fun _ h => h) ?_
  refine c_seq ?_
  refine c_seq ?_
  refine c_text ?_
  refine l_y (Cls.gs _ _) (y_move rfl) rfl ?_
  refine l_n rfl (n_callB ent31 (.c rfl .n) .z (fun w' hw' => byte31 (packB a) ad c hln b3 (0) 165 _ (d0) w' (hw'.locM .z) (hw'.anc (w, []) (by simp)) (clsNew hw' .z .z) hI) rfl) (fun _ _ => ?_)
  refine l_y (Cls.gs _ _) ((y_neq rfl rfl).lit (by kernel_rfl : _ = Value.bool false)) rfl ?_
  refine l_nil ?_
  refine e_then ?_
  refine CJ.weak (.c (t := 0) rfl (.c (t := 2) rfl (.c (t := 3) rfl (.c (t := 4) rfl (.c (t := 5) rfl (.c (t := 17) rfl .n)))))) (fun _ h => h) ?_
  refine c_false (by kernel_rfl) ?_
  refine c_skip ?_
  refine e_then ?_
  refine CJ.weak (.c (t := 0) rfl (.c (t := 2) rfl (.c (t := 3) rfl (.c (t := 4) rfl (.c (t := 5) rfl .n))))) (fun _ h => h) ?_
  refine c_seq ?_
  refine c_text ?_
  refine l_y (Cls.gs _ _) (y_move rfl) rfl ?_
  refine l_n rfl (n_callB ent31 (.c rfl .n) .z (fun w' hw' => byte31 (packB a) ad c hln b3 (0 + 1) _ _ (d1) w' (hw'.locM .z) (hw'.anc (w, []) (by simp)) (clsNew hw' .z .z) hI) rfl) (fun _ _ => ?_)
  refine l_y (Cls.gs _ _) ((y_conv Tryz.underlying5 Tryz.underlying3 rfl).lit (convK h)) rfl ?_
  refine l_y (Cls.gs _ _) (y_assign rfl) rfl ?_
  refine l_nil ?_
  refine e_then ?_
  refine CJ.weak (.c (t := 0) rfl (.c (t := 2) rfl (.c (t := 3) rfl (.c (t := 4) rfl (.c (t := 5) rfl (.c (t := 6) rfl .n)))))) (fun _ h => h) ?_
  refine c_seq ?_
  refine c_text ?_
  refine l_y (Cls.gs _ _) (y_move rfl) rfl ?_
  refine l_y (Cls.gs _ _) ((y_shr rfl rfl (by decide)).lit (flagsSh h)) rfl ?_
  refine l_y (Cls.gs _ _) (y_assign rfl) rfl ?_
  refine l_nil ?_
  refine e_then ?_
  refine CJ.weak (.c (t := 0) rfl (.c (t := 2) rfl (.c (t := 3) rfl (.c (t := 4) rfl (.c (t := 5) rfl (.c (t := 6) rfl (.c (t := 7) rfl .n))))))) (fun _ h => h) ?_
  refine c_seq ?_
  refine c_text ?_
  refine l_y (Cls.gs _ _) (y_move rfl) rfl ?_
  refine l_y (Cls.gs _ _) ((y_band rfl rfl).lit (kindOf h)) rfl ?_
  refine l_y (Cls.gs _ _) (y_fieldAddr rfl fa36_1) rfl ?_
  refine l_n rfl (n_store rfl rfl ty3 (.o rfl) rfl rfl (.s (.s (.s .z))) (.s (.t .d))) (fun _ _ => ?_)
  refine l_nil ?_
  refine e_then ?_
  refine CJ.weak (.c (t := 0) rfl (.c (t := 2) rfl (.c (t := 3) rfl (.c (t := 4) rfl (.c (t := 5) rfl (.c (t := 7) rfl .n)))))) (fun _ h => h) ?_
  refine c_seq ?_
  refine c_text ?_
  refine l_y (Cls.gs _ _) (y_move rfl) rfl ?_
  refine l_n rfl (n_callB ent32 (.c rfl .n) .z (fun w' hw' => number32 (packB a) ad c hln b3 (0 + 1 + 1) a.id.toNat n1 _ (d2) w' (hw'.locM .z) (hw'.anc (w, []) (by simp)) (clsNew hw' .z .z) hI) rfl) (fun _ _ => ?_)
  refine l_y (Cls.gs _ _) (y_fieldAddr rfl fa36_0) rfl ?_
  refine l_n rfl (n_store rfl rfl ty3 (.o rfl) rfl rfl (.s (.s (.s .z))) (.t .d)) (fun _ _ => ?_)
  refine l_nil ?_
  refine e_then ?_
  refine CJ.weak (.c (t := 0) rfl (.c (t := 2) rfl (.c (t := 3) rfl (.c (t := 4) rfl (.c (t := 5) rfl (.c (t := 7) rfl .n)))))) (fun _ h => h) ?_
  refine c_seq ?_
  refine c_text ?_
  refine l_y (Cls.gs _ _) (y_move rfl) rfl ?_
  refine l_y (Cls.gs _ _) (y_move rfl) rfl ?_
  refine l_y (Cls.gs _ _) (y_band rfl rfl) rfl ?_
  refine l_y (Cls.gs _ _) ((y_gtr rfl rfl).lit (flagBit1 a)) rfl ?_
  refine l_n rfl (n_callB ent33 (.c rfl (.c rfl .n)) .z (fun w' hw' => ended33 (packB a) ad c hln b3 (0 + 1 + 1 + (numB a.id.toNat).length) a.at_ h.at_ _ (d3) w' (hw'.locM .z) (hw'.anc (w, []) (by simp)) (clsNew hw' .z .z) hI) rfl) (fun _ _ => ?_)
  refine l_y (Cls.gs _ _) (y_fieldAddr rfl fa36_3) rfl ?_
  refine l_n rfl (n_store rfl rfl ty28 .a rfl rfl (.s (.s (.s .z))) (.s (.s (.s (.t (.t (.t .d))))))) (fun _ _ => ?_)
  refine l_nil ?_
  refine e_then ?_
  refine CJ.weak (.c (t := 0) rfl (.c (t := 2) rfl (.c (t := 3) rfl (.c (t := 4) rfl (.c (t := 5) rfl (.c (t := 7) rfl .n)))))) (fun _ h => h) ?_
  refine c_seq ?_
  refine c_seq ?_
  refine c_text ?_
  refine l_y (Cls.gs _ _) (y_fieldAddr rfl fa36_1) rfl ?_
  refine l_y (Cls.gs _ _) (y_load rfl (LoadAt.oneL (.s (.s (.s .z))) ty3 (.s .z))) rfl ?_
  refine l_y (Cls.gs _ _) (y_eql rfl rfl) rfl ?_
  refine l_nil ?_
  refine e_then ?_
  refine CJ.weak (.c (t := 0) rfl (.c (t := 2) rfl (.c (t := 3) rfl (.c (t := 4) rfl (.c (t := 5) rfl (.c (t := 7) rfl (.c (t := 38) rfl .n))))))) (fun _ h => h) ?_
  refine c_cond rfl (fun h0 => ?_) (fun h0 => ?_)
  · have hk : a.kind = 6 := of_decide_eq_true h0
    have ea := al_rt h hk
    have haX : AlOK ⟨((a.id.toNat : Nat) : Int), a.kind, 0, ⟨a.at_.lo, a.at_.hi, a.at_.u⟩, ⟨0, 0, false⟩, ⟨0, 0, false⟩, ⟨0, 0, false⟩, ((a.of_.toNat : Nat) : Int)⟩ := by rw [ea]; exact h
    rw [tail6 hk] at d4
    have hib : 0 + 1 + 1 + (numB a.id.toNat).length + (endsB a.at_).length + (numB a.of_.toNat).length = (bodyB a).length := body6_len hk
    refine c_text ?_
    refine l_y (Cls.gs _ _) (y_move rfl) rfl ?_
    refine l_n rfl (n_callB ent32 (.c rfl .n) .z (fun w' hw' => number32 (packB a) ad c hln b3 (0 + 1 + 1 + (numB a.id.toNat).length + (endsB a.at_).length) a.of_.toNat n3 _ (d4) w' (hw'.locM .z) (hw'.anc (w, []) (by simp)) (clsNew hw' .z .z) hI) rfl) (fun _ _ => ?_)
    refine l_y (Cls.gs _ _) (y_fieldAddr rfl fa36_7) rfl ?_
    refine l_n rfl (n_store rfl rfl ty3 (.o rfl) rfl rfl (.s (.s (.s .z))) (.s (.s (.s (.s (.s (.s (.s (.s (.s (.s (.s (.s (.s (.s (.s (.t .d))))))))))))))))) (fun _ _ => ?_)
    refine l_nil ?_
    refine e_then ?_
    refine CJ.weak (.c (t := 0) rfl (.c (t := 2) rfl (.c (t := 3) rfl (.c (t := 4) rfl (.c (t := 5) rfl (.c (t := 7) rfl .n)))))) (fun _ h => h) ?_
    refine c_seq ?_
    rw [hib]
    refine c_text ?_
    refine l_y (Cls.gs _ _) (y_move rfl) rfl ?_
    refine l_y (Cls.gs _ _) (y_move rfl) rfl ?_
    refine l_y (Cls.gs _ _) (y_nilCheck rfl) rfl ?_
    refine l_y (Cls.gs _ _) (y_fieldAddr rfl fa88_1) rfl ?_
    refine l_y (Cls.gs _ _) (y_load rfl (LoadAt.oneL .z ty3 (.s .z))) rfl ?_
    refine l_y (Cls.gs _ _) (y_sliceH Tryz.underlying41 ty5 rfl rfl (by omega)) rfl ?_
    refine l_y (Cls.gs _ _) (y_call ent29 (.c rfl .n) (fun w' hw' => sum29 (bodyB a) ad c (by omega) w' (elts_body (hI.gr (hw'.gr .z))))) rfl ?_
    refine l_y (Cls.gs _ _) (y_assign rfl) rfl ?_
    refine l_nil ?_
    refine e_then ?_
    refine CJ.weak (.c (t := 2) rfl (.c (t := 3) rfl (.c (t := 4) rfl (.c (t := 5) rfl (.c (t := 7) rfl (.c (t := 8) rfl .n)))))) (fun _ h => h) ?_
    refine c_seq ?_
    refine c_seq ?_
    refine c_text ?_
    refine l_y (Cls.gs _ _) (y_assign rfl) rfl ?_
    refine l_nil ?_
    refine e_then ?_
    refine c_block ?_
    refine c_rounds 6 ?_
    refine r_succ ?_
    refine c_seq ?_
    refine c_seq ?_
    refine c_text ?_
    refine l_y (Cls.gs _ _) (y_move rfl) rfl ?_
    refine l_y (Cls.gs _ _) ((y_geq rfl rfl).lit (by kernel_rfl : _ = Value.bool true)) rfl ?_
    refine l_nil ?_
    refine e_then ?_
    refine CJ.weak (.c (t := 2) rfl (.c (t := 3) rfl (.c (t := 4) rfl (.c (t := 5) rfl (.c (t := 7) rfl (.c (t := 8) rfl (.c (t := 9) rfl (.c (t := 71) rfl .n)))))))) (fun _ h => h) ?_
    refine c_true (by kernel_rfl) ?_
    refine c_skip ?_
    refine e_then ?_
    refine CJ.weak (.c (t := 2) rfl (.c (t := 3) rfl (.c (t := 4) rfl (.c (t := 5) rfl (.c (t := 7) rfl (.c (t := 8) rfl (.c (t := 9) rfl .n))))))) (fun _ h => h) ?_
    refine c_seq ?_
    refine c_block ?_
    refine c_seq ?_
    refine c_draw (m := 7) (S0 := fun _ => True) (fun i => Nat.beq i 1) (fun _ _ => trivial) hmix (Cls.gs _ _) rfl ?_
    refine a_y (i := 0) (Cls.gs _ _) (by kernel_rfl) rfl (by kernel_rfl) (by kernel_rfl) (y_move rfl) rfl ?_
    refine a_yM (i := 2) (Cls.gs _ _) (by kernel_rfl) rfl (by kernel_rfl) (by kernel_rfl) (y_move rfl) rfl ?_
    refine a_yM (i := 3) (Cls.gs _ _) (by kernel_rfl) rfl (by kernel_rfl) (by kernel_rfl) (y_move rfl) rfl ?_
    refine a_yM (i := 4) (Cls.gs _ _) (by kernel_rfl) rfl (by kernel_rfl) (by kernel_rfl) (y_shr rfl rfl (by decide)) rfl ?_
    refine a_yM (i := 5) (Cls.gs _ _) (by kernel_rfl) rfl (by kernel_rfl) (by kernel_rfl) ((y_conv Tryz.underlying83 Tryz.underlying5 rfl).lit (u8nat _)) rfl ?_
    refine a_n (i := 1) rfl rfl (by kernel_rfl) (fun _ => Cls.gs _ _) (.inl ⟨rfl, fun _ _ _ => trivial⟩) (n_callB ent31 (.c rfl .n) .z (fun w' hw' => byte31 (packB a) ad c hln b3 ((bodyB a).length) _ _ (dC0) w' (hw'.locM .z) (hw'.anc (w, []) (by simp)) (clsNew hw' .z .z) hI) rfl) (fun _ _ => ?_)
    refine a_y (i := 6) (Cls.gs _ _) (by kernel_rfl) rfl (by kernel_rfl) (by kernel_rfl) ((y_neq rfl rfl).lit (neqC (by first | rfl | (rw [shr0]; rfl)))) rfl ?_
    refine a_done (by kernel_rfl) ?_
    refine e_then ?_
    refine CJ.weak (.c (t := 2) rfl (.c (t := 3) rfl (.c (t := 4) rfl (.c (t := 5) rfl (.c (t := 7) rfl (.c (t := 8) rfl (.c (t := 9) rfl (.c (t := 80) rfl .n)))))))) (fun _ h => h) ?_
    refine c_false (by kernel_rfl) ?_
    refine c_skip ?_
    refine e_block ?_
    refine e_then ?_
    refine CJ.weak (.c (t := 2) rfl (.c (t := 3) rfl (.c (t := 4) rfl (.c (t := 5) rfl (.c (t := 7) rfl (.c (t := 8) rfl (.c (t := 9) rfl .n))))))) (fun _ h => h) ?_
    refine c_text ?_
    refine l_y (Cls.gs _ _) (y_move rfl) rfl ?_
    refine l_y (Cls.gs _ _) ((y_sub rfl rfl).lit (by kernel_rfl : _ = Value.int .i64 16)) rfl ?_
    refine l_y (Cls.gs _ _) (y_assign rfl) rfl ?_
    refine l_nil ?_
    refine e_rounds ?_
    refine RJ.weak (.c (t := 2) rfl (.c (t := 3) rfl (.c (t := 4) rfl (.c (t := 5) rfl (.c (t := 7) rfl (.c (t := 8) rfl (.c (t := 9) rfl .n))))))) (fun _ h => h) ?_
    refine r_succ ?_
    refine c_seq ?_
    refine c_seq ?_
    refine c_text ?_
    refine l_y (Cls.gs _ _) (y_move rfl) rfl ?_
    refine l_y (Cls.gs _ _) ((y_geq rfl rfl).lit (by kernel_rfl : _ = Value.bool true)) rfl ?_
    refine l_nil ?_
    refine e_then ?_
    refine CJ.weak (.c (t := 2) rfl (.c (t := 3) rfl (.c (t := 4) rfl (.c (t := 5) rfl (.c (t := 7) rfl (.c (t := 8) rfl (.c (t := 9) rfl (.c (t := 71) rfl .n)))))))) (fun _ h => h) ?_
    refine c_true (by kernel_rfl) ?_
    refine c_skip ?_
    refine e_then ?_
    refine CJ.weak (.c (t := 2) rfl (.c (t := 3) rfl (.c (t := 4) rfl (.c (t := 5) rfl (.c (t := 7) rfl (.c (t := 8) rfl (.c (t := 9) rfl .n))))))) (fun _ h => h) ?_
    refine c_seq ?_
    refine c_block ?_
    refine c_seq ?_
    refine c_draw (m := 7) (S0 := fun _ => True) (fun i => Nat.beq i 1) (fun _ _ => trivial) hmix (Cls.gs _ _) rfl ?_
    refine a_y (i := 0) (Cls.gs _ _) (by kernel_rfl) rfl (by kernel_rfl) (by kernel_rfl) (y_move rfl) rfl ?_
    refine a_yM (i := 2) (Cls.gs _ _) (by kernel_rfl) rfl (by kernel_rfl) (by kernel_rfl) (y_move rfl) rfl ?_
    refine a_yM (i := 3) (Cls.gs _ _) (by kernel_rfl) rfl (by kernel_rfl) (by kernel_rfl) (y_move rfl) rfl ?_
    refine a_yM (i := 4) (Cls.gs _ _) (by kernel_rfl) rfl (by kernel_rfl) (by kernel_rfl) (y_shr rfl rfl (by decide)) rfl ?_
    refine a_yM (i := 5) (Cls.gs _ _) (by kernel_rfl) rfl (by kernel_rfl) (by kernel_rfl) ((y_conv Tryz.underlying83 Tryz.underlying5 rfl).lit (u8nat _)) rfl ?_
    refine a_n (i := 1) rfl rfl (by kernel_rfl) (fun _ => Cls.gs _ _) (.inl ⟨rfl, fun _ _ _ => trivial⟩) (n_callB ent31 (.c rfl .n) .z (fun w' hw' => byte31 (packB a) ad c hln b3 ((bodyB a).length + 1) _ _ (dC1) w' (hw'.locM .z) (hw'.anc (w, []) (by simp)) (clsNew hw' .z .z) hI) rfl) (fun _ _ => ?_)
    refine a_y (i := 6) (Cls.gs _ _) (by kernel_rfl) rfl (by kernel_rfl) (by kernel_rfl) ((y_neq rfl rfl).lit (neqC (by first | rfl | (rw [shr0]; rfl)))) rfl ?_
    refine a_done (by kernel_rfl) ?_
    refine e_then ?_
    refine CJ.weak (.c (t := 2) rfl (.c (t := 3) rfl (.c (t := 4) rfl (.c (t := 5) rfl (.c (t := 7) rfl (.c (t := 8) rfl (.c (t := 9) rfl (.c (t := 80) rfl .n)))))))) (fun _ h => h) ?_
    refine c_false (by kernel_rfl) ?_
    refine c_skip ?_
    refine e_block ?_
    refine e_then ?_
    refine CJ.weak (.c (t := 2) rfl (.c (t := 3) rfl (.c (t := 4) rfl (.c (t := 5) rfl (.c (t := 7) rfl (.c (t := 8) rfl (.c (t := 9) rfl .n))))))) (fun _ h => h) ?_
    refine c_text ?_
    refine l_y (Cls.gs _ _) (y_move rfl) rfl ?_
    refine l_y (Cls.gs _ _) ((y_sub rfl rfl).lit (by kernel_rfl : _ = Value.int .i64 8)) rfl ?_
    refine l_y (Cls.gs _ _) (y_assign rfl) rfl ?_
    refine l_nil ?_
    refine e_rounds ?_
    refine RJ.weak (.c (t := 2) rfl (.c (t := 3) rfl (.c (t := 4) rfl (.c (t := 5) rfl (.c (t := 7) rfl (.c (t := 8) rfl (.c (t := 9) rfl .n))))))) (fun _ h => h) ?_
    refine r_succ ?_
    refine c_seq ?_
    refine c_seq ?_
    refine c_text ?_
    refine l_y (Cls.gs _ _) (y_move rfl) rfl ?_
    refine l_y (Cls.gs _ _) ((y_geq rfl rfl).lit (by kernel_rfl : _ = Value.bool true)) rfl ?_
    refine l_nil ?_
    refine e_then ?_
    refine CJ.weak (.c (t := 2) rfl (.c (t := 3) rfl (.c (t := 4) rfl (.c (t := 5) rfl (.c (t := 7) rfl (.c (t := 8) rfl (.c (t := 9) rfl (.c (t := 71) rfl .n)))))))) (fun _ h => h) ?_
    refine c_true (by kernel_rfl) ?_
    refine c_skip ?_
    refine e_then ?_
    refine CJ.weak (.c (t := 2) rfl (.c (t := 3) rfl (.c (t := 4) rfl (.c (t := 5) rfl (.c (t := 7) rfl (.c (t := 8) rfl (.c (t := 9) rfl .n))))))) (fun _ h => h) ?_
    refine c_seq ?_
    refine c_block ?_
    refine c_seq ?_
    refine c_draw (m := 7) (S0 := fun _ => True) (fun i => Nat.beq i 1) (fun _ _ => trivial) hmix (Cls.gs _ _) rfl ?_
    refine a_y (i := 0) (Cls.gs _ _) (by kernel_rfl) rfl (by kernel_rfl) (by kernel_rfl) (y_move rfl) rfl ?_
    refine a_yM (i := 2) (Cls.gs _ _) (by kernel_rfl) rfl (by kernel_rfl) (by kernel_rfl) (y_move rfl) rfl ?_
    refine a_yM (i := 3) (Cls.gs _ _) (by kernel_rfl) rfl (by kernel_rfl) (by kernel_rfl) (y_move rfl) rfl ?_
    refine a_yM (i := 4) (Cls.gs _ _) (by kernel_rfl) rfl (by kernel_rfl) (by kernel_rfl) (y_shr rfl rfl (by decide)) rfl ?_
    refine a_yM (i := 5) (Cls.gs _ _) (by kernel_rfl) rfl (by kernel_rfl) (by kernel_rfl) ((y_conv Tryz.underlying83 Tryz.underlying5 rfl).lit (u8nat _)) rfl ?_
    refine a_n (i := 1) rfl rfl (by kernel_rfl) (fun _ => Cls.gs _ _) (.inl ⟨rfl, fun _ _ _ => trivial⟩) (n_callB ent31 (.c rfl .n) .z (fun w' hw' => byte31 (packB a) ad c hln b3 ((bodyB a).length + 1 + 1) _ _ (dC2) w' (hw'.locM .z) (hw'.anc (w, []) (by simp)) (clsNew hw' .z .z) hI) rfl) (fun _ _ => ?_)
    refine a_y (i := 6) (Cls.gs _ _) (by kernel_rfl) rfl (by kernel_rfl) (by kernel_rfl) ((y_neq rfl rfl).lit (neqC (by first | rfl | (rw [shr0]; rfl)))) rfl ?_
    refine a_done (by kernel_rfl) ?_
    refine e_then ?_
    refine CJ.weak (.c (t := 2) rfl (.c (t := 3) rfl (.c (t := 4) rfl (.c (t := 5) rfl (.c (t := 7) rfl (.c (t := 8) rfl (.c (t := 9) rfl (.c (t := 80) rfl .n)))))))) (fun _ h => h) ?_
    refine c_false (by kernel_rfl) ?_
    refine c_skip ?_
    refine e_block ?_
    refine e_then ?_
    refine CJ.weak (.c (t := 2) rfl (.c (t := 3) rfl (.c (t := 4) rfl (.c (t := 5) rfl (.c (t := 7) rfl (.c (t := 8) rfl (.c (t := 9) rfl .n))))))) (fun _ h => h) ?_
    refine c_text ?_
    refine l_y (Cls.gs _ _) (y_move rfl) rfl ?_
    refine l_y (Cls.gs _ _) ((y_sub rfl rfl).lit (by kernel_rfl : _ = Value.int .i64 0)) rfl ?_
    refine l_y (Cls.gs _ _) (y_assign rfl) rfl ?_
    refine l_nil ?_
    refine e_rounds ?_
    refine RJ.weak (.c (t := 2) rfl (.c (t := 3) rfl (.c (t := 4) rfl (.c (t := 5) rfl (.c (t := 7) rfl (.c (t := 8) rfl (.c (t := 9) rfl .n))))))) (fun _ h => h) ?_
    refine r_succ ?_
    refine c_seq ?_
    refine c_seq ?_
    refine c_text ?_
    refine l_y (Cls.gs _ _) (y_move rfl) rfl ?_
    refine l_y (Cls.gs _ _) ((y_geq rfl rfl).lit (by kernel_rfl : _ = Value.bool true)) rfl ?_
    refine l_nil ?_
    refine e_then ?_
    refine CJ.weak (.c (t := 2) rfl (.c (t := 3) rfl (.c (t := 4) rfl (.c (t := 5) rfl (.c (t := 7) rfl (.c (t := 8) rfl (.c (t := 9) rfl (.c (t := 71) rfl .n)))))))) (fun _ h => h) ?_
    refine c_true (by kernel_rfl) ?_
    refine c_skip ?_
    refine e_then ?_
    refine CJ.weak (.c (t := 2) rfl (.c (t := 3) rfl (.c (t := 4) rfl (.c (t := 5) rfl (.c (t := 7) rfl (.c (t := 8) rfl (.c (t := 9) rfl .n))))))) (fun _ h => h) ?_
    refine c_seq ?_
    refine c_block ?_
    refine c_seq ?_
    refine c_draw (m := 7) (S0 := fun _ => True) (fun i => Nat.beq i 1) (fun _ _ => trivial) hmix (Cls.gs _ _) rfl ?_
    refine a_y (i := 0) (Cls.gs _ _) (by kernel_rfl) rfl (by kernel_rfl) (by kernel_rfl) (y_move rfl) rfl ?_
    refine a_yM (i := 2) (Cls.gs _ _) (by kernel_rfl) rfl (by kernel_rfl) (by kernel_rfl) (y_move rfl) rfl ?_
    refine a_yM (i := 3) (Cls.gs _ _) (by kernel_rfl) rfl (by kernel_rfl) (by kernel_rfl) (y_move rfl) rfl ?_
    refine a_yM (i := 4) (Cls.gs _ _) (by kernel_rfl) rfl (by kernel_rfl) (by kernel_rfl) (y_shr rfl rfl (by decide)) rfl ?_
    refine a_yM (i := 5) (Cls.gs _ _) (by kernel_rfl) rfl (by kernel_rfl) (by kernel_rfl) ((y_conv Tryz.underlying83 Tryz.underlying5 rfl).lit (u8nat _)) rfl ?_
    refine a_n (i := 1) rfl rfl (by kernel_rfl) (fun _ => Cls.gs _ _) (.inl ⟨rfl, fun _ _ _ => trivial⟩) (n_callB ent31 (.c rfl .n) .z (fun w' hw' => byte31 (packB a) ad c hln b3 ((bodyB a).length + 1 + 1 + 1) _ _ (dC3) w' (hw'.locM .z) (hw'.anc (w, []) (by simp)) (clsNew hw' .z .z) hI) rfl) (fun _ _ => ?_)
    refine a_y (i := 6) (Cls.gs _ _) (by kernel_rfl) rfl (by kernel_rfl) (by kernel_rfl) ((y_neq rfl rfl).lit (neqC (by first | rfl | (rw [shr0]; rfl)))) rfl ?_
    refine a_done (by kernel_rfl) ?_
    refine e_then ?_
    refine CJ.weak (.c (t := 2) rfl (.c (t := 3) rfl (.c (t := 4) rfl (.c (t := 5) rfl (.c (t := 7) rfl (.c (t := 8) rfl (.c (t := 9) rfl (.c (t := 80) rfl .n)))))))) (fun _ h => h) ?_
    refine c_false (by kernel_rfl) ?_
    refine c_skip ?_
    refine e_block ?_
    refine e_then ?_
    refine CJ.weak (.c (t := 2) rfl (.c (t := 3) rfl (.c (t := 4) rfl (.c (t := 5) rfl (.c (t := 7) rfl (.c (t := 8) rfl (.c (t := 9) rfl .n))))))) (fun _ h => h) ?_
    refine c_text ?_
    refine l_y (Cls.gs _ _) (y_move rfl) rfl ?_
    refine l_y (Cls.gs _ _) ((y_sub rfl rfl).lit (by kernel_rfl : _ = Value.int .i64 (-8))) rfl ?_
    refine l_y (Cls.gs _ _) (y_assign rfl) rfl ?_
    refine l_nil ?_
    refine e_rounds ?_
    refine RJ.weak (.c (t := 2) rfl (.c (t := 3) rfl (.c (t := 4) rfl (.c (t := 5) rfl (.c (t := 7) rfl (.c (t := 8) rfl (.c (t := 9) rfl .n))))))) (fun _ h => h) ?_
    refine r_succ ?_
    refine c_seq ?_
    refine c_seq ?_
    refine c_text ?_
    refine l_y (Cls.gs _ _) (y_move rfl) rfl ?_
    refine l_y (Cls.gs _ _) ((y_geq rfl rfl).lit (by kernel_rfl : _ = Value.bool false)) rfl ?_
    refine l_nil ?_
    refine e_then ?_
    refine CJ.weak (.c (t := 2) rfl (.c (t := 3) rfl (.c (t := 4) rfl (.c (t := 5) rfl (.c (t := 7) rfl (.c (t := 8) rfl (.c (t := 9) rfl (.c (t := 71) rfl .n)))))))) (fun _ h => h) ?_
    refine c_false (by kernel_rfl) ?_
    refine c_exit ?_
    refine e_then_exit ?_
    refine e_then_exit ?_
    refine e_block_hit ?_
    refine e_then ?_
    refine CJ.weak (.c (t := 2) rfl (.c (t := 3) rfl (.c (t := 4) rfl (.c (t := 5) rfl (.c (t := 7) rfl .n))))) (fun _ h => h) ?_
    refine c_seq ?_
    refine c_seq ?_
    refine c_text ?_
    refine l_y (Cls.gs _ _) (y_fieldAddr rfl fa36_1) rfl ?_
    refine l_y (Cls.gs _ _) (y_load rfl (LoadAt.oneL (.s (.s (.s .z))) ty3 (.s .z))) rfl ?_
    refine l_y (Cls.gs _ _) (y_eql rfl rfl) rfl ?_
    refine l_y (Cls.gs _ _) (y_move rfl) rfl ?_
    refine l_g (s := 85) (Cls.gs _ _) (by kernel_rfl) rfl (beq_t _) (fun hg => y_move rfl) rfl ?_
    refine l_g (s := 85) (Cls.gs _ _) (by kernel_rfl) rfl (beq_t _) (fun hg => y_gtr (gvt hg rfl) rfl) rfl ?_
    refine l_y (Cls.gs _ _) (y_and rfl rfl rfl) rfl ?_
    refine l_nil ?_
    refine e_then ?_
    refine CJ.weak (.c (t := 2) rfl (.c (t := 3) rfl (.c (t := 4) rfl (.c (t := 5) rfl (.c (t := 88) rfl .n))))) (fun _ h => h) ?_
    refine c_cond rfl (fun h1 => ?_) (fun h1 => ?_)
    · exfalso
      have := flags6 h hk
      simp only [Bool.and_eq_true, decide_eq_true_eq] at h1
      omega
    ·
      refine c_skip ?_
      refine e_then ?_
      refine CJ.weak (.c (t := 2) rfl (.c (t := 3) rfl (.c (t := 4) rfl (.c (t := 5) rfl .n)))) (fun _ h => h) ?_
      refine c_seq ?_
      refine c_seq ?_
      refine c_text ?_
      refine l_y (Cls.gs _ _) (y_load rfl (LoadAt.aggL (.s (.s (.s .z))) ty36 (.t (.t (.t (.t (.t (.t (.t (.t (.t (.t (.t (.t (.t (.t (.t (.t .d)))))))))))))))))) rfl ?_
      refine l_y (Cls.gs _ _) (y_call ent24 (.c rfl .n) (fun w _ => check24 _ haX w)) rfl ?_
      refine l_y (Cls.gs _ _) (y_assign rfl) rfl ?_
      refine l_nil ?_
      refine e_then ?_
      refine CJ.weak (.c (t := 2) rfl (.c (t := 3) rfl (.c (t := 4) rfl (.c (t := 5) rfl (.c (t := 10) rfl .n))))) (fun _ h => h) ?_
      refine c_seq ?_
      refine c_text ?_
      refine l_y (Cls.gs _ _) (y_move rfl) rfl ?_
      refine l_y (Cls.gs _ _) ((y_neq rfl rfl).lit (by kernel_rfl : _ = Value.bool false)) rfl ?_
      refine l_nil ?_
      refine e_then ?_
      refine CJ.weak (.c (t := 2) rfl (.c (t := 3) rfl (.c (t := 4) rfl (.c (t := 5) rfl (.c (t := 10) rfl (.c (t := 93) rfl .n)))))) (fun _ h => h) ?_
      refine c_false (by kernel_rfl) ?_
      refine c_skip ?_
      refine e_then ?_
      refine CJ.weak (.c (t := 2) rfl (.c (t := 3) rfl (.c (t := 4) rfl (.c (t := 5) rfl .n)))) (fun _ h => h) ?_
      refine c_seq ?_
      refine c_draw (m := 8) (fun i => Nat.beq i 5 || Nat.beq i 6 || Nat.beq i 7) (fun _ h => h.thin (.k (.d (.d (.d .r))))) hmix (Cls.gs _ _) rfl ?_
      refine a_y (i := 0) (Cls.gs _ _) (by kernel_rfl) rfl (by kernel_rfl) (by kernel_rfl) (y_load rfl (LoadAt.aggL (.s (.s (.s .z))) ty36 (.t (.t (.t (.t (.t (.t (.t (.t (.t (.t (.t (.t (.t (.t (.t (.t .d)))))))))))))))))) rfl ?_
      refine a_yM (i := 1) (Cls.gs _ _) (by kernel_rfl) rfl (by kernel_rfl) (by kernel_rfl) (y_move rfl) rfl ?_
      refine a_yM (i := 2) (Cls.gs _ _) (by kernel_rfl) rfl (by kernel_rfl) (by kernel_rfl) (y_nilCheck rfl) rfl ?_
      refine a_yM (i := 3) (Cls.gs _ _) (by kernel_rfl) rfl (by kernel_rfl) (by kernel_rfl) (y_fieldAddr rfl fa88_1) rfl ?_
      refine a_yM (i := 4) (Cls.gs _ _) (by kernel_rfl) rfl (by kernel_rfl) (by kernel_rfl) (y_load rfl (LoadAt.oneL .z ty3 (.s .z))) rfl ?_
      refine a_n (i := 5) rfl rfl (by kernel_rfl) (fun _ => Cls.gs _ _) (.inl ⟨rfl, fun _ _ h => h.thin (.k (.d (.d (.d .r))))⟩) (n_store rfl rfl ty36 .a rfl rfl (.s (.s (.s .z))) (.t (.t (.t (.t (.t (.t (.t (.t (.t (.t (.t (.t (.t (.t (.t (.t .d))))))))))))))))) (fun _ _ => ?_)
      refine a_n (i := 6) rfl rfl (by kernel_rfl) (fun _ => Cls.gs _ _) (.inl ⟨rfl, fun _ _ h => h.thin (.k (.d (.d (.d .r))))⟩) (n_store rfl rfl ty3 (.o rfl) rfl rfl (.s (.s .z)) (.t .d)) (fun _ _ => ?_)
      refine a_n (i := 7) rfl rfl (by kernel_rfl) (fun _ => Cls.gs _ _) (.inl ⟨rfl, fun _ _ h => h.thin (.k (.d (.d (.d .r))))⟩) (n_store rfl rfl ty37 (.o rfl) rfl rfl (.s .z) (.t .d)) (fun _ _ => ?_)
      refine a_done (by kernel_rfl) ?_
      refine e_then ?_
      refine CJ.weak (.c (t := 2) rfl (.c (t := 3) rfl (.c (t := 4) rfl .n))) (fun _ h => h) ?_
      refine c_ret ?_
      refine e_retD ent30 (idle30 _ _ _) (Cls.gs _ _) rfl (.c rfl (LoadAt.aggL (.s (.s (.s .z))) ty36 (.t (.t (.t (.t (.t (.t (.t (.t (.t (.t (.t (.t (.t (.t (.t (.t .d))))))))))))))))) (.c rfl (LoadAt.oneL (.s (.s .z)) ty3 .z) (.c rfl (LoadAt.oneL (.s .z) ty37 .z) .n))) (fun wF hw => ?_)
      exact ⟨by rw [packB_len]; exact congrArg (fun z : Al => Ending.returned (.tuple #[.agg (Al.cells z).toArray, .int .i64 (((bodyB a).length + 1 + 1 + 1 + 1 : Nat) : Int), .int .i64 0])) ea, (hw.anc (w, []) (by simp)).below⟩
  · have hk : a.kind ≠ 6 := of_decide_eq_false h0
    have ea := al_nr h hk
    have haX : AlOK ⟨((a.id.toNat : Nat) : Int), a.kind, ((a.object.toNat : Nat) : Int), ⟨a.at_.lo, a.at_.hi, a.at_.u⟩, ⟨a.ra.lo, a.ra.hi, a.ra.u⟩, ⟨a.dec.lo, a.dec.hi, a.dec.u⟩, ⟨a.flux.lo, a.flux.hi, a.flux.u⟩, 0⟩ := by rw [ea]; exact h
    rw [tailN hk] at d4
    have d5 := drop_app d4
    have d6 := drop_app d5
    have d7 := drop_app d6
    have hib : 0 + 1 + 1 + (numB a.id.toNat).length + (endsB a.at_).length + (numB a.object.toNat).length + (endsB a.ra).length + (endsB a.dec).length + (endsB a.flux).length = (bodyB a).length := bodyN_len hk
    refine c_seq ?_
    refine c_text ?_
    refine l_y (Cls.gs _ _) (y_move rfl) rfl ?_
    refine l_n rfl (n_callB ent32 (.c rfl .n) .z (fun w' hw' => number32 (packB a) ad c hln b3 (0 + 1 + 1 + (numB a.id.toNat).length + (endsB a.at_).length) a.object.toNat n2 _ (d4) w' (hw'.locM .z) (hw'.anc (w, []) (by simp)) (clsNew hw' .z .z) hI) rfl) (fun _ _ => ?_)
    refine l_y (Cls.gs _ _) (y_fieldAddr rfl fa36_2) rfl ?_
    refine l_n rfl (n_store rfl rfl ty3 (.o rfl) rfl rfl (.s (.s (.s .z))) (.s (.s (.t .d)))) (fun _ _ => ?_)
    refine l_nil ?_
    refine e_then ?_
    refine CJ.weak (.c (t := 0) rfl (.c (t := 2) rfl (.c (t := 3) rfl (.c (t := 4) rfl (.c (t := 5) rfl (.c (t := 7) rfl .n)))))) (fun _ h => h) ?_
    refine c_text ?_
    refine l_y (Cls.gs _ _) (y_move rfl) rfl ?_
    refine l_y (Cls.gs _ _) (y_move rfl) rfl ?_
    refine l_y (Cls.gs _ _) (y_band rfl rfl) rfl ?_
    refine l_y (Cls.gs _ _) ((y_gtr rfl rfl).lit (flagBit2 a)) rfl ?_
    refine l_n rfl (n_callB ent34 (.c rfl (.c rfl .n)) .z (fun w' hw' => ended34 (packB a) ad c hln b3 (0 + 1 + 1 + (numB a.id.toNat).length + (endsB a.at_).length + (numB a.object.toNat).length) a.ra h.ra _ (d5) w' (hw'.locM .z) (hw'.anc (w, []) (by simp)) (clsNew hw' .z .z) hI) rfl) (fun _ _ => ?_)
    refine l_y (Cls.gs _ _) (y_move rfl) rfl ?_
    refine l_y (Cls.gs _ _) (y_move rfl) rfl ?_
    refine l_y (Cls.gs _ _) (y_band rfl rfl) rfl ?_
    refine l_y (Cls.gs _ _) ((y_gtr rfl rfl).lit (flagBit4 a)) rfl ?_
    refine l_n rfl (n_callB ent34 (.c rfl (.c rfl .n)) .z (fun w' hw' => ended34 (packB a) ad c hln b3 (0 + 1 + 1 + (numB a.id.toNat).length + (endsB a.at_).length + (numB a.object.toNat).length + (endsB a.ra).length) a.dec h.dec _ (d6) w' (hw'.locM .z) (hw'.anc (w, []) (by simp)) (clsNew hw' .z .z) hI) rfl) (fun _ _ => ?_)
    refine l_y (Cls.gs _ _) (y_move rfl) rfl ?_
    refine l_y (Cls.gs _ _) (y_move rfl) rfl ?_
    refine l_y (Cls.gs _ _) (y_band rfl rfl) rfl ?_
    refine l_y (Cls.gs _ _) ((y_gtr rfl rfl).lit (flagBit8 a)) rfl ?_
    refine l_n rfl (n_callB ent35 (.c rfl (.c rfl .n)) .z (fun w' hw' => ended35 (packB a) ad c hln b3 (0 + 1 + 1 + (numB a.id.toNat).length + (endsB a.at_).length + (numB a.object.toNat).length + (endsB a.ra).length + (endsB a.dec).length) a.flux h.flux _ (d7) w' (hw'.locM .z) (hw'.anc (w, []) (by simp)) (clsNew hw' .z .z) hI) rfl) (fun _ _ => ?_)
    refine l_y (Cls.gs _ _) (y_fieldAddr rfl fa36_4) rfl ?_
    refine l_n rfl (n_store rfl rfl ty31 .a rfl rfl (.s (.s (.s .z))) (.s (.s (.s (.s (.s (.s (.t (.t (.t .d)))))))))) (fun _ _ => ?_)
    refine l_y (Cls.gs _ _) (y_fieldAddr rfl fa36_5) rfl ?_
    refine l_n rfl (n_store rfl rfl ty31 .a rfl rfl (.s (.s (.s .z))) (.s (.s (.s (.s (.s (.s (.s (.s (.s (.t (.t (.t .d))))))))))))) (fun _ _ => ?_)
    refine l_y (Cls.gs _ _) (y_fieldAddr rfl fa36_6) rfl ?_
    refine l_n rfl (n_store rfl rfl ty34 .a rfl rfl (.s (.s (.s .z))) (.s (.s (.s (.s (.s (.s (.s (.s (.s (.s (.s (.s (.t (.t (.t .d)))))))))))))))) (fun _ _ => ?_)
    refine l_nil ?_
    refine e_then ?_
    refine CJ.weak (.c (t := 0) rfl (.c (t := 2) rfl (.c (t := 3) rfl (.c (t := 4) rfl (.c (t := 5) rfl (.c (t := 7) rfl .n)))))) (fun _ h => h) ?_
    refine c_seq ?_
    rw [hib]
    refine c_text ?_
    refine l_y (Cls.gs _ _) (y_move rfl) rfl ?_
    refine l_y (Cls.gs _ _) (y_move rfl) rfl ?_
    refine l_y (Cls.gs _ _) (y_nilCheck rfl) rfl ?_
    refine l_y (Cls.gs _ _) (y_fieldAddr rfl fa88_1) rfl ?_
    refine l_y (Cls.gs _ _) (y_load rfl (LoadAt.oneL .z ty3 (.s .z))) rfl ?_
    refine l_y (Cls.gs _ _) (y_sliceH Tryz.underlying41 ty5 rfl rfl (by omega)) rfl ?_
    refine l_y (Cls.gs _ _) (y_call ent29 (.c rfl .n) (fun w' hw' => sum29 (bodyB a) ad c (by omega) w' (elts_body (hI.gr (hw'.gr .z))))) rfl ?_
    refine l_y (Cls.gs _ _) (y_assign rfl) rfl ?_
    refine l_nil ?_
    refine e_then ?_
    refine CJ.weak (.c (t := 2) rfl (.c (t := 3) rfl (.c (t := 4) rfl (.c (t := 5) rfl (.c (t := 7) rfl (.c (t := 8) rfl .n)))))) (fun _ h => h) ?_
    refine c_seq ?_
    refine c_seq ?_
    refine c_text ?_
    refine l_y (Cls.gs _ _) (y_assign rfl) rfl ?_
    refine l_nil ?_
    refine e_then ?_
    refine c_block ?_
    refine c_rounds 6 ?_
    refine r_succ ?_
    refine c_seq ?_
    refine c_seq ?_
    refine c_text ?_
    refine l_y (Cls.gs _ _) (y_move rfl) rfl ?_
    refine l_y (Cls.gs _ _) ((y_geq rfl rfl).lit (by kernel_rfl : _ = Value.bool true)) rfl ?_
    refine l_nil ?_
    refine e_then ?_
    refine CJ.weak (.c (t := 2) rfl (.c (t := 3) rfl (.c (t := 4) rfl (.c (t := 5) rfl (.c (t := 7) rfl (.c (t := 8) rfl (.c (t := 9) rfl (.c (t := 71) rfl .n)))))))) (fun _ h => h) ?_
    refine c_true (by kernel_rfl) ?_
    refine c_skip ?_
    refine e_then ?_
    refine CJ.weak (.c (t := 2) rfl (.c (t := 3) rfl (.c (t := 4) rfl (.c (t := 5) rfl (.c (t := 7) rfl (.c (t := 8) rfl (.c (t := 9) rfl .n))))))) (fun _ h => h) ?_
    refine c_seq ?_
    refine c_block ?_
    refine c_seq ?_
    refine c_draw (m := 7) (S0 := fun _ => True) (fun i => Nat.beq i 1) (fun _ _ => trivial) hmix (Cls.gs _ _) rfl ?_
    refine a_y (i := 0) (Cls.gs _ _) (by kernel_rfl) rfl (by kernel_rfl) (by kernel_rfl) (y_move rfl) rfl ?_
    refine a_yM (i := 2) (Cls.gs _ _) (by kernel_rfl) rfl (by kernel_rfl) (by kernel_rfl) (y_move rfl) rfl ?_
    refine a_yM (i := 3) (Cls.gs _ _) (by kernel_rfl) rfl (by kernel_rfl) (by kernel_rfl) (y_move rfl) rfl ?_
    refine a_yM (i := 4) (Cls.gs _ _) (by kernel_rfl) rfl (by kernel_rfl) (by kernel_rfl) (y_shr rfl rfl (by decide)) rfl ?_
    refine a_yM (i := 5) (Cls.gs _ _) (by kernel_rfl) rfl (by kernel_rfl) (by kernel_rfl) ((y_conv Tryz.underlying83 Tryz.underlying5 rfl).lit (u8nat _)) rfl ?_
    refine a_n (i := 1) rfl rfl (by kernel_rfl) (fun _ => Cls.gs _ _) (.inl ⟨rfl, fun _ _ _ => trivial⟩) (n_callB ent31 (.c rfl .n) .z (fun w' hw' => byte31 (packB a) ad c hln b3 ((bodyB a).length) _ _ (dC0) w' (hw'.locM .z) (hw'.anc (w, []) (by simp)) (clsNew hw' .z .z) hI) rfl) (fun _ _ => ?_)
    refine a_y (i := 6) (Cls.gs _ _) (by kernel_rfl) rfl (by kernel_rfl) (by kernel_rfl) ((y_neq rfl rfl).lit (neqC (by first | rfl | (rw [shr0]; rfl)))) rfl ?_
    refine a_done (by kernel_rfl) ?_
    refine e_then ?_
    refine CJ.weak (.c (t := 2) rfl (.c (t := 3) rfl (.c (t := 4) rfl (.c (t := 5) rfl (.c (t := 7) rfl (.c (t := 8) rfl (.c (t := 9) rfl (.c (t := 80) rfl .n)))))))) (fun _ h => h) ?_
    refine c_false (by kernel_rfl) ?_
    refine c_skip ?_
    refine e_block ?_
    refine e_then ?_
    refine CJ.weak (.c (t := 2) rfl (.c (t := 3) rfl (.c (t := 4) rfl (.c (t := 5) rfl (.c (t := 7) rfl (.c (t := 8) rfl (.c (t := 9) rfl .n))))))) (fun _ h => h) ?_
    refine c_text ?_
    refine l_y (Cls.gs _ _) (y_move rfl) rfl ?_
    refine l_y (Cls.gs _ _) ((y_sub rfl rfl).lit (by kernel_rfl : _ = Value.int .i64 16)) rfl ?_
    refine l_y (Cls.gs _ _) (y_assign rfl) rfl ?_
    refine l_nil ?_
    refine e_rounds ?_
    refine RJ.weak (.c (t := 2) rfl (.c (t := 3) rfl (.c (t := 4) rfl (.c (t := 5) rfl (.c (t := 7) rfl (.c (t := 8) rfl (.c (t := 9) rfl .n))))))) (fun _ h => h) ?_
    refine r_succ ?_
    refine c_seq ?_
    refine c_seq ?_
    refine c_text ?_
    refine l_y (Cls.gs _ _) (y_move rfl) rfl ?_
    refine l_y (Cls.gs _ _) ((y_geq rfl rfl).lit (by kernel_rfl : _ = Value.bool true)) rfl ?_
    refine l_nil ?_
    refine e_then ?_
    refine CJ.weak (.c (t := 2) rfl (.c (t := 3) rfl (.c (t := 4) rfl (.c (t := 5) rfl (.c (t := 7) rfl (.c (t := 8) rfl (.c (t := 9) rfl (.c (t := 71) rfl .n)))))))) (fun _ h => h) ?_
    refine c_true (by kernel_rfl) ?_
    refine c_skip ?_
    refine e_then ?_
    refine CJ.weak (.c (t := 2) rfl (.c (t := 3) rfl (.c (t := 4) rfl (.c (t := 5) rfl (.c (t := 7) rfl (.c (t := 8) rfl (.c (t := 9) rfl .n))))))) (fun _ h => h) ?_
    refine c_seq ?_
    refine c_block ?_
    refine c_seq ?_
    refine c_draw (m := 7) (S0 := fun _ => True) (fun i => Nat.beq i 1) (fun _ _ => trivial) hmix (Cls.gs _ _) rfl ?_
    refine a_y (i := 0) (Cls.gs _ _) (by kernel_rfl) rfl (by kernel_rfl) (by kernel_rfl) (y_move rfl) rfl ?_
    refine a_yM (i := 2) (Cls.gs _ _) (by kernel_rfl) rfl (by kernel_rfl) (by kernel_rfl) (y_move rfl) rfl ?_
    refine a_yM (i := 3) (Cls.gs _ _) (by kernel_rfl) rfl (by kernel_rfl) (by kernel_rfl) (y_move rfl) rfl ?_
    refine a_yM (i := 4) (Cls.gs _ _) (by kernel_rfl) rfl (by kernel_rfl) (by kernel_rfl) (y_shr rfl rfl (by decide)) rfl ?_
    refine a_yM (i := 5) (Cls.gs _ _) (by kernel_rfl) rfl (by kernel_rfl) (by kernel_rfl) ((y_conv Tryz.underlying83 Tryz.underlying5 rfl).lit (u8nat _)) rfl ?_
    refine a_n (i := 1) rfl rfl (by kernel_rfl) (fun _ => Cls.gs _ _) (.inl ⟨rfl, fun _ _ _ => trivial⟩) (n_callB ent31 (.c rfl .n) .z (fun w' hw' => byte31 (packB a) ad c hln b3 ((bodyB a).length + 1) _ _ (dC1) w' (hw'.locM .z) (hw'.anc (w, []) (by simp)) (clsNew hw' .z .z) hI) rfl) (fun _ _ => ?_)
    refine a_y (i := 6) (Cls.gs _ _) (by kernel_rfl) rfl (by kernel_rfl) (by kernel_rfl) ((y_neq rfl rfl).lit (neqC (by first | rfl | (rw [shr0]; rfl)))) rfl ?_
    refine a_done (by kernel_rfl) ?_
    refine e_then ?_
    refine CJ.weak (.c (t := 2) rfl (.c (t := 3) rfl (.c (t := 4) rfl (.c (t := 5) rfl (.c (t := 7) rfl (.c (t := 8) rfl (.c (t := 9) rfl (.c (t := 80) rfl .n)))))))) (fun _ h => h) ?_
    refine c_false (by kernel_rfl) ?_
    refine c_skip ?_
    refine e_block ?_
    refine e_then ?_
    refine CJ.weak (.c (t := 2) rfl (.c (t := 3) rfl (.c (t := 4) rfl (.c (t := 5) rfl (.c (t := 7) rfl (.c (t := 8) rfl (.c (t := 9) rfl .n))))))) (fun _ h => h) ?_
    refine c_text ?_
    refine l_y (Cls.gs _ _) (y_move rfl) rfl ?_
    refine l_y (Cls.gs _ _) ((y_sub rfl rfl).lit (by kernel_rfl : _ = Value.int .i64 8)) rfl ?_
    refine l_y (Cls.gs _ _) (y_assign rfl) rfl ?_
    refine l_nil ?_
    refine e_rounds ?_
    refine RJ.weak (.c (t := 2) rfl (.c (t := 3) rfl (.c (t := 4) rfl (.c (t := 5) rfl (.c (t := 7) rfl (.c (t := 8) rfl (.c (t := 9) rfl .n))))))) (fun _ h => h) ?_
    refine r_succ ?_
    refine c_seq ?_
    refine c_seq ?_
    refine c_text ?_
    refine l_y (Cls.gs _ _) (y_move rfl) rfl ?_
    refine l_y (Cls.gs _ _) ((y_geq rfl rfl).lit (by kernel_rfl : _ = Value.bool true)) rfl ?_
    refine l_nil ?_
    refine e_then ?_
    refine CJ.weak (.c (t := 2) rfl (.c (t := 3) rfl (.c (t := 4) rfl (.c (t := 5) rfl (.c (t := 7) rfl (.c (t := 8) rfl (.c (t := 9) rfl (.c (t := 71) rfl .n)))))))) (fun _ h => h) ?_
    refine c_true (by kernel_rfl) ?_
    refine c_skip ?_
    refine e_then ?_
    refine CJ.weak (.c (t := 2) rfl (.c (t := 3) rfl (.c (t := 4) rfl (.c (t := 5) rfl (.c (t := 7) rfl (.c (t := 8) rfl (.c (t := 9) rfl .n))))))) (fun _ h => h) ?_
    refine c_seq ?_
    refine c_block ?_
    refine c_seq ?_
    refine c_draw (m := 7) (S0 := fun _ => True) (fun i => Nat.beq i 1) (fun _ _ => trivial) hmix (Cls.gs _ _) rfl ?_
    refine a_y (i := 0) (Cls.gs _ _) (by kernel_rfl) rfl (by kernel_rfl) (by kernel_rfl) (y_move rfl) rfl ?_
    refine a_yM (i := 2) (Cls.gs _ _) (by kernel_rfl) rfl (by kernel_rfl) (by kernel_rfl) (y_move rfl) rfl ?_
    refine a_yM (i := 3) (Cls.gs _ _) (by kernel_rfl) rfl (by kernel_rfl) (by kernel_rfl) (y_move rfl) rfl ?_
    refine a_yM (i := 4) (Cls.gs _ _) (by kernel_rfl) rfl (by kernel_rfl) (by kernel_rfl) (y_shr rfl rfl (by decide)) rfl ?_
    refine a_yM (i := 5) (Cls.gs _ _) (by kernel_rfl) rfl (by kernel_rfl) (by kernel_rfl) ((y_conv Tryz.underlying83 Tryz.underlying5 rfl).lit (u8nat _)) rfl ?_
    refine a_n (i := 1) rfl rfl (by kernel_rfl) (fun _ => Cls.gs _ _) (.inl ⟨rfl, fun _ _ _ => trivial⟩) (n_callB ent31 (.c rfl .n) .z (fun w' hw' => byte31 (packB a) ad c hln b3 ((bodyB a).length + 1 + 1) _ _ (dC2) w' (hw'.locM .z) (hw'.anc (w, []) (by simp)) (clsNew hw' .z .z) hI) rfl) (fun _ _ => ?_)
    refine a_y (i := 6) (Cls.gs _ _) (by kernel_rfl) rfl (by kernel_rfl) (by kernel_rfl) ((y_neq rfl rfl).lit (neqC (by first | rfl | (rw [shr0]; rfl)))) rfl ?_
    refine a_done (by kernel_rfl) ?_
    refine e_then ?_
    refine CJ.weak (.c (t := 2) rfl (.c (t := 3) rfl (.c (t := 4) rfl (.c (t := 5) rfl (.c (t := 7) rfl (.c (t := 8) rfl (.c (t := 9) rfl (.c (t := 80) rfl .n)))))))) (fun _ h => h) ?_
    refine c_false (by kernel_rfl) ?_
    refine c_skip ?_
    refine e_block ?_
    refine e_then ?_
    refine CJ.weak (.c (t := 2) rfl (.c (t := 3) rfl (.c (t := 4) rfl (.c (t := 5) rfl (.c (t := 7) rfl (.c (t := 8) rfl (.c (t := 9) rfl .n))))))) (fun _ h => h) ?_
    refine c_text ?_
    refine l_y (Cls.gs _ _) (y_move rfl) rfl ?_
    refine l_y (Cls.gs _ _) ((y_sub rfl rfl).lit (by kernel_rfl : _ = Value.int .i64 0)) rfl ?_
    refine l_y (Cls.gs _ _) (y_assign rfl) rfl ?_
    refine l_nil ?_
    refine e_rounds ?_
    refine RJ.weak (.c (t := 2) rfl (.c (t := 3) rfl (.c (t := 4) rfl (.c (t := 5) rfl (.c (t := 7) rfl (.c (t := 8) rfl (.c (t := 9) rfl .n))))))) (fun _ h => h) ?_
    refine r_succ ?_
    refine c_seq ?_
    refine c_seq ?_
    refine c_text ?_
    refine l_y (Cls.gs _ _) (y_move rfl) rfl ?_
    refine l_y (Cls.gs _ _) ((y_geq rfl rfl).lit (by kernel_rfl : _ = Value.bool true)) rfl ?_
    refine l_nil ?_
    refine e_then ?_
    refine CJ.weak (.c (t := 2) rfl (.c (t := 3) rfl (.c (t := 4) rfl (.c (t := 5) rfl (.c (t := 7) rfl (.c (t := 8) rfl (.c (t := 9) rfl (.c (t := 71) rfl .n)))))))) (fun _ h => h) ?_
    refine c_true (by kernel_rfl) ?_
    refine c_skip ?_
    refine e_then ?_
    refine CJ.weak (.c (t := 2) rfl (.c (t := 3) rfl (.c (t := 4) rfl (.c (t := 5) rfl (.c (t := 7) rfl (.c (t := 8) rfl (.c (t := 9) rfl .n))))))) (fun _ h => h) ?_
    refine c_seq ?_
    refine c_block ?_
    refine c_seq ?_
    refine c_draw (m := 7) (S0 := fun _ => True) (fun i => Nat.beq i 1) (fun _ _ => trivial) hmix (Cls.gs _ _) rfl ?_
    refine a_y (i := 0) (Cls.gs _ _) (by kernel_rfl) rfl (by kernel_rfl) (by kernel_rfl) (y_move rfl) rfl ?_
    refine a_yM (i := 2) (Cls.gs _ _) (by kernel_rfl) rfl (by kernel_rfl) (by kernel_rfl) (y_move rfl) rfl ?_
    refine a_yM (i := 3) (Cls.gs _ _) (by kernel_rfl) rfl (by kernel_rfl) (by kernel_rfl) (y_move rfl) rfl ?_
    refine a_yM (i := 4) (Cls.gs _ _) (by kernel_rfl) rfl (by kernel_rfl) (by kernel_rfl) (y_shr rfl rfl (by decide)) rfl ?_
    refine a_yM (i := 5) (Cls.gs _ _) (by kernel_rfl) rfl (by kernel_rfl) (by kernel_rfl) ((y_conv Tryz.underlying83 Tryz.underlying5 rfl).lit (u8nat _)) rfl ?_
    refine a_n (i := 1) rfl rfl (by kernel_rfl) (fun _ => Cls.gs _ _) (.inl ⟨rfl, fun _ _ _ => trivial⟩) (n_callB ent31 (.c rfl .n) .z (fun w' hw' => byte31 (packB a) ad c hln b3 ((bodyB a).length + 1 + 1 + 1) _ _ (dC3) w' (hw'.locM .z) (hw'.anc (w, []) (by simp)) (clsNew hw' .z .z) hI) rfl) (fun _ _ => ?_)
    refine a_y (i := 6) (Cls.gs _ _) (by kernel_rfl) rfl (by kernel_rfl) (by kernel_rfl) ((y_neq rfl rfl).lit (neqC (by first | rfl | (rw [shr0]; rfl)))) rfl ?_
    refine a_done (by kernel_rfl) ?_
    refine e_then ?_
    refine CJ.weak (.c (t := 2) rfl (.c (t := 3) rfl (.c (t := 4) rfl (.c (t := 5) rfl (.c (t := 7) rfl (.c (t := 8) rfl (.c (t := 9) rfl (.c (t := 80) rfl .n)))))))) (fun _ h => h) ?_
    refine c_false (by kernel_rfl) ?_
    refine c_skip ?_
    refine e_block ?_
    refine e_then ?_
    refine CJ.weak (.c (t := 2) rfl (.c (t := 3) rfl (.c (t := 4) rfl (.c (t := 5) rfl (.c (t := 7) rfl (.c (t := 8) rfl (.c (t := 9) rfl .n))))))) (fun _ h => h) ?_
    refine c_text ?_
    refine l_y (Cls.gs _ _) (y_move rfl) rfl ?_
    refine l_y (Cls.gs _ _) ((y_sub rfl rfl).lit (by kernel_rfl : _ = Value.int .i64 (-8))) rfl ?_
    refine l_y (Cls.gs _ _) (y_assign rfl) rfl ?_
    refine l_nil ?_
    refine e_rounds ?_
    refine RJ.weak (.c (t := 2) rfl (.c (t := 3) rfl (.c (t := 4) rfl (.c (t := 5) rfl (.c (t := 7) rfl (.c (t := 8) rfl (.c (t := 9) rfl .n))))))) (fun _ h => h) ?_
    refine r_succ ?_
    refine c_seq ?_
    refine c_seq ?_
    refine c_text ?_
    refine l_y (Cls.gs _ _) (y_move rfl) rfl ?_
    refine l_y (Cls.gs _ _) ((y_geq rfl rfl).lit (by kernel_rfl : _ = Value.bool false)) rfl ?_
    refine l_nil ?_
    refine e_then ?_
    refine CJ.weak (.c (t := 2) rfl (.c (t := 3) rfl (.c (t := 4) rfl (.c (t := 5) rfl (.c (t := 7) rfl (.c (t := 8) rfl (.c (t := 9) rfl (.c (t := 71) rfl .n)))))))) (fun _ h => h) ?_
    refine c_false (by kernel_rfl) ?_
    refine c_exit ?_
    refine e_then_exit ?_
    refine e_then_exit ?_
    refine e_block_hit ?_
    refine e_then ?_
    refine CJ.weak (.c (t := 2) rfl (.c (t := 3) rfl (.c (t := 4) rfl (.c (t := 5) rfl (.c (t := 7) rfl .n))))) (fun _ h => h) ?_
    refine c_seq ?_
    refine c_seq ?_
    refine c_text ?_
    refine l_y (Cls.gs _ _) (y_fieldAddr rfl fa36_1) rfl ?_
    refine l_y (Cls.gs _ _) (y_load rfl (LoadAt.oneL (.s (.s (.s .z))) ty3 (.s .z))) rfl ?_
    refine l_y (Cls.gs _ _) (y_eql rfl rfl) rfl ?_
    refine l_y (Cls.gs _ _) (y_move rfl) rfl ?_
    refine l_g (s := 85) (Cls.gs _ _) (by kernel_rfl) rfl (beq_t _) (fun hg => y_move rfl) rfl ?_
    refine l_g (s := 85) (Cls.gs _ _) (by kernel_rfl) rfl (beq_t _) (fun hg => y_gtr (gvt hg rfl) rfl) rfl ?_
    refine l_y (Cls.gs _ _) (y_and rfl rfl rfl) rfl ?_
    refine l_nil ?_
    refine e_then ?_
    refine CJ.weak (.c (t := 2) rfl (.c (t := 3) rfl (.c (t := 4) rfl (.c (t := 5) rfl (.c (t := 88) rfl .n))))) (fun _ h => h) ?_
    refine c_cond rfl (fun h2 => ?_) (fun h2 => ?_)
    · exfalso
      simp only [Bool.and_eq_true, decide_eq_true_eq] at h2
      exact hk h2.1
    ·
      refine c_skip ?_
      refine e_then ?_
      refine CJ.weak (.c (t := 2) rfl (.c (t := 3) rfl (.c (t := 4) rfl (.c (t := 5) rfl .n)))) (fun _ h => h) ?_
      refine c_seq ?_
      refine c_seq ?_
      refine c_text ?_
      refine l_y (Cls.gs _ _) (y_load rfl (LoadAt.aggL (.s (.s (.s .z))) ty36 (.t (.t (.t (.t (.t (.t (.t (.t (.t (.t (.t (.t (.t (.t (.t (.t .d)))))))))))))))))) rfl ?_
      refine l_y (Cls.gs _ _) (y_call ent24 (.c rfl .n) (fun w _ => check24 _ haX w)) rfl ?_
      refine l_y (Cls.gs _ _) (y_assign rfl) rfl ?_
      refine l_nil ?_
      refine e_then ?_
      refine CJ.weak (.c (t := 2) rfl (.c (t := 3) rfl (.c (t := 4) rfl (.c (t := 5) rfl (.c (t := 10) rfl .n))))) (fun _ h => h) ?_
      refine c_seq ?_
      refine c_text ?_
      refine l_y (Cls.gs _ _) (y_move rfl) rfl ?_
      refine l_y (Cls.gs _ _) ((y_neq rfl rfl).lit (by kernel_rfl : _ = Value.bool false)) rfl ?_
      refine l_nil ?_
      refine e_then ?_
      refine CJ.weak (.c (t := 2) rfl (.c (t := 3) rfl (.c (t := 4) rfl (.c (t := 5) rfl (.c (t := 10) rfl (.c (t := 93) rfl .n)))))) (fun _ h => h) ?_
      refine c_false (by kernel_rfl) ?_
      refine c_skip ?_
      refine e_then ?_
      refine CJ.weak (.c (t := 2) rfl (.c (t := 3) rfl (.c (t := 4) rfl (.c (t := 5) rfl .n)))) (fun _ h => h) ?_
      refine c_seq ?_
      refine c_draw (m := 8) (fun i => Nat.beq i 5 || Nat.beq i 6 || Nat.beq i 7) (fun _ h => h.thin (.k (.d (.d (.d .r))))) hmix (Cls.gs _ _) rfl ?_
      refine a_y (i := 0) (Cls.gs _ _) (by kernel_rfl) rfl (by kernel_rfl) (by kernel_rfl) (y_load rfl (LoadAt.aggL (.s (.s (.s .z))) ty36 (.t (.t (.t (.t (.t (.t (.t (.t (.t (.t (.t (.t (.t (.t (.t (.t .d)))))))))))))))))) rfl ?_
      refine a_yM (i := 1) (Cls.gs _ _) (by kernel_rfl) rfl (by kernel_rfl) (by kernel_rfl) (y_move rfl) rfl ?_
      refine a_yM (i := 2) (Cls.gs _ _) (by kernel_rfl) rfl (by kernel_rfl) (by kernel_rfl) (y_nilCheck rfl) rfl ?_
      refine a_yM (i := 3) (Cls.gs _ _) (by kernel_rfl) rfl (by kernel_rfl) (by kernel_rfl) (y_fieldAddr rfl fa88_1) rfl ?_
      refine a_yM (i := 4) (Cls.gs _ _) (by kernel_rfl) rfl (by kernel_rfl) (by kernel_rfl) (y_load rfl (LoadAt.oneL .z ty3 (.s .z))) rfl ?_
      refine a_n (i := 5) rfl rfl (by kernel_rfl) (fun _ => Cls.gs _ _) (.inl ⟨rfl, fun _ _ h => h.thin (.k (.d (.d (.d .r))))⟩) (n_store rfl rfl ty36 .a rfl rfl (.s (.s (.s .z))) (.t (.t (.t (.t (.t (.t (.t (.t (.t (.t (.t (.t (.t (.t (.t (.t .d))))))))))))))))) (fun _ _ => ?_)
      refine a_n (i := 6) rfl rfl (by kernel_rfl) (fun _ => Cls.gs _ _) (.inl ⟨rfl, fun _ _ h => h.thin (.k (.d (.d (.d .r))))⟩) (n_store rfl rfl ty3 (.o rfl) rfl rfl (.s (.s .z)) (.t .d)) (fun _ _ => ?_)
      refine a_n (i := 7) rfl rfl (by kernel_rfl) (fun _ => Cls.gs _ _) (.inl ⟨rfl, fun _ _ h => h.thin (.k (.d (.d (.d .r))))⟩) (n_store rfl rfl ty37 (.o rfl) rfl rfl (.s .z) (.t .d)) (fun _ _ => ?_)
      refine a_done (by kernel_rfl) ?_
      refine e_then ?_
      refine CJ.weak (.c (t := 2) rfl (.c (t := 3) rfl (.c (t := 4) rfl .n))) (fun _ h => h) ?_
      refine c_ret ?_
      refine e_retD ent30 (idle30 _ _ _) (Cls.gs _ _) rfl (.c rfl (LoadAt.aggL (.s (.s (.s .z))) ty36 (.t (.t (.t (.t (.t (.t (.t (.t (.t (.t (.t (.t (.t (.t (.t (.t .d))))))))))))))))) (.c rfl (LoadAt.oneL (.s (.s .z)) ty3 .z) (.c rfl (LoadAt.oneL (.s .z) ty37 .z) .n))) (fun wF hw => ?_)
      exact ⟨by rw [packB_len]; exact congrArg (fun z : Al => Ending.returned (.tuple #[.agg (Al.cells z).toArray, .int .i64 (((bodyB a).length + 1 + 1 + 1 + 1 : Nat) : Int), .int .i64 0])) ea, (hw.anc (w, []) (by simp)).below⟩

end Go.Proofs.YtpjacndlbjeehaaGreatDoor
