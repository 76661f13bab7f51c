/-
  A part of the proof of TopMailbox: walks of single functions, and plain facts.
-/
import Derived.Test.YtpjacndlbjeehaaGreatDoorPf
import Derived.Test.YtpjacndlbjeehaaGreatDoorW9
import Derived.KernelRfl
set_option linter.unusedVariables false
set_option linter.unusedSimpArgs false
set_option maxRecDepth 100000
namespace Go.Proofs.YtpjacndlbjeehaaGreatDoor
open Go Go.Px Mb
theorem kidx {k : Int} (h1 : 1 ≤ k) (h2 : k ≤ 6) : Value.int .i64 (IntKind.i64.wrap (Lib.idxOfS names (nameOf k) + 1)) = Value.int .i64 k := by
  rw [names_idx h1 h2, i64w]; congr 1; split <;> omega
theorem al_rd6 {a : Al} (h : AlOK a) (hk : a.kind = 6) : (⟨a.id, a.kind, 0, ⟨a.at_.lo, a.at_.hi, a.at_.u⟩, ⟨0, 0, false⟩, ⟨0, 0, false⟩, ⟨0, 0, false⟩, a.of_⟩ : Al) = a := by
  obtain ⟨_, _, h3, h4, h5, h6⟩ := h.rt hk
  cases a
  simp_all
theorem al_rdN {a : Al} (h : AlOK a) (hk : ¬ a.kind = 6) : (⟨a.id, a.kind, a.object, ⟨a.at_.lo, a.at_.hi, a.at_.u⟩, ⟨a.ra.lo, a.ra.hi, a.ra.u⟩, ⟨a.dec.lo, a.dec.hi, a.dec.u⟩, ⟨a.flux.lo, a.flux.hi, a.flux.u⟩, 0⟩ : Al) = a := by
  have h3 := h.nr hk
  cases a
  simp_all
abbrev form6 : List ByteArray := [bs [97, 108, 101, 114, 116], bs [73, 68], bs [75, 73, 78, 68], bs [97, 116], bs [65, 84], bs [111, 102], bs [78]]
theorem join6 : joinS form6 = bs [97, 108, 101, 114, 116, 32, 73, 68, 32, 75, 73, 78, 68, 32, 97, 116, 32, 65, 84, 32, 111, 102, 32, 78] := by kernel_rfl
theorem split42f6 (w : World) (hE : Env0 w) : Calls Tryz.prog 42 #[.string (bs [97, 108, 101, 114, 116, 32, 73, 68, 32, 75, 73, 78, 68, 32, 97, 116, 32, 65, 84, 32, 111, 102, 32, 78]), .string (bs [32])] w fun e w' => ∃ x : Vec, e = .returned x.val ∧ Gr w w' ∧ VIn w x w' ∧ (VecOK 1 9 x ∧ x.es = form6.map sC) := by
  rw [← join6]
  exact split42v form6 (by simp) (by simp) (fun x hx => by
    simp only [form6, List.mem_cons, List.not_mem_nil, or_false] at hx
    unfold noBlank
    rcases hx with rfl | rfl | rfl | rfl | rfl | rfl | rfl <;> decide) (by rw [join6]; decide) w hE
abbrev formN : List ByteArray := [bs [97, 108, 101, 114, 116], bs [73, 68], bs [75, 73, 78, 68], bs [97, 116], bs [65, 84], bs [111, 98, 106, 101, 99, 116], bs [78], bs [114, 97], bs [82, 65], bs [100, 101, 99], bs [68, 69, 67], bs [102, 108, 117, 120], bs [70, 76, 85, 88]]
theorem joinN : joinS formN = bs [97, 108, 101, 114, 116, 32, 73, 68, 32, 75, 73, 78, 68, 32, 97, 116, 32, 65, 84, 32, 111, 98, 106, 101, 99, 116, 32, 78, 32, 114, 97, 32, 82, 65, 32, 100, 101, 99, 32, 68, 69, 67, 32, 102, 108, 117, 120, 32, 70, 76, 85, 88] := by kernel_rfl
theorem split42fN (w : World) (hE : Env0 w) : Calls Tryz.prog 42 #[.string (bs [97, 108, 101, 114, 116, 32, 73, 68, 32, 75, 73, 78, 68, 32, 97, 116, 32, 65, 84, 32, 111, 98, 106, 101, 99, 116, 32, 78, 32, 114, 97, 32, 82, 65, 32, 100, 101, 99, 32, 68, 69, 67, 32, 102, 108, 117, 120, 32, 70, 76, 85, 88]), .string (bs [32])] w fun e w' => ∃ x : Vec, e = .returned x.val ∧ Gr w w' ∧ VIn w x w' ∧ (VecOK 1 9 x ∧ x.es = formN.map sC) := by
  rw [← joinN]
  exact split42v formN (by simp) (by simp) (fun x hx => by
    simp only [formN, List.mem_cons, List.not_mem_nil, or_false] at hx
    unfold noBlank
    rcases hx with rfl | rfl | rfl | rfl | rfl | rfl | rfl | rfl | rfl | rfl | rfl | rfl | rfl <;> decide) (by rw [joinN]; decide) w hE
theorem read12_6 (a : Al) (h : AlOK a) (hk : a.kind = 6) (w : World) (hE : Env0 w) : Calls Tryz.prog 12 #[.string (alText a)] w fun e w' => e = .returned (.tuple #[.agg #[.int .i64 a.id, .int .i64 a.kind, .int .i64 a.object, .int .i64 a.at_.lo, .int .i64 a.at_.hi, .bool a.at_.u, .int .i64 a.ra.lo, .int .i64 a.ra.hi, .bool a.ra.u, .int .i64 a.dec.lo, .int .i64 a.dec.hi, .bool a.dec.u, .int .i64 a.flux.lo, .int .i64 a.flux.hi, .bool a.flux.u, .int .i64 a.of_], .int .i64 0]) ∧ Gr w w' := by
  have i1 := h.id1
  have i2 := h.id2
  have i3 := h.ob1
  have i4 := h.ob2
  have i5 := h.of1
  have i6 := h.of2
  have i7 := h.k1
  have i8 := h.k2
  have hts := text_size h
  have hwa : alWords a = words6 a := if_pos hk
  have ea : (⟨a.id, a.kind, 0, ⟨a.at_.lo, a.at_.hi, a.at_.u⟩, ⟨0, 0, false⟩, ⟨0, 0, false⟩, ⟨0, 0, false⟩, a.of_⟩ : Al) = a := al_rd6 h hk
  have haX : AlOK ⟨a.id, a.kind, 0, ⟨a.at_.lo, a.at_.hi, a.at_.u⟩, ⟨0, 0, false⟩, ⟨0, 0, false⟩, ⟨0, 0, false⟩, a.of_⟩ := by rw [ea]; exact h
  refine enter Tryz.func12 rfl rfl rfl rfl (Cls.start w) ?_
  refine c_seq ?_
  refine c_text ?_
  refine l_n rfl (n_alloc ty36 .a rfl) (fun b0 _ => ?_)
  refine l_y (Cls.gs _ _) (y_assign rfl) rfl ?_
  refine l_nil ?_
  refine e_then ?_
  refine CJ.weak (.c (t := 0) rfl (.c (t := 2) rfl .n)) (fun _ h => h) ?_
  refine c_seq ?_
  refine c_seq ?_
  refine c_text ?_
  refine l_y (Cls.gs _ _) (y_move rfl) rfl ?_
  refine l_y (Cls.gs _ _) (y_lenStr Tryz.underlying9 rfl rfl) rfl ?_
  refine l_y (Cls.gs _ _) (y_gtr rfl rfl) rfl ?_
  refine l_nil ?_
  refine e_then ?_
  refine CJ.weak (.c (t := 0) rfl (.c (t := 2) rfl (.c (t := 15) rfl .n))) (fun _ h => h) ?_
  refine c_cond rfl (fun h0 => ?_) (fun h0 => ?_)
  · exfalso
    have := of_decide_eq_true h0
    omega
  ·
    refine c_skip ?_
    refine e_then ?_
    refine CJ.weak (.c (t := 0) rfl (.c (t := 2) rfl .n)) (fun _ h => h) ?_
    refine c_seq ?_
    refine c_text ?_
    refine l_y (Cls.gs _ _) (y_move rfl) rfl ?_
    refine l_n rfl (n_callV ent42 (.c .z) (.c rfl (.c rfl .n)) (fun w' hw' => split42v (alWords a) (words_ne a) (by have := words_len a; omega) (fun x hx => (words_ok h x hx).b) hts w' (hE.gr (hw'.gr .z))) rfl) (fun wv hwv => ?_)
    refine l_y (Cls.gs _ _) (y_assign rfl) rfl ?_
    refine l_nil ?_
    refine e_then ?_
    refine CJ.weak (.c (t := 2) rfl (.c (t := 4) rfl .n)) (fun _ h => h) ?_
    refine c_seq ?_
    refine c_seq ?_
    have ewv : wv.es = (words6 a).map sC := by rw [hwv.2, hwa]
    have hwl : wv.es.length = 7 := by rw [ewv]; rfl
    refine c_text ?_
    refine l_y (Cls.gs _ _) (y_move rfl) rfl ?_
    refine l_y (Cls.gs _ _) ((y_lenV Tryz.underlying95 hwv.1 rfl rfl).lit (show Value.int .i64 ((wv.es.length : Nat) : Int) = Value.int .i64 7 by rw [hwl]; rfl)) rfl ?_
    refine l_y (Cls.gs _ _) ((y_lss rfl rfl).lit (by kernel_rfl : _ = Value.bool false)) rfl ?_
    refine l_nil ?_
    refine e_then ?_
    refine CJ.weak (.c (t := 2) rfl (.c (t := 4) rfl (.c (t := 21) rfl .n))) (fun _ h => h) ?_
    refine c_false (by kernel_rfl) ?_
    refine c_skip ?_
    refine e_then ?_
    refine CJ.weak (.c (t := 2) rfl (.c (t := 4) rfl .n)) (fun _ h => h) ?_
    refine c_seq ?_
    refine c_draw (m := 9) (fun i => Nat.beq i 0 || Nat.beq i 8) (fun _ h => h.thin .r) hmix (Cls.gs _ _) rfl ?_
    refine a_yM (i := 1) (Cls.gs _ _) (by kernel_rfl) rfl (by kernel_rfl) (by kernel_rfl) (y_move rfl) rfl ?_
    refine a_yM (i := 2) (Cls.gs _ _) (by kernel_rfl) rfl (by kernel_rfl) (by kernel_rfl) (y_idxVec Tryz.underlying95 ty9 hwv.1 rfl rfl rfl (by decide) (by rw [hwl]; decide)) rfl ?_
    refine a_yM (i := 3) (Cls.gs _ _) (by kernel_rfl) rfl (by kernel_rfl) (by kernel_rfl) (y_load rfl (LoadAt.oneV hwv.1 rfl (.c .z) ty9 (show wv.es[2]? = some [.string (nameOf a.kind)] by rw [ewv]; rfl) .z (by simp))) rfl ?_
    refine a_two 0 7 (by kernel_rfl) ?_ ?_
    ·
      refine s_n (i := 0) rfl rfl (fun _ => Cls.gs _ _) (.inl ⟨rfl, fun _ _ h => h.thin (.k (.a .r))⟩) (n_callV ent37 (.c .e) .n (fun w' _ => names37 w') rfl) (fun nv hnv => ?_)
      refine a_y (i := 4) (Cls.gs _ _) (by kernel_rfl) rfl (by kernel_rfl) (by kernel_rfl) (y_call ent43 (.c rfl (.c rfl .n)) (fun w' hw' => index43v (nameOf a.kind) nv hnv.1 hnv.2 w' (Cls.ownV hnv.1 hw' (.c .h)))) rfl ?_
      refine a_y (i := 5) (Cls.gs _ _) (by kernel_rfl) rfl (by kernel_rfl) (by kernel_rfl) ((y_add rfl rfl).lit (kidx i7 i8)) rfl ?_
      refine a_y (i := 6) (Cls.gs _ _) (by kernel_rfl) rfl (by kernel_rfl) (by kernel_rfl) (y_build pl36 ty36 .a (.c rfl .n) (.c rfl (.o rfl) rfl rfl (.s (.t .d)) .d)) rfl ?_
      refine a_n (i := 7) rfl rfl (by kernel_rfl) (fun _ => Cls.gs _ _) (.inr fun _ _ h => h.tail) (n_alloc ty36 .a rfl) (fun b1 _ => ?_)
      refine a_n (i := 8) rfl rfl (by kernel_rfl) (fun _ => Cls.gs _ _) (.inl ⟨rfl, fun _ _ h => h.thin (.d (.k (.a .r)))⟩) (n_store rfl rfl ty36 .a rfl rfl .z (.t (.t (.t (.t (.t (.t (.t (.t (.t (.t (.t (.t (.t (.t (.t (.t .d))))))))))))))))) (fun _ _ => ?_)
      refine a_done (by kernel_rfl) ?_
      refine e_then ?_
      refine CJ.weak (.c (t := 2) rfl (.c (t := 4) rfl (.c (t := 5) rfl .n))) (fun _ h => h) ?_
      refine c_seq ?_
      refine c_text ?_
      refine l_y (Cls.gs _ _) (y_assign rfl) rfl ?_
      refine l_nil ?_
      refine e_then ?_
      refine c_seq ?_
      refine c_seq ?_
      refine c_text ?_
      refine l_y (Cls.gs _ _) (y_fieldAddr rfl fa36_1) rfl ?_
      refine l_y (Cls.gs _ _) (y_load rfl (LoadAt.oneL .z ty3 (.s .z))) rfl ?_
      refine l_y (Cls.gs _ _) ((y_eql rfl rfl).lit (congrArg Value.bool (decide_eq_true hk))) rfl ?_
      refine l_nil ?_
      refine e_then ?_
      refine CJ.weak (.c (t := 2) rfl (.c (t := 4) rfl (.c (t := 5) rfl (.c (t := 6) rfl (.c (t := 32) rfl .n))))) (fun _ h => h) ?_
      refine c_true (by kernel_rfl) ?_
      refine c_text ?_
      refine l_y (Cls.gs _ _) (y_assign rfl) rfl ?_
      refine l_nil ?_
      refine e_then ?_
      refine CJ.weak (.c (t := 2) rfl (.c (t := 4) rfl (.c (t := 5) rfl (.c (t := 6) rfl .n)))) (fun _ h => h) ?_
      refine c_seq ?_
      refine c_text ?_
      refine l_y (Cls.gs _ _) (y_move rfl) rfl ?_
      refine l_n rfl (n_callV ent42 (.c (.c .e)) (.c rfl (.c rfl .n)) (fun w' hw' => split42f6 w' (hE.gr (hw'.gr .z))) rfl) (fun fv hfv => ?_)
      refine l_y (Cls.gs _ _) (y_assign rfl) rfl ?_
      refine l_nil ?_
      refine e_then ?_
      refine CJ.weak (.c (t := 2) rfl (.c (t := 4) rfl (.c (t := 5) rfl (.c (t := 7) rfl .n)))) (fun _ h => h) ?_
      refine c_seq ?_
      refine c_seq ?_
      have hfl : fv.es.length = 7 := by rw [hfv.2]; rfl
      refine c_text ?_
      refine l_y (Cls.gs _ _) (y_fieldAddr rfl fa36_1) rfl ?_
      refine l_y (Cls.gs _ _) (y_load rfl (LoadAt.oneL .z ty3 (.s .z))) rfl ?_
      refine l_y (Cls.gs _ _) ((y_eql rfl rfl).lit (congrArg Value.bool (decide_eq_false (by omega)))) rfl ?_
      refine l_y (Cls.gs _ _) (y_move rfl) rfl ?_
      refine l_g (s := 38) (Cls.gs _ _) (by kernel_rfl) rfl (beq_f _) (fun hg => y_move rfl) rfl ?_
      refine l_g (s := 38) (Cls.gs _ _) (by kernel_rfl) rfl (beq_f _) (fun hg => (y_lenV Tryz.underlying95 hwv.1 (gvt hg rfl) rfl).lit (show Value.int .i64 ((wv.es.length : Nat) : Int) = Value.int .i64 7 by rw [hwl]; rfl)) rfl ?_
      refine l_g (s := 38) (Cls.gs _ _) (by kernel_rfl) rfl (beq_f _) (fun hg => y_move rfl) rfl ?_
      refine l_g (s := 38) (Cls.gs _ _) (by kernel_rfl) rfl (beq_f _) (fun hg => (y_lenV Tryz.underlying95 hfv.1 (gvt hg rfl) rfl).lit (show Value.int .i64 ((fv.es.length : Nat) : Int) = Value.int .i64 7 by rw [hfl]; rfl)) rfl ?_
      refine l_g (s := 38) (Cls.gs _ _) (by kernel_rfl) rfl (beq_f _) (fun hg => (y_neq (gvt hg rfl) (gvt hg rfl)).lit (by kernel_rfl : _ = Value.bool false)) rfl ?_
      refine l_y (Cls.gs _ _) ((y_or rfl rfl rfl).lit (by kernel_rfl : _ = Value.bool false)) rfl ?_
      refine l_nil ?_
      refine e_then ?_
      refine CJ.weak (.c (t := 2) rfl (.c (t := 4) rfl (.c (t := 5) rfl (.c (t := 7) rfl (.c (t := 44) rfl .n))))) (fun _ h => h) ?_
      refine c_false (by kernel_rfl) ?_
      refine c_skip ?_
      refine e_then ?_
      refine CJ.weak (.c (t := 2) rfl (.c (t := 4) rfl (.c (t := 5) rfl (.c (t := 7) rfl .n)))) (fun _ h => h) ?_
      refine c_seq ?_
      refine c_seq ?_
      refine c_text ?_
      refine l_y (Cls.gs _ _) (y_move rfl) rfl ?_
      refine l_y (Cls.gs _ _) ((y_lenV Tryz.underlying95 hfv.1 rfl rfl).lit (show Value.int .i64 ((fv.es.length : Nat) : Int) = Value.int .i64 7 by rw [hfl]; rfl)) rfl ?_
      refine l_y (Cls.gs _ _) (y_move rfl) rfl ?_
      refine l_nil ?_
      refine e_then ?_
      refine CJ.weak (.c (t := 2) rfl (.c (t := 4) rfl (.c (t := 5) rfl (.c (t := 46) rfl (.c (t := 47) rfl (.c (t := 48) rfl .n)))))) (fun _ h => h) ?_
      refine c_block ?_
      refine c_rounds 8 ?_
      refine r_succ ?_
      refine c_seq ?_
      refine c_text ?_
      refine l_y (Cls.gs _ _) ((y_lss rfl rfl).lit (by kernel_rfl : _ = Value.bool true)) rfl ?_
      refine l_nil ?_
      refine e_then ?_
      refine c_seq ?_
      refine c_true (by kernel_rfl) ?_
      refine c_skip ?_
      refine e_then ?_
      refine CJ.weak (.c (t := 2) rfl (.c (t := 4) rfl (.c (t := 5) rfl (.c (t := 46) rfl (.c (t := 47) rfl (.c (t := 48) rfl .n)))))) (fun _ h => h) ?_
      refine c_seq ?_
      refine c_block ?_
      refine c_seq ?_
      refine c_text ?_
      refine l_y (Cls.gs _ _) (y_move rfl) rfl ?_
      refine l_y (Cls.gs _ _) (y_idxVec Tryz.underlying95 ty9 hfv.1 rfl rfl rfl (by decide) (by rw [hfv.2]; decide)) rfl ?_
      refine l_y (Cls.gs _ _) (y_load rfl (LoadAt.oneV hfv.1 rfl (.c (.c .h)) ty9 (show fv.es[0]? = some [.string (bs [97, 108, 101, 114, 116])] by rw [hfv.2]; rfl) .z (by simp))) rfl ?_
      refine l_y (Cls.gs _ _) (y_assign rfl) rfl ?_
      refine l_y (Cls.gs _ _) (y_assign rfl) rfl ?_
      refine l_nil ?_
      refine e_then ?_
      refine CJ.weak (.c (t := 2) rfl (.c (t := 4) rfl (.c (t := 5) rfl (.c (t := 8) rfl (.c (t := 9) rfl (.c (t := 46) rfl (.c (t := 47) rfl (.c (t := 48) rfl .n)))))))) (fun _ h => h) ?_
      refine c_seq ?_
      refine c_text ?_
      refine l_y (Cls.gs _ _) (y_assign rfl) rfl ?_
      refine l_nil ?_
      refine e_then ?_
      refine CJ.weak (.c (t := 2) rfl (.c (t := 4) rfl (.c (t := 5) rfl (.c (t := 8) rfl (.c (t := 9) rfl (.c (t := 46) rfl (.c (t := 47) rfl (.c (t := 48) rfl .n)))))))) (fun _ h => h) ?_
      refine c_seq ?_
      refine c_text ?_
      refine l_y (Cls.gs _ _) (y_assign rfl) rfl ?_
      refine l_nil ?_
      refine e_then ?_
      refine c_seq ?_
      refine c_seq ?_
      refine c_text ?_
      refine l_y (Cls.gs _ _) (y_move rfl) rfl ?_
      refine l_nil ?_
      refine e_then ?_
      refine c_block ?_
      refine c_seq ?_
      refine c_text ?_
      refine l_y (Cls.gs _ _) ((y_strEq rfl rfl).lit (by kernel_rfl : _ = Value.bool false)) rfl ?_
      refine l_y (Cls.gs _ _) (y_assign rfl) rfl ?_
      refine l_nil ?_
      refine e_then ?_
      refine CJ.weak (.c (t := 2) rfl (.c (t := 4) rfl (.c (t := 5) rfl (.c (t := 8) rfl (.c (t := 9) rfl (.c (t := 11) rfl (.c (t := 46) rfl (.c (t := 47) rfl (.c (t := 48) rfl (.c (t := 53) rfl (.c (t := 60) rfl .n))))))))))) (fun _ h => h) ?_
      refine c_false (by kernel_rfl) ?_
      refine c_seq ?_
      refine c_text ?_
      refine l_y (Cls.gs _ _) ((y_strEq rfl rfl).lit (by kernel_rfl : _ = Value.bool false)) rfl ?_
      refine l_y (Cls.gs _ _) (y_assign rfl) rfl ?_
      refine l_nil ?_
      refine e_then ?_
      refine CJ.weak (.c (t := 2) rfl (.c (t := 4) rfl (.c (t := 5) rfl (.c (t := 8) rfl (.c (t := 9) rfl (.c (t := 11) rfl (.c (t := 46) rfl (.c (t := 47) rfl (.c (t := 48) rfl (.c (t := 53) rfl (.c (t := 72) rfl .n))))))))))) (fun _ h => h) ?_
      refine c_false (by kernel_rfl) ?_
      refine c_seq ?_
      refine c_text ?_
      refine l_y (Cls.gs _ _) ((y_strEq rfl rfl).lit (by kernel_rfl : _ = Value.bool false)) rfl ?_
      refine l_y (Cls.gs _ _) (y_assign rfl) rfl ?_
      refine l_nil ?_
      refine e_then ?_
      refine CJ.weak (.c (t := 2) rfl (.c (t := 4) rfl (.c (t := 5) rfl (.c (t := 8) rfl (.c (t := 9) rfl (.c (t := 46) rfl (.c (t := 47) rfl (.c (t := 48) rfl (.c (t := 53) rfl (.c (t := 74) rfl .n)))))))))) (fun _ h => h) ?_
      refine c_false (by kernel_rfl) ?_
      refine c_seq ?_
      refine c_text ?_
      refine l_y (Cls.gs _ _) ((y_strEq rfl rfl).lit (by kernel_rfl : _ = Value.bool false)) rfl ?_
      refine l_y (Cls.gs _ _) (y_assign rfl) rfl ?_
      refine l_nil ?_
      refine e_then ?_
      refine CJ.weak (.c (t := 2) rfl (.c (t := 4) rfl (.c (t := 5) rfl (.c (t := 8) rfl (.c (t := 9) rfl (.c (t := 46) rfl (.c (t := 47) rfl (.c (t := 48) rfl (.c (t := 53) rfl (.c (t := 92) rfl .n)))))))))) (fun _ h => h) ?_
      refine c_false (by kernel_rfl) ?_
      refine c_seq ?_
      refine c_text ?_
      refine l_y (Cls.gs _ _) ((y_strEq rfl rfl).lit (by kernel_rfl : _ = Value.bool false)) rfl ?_
      refine l_y (Cls.gs _ _) (y_assign rfl) rfl ?_
      refine l_nil ?_
      refine e_then ?_
      refine CJ.weak (.c (t := 2) rfl (.c (t := 4) rfl (.c (t := 5) rfl (.c (t := 8) rfl (.c (t := 9) rfl (.c (t := 46) rfl (.c (t := 47) rfl (.c (t := 48) rfl (.c (t := 53) rfl (.c (t := 103) rfl .n)))))))))) (fun _ h => h) ?_
      refine c_false (by kernel_rfl) ?_
      refine c_seq ?_
      refine c_text ?_
      refine l_y (Cls.gs _ _) ((y_strEq rfl rfl).lit (by kernel_rfl : _ = Value.bool false)) rfl ?_
      refine l_y (Cls.gs _ _) (y_assign rfl) rfl ?_
      refine l_nil ?_
      refine e_then ?_
      refine CJ.weak (.c (t := 2) rfl (.c (t := 4) rfl (.c (t := 5) rfl (.c (t := 8) rfl (.c (t := 9) rfl (.c (t := 46) rfl (.c (t := 47) rfl (.c (t := 48) rfl (.c (t := 53) rfl (.c (t := 114) rfl .n)))))))))) (fun _ h => h) ?_
      refine c_false (by kernel_rfl) ?_
      refine c_seq ?_
      refine c_text ?_
      refine l_y (Cls.gs _ _) ((y_strEq rfl rfl).lit (by kernel_rfl : _ = Value.bool false)) rfl ?_
      refine l_y (Cls.gs _ _) (y_assign rfl) rfl ?_
      refine l_nil ?_
      refine e_then ?_
      refine CJ.weak (.c (t := 2) rfl (.c (t := 4) rfl (.c (t := 5) rfl (.c (t := 8) rfl (.c (t := 9) rfl (.c (t := 46) rfl (.c (t := 47) rfl (.c (t := 48) rfl (.c (t := 125) rfl .n))))))))) (fun _ h => h) ?_
      refine c_false (by kernel_rfl) ?_
      refine c_text ?_
      refine l_y (Cls.gs _ _) (y_move rfl) rfl ?_
      refine l_y (Cls.gs _ _) (y_move rfl) rfl ?_
      refine l_y (Cls.gs _ _) (y_idxVec Tryz.underlying95 ty9 hwv.1 rfl rfl rfl (by decide) (by rw [hwl]; decide)) rfl ?_
      refine l_y (Cls.gs _ _) (y_load rfl (LoadAt.oneV hwv.1 rfl (.c (.c (.k (.k .z)))) ty9 (show wv.es[0]? = some [.string (bs [97, 108, 101, 114, 116])] by rw [ewv]; rfl) .z (by simp))) rfl ?_
      refine l_y (Cls.gs _ _) (y_move rfl) rfl ?_
      refine l_y (Cls.gs _ _) ((y_strEq rfl rfl).lit (by kernel_rfl : _ = Value.bool true)) rfl ?_
      refine l_y (Cls.gs _ _) (y_assign rfl) rfl ?_
      refine l_nil ?_
      refine e_block ?_
      refine e_then ?_
      refine CJ.weak (.c (t := 2) rfl (.c (t := 4) rfl (.c (t := 5) rfl (.c (t := 11) rfl (.c (t := 46) rfl (.c (t := 47) rfl (.c (t := 48) rfl .n))))))) (fun _ h => h) ?_
      refine c_seq ?_
      refine c_text ?_
      refine l_y (Cls.gs _ _) (y_move rfl) rfl ?_
      refine l_y (Cls.gs _ _) ((y_not rfl).lit (by kernel_rfl : _ = Value.bool false)) rfl ?_
      refine l_nil ?_
      refine e_then ?_
      refine CJ.weak (.c (t := 2) rfl (.c (t := 4) rfl (.c (t := 5) rfl (.c (t := 46) rfl (.c (t := 47) rfl (.c (t := 48) rfl (.c (t := 137) rfl .n))))))) (fun _ h => h) ?_
      refine c_false (by kernel_rfl) ?_
      refine c_skip ?_
      refine e_block ?_
      refine e_then ?_
      refine CJ.weak (.c (t := 2) rfl (.c (t := 4) rfl (.c (t := 5) rfl (.c (t := 46) rfl (.c (t := 47) rfl (.c (t := 48) rfl .n)))))) (fun _ h => h) ?_
      refine c_text ?_
      refine l_y (Cls.gs _ _) ((y_add rfl rfl).lit (by kernel_rfl : _ = Value.int .i64 1)) rfl ?_
      refine l_y (Cls.gs _ _) (y_move rfl) rfl ?_
      refine l_nil ?_
      refine e_rounds ?_
      refine RJ.weak (.c (t := 2) rfl (.c (t := 4) rfl (.c (t := 5) rfl (.c (t := 46) rfl (.c (t := 47) rfl (.c (t := 48) rfl .n)))))) (fun _ h => h) ?_
      refine r_succ ?_
      refine c_seq ?_
      refine c_text ?_
      refine l_y (Cls.gs _ _) ((y_lss rfl rfl).lit (by kernel_rfl : _ = Value.bool true)) rfl ?_
      refine l_nil ?_
      refine e_then ?_
      refine c_seq ?_
      refine c_true (by kernel_rfl) ?_
      refine c_skip ?_
      refine e_then ?_
      refine CJ.weak (.c (t := 2) rfl (.c (t := 4) rfl (.c (t := 5) rfl (.c (t := 46) rfl (.c (t := 47) rfl (.c (t := 48) rfl .n)))))) (fun _ h => h) ?_
      refine c_seq ?_
      refine c_block ?_
      refine c_seq ?_
      refine c_text ?_
      refine l_y (Cls.gs _ _) (y_move rfl) rfl ?_
      refine l_y (Cls.gs _ _) (y_idxVec Tryz.underlying95 ty9 hfv.1 rfl rfl rfl (by decide) (by rw [hfv.2]; decide)) rfl ?_
      refine l_y (Cls.gs _ _) (y_load rfl (LoadAt.oneV hfv.1 rfl (.c (.c .h)) ty9 (show fv.es[1]? = some [.string (bs [73, 68])] by rw [hfv.2]; rfl) .z (by simp))) rfl ?_
      refine l_y (Cls.gs _ _) (y_assign rfl) rfl ?_
      refine l_y (Cls.gs _ _) (y_assign rfl) rfl ?_
      refine l_nil ?_
      refine e_then ?_
      refine CJ.weak (.c (t := 2) rfl (.c (t := 4) rfl (.c (t := 5) rfl (.c (t := 8) rfl (.c (t := 9) rfl (.c (t := 46) rfl (.c (t := 47) rfl (.c (t := 48) rfl .n)))))))) (fun _ h => h) ?_
      refine c_seq ?_
      refine c_text ?_
      refine l_y (Cls.gs _ _) (y_assign rfl) rfl ?_
      refine l_nil ?_
      refine e_then ?_
      refine CJ.weak (.c (t := 2) rfl (.c (t := 4) rfl (.c (t := 5) rfl (.c (t := 8) rfl (.c (t := 9) rfl (.c (t := 46) rfl (.c (t := 47) rfl (.c (t := 48) rfl .n)))))))) (fun _ h => h) ?_
      refine c_seq ?_
      refine c_text ?_
      refine l_y (Cls.gs _ _) (y_assign rfl) rfl ?_
      refine l_nil ?_
      refine e_then ?_
      refine c_seq ?_
      refine c_seq ?_
      refine c_text ?_
      refine l_y (Cls.gs _ _) (y_move rfl) rfl ?_
      refine l_nil ?_
      refine e_then ?_
      refine c_block ?_
      refine c_seq ?_
      refine c_text ?_
      refine l_y (Cls.gs _ _) ((y_strEq rfl rfl).lit (by kernel_rfl : _ = Value.bool true)) rfl ?_
      refine l_y (Cls.gs _ _) (y_assign rfl) rfl ?_
      refine l_nil ?_
      refine e_then ?_
      refine CJ.weak (.c (t := 2) rfl (.c (t := 4) rfl (.c (t := 5) rfl (.c (t := 8) rfl (.c (t := 9) rfl (.c (t := 11) rfl (.c (t := 46) rfl (.c (t := 47) rfl (.c (t := 48) rfl (.c (t := 53) rfl (.c (t := 60) rfl .n))))))))))) (fun _ h => h) ?_
      refine c_true (by kernel_rfl) ?_
      refine c_seq ?_
      refine c_text ?_
      refine l_y (Cls.gs _ _) (y_move rfl) rfl ?_
      refine l_y (Cls.gs _ _) (y_move rfl) rfl ?_
      refine l_y (Cls.gs _ _) (y_idxVec Tryz.underlying95 ty9 hwv.1 rfl rfl rfl (by decide) (by rw [hwl]; decide)) rfl ?_
      refine l_y (Cls.gs _ _) (y_load rfl (LoadAt.oneV hwv.1 rfl (.c (.c (.k (.k .z)))) ty9 (show wv.es[1]? = some [.string (numS a.id)] by rw [ewv]; rfl) .z (by simp))) rfl ?_
      refine l_y (Cls.gs _ _) (y_call ent44 (.c rfl .n) (fun w' hw' => whole44 a.id (by omega) (by omega) w' (hE.gr (hw'.gr .z)))) rfl ?_
      refine l_y (Cls.gs _ _) (y_move rfl) rfl ?_
      refine l_y (Cls.gs _ _) (y_extract rfl .z) rfl ?_
      refine l_y (Cls.gs _ _) (y_extract rfl (.s .z)) rfl ?_
      refine l_y (Cls.gs _ _) (y_assign rfl) rfl ?_
      refine l_y (Cls.gs _ _) (y_assign rfl) rfl ?_
      refine l_nil ?_
      refine e_then ?_
      refine CJ.weak (.c (t := 2) rfl (.c (t := 4) rfl (.c (t := 5) rfl (.c (t := 10) rfl (.c (t := 11) rfl (.c (t := 46) rfl (.c (t := 47) rfl (.c (t := 48) rfl .n)))))))) (fun _ h => h) ?_
      refine c_text ?_
      refine l_y (Cls.gs _ _) (y_move rfl) rfl ?_
      refine l_y (Cls.gs _ _) (y_fieldAddr rfl fa36_0) rfl ?_
      refine l_n rfl (n_store rfl rfl ty3 (.o rfl) rfl rfl .z (.t .d)) (fun _ _ => ?_)
      refine l_nil ?_
      refine e_block ?_
      refine e_then ?_
      refine CJ.weak (.c (t := 2) rfl (.c (t := 4) rfl (.c (t := 5) rfl (.c (t := 11) rfl (.c (t := 46) rfl (.c (t := 47) rfl (.c (t := 48) rfl .n))))))) (fun _ h => h) ?_
      refine c_seq ?_
      refine c_text ?_
      refine l_y (Cls.gs _ _) (y_move rfl) rfl ?_
      refine l_y (Cls.gs _ _) ((y_not rfl).lit (by kernel_rfl : _ = Value.bool false)) rfl ?_
      refine l_nil ?_
      refine e_then ?_
      refine CJ.weak (.c (t := 2) rfl (.c (t := 4) rfl (.c (t := 5) rfl (.c (t := 46) rfl (.c (t := 47) rfl (.c (t := 48) rfl (.c (t := 137) rfl .n))))))) (fun _ h => h) ?_
      refine c_false (by kernel_rfl) ?_
      refine c_skip ?_
      refine e_block ?_
      refine e_then ?_
      refine CJ.weak (.c (t := 2) rfl (.c (t := 4) rfl (.c (t := 5) rfl (.c (t := 46) rfl (.c (t := 47) rfl (.c (t := 48) rfl .n)))))) (fun _ h => h) ?_
      refine c_text ?_
      refine l_y (Cls.gs _ _) ((y_add rfl rfl).lit (by kernel_rfl : _ = Value.int .i64 2)) rfl ?_
      refine l_y (Cls.gs _ _) (y_move rfl) rfl ?_
      refine l_nil ?_
      refine e_rounds ?_
      refine RJ.weak (.c (t := 2) rfl (.c (t := 4) rfl (.c (t := 5) rfl (.c (t := 46) rfl (.c (t := 47) rfl (.c (t := 48) rfl .n)))))) (fun _ h => h) ?_
      refine r_succ ?_
      refine c_seq ?_
      refine c_text ?_
      refine l_y (Cls.gs _ _) ((y_lss rfl rfl).lit (by kernel_rfl : _ = Value.bool true)) rfl ?_
      refine l_nil ?_
      refine e_then ?_
      refine c_seq ?_
      refine c_true (by kernel_rfl) ?_
      refine c_skip ?_
      refine e_then ?_
      refine CJ.weak (.c (t := 2) rfl (.c (t := 4) rfl (.c (t := 5) rfl (.c (t := 46) rfl (.c (t := 47) rfl (.c (t := 48) rfl .n)))))) (fun _ h => h) ?_
      refine c_seq ?_
      refine c_block ?_
      refine c_seq ?_
      refine c_text ?_
      refine l_y (Cls.gs _ _) (y_move rfl) rfl ?_
      refine l_y (Cls.gs _ _) (y_idxVec Tryz.underlying95 ty9 hfv.1 rfl rfl rfl (by decide) (by rw [hfv.2]; decide)) rfl ?_
      refine l_y (Cls.gs _ _) (y_load rfl (LoadAt.oneV hfv.1 rfl (.c (.c .h)) ty9 (show fv.es[2]? = some [.string (bs [75, 73, 78, 68])] by rw [hfv.2]; rfl) .z (by simp))) rfl ?_
      refine l_y (Cls.gs _ _) (y_assign rfl) rfl ?_
      refine l_y (Cls.gs _ _) (y_assign rfl) rfl ?_
      refine l_nil ?_
      refine e_then ?_
      refine CJ.weak (.c (t := 2) rfl (.c (t := 4) rfl (.c (t := 5) rfl (.c (t := 8) rfl (.c (t := 9) rfl (.c (t := 46) rfl (.c (t := 47) rfl (.c (t := 48) rfl .n)))))))) (fun _ h => h) ?_
      refine c_seq ?_
      refine c_text ?_
      refine l_y (Cls.gs _ _) (y_assign rfl) rfl ?_
      refine l_nil ?_
      refine e_then ?_
      refine CJ.weak (.c (t := 2) rfl (.c (t := 4) rfl (.c (t := 5) rfl (.c (t := 8) rfl (.c (t := 9) rfl (.c (t := 46) rfl (.c (t := 47) rfl (.c (t := 48) rfl .n)))))))) (fun _ h => h) ?_
      refine c_seq ?_
      refine c_text ?_
      refine l_y (Cls.gs _ _) (y_assign rfl) rfl ?_
      refine l_nil ?_
      refine e_then ?_
      refine c_seq ?_
      refine c_seq ?_
      refine c_text ?_
      refine l_y (Cls.gs _ _) (y_move rfl) rfl ?_
      refine l_nil ?_
      refine e_then ?_
      refine c_block ?_
      refine c_seq ?_
      refine c_text ?_
      refine l_y (Cls.gs _ _) ((y_strEq rfl rfl).lit (by kernel_rfl : _ = Value.bool false)) rfl ?_
      refine l_y (Cls.gs _ _) (y_assign rfl) rfl ?_
      refine l_nil ?_
      refine e_then ?_
      refine CJ.weak (.c (t := 2) rfl (.c (t := 4) rfl (.c (t := 5) rfl (.c (t := 8) rfl (.c (t := 9) rfl (.c (t := 11) rfl (.c (t := 46) rfl (.c (t := 47) rfl (.c (t := 48) rfl (.c (t := 53) rfl (.c (t := 60) rfl .n))))))))))) (fun _ h => h) ?_
      refine c_false (by kernel_rfl) ?_
      refine c_seq ?_
      refine c_text ?_
      refine l_y (Cls.gs _ _) ((y_strEq rfl rfl).lit (by kernel_rfl : _ = Value.bool true)) rfl ?_
      refine l_y (Cls.gs _ _) (y_assign rfl) rfl ?_
      refine l_nil ?_
      refine e_then ?_
      refine CJ.weak (.c (t := 2) rfl (.c (t := 4) rfl (.c (t := 5) rfl (.c (t := 8) rfl (.c (t := 9) rfl (.c (t := 11) rfl (.c (t := 46) rfl (.c (t := 47) rfl (.c (t := 48) rfl (.c (t := 53) rfl (.c (t := 72) rfl .n))))))))))) (fun _ h => h) ?_
      refine c_true (by kernel_rfl) ?_
      refine c_skip ?_
      refine e_block ?_
      refine e_then ?_
      refine CJ.weak (.c (t := 2) rfl (.c (t := 4) rfl (.c (t := 5) rfl (.c (t := 11) rfl (.c (t := 46) rfl (.c (t := 47) rfl (.c (t := 48) rfl .n))))))) (fun _ h => h) ?_
      refine c_seq ?_
      refine c_text ?_
      refine l_y (Cls.gs _ _) (y_move rfl) rfl ?_
      refine l_y (Cls.gs _ _) ((y_not rfl).lit (by kernel_rfl : _ = Value.bool false)) rfl ?_
      refine l_nil ?_
      refine e_then ?_
      refine CJ.weak (.c (t := 2) rfl (.c (t := 4) rfl (.c (t := 5) rfl (.c (t := 46) rfl (.c (t := 47) rfl (.c (t := 48) rfl (.c (t := 137) rfl .n))))))) (fun _ h => h) ?_
      refine c_false (by kernel_rfl) ?_
      refine c_skip ?_
      refine e_block ?_
      refine e_then ?_
      refine CJ.weak (.c (t := 2) rfl (.c (t := 4) rfl (.c (t := 5) rfl (.c (t := 46) rfl (.c (t := 47) rfl (.c (t := 48) rfl .n)))))) (fun _ h => h) ?_
      refine c_text ?_
      refine l_y (Cls.gs _ _) ((y_add rfl rfl).lit (by kernel_rfl : _ = Value.int .i64 3)) rfl ?_
      refine l_y (Cls.gs _ _) (y_move rfl) rfl ?_
      refine l_nil ?_
      refine e_rounds ?_
      refine RJ.weak (.c (t := 2) rfl (.c (t := 4) rfl (.c (t := 5) rfl (.c (t := 46) rfl (.c (t := 47) rfl (.c (t := 48) rfl .n)))))) (fun _ h => h) ?_
      refine r_succ ?_
      refine c_seq ?_
      refine c_text ?_
      refine l_y (Cls.gs _ _) ((y_lss rfl rfl).lit (by kernel_rfl : _ = Value.bool true)) rfl ?_
      refine l_nil ?_
      refine e_then ?_
      refine c_seq ?_
      refine c_true (by kernel_rfl) ?_
      refine c_skip ?_
      refine e_then ?_
      refine CJ.weak (.c (t := 2) rfl (.c (t := 4) rfl (.c (t := 5) rfl (.c (t := 46) rfl (.c (t := 47) rfl (.c (t := 48) rfl .n)))))) (fun _ h => h) ?_
      refine c_seq ?_
      refine c_block ?_
      refine c_seq ?_
      refine c_text ?_
      refine l_y (Cls.gs _ _) (y_move rfl) rfl ?_
      refine l_y (Cls.gs _ _) (y_idxVec Tryz.underlying95 ty9 hfv.1 rfl rfl rfl (by decide) (by rw [hfv.2]; decide)) rfl ?_
      refine l_y (Cls.gs _ _) (y_load rfl (LoadAt.oneV hfv.1 rfl (.c (.c .h)) ty9 (show fv.es[3]? = some [.string (bs [97, 116])] by rw [hfv.2]; rfl) .z (by simp))) rfl ?_
      refine l_y (Cls.gs _ _) (y_assign rfl) rfl ?_
      refine l_y (Cls.gs _ _) (y_assign rfl) rfl ?_
      refine l_nil ?_
      refine e_then ?_
      refine CJ.weak (.c (t := 2) rfl (.c (t := 4) rfl (.c (t := 5) rfl (.c (t := 8) rfl (.c (t := 9) rfl (.c (t := 46) rfl (.c (t := 47) rfl (.c (t := 48) rfl .n)))))))) (fun _ h => h) ?_
      refine c_seq ?_
      refine c_text ?_
      refine l_y (Cls.gs _ _) (y_assign rfl) rfl ?_
      refine l_nil ?_
      refine e_then ?_
      refine CJ.weak (.c (t := 2) rfl (.c (t := 4) rfl (.c (t := 5) rfl (.c (t := 8) rfl (.c (t := 9) rfl (.c (t := 46) rfl (.c (t := 47) rfl (.c (t := 48) rfl .n)))))))) (fun _ h => h) ?_
      refine c_seq ?_
      refine c_text ?_
      refine l_y (Cls.gs _ _) (y_assign rfl) rfl ?_
      refine l_nil ?_
      refine e_then ?_
      refine c_seq ?_
      refine c_seq ?_
      refine c_text ?_
      refine l_y (Cls.gs _ _) (y_move rfl) rfl ?_
      refine l_nil ?_
      refine e_then ?_
      refine c_block ?_
      refine c_seq ?_
      refine c_text ?_
      refine l_y (Cls.gs _ _) ((y_strEq rfl rfl).lit (by kernel_rfl : _ = Value.bool false)) rfl ?_
      refine l_y (Cls.gs _ _) (y_assign rfl) rfl ?_
      refine l_nil ?_
      refine e_then ?_
      refine CJ.weak (.c (t := 2) rfl (.c (t := 4) rfl (.c (t := 5) rfl (.c (t := 8) rfl (.c (t := 9) rfl (.c (t := 11) rfl (.c (t := 46) rfl (.c (t := 47) rfl (.c (t := 48) rfl (.c (t := 53) rfl (.c (t := 60) rfl .n))))))))))) (fun _ h => h) ?_
      refine c_false (by kernel_rfl) ?_
      refine c_seq ?_
      refine c_text ?_
      refine l_y (Cls.gs _ _) ((y_strEq rfl rfl).lit (by kernel_rfl : _ = Value.bool false)) rfl ?_
      refine l_y (Cls.gs _ _) (y_assign rfl) rfl ?_
      refine l_nil ?_
      refine e_then ?_
      refine CJ.weak (.c (t := 2) rfl (.c (t := 4) rfl (.c (t := 5) rfl (.c (t := 8) rfl (.c (t := 9) rfl (.c (t := 11) rfl (.c (t := 46) rfl (.c (t := 47) rfl (.c (t := 48) rfl (.c (t := 53) rfl (.c (t := 72) rfl .n))))))))))) (fun _ h => h) ?_
      refine c_false (by kernel_rfl) ?_
      refine c_seq ?_
      refine c_text ?_
      refine l_y (Cls.gs _ _) ((y_strEq rfl rfl).lit (by kernel_rfl : _ = Value.bool false)) rfl ?_
      refine l_y (Cls.gs _ _) (y_assign rfl) rfl ?_
      refine l_nil ?_
      refine e_then ?_
      refine CJ.weak (.c (t := 2) rfl (.c (t := 4) rfl (.c (t := 5) rfl (.c (t := 8) rfl (.c (t := 9) rfl (.c (t := 46) rfl (.c (t := 47) rfl (.c (t := 48) rfl (.c (t := 53) rfl (.c (t := 74) rfl .n)))))))))) (fun _ h => h) ?_
      refine c_false (by kernel_rfl) ?_
      refine c_seq ?_
      refine c_text ?_
      refine l_y (Cls.gs _ _) ((y_strEq rfl rfl).lit (by kernel_rfl : _ = Value.bool false)) rfl ?_
      refine l_y (Cls.gs _ _) (y_assign rfl) rfl ?_
      refine l_nil ?_
      refine e_then ?_
      refine CJ.weak (.c (t := 2) rfl (.c (t := 4) rfl (.c (t := 5) rfl (.c (t := 8) rfl (.c (t := 9) rfl (.c (t := 46) rfl (.c (t := 47) rfl (.c (t := 48) rfl (.c (t := 53) rfl (.c (t := 92) rfl .n)))))))))) (fun _ h => h) ?_
      refine c_false (by kernel_rfl) ?_
      refine c_seq ?_
      refine c_text ?_
      refine l_y (Cls.gs _ _) ((y_strEq rfl rfl).lit (by kernel_rfl : _ = Value.bool false)) rfl ?_
      refine l_y (Cls.gs _ _) (y_assign rfl) rfl ?_
      refine l_nil ?_
      refine e_then ?_
      refine CJ.weak (.c (t := 2) rfl (.c (t := 4) rfl (.c (t := 5) rfl (.c (t := 8) rfl (.c (t := 9) rfl (.c (t := 46) rfl (.c (t := 47) rfl (.c (t := 48) rfl (.c (t := 53) rfl (.c (t := 103) rfl .n)))))))))) (fun _ h => h) ?_
      refine c_false (by kernel_rfl) ?_
      refine c_seq ?_
      refine c_text ?_
      refine l_y (Cls.gs _ _) ((y_strEq rfl rfl).lit (by kernel_rfl : _ = Value.bool false)) rfl ?_
      refine l_y (Cls.gs _ _) (y_assign rfl) rfl ?_
      refine l_nil ?_
      refine e_then ?_
      refine CJ.weak (.c (t := 2) rfl (.c (t := 4) rfl (.c (t := 5) rfl (.c (t := 8) rfl (.c (t := 9) rfl (.c (t := 46) rfl (.c (t := 47) rfl (.c (t := 48) rfl (.c (t := 53) rfl (.c (t := 114) rfl .n)))))))))) (fun _ h => h) ?_
      refine c_false (by kernel_rfl) ?_
      refine c_seq ?_
      refine c_text ?_
      refine l_y (Cls.gs _ _) ((y_strEq rfl rfl).lit (by kernel_rfl : _ = Value.bool false)) rfl ?_
      refine l_y (Cls.gs _ _) (y_assign rfl) rfl ?_
      refine l_nil ?_
      refine e_then ?_
      refine CJ.weak (.c (t := 2) rfl (.c (t := 4) rfl (.c (t := 5) rfl (.c (t := 8) rfl (.c (t := 9) rfl (.c (t := 46) rfl (.c (t := 47) rfl (.c (t := 48) rfl (.c (t := 125) rfl .n))))))))) (fun _ h => h) ?_
      refine c_false (by kernel_rfl) ?_
      refine c_text ?_
      refine l_y (Cls.gs _ _) (y_move rfl) rfl ?_
      refine l_y (Cls.gs _ _) (y_move rfl) rfl ?_
      refine l_y (Cls.gs _ _) (y_idxVec Tryz.underlying95 ty9 hwv.1 rfl rfl rfl (by decide) (by rw [hwl]; decide)) rfl ?_
      refine l_y (Cls.gs _ _) (y_load rfl (LoadAt.oneV hwv.1 rfl (.c (.c (.k (.k .z)))) ty9 (show wv.es[3]? = some [.string (bs [97, 116])] by rw [ewv]; rfl) .z (by simp))) rfl ?_
      refine l_y (Cls.gs _ _) (y_move rfl) rfl ?_
      refine l_y (Cls.gs _ _) ((y_strEq rfl rfl).lit (by kernel_rfl : _ = Value.bool true)) rfl ?_
      refine l_y (Cls.gs _ _) (y_assign rfl) rfl ?_
      refine l_nil ?_
      refine e_block ?_
      refine e_then ?_
      refine CJ.weak (.c (t := 2) rfl (.c (t := 4) rfl (.c (t := 5) rfl (.c (t := 11) rfl (.c (t := 46) rfl (.c (t := 47) rfl (.c (t := 48) rfl .n))))))) (fun _ h => h) ?_
      refine c_seq ?_
      refine c_text ?_
      refine l_y (Cls.gs _ _) (y_move rfl) rfl ?_
      refine l_y (Cls.gs _ _) ((y_not rfl).lit (by kernel_rfl : _ = Value.bool false)) rfl ?_
      refine l_nil ?_
      refine e_then ?_
      refine CJ.weak (.c (t := 2) rfl (.c (t := 4) rfl (.c (t := 5) rfl (.c (t := 46) rfl (.c (t := 47) rfl (.c (t := 48) rfl (.c (t := 137) rfl .n))))))) (fun _ h => h) ?_
      refine c_false (by kernel_rfl) ?_
      refine c_skip ?_
      refine e_block ?_
      refine e_then ?_
      refine CJ.weak (.c (t := 2) rfl (.c (t := 4) rfl (.c (t := 5) rfl (.c (t := 46) rfl (.c (t := 47) rfl (.c (t := 48) rfl .n)))))) (fun _ h => h) ?_
      refine c_text ?_
      refine l_y (Cls.gs _ _) ((y_add rfl rfl).lit (by kernel_rfl : _ = Value.int .i64 4)) rfl ?_
      refine l_y (Cls.gs _ _) (y_move rfl) rfl ?_
      refine l_nil ?_
      refine e_rounds ?_
      refine RJ.weak (.c (t := 2) rfl (.c (t := 4) rfl (.c (t := 5) rfl (.c (t := 46) rfl (.c (t := 47) rfl (.c (t := 48) rfl .n)))))) (fun _ h => h) ?_
      refine r_succ ?_
      refine c_seq ?_
      refine c_text ?_
      refine l_y (Cls.gs _ _) ((y_lss rfl rfl).lit (by kernel_rfl : _ = Value.bool true)) rfl ?_
      refine l_nil ?_
      refine e_then ?_
      refine c_seq ?_
      refine c_true (by kernel_rfl) ?_
      refine c_skip ?_
      refine e_then ?_
      refine CJ.weak (.c (t := 2) rfl (.c (t := 4) rfl (.c (t := 5) rfl (.c (t := 46) rfl (.c (t := 47) rfl (.c (t := 48) rfl .n)))))) (fun _ h => h) ?_
      refine c_seq ?_
      refine c_block ?_
      refine c_seq ?_
      refine c_text ?_
      refine l_y (Cls.gs _ _) (y_move rfl) rfl ?_
      refine l_y (Cls.gs _ _) (y_idxVec Tryz.underlying95 ty9 hfv.1 rfl rfl rfl (by decide) (by rw [hfv.2]; decide)) rfl ?_
      refine l_y (Cls.gs _ _) (y_load rfl (LoadAt.oneV hfv.1 rfl (.c (.c .h)) ty9 (show fv.es[4]? = some [.string (bs [65, 84])] by rw [hfv.2]; rfl) .z (by simp))) rfl ?_
      refine l_y (Cls.gs _ _) (y_assign rfl) rfl ?_
      refine l_y (Cls.gs _ _) (y_assign rfl) rfl ?_
      refine l_nil ?_
      refine e_then ?_
      refine CJ.weak (.c (t := 2) rfl (.c (t := 4) rfl (.c (t := 5) rfl (.c (t := 8) rfl (.c (t := 9) rfl (.c (t := 46) rfl (.c (t := 47) rfl (.c (t := 48) rfl .n)))))))) (fun _ h => h) ?_
      refine c_seq ?_
      refine c_text ?_
      refine l_y (Cls.gs _ _) (y_assign rfl) rfl ?_
      refine l_nil ?_
      refine e_then ?_
      refine CJ.weak (.c (t := 2) rfl (.c (t := 4) rfl (.c (t := 5) rfl (.c (t := 8) rfl (.c (t := 9) rfl (.c (t := 46) rfl (.c (t := 47) rfl (.c (t := 48) rfl .n)))))))) (fun _ h => h) ?_
      refine c_seq ?_
      refine c_text ?_
      refine l_y (Cls.gs _ _) (y_assign rfl) rfl ?_
      refine l_nil ?_
      refine e_then ?_
      refine c_seq ?_
      refine c_seq ?_
      refine c_text ?_
      refine l_y (Cls.gs _ _) (y_move rfl) rfl ?_
      refine l_nil ?_
      refine e_then ?_
      refine c_block ?_
      refine c_seq ?_
      refine c_text ?_
      refine l_y (Cls.gs _ _) ((y_strEq rfl rfl).lit (by kernel_rfl : _ = Value.bool false)) rfl ?_
      refine l_y (Cls.gs _ _) (y_assign rfl) rfl ?_
      refine l_nil ?_
      refine e_then ?_
      refine CJ.weak (.c (t := 2) rfl (.c (t := 4) rfl (.c (t := 5) rfl (.c (t := 8) rfl (.c (t := 9) rfl (.c (t := 11) rfl (.c (t := 46) rfl (.c (t := 47) rfl (.c (t := 48) rfl (.c (t := 53) rfl (.c (t := 60) rfl .n))))))))))) (fun _ h => h) ?_
      refine c_false (by kernel_rfl) ?_
      refine c_seq ?_
      refine c_text ?_
      refine l_y (Cls.gs _ _) ((y_strEq rfl rfl).lit (by kernel_rfl : _ = Value.bool false)) rfl ?_
      refine l_y (Cls.gs _ _) (y_assign rfl) rfl ?_
      refine l_nil ?_
      refine e_then ?_
      refine CJ.weak (.c (t := 2) rfl (.c (t := 4) rfl (.c (t := 5) rfl (.c (t := 8) rfl (.c (t := 9) rfl (.c (t := 11) rfl (.c (t := 46) rfl (.c (t := 47) rfl (.c (t := 48) rfl (.c (t := 53) rfl (.c (t := 72) rfl .n))))))))))) (fun _ h => h) ?_
      refine c_false (by kernel_rfl) ?_
      refine c_seq ?_
      refine c_text ?_
      refine l_y (Cls.gs _ _) ((y_strEq rfl rfl).lit (by kernel_rfl : _ = Value.bool false)) rfl ?_
      refine l_y (Cls.gs _ _) (y_assign rfl) rfl ?_
      refine l_nil ?_
      refine e_then ?_
      refine CJ.weak (.c (t := 2) rfl (.c (t := 4) rfl (.c (t := 5) rfl (.c (t := 8) rfl (.c (t := 9) rfl (.c (t := 46) rfl (.c (t := 47) rfl (.c (t := 48) rfl (.c (t := 53) rfl (.c (t := 74) rfl .n)))))))))) (fun _ h => h) ?_
      refine c_false (by kernel_rfl) ?_
      refine c_seq ?_
      refine c_text ?_
      refine l_y (Cls.gs _ _) ((y_strEq rfl rfl).lit (by kernel_rfl : _ = Value.bool true)) rfl ?_
      refine l_y (Cls.gs _ _) (y_assign rfl) rfl ?_
      refine l_nil ?_
      refine e_then ?_
      refine CJ.weak (.c (t := 2) rfl (.c (t := 4) rfl (.c (t := 5) rfl (.c (t := 8) rfl (.c (t := 9) rfl (.c (t := 46) rfl (.c (t := 47) rfl (.c (t := 48) rfl (.c (t := 53) rfl (.c (t := 92) rfl .n)))))))))) (fun _ h => h) ?_
      refine c_true (by kernel_rfl) ?_
      refine c_text ?_
      refine l_y (Cls.gs _ _) (y_move rfl) rfl ?_
      refine l_y (Cls.gs _ _) (y_move rfl) rfl ?_
      refine l_y (Cls.gs _ _) (y_idxVec Tryz.underlying95 ty9 hwv.1 rfl rfl rfl (by decide) (by rw [hwl]; decide)) rfl ?_
      refine l_y (Cls.gs _ _) (y_load rfl (LoadAt.oneV hwv.1 rfl (.c (.c (.k (.k .z)))) ty9 (show wv.es[4]? = some [.string (bdS a.at_)] by rw [ewv]; rfl) .z (by simp))) rfl ?_
      refine l_y (Cls.gs _ _) (y_call ent45 (.c rfl .n) (fun w' hw' => read45 a.at_ h.at_ w' (hE.gr (hw'.gr .z)))) rfl ?_
      refine l_y (Cls.gs _ _) (y_move rfl) rfl ?_
      refine l_y (Cls.gs _ _) (y_extract rfl .z) rfl ?_
      refine l_y (Cls.gs _ _) (y_extract rfl (.s .z)) rfl ?_
      refine l_y (Cls.gs _ _) (y_fieldAddr rfl fa36_3) rfl ?_
      refine l_n rfl (n_store rfl rfl ty28 .a rfl rfl .z (.s (.s (.s (.t (.t (.t .d))))))) (fun _ _ => ?_)
      refine l_y (Cls.gs _ _) (y_assign rfl) rfl ?_
      refine l_nil ?_
      refine e_block ?_
      refine e_then ?_
      refine CJ.weak (.c (t := 2) rfl (.c (t := 4) rfl (.c (t := 5) rfl (.c (t := 11) rfl (.c (t := 46) rfl (.c (t := 47) rfl (.c (t := 48) rfl .n))))))) (fun _ h => h) ?_
      refine c_seq ?_
      refine c_text ?_
      refine l_y (Cls.gs _ _) (y_move rfl) rfl ?_
      refine l_y (Cls.gs _ _) ((y_not rfl).lit (by kernel_rfl : _ = Value.bool false)) rfl ?_
      refine l_nil ?_
      refine e_then ?_
      refine CJ.weak (.c (t := 2) rfl (.c (t := 4) rfl (.c (t := 5) rfl (.c (t := 46) rfl (.c (t := 47) rfl (.c (t := 48) rfl (.c (t := 137) rfl .n))))))) (fun _ h => h) ?_
      refine c_false (by kernel_rfl) ?_
      refine c_skip ?_
      refine e_block ?_
      refine e_then ?_
      refine CJ.weak (.c (t := 2) rfl (.c (t := 4) rfl (.c (t := 5) rfl (.c (t := 46) rfl (.c (t := 47) rfl (.c (t := 48) rfl .n)))))) (fun _ h => h) ?_
      refine c_text ?_
      refine l_y (Cls.gs _ _) ((y_add rfl rfl).lit (by kernel_rfl : _ = Value.int .i64 5)) rfl ?_
      refine l_y (Cls.gs _ _) (y_move rfl) rfl ?_
      refine l_nil ?_
      refine e_rounds ?_
      refine RJ.weak (.c (t := 2) rfl (.c (t := 4) rfl (.c (t := 5) rfl (.c (t := 46) rfl (.c (t := 47) rfl (.c (t := 48) rfl .n)))))) (fun _ h => h) ?_
      refine r_succ ?_
      refine c_seq ?_
      refine c_text ?_
      refine l_y (Cls.gs _ _) ((y_lss rfl rfl).lit (by kernel_rfl : _ = Value.bool true)) rfl ?_
      refine l_nil ?_
      refine e_then ?_
      refine c_seq ?_
      refine c_true (by kernel_rfl) ?_
      refine c_skip ?_
      refine e_then ?_
      refine CJ.weak (.c (t := 2) rfl (.c (t := 4) rfl (.c (t := 5) rfl (.c (t := 46) rfl (.c (t := 47) rfl (.c (t := 48) rfl .n)))))) (fun _ h => h) ?_
      refine c_seq ?_
      refine c_block ?_
      refine c_seq ?_
      refine c_text ?_
      refine l_y (Cls.gs _ _) (y_move rfl) rfl ?_
      refine l_y (Cls.gs _ _) (y_idxVec Tryz.underlying95 ty9 hfv.1 rfl rfl rfl (by decide) (by rw [hfv.2]; decide)) rfl ?_
      refine l_y (Cls.gs _ _) (y_load rfl (LoadAt.oneV hfv.1 rfl (.c (.c .h)) ty9 (show fv.es[5]? = some [.string (bs [111, 102])] by rw [hfv.2]; rfl) .z (by simp))) rfl ?_
      refine l_y (Cls.gs _ _) (y_assign rfl) rfl ?_
      refine l_y (Cls.gs _ _) (y_assign rfl) rfl ?_
      refine l_nil ?_
      refine e_then ?_
      refine CJ.weak (.c (t := 2) rfl (.c (t := 4) rfl (.c (t := 5) rfl (.c (t := 8) rfl (.c (t := 9) rfl (.c (t := 46) rfl (.c (t := 47) rfl (.c (t := 48) rfl .n)))))))) (fun _ h => h) ?_
      refine c_seq ?_
      refine c_text ?_
      refine l_y (Cls.gs _ _) (y_assign rfl) rfl ?_
      refine l_nil ?_
      refine e_then ?_
      refine CJ.weak (.c (t := 2) rfl (.c (t := 4) rfl (.c (t := 5) rfl (.c (t := 8) rfl (.c (t := 9) rfl (.c (t := 46) rfl (.c (t := 47) rfl (.c (t := 48) rfl .n)))))))) (fun _ h => h) ?_
      refine c_seq ?_
      refine c_text ?_
      refine l_y (Cls.gs _ _) (y_assign rfl) rfl ?_
      refine l_nil ?_
      refine e_then ?_
      refine c_seq ?_
      refine c_seq ?_
      refine c_text ?_
      refine l_y (Cls.gs _ _) (y_move rfl) rfl ?_
      refine l_nil ?_
      refine e_then ?_
      refine c_block ?_
      refine c_seq ?_
      refine c_text ?_
      refine l_y (Cls.gs _ _) ((y_strEq rfl rfl).lit (by kernel_rfl : _ = Value.bool false)) rfl ?_
      refine l_y (Cls.gs _ _) (y_assign rfl) rfl ?_
      refine l_nil ?_
      refine e_then ?_
      refine CJ.weak (.c (t := 2) rfl (.c (t := 4) rfl (.c (t := 5) rfl (.c (t := 8) rfl (.c (t := 9) rfl (.c (t := 11) rfl (.c (t := 46) rfl (.c (t := 47) rfl (.c (t := 48) rfl (.c (t := 53) rfl (.c (t := 60) rfl .n))))))))))) (fun _ h => h) ?_
      refine c_false (by kernel_rfl) ?_
      refine c_seq ?_
      refine c_text ?_
      refine l_y (Cls.gs _ _) ((y_strEq rfl rfl).lit (by kernel_rfl : _ = Value.bool false)) rfl ?_
      refine l_y (Cls.gs _ _) (y_assign rfl) rfl ?_
      refine l_nil ?_
      refine e_then ?_
      refine CJ.weak (.c (t := 2) rfl (.c (t := 4) rfl (.c (t := 5) rfl (.c (t := 8) rfl (.c (t := 9) rfl (.c (t := 11) rfl (.c (t := 46) rfl (.c (t := 47) rfl (.c (t := 48) rfl (.c (t := 53) rfl (.c (t := 72) rfl .n))))))))))) (fun _ h => h) ?_
      refine c_false (by kernel_rfl) ?_
      refine c_seq ?_
      refine c_text ?_
      refine l_y (Cls.gs _ _) ((y_strEq rfl rfl).lit (by kernel_rfl : _ = Value.bool false)) rfl ?_
      refine l_y (Cls.gs _ _) (y_assign rfl) rfl ?_
      refine l_nil ?_
      refine e_then ?_
      refine CJ.weak (.c (t := 2) rfl (.c (t := 4) rfl (.c (t := 5) rfl (.c (t := 8) rfl (.c (t := 9) rfl (.c (t := 46) rfl (.c (t := 47) rfl (.c (t := 48) rfl (.c (t := 53) rfl (.c (t := 74) rfl .n)))))))))) (fun _ h => h) ?_
      refine c_false (by kernel_rfl) ?_
      refine c_seq ?_
      refine c_text ?_
      refine l_y (Cls.gs _ _) ((y_strEq rfl rfl).lit (by kernel_rfl : _ = Value.bool false)) rfl ?_
      refine l_y (Cls.gs _ _) (y_assign rfl) rfl ?_
      refine l_nil ?_
      refine e_then ?_
      refine CJ.weak (.c (t := 2) rfl (.c (t := 4) rfl (.c (t := 5) rfl (.c (t := 8) rfl (.c (t := 9) rfl (.c (t := 46) rfl (.c (t := 47) rfl (.c (t := 48) rfl (.c (t := 53) rfl (.c (t := 92) rfl .n)))))))))) (fun _ h => h) ?_
      refine c_false (by kernel_rfl) ?_
      refine c_seq ?_
      refine c_text ?_
      refine l_y (Cls.gs _ _) ((y_strEq rfl rfl).lit (by kernel_rfl : _ = Value.bool false)) rfl ?_
      refine l_y (Cls.gs _ _) (y_assign rfl) rfl ?_
      refine l_nil ?_
      refine e_then ?_
      refine CJ.weak (.c (t := 2) rfl (.c (t := 4) rfl (.c (t := 5) rfl (.c (t := 8) rfl (.c (t := 9) rfl (.c (t := 46) rfl (.c (t := 47) rfl (.c (t := 48) rfl (.c (t := 53) rfl (.c (t := 103) rfl .n)))))))))) (fun _ h => h) ?_
      refine c_false (by kernel_rfl) ?_
      refine c_seq ?_
      refine c_text ?_
      refine l_y (Cls.gs _ _) ((y_strEq rfl rfl).lit (by kernel_rfl : _ = Value.bool false)) rfl ?_
      refine l_y (Cls.gs _ _) (y_assign rfl) rfl ?_
      refine l_nil ?_
      refine e_then ?_
      refine CJ.weak (.c (t := 2) rfl (.c (t := 4) rfl (.c (t := 5) rfl (.c (t := 8) rfl (.c (t := 9) rfl (.c (t := 46) rfl (.c (t := 47) rfl (.c (t := 48) rfl (.c (t := 53) rfl (.c (t := 114) rfl .n)))))))))) (fun _ h => h) ?_
      refine c_false (by kernel_rfl) ?_
      refine c_seq ?_
      refine c_text ?_
      refine l_y (Cls.gs _ _) ((y_strEq rfl rfl).lit (by kernel_rfl : _ = Value.bool false)) rfl ?_
      refine l_y (Cls.gs _ _) (y_assign rfl) rfl ?_
      refine l_nil ?_
      refine e_then ?_
      refine CJ.weak (.c (t := 2) rfl (.c (t := 4) rfl (.c (t := 5) rfl (.c (t := 8) rfl (.c (t := 9) rfl (.c (t := 46) rfl (.c (t := 47) rfl (.c (t := 48) rfl (.c (t := 125) rfl .n))))))))) (fun _ h => h) ?_
      refine c_false (by kernel_rfl) ?_
      refine c_text ?_
      refine l_y (Cls.gs _ _) (y_move rfl) rfl ?_
      refine l_y (Cls.gs _ _) (y_move rfl) rfl ?_
      refine l_y (Cls.gs _ _) (y_idxVec Tryz.underlying95 ty9 hwv.1 rfl rfl rfl (by decide) (by rw [hwl]; decide)) rfl ?_
      refine l_y (Cls.gs _ _) (y_load rfl (LoadAt.oneV hwv.1 rfl (.c (.c (.k (.k .z)))) ty9 (show wv.es[5]? = some [.string (bs [111, 102])] by rw [ewv]; rfl) .z (by simp))) rfl ?_
      refine l_y (Cls.gs _ _) (y_move rfl) rfl ?_
      refine l_y (Cls.gs _ _) ((y_strEq rfl rfl).lit (by kernel_rfl : _ = Value.bool true)) rfl ?_
      refine l_y (Cls.gs _ _) (y_assign rfl) rfl ?_
      refine l_nil ?_
      refine e_block ?_
      refine e_then ?_
      refine CJ.weak (.c (t := 2) rfl (.c (t := 4) rfl (.c (t := 5) rfl (.c (t := 11) rfl (.c (t := 46) rfl (.c (t := 47) rfl (.c (t := 48) rfl .n))))))) (fun _ h => h) ?_
      refine c_seq ?_
      refine c_text ?_
      refine l_y (Cls.gs _ _) (y_move rfl) rfl ?_
      refine l_y (Cls.gs _ _) ((y_not rfl).lit (by kernel_rfl : _ = Value.bool false)) rfl ?_
      refine l_nil ?_
      refine e_then ?_
      refine CJ.weak (.c (t := 2) rfl (.c (t := 4) rfl (.c (t := 5) rfl (.c (t := 46) rfl (.c (t := 47) rfl (.c (t := 48) rfl (.c (t := 137) rfl .n))))))) (fun _ h => h) ?_
      refine c_false (by kernel_rfl) ?_
      refine c_skip ?_
      refine e_block ?_
      refine e_then ?_
      refine CJ.weak (.c (t := 2) rfl (.c (t := 4) rfl (.c (t := 5) rfl (.c (t := 46) rfl (.c (t := 47) rfl (.c (t := 48) rfl .n)))))) (fun _ h => h) ?_
      refine c_text ?_
      refine l_y (Cls.gs _ _) ((y_add rfl rfl).lit (by kernel_rfl : _ = Value.int .i64 6)) rfl ?_
      refine l_y (Cls.gs _ _) (y_move rfl) rfl ?_
      refine l_nil ?_
      refine e_rounds ?_
      refine RJ.weak (.c (t := 2) rfl (.c (t := 4) rfl (.c (t := 5) rfl (.c (t := 46) rfl (.c (t := 47) rfl (.c (t := 48) rfl .n)))))) (fun _ h => h) ?_
      refine r_succ ?_
      refine c_seq ?_
      refine c_text ?_
      refine l_y (Cls.gs _ _) ((y_lss rfl rfl).lit (by kernel_rfl : _ = Value.bool true)) rfl ?_
      refine l_nil ?_
      refine e_then ?_
      refine c_seq ?_
      refine c_true (by kernel_rfl) ?_
      refine c_skip ?_
      refine e_then ?_
      refine CJ.weak (.c (t := 2) rfl (.c (t := 4) rfl (.c (t := 5) rfl (.c (t := 46) rfl (.c (t := 47) rfl (.c (t := 48) rfl .n)))))) (fun _ h => h) ?_
      refine c_seq ?_
      refine c_block ?_
      refine c_seq ?_
      refine c_text ?_
      refine l_y (Cls.gs _ _) (y_move rfl) rfl ?_
      refine l_y (Cls.gs _ _) (y_idxVec Tryz.underlying95 ty9 hfv.1 rfl rfl rfl (by decide) (by rw [hfv.2]; decide)) rfl ?_
      refine l_y (Cls.gs _ _) (y_load rfl (LoadAt.oneV hfv.1 rfl (.c (.c .h)) ty9 (show fv.es[6]? = some [.string (bs [78])] by rw [hfv.2]; rfl) .z (by simp))) rfl ?_
      refine l_y (Cls.gs _ _) (y_assign rfl) rfl ?_
      refine l_y (Cls.gs _ _) (y_assign rfl) rfl ?_
      refine l_nil ?_
      refine e_then ?_
      refine CJ.weak (.c (t := 2) rfl (.c (t := 4) rfl (.c (t := 5) rfl (.c (t := 8) rfl (.c (t := 9) rfl (.c (t := 46) rfl (.c (t := 47) rfl (.c (t := 48) rfl .n)))))))) (fun _ h => h) ?_
      refine c_seq ?_
      refine c_text ?_
      refine l_y (Cls.gs _ _) (y_assign rfl) rfl ?_
      refine l_nil ?_
      refine e_then ?_
      refine CJ.weak (.c (t := 2) rfl (.c (t := 4) rfl (.c (t := 5) rfl (.c (t := 8) rfl (.c (t := 9) rfl (.c (t := 46) rfl (.c (t := 47) rfl (.c (t := 48) rfl .n)))))))) (fun _ h => h) ?_
      refine c_seq ?_
      refine c_text ?_
      refine l_y (Cls.gs _ _) (y_assign rfl) rfl ?_
      refine l_nil ?_
      refine e_then ?_
      refine c_seq ?_
      refine c_seq ?_
      refine c_text ?_
      refine l_y (Cls.gs _ _) (y_move rfl) rfl ?_
      refine l_nil ?_
      refine e_then ?_
      refine c_block ?_
      refine c_seq ?_
      refine c_text ?_
      refine l_y (Cls.gs _ _) ((y_strEq rfl rfl).lit (by kernel_rfl : _ = Value.bool false)) rfl ?_
      refine l_y (Cls.gs _ _) (y_assign rfl) rfl ?_
      refine l_nil ?_
      refine e_then ?_
      refine CJ.weak (.c (t := 2) rfl (.c (t := 4) rfl (.c (t := 5) rfl (.c (t := 8) rfl (.c (t := 9) rfl (.c (t := 11) rfl (.c (t := 46) rfl (.c (t := 47) rfl (.c (t := 48) rfl (.c (t := 53) rfl (.c (t := 60) rfl .n))))))))))) (fun _ h => h) ?_
      refine c_false (by kernel_rfl) ?_
      refine c_seq ?_
      refine c_text ?_
      refine l_y (Cls.gs _ _) ((y_strEq rfl rfl).lit (by kernel_rfl : _ = Value.bool false)) rfl ?_
      refine l_y (Cls.gs _ _) (y_assign rfl) rfl ?_
      refine l_nil ?_
      refine e_then ?_
      refine CJ.weak (.c (t := 2) rfl (.c (t := 4) rfl (.c (t := 5) rfl (.c (t := 8) rfl (.c (t := 9) rfl (.c (t := 11) rfl (.c (t := 46) rfl (.c (t := 47) rfl (.c (t := 48) rfl (.c (t := 53) rfl (.c (t := 72) rfl .n))))))))))) (fun _ h => h) ?_
      refine c_false (by kernel_rfl) ?_
      refine c_seq ?_
      refine c_text ?_
      refine l_y (Cls.gs _ _) ((y_strEq rfl rfl).lit (by kernel_rfl : _ = Value.bool true)) rfl ?_
      refine l_y (Cls.gs _ _) (y_assign rfl) rfl ?_
      refine l_nil ?_
      refine e_then ?_
      refine CJ.weak (.c (t := 2) rfl (.c (t := 4) rfl (.c (t := 5) rfl (.c (t := 8) rfl (.c (t := 9) rfl (.c (t := 46) rfl (.c (t := 47) rfl (.c (t := 48) rfl (.c (t := 53) rfl (.c (t := 74) rfl .n)))))))))) (fun _ h => h) ?_
      refine c_true (by kernel_rfl) ?_
      refine c_seq ?_
      refine c_text ?_
      refine l_y (Cls.gs _ _) (y_move rfl) rfl ?_
      refine l_y (Cls.gs _ _) (y_move rfl) rfl ?_
      refine l_y (Cls.gs _ _) (y_idxVec Tryz.underlying95 ty9 hwv.1 rfl rfl rfl (by decide) (by rw [hwl]; decide)) rfl ?_
      refine l_y (Cls.gs _ _) (y_load rfl (LoadAt.oneV hwv.1 rfl (.c (.c (.k (.k .z)))) ty9 (show wv.es[6]? = some [.string (numS a.of_)] by rw [ewv]; rfl) .z (by simp))) rfl ?_
      refine l_y (Cls.gs _ _) (y_call ent44 (.c rfl .n) (fun w' hw' => whole44 a.of_ (by omega) (by omega) w' (hE.gr (hw'.gr .z)))) rfl ?_
      refine l_y (Cls.gs _ _) (y_move rfl) rfl ?_
      refine l_y (Cls.gs _ _) (y_extract rfl .z) rfl ?_
      refine l_y (Cls.gs _ _) (y_extract rfl (.s .z)) rfl ?_
      refine l_y (Cls.gs _ _) (y_assign rfl) rfl ?_
      refine l_y (Cls.gs _ _) (y_assign rfl) rfl ?_
      refine l_nil ?_
      refine e_then ?_
      refine CJ.weak (.c (t := 2) rfl (.c (t := 4) rfl (.c (t := 5) rfl (.c (t := 10) rfl (.c (t := 11) rfl (.c (t := 46) rfl (.c (t := 47) rfl (.c (t := 48) rfl .n)))))))) (fun _ h => h) ?_
      refine c_seq ?_
      refine c_text ?_
      refine l_y (Cls.gs _ _) (y_move rfl) rfl ?_
      refine l_y (Cls.gs _ _) (y_fieldAddr rfl fa36_2) rfl ?_
      refine l_n rfl (n_store rfl rfl ty3 (.o rfl) rfl rfl .z (.s (.s (.t .d)))) (fun _ _ => ?_)
      refine l_nil ?_
      refine e_then ?_
      refine CJ.weak (.c (t := 2) rfl (.c (t := 4) rfl (.c (t := 5) rfl (.c (t := 10) rfl (.c (t := 11) rfl (.c (t := 46) rfl (.c (t := 47) rfl (.c (t := 48) rfl .n)))))))) (fun _ h => h) ?_
      refine c_seq ?_
      refine c_text ?_
      refine l_y (Cls.gs _ _) (y_fieldAddr rfl fa36_1) rfl ?_
      refine l_y (Cls.gs _ _) (y_load rfl (LoadAt.oneL .z ty3 (.s .z))) rfl ?_
      refine l_y (Cls.gs _ _) ((y_eql rfl rfl).lit (congrArg Value.bool (decide_eq_true hk))) rfl ?_
      refine l_nil ?_
      refine e_then ?_
      refine CJ.weak (.c (t := 2) rfl (.c (t := 4) rfl (.c (t := 5) rfl (.c (t := 10) rfl (.c (t := 11) rfl (.c (t := 46) rfl (.c (t := 47) rfl (.c (t := 48) rfl (.c (t := 88) rfl .n))))))))) (fun _ h => h) ?_
      refine c_true (by kernel_rfl) ?_
      refine c_text ?_
      refine l_y (Cls.gs _ _) (y_move rfl) rfl ?_
      refine l_y (Cls.gs _ _) (y_fieldAddr rfl fa36_2) rfl ?_
      refine l_n rfl (n_store rfl rfl ty3 (.o rfl) rfl rfl .z (.s (.s (.t .d)))) (fun _ _ => ?_)
      refine l_y (Cls.gs _ _) (y_fieldAddr rfl fa36_7) rfl ?_
      refine l_n rfl (n_store rfl rfl ty3 (.o rfl) rfl rfl .z (.s (.s (.s (.s (.s (.s (.s (.s (.s (.s (.s (.s (.s (.s (.s (.t .d))))))))))))))))) (fun _ _ => ?_)
      refine l_nil ?_
      refine e_block ?_
      refine e_then ?_
      refine CJ.weak (.c (t := 2) rfl (.c (t := 4) rfl (.c (t := 5) rfl (.c (t := 11) rfl (.c (t := 46) rfl (.c (t := 47) rfl (.c (t := 48) rfl .n))))))) (fun _ h => h) ?_
      refine c_seq ?_
      refine c_text ?_
      refine l_y (Cls.gs _ _) (y_move rfl) rfl ?_
      refine l_y (Cls.gs _ _) ((y_not rfl).lit (by kernel_rfl : _ = Value.bool false)) rfl ?_
      refine l_nil ?_
      refine e_then ?_
      refine CJ.weak (.c (t := 2) rfl (.c (t := 4) rfl (.c (t := 5) rfl (.c (t := 46) rfl (.c (t := 47) rfl (.c (t := 48) rfl (.c (t := 137) rfl .n))))))) (fun _ h => h) ?_
      refine c_false (by kernel_rfl) ?_
      refine c_skip ?_
      refine e_block ?_
      refine e_then ?_
      refine CJ.weak (.c (t := 2) rfl (.c (t := 4) rfl (.c (t := 5) rfl (.c (t := 46) rfl (.c (t := 47) rfl (.c (t := 48) rfl .n)))))) (fun _ h => h) ?_
      refine c_text ?_
      refine l_y (Cls.gs _ _) ((y_add rfl rfl).lit (by kernel_rfl : _ = Value.int .i64 7)) rfl ?_
      refine l_y (Cls.gs _ _) (y_move rfl) rfl ?_
      refine l_nil ?_
      refine e_rounds ?_
      refine RJ.weak (.c (t := 2) rfl (.c (t := 4) rfl (.c (t := 5) rfl (.c (t := 46) rfl (.c (t := 47) rfl (.c (t := 48) rfl .n)))))) (fun _ h => h) ?_
      refine r_succ ?_
      refine c_seq ?_
      refine c_text ?_
      refine l_y (Cls.gs _ _) ((y_lss rfl rfl).lit (by kernel_rfl : _ = Value.bool false)) rfl ?_
      refine l_nil ?_
      refine e_then ?_
      refine c_seq ?_
      refine c_false (by kernel_rfl) ?_
      refine c_exit ?_
      refine e_then_exit ?_
      refine e_then_exit ?_
      refine e_block_hit ?_
      refine e_then ?_
      refine CJ.weak (.c (t := 2) rfl (.c (t := 5) rfl .n)) (fun _ h => h) ?_
      refine c_seq ?_
      refine c_seq ?_
      refine c_text ?_
      refine l_y (Cls.gs _ _) (y_load rfl (LoadAt.aggL .z ty36 (.t (.t (.t (.t (.t (.t (.t (.t (.t (.t (.t (.t (.t (.t (.t (.t .d)))))))))))))))))) rfl ?_
      refine l_y (Cls.gs _ _) (y_call ent24 (.c rfl .n) (fun w _ => check24 _ haX w)) rfl ?_
      refine l_y (Cls.gs _ _) (y_assign rfl) rfl ?_
      refine l_nil ?_
      refine e_then ?_
      refine CJ.weak (.c (t := 2) rfl (.c (t := 5) rfl (.c (t := 12) rfl .n))) (fun _ h => h) ?_
      refine c_seq ?_
      refine c_text ?_
      refine l_y (Cls.gs _ _) (y_move rfl) rfl ?_
      refine l_y (Cls.gs _ _) ((y_neq rfl rfl).lit (by kernel_rfl : _ = Value.bool false)) rfl ?_
      refine l_nil ?_
      refine e_then ?_
      refine CJ.weak (.c (t := 2) rfl (.c (t := 5) rfl (.c (t := 12) rfl (.c (t := 143) rfl .n)))) (fun _ h => h) ?_
      refine c_false (by kernel_rfl) ?_
      refine c_skip ?_
      refine e_then ?_
      refine CJ.weak (.c (t := 2) rfl (.c (t := 5) rfl .n)) (fun _ h => h) ?_
      refine c_seq ?_
      refine c_text ?_
      refine l_y (Cls.gs _ _) (y_load rfl (LoadAt.aggL .z ty36 (.t (.t (.t (.t (.t (.t (.t (.t (.t (.t (.t (.t (.t (.t (.t (.t .d)))))))))))))))))) rfl ?_
      refine l_n rfl (n_store rfl rfl ty36 .a rfl rfl (.s .z) (.t (.t (.t (.t (.t (.t (.t (.t (.t (.t (.t (.t (.t (.t (.t (.t .d))))))))))))))))) (fun _ _ => ?_)
      refine l_y (Cls.gs _ _) (y_assign rfl) rfl ?_
      refine l_nil ?_
      refine e_then ?_
      refine CJ.weak (.c (t := 2) rfl (.c (t := 3) rfl .n)) (fun _ h => h) ?_
      refine c_ret ?_
      refine e_ret rfl (.c rfl (LoadAt.aggL (.s .z) ty36 (.t (.t (.t (.t (.t (.t (.t (.t (.t (.t (.t (.t (.t (.t (.t (.t .d))))))))))))))))) (.t rfl .n)) (fun wF hw => ?_)
      exact ⟨congrArg (fun z : Al => Ending.returned (.tuple #[.agg (Al.cells z).toArray, .int .i64 0])) ea, (hw.anc (w, []) (by simp)).below⟩
    ·
      refine s_n (i := 7) rfl rfl (fun _ => Cls.gs _ _) (.inr fun _ _ h => h.tail) (n_alloc ty36 .a rfl) (fun b1 _ => ?_)
      refine a_n (i := 0) rfl rfl (by kernel_rfl) (fun _ => Cls.gs _ _) (.inl ⟨rfl, fun _ _ h => h.thin (.d (.k (.a .r)))⟩) (n_callV ent37 (.c (.c .e)) .n (fun w' _ => names37 w') rfl) (fun nv hnv => ?_)
      refine a_y (i := 4) (Cls.gs _ _) (by kernel_rfl) rfl (by kernel_rfl) (by kernel_rfl) (y_call ent43 (.c rfl (.c rfl .n)) (fun w' hw' => index43v (nameOf a.kind) nv hnv.1 hnv.2 w' (Cls.ownV hnv.1 hw' (.c (.c .h))))) rfl ?_
      refine a_y (i := 5) (Cls.gs _ _) (by kernel_rfl) rfl (by kernel_rfl) (by kernel_rfl) ((y_add rfl rfl).lit (kidx i7 i8)) rfl ?_
      refine a_y (i := 6) (Cls.gs _ _) (by kernel_rfl) rfl (by kernel_rfl) (by kernel_rfl) (y_build pl36 ty36 .a (.c rfl .n) (.c rfl (.o rfl) rfl rfl (.s (.t .d)) .d)) rfl ?_
      refine a_n (i := 8) rfl rfl (by kernel_rfl) (fun _ => Cls.gs _ _) (.inl ⟨rfl, fun _ _ h => h.thin (.d (.k (.a .r)))⟩) (n_store rfl rfl ty36 .a rfl rfl .z (.t (.t (.t (.t (.t (.t (.t (.t (.t (.t (.t (.t (.t (.t (.t (.t .d))))))))))))))))) (fun _ _ => ?_)
      refine a_done (by kernel_rfl) ?_
      refine e_then ?_
      refine CJ.weak (.c (t := 2) rfl (.c (t := 4) rfl (.c (t := 5) rfl .n))) (fun _ h => h) ?_
      refine c_seq ?_
      refine c_text ?_
      refine l_y (Cls.gs _ _) (y_assign rfl) rfl ?_
      refine l_nil ?_
      refine e_then ?_
      refine c_seq ?_
      refine c_seq ?_
      refine c_text ?_
      refine l_y (Cls.gs _ _) (y_fieldAddr rfl fa36_1) rfl ?_
      refine l_y (Cls.gs _ _) (y_load rfl (LoadAt.oneL .z ty3 (.s .z))) rfl ?_
      refine l_y (Cls.gs _ _) ((y_eql rfl rfl).lit (congrArg Value.bool (decide_eq_true hk))) rfl ?_
      refine l_nil ?_
      refine e_then ?_
      refine CJ.weak (.c (t := 2) rfl (.c (t := 4) rfl (.c (t := 5) rfl (.c (t := 6) rfl (.c (t := 32) rfl .n))))) (fun _ h => h) ?_
      refine c_true (by kernel_rfl) ?_
      refine c_text ?_
      refine l_y (Cls.gs _ _) (y_assign rfl) rfl ?_
      refine l_nil ?_
      refine e_then ?_
      refine CJ.weak (.c (t := 2) rfl (.c (t := 4) rfl (.c (t := 5) rfl (.c (t := 6) rfl .n)))) (fun _ h => h) ?_
      refine c_seq ?_
      refine c_text ?_
      refine l_y (Cls.gs _ _) (y_move rfl) rfl ?_
      refine l_n rfl (n_callV ent42 (.c (.c .e)) (.c rfl (.c rfl .n)) (fun w' hw' => split42f6 w' (hE.gr (hw'.gr .z))) rfl) (fun fv hfv => ?_)
      refine l_y (Cls.gs _ _) (y_assign rfl) rfl ?_
      refine l_nil ?_
      refine e_then ?_
      refine CJ.weak (.c (t := 2) rfl (.c (t := 4) rfl (.c (t := 5) rfl (.c (t := 7) rfl .n)))) (fun _ h => h) ?_
      refine c_seq ?_
      refine c_seq ?_
      have hfl : fv.es.length = 7 := by rw [hfv.2]; rfl
      refine c_text ?_
      refine l_y (Cls.gs _ _) (y_fieldAddr rfl fa36_1) rfl ?_
      refine l_y (Cls.gs _ _) (y_load rfl (LoadAt.oneL .z ty3 (.s .z))) rfl ?_
      refine l_y (Cls.gs _ _) ((y_eql rfl rfl).lit (congrArg Value.bool (decide_eq_false (by omega)))) rfl ?_
      refine l_y (Cls.gs _ _) (y_move rfl) rfl ?_
      refine l_g (s := 38) (Cls.gs _ _) (by kernel_rfl) rfl (beq_f _) (fun hg => y_move rfl) rfl ?_
      refine l_g (s := 38) (Cls.gs _ _) (by kernel_rfl) rfl (beq_f _) (fun hg => (y_lenV Tryz.underlying95 hwv.1 (gvt hg rfl) rfl).lit (show Value.int .i64 ((wv.es.length : Nat) : Int) = Value.int .i64 7 by rw [hwl]; rfl)) rfl ?_
      refine l_g (s := 38) (Cls.gs _ _) (by kernel_rfl) rfl (beq_f _) (fun hg => y_move rfl) rfl ?_
      refine l_g (s := 38) (Cls.gs _ _) (by kernel_rfl) rfl (beq_f _) (fun hg => (y_lenV Tryz.underlying95 hfv.1 (gvt hg rfl) rfl).lit (show Value.int .i64 ((fv.es.length : Nat) : Int) = Value.int .i64 7 by rw [hfl]; rfl)) rfl ?_
      refine l_g (s := 38) (Cls.gs _ _) (by kernel_rfl) rfl (beq_f _) (fun hg => (y_neq (gvt hg rfl) (gvt hg rfl)).lit (by kernel_rfl : _ = Value.bool false)) rfl ?_
      refine l_y (Cls.gs _ _) ((y_or rfl rfl rfl).lit (by kernel_rfl : _ = Value.bool false)) rfl ?_
      refine l_nil ?_
      refine e_then ?_
      refine CJ.weak (.c (t := 2) rfl (.c (t := 4) rfl (.c (t := 5) rfl (.c (t := 7) rfl (.c (t := 44) rfl .n))))) (fun _ h => h) ?_
      refine c_false (by kernel_rfl) ?_
      refine c_skip ?_
      refine e_then ?_
      refine CJ.weak (.c (t := 2) rfl (.c (t := 4) rfl (.c (t := 5) rfl (.c (t := 7) rfl .n)))) (fun _ h => h) ?_
      refine c_seq ?_
      refine c_seq ?_
      refine c_text ?_
      refine l_y (Cls.gs _ _) (y_move rfl) rfl ?_
      refine l_y (Cls.gs _ _) ((y_lenV Tryz.underlying95 hfv.1 rfl rfl).lit (show Value.int .i64 ((fv.es.length : Nat) : Int) = Value.int .i64 7 by rw [hfl]; rfl)) rfl ?_
      refine l_y (Cls.gs _ _) (y_move rfl) rfl ?_
      refine l_nil ?_
      refine e_then ?_
      refine CJ.weak (.c (t := 2) rfl (.c (t := 4) rfl (.c (t := 5) rfl (.c (t := 46) rfl (.c (t := 47) rfl (.c (t := 48) rfl .n)))))) (fun _ h => h) ?_
      refine c_block ?_
      refine c_rounds 8 ?_
      refine r_succ ?_
      refine c_seq ?_
      refine c_text ?_
      refine l_y (Cls.gs _ _) ((y_lss rfl rfl).lit (by kernel_rfl : _ = Value.bool true)) rfl ?_
      refine l_nil ?_
      refine e_then ?_
      refine c_seq ?_
      refine c_true (by kernel_rfl) ?_
      refine c_skip ?_
      refine e_then ?_
      refine CJ.weak (.c (t := 2) rfl (.c (t := 4) rfl (.c (t := 5) rfl (.c (t := 46) rfl (.c (t := 47) rfl (.c (t := 48) rfl .n)))))) (fun _ h => h) ?_
      refine c_seq ?_
      refine c_block ?_
      refine c_seq ?_
      refine c_text ?_
      refine l_y (Cls.gs _ _) (y_move rfl) rfl ?_
      refine l_y (Cls.gs _ _) (y_idxVec Tryz.underlying95 ty9 hfv.1 rfl rfl rfl (by decide) (by rw [hfv.2]; decide)) rfl ?_
      refine l_y (Cls.gs _ _) (y_load rfl (LoadAt.oneV hfv.1 rfl (.c (.c .h)) ty9 (show fv.es[0]? = some [.string (bs [97, 108, 101, 114, 116])] by rw [hfv.2]; rfl) .z (by simp))) rfl ?_
      refine l_y (Cls.gs _ _) (y_assign rfl) rfl ?_
      refine l_y (Cls.gs _ _) (y_assign rfl) rfl ?_
      refine l_nil ?_
      refine e_then ?_
      refine CJ.weak (.c (t := 2) rfl (.c (t := 4) rfl (.c (t := 5) rfl (.c (t := 8) rfl (.c (t := 9) rfl (.c (t := 46) rfl (.c (t := 47) rfl (.c (t := 48) rfl .n)))))))) (fun _ h => h) ?_
      refine c_seq ?_
      refine c_text ?_
      refine l_y (Cls.gs _ _) (y_assign rfl) rfl ?_
      refine l_nil ?_
      refine e_then ?_
      refine CJ.weak (.c (t := 2) rfl (.c (t := 4) rfl (.c (t := 5) rfl (.c (t := 8) rfl (.c (t := 9) rfl (.c (t := 46) rfl (.c (t := 47) rfl (.c (t := 48) rfl .n)))))))) (fun _ h => h) ?_
      refine c_seq ?_
      refine c_text ?_
      refine l_y (Cls.gs _ _) (y_assign rfl) rfl ?_
      refine l_nil ?_
      refine e_then ?_
      refine c_seq ?_
      refine c_seq ?_
      refine c_text ?_
      refine l_y (Cls.gs _ _) (y_move rfl) rfl ?_
      refine l_nil ?_
      refine e_then ?_
      refine c_block ?_
      refine c_seq ?_
      refine c_text ?_
      refine l_y (Cls.gs _ _) ((y_strEq rfl rfl).lit (by kernel_rfl : _ = Value.bool false)) rfl ?_
      refine l_y (Cls.gs _ _) (y_assign rfl) rfl ?_
      refine l_nil ?_
      refine e_then ?_
      refine CJ.weak (.c (t := 2) rfl (.c (t := 4) rfl (.c (t := 5) rfl (.c (t := 8) rfl (.c (t := 9) rfl (.c (t := 11) rfl (.c (t := 46) rfl (.c (t := 47) rfl (.c (t := 48) rfl (.c (t := 53) rfl (.c (t := 60) rfl .n))))))))))) (fun _ h => h) ?_
      refine c_false (by kernel_rfl) ?_
      refine c_seq ?_
      refine c_text ?_
      refine l_y (Cls.gs _ _) ((y_strEq rfl rfl).lit (by kernel_rfl : _ = Value.bool false)) rfl ?_
      refine l_y (Cls.gs _ _) (y_assign rfl) rfl ?_
      refine l_nil ?_
      refine e_then ?_
      refine CJ.weak (.c (t := 2) rfl (.c (t := 4) rfl (.c (t := 5) rfl (.c (t := 8) rfl (.c (t := 9) rfl (.c (t := 11) rfl (.c (t := 46) rfl (.c (t := 47) rfl (.c (t := 48) rfl (.c (t := 53) rfl (.c (t := 72) rfl .n))))))))))) (fun _ h => h) ?_
      refine c_false (by kernel_rfl) ?_
      refine c_seq ?_
      refine c_text ?_
      refine l_y (Cls.gs _ _) ((y_strEq rfl rfl).lit (by kernel_rfl : _ = Value.bool false)) rfl ?_
      refine l_y (Cls.gs _ _) (y_assign rfl) rfl ?_
      refine l_nil ?_
      refine e_then ?_
      refine CJ.weak (.c (t := 2) rfl (.c (t := 4) rfl (.c (t := 5) rfl (.c (t := 8) rfl (.c (t := 9) rfl (.c (t := 46) rfl (.c (t := 47) rfl (.c (t := 48) rfl (.c (t := 53) rfl (.c (t := 74) rfl .n)))))))))) (fun _ h => h) ?_
      refine c_false (by kernel_rfl) ?_
      refine c_seq ?_
      refine c_text ?_
      refine l_y (Cls.gs _ _) ((y_strEq rfl rfl).lit (by kernel_rfl : _ = Value.bool false)) rfl ?_
      refine l_y (Cls.gs _ _) (y_assign rfl) rfl ?_
      refine l_nil ?_
      refine e_then ?_
      refine CJ.weak (.c (t := 2) rfl (.c (t := 4) rfl (.c (t := 5) rfl (.c (t := 8) rfl (.c (t := 9) rfl (.c (t := 46) rfl (.c (t := 47) rfl (.c (t := 48) rfl (.c (t := 53) rfl (.c (t := 92) rfl .n)))))))))) (fun _ h => h) ?_
      refine c_false (by kernel_rfl) ?_
      refine c_seq ?_
      refine c_text ?_
      refine l_y (Cls.gs _ _) ((y_strEq rfl rfl).lit (by kernel_rfl : _ = Value.bool false)) rfl ?_
      refine l_y (Cls.gs _ _) (y_assign rfl) rfl ?_
      refine l_nil ?_
      refine e_then ?_
      refine CJ.weak (.c (t := 2) rfl (.c (t := 4) rfl (.c (t := 5) rfl (.c (t := 8) rfl (.c (t := 9) rfl (.c (t := 46) rfl (.c (t := 47) rfl (.c (t := 48) rfl (.c (t := 53) rfl (.c (t := 103) rfl .n)))))))))) (fun _ h => h) ?_
      refine c_false (by kernel_rfl) ?_
      refine c_seq ?_
      refine c_text ?_
      refine l_y (Cls.gs _ _) ((y_strEq rfl rfl).lit (by kernel_rfl : _ = Value.bool false)) rfl ?_
      refine l_y (Cls.gs _ _) (y_assign rfl) rfl ?_
      refine l_nil ?_
      refine e_then ?_
      refine CJ.weak (.c (t := 2) rfl (.c (t := 4) rfl (.c (t := 5) rfl (.c (t := 8) rfl (.c (t := 9) rfl (.c (t := 46) rfl (.c (t := 47) rfl (.c (t := 48) rfl (.c (t := 53) rfl (.c (t := 114) rfl .n)))))))))) (fun _ h => h) ?_
      refine c_false (by kernel_rfl) ?_
      refine c_seq ?_
      refine c_text ?_
      refine l_y (Cls.gs _ _) ((y_strEq rfl rfl).lit (by kernel_rfl : _ = Value.bool false)) rfl ?_
      refine l_y (Cls.gs _ _) (y_assign rfl) rfl ?_
      refine l_nil ?_
      refine e_then ?_
      refine CJ.weak (.c (t := 2) rfl (.c (t := 4) rfl (.c (t := 5) rfl (.c (t := 8) rfl (.c (t := 9) rfl (.c (t := 46) rfl (.c (t := 47) rfl (.c (t := 48) rfl (.c (t := 125) rfl .n))))))))) (fun _ h => h) ?_
      refine c_false (by kernel_rfl) ?_
      refine c_text ?_
      refine l_y (Cls.gs _ _) (y_move rfl) rfl ?_
      refine l_y (Cls.gs _ _) (y_move rfl) rfl ?_
      refine l_y (Cls.gs _ _) (y_idxVec Tryz.underlying95 ty9 hwv.1 rfl rfl rfl (by decide) (by rw [hwl]; decide)) rfl ?_
      refine l_y (Cls.gs _ _) (y_load rfl (LoadAt.oneV hwv.1 rfl (.c (.c (.k (.k .z)))) ty9 (show wv.es[0]? = some [.string (bs [97, 108, 101, 114, 116])] by rw [ewv]; rfl) .z (by simp))) rfl ?_
      refine l_y (Cls.gs _ _) (y_move rfl) rfl ?_
      refine l_y (Cls.gs _ _) ((y_strEq rfl rfl).lit (by kernel_rfl : _ = Value.bool true)) rfl ?_
      refine l_y (Cls.gs _ _) (y_assign rfl) rfl ?_
      refine l_nil ?_
      refine e_block ?_
      refine e_then ?_
      refine CJ.weak (.c (t := 2) rfl (.c (t := 4) rfl (.c (t := 5) rfl (.c (t := 11) rfl (.c (t := 46) rfl (.c (t := 47) rfl (.c (t := 48) rfl .n))))))) (fun _ h => h) ?_
      refine c_seq ?_
      refine c_text ?_
      refine l_y (Cls.gs _ _) (y_move rfl) rfl ?_
      refine l_y (Cls.gs _ _) ((y_not rfl).lit (by kernel_rfl : _ = Value.bool false)) rfl ?_
      refine l_nil ?_
      refine e_then ?_
      refine CJ.weak (.c (t := 2) rfl (.c (t := 4) rfl (.c (t := 5) rfl (.c (t := 46) rfl (.c (t := 47) rfl (.c (t := 48) rfl (.c (t := 137) rfl .n))))))) (fun _ h => h) ?_
      refine c_false (by kernel_rfl) ?_
      refine c_skip ?_
      refine e_block ?_
      refine e_then ?_
      refine CJ.weak (.c (t := 2) rfl (.c (t := 4) rfl (.c (t := 5) rfl (.c (t := 46) rfl (.c (t := 47) rfl (.c (t := 48) rfl .n)))))) (fun _ h => h) ?_
      refine c_text ?_
      refine l_y (Cls.gs _ _) ((y_add rfl rfl).lit (by kernel_rfl : _ = Value.int .i64 1)) rfl ?_
      refine l_y (Cls.gs _ _) (y_move rfl) rfl ?_
      refine l_nil ?_
      refine e_rounds ?_
      refine RJ.weak (.c (t := 2) rfl (.c (t := 4) rfl (.c (t := 5) rfl (.c (t := 46) rfl (.c (t := 47) rfl (.c (t := 48) rfl .n)))))) (fun _ h => h) ?_
      refine r_succ ?_
      refine c_seq ?_
      refine c_text ?_
      refine l_y (Cls.gs _ _) ((y_lss rfl rfl).lit (by kernel_rfl : _ = Value.bool true)) rfl ?_
      refine l_nil ?_
      refine e_then ?_
      refine c_seq ?_
      refine c_true (by kernel_rfl) ?_
      refine c_skip ?_
      refine e_then ?_
      refine CJ.weak (.c (t := 2) rfl (.c (t := 4) rfl (.c (t := 5) rfl (.c (t := 46) rfl (.c (t := 47) rfl (.c (t := 48) rfl .n)))))) (fun _ h => h) ?_
      refine c_seq ?_
      refine c_block ?_
      refine c_seq ?_
      refine c_text ?_
      refine l_y (Cls.gs _ _) (y_move rfl) rfl ?_
      refine l_y (Cls.gs _ _) (y_idxVec Tryz.underlying95 ty9 hfv.1 rfl rfl rfl (by decide) (by rw [hfv.2]; decide)) rfl ?_
      refine l_y (Cls.gs _ _) (y_load rfl (LoadAt.oneV hfv.1 rfl (.c (.c .h)) ty9 (show fv.es[1]? = some [.string (bs [73, 68])] by rw [hfv.2]; rfl) .z (by simp))) rfl ?_
      refine l_y (Cls.gs _ _) (y_assign rfl) rfl ?_
      refine l_y (Cls.gs _ _) (y_assign rfl) rfl ?_
      refine l_nil ?_
      refine e_then ?_
      refine CJ.weak (.c (t := 2) rfl (.c (t := 4) rfl (.c (t := 5) rfl (.c (t := 8) rfl (.c (t := 9) rfl (.c (t := 46) rfl (.c (t := 47) rfl (.c (t := 48) rfl .n)))))))) (fun _ h => h) ?_
      refine c_seq ?_
      refine c_text ?_
      refine l_y (Cls.gs _ _) (y_assign rfl) rfl ?_
      refine l_nil ?_
      refine e_then ?_
      refine CJ.weak (.c (t := 2) rfl (.c (t := 4) rfl (.c (t := 5) rfl (.c (t := 8) rfl (.c (t := 9) rfl (.c (t := 46) rfl (.c (t := 47) rfl (.c (t := 48) rfl .n)))))))) (fun _ h => h) ?_
      refine c_seq ?_
      refine c_text ?_
      refine l_y (Cls.gs _ _) (y_assign rfl) rfl ?_
      refine l_nil ?_
      refine e_then ?_
      refine c_seq ?_
      refine c_seq ?_
      refine c_text ?_
      refine l_y (Cls.gs _ _) (y_move rfl) rfl ?_
      refine l_nil ?_
      refine e_then ?_
      refine c_block ?_
      refine c_seq ?_
      refine c_text ?_
      refine l_y (Cls.gs _ _) ((y_strEq rfl rfl).lit (by kernel_rfl : _ = Value.bool true)) rfl ?_
      refine l_y (Cls.gs _ _) (y_assign rfl) rfl ?_
      refine l_nil ?_
      refine e_then ?_
      refine CJ.weak (.c (t := 2) rfl (.c (t := 4) rfl (.c (t := 5) rfl (.c (t := 8) rfl (.c (t := 9) rfl (.c (t := 11) rfl (.c (t := 46) rfl (.c (t := 47) rfl (.c (t := 48) rfl (.c (t := 53) rfl (.c (t := 60) rfl .n))))))))))) (fun _ h => h) ?_
      refine c_true (by kernel_rfl) ?_
      refine c_seq ?_
      refine c_text ?_
      refine l_y (Cls.gs _ _) (y_move rfl) rfl ?_
      refine l_y (Cls.gs _ _) (y_move rfl) rfl ?_
      refine l_y (Cls.gs _ _) (y_idxVec Tryz.underlying95 ty9 hwv.1 rfl rfl rfl (by decide) (by rw [hwl]; decide)) rfl ?_
      refine l_y (Cls.gs _ _) (y_load rfl (LoadAt.oneV hwv.1 rfl (.c (.c (.k (.k .z)))) ty9 (show wv.es[1]? = some [.string (numS a.id)] by rw [ewv]; rfl) .z (by simp))) rfl ?_
      refine l_y (Cls.gs _ _) (y_call ent44 (.c rfl .n) (fun w' hw' => whole44 a.id (by omega) (by omega) w' (hE.gr (hw'.gr .z)))) rfl ?_
      refine l_y (Cls.gs _ _) (y_move rfl) rfl ?_
      refine l_y (Cls.gs _ _) (y_extract rfl .z) rfl ?_
      refine l_y (Cls.gs _ _) (y_extract rfl (.s .z)) rfl ?_
      refine l_y (Cls.gs _ _) (y_assign rfl) rfl ?_
      refine l_y (Cls.gs _ _) (y_assign rfl) rfl ?_
      refine l_nil ?_
      refine e_then ?_
      refine CJ.weak (.c (t := 2) rfl (.c (t := 4) rfl (.c (t := 5) rfl (.c (t := 10) rfl (.c (t := 11) rfl (.c (t := 46) rfl (.c (t := 47) rfl (.c (t := 48) rfl .n)))))))) (fun _ h => h) ?_
      refine c_text ?_
      refine l_y (Cls.gs _ _) (y_move rfl) rfl ?_
      refine l_y (Cls.gs _ _) (y_fieldAddr rfl fa36_0) rfl ?_
      refine l_n rfl (n_store rfl rfl ty3 (.o rfl) rfl rfl .z (.t .d)) (fun _ _ => ?_)
      refine l_nil ?_
      refine e_block ?_
      refine e_then ?_
      refine CJ.weak (.c (t := 2) rfl (.c (t := 4) rfl (.c (t := 5) rfl (.c (t := 11) rfl (.c (t := 46) rfl (.c (t := 47) rfl (.c (t := 48) rfl .n))))))) (fun _ h => h) ?_
      refine c_seq ?_
      refine c_text ?_
      refine l_y (Cls.gs _ _) (y_move rfl) rfl ?_
      refine l_y (Cls.gs _ _) ((y_not rfl).lit (by kernel_rfl : _ = Value.bool false)) rfl ?_
      refine l_nil ?_
      refine e_then ?_
      refine CJ.weak (.c (t := 2) rfl (.c (t := 4) rfl (.c (t := 5) rfl (.c (t := 46) rfl (.c (t := 47) rfl (.c (t := 48) rfl (.c (t := 137) rfl .n))))))) (fun _ h => h) ?_
      refine c_false (by kernel_rfl) ?_
      refine c_skip ?_
      refine e_block ?_
      refine e_then ?_
      refine CJ.weak (.c (t := 2) rfl (.c (t := 4) rfl (.c (t := 5) rfl (.c (t := 46) rfl (.c (t := 47) rfl (.c (t := 48) rfl .n)))))) (fun _ h => h) ?_
      refine c_text ?_
      refine l_y (Cls.gs _ _) ((y_add rfl rfl).lit (by kernel_rfl : _ = Value.int .i64 2)) rfl ?_
      refine l_y (Cls.gs _ _) (y_move rfl) rfl ?_
      refine l_nil ?_
      refine e_rounds ?_
      refine RJ.weak (.c (t := 2) rfl (.c (t := 4) rfl (.c (t := 5) rfl (.c (t := 46) rfl (.c (t := 47) rfl (.c (t := 48) rfl .n)))))) (fun _ h => h) ?_
      refine r_succ ?_
      refine c_seq ?_
      refine c_text ?_
      refine l_y (Cls.gs _ _) ((y_lss rfl rfl).lit (by kernel_rfl : _ = Value.bool true)) rfl ?_
      refine l_nil ?_
      refine e_then ?_
      refine c_seq ?_
      refine c_true (by kernel_rfl) ?_
      refine c_skip ?_
      refine e_then ?_
      refine CJ.weak (.c (t := 2) rfl (.c (t := 4) rfl (.c (t := 5) rfl (.c (t := 46) rfl (.c (t := 47) rfl (.c (t := 48) rfl .n)))))) (fun _ h => h) ?_
      refine c_seq ?_
      refine c_block ?_
      refine c_seq ?_
      refine c_text ?_
      refine l_y (Cls.gs _ _) (y_move rfl) rfl ?_
      refine l_y (Cls.gs _ _) (y_idxVec Tryz.underlying95 ty9 hfv.1 rfl rfl rfl (by decide) (by rw [hfv.2]; decide)) rfl ?_
      refine l_y (Cls.gs _ _) (y_load rfl (LoadAt.oneV hfv.1 rfl (.c (.c .h)) ty9 (show fv.es[2]? = some [.string (bs [75, 73, 78, 68])] by rw [hfv.2]; rfl) .z (by simp))) rfl ?_
      refine l_y (Cls.gs _ _) (y_assign rfl) rfl ?_
      refine l_y (Cls.gs _ _) (y_assign rfl) rfl ?_
      refine l_nil ?_
      refine e_then ?_
      refine CJ.weak (.c (t := 2) rfl (.c (t := 4) rfl (.c (t := 5) rfl (.c (t := 8) rfl (.c (t := 9) rfl (.c (t := 46) rfl (.c (t := 47) rfl (.c (t := 48) rfl .n)))))))) (fun _ h => h) ?_
      refine c_seq ?_
      refine c_text ?_
      refine l_y (Cls.gs _ _) (y_assign rfl) rfl ?_
      refine l_nil ?_
      refine e_then ?_
      refine CJ.weak (.c (t := 2) rfl (.c (t := 4) rfl (.c (t := 5) rfl (.c (t := 8) rfl (.c (t := 9) rfl (.c (t := 46) rfl (.c (t := 47) rfl (.c (t := 48) rfl .n)))))))) (fun _ h => h) ?_
      refine c_seq ?_
      refine c_text ?_
      refine l_y (Cls.gs _ _) (y_assign rfl) rfl ?_
      refine l_nil ?_
      refine e_then ?_
      refine c_seq ?_
      refine c_seq ?_
      refine c_text ?_
      refine l_y (Cls.gs _ _) (y_move rfl) rfl ?_
      refine l_nil ?_
      refine e_then ?_
      refine c_block ?_
      refine c_seq ?_
      refine c_text ?_
      refine l_y (Cls.gs _ _) ((y_strEq rfl rfl).lit (by kernel_rfl : _ = Value.bool false)) rfl ?_
      refine l_y (Cls.gs _ _) (y_assign rfl) rfl ?_
      refine l_nil ?_
      refine e_then ?_
      refine CJ.weak (.c (t := 2) rfl (.c (t := 4) rfl (.c (t := 5) rfl (.c (t := 8) rfl (.c (t := 9) rfl (.c (t := 11) rfl (.c (t := 46) rfl (.c (t := 47) rfl (.c (t := 48) rfl (.c (t := 53) rfl (.c (t := 60) rfl .n))))))))))) (fun _ h => h) ?_
      refine c_false (by kernel_rfl) ?_
      refine c_seq ?_
      refine c_text ?_
      refine l_y (Cls.gs _ _) ((y_strEq rfl rfl).lit (by kernel_rfl : _ = Value.bool true)) rfl ?_
      refine l_y (Cls.gs _ _) (y_assign rfl) rfl ?_
      refine l_nil ?_
      refine e_then ?_
      refine CJ.weak (.c (t := 2) rfl (.c (t := 4) rfl (.c (t := 5) rfl (.c (t := 8) rfl (.c (t := 9) rfl (.c (t := 11) rfl (.c (t := 46) rfl (.c (t := 47) rfl (.c (t := 48) rfl (.c (t := 53) rfl (.c (t := 72) rfl .n))))))))))) (fun _ h => h) ?_
      refine c_true (by kernel_rfl) ?_
      refine c_skip ?_
      refine e_block ?_
      refine e_then ?_
      refine CJ.weak (.c (t := 2) rfl (.c (t := 4) rfl (.c (t := 5) rfl (.c (t := 11) rfl (.c (t := 46) rfl (.c (t := 47) rfl (.c (t := 48) rfl .n))))))) (fun _ h => h) ?_
      refine c_seq ?_
      refine c_text ?_
      refine l_y (Cls.gs _ _) (y_move rfl) rfl ?_
      refine l_y (Cls.gs _ _) ((y_not rfl).lit (by kernel_rfl : _ = Value.bool false)) rfl ?_
      refine l_nil ?_
      refine e_then ?_
      refine CJ.weak (.c (t := 2) rfl (.c (t := 4) rfl (.c (t := 5) rfl (.c (t := 46) rfl (.c (t := 47) rfl (.c (t := 48) rfl (.c (t := 137) rfl .n))))))) (fun _ h => h) ?_
      refine c_false (by kernel_rfl) ?_
      refine c_skip ?_
      refine e_block ?_
      refine e_then ?_
      refine CJ.weak (.c (t := 2) rfl (.c (t := 4) rfl (.c (t := 5) rfl (.c (t := 46) rfl (.c (t := 47) rfl (.c (t := 48) rfl .n)))))) (fun _ h => h) ?_
      refine c_text ?_
      refine l_y (Cls.gs _ _) ((y_add rfl rfl).lit (by kernel_rfl : _ = Value.int .i64 3)) rfl ?_
      refine l_y (Cls.gs _ _) (y_move rfl) rfl ?_
      refine l_nil ?_
      refine e_rounds ?_
      refine RJ.weak (.c (t := 2) rfl (.c (t := 4) rfl (.c (t := 5) rfl (.c (t := 46) rfl (.c (t := 47) rfl (.c (t := 48) rfl .n)))))) (fun _ h => h) ?_
      refine r_succ ?_
      refine c_seq ?_
      refine c_text ?_
      refine l_y (Cls.gs _ _) ((y_lss rfl rfl).lit (by kernel_rfl : _ = Value.bool true)) rfl ?_
      refine l_nil ?_
      refine e_then ?_
      refine c_seq ?_
      refine c_true (by kernel_rfl) ?_
      refine c_skip ?_
      refine e_then ?_
      refine CJ.weak (.c (t := 2) rfl (.c (t := 4) rfl (.c (t := 5) rfl (.c (t := 46) rfl (.c (t := 47) rfl (.c (t := 48) rfl .n)))))) (fun _ h => h) ?_
      refine c_seq ?_
      refine c_block ?_
      refine c_seq ?_
      refine c_text ?_
      refine l_y (Cls.gs _ _) (y_move rfl) rfl ?_
      refine l_y (Cls.gs _ _) (y_idxVec Tryz.underlying95 ty9 hfv.1 rfl rfl rfl (by decide) (by rw [hfv.2]; decide)) rfl ?_
      refine l_y (Cls.gs _ _) (y_load rfl (LoadAt.oneV hfv.1 rfl (.c (.c .h)) ty9 (show fv.es[3]? = some [.string (bs [97, 116])] by rw [hfv.2]; rfl) .z (by simp))) rfl ?_
      refine l_y (Cls.gs _ _) (y_assign rfl) rfl ?_
      refine l_y (Cls.gs _ _) (y_assign rfl) rfl ?_
      refine l_nil ?_
      refine e_then ?_
      refine CJ.weak (.c (t := 2) rfl (.c (t := 4) rfl (.c (t := 5) rfl (.c (t := 8) rfl (.c (t := 9) rfl (.c (t := 46) rfl (.c (t := 47) rfl (.c (t := 48) rfl .n)))))))) (fun _ h => h) ?_
      refine c_seq ?_
      refine c_text ?_
      refine l_y (Cls.gs _ _) (y_assign rfl) rfl ?_
      refine l_nil ?_
      refine e_then ?_
      refine CJ.weak (.c (t := 2) rfl (.c (t := 4) rfl (.c (t := 5) rfl (.c (t := 8) rfl (.c (t := 9) rfl (.c (t := 46) rfl (.c (t := 47) rfl (.c (t := 48) rfl .n)))))))) (fun _ h => h) ?_
      refine c_seq ?_
      refine c_text ?_
      refine l_y (Cls.gs _ _) (y_assign rfl) rfl ?_
      refine l_nil ?_
      refine e_then ?_
      refine c_seq ?_
      refine c_seq ?_
      refine c_text ?_
      refine l_y (Cls.gs _ _) (y_move rfl) rfl ?_
      refine l_nil ?_
      refine e_then ?_
      refine c_block ?_
      refine c_seq ?_
      refine c_text ?_
      refine l_y (Cls.gs _ _) ((y_strEq rfl rfl).lit (by kernel_rfl : _ = Value.bool false)) rfl ?_
      refine l_y (Cls.gs _ _) (y_assign rfl) rfl ?_
      refine l_nil ?_
      refine e_then ?_
      refine CJ.weak (.c (t := 2) rfl (.c (t := 4) rfl (.c (t := 5) rfl (.c (t := 8) rfl (.c (t := 9) rfl (.c (t := 11) rfl (.c (t := 46) rfl (.c (t := 47) rfl (.c (t := 48) rfl (.c (t := 53) rfl (.c (t := 60) rfl .n))))))))))) (fun _ h => h) ?_
      refine c_false (by kernel_rfl) ?_
      refine c_seq ?_
      refine c_text ?_
      refine l_y (Cls.gs _ _) ((y_strEq rfl rfl).lit (by kernel_rfl : _ = Value.bool false)) rfl ?_
      refine l_y (Cls.gs _ _) (y_assign rfl) rfl ?_
      refine l_nil ?_
      refine e_then ?_
      refine CJ.weak (.c (t := 2) rfl (.c (t := 4) rfl (.c (t := 5) rfl (.c (t := 8) rfl (.c (t := 9) rfl (.c (t := 11) rfl (.c (t := 46) rfl (.c (t := 47) rfl (.c (t := 48) rfl (.c (t := 53) rfl (.c (t := 72) rfl .n))))))))))) (fun _ h => h) ?_
      refine c_false (by kernel_rfl) ?_
      refine c_seq ?_
      refine c_text ?_
      refine l_y (Cls.gs _ _) ((y_strEq rfl rfl).lit (by kernel_rfl : _ = Value.bool false)) rfl ?_
      refine l_y (Cls.gs _ _) (y_assign rfl) rfl ?_
      refine l_nil ?_
      refine e_then ?_
      refine CJ.weak (.c (t := 2) rfl (.c (t := 4) rfl (.c (t := 5) rfl (.c (t := 8) rfl (.c (t := 9) rfl (.c (t := 46) rfl (.c (t := 47) rfl (.c (t := 48) rfl (.c (t := 53) rfl (.c (t := 74) rfl .n)))))))))) (fun _ h => h) ?_
      refine c_false (by kernel_rfl) ?_
      refine c_seq ?_
      refine c_text ?_
      refine l_y (Cls.gs _ _) ((y_strEq rfl rfl).lit (by kernel_rfl : _ = Value.bool false)) rfl ?_
      refine l_y (Cls.gs _ _) (y_assign rfl) rfl ?_
      refine l_nil ?_
      refine e_then ?_
      refine CJ.weak (.c (t := 2) rfl (.c (t := 4) rfl (.c (t := 5) rfl (.c (t := 8) rfl (.c (t := 9) rfl (.c (t := 46) rfl (.c (t := 47) rfl (.c (t := 48) rfl (.c (t := 53) rfl (.c (t := 92) rfl .n)))))))))) (fun _ h => h) ?_
      refine c_false (by kernel_rfl) ?_
      refine c_seq ?_
      refine c_text ?_
      refine l_y (Cls.gs _ _) ((y_strEq rfl rfl).lit (by kernel_rfl : _ = Value.bool false)) rfl ?_
      refine l_y (Cls.gs _ _) (y_assign rfl) rfl ?_
      refine l_nil ?_
      refine e_then ?_
      refine CJ.weak (.c (t := 2) rfl (.c (t := 4) rfl (.c (t := 5) rfl (.c (t := 8) rfl (.c (t := 9) rfl (.c (t := 46) rfl (.c (t := 47) rfl (.c (t := 48) rfl (.c (t := 53) rfl (.c (t := 103) rfl .n)))))))))) (fun _ h => h) ?_
      refine c_false (by kernel_rfl) ?_
      refine c_seq ?_
      refine c_text ?_
      refine l_y (Cls.gs _ _) ((y_strEq rfl rfl).lit (by kernel_rfl : _ = Value.bool false)) rfl ?_
      refine l_y (Cls.gs _ _) (y_assign rfl) rfl ?_
      refine l_nil ?_
      refine e_then ?_
      refine CJ.weak (.c (t := 2) rfl (.c (t := 4) rfl (.c (t := 5) rfl (.c (t := 8) rfl (.c (t := 9) rfl (.c (t := 46) rfl (.c (t := 47) rfl (.c (t := 48) rfl (.c (t := 53) rfl (.c (t := 114) rfl .n)))))))))) (fun _ h => h) ?_
      refine c_false (by kernel_rfl) ?_
      refine c_seq ?_
      refine c_text ?_
      refine l_y (Cls.gs _ _) ((y_strEq rfl rfl).lit (by kernel_rfl : _ = Value.bool false)) rfl ?_
      refine l_y (Cls.gs _ _) (y_assign rfl) rfl ?_
      refine l_nil ?_
      refine e_then ?_
      refine CJ.weak (.c (t := 2) rfl (.c (t := 4) rfl (.c (t := 5) rfl (.c (t := 8) rfl (.c (t := 9) rfl (.c (t := 46) rfl (.c (t := 47) rfl (.c (t := 48) rfl (.c (t := 125) rfl .n))))))))) (fun _ h => h) ?_
      refine c_false (by kernel_rfl) ?_
      refine c_text ?_
      refine l_y (Cls.gs _ _) (y_move rfl) rfl ?_
      refine l_y (Cls.gs _ _) (y_move rfl) rfl ?_
      refine l_y (Cls.gs _ _) (y_idxVec Tryz.underlying95 ty9 hwv.1 rfl rfl rfl (by decide) (by rw [hwl]; decide)) rfl ?_
      refine l_y (Cls.gs _ _) (y_load rfl (LoadAt.oneV hwv.1 rfl (.c (.c (.k (.k .z)))) ty9 (show wv.es[3]? = some [.string (bs [97, 116])] by rw [ewv]; rfl) .z (by simp))) rfl ?_
      refine l_y (Cls.gs _ _) (y_move rfl) rfl ?_
      refine l_y (Cls.gs _ _) ((y_strEq rfl rfl).lit (by kernel_rfl : _ = Value.bool true)) rfl ?_
      refine l_y (Cls.gs _ _) (y_assign rfl) rfl ?_
      refine l_nil ?_
      refine e_block ?_
      refine e_then ?_
      refine CJ.weak (.c (t := 2) rfl (.c (t := 4) rfl (.c (t := 5) rfl (.c (t := 11) rfl (.c (t := 46) rfl (.c (t := 47) rfl (.c (t := 48) rfl .n))))))) (fun _ h => h) ?_
      refine c_seq ?_
      refine c_text ?_
      refine l_y (Cls.gs _ _) (y_move rfl) rfl ?_
      refine l_y (Cls.gs _ _) ((y_not rfl).lit (by kernel_rfl : _ = Value.bool false)) rfl ?_
      refine l_nil ?_
      refine e_then ?_
      refine CJ.weak (.c (t := 2) rfl (.c (t := 4) rfl (.c (t := 5) rfl (.c (t := 46) rfl (.c (t := 47) rfl (.c (t := 48) rfl (.c (t := 137) rfl .n))))))) (fun _ h => h) ?_
      refine c_false (by kernel_rfl) ?_
      refine c_skip ?_
      refine e_block ?_
      refine e_then ?_
      refine CJ.weak (.c (t := 2) rfl (.c (t := 4) rfl (.c (t := 5) rfl (.c (t := 46) rfl (.c (t := 47) rfl (.c (t := 48) rfl .n)))))) (fun _ h => h) ?_
      refine c_text ?_
      refine l_y (Cls.gs _ _) ((y_add rfl rfl).lit (by kernel_rfl : _ = Value.int .i64 4)) rfl ?_
      refine l_y (Cls.gs _ _) (y_move rfl) rfl ?_
      refine l_nil ?_
      refine e_rounds ?_
      refine RJ.weak (.c (t := 2) rfl (.c (t := 4) rfl (.c (t := 5) rfl (.c (t := 46) rfl (.c (t := 47) rfl (.c (t := 48) rfl .n)))))) (fun _ h => h) ?_
      refine r_succ ?_
      refine c_seq ?_
      refine c_text ?_
      refine l_y (Cls.gs _ _) ((y_lss rfl rfl).lit (by kernel_rfl : _ = Value.bool true)) rfl ?_
      refine l_nil ?_
      refine e_then ?_
      refine c_seq ?_
      refine c_true (by kernel_rfl) ?_
      refine c_skip ?_
      refine e_then ?_
      refine CJ.weak (.c (t := 2) rfl (.c (t := 4) rfl (.c (t := 5) rfl (.c (t := 46) rfl (.c (t := 47) rfl (.c (t := 48) rfl .n)))))) (fun _ h => h) ?_
      refine c_seq ?_
      refine c_block ?_
      refine c_seq ?_
      refine c_text ?_
      refine l_y (Cls.gs _ _) (y_move rfl) rfl ?_
      refine l_y (Cls.gs _ _) (y_idxVec Tryz.underlying95 ty9 hfv.1 rfl rfl rfl (by decide) (by rw [hfv.2]; decide)) rfl ?_
      refine l_y (Cls.gs _ _) (y_load rfl (LoadAt.oneV hfv.1 rfl (.c (.c .h)) ty9 (show fv.es[4]? = some [.string (bs [65, 84])] by rw [hfv.2]; rfl) .z (by simp))) rfl ?_
      refine l_y (Cls.gs _ _) (y_assign rfl) rfl ?_
      refine l_y (Cls.gs _ _) (y_assign rfl) rfl ?_
      refine l_nil ?_
      refine e_then ?_
      refine CJ.weak (.c (t := 2) rfl (.c (t := 4) rfl (.c (t := 5) rfl (.c (t := 8) rfl (.c (t := 9) rfl (.c (t := 46) rfl (.c (t := 47) rfl (.c (t := 48) rfl .n)))))))) (fun _ h => h) ?_
      refine c_seq ?_
      refine c_text ?_
      refine l_y (Cls.gs _ _) (y_assign rfl) rfl ?_
      refine l_nil ?_
      refine e_then ?_
      refine CJ.weak (.c (t := 2) rfl (.c (t := 4) rfl (.c (t := 5) rfl (.c (t := 8) rfl (.c (t := 9) rfl (.c (t := 46) rfl (.c (t := 47) rfl (.c (t := 48) rfl .n)))))))) (fun _ h => h) ?_
      refine c_seq ?_
      refine c_text ?_
      refine l_y (Cls.gs _ _) (y_assign rfl) rfl ?_
      refine l_nil ?_
      refine e_then ?_
      refine c_seq ?_
      refine c_seq ?_
      refine c_text ?_
      refine l_y (Cls.gs _ _) (y_move rfl) rfl ?_
      refine l_nil ?_
      refine e_then ?_
      refine c_block ?_
      refine c_seq ?_
      refine c_text ?_
      refine l_y (Cls.gs _ _) ((y_strEq rfl rfl).lit (by kernel_rfl : _ = Value.bool false)) rfl ?_
      refine l_y (Cls.gs _ _) (y_assign rfl) rfl ?_
      refine l_nil ?_
      refine e_then ?_
      refine CJ.weak (.c (t := 2) rfl (.c (t := 4) rfl (.c (t := 5) rfl (.c (t := 8) rfl (.c (t := 9) rfl (.c (t := 11) rfl (.c (t := 46) rfl (.c (t := 47) rfl (.c (t := 48) rfl (.c (t := 53) rfl (.c (t := 60) rfl .n))))))))))) (fun _ h => h) ?_
      refine c_false (by kernel_rfl) ?_
      refine c_seq ?_
      refine c_text ?_
      refine l_y (Cls.gs _ _) ((y_strEq rfl rfl).lit (by kernel_rfl : _ = Value.bool false)) rfl ?_
      refine l_y (Cls.gs _ _) (y_assign rfl) rfl ?_
      refine l_nil ?_
      refine e_then ?_
      refine CJ.weak (.c (t := 2) rfl (.c (t := 4) rfl (.c (t := 5) rfl (.c (t := 8) rfl (.c (t := 9) rfl (.c (t := 11) rfl (.c (t := 46) rfl (.c (t := 47) rfl (.c (t := 48) rfl (.c (t := 53) rfl (.c (t := 72) rfl .n))))))))))) (fun _ h => h) ?_
      refine c_false (by kernel_rfl) ?_
      refine c_seq ?_
      refine c_text ?_
      refine l_y (Cls.gs _ _) ((y_strEq rfl rfl).lit (by kernel_rfl : _ = Value.bool false)) rfl ?_
      refine l_y (Cls.gs _ _) (y_assign rfl) rfl ?_
      refine l_nil ?_
      refine e_then ?_
      refine CJ.weak (.c (t := 2) rfl (.c (t := 4) rfl (.c (t := 5) rfl (.c (t := 8) rfl (.c (t := 9) rfl (.c (t := 46) rfl (.c (t := 47) rfl (.c (t := 48) rfl (.c (t := 53) rfl (.c (t := 74) rfl .n)))))))))) (fun _ h => h) ?_
      refine c_false (by kernel_rfl) ?_
      refine c_seq ?_
      refine c_text ?_
      refine l_y (Cls.gs _ _) ((y_strEq rfl rfl).lit (by kernel_rfl : _ = Value.bool true)) rfl ?_
      refine l_y (Cls.gs _ _) (y_assign rfl) rfl ?_
      refine l_nil ?_
      refine e_then ?_
      refine CJ.weak (.c (t := 2) rfl (.c (t := 4) rfl (.c (t := 5) rfl (.c (t := 8) rfl (.c (t := 9) rfl (.c (t := 46) rfl (.c (t := 47) rfl (.c (t := 48) rfl (.c (t := 53) rfl (.c (t := 92) rfl .n)))))))))) (fun _ h => h) ?_
      refine c_true (by kernel_rfl) ?_
      refine c_text ?_
      refine l_y (Cls.gs _ _) (y_move rfl) rfl ?_
      refine l_y (Cls.gs _ _) (y_move rfl) rfl ?_
      refine l_y (Cls.gs _ _) (y_idxVec Tryz.underlying95 ty9 hwv.1 rfl rfl rfl (by decide) (by rw [hwl]; decide)) rfl ?_
      refine l_y (Cls.gs _ _) (y_load rfl (LoadAt.oneV hwv.1 rfl (.c (.c (.k (.k .z)))) ty9 (show wv.es[4]? = some [.string (bdS a.at_)] by rw [ewv]; rfl) .z (by simp))) rfl ?_
      refine l_y (Cls.gs _ _) (y_call ent45 (.c rfl .n) (fun w' hw' => read45 a.at_ h.at_ w' (hE.gr (hw'.gr .z)))) rfl ?_
      refine l_y (Cls.gs _ _) (y_move rfl) rfl ?_
      refine l_y (Cls.gs _ _) (y_extract rfl .z) rfl ?_
      refine l_y (Cls.gs _ _) (y_extract rfl (.s .z)) rfl ?_
      refine l_y (Cls.gs _ _) (y_fieldAddr rfl fa36_3) rfl ?_
      refine l_n rfl (n_store rfl rfl ty28 .a rfl rfl .z (.s (.s (.s (.t (.t (.t .d))))))) (fun _ _ => ?_)
      refine l_y (Cls.gs _ _) (y_assign rfl) rfl ?_
      refine l_nil ?_
      refine e_block ?_
      refine e_then ?_
      refine CJ.weak (.c (t := 2) rfl (.c (t := 4) rfl (.c (t := 5) rfl (.c (t := 11) rfl (.c (t := 46) rfl (.c (t := 47) rfl (.c (t := 48) rfl .n))))))) (fun _ h => h) ?_
      refine c_seq ?_
      refine c_text ?_
      refine l_y (Cls.gs _ _) (y_move rfl) rfl ?_
      refine l_y (Cls.gs _ _) ((y_not rfl).lit (by kernel_rfl : _ = Value.bool false)) rfl ?_
      refine l_nil ?_
      refine e_then ?_
      refine CJ.weak (.c (t := 2) rfl (.c (t := 4) rfl (.c (t := 5) rfl (.c (t := 46) rfl (.c (t := 47) rfl (.c (t := 48) rfl (.c (t := 137) rfl .n))))))) (fun _ h => h) ?_
      refine c_false (by kernel_rfl) ?_
      refine c_skip ?_
      refine e_block ?_
      refine e_then ?_
      refine CJ.weak (.c (t := 2) rfl (.c (t := 4) rfl (.c (t := 5) rfl (.c (t := 46) rfl (.c (t := 47) rfl (.c (t := 48) rfl .n)))))) (fun _ h => h) ?_
      refine c_text ?_
      refine l_y (Cls.gs _ _) ((y_add rfl rfl).lit (by kernel_rfl : _ = Value.int .i64 5)) rfl ?_
      refine l_y (Cls.gs _ _) (y_move rfl) rfl ?_
      refine l_nil ?_
      refine e_rounds ?_
      refine RJ.weak (.c (t := 2) rfl (.c (t := 4) rfl (.c (t := 5) rfl (.c (t := 46) rfl (.c (t := 47) rfl (.c (t := 48) rfl .n)))))) (fun _ h => h) ?_
      refine r_succ ?_
      refine c_seq ?_
      refine c_text ?_
      refine l_y (Cls.gs _ _) ((y_lss rfl rfl).lit (by kernel_rfl : _ = Value.bool true)) rfl ?_
      refine l_nil ?_
      refine e_then ?_
      refine c_seq ?_
      refine c_true (by kernel_rfl) ?_
      refine c_skip ?_
      refine e_then ?_
      refine CJ.weak (.c (t := 2) rfl (.c (t := 4) rfl (.c (t := 5) rfl (.c (t := 46) rfl (.c (t := 47) rfl (.c (t := 48) rfl .n)))))) (fun _ h => h) ?_
      refine c_seq ?_
      refine c_block ?_
      refine c_seq ?_
      refine c_text ?_
      refine l_y (Cls.gs _ _) (y_move rfl) rfl ?_
      refine l_y (Cls.gs _ _) (y_idxVec Tryz.underlying95 ty9 hfv.1 rfl rfl rfl (by decide) (by rw [hfv.2]; decide)) rfl ?_
      refine l_y (Cls.gs _ _) (y_load rfl (LoadAt.oneV hfv.1 rfl (.c (.c .h)) ty9 (show fv.es[5]? = some [.string (bs [111, 102])] by rw [hfv.2]; rfl) .z (by simp))) rfl ?_
      refine l_y (Cls.gs _ _) (y_assign rfl) rfl ?_
      refine l_y (Cls.gs _ _) (y_assign rfl) rfl ?_
      refine l_nil ?_
      refine e_then ?_
      refine CJ.weak (.c (t := 2) rfl (.c (t := 4) rfl (.c (t := 5) rfl (.c (t := 8) rfl (.c (t := 9) rfl (.c (t := 46) rfl (.c (t := 47) rfl (.c (t := 48) rfl .n)))))))) (fun _ h => h) ?_
      refine c_seq ?_
      refine c_text ?_
      refine l_y (Cls.gs _ _) (y_assign rfl) rfl ?_
      refine l_nil ?_
      refine e_then ?_
      refine CJ.weak (.c (t := 2) rfl (.c (t := 4) rfl (.c (t := 5) rfl (.c (t := 8) rfl (.c (t := 9) rfl (.c (t := 46) rfl (.c (t := 47) rfl (.c (t := 48) rfl .n)))))))) (fun _ h => h) ?_
      refine c_seq ?_
      refine c_text ?_
      refine l_y (Cls.gs _ _) (y_assign rfl) rfl ?_
      refine l_nil ?_
      refine e_then ?_
      refine c_seq ?_
      refine c_seq ?_
      refine c_text ?_
      refine l_y (Cls.gs _ _) (y_move rfl) rfl ?_
      refine l_nil ?_
      refine e_then ?_
      refine c_block ?_
      refine c_seq ?_
      refine c_text ?_
      refine l_y (Cls.gs _ _) ((y_strEq rfl rfl).lit (by kernel_rfl : _ = Value.bool false)) rfl ?_
      refine l_y (Cls.gs _ _) (y_assign rfl) rfl ?_
      refine l_nil ?_
      refine e_then ?_
      refine CJ.weak (.c (t := 2) rfl (.c (t := 4) rfl (.c (t := 5) rfl (.c (t := 8) rfl (.c (t := 9) rfl (.c (t := 11) rfl (.c (t := 46) rfl (.c (t := 47) rfl (.c (t := 48) rfl (.c (t := 53) rfl (.c (t := 60) rfl .n))))))))))) (fun _ h => h) ?_
      refine c_false (by kernel_rfl) ?_
      refine c_seq ?_
      refine c_text ?_
      refine l_y (Cls.gs _ _) ((y_strEq rfl rfl).lit (by kernel_rfl : _ = Value.bool false)) rfl ?_
      refine l_y (Cls.gs _ _) (y_assign rfl) rfl ?_
      refine l_nil ?_
      refine e_then ?_
      refine CJ.weak (.c (t := 2) rfl (.c (t := 4) rfl (.c (t := 5) rfl (.c (t := 8) rfl (.c (t := 9) rfl (.c (t := 11) rfl (.c (t := 46) rfl (.c (t := 47) rfl (.c (t := 48) rfl (.c (t := 53) rfl (.c (t := 72) rfl .n))))))))))) (fun _ h => h) ?_
      refine c_false (by kernel_rfl) ?_
      refine c_seq ?_
      refine c_text ?_
      refine l_y (Cls.gs _ _) ((y_strEq rfl rfl).lit (by kernel_rfl : _ = Value.bool false)) rfl ?_
      refine l_y (Cls.gs _ _) (y_assign rfl) rfl ?_
      refine l_nil ?_
      refine e_then ?_
      refine CJ.weak (.c (t := 2) rfl (.c (t := 4) rfl (.c (t := 5) rfl (.c (t := 8) rfl (.c (t := 9) rfl (.c (t := 46) rfl (.c (t := 47) rfl (.c (t := 48) rfl (.c (t := 53) rfl (.c (t := 74) rfl .n)))))))))) (fun _ h => h) ?_
      refine c_false (by kernel_rfl) ?_
      refine c_seq ?_
      refine c_text ?_
      refine l_y (Cls.gs _ _) ((y_strEq rfl rfl).lit (by kernel_rfl : _ = Value.bool false)) rfl ?_
      refine l_y (Cls.gs _ _) (y_assign rfl) rfl ?_
      refine l_nil ?_
      refine e_then ?_
      refine CJ.weak (.c (t := 2) rfl (.c (t := 4) rfl (.c (t := 5) rfl (.c (t := 8) rfl (.c (t := 9) rfl (.c (t := 46) rfl (.c (t := 47) rfl (.c (t := 48) rfl (.c (t := 53) rfl (.c (t := 92) rfl .n)))))))))) (fun _ h => h) ?_
      refine c_false (by kernel_rfl) ?_
      refine c_seq ?_
      refine c_text ?_
      refine l_y (Cls.gs _ _) ((y_strEq rfl rfl).lit (by kernel_rfl : _ = Value.bool false)) rfl ?_
      refine l_y (Cls.gs _ _) (y_assign rfl) rfl ?_
      refine l_nil ?_
      refine e_then ?_
      refine CJ.weak (.c (t := 2) rfl (.c (t := 4) rfl (.c (t := 5) rfl (.c (t := 8) rfl (.c (t := 9) rfl (.c (t := 46) rfl (.c (t := 47) rfl (.c (t := 48) rfl (.c (t := 53) rfl (.c (t := 103) rfl .n)))))))))) (fun _ h => h) ?_
      refine c_false (by kernel_rfl) ?_
      refine c_seq ?_
      refine c_text ?_
      refine l_y (Cls.gs _ _) ((y_strEq rfl rfl).lit (by kernel_rfl : _ = Value.bool false)) rfl ?_
      refine l_y (Cls.gs _ _) (y_assign rfl) rfl ?_
      refine l_nil ?_
      refine e_then ?_
      refine CJ.weak (.c (t := 2) rfl (.c (t := 4) rfl (.c (t := 5) rfl (.c (t := 8) rfl (.c (t := 9) rfl (.c (t := 46) rfl (.c (t := 47) rfl (.c (t := 48) rfl (.c (t := 53) rfl (.c (t := 114) rfl .n)))))))))) (fun _ h => h) ?_
      refine c_false (by kernel_rfl) ?_
      refine c_seq ?_
      refine c_text ?_
      refine l_y (Cls.gs _ _) ((y_strEq rfl rfl).lit (by kernel_rfl : _ = Value.bool false)) rfl ?_
      refine l_y (Cls.gs _ _) (y_assign rfl) rfl ?_
      refine l_nil ?_
      refine e_then ?_
      refine CJ.weak (.c (t := 2) rfl (.c (t := 4) rfl (.c (t := 5) rfl (.c (t := 8) rfl (.c (t := 9) rfl (.c (t := 46) rfl (.c (t := 47) rfl (.c (t := 48) rfl (.c (t := 125) rfl .n))))))))) (fun _ h => h) ?_
      refine c_false (by kernel_rfl) ?_
      refine c_text ?_
      refine l_y (Cls.gs _ _) (y_move rfl) rfl ?_
      refine l_y (Cls.gs _ _) (y_move rfl) rfl ?_
      refine l_y (Cls.gs _ _) (y_idxVec Tryz.underlying95 ty9 hwv.1 rfl rfl rfl (by decide) (by rw [hwl]; decide)) rfl ?_
      refine l_y (Cls.gs _ _) (y_load rfl (LoadAt.oneV hwv.1 rfl (.c (.c (.k (.k .z)))) ty9 (show wv.es[5]? = some [.string (bs [111, 102])] by rw [ewv]; rfl) .z (by simp))) rfl ?_
      refine l_y (Cls.gs _ _) (y_move rfl) rfl ?_
      refine l_y (Cls.gs _ _) ((y_strEq rfl rfl).lit (by kernel_rfl : _ = Value.bool true)) rfl ?_
      refine l_y (Cls.gs _ _) (y_assign rfl) rfl ?_
      refine l_nil ?_
      refine e_block ?_
      refine e_then ?_
      refine CJ.weak (.c (t := 2) rfl (.c (t := 4) rfl (.c (t := 5) rfl (.c (t := 11) rfl (.c (t := 46) rfl (.c (t := 47) rfl (.c (t := 48) rfl .n))))))) (fun _ h => h) ?_
      refine c_seq ?_
      refine c_text ?_
      refine l_y (Cls.gs _ _) (y_move rfl) rfl ?_
      refine l_y (Cls.gs _ _) ((y_not rfl).lit (by kernel_rfl : _ = Value.bool false)) rfl ?_
      refine l_nil ?_
      refine e_then ?_
      refine CJ.weak (.c (t := 2) rfl (.c (t := 4) rfl (.c (t := 5) rfl (.c (t := 46) rfl (.c (t := 47) rfl (.c (t := 48) rfl (.c (t := 137) rfl .n))))))) (fun _ h => h) ?_
      refine c_false (by kernel_rfl) ?_
      refine c_skip ?_
      refine e_block ?_
      refine e_then ?_
      refine CJ.weak (.c (t := 2) rfl (.c (t := 4) rfl (.c (t := 5) rfl (.c (t := 46) rfl (.c (t := 47) rfl (.c (t := 48) rfl .n)))))) (fun _ h => h) ?_
      refine c_text ?_
      refine l_y (Cls.gs _ _) ((y_add rfl rfl).lit (by kernel_rfl : _ = Value.int .i64 6)) rfl ?_
      refine l_y (Cls.gs _ _) (y_move rfl) rfl ?_
      refine l_nil ?_
      refine e_rounds ?_
      refine RJ.weak (.c (t := 2) rfl (.c (t := 4) rfl (.c (t := 5) rfl (.c (t := 46) rfl (.c (t := 47) rfl (.c (t := 48) rfl .n)))))) (fun _ h => h) ?_
      refine r_succ ?_
      refine c_seq ?_
      refine c_text ?_
      refine l_y (Cls.gs _ _) ((y_lss rfl rfl).lit (by kernel_rfl : _ = Value.bool true)) rfl ?_
      refine l_nil ?_
      refine e_then ?_
      refine c_seq ?_
      refine c_true (by kernel_rfl) ?_
      refine c_skip ?_
      refine e_then ?_
      refine CJ.weak (.c (t := 2) rfl (.c (t := 4) rfl (.c (t := 5) rfl (.c (t := 46) rfl (.c (t := 47) rfl (.c (t := 48) rfl .n)))))) (fun _ h => h) ?_
      refine c_seq ?_
      refine c_block ?_
      refine c_seq ?_
      refine c_text ?_
      refine l_y (Cls.gs _ _) (y_move rfl) rfl ?_
      refine l_y (Cls.gs _ _) (y_idxVec Tryz.underlying95 ty9 hfv.1 rfl rfl rfl (by decide) (by rw [hfv.2]; decide)) rfl ?_
      refine l_y (Cls.gs _ _) (y_load rfl (LoadAt.oneV hfv.1 rfl (.c (.c .h)) ty9 (show fv.es[6]? = some [.string (bs [78])] by rw [hfv.2]; rfl) .z (by simp))) rfl ?_
      refine l_y (Cls.gs _ _) (y_assign rfl) rfl ?_
      refine l_y (Cls.gs _ _) (y_assign rfl) rfl ?_
      refine l_nil ?_
      refine e_then ?_
      refine CJ.weak (.c (t := 2) rfl (.c (t := 4) rfl (.c (t := 5) rfl (.c (t := 8) rfl (.c (t := 9) rfl (.c (t := 46) rfl (.c (t := 47) rfl (.c (t := 48) rfl .n)))))))) (fun _ h => h) ?_
      refine c_seq ?_
      refine c_text ?_
      refine l_y (Cls.gs _ _) (y_assign rfl) rfl ?_
      refine l_nil ?_
      refine e_then ?_
      refine CJ.weak (.c (t := 2) rfl (.c (t := 4) rfl (.c (t := 5) rfl (.c (t := 8) rfl (.c (t := 9) rfl (.c (t := 46) rfl (.c (t := 47) rfl (.c (t := 48) rfl .n)))))))) (fun _ h => h) ?_
      refine c_seq ?_
      refine c_text ?_
      refine l_y (Cls.gs _ _) (y_assign rfl) rfl ?_
      refine l_nil ?_
      refine e_then ?_
      refine c_seq ?_
      refine c_seq ?_
      refine c_text ?_
      refine l_y (Cls.gs _ _) (y_move rfl) rfl ?_
      refine l_nil ?_
      refine e_then ?_
      refine c_block ?_
      refine c_seq ?_
      refine c_text ?_
      refine l_y (Cls.gs _ _) ((y_strEq rfl rfl).lit (by kernel_rfl : _ = Value.bool false)) rfl ?_
      refine l_y (Cls.gs _ _) (y_assign rfl) rfl ?_
      refine l_nil ?_
      refine e_then ?_
      refine CJ.weak (.c (t := 2) rfl (.c (t := 4) rfl (.c (t := 5) rfl (.c (t := 8) rfl (.c (t := 9) rfl (.c (t := 11) rfl (.c (t := 46) rfl (.c (t := 47) rfl (.c (t := 48) rfl (.c (t := 53) rfl (.c (t := 60) rfl .n))))))))))) (fun _ h => h) ?_
      refine c_false (by kernel_rfl) ?_
      refine c_seq ?_
      refine c_text ?_
      refine l_y (Cls.gs _ _) ((y_strEq rfl rfl).lit (by kernel_rfl : _ = Value.bool false)) rfl ?_
      refine l_y (Cls.gs _ _) (y_assign rfl) rfl ?_
      refine l_nil ?_
      refine e_then ?_
      refine CJ.weak (.c (t := 2) rfl (.c (t := 4) rfl (.c (t := 5) rfl (.c (t := 8) rfl (.c (t := 9) rfl (.c (t := 11) rfl (.c (t := 46) rfl (.c (t := 47) rfl (.c (t := 48) rfl (.c (t := 53) rfl (.c (t := 72) rfl .n))))))))))) (fun _ h => h) ?_
      refine c_false (by kernel_rfl) ?_
      refine c_seq ?_
      refine c_text ?_
      refine l_y (Cls.gs _ _) ((y_strEq rfl rfl).lit (by kernel_rfl : _ = Value.bool true)) rfl ?_
      refine l_y (Cls.gs _ _) (y_assign rfl) rfl ?_
      refine l_nil ?_
      refine e_then ?_
      refine CJ.weak (.c (t := 2) rfl (.c (t := 4) rfl (.c (t := 5) rfl (.c (t := 8) rfl (.c (t := 9) rfl (.c (t := 46) rfl (.c (t := 47) rfl (.c (t := 48) rfl (.c (t := 53) rfl (.c (t := 74) rfl .n)))))))))) (fun _ h => h) ?_
      refine c_true (by kernel_rfl) ?_
      refine c_seq ?_
      refine c_text ?_
      refine l_y (Cls.gs _ _) (y_move rfl) rfl ?_
      refine l_y (Cls.gs _ _) (y_move rfl) rfl ?_
      refine l_y (Cls.gs _ _) (y_idxVec Tryz.underlying95 ty9 hwv.1 rfl rfl rfl (by decide) (by rw [hwl]; decide)) rfl ?_
      refine l_y (Cls.gs _ _) (y_load rfl (LoadAt.oneV hwv.1 rfl (.c (.c (.k (.k .z)))) ty9 (show wv.es[6]? = some [.string (numS a.of_)] by rw [ewv]; rfl) .z (by simp))) rfl ?_
      refine l_y (Cls.gs _ _) (y_call ent44 (.c rfl .n) (fun w' hw' => whole44 a.of_ (by omega) (by omega) w' (hE.gr (hw'.gr .z)))) rfl ?_
      refine l_y (Cls.gs _ _) (y_move rfl) rfl ?_
      refine l_y (Cls.gs _ _) (y_extract rfl .z) rfl ?_
      refine l_y (Cls.gs _ _) (y_extract rfl (.s .z)) rfl ?_
      refine l_y (Cls.gs _ _) (y_assign rfl) rfl ?_
      refine l_y (Cls.gs _ _) (y_assign rfl) rfl ?_
      refine l_nil ?_
      refine e_then ?_
      refine CJ.weak (.c (t := 2) rfl (.c (t := 4) rfl (.c (t := 5) rfl (.c (t := 10) rfl (.c (t := 11) rfl (.c (t := 46) rfl (.c (t := 47) rfl (.c (t := 48) rfl .n)))))))) (fun _ h => h) ?_
      refine c_seq ?_
      refine c_text ?_
      refine l_y (Cls.gs _ _) (y_move rfl) rfl ?_
      refine l_y (Cls.gs _ _) (y_fieldAddr rfl fa36_2) rfl ?_
      refine l_n rfl (n_store rfl rfl ty3 (.o rfl) rfl rfl .z (.s (.s (.t .d)))) (fun _ _ => ?_)
      refine l_nil ?_
      refine e_then ?_
      refine CJ.weak (.c (t := 2) rfl (.c (t := 4) rfl (.c (t := 5) rfl (.c (t := 10) rfl (.c (t := 11) rfl (.c (t := 46) rfl (.c (t := 47) rfl (.c (t := 48) rfl .n)))))))) (fun _ h => h) ?_
      refine c_seq ?_
      refine c_text ?_
      refine l_y (Cls.gs _ _) (y_fieldAddr rfl fa36_1) rfl ?_
      refine l_y (Cls.gs _ _) (y_load rfl (LoadAt.oneL .z ty3 (.s .z))) rfl ?_
      refine l_y (Cls.gs _ _) ((y_eql rfl rfl).lit (congrArg Value.bool (decide_eq_true hk))) rfl ?_
      refine l_nil ?_
      refine e_then ?_
      refine CJ.weak (.c (t := 2) rfl (.c (t := 4) rfl (.c (t := 5) rfl (.c (t := 10) rfl (.c (t := 11) rfl (.c (t := 46) rfl (.c (t := 47) rfl (.c (t := 48) rfl (.c (t := 88) rfl .n))))))))) (fun _ h => h) ?_
      refine c_true (by kernel_rfl) ?_
      refine c_text ?_
      refine l_y (Cls.gs _ _) (y_move rfl) rfl ?_
      refine l_y (Cls.gs _ _) (y_fieldAddr rfl fa36_2) rfl ?_
      refine l_n rfl (n_store rfl rfl ty3 (.o rfl) rfl rfl .z (.s (.s (.t .d)))) (fun _ _ => ?_)
      refine l_y (Cls.gs _ _) (y_fieldAddr rfl fa36_7) rfl ?_
      refine l_n rfl (n_store rfl rfl ty3 (.o rfl) rfl rfl .z (.s (.s (.s (.s (.s (.s (.s (.s (.s (.s (.s (.s (.s (.s (.s (.t .d))))))))))))))))) (fun _ _ => ?_)
      refine l_nil ?_
      refine e_block ?_
      refine e_then ?_
      refine CJ.weak (.c (t := 2) rfl (.c (t := 4) rfl (.c (t := 5) rfl (.c (t := 11) rfl (.c (t := 46) rfl (.c (t := 47) rfl (.c (t := 48) rfl .n))))))) (fun _ h => h) ?_
      refine c_seq ?_
      refine c_text ?_
      refine l_y (Cls.gs _ _) (y_move rfl) rfl ?_
      refine l_y (Cls.gs _ _) ((y_not rfl).lit (by kernel_rfl : _ = Value.bool false)) rfl ?_
      refine l_nil ?_
      refine e_then ?_
      refine CJ.weak (.c (t := 2) rfl (.c (t := 4) rfl (.c (t := 5) rfl (.c (t := 46) rfl (.c (t := 47) rfl (.c (t := 48) rfl (.c (t := 137) rfl .n))))))) (fun _ h => h) ?_
      refine c_false (by kernel_rfl) ?_
      refine c_skip ?_
      refine e_block ?_
      refine e_then ?_
      refine CJ.weak (.c (t := 2) rfl (.c (t := 4) rfl (.c (t := 5) rfl (.c (t := 46) rfl (.c (t := 47) rfl (.c (t := 48) rfl .n)))))) (fun _ h => h) ?_
      refine c_text ?_
      refine l_y (Cls.gs _ _) ((y_add rfl rfl).lit (by kernel_rfl : _ = Value.int .i64 7)) rfl ?_
      refine l_y (Cls.gs _ _) (y_move rfl) rfl ?_
      refine l_nil ?_
      refine e_rounds ?_
      refine RJ.weak (.c (t := 2) rfl (.c (t := 4) rfl (.c (t := 5) rfl (.c (t := 46) rfl (.c (t := 47) rfl (.c (t := 48) rfl .n)))))) (fun _ h => h) ?_
      refine r_succ ?_
      refine c_seq ?_
      refine c_text ?_
      refine l_y (Cls.gs _ _) ((y_lss rfl rfl).lit (by kernel_rfl : _ = Value.bool false)) rfl ?_
      refine l_nil ?_
      refine e_then ?_
      refine c_seq ?_
      refine c_false (by kernel_rfl) ?_
      refine c_exit ?_
      refine e_then_exit ?_
      refine e_then_exit ?_
      refine e_block_hit ?_
      refine e_then ?_
      refine CJ.weak (.c (t := 2) rfl (.c (t := 5) rfl .n)) (fun _ h => h) ?_
      refine c_seq ?_
      refine c_seq ?_
      refine c_text ?_
      refine l_y (Cls.gs _ _) (y_load rfl (LoadAt.aggL .z ty36 (.t (.t (.t (.t (.t (.t (.t (.t (.t (.t (.t (.t (.t (.t (.t (.t .d)))))))))))))))))) rfl ?_
      refine l_y (Cls.gs _ _) (y_call ent24 (.c rfl .n) (fun w _ => check24 _ haX w)) rfl ?_
      refine l_y (Cls.gs _ _) (y_assign rfl) rfl ?_
      refine l_nil ?_
      refine e_then ?_
      refine CJ.weak (.c (t := 2) rfl (.c (t := 5) rfl (.c (t := 12) rfl .n))) (fun _ h => h) ?_
      refine c_seq ?_
      refine c_text ?_
      refine l_y (Cls.gs _ _) (y_move rfl) rfl ?_
      refine l_y (Cls.gs _ _) ((y_neq rfl rfl).lit (by kernel_rfl : _ = Value.bool false)) rfl ?_
      refine l_nil ?_
      refine e_then ?_
      refine CJ.weak (.c (t := 2) rfl (.c (t := 5) rfl (.c (t := 12) rfl (.c (t := 143) rfl .n)))) (fun _ h => h) ?_
      refine c_false (by kernel_rfl) ?_
      refine c_skip ?_
      refine e_then ?_
      refine CJ.weak (.c (t := 2) rfl (.c (t := 5) rfl .n)) (fun _ h => h) ?_
      refine c_seq ?_
      refine c_text ?_
      refine l_y (Cls.gs _ _) (y_load rfl (LoadAt.aggL .z ty36 (.t (.t (.t (.t (.t (.t (.t (.t (.t (.t (.t (.t (.t (.t (.t (.t .d)))))))))))))))))) rfl ?_
      refine l_n rfl (n_store rfl rfl ty36 .a rfl rfl (.s .z) (.t (.t (.t (.t (.t (.t (.t (.t (.t (.t (.t (.t (.t (.t (.t (.t .d))))))))))))))))) (fun _ _ => ?_)
      refine l_y (Cls.gs _ _) (y_assign rfl) rfl ?_
      refine l_nil ?_
      refine e_then ?_
      refine CJ.weak (.c (t := 2) rfl (.c (t := 3) rfl .n)) (fun _ h => h) ?_
      refine c_ret ?_
      refine e_ret rfl (.c rfl (LoadAt.aggL (.s .z) ty36 (.t (.t (.t (.t (.t (.t (.t (.t (.t (.t (.t (.t (.t (.t (.t (.t .d))))))))))))))))) (.t rfl .n)) (fun wF hw => ?_)
      exact ⟨congrArg (fun z : Al => Ending.returned (.tuple #[.agg (Al.cells z).toArray, .int .i64 0])) ea, (hw.anc (w, []) (by simp)).below⟩
end Go.Proofs.YtpjacndlbjeehaaGreatDoor
