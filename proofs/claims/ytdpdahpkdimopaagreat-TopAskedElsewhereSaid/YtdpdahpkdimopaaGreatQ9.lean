/-
  A part of the proof of TopAskedElsewhere: walks of single functions.
-/
import Derived.Test.YtdpdahpkdimopaaGreatQf
import Derived.Test.YtdpdahpkdimopaaGreatB
import Derived.Test.YtdpdahpkdimopaaGreatQ7
import Derived.Test.YtdpdahpkdimopaaGreatQ8
import Derived.KernelRfl
set_option linter.unusedVariables false
set_option linter.unusedSimpArgs false
set_option maxRecDepth 100000
namespace Go.Proofs.YtdpdahpkdimopaaGreat
open Go Go.Px Sg
open Go.Px Sg
theorem scan5 (ms : List MRow) (ra : Option Addr) (rc : Nat) (q : Sg.Ask) (ca : Option Addr) (cc : Nat) (hl : q.cones.length < 9223372036854775808) (w : World) (hR : RowsAt w ra ms) (hI : Elts w ca 4 (q.cones.map Cone.cells)) : Calls Tryz.prog 5 #[.slice ra ms.length rc, .agg #[.slice ca q.cones.length cc, .int .i64 q.from_, .int .i64 q.to_, .int .i64 q.least, .int .i64 q.ban]] w fun e w' => ∃ x : Vec, e = .returned (.tuple #[x.val, .int .i64 (scanErr (rowsOf ms) q)]) ∧ Gr w w' ∧ VIn w x w' ∧ (VecOK 2 60 x ∧ x.es = (scanV (rowsOf ms) q).map ansCells) := by
  refine enter Tryz.func5 rfl rfl rfl rfl (Cls.start w) ?_
  refine c_seq ?_
  refine c_text ?_
  refine l_n rfl (n_box rfl .a rfl) (fun b0 _ => ?_)
  refine l_y (Cls.gs _ _) (y_assign rfl) rfl ?_
  refine l_y (Cls.gs _ _) (y_assign rfl) rfl ?_
  refine l_nil ?_
  refine e_then ?_
  refine CJ.weak (.c (t := 0) rfl (.c (t := 3) rfl .n)) (fun _ h => h) ?_
  refine c_seq ?_
  refine c_seq ?_
  refine c_text ?_
  refine l_y (Cls.gs _ _) (y_move rfl) rfl ?_
  refine l_y (Cls.gs _ _) (y_call ent16 (.c rfl .n) (fun w' hw' => check16 ms ra rc w' (hR.gr (hw'.gr .z)))) rfl ?_
  refine l_y (Cls.gs _ _) (y_assign rfl) rfl ?_
  refine l_nil ?_
  refine e_then ?_
  refine CJ.weak (.c (t := 0) rfl (.c (t := 3) rfl (.c (t := 6) rfl .n))) (fun _ h => h) ?_
  refine c_seq ?_
  refine c_text ?_
  refine l_y (Cls.gs _ _) (y_move rfl) rfl ?_
  refine l_y (Cls.gs _ _) (y_neq rfl rfl) rfl ?_
  refine l_nil ?_
  refine e_then ?_
  refine CJ.weak (.c (t := 0) rfl (.c (t := 3) rfl (.c (t := 6) rfl (.c (t := 15) rfl .n)))) (fun _ h => h) ?_
  refine c_cond rfl (fun h0 => ?_) (fun h0 => ?_)
  ·
    refine c_seq ?_
    refine c_text ?_
    refine l_y (Cls.gs _ _) (y_move rfl) rfl ?_
    refine l_y (Cls.gs _ _) (y_assign rfl) rfl ?_
    refine l_y (Cls.gs _ _) (y_assign rfl) rfl ?_
    refine l_nil ?_
    refine e_then ?_
    refine CJ.weak (.c (t := 4) rfl (.c (t := 5) rfl .n)) (fun _ h => h) ?_
    refine c_ret ?_
    refine e_then_ret ?_
    refine e_ret rfl (.t rfl (.t rfl .n)) (fun wF hw => ?_)
    exact ⟨Vec.nil, by rw [(scan_a h0).1]; rfl, (hw.anc (w, []) (by simp)).below, ⟨by simp, by simp⟩, .nil, by rw [(scan_a h0).2]; rfl⟩
  ·
    refine c_skip ?_
    refine e_then ?_
    refine CJ.weak (.c (t := 0) rfl (.c (t := 3) rfl .n)) (fun _ h => h) ?_
    refine c_seq ?_
    refine c_seq ?_
    refine c_text ?_
    refine l_y (Cls.gs _ _) (y_load rfl (LoadAt.aggL .z ty27 (.t (.t (.t (.t (.t .d))))))) rfl ?_
    refine l_y (Cls.gs _ _) (y_call ent17 (.c rfl .n) (fun w' hw' => ask17 q ca cc hl w' (hI.gr (hw'.gr .z)))) rfl ?_
    refine l_y (Cls.gs _ _) (y_assign rfl) rfl ?_
    refine l_nil ?_
    refine e_then ?_
    refine CJ.weak (.c (t := 0) rfl (.c (t := 3) rfl (.c (t := 7) rfl .n))) (fun _ h => h) ?_
    refine c_seq ?_
    refine c_text ?_
    refine l_y (Cls.gs _ _) (y_move rfl) rfl ?_
    refine l_y (Cls.gs _ _) (y_neq rfl rfl) rfl ?_
    refine l_nil ?_
    refine e_then ?_
    refine CJ.weak (.c (t := 0) rfl (.c (t := 3) rfl (.c (t := 7) rfl (.c (t := 20) rfl .n)))) (fun _ h => h) ?_
    refine c_cond rfl (fun h1 => ?_) (fun h1 => ?_)
    ·
      refine c_seq ?_
      refine c_text ?_
      refine l_y (Cls.gs _ _) (y_move rfl) rfl ?_
      refine l_y (Cls.gs _ _) (y_assign rfl) rfl ?_
      refine l_y (Cls.gs _ _) (y_assign rfl) rfl ?_
      refine l_nil ?_
      refine e_then ?_
      refine CJ.weak (.c (t := 4) rfl (.c (t := 5) rfl .n)) (fun _ h => h) ?_
      refine c_ret ?_
      refine e_then_ret ?_
      refine e_ret rfl (.t rfl (.t rfl .n)) (fun wF hw => ?_)
      exact ⟨Vec.nil, by rw [(scan_b h0 h1).1]; rfl, (hw.anc (w, []) (by simp)).below, ⟨by simp, by simp⟩, .nil, by rw [(scan_b h0 h1).2]; rfl⟩
    ·
      refine c_skip ?_
      refine e_then ?_
      refine CJ.weak (.c (t := 0) rfl (.c (t := 3) rfl .n)) (fun _ h => h) ?_
      refine c_seq ?_
      refine c_text ?_
      refine l_y (Cls.gs _ _) (y_assign rfl) rfl ?_
      refine l_nil ?_
      refine e_then ?_
      refine c_seq ?_
      refine c_seq ?_
      refine c_text ?_
      refine l_y (Cls.gs _ _) (y_move rfl) rfl ?_
      refine l_y (Cls.gs _ _) (y_lenS Tryz.underlying22 rfl rfl) rfl ?_
      refine l_y (Cls.gs _ _) (y_move rfl) rfl ?_
      refine l_nil ?_
      refine e_then ?_
      refine CJ.weak (.c (t := 3) rfl (.c (t := 8) rfl (.c (t := 22) rfl (.c (t := 23) rfl (.c (t := 24) rfl .n))))) (fun _ h => h) ?_
      refine c_block ?_
      refine CJ.weak (.c (t := 8) rfl (.c (t := 24) rfl (.c (t := 3) rfl (.c (t := 22) rfl (.c (t := 23) rfl .n))))) (fun _ h => h) ?_
      refine c_loopV (fun x : Vec × Nat => VecOK 2 60 x.1 ∧ x.2 ≤ ms.length ∧ x.1.es = (ansV (rowsOf (ms.take x.2)) q).map ansCells) (fun x => [(8, x.1.val), (24, .int .i64 (x.2 : Int))]) (fun x => x.1.own) (fun x => ms.length - x.2) ((Vec.nil, 0)) (⟨.nil, Nat.zero_le _, rfl⟩) (.c .z) ?_
      rintro ⟨v, k⟩ hk
      refine c_seq ?_
      refine c_text ?_
      refine l_y (Cls.gs _ _) (y_lss rfl rfl) rfl ?_
      refine l_nil ?_
      refine e_then ?_
      refine c_seq ?_
      refine c_cond rfl (fun h2 => ?_) (fun h2 => ?_)
      · have hsm : ms.length ≤ 200 := by have := rowsErr_len h0; simpa [rowsOf] using this
        have hlt : k < ms.length := by have := of_decide_eq_true h2; omega
        obtain ⟨m, hm⟩ : ∃ m, ms[k]? = some m := ⟨_, List.getElem?_eq_getElem hlt⟩
        obtain ⟨b, o, ha, he⟩ := hR.els k m.cells (by simp [hm])
        obtain ⟨hF1, hF2⟩ := hR.fr m (List.mem_of_getElem? hm)
        replace he := elt_load he
        refine c_skip ?_
        refine e_then ?_
        refine CJ.weak (.c (t := 3) rfl (.c (t := 8) rfl (.c (t := 22) rfl (.c (t := 23) rfl (.c (t := 24) rfl .n))))) (fun _ h => h) ?_
        refine c_seq ?_
        refine c_block ?_
        refine c_seq ?_
        refine c_text ?_
        refine l_y (Cls.gs _ _) (y_indexAddrF Tryz.underlying22 ty52 rfl rfl ha (by omega) (by omega)) rfl ?_
        refine l_y (Cls.gs _ _) (y_load rfl (LoadAt.aggF (l := [.int .i64 m.row.id, .int .i64 m.row.box.x.lo, .int .i64 m.row.box.x.hi, .bool m.row.box.x.u, .int .i64 m.row.box.y.lo, .int .i64 m.row.box.y.hi, .bool m.row.box.y.u, .int .i64 m.row.box.z.lo, .int .i64 m.row.box.z.hi, .bool m.row.box.z.u, .int .i64 m.row.flux.lo, .int .i64 m.row.flux.hi, .bool m.row.flux.u, .int .i64 m.row.when_.lo, .int .i64 m.row.when_.hi, .bool m.row.when_.u, .slice m.fa m.row.frames.length m.fc, .int .i64 m.row.marks]) .z ty52 rfl he)) rfl ?_
        refine l_n rfl (n_alloc ty52 .a rfl) (fun b1 _ => ?_)
        refine l_n rfl (n_store rfl rfl ty52 .a rfl rfl .z (.t (.t (.t (.t (.t (.t (.t (.t (.t (.t (.t (.t (.t (.t (.t (.t (.t (.t .d))))))))))))))))))) (fun _ _ => ?_)
        refine l_nil ?_
        refine e_then ?_
        refine CJ.weak (.c (t := 3) rfl (.c (t := 8) rfl (.c (t := 10) rfl (.c (t := 22) rfl (.c (t := 23) rfl (.c (t := 24) rfl .n)))))) (fun _ h => h) ?_
        refine c_seq ?_
        refine c_text ?_
        refine l_y (Cls.gs _ _) (y_load rfl (LoadAt.aggL .z ty52 (.t (.t (.t (.t (.t (.t (.t (.t (.t (.t (.t (.t (.t (.t (.t (.t (.t (.t .d)))))))))))))))))))) rfl ?_
        refine l_y (Cls.gs _ _) (y_load rfl (LoadAt.aggL (.s .z) ty27 (.t (.t (.t (.t (.t .d))))))) rfl ?_
        refine l_y (Cls.gs _ _) (y_call ent18 (.c rfl (.c rfl .n)) (fun w' hw' => grade18 m.row q m.fa m.row.frames.length m.fc ca cc hl w' (hI.gr (hw'.gr .z)))) rfl ?_
        refine l_y (Cls.gs _ _) (y_assign rfl) rfl ?_
        refine l_nil ?_
        refine e_then ?_
        refine CJ.weak (.c (t := 3) rfl (.c (t := 8) rfl (.c (t := 10) rfl (.c (t := 11) rfl (.c (t := 22) rfl (.c (t := 23) rfl (.c (t := 24) rfl .n))))))) (fun _ h => h) ?_
        refine c_seq ?_
        refine c_text ?_
        refine l_y (Cls.gs _ _) (y_move rfl) rfl ?_
        refine l_y (Cls.gs _ _) (y_neq rfl rfl) rfl ?_
        refine l_nil ?_
        refine e_then ?_
        refine CJ.weak (.c (t := 3) rfl (.c (t := 8) rfl (.c (t := 10) rfl (.c (t := 11) rfl (.c (t := 22) rfl (.c (t := 23) rfl (.c (t := 24) rfl (.c (t := 32) rfl .n)))))))) (fun _ h => h) ?_
        refine c_cond rfl (fun h3 => ?_) (fun h3 => ?_)
        ·
          refine c_text ?_
          refine l_y (Cls.gs _ _) (y_move rfl) rfl ?_
          refine l_y (Cls.gs _ _) (y_fieldAddr rfl fa52_0) rfl ?_
          refine l_y (Cls.gs _ _) (y_load rfl (LoadAt.oneL .z ty3 .z)) rfl ?_
          refine l_y (Cls.gs _ _) (y_move rfl) rfl ?_
          refine l_y (Cls.gs _ _) (y_build pl60 ty60 .a (.c rfl (.c rfl .n)) (.c rfl (.o rfl) rfl rfl (.t .d) (.c rfl (.o rfl) rfl rfl (.s (.t .d)) .d))) rfl ?_
          refine l_n rfl (n_buildSlice (l := [.int .i64 0, .int .i64 0]) Tryz.underlying29 ty60 .a rfl (by simp) (by kernel_rfl) (.c rfl .n) (.c rfl .a rfl rfl (.t (.t .d)) .d) rfl) (fun b2 _ => ?_)
          refine l_n rfl (n_append1 (v := v) 140000 Tryz.underlying29 ti60 hk.1 (.c (.c (.c .z))) rfl rfl .z rfl rfl (by have h := congrArg List.length hk.2.2; have := ansV_len (rowsOf (ms.take k)) q; simp only [List.length_map, rowsOf, List.length_take] at this h; omega) rfl rfl) (fun v1 hv1 => ?_)
          refine l_y (Cls.gs _ _) (y_assign rfl) rfl ?_
          refine l_nil ?_
          refine e_block ?_
          refine e_then ?_
          refine CJ.weak (.c (t := 3) rfl (.c (t := 8) rfl (.c (t := 22) rfl (.c (t := 23) rfl (.c (t := 24) rfl .n))))) (fun _ h => h) ?_
          refine c_text ?_
          refine l_y (Cls.gs _ _) ((y_add rfl rfl).lit (succ64 (by omega))) rfl ?_
          refine l_y (Cls.gs _ _) (y_move rfl) rfl ?_
          refine l_nil ?_
          refine e_again ((v1, k + 1)) (⟨hv1.1, by dsimp only; omega, by rw [ansV_yes hm h3, ← hk.2.2]; exact hv1.2⟩) (by dsimp only at hlt ⊢; omega) (.c (t := 8) rfl (.c (t := 24) rfl (.c (t := 3) rfl (.c (t := 22) rfl (.c (t := 23) rfl .n))))) (fun _ h => h.thin (.d (.d .r)))
        ·
          refine c_skip ?_
          refine e_block ?_
          refine e_then ?_
          refine CJ.weak (.c (t := 3) rfl (.c (t := 8) rfl (.c (t := 22) rfl (.c (t := 23) rfl (.c (t := 24) rfl .n))))) (fun _ h => h) ?_
          refine c_text ?_
          refine l_y (Cls.gs _ _) ((y_add rfl rfl).lit (succ64 (by omega))) rfl ?_
          refine l_y (Cls.gs _ _) (y_move rfl) rfl ?_
          refine l_nil ?_
          refine e_again ((v, k + 1)) (⟨hk.1, by dsimp only; omega, by rw [ansV_no hm h3]; exact hk.2.2⟩) (by dsimp only at hlt ⊢; omega) (.c (t := 8) rfl (.c (t := 24) rfl (.c (t := 3) rfl (.c (t := 22) rfl (.c (t := 23) rfl .n))))) (fun _ h => h.thin (.d .r))
      ·
        refine c_exit ?_
        refine e_then_exit ?_
        refine e_then_exit ?_
        refine e_block_hit ?_
        refine e_then ?_
        refine CJ.weak (.c (t := 8) rfl .n) (fun _ h => h) ?_
        refine c_seq ?_
        refine c_text ?_
        refine l_y (Cls.gs _ _) (y_move rfl) rfl ?_
        refine l_y (Cls.gs _ _) (y_assign rfl) rfl ?_
        refine l_y (Cls.gs _ _) (y_assign rfl) rfl ?_
        refine l_nil ?_
        refine e_then ?_
        refine CJ.weak (.c (t := 4) rfl (.c (t := 5) rfl .n)) (fun _ h => h) ?_
        refine c_ret ?_
        refine e_ret rfl (.t rfl (.t rfl .n)) (fun wF hw => ?_)
        exact ⟨v, by rw [(scan_c h0 h1).1]; rfl, (hw.anc (w, []) (by simp)).below, hw.vin hk.1 (.c .z) (by first | exact .z | exact .s .z), hk.1, by rw [(scan_c h0 h1).2, hk.2.2, List.take_of_length_le (by have := of_decide_eq_false h2; dsimp only; omega)]⟩

theorem below6 (x n : Int) (hx : -9223372036854775808 ≤ x) (hx2 : x ≤ 9223372036854775807) (hn : -9223372036854775808 ≤ n) (hn2 : n ≤ 9223372036854775807) (w : World) : Calls Tryz.prog 6 #[.int .i64 x, .int .i64 n] w fun e w' => e = .returned (.int .i64 (below x n)) ∧ Gr w w' := by
  refine enter Tryz.func6 rfl rfl rfl rfl (Cls.start w) ?_
  refine c_seq ?_
  refine c_text ?_
  refine l_y (Cls.gs _ _) (y_assign rfl) rfl ?_
  refine l_nil ?_
  refine e_then ?_
  refine CJ.weak (.c (t := 0) rfl (.c (t := 1) rfl .n)) (fun _ h => h) ?_
  refine c_seq ?_
  refine c_seq ?_
  refine c_text ?_
  refine l_y (Cls.gs _ _) (y_move rfl) rfl ?_
  refine l_y (Cls.gs _ _) (y_lss rfl rfl) rfl ?_
  refine l_nil ?_
  refine e_then ?_
  refine CJ.weak (.c (t := 0) rfl (.c (t := 1) rfl (.c (t := 6) rfl .n))) (fun _ h => h) ?_
  refine c_cond rfl (fun h0 => ?_) (fun h0 => ?_)
  ·
    refine c_seq ?_
    refine c_text ?_
    refine l_y (Cls.gs _ _) (y_assign rfl) rfl ?_
    refine l_nil ?_
    refine e_then ?_
    refine CJ.weak (.c (t := 4) rfl .n) (fun _ h => h) ?_
    refine c_ret ?_
    refine e_then_ret ?_
    refine e_ret rfl (.t rfl .n) (fun wF hw => ?_)
    exact ⟨by simp only [outOf, below, h0, reduceIte, Bool.false_eq_true], (hw.anc (w, []) (by simp)).below⟩
  · have hp : 0 < n := by have := of_decide_eq_false h0; omega
    have t1 := Int.tmod_lt_of_pos x hp
    have t2 := Int.lt_tmod_of_pos x hp
    refine c_skip ?_
    refine e_then ?_
    refine CJ.weak (.c (t := 0) rfl (.c (t := 1) rfl .n)) (fun _ h => h) ?_
    refine c_seq ?_
    refine c_text ?_
    refine l_y (Cls.gs _ _) (y_move rfl) rfl ?_
    refine l_y (Cls.gs _ _) (y_move rfl) rfl ?_
    refine l_y (Cls.gs _ _) (y_rem rfl rfl (by have := of_decide_eq_false h0; omega)) rfl ?_
    refine l_y (Cls.gs _ _) (y_assign rfl) rfl ?_
    refine l_nil ?_
    refine e_then ?_
    refine CJ.weak (.c (t := 0) rfl (.c (t := 1) rfl .n)) (fun _ h => h) ?_
    refine c_seq ?_
    refine c_seq ?_
    refine c_text ?_
    refine l_y (Cls.gs _ _) (y_move rfl) rfl ?_
    refine l_y (Cls.gs _ _) (y_lss rfl rfl) rfl ?_
    refine l_nil ?_
    refine e_then ?_
    refine CJ.weak (.c (t := 0) rfl (.c (t := 1) rfl (.c (t := 11) rfl .n))) (fun _ h => h) ?_
    refine c_cond rfl (fun h1 => ?_) (fun h1 => ?_)
    ·
      refine c_text ?_
      refine l_y (Cls.gs _ _) (y_move rfl) rfl ?_
      refine l_y (Cls.gs _ _) (y_move rfl) rfl ?_
      refine l_y (Cls.gs _ _) (y_add64 (x.tmod n) n rfl rfl (by have := of_decide_eq_true h1; omega) (by have := of_decide_eq_true h1; omega)) rfl ?_
      refine l_y (Cls.gs _ _) (y_assign rfl) rfl ?_
      refine l_nil ?_
      refine e_then ?_
      refine CJ.weak (.c (t := 0) rfl .n) (fun _ h => h) ?_
      refine c_seq ?_
      refine c_text ?_
      refine l_y (Cls.gs _ _) (y_move rfl) rfl ?_
      refine l_y (Cls.gs _ _) (y_assign rfl) rfl ?_
      refine l_nil ?_
      refine e_then ?_
      refine CJ.weak (.c (t := 4) rfl .n) (fun _ h => h) ?_
      refine c_ret ?_
      refine e_ret rfl (.t rfl .n) (fun wF hw => ?_)
      exact ⟨by simp only [outOf, below, h0, h1, reduceIte, Bool.false_eq_true], (hw.anc (w, []) (by simp)).below⟩
    ·
      refine c_skip ?_
      refine e_then ?_
      refine CJ.weak (.c (t := 0) rfl .n) (fun _ h => h) ?_
      refine c_seq ?_
      refine c_text ?_
      refine l_y (Cls.gs _ _) (y_move rfl) rfl ?_
      refine l_y (Cls.gs _ _) (y_assign rfl) rfl ?_
      refine l_nil ?_
      refine e_then ?_
      refine CJ.weak (.c (t := 4) rfl .n) (fun _ h => h) ?_
      refine c_ret ?_
      refine e_ret rfl (.t rfl .n) (fun wF hw => ?_)
      exact ⟨by simp only [outOf, below, h0, h1, reduceIte, Bool.false_eq_true], (hw.anc (w, []) (by simp)).below⟩

end Go.Proofs.YtdpdahpkdimopaaGreat
