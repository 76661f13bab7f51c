/-
  A part of the proof of TopAskedElsewhere: walks of single functions.
-/
import Derived.Test.YtdpdahpkdimopaaGreatQf
import Derived.Test.YtdpdahpkdimopaaGreatB
import Derived.Test.YtdpdahpkdimopaaGreatQ10
import Derived.KernelRfl
set_option linter.unusedVariables false
set_option linter.unusedSimpArgs false
set_option maxRecDepth 100000
namespace Go.Proofs.YtdpdahpkdimopaaGreat
open Go Go.Px Sg
open Go.Px Sg
theorem copy19 (ms : List MRow) (ra : Option Addr) (rc : Nat) (hn : ms.length ≤ 1000000) (w : World) (hR : RowsAt w ra ms) (hF : ∀ m ∈ ms, m.row.frames.length ≤ 1000000) : Calls Tryz.prog 19 #[.slice ra ms.length rc] w fun e w' => ∃ x : Vec, e = .returned x.val ∧ Gr w w' ∧ VIn w x w' ∧ (VecOK 18 52 x ∧ Like x.es (rowsOf ms)) := by
  refine enter Tryz.func19 rfl rfl rfl rfl (Cls.start w) ?_
  refine c_seq ?_
  refine c_text ?_
  refine l_y (Cls.gs _ _) (y_assign rfl) rfl ?_
  refine l_nil ?_
  refine e_then ?_
  refine CJ.weak (.c (t := 0) rfl .n) (fun _ h => h) ?_
  refine c_seq ?_
  refine c_text ?_
  refine l_y (Cls.gs _ _) (y_move rfl) rfl ?_
  refine l_n rfl (n_callV ent44 .z (.c rfl .n) (fun w' hw' => by
    have h := clone44 (ms.map MRow.cells) ra rc (by simp) (by simp [sc]) (by simpa using hn) w' (hR.els.gr (hw'.gr .z))
    rw [List.length_map] at h
    exact h) rfl) (fun x1 hx1 => ?_)
  refine l_y (Cls.gs _ _) (y_assign rfl) rfl ?_
  refine l_nil ?_
  refine e_then ?_
  refine CJ.weak (.c (t := 3) rfl .n) (fun _ h => h) ?_
  refine c_seq ?_
  refine c_seq ?_
  refine c_text ?_
  refine l_y (Cls.gs _ _) (y_move rfl) rfl ?_
  refine l_y (Cls.gs _ _) (y_lenV Tryz.underlying22 hx1.1 rfl rfl) rfl ?_
  refine l_y (Cls.gs _ _) (y_move rfl) rfl ?_
  refine l_nil ?_
  refine e_then ?_
  refine CJ.weak (.c (t := 3) rfl (.c (t := 8) rfl (.c (t := 9) rfl .n))) (fun _ h => h) ?_
  refine c_block ?_
  refine CJ.weak (.c (t := 9) rfl (.c (t := 3) rfl (.c (t := 8) rfl .n))) (fun _ h => h) ?_
  refine c_loopV (fun x : Vec × Nat => VecOK 18 52 x.1 ∧ x.2 ≤ ms.length ∧ x.1.val = x1.val ∧ Like x.1.es (rowsOf ms) ∧ RestAt x.1.es ms x.2) (fun x => [(9, .int .i64 (x.2 : Int))]) (fun x => x.1.own) (fun x => ms.length - x.2) ((x1, 0)) (⟨hx1.1, Nat.zero_le _, rfl, hx1.2 ▸ Like.of ms, hx1.2 ▸ RestAt.of ms⟩) .z ?_
  rintro ⟨v, k⟩ hk
  refine c_seq ?_
  refine c_text ?_
  refine l_y (Cls.gs _ _) (y_lss rfl rfl) rfl ?_
  refine l_nil ?_
  refine e_then ?_
  refine c_seq ?_
  refine c_cond rfl (fun h0 => ?_) (fun h0 => ?_)
  · have hxl : x1.es.length = ms.length := by rw [hx1.2]; simp
    rw [hxl] at h0
    have hlt : k < ms.length := by have := of_decide_eq_true h0; omega
    obtain ⟨m, hm⟩ : ∃ m, ms[k]? = some m := ⟨_, List.getElem?_eq_getElem hlt⟩
    obtain ⟨b, o, ha, he⟩ := hR.els k m.cells (by simp [hm])
    obtain ⟨hF1, hF2⟩ := hR.fr m (List.mem_of_getElem? hm)
    replace he := elt_load he
    have hmm := List.mem_of_getElem? hm
    have hvl : v.es.length = ms.length := by rw [hk.2.2.2.1.1]; simp [rowsOf]
    have hke := hk.2.2.2.2 k m (Nat.le_refl _) hm
    refine c_skip ?_
    refine e_then ?_
    refine CJ.weak (.c (t := 3) rfl (.c (t := 8) rfl (.c (t := 9) rfl .n))) (fun _ h => h) ?_
    refine c_seq ?_
    refine c_block ?_
    refine c_seq ?_
    refine c_text ?_
    refine l_y (Cls.gs _ _) (y_move rfl) rfl ?_
    refine l_y (Cls.gs _ _) (y_assign rfl) rfl ?_
    refine l_nil ?_
    refine e_then ?_
    refine CJ.weak (.c (t := 3) rfl (.c (t := 4) rfl (.c (t := 8) rfl (.c (t := 9) rfl .n)))) (fun _ h => h) ?_
    refine c_text ?_
    refine l_y (Cls.gs _ _) (y_move rfl) rfl ?_
    refine l_y (Cls.gs _ _) (y_move rfl) rfl ?_
    refine l_y (Cls.gs _ _) (y_move rfl) rfl ?_
    refine l_y (Cls.gs _ _) (y_move rfl) rfl ?_
    refine l_y (Cls.gs _ _) (y_idxVec Tryz.underlying22 ty52 hk.1 hk.2.2.1 rfl rfl (by omega) (by dsimp only; omega)) rfl ?_
    refine l_y (Cls.gs _ _) (y_fieldAddr rfl fa52_4) rfl ?_
    refine l_y (Cls.gs _ _) (y_load rfl (LoadAt.oneV hk.1 rfl .z ty50 hke (.s (.s (.s (.s (.s (.s (.s (.s (.s (.s (.s (.s (.s (.s (.s (.s .z)))))))))))))))) (by simp))) rfl ?_
    refine l_n rfl (n_callW (val := fun p : Option Addr × Nat × Nat => .slice p.1 p.2.1 p.2.2) (Φ := fun _ => True) ent45 (.c rfl .n) (fun w' hw' => by
          have h := clone45 (m.row.frames.map fun x => [.int .i64 x]) m.fa m.fc (by simp) (by simp [sc]) (by simpa using hF m hmm) w' (hF1.gr (hw'.gr .z))
          rw [List.length_map] at h
          refine h.mono fun e w'' ⟨x, h1, h2, h3, h4, h5⟩ => ?_
          obtain ⟨a, cap, hv⟩ := h4.len
          exact ⟨(a, x.es.length, cap), by rw [h1]; exact congrArg _ hv, h2, trivial⟩) rfl) (fun f1 hf1 => ?_)
    refine l_y (Cls.gs _ _) (y_idxVec Tryz.underlying22 ty52 hk.1 hk.2.2.1 rfl rfl (by omega) (by dsimp only; omega)) rfl ?_
    refine l_y (Cls.gs _ _) (y_fieldAddr rfl fa52_4) rfl ?_
    refine l_n rfl (n_storeV (k := k) hk.1 rfl .z rfl rfl ty50 (.o rfl) rfl rfl hke (by simp) (.s (.s (.s (.s (.s (.s (.s (.s (.s (.s (.s (.s (.s (.s (.s (.s (.t .d)))))))))))))))))) (fun u0 hu0 => ?_)
    refine l_nil ?_
    refine e_block ?_
    refine e_then ?_
    refine CJ.weak (.c (t := 3) rfl (.c (t := 8) rfl (.c (t := 9) rfl .n))) (fun _ h => h) ?_
    refine c_text ?_
    refine l_y (Cls.gs _ _) ((y_add rfl rfl).lit (succ64 (by omega))) rfl ?_
    refine l_y (Cls.gs _ _) (y_move rfl) rfl ?_
    refine l_nil ?_
    refine e_again ((u0, k + 1)) (⟨hu0.1, by dsimp only; omega, (hu0.2.2.1.trans hk.2.2.1), by dsimp only; rw [hu0.2.1]; exact hk.2.2.2.1.set (by simp [rowsOf, hm]), by dsimp only; rw [hu0.2.1]; exact hk.2.2.2.2.set⟩) (by dsimp only at hlt ⊢; omega) (.c (t := 9) rfl (.c (t := 3) rfl (.c (t := 8) rfl .n))) (fun _ h => h.thin .r)
  ·
    refine c_exit ?_
    refine e_then_exit ?_
    refine e_then_exit ?_
    refine e_block_hit ?_
    refine e_then ?_
    refine CJ.weak (.c (t := 3) rfl .n) (fun _ h => h) ?_
    refine c_seq ?_
    refine c_text ?_
    refine l_y (Cls.gs _ _) (y_move rfl) rfl ?_
    refine l_y (Cls.gs _ _) (y_assign rfl) rfl ?_
    refine l_nil ?_
    refine e_then ?_
    refine CJ.weak (.c (t := 2) rfl .n) (fun _ h => h) ?_
    refine c_ret ?_
    refine e_ret rfl (.t rfl .n) (fun wF hw => ?_)
    exact ⟨v, by rw [← hk.2.2.1]; rfl, (hw.anc (w, []) (by simp)).below, hw.vin hk.1 .z .z, hk.1, hk.2.2.2.1⟩

end Go.Proofs.YtdpdahpkdimopaaGreat
