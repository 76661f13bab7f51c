/-
  A part of the proof of TopAskedElsewhere: walks of single functions.
-/
import Derived.Test.YtdpdahpkdimopaaGreatQf
import Derived.Test.YtdpdahpkdimopaaGreatB
import Derived.Test.YtdpdahpkdimopaaGreatQ11
import Derived.KernelRfl
set_option linter.unusedVariables false
set_option linter.unusedSimpArgs false
set_option maxRecDepth 100000
namespace Go.Proofs.YtdpdahpkdimopaaGreat
open Go Go.Px Sg
open Go.Px Sg
theorem rev8 (cs : List Cone) (hn : cs.length ≤ 1000000) (v : Vec) (hv : VecOK 4 39 v) (he : v.es = cs.map Cone.cells) (w : World) (hV : ∀ p ∈ v.own, w.heap[p.1]? = some p.2) : Turns Tryz.prog 8 [v.val] w v (fun _ : Vec => .tuple #[]) (fun x => x) (fun x => VecOK 4 39 x ∧ x.es = cs.reverse.map Cone.cells ∧ x.val = v.val) := by
  have hvl : v.es.length = cs.length := by rw [he]; simp
  refine enter Tryz.func8 rfl rfl rfl rfl (Cls.startV hv hV) ?_
  refine c_seq ?_
  refine c_text ?_
  refine l_y (Cls.gs _ _) (y_move rfl) rfl ?_
  refine l_y (Cls.gs _ _) (y_lenV Tryz.underlying23 hv rfl rfl) rfl ?_
  refine l_y (Cls.gs _ _) (y_sub64 _ 1 rfl rfl (by omega) (by omega)) rfl ?_
  refine l_y (Cls.gs _ _) (y_assign rfl) rfl ?_
  refine l_y (Cls.gs _ _) (y_assign rfl) rfl ?_
  refine l_nil ?_
  refine e_then ?_
  refine CJ.weak (.c (t := 0) rfl (.c (t := 2) rfl (.c (t := 3) rfl .n))) (fun _ h => h) ?_
  refine c_block ?_
  refine CJ.weak (.c (t := 2) rfl (.c (t := 3) rfl (.c (t := 0) rfl .n))) (fun _ h => h) ?_
  refine c_loopV (fun x : Vec × Nat × Int × List Cone => VecOK 4 39 x.1 ∧ x.1.val = v.val ∧ x.1.es = x.2.2.2.map Cone.cells ∧ RevP cs x.2.2.2 x.2.1 ∧ x.2.2.1 = (cs.length : Int) - 1 - x.2.1 ∧ 2 * x.2.1 ≤ cs.length + 1) (fun x => [(2, .int .i64 (x.2.1 : Int)), (3, .int .i64 x.2.2.1)]) (fun x => x.1.own) (fun x => cs.length - x.2.1) ((v, 0, (v.es.length : Int) - 1, cs)) (⟨hv, rfl, he, RevP.start cs, by rw [hvl]; simp, by dsimp only; omega⟩) .z ?_
  rintro ⟨u, k, j, l⟩ hk
  refine c_seq ?_
  refine c_seq ?_
  refine c_text ?_
  refine l_y (Cls.gs _ _) (y_move rfl) rfl ?_
  refine l_y (Cls.gs _ _) (y_move rfl) rfl ?_
  refine l_y (Cls.gs _ _) (y_lss rfl rfl) rfl ?_
  refine l_nil ?_
  refine e_then ?_
  refine CJ.weak (.c (t := 0) rfl (.c (t := 2) rfl (.c (t := 3) rfl (.c (t := 9) rfl .n)))) (fun _ h => h) ?_
  refine c_cond rfl (fun h0 => ?_) (fun h0 => ?_)
  · have h5 := of_decide_eq_true h0
    have h6 := hk.2.2.2.2.1
    have h7 := hk.2.2.2.2.2
    dsimp only at h5 h6 h7
    have hlt : k < cs.length - 1 - k := by omega
    obtain rfl : j = ((cs.length - 1 - k : Nat) : Int) := by omega
    obtain ⟨a, ha⟩ : ∃ a, l[k]? = some a := ⟨_, List.getElem?_eq_getElem (by rw [hk.2.2.2.1.1]; omega)⟩
    obtain ⟨b, hb⟩ : ∃ b, l[cs.length - 1 - k]? = some b := ⟨_, List.getElem?_eq_getElem (by rw [hk.2.2.2.1.1]; omega)⟩
    have hul : u.es.length = cs.length := by rw [hk.2.2.1]; simp [hk.2.2.2.1.1]
    have hea : u.es[k]? = some a.cells := by rw [hk.2.2.1]; simp [ha]
    have heb : u.es[cs.length - 1 - k]? = some b.cells := by rw [hk.2.2.1]; simp [hb]
    refine c_skip ?_
    refine e_then ?_
    refine CJ.weak (.c (t := 0) rfl (.c (t := 2) rfl (.c (t := 3) rfl .n))) (fun _ h => h) ?_
    refine c_seq ?_
    refine c_block ?_
    refine c_draw (m := 16) (S0 := fun _ => True) (fun i => Nat.beq i 13 || Nat.beq i 15) (fun _ _ => trivial) hmix (Cls.gs _ _) rfl ?_
    refine a_y (i := 0) (Cls.gs _ _) (by kernel_rfl) rfl (by kernel_rfl) (by kernel_rfl) (y_move rfl) rfl ?_
    refine a_y (i := 1) (Cls.gs _ _) (by kernel_rfl) rfl (by kernel_rfl) (by kernel_rfl) (y_move rfl) rfl ?_
    refine a_y (i := 4) (Cls.gs _ _) (by kernel_rfl) rfl (by kernel_rfl) (by kernel_rfl) (y_move rfl) rfl ?_
    refine a_y (i := 5) (Cls.gs _ _) (by kernel_rfl) rfl (by kernel_rfl) (by kernel_rfl) (y_move rfl) rfl ?_
    refine a_y (i := 6) (Cls.gs _ _) (by kernel_rfl) rfl (by kernel_rfl) (by kernel_rfl) (y_idxVec Tryz.underlying23 ty39 hk.1 hk.2.1 rfl rfl (by omega) (by dsimp only; omega)) rfl ?_
    refine a_y (i := 7) (Cls.gs _ _) (by kernel_rfl) rfl (by kernel_rfl) (by kernel_rfl) (y_load rfl (LoadAt.aggV hk.1 rfl .z ty39 heb (.t (.t (.t (.t .d)))) (by simp))) rfl ?_
    refine a_yM (i := 2) (Cls.gs _ _) (by kernel_rfl) rfl (by kernel_rfl) (by kernel_rfl) (y_move rfl) rfl ?_
    refine a_yM (i := 3) (Cls.gs _ _) (by kernel_rfl) rfl (by kernel_rfl) (by kernel_rfl) (y_move rfl) rfl ?_
    refine a_yM (i := 8) (Cls.gs _ _) (by kernel_rfl) rfl (by kernel_rfl) (by kernel_rfl) (y_move rfl) rfl ?_
    refine a_yM (i := 9) (Cls.gs _ _) (by kernel_rfl) rfl (by kernel_rfl) (by kernel_rfl) (y_move rfl) rfl ?_
    refine a_yM (i := 10) (Cls.gs _ _) (by kernel_rfl) rfl (by kernel_rfl) (by kernel_rfl) (y_idxVec Tryz.underlying23 ty39 hk.1 hk.2.1 rfl rfl (by omega) (by dsimp only; omega)) rfl ?_
    refine a_y (i := 11) (Cls.gs _ _) (by kernel_rfl) rfl (by kernel_rfl) (by kernel_rfl) (y_load rfl (LoadAt.aggV hk.1 rfl .z ty39 hea (.t (.t (.t (.t .d)))) (by simp))) rfl ?_
    refine a_y (i := 12) (Cls.gs _ _) (by kernel_rfl) rfl (by kernel_rfl) (by kernel_rfl) (y_idxVec Tryz.underlying23 ty39 hk.1 hk.2.1 rfl rfl (by omega) (by dsimp only; omega)) rfl ?_
    refine a_n (i := 13) rfl rfl (by kernel_rfl) (fun _ => Cls.gs _ _) (.inl ⟨rfl, fun _ _ _ => trivial⟩) (n_storeV (k := k) hk.1 rfl .z rfl rfl ty39 .a rfl rfl hea (by simp) (.t (.t (.t (.t .d))))) (fun u1 hu1 => ?_)
    refine a_y (i := 14) (Cls.gs _ _) (by kernel_rfl) rfl (by kernel_rfl) (by kernel_rfl) (y_idxVec Tryz.underlying23 ty39 hu1.1 (hu1.2.2.1.trans hk.2.1) rfl rfl (by omega) (by first | (dsimp only; omega) | (rw [hu1.2.1]; simp; omega))) rfl ?_
    refine a_n (i := 15) rfl rfl (by kernel_rfl) (fun _ => Cls.gs _ _) (.inl ⟨rfl, fun _ _ _ => trivial⟩) (n_storeV (k := (cs.length - 1 - k)) hu1.1 rfl .z rfl rfl ty39 .a rfl rfl (by rw [hu1.2.1, List.getElem?_set_ne (by omega)]; exact heb) (by simp) (.t (.t (.t (.t .d))))) (fun u2 hu2 => ?_)
    refine a_done (by kernel_rfl) ?_
    refine e_block ?_
    refine e_then ?_
    refine CJ.weak (.c (t := 0) rfl (.c (t := 2) rfl (.c (t := 3) rfl .n))) (fun _ h => h) ?_
    refine c_text ?_
    refine l_y (Cls.gs _ _) (y_move rfl) rfl ?_
    refine l_y (Cls.gs _ _) ((y_add rfl rfl).lit (succ64 (by omega))) rfl ?_
    refine l_y (Cls.gs _ _) (y_move rfl) rfl ?_
    refine l_y (Cls.gs _ _) (y_sub64 _ 1 rfl rfl (by omega) (by omega)) rfl ?_
    refine l_y (Cls.gs _ _) (y_assign rfl) rfl ?_
    refine l_y (Cls.gs _ _) (y_assign rfl) rfl ?_
    refine l_nil ?_
    refine e_again ((u2, k + 1, _, (l.set k b).set (cs.length - 1 - k) a)) (⟨hu2.1, (hu2.2.2.1.trans (hu1.2.2.1.trans hk.2.1)), by dsimp only; rw [hu2.2.1, hu1.2.1, hk.2.2.1, List.map_set, List.map_set]; rfl, hk.2.2.2.1.step hlt ha hb, by dsimp only; omega, by dsimp only; omega⟩) (by dsimp only; omega) (.c (t := 2) rfl (.c (t := 3) rfl (.c (t := 0) rfl .n))) (fun _ h => h.thin .r)
  ·
    refine c_exit ?_
    refine e_then_exit ?_
    refine e_then_exit ?_
    refine e_block_hit ?_
    refine e_end rfl .n (fun wF hw => ?_)
    exact ⟨u, rfl, hw.turned hk.1 .z .z |>.1, (hw.turned hk.1 .z .z).2.1, (hw.turned hk.1 .z .z).2.2, hk.1, by rw [hk.2.2.1, hk.2.2.2.1.done (by have := of_decide_eq_false h0; have := hk.2.2.2.2.1; dsimp only at *; omega) hk.2.2.2.2.2], hk.2.1⟩

end Go.Proofs.YtdpdahpkdimopaaGreat
