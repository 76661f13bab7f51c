/-
  A part of the proof of TopAskedElsewhere: walks of single functions.
-/
import Derived.Test.YtdpdahpkdimopaaGreatQf
import Derived.Test.YtdpdahpkdimopaaGreatB
import Derived.KernelRfl
set_option linter.unusedVariables false
set_option linter.unusedSimpArgs false
set_option maxRecDepth 100000
namespace Go.Proofs.YtdpdahpkdimopaaGreat
open Go Go.Px Sg
open Go.Px Sg
theorem eqf13 (x y : Int × Int) (id_ : Int) (pid : Nat) (h1 : -9223372036854775808 ≤ x.1 + id_) (h2 : x.1 + id_ ≤ 9223372036854775807) (w : World) (hid : w.heap[pid]? = some (blk [.int .i64 id_] 3)) : Calls Tryz.prog 13 #[.agg #[.int .i64 x.1, .int .i64 x.2], .agg #[.int .i64 y.1, .int .i64 y.2], .pointer (some ⟨pid, 0, none⟩)] w fun e w' => e = .returned (.bool (decide ((x.1 + id_, x.2) = y))) ∧ Gr w w' := by
  refine enter Tryz.func13 rfl rfl rfl rfl (Cls.start w) ?_
  refine c_seq ?_
  refine c_text ?_
  refine l_n rfl (n_box rfl .a rfl) (fun b0 _ => ?_)
  refine l_n rfl (n_box rfl .a rfl) (fun b1 _ => ?_)
  refine l_y (Cls.gs _ _) (y_assign rfl) rfl ?_
  refine l_nil ?_
  refine e_then ?_
  refine CJ.weak (.c (t := 2) rfl (.c (t := 3) rfl (.c (t := 4) rfl .n))) (fun _ h => h) ?_
  refine c_seq ?_
  refine c_text ?_
  refine l_y (Cls.gs _ _) (y_fieldAddr rfl fa60_0) rfl ?_
  refine l_y (Cls.gs _ _) (y_load rfl (LoadAt.oneL (.s .z) ty3 .z)) rfl ?_
  refine l_y (Cls.gs _ _) (y_load rfl (LoadAt.oneB .z hid ty3 .z)) rfl ?_
  refine l_y (Cls.gs _ _) (y_add64 x.1 id_ rfl rfl h1 h2) rfl ?_
  refine l_y (Cls.gs _ _) (y_fieldAddr rfl fa60_0) rfl ?_
  refine l_n rfl (n_store rfl rfl ty3 (.o rfl) rfl rfl (.s .z) (.t .d)) (fun _ _ => ?_)
  refine l_nil ?_
  refine e_then ?_
  refine CJ.weak (.c (t := 3) rfl (.c (t := 4) rfl .n)) (fun _ h => h) ?_
  refine c_seq ?_
  refine c_text ?_
  refine l_y (Cls.gs _ _) (y_load rfl (LoadAt.aggL (.s .z) ty60 (.t (.t .d)))) rfl ?_
  refine l_y (Cls.gs _ _) (y_load rfl (LoadAt.aggL .z ty60 (.t (.t .d)))) rfl ?_
  refine l_y (Cls.gs _ _) (y_eqA Tryz.underlying60 (by kernel_rfl) (by kernel_rfl) rfl rfl (.one rfl ty3 .z .z (.int Tryz.underlying3) (.one rfl ty3 (.s .z) (.s .z) (.int Tryz.underlying3) .nil))) rfl ?_
  refine l_y (Cls.gs _ _) (y_assign rfl) rfl ?_
  refine l_nil ?_
  refine e_then ?_
  refine CJ.weak (.c (t := 5) rfl .n) (fun _ h => h) ?_
  refine c_ret ?_
  refine e_ret rfl (.t rfl .n) (fun wF hw => ?_)
  exact ⟨congrArg (fun b => Ending.returned (.bool b)) (eq_pair x y id_).symm, (hw.anc (w, []) (by simp)).below⟩

theorem equalf12 (xs ys : List (Int × Int)) (a a2 : Option Addr) (c c2 : Nat) (id_ : Int) (pid : Nat) (hn : xs.length < 1000000) (hr : ∀ x ∈ xs, -9223372036854775808 ≤ x.1 + id_ ∧ x.1 + id_ ≤ 9223372036854775807) (w : World) (hI : Elts w a 2 (xs.map ansCells)) (hJ : Elts w a2 2 (ys.map ansCells)) (hid : w.heap[pid]? = some (blk [.int .i64 id_] 3)) : Calls Tryz.prog 12 #[.slice a xs.length c, .slice a2 ys.length c2, .func (.func 13) #[] #[.pointer (some ⟨pid, 0, none⟩)]] w fun e w' => e = .returned (.bool (decide (xs.map (fun x => (x.1 + id_, x.2)) = ys))) ∧ Gr w w' := by
  refine enter Tryz.func12 rfl rfl rfl rfl (Cls.start w) ?_
  refine c_seq ?_
  refine c_text ?_
  refine l_y (Cls.gs _ _) (y_assign rfl) rfl ?_
  refine l_nil ?_
  refine e_then ?_
  refine CJ.weak (.c (t := 0) rfl (.c (t := 1) rfl (.c (t := 2) rfl .n))) (fun _ h => h) ?_
  refine c_seq ?_
  refine c_seq ?_
  refine c_text ?_
  refine l_y (Cls.gs _ _) (y_move rfl) rfl ?_
  refine l_y (Cls.gs _ _) (y_lenS Tryz.underlying29 rfl rfl) rfl ?_
  refine l_y (Cls.gs _ _) (y_move rfl) rfl ?_
  refine l_y (Cls.gs _ _) (y_lenS Tryz.underlying29 rfl rfl) rfl ?_
  refine l_y (Cls.gs _ _) (y_neq rfl rfl) rfl ?_
  refine l_nil ?_
  refine e_then ?_
  refine CJ.weak (.c (t := 0) rfl (.c (t := 1) rfl (.c (t := 2) rfl (.c (t := 14) rfl .n)))) (fun _ h => h) ?_
  refine c_cond rfl (fun h0 => ?_) (fun h0 => ?_)
  ·
    refine c_seq ?_
    refine c_text ?_
    refine l_y (Cls.gs _ _) (y_assign rfl) rfl ?_
    refine l_nil ?_
    refine e_then ?_
    refine CJ.weak (.c (t := 6) rfl .n) (fun _ h => h) ?_
    refine c_ret ?_
    refine e_then_ret ?_
    refine e_ret rfl (.t rfl .n) (fun wF hw => ?_)
    exact ⟨by have : xs.map (fun x => (x.1 + id_, x.2)) ≠ ys := fun e => by subst e; simp at h0
              simp [outOf, this], (hw.anc (w, []) (by simp)).below⟩
  · have hlen : xs.length = ys.length := by simp at h0; omega
    refine c_skip ?_
    refine e_then ?_
    refine CJ.weak (.c (t := 0) rfl (.c (t := 1) rfl (.c (t := 2) rfl .n))) (fun _ h => h) ?_
    refine c_seq ?_
    refine c_seq ?_
    refine c_text ?_
    refine l_y (Cls.gs _ _) (y_move rfl) rfl ?_
    refine l_y (Cls.gs _ _) (y_lenS Tryz.underlying29 rfl rfl) rfl ?_
    refine l_y (Cls.gs _ _) (y_move rfl) rfl ?_
    refine l_nil ?_
    refine e_then ?_
    refine CJ.weak (.c (t := 1) rfl (.c (t := 2) rfl (.c (t := 15) rfl (.c (t := 16) rfl (.c (t := 17) rfl .n))))) (fun _ h => h) ?_
    refine c_block ?_
    refine CJ.weak (.c (t := 17) rfl (.c (t := 1) rfl (.c (t := 2) rfl (.c (t := 15) rfl (.c (t := 16) rfl .n))))) (fun _ h => h) ?_
    refine c_loopC (fun k : Nat => k ≤ xs.length ∧ (xs.map (fun x => (x.1 + id_, x.2))).take k = ys.take k) (fun k => [(17, .int .i64 (k : Int))]) (fun k => xs.length - k) (0) (⟨Nat.zero_le _, rfl⟩) ?_
    intro k hk
    refine c_seq ?_
    refine c_text ?_
    refine l_y (Cls.gs _ _) (y_lss rfl rfl) rfl ?_
    refine l_nil ?_
    refine e_then ?_
    refine c_seq ?_
    refine c_cond rfl (fun h1 => ?_) (fun h1 => ?_)
    · have hlt : k < xs.length := by have := of_decide_eq_true h1; omega
      obtain ⟨x, hx⟩ : ∃ x, xs[k]? = some x := ⟨_, List.getElem?_eq_getElem hlt⟩
      obtain ⟨y, hy⟩ : ∃ y, ys[k]? = some y := ⟨_, List.getElem?_eq_getElem (by omega)⟩
      obtain ⟨b, o, ha, he⟩ := hI k (ansCells x) (by simp [hx])
      obtain ⟨b', o', ha', he'⟩ := hJ k (ansCells y) (by simp [hy])
      replace he := elt_load he
      replace he' := elt_load he'
      refine c_skip ?_
      refine e_then ?_
      refine CJ.weak (.c (t := 1) rfl (.c (t := 2) rfl (.c (t := 15) rfl (.c (t := 16) rfl (.c (t := 17) rfl .n))))) (fun _ h => h) ?_
      refine c_seq ?_
      refine c_block ?_
      refine c_seq ?_
      refine c_text ?_
      refine l_y (Cls.gs _ _) (y_move rfl) rfl ?_
      refine l_y (Cls.gs _ _) (y_indexAddrF Tryz.underlying29 ty60 rfl rfl ha (by omega) (by omega)) rfl ?_
      refine l_y (Cls.gs _ _) (y_load rfl (LoadAt.aggF (l := [.int .i64 x.1, .int .i64 x.2]) .z ty60 rfl he)) rfl ?_
      refine l_n rfl (n_alloc ty60 .a rfl) (fun b0 _ => ?_)
      refine l_y (Cls.gs _ _) (y_assign rfl) rfl ?_
      refine l_n rfl (n_store rfl rfl ty60 .a rfl rfl .z (.t (.t .d))) (fun _ _ => ?_)
      refine l_nil ?_
      refine e_then ?_
      refine CJ.weak (.c (t := 1) rfl (.c (t := 2) rfl (.c (t := 7) rfl (.c (t := 8) rfl (.c (t := 15) rfl (.c (t := 16) rfl (.c (t := 17) rfl .n))))))) (fun _ h => h) ?_
      refine c_seq ?_
      refine c_text ?_
      refine l_y (Cls.gs _ _) (y_move rfl) rfl ?_
      refine l_y (Cls.gs _ _) (y_move rfl) rfl ?_
      refine l_y (Cls.gs _ _) (y_indexAddrF Tryz.underlying29 ty60 rfl rfl ha' (by omega) (by omega)) rfl ?_
      refine l_y (Cls.gs _ _) (y_load rfl (LoadAt.aggF (l := [.int .i64 y.1, .int .i64 y.2]) .z ty60 rfl he')) rfl ?_
      refine l_n rfl (n_alloc ty60 .a rfl) (fun b1 _ => ?_)
      refine l_n rfl (n_store rfl rfl ty60 .a rfl rfl .z (.t (.t .d))) (fun _ _ => ?_)
      refine l_nil ?_
      refine e_then ?_
      refine CJ.weak (.c (t := 1) rfl (.c (t := 2) rfl (.c (t := 8) rfl (.c (t := 9) rfl (.c (t := 15) rfl (.c (t := 16) rfl (.c (t := 17) rfl .n))))))) (fun _ h => h) ?_
      refine c_seq ?_
      refine c_text ?_
      refine l_y (Cls.gs _ _) (y_move rfl) rfl ?_
      refine l_y (Cls.gs _ _) (y_load rfl (LoadAt.aggL (.s .z) ty60 (.t (.t .d)))) rfl ?_
      refine l_y (Cls.gs _ _) (y_load rfl (LoadAt.aggL .z ty60 (.t (.t .d)))) rfl ?_
      refine l_y (Cls.gs _ _) (y_callv ent13 rfl (.c rfl (.c rfl .n)) (fun w' hw' => eqf13 x y id_ pid (hr x (List.mem_of_getElem? hx)).1 (hr x (List.mem_of_getElem? hx)).2 w' (((hw'.gr .z).block pid (Array.getElem?_eq_some_iff.1 hid).1).trans hid))) rfl ?_
      refine l_y (Cls.gs _ _) (y_not rfl) rfl ?_
      refine l_nil ?_
      refine e_then ?_
      refine CJ.weak (.c (t := 1) rfl (.c (t := 2) rfl (.c (t := 15) rfl (.c (t := 16) rfl (.c (t := 17) rfl (.c (t := 30) rfl .n)))))) (fun _ h => h) ?_
      refine c_cond rfl (fun h2 => ?_) (fun h2 => ?_)
      ·
        refine c_seq ?_
        refine c_text ?_
        refine l_y (Cls.gs _ _) (y_assign rfl) rfl ?_
        refine l_nil ?_
        refine e_then ?_
        refine CJ.weak (.c (t := 6) rfl .n) (fun _ h => h) ?_
        refine c_ret ?_
        refine e_block_ret ?_
        refine e_then_ret ?_
        refine e_then_ret ?_
        refine e_block_ret ?_
        refine e_then_ret ?_
        refine e_ret rfl (.t rfl .n) (fun wF hw => ?_)
        exact ⟨by have := take_ne (xs := xs.map (fun x => (x.1 + id_, x.2))) (x := (x.1 + id_, x.2)) (by simp [hx]) hy (by simpa using h2); simp [outOf, this], (hw.anc (w, []) (by simp)).below⟩
      ·
        refine c_skip ?_
        refine e_block ?_
        refine e_then ?_
        refine CJ.weak (.c (t := 1) rfl (.c (t := 2) rfl (.c (t := 15) rfl (.c (t := 16) rfl (.c (t := 17) rfl .n))))) (fun _ h => h) ?_
        refine c_text ?_
        refine l_y (Cls.gs _ _) ((y_add rfl rfl).lit (succ64 (by omega))) rfl ?_
        refine l_y (Cls.gs _ _) (y_move rfl) rfl ?_
        refine l_nil ?_
        refine e_again (k + 1) (⟨by omega, take_succ_eq (x := (x.1 + id_, x.2)) (by simp [hx]) hy hk.2 (by simpa using h2)⟩) (by omega) (.c (t := 17) rfl (.c (t := 1) rfl (.c (t := 2) rfl (.c (t := 15) rfl (.c (t := 16) rfl .n))))) (fun _ h => h.thin (.d (.d .r)))
    ·
      refine c_exit ?_
      refine e_then_exit ?_
      refine e_then_exit ?_
      refine e_block_hit ?_
      refine e_then ?_
      refine CJ.weak .n (fun _ h => h) ?_
      refine c_seq ?_
      refine c_text ?_
      refine l_y (Cls.gs _ _) (y_assign rfl) rfl ?_
      refine l_nil ?_
      refine e_then ?_
      refine c_ret ?_
      refine e_ret rfl (.t rfl .n) (fun wF hw => ?_)
      exact ⟨by have : xs.map (fun x => (x.1 + id_, x.2)) = ys := by have e := hk.2; rw [List.take_of_length_le (by have := of_decide_eq_false h1; simp; omega), List.take_of_length_le (by have := of_decide_eq_false h1; omega)] at e; exact e
                simp [outOf, this], (hw.anc (w, []) (by simp)).below⟩

end Go.Proofs.YtdpdahpkdimopaaGreat
