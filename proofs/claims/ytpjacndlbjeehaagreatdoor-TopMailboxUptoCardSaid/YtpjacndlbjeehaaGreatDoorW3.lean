/-
  A part of the proof of TopMailbox: walks of single functions, and plain facts.
-/
import Derived.Test.YtpjacndlbjeehaaGreatDoorPf
import Derived.Test.YtpjacndlbjeehaaGreatDoorMK
import Derived.Test.YtpjacndlbjeehaaGreatDoorW2
import Derived.KernelRfl
import Derived.Test.YtpjacndlbjeehaaGreatDoorS
set_option linter.unusedVariables false
set_option linter.unusedSimpArgs false
set_option maxRecDepth 100000
namespace Go.Proofs.YtpjacndlbjeehaaGreatDoor
open Go Go.Px Mb
open Go.RowKit Go.Proofs
theorem eq8 (a b : Al) (pa : Nat) (w : World) (hpa : w.heap[pa]? = some (blk [.int .i64 a.id, .int .i64 a.kind, .int .i64 a.object, .int .i64 a.at_.lo, .int .i64 a.at_.hi, .bool a.at_.u, .int .i64 a.ra.lo, .int .i64 a.ra.hi, .bool a.ra.u, .int .i64 a.dec.lo, .int .i64 a.dec.hi, .bool a.dec.u, .int .i64 a.flux.lo, .int .i64 a.flux.hi, .bool a.flux.u, .int .i64 a.of_] 36)) : Calls Tryz.prog 8 #[.agg #[.int .i64 b.id, .int .i64 b.kind, .int .i64 b.object, .int .i64 b.at_.lo, .int .i64 b.at_.hi, .bool b.at_.u, .int .i64 b.ra.lo, .int .i64 b.ra.hi, .bool b.ra.u, .int .i64 b.dec.lo, .int .i64 b.dec.hi, .bool b.dec.u, .int .i64 b.flux.lo, .int .i64 b.flux.hi, .bool b.flux.u, .int .i64 b.of_], ptrV pa] w fun e w' => e = .returned (.bool (decide (a.id = b.id))) ∧ Gr w w' := by
  refine enter Tryz.func8 rfl rfl rfl rfl (Cls.start w) ?_
  refine c_seq ?_
  refine c_text ?_
  refine l_n rfl (n_box rfl .a rfl) (fun b0 _ => ?_)
  refine l_y (Cls.gs _ _) (y_assign rfl) rfl ?_
  refine l_nil ?_
  refine e_then ?_
  refine CJ.weak (.c (t := 1) rfl (.c (t := 2) rfl .n)) (fun _ h => h) ?_
  refine c_seq ?_
  refine c_text ?_
  refine l_y (Cls.gs _ _) (y_fieldAddr rfl fa36_0) rfl ?_
  refine l_y (Cls.gs _ _) (y_load rfl (LoadAt.oneB .z hpa ty3 .z)) rfl ?_
  refine l_y (Cls.gs _ _) (y_fieldAddr rfl fa36_0) rfl ?_
  refine l_y (Cls.gs _ _) (y_load rfl (LoadAt.oneL .z ty3 .z)) rfl ?_
  refine l_y (Cls.gs _ _) (y_eql rfl rfl) rfl ?_
  refine l_y (Cls.gs _ _) (y_assign rfl) rfl ?_
  refine l_nil ?_
  refine e_then ?_
  refine CJ.weak (.c (t := 3) rfl .n) (fun _ h => h) ?_
  refine c_ret ?_
  refine e_ret rfl (.t rfl .n) (fun wF hw => ?_)
  exact ⟨rfl, (hw.anc (w, []) (by simp)).below⟩

theorem idx23 (ls : List Al) (a : Al) (pa : Nat) (la : Option Addr) (lc : Nat) (hn : ls.length < 9223372036854775808) (w : World) (hI : Elts w la 16 (ls.map Al.cells)) (hpa : w.heap[pa]? = some (blk [.int .i64 a.id, .int .i64 a.kind, .int .i64 a.object, .int .i64 a.at_.lo, .int .i64 a.at_.hi, .bool a.at_.u, .int .i64 a.ra.lo, .int .i64 a.ra.hi, .bool a.ra.u, .int .i64 a.dec.lo, .int .i64 a.dec.hi, .bool a.dec.u, .int .i64 a.flux.lo, .int .i64 a.flux.hi, .bool a.flux.u, .int .i64 a.of_] 36)) : Calls Tryz.prog 23 #[.slice la ls.length lc, .func (.func 8) #[] #[ptrV pa]] w fun e w' => ∃ x : Int, e = .returned (.int .i64 x) ∧ Gr w w' ∧ True := by
  refine enter Tryz.func23 rfl rfl rfl rfl (Cls.start w) ?_
  refine c_seq ?_
  refine c_text ?_
  refine l_y (Cls.gs _ _) (y_assign rfl) rfl ?_
  refine l_nil ?_
  refine e_then ?_
  refine CJ.weak (.c (t := 0) rfl (.c (t := 1) rfl .n)) (fun _ h => h) ?_
  refine c_seq ?_
  refine c_seq ?_
  refine c_text ?_
  refine l_y (Cls.gs _ _) (y_move rfl) rfl ?_
  refine l_y (Cls.gs _ _) (y_lenS Tryz.underlying22 rfl rfl) rfl ?_
  refine l_y (Cls.gs _ _) (y_move rfl) rfl ?_
  refine l_nil ?_
  refine e_then ?_
  refine CJ.weak (.c (t := 0) rfl (.c (t := 1) rfl (.c (t := 7) rfl (.c (t := 8) rfl .n)))) (fun _ h => h) ?_
  refine c_block ?_
  refine CJ.weak (.c (t := 8) rfl (.c (t := 0) rfl (.c (t := 1) rfl (.c (t := 7) rfl .n)))) (fun _ h => h) ?_
  refine c_loopC (fun k : Nat => k ≤ ls.length) (fun k => [(8, .int .i64 (k : Int))]) (fun k => ls.length - k) (0) (Nat.zero_le _) ?_
  rintro k hk
  refine c_seq ?_
  refine c_text ?_
  refine l_y (Cls.gs _ _) (y_lss rfl rfl) rfl ?_
  refine l_nil ?_
  refine e_then ?_
  refine c_seq ?_
  refine c_cond rfl (fun h0 => ?_) (fun h0 => ?_)
  · have hlt : k < ls.length := by have := of_decide_eq_true h0; omega
    obtain ⟨b, hb⟩ : ∃ b, ls[k]? = some b := ⟨_, List.getElem?_eq_getElem hlt⟩
    obtain ⟨bb, o, ha, he⟩ := hI k b.cells (by simp [hb])
    replace he := elt_load he
    refine c_skip ?_
    refine e_then ?_
    refine CJ.weak (.c (t := 0) rfl (.c (t := 1) rfl (.c (t := 7) rfl (.c (t := 8) rfl .n)))) (fun _ h => h) ?_
    refine c_seq ?_
    refine c_block ?_
    refine c_seq ?_
    refine c_text ?_
    refine l_y (Cls.gs _ _) (y_move rfl) rfl ?_
    refine l_y (Cls.gs _ _) (y_assign rfl) rfl ?_
    refine l_nil ?_
    refine e_then ?_
    refine CJ.weak (.c (t := 0) rfl (.c (t := 1) rfl (.c (t := 5) rfl (.c (t := 7) rfl (.c (t := 8) rfl .n))))) (fun _ h => h) ?_
    refine c_seq ?_
    refine c_text ?_
    refine l_y (Cls.gs _ _) (y_move rfl) rfl ?_
    refine l_y (Cls.gs _ _) (y_move rfl) rfl ?_
    refine l_y (Cls.gs _ _) (y_move rfl) rfl ?_
    refine l_y (Cls.gs _ _) (y_indexAddrF Tryz.underlying22 ty36 rfl rfl ha (by omega) (by omega)) rfl ?_
    refine l_y (Cls.gs _ _) (y_load rfl (LoadAt.aggF (l := [.int .i64 b.id, .int .i64 b.kind, .int .i64 b.object, .int .i64 b.at_.lo, .int .i64 b.at_.hi, .bool b.at_.u, .int .i64 b.ra.lo, .int .i64 b.ra.hi, .bool b.ra.u, .int .i64 b.dec.lo, .int .i64 b.dec.hi, .bool b.dec.u, .int .i64 b.flux.lo, .int .i64 b.flux.hi, .bool b.flux.u, .int .i64 b.of_]) .z ty36 rfl he)) rfl ?_
    refine l_y (Cls.gs _ _) (y_callv ent8 rfl (.c rfl .n) (fun w' hw' => eq8 a b pa w' (gr_blk (hw'.gr .z) hpa))) rfl ?_
    refine l_nil ?_
    refine e_then ?_
    refine CJ.weak (.c (t := 0) rfl (.c (t := 1) rfl (.c (t := 5) rfl (.c (t := 7) rfl (.c (t := 8) rfl (.c (t := 16) rfl .n)))))) (fun _ h => h) ?_
    refine c_cond rfl (fun h1 => ?_) (fun h1 => ?_)
    ·
      refine c_seq ?_
      refine c_text ?_
      refine l_y (Cls.gs _ _) (y_move rfl) rfl ?_
      refine l_y (Cls.gs _ _) (y_assign rfl) rfl ?_
      refine l_nil ?_
      refine e_then ?_
      refine CJ.weak (.c (t := 4) rfl .n) (fun _ h => h) ?_
      refine c_ret ?_
      refine e_block_ret ?_
      refine e_then_ret ?_
      refine e_then_ret ?_
      refine e_block_ret ?_
      refine e_then_ret ?_
      refine e_ret rfl (.t rfl .n) (fun wF hw => ?_)
      exact ⟨_, rfl, (hw.anc (w, []) (by simp)).below, trivial⟩
    ·
      refine c_skip ?_
      refine e_block ?_
      refine e_then ?_
      refine CJ.weak (.c (t := 0) rfl (.c (t := 1) rfl (.c (t := 7) rfl (.c (t := 8) rfl .n)))) (fun _ h => h) ?_
      refine c_text ?_
      refine l_y (Cls.gs _ _) ((y_add rfl rfl).lit (succ64 (by omega))) rfl ?_
      refine l_y (Cls.gs _ _) (y_move rfl) rfl ?_
      refine l_nil ?_
      refine e_again (k + 1) (by omega) (by omega) (.c (t := 8) rfl (.c (t := 0) rfl (.c (t := 1) rfl (.c (t := 7) rfl .n)))) (fun _ h => h.thin .r)
  ·
    refine c_exit ?_
    refine e_then_exit ?_
    refine e_then_exit ?_
    refine e_block_hit ?_
    refine e_then ?_
    refine CJ.weak .n (fun _ h => h) ?_
    refine c_seq ?_
    refine c_text ?_
    refine l_y (Cls.gs _ _) (y_assign rfl) rfl ?_
    refine l_nil ?_
    refine e_then ?_
    refine c_ret ?_
    refine e_ret rfl (.t rfl .n) (fun wF hw => ?_)
    exact ⟨_, rfl, (hw.anc (w, []) (by simp)).below, trivial⟩

theorem cf7 (ls : List Al) (a : Al) (pa : Nat) (la : Option Addr) (lc : Nat) (hn : ls.length < 9223372036854775808) (w : World) (hI : Elts w la 16 (ls.map Al.cells)) (hpa : w.heap[pa]? = some (blk [.int .i64 a.id, .int .i64 a.kind, .int .i64 a.object, .int .i64 a.at_.lo, .int .i64 a.at_.hi, .bool a.at_.u, .int .i64 a.ra.lo, .int .i64 a.ra.hi, .bool a.ra.u, .int .i64 a.dec.lo, .int .i64 a.dec.hi, .bool a.dec.u, .int .i64 a.flux.lo, .int .i64 a.flux.hi, .bool a.flux.u, .int .i64 a.of_] 36)) : Calls Tryz.prog 7 #[.slice la ls.length lc, .func (.func 8) #[] #[ptrV pa]] w fun e w' => ∃ x : Bool, e = .returned (.bool x) ∧ Gr w w' ∧ True := by
  refine enter Tryz.func7 rfl rfl rfl rfl (Cls.start w) ?_
  refine c_seq ?_
  refine c_text ?_
  refine l_y (Cls.gs _ _) (y_assign rfl) rfl ?_
  refine l_nil ?_
  refine e_then ?_
  refine CJ.weak (.c (t := 0) rfl (.c (t := 1) rfl .n)) (fun _ h => h) ?_
  refine c_seq ?_
  refine c_text ?_
  refine l_y (Cls.gs _ _) (y_move rfl) rfl ?_
  refine l_y (Cls.gs _ _) (y_move rfl) rfl ?_
  refine l_n rfl (n_callW ent23 (.c rfl (.c rfl .n)) (fun w' hw' => idx23 ls a pa la lc hn w' (hI.gr (hw'.gr .z)) (gr_blk (hw'.gr .z) hpa)) rfl) (fun x hx => ?_)
  refine l_y (Cls.gs _ _) (y_geq rfl rfl) rfl ?_
  refine l_y (Cls.gs _ _) (y_assign rfl) rfl ?_
  refine l_nil ?_
  refine e_then ?_
  refine CJ.weak (.c (t := 4) rfl .n) (fun _ h => h) ?_
  refine c_ret ?_
  refine e_ret rfl (.t rfl .n) (fun wF hw => ?_)
  exact ⟨_, rfl, (hw.anc (w, []) (by simp)).below, trivial⟩

theorem below14 (x n : Int) (hx : -9223372036854775808 ≤ x) (hx2 : x ≤ 9223372036854775807) (hn : 0 < n) (hn2 : n ≤ 9223372036854775807) (w : World) : Calls Tryz.prog 14 #[.int .i64 x, .int .i64 n] w fun e w' => ∃ y : Int, e = .returned (.int .i64 y) ∧ Gr w w' ∧ (0 ≤ y ∧ y < n) := by
  have t1 := Int.tmod_lt_of_pos x hn
  have t2 := Int.lt_tmod_of_pos x hn
  refine enter Tryz.func14 rfl rfl rfl rfl (Cls.start w) ?_
  refine c_seq ?_
  refine c_text ?_
  refine l_y (Cls.gs _ _) (y_assign rfl) rfl ?_
  refine l_nil ?_
  refine e_then ?_
  refine CJ.weak (.c (t := 0) rfl (.c (t := 1) rfl .n)) (fun _ h => h) ?_
  refine c_seq ?_
  refine c_seq ?_
  refine c_text ?_
  refine l_y (Cls.gs _ _) (y_move rfl) rfl ?_
  refine l_y (Cls.gs _ _) (y_lss rfl rfl) rfl ?_
  refine l_nil ?_
  refine e_then ?_
  refine CJ.weak (.c (t := 0) rfl (.c (t := 1) rfl (.c (t := 6) rfl .n))) (fun _ h => h) ?_
  refine c_cond rfl (fun h0 => ?_) (fun h0 => ?_)
  · have := of_decide_eq_true h0; omega
  ·
    refine c_skip ?_
    refine e_then ?_
    refine CJ.weak (.c (t := 0) rfl (.c (t := 1) rfl .n)) (fun _ h => h) ?_
    refine c_seq ?_
    refine c_text ?_
    refine l_y (Cls.gs _ _) (y_move rfl) rfl ?_
    refine l_y (Cls.gs _ _) (y_move rfl) rfl ?_
    refine l_y (Cls.gs _ _) (y_rem rfl rfl (by omega)) rfl ?_
    refine l_y (Cls.gs _ _) (y_assign rfl) rfl ?_
    refine l_nil ?_
    refine e_then ?_
    refine CJ.weak (.c (t := 0) rfl (.c (t := 1) rfl .n)) (fun _ h => h) ?_
    refine c_seq ?_
    refine c_seq ?_
    refine c_text ?_
    refine l_y (Cls.gs _ _) (y_move rfl) rfl ?_
    refine l_y (Cls.gs _ _) (y_lss (m := x.tmod n) rfl rfl) rfl ?_
    refine l_nil ?_
    refine e_then ?_
    refine CJ.weak (.c (t := 0) rfl (.c (t := 1) rfl (.c (t := 11) rfl .n))) (fun _ h => h) ?_
    refine c_cond rfl (fun h1 => ?_) (fun h1 => ?_)
    ·
      refine c_text ?_
      refine l_y (Cls.gs _ _) (y_move rfl) rfl ?_
      refine l_y (Cls.gs _ _) (y_move rfl) rfl ?_
      refine l_y (Cls.gs _ _) (y_add64 (x.tmod n) n rfl rfl (by have := of_decide_eq_true h1; omega) (by have := of_decide_eq_true h1; omega)) rfl ?_
      refine l_y (Cls.gs _ _) (y_assign rfl) rfl ?_
      refine l_nil ?_
      refine e_then ?_
      refine CJ.weak (.c (t := 0) rfl .n) (fun _ h => h) ?_
      refine c_seq ?_
      refine c_text ?_
      refine l_y (Cls.gs _ _) (y_move rfl) rfl ?_
      refine l_y (Cls.gs _ _) (y_assign rfl) rfl ?_
      refine l_nil ?_
      refine e_then ?_
      refine CJ.weak (.c (t := 4) rfl .n) (fun _ h => h) ?_
      refine c_ret ?_
      refine e_ret rfl (.t rfl .n) (fun wF hw => ?_)
      have := of_decide_eq_true h1
      exact ⟨_, rfl, (hw.anc (w, []) (by simp)).below, by omega, by omega⟩
    ·
      refine c_skip ?_
      refine e_then ?_
      refine CJ.weak (.c (t := 0) rfl .n) (fun _ h => h) ?_
      refine c_seq ?_
      refine c_text ?_
      refine l_y (Cls.gs _ _) (y_move rfl) rfl ?_
      refine l_y (Cls.gs _ _) (y_assign rfl) rfl ?_
      refine l_nil ?_
      refine e_then ?_
      refine CJ.weak (.c (t := 4) rfl .n) (fun _ h => h) ?_
      refine c_ret ?_
      refine e_ret rfl (.t rfl .n) (fun wF hw => ?_)
      have := of_decide_eq_false h1
      exact ⟨_, rfl, (hw.anc (w, []) (by simp)).below, by omega, by omega⟩

theorem sort48 (ls : List Int) (v : Vec) (hv : VecOK 1 3 v) (he : v.es = ls.map idx) (hn : ls.length < 1000000000) (w : World) (hV : ∀ p ∈ v.own, w.heap[p.1]? = some p.2) :
    Turns Tryz.prog 48 [v.val] w v (fun _ : Vec => .tuple #[]) (fun x => x) (fun x => VecOK 1 3 x ∧ x.val = v.val ∧ x.es = (ls.mergeSort fun x y => decide (x ≤ y)).map idx) := by
  cases hv with
  | nil =>
    have has : ls = [] := by simpa using he.symm
    subst has
    refine (Tryz.slices_Sort_int_none none 0 w).mono fun e w' ⟨h1, h2⟩ => ?_
    subst h2
    exact ⟨Vec.nil, h1, Keeps.refl _ _, by simp, by simp, .nil, rfl, by simp⟩
  | @row b cap es rest hl hc hcap hr =>
    have he : es = ls.map idx := he
    subst he
    have hb := hV (b, _) (List.mem_cons_self ..)
    have hml : (ls.mergeSort fun x y => decide (x ≤ y)).length = ls.length := List.length_mergeSort _
    have h := Tryz.slices_Sort_int b 0 cap ls w (holds_vec hb) ((Array.getElem?_eq_some_iff.1 hb).1) (by omega)
    rw [show (ls.map idx).length = ls.length from List.length_map _]
    refine h.mono fun e w' ⟨h1, n, os, h2⟩ => ?_
    obtain ⟨k1, k2⟩ := putRow_vec (ls' := ls.mergeSort fun x y => decide (x ≤ y)) (n := n) (os := os) hml hb
    subst h2
    refine ⟨⟨.slice (some ⟨b, 0, none⟩) ls.length cap, (ls.mergeSort fun x y => decide (x ≤ y)).map idx, [(b, blk (((ls.mergeSort fun x y => decide (x ≤ y)).map idx).flatten ++ rest) 3)]⟩, h1, k1, ?_, by simp, ?_, rfl, rfl⟩
    · intro p hp
      obtain rfl := List.mem_singleton.1 hp
      exact ⟨k2, .inl (by simp)⟩
    · have := VecOK.row (m := 1) (e := 3) (b := b) (cap := cap) (es := (ls.mergeSort fun x y => decide (x ≤ y)).map idx) (rest := rest) (by intro l hl; obtain ⟨x, _, rfl⟩ := List.mem_map.1 hl; rfl) (by rw [List.length_map, hml]; simpa using hc) hcap (by rw [List.length_map, hml]; simpa using hr)
      rw [List.length_map, hml] at this
      exact this

end Go.Proofs.YtpjacndlbjeehaaGreatDoor
