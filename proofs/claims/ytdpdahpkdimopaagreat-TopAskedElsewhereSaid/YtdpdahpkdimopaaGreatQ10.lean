/-
  A part of the proof of TopAskedElsewhere: walks of single functions.
-/
import Derived.Test.YtdpdahpkdimopaaGreatQf
import Derived.Test.YtdpdahpkdimopaaGreatB
import Derived.Test.YtdpdahpkdimopaaGreatQ9
import Derived.KernelRfl
set_option linter.unusedVariables false
set_option linter.unusedSimpArgs false
set_option maxRecDepth 100000
namespace Go.Proofs.YtdpdahpkdimopaaGreat
open Go Go.Px Sg
open Go.Px Sg
theorem clone7 (xs : List (List Value)) (a : Option Addr) (c : Nat) (hx : ∀ l ∈ xs, l.length = 4) (hs : ∀ l ∈ xs, l.all sc = true) (hn : xs.length ≤ 1000000) (w : World) (hI : Elts w a 4 xs) : Calls Tryz.prog 7 #[.slice a xs.length c] w fun e w' => ∃ x : Vec, e = .returned x.val ∧ Gr w w' ∧ VIn w x w' ∧ (VecOK 4 39 x ∧ x.es = xs) := by
  refine enter Tryz.func7 rfl rfl rfl rfl (Cls.start w) ?_
  refine c_seq ?_
  refine c_text ?_
  refine l_y (Cls.gs _ _) (y_assign rfl) rfl ?_
  refine l_nil ?_
  refine e_then ?_
  refine CJ.weak (.c (t := 0) rfl .n) (fun _ h => h) ?_
  refine c_seq ?_
  refine c_seq ?_
  refine c_text ?_
  refine l_y (Cls.gs _ _) (y_move rfl) rfl ?_
  refine l_y (Cls.gs _ _) (y_eqSliceNil Tryz.underlying23 rfl rfl) rfl ?_
  refine l_nil ?_
  refine e_then ?_
  refine CJ.weak (.c (t := 0) rfl (.c (t := 4) rfl .n)) (fun _ h => h) ?_
  refine c_cond rfl (fun h0 => ?_) (fun h0 => ?_)
  · obtain rfl : a = none := by cases a <;> simp_all
    refine c_seq ?_
    refine c_text ?_
    refine l_y (Cls.gs _ _) (y_assign rfl) rfl ?_
    refine l_nil ?_
    refine e_then ?_
    refine CJ.weak (.c (t := 2) rfl .n) (fun _ h => h) ?_
    refine c_ret ?_
    refine e_then_ret ?_
    refine e_ret rfl (.t rfl .n) (fun wF hw => ?_)
    exact ⟨Vec.nil, rfl, (hw.anc (w, []) (by simp)).below, ⟨by simp, by simp⟩, .nil, hI.of_none.symm⟩
  · obtain ⟨ad, rfl⟩ : ∃ ad, a = some ad := by cases a <;> simp_all
    refine c_skip ?_
    refine e_then ?_
    refine CJ.weak (.c (t := 0) rfl .n) (fun _ h => h) ?_
    refine c_seq ?_
    refine c_text ?_
    refine l_n rfl (n_vec0 .z Tryz.underlying23 ty39 rfl) (fun zb0 hzb0 => ?_)
    refine l_y (Cls.gs _ _) (y_move rfl) rfl ?_
    refine l_n rfl (n_appendE 140000 xs Tryz.underlying23 ti39 hzb0.1 .z rfl rfl rfl hx hs .z hI (by rw [hzb0.2.1]; simp; omega) rfl rfl) (fun x1 hx1 => ?_)
    refine l_y (Cls.gs _ _) (y_assign rfl) rfl ?_
    refine l_nil ?_
    refine e_then ?_
    refine CJ.weak (.c (t := 2) rfl .n) (fun _ h => h) ?_
    refine c_ret ?_
    refine e_ret rfl (.t rfl .n) (fun wF hw => ?_)
    exact ⟨x1, rfl, (hw.anc (w, []) (by simp)).below, hw.vin hx1.1 .z .z, hx1.1, by rw [hx1.2, hzb0.2.1]; rfl⟩

theorem clone44 (xs : List (List Value)) (a : Option Addr) (c : Nat) (hx : ∀ l ∈ xs, l.length = 18) (hs : ∀ l ∈ xs, l.all sc = true) (hn : xs.length ≤ 1000000) (w : World) (hI : Elts w a 18 xs) : Calls Tryz.prog 44 #[.slice a xs.length c] w fun e w' => ∃ x : Vec, e = .returned x.val ∧ Gr w w' ∧ VIn w x w' ∧ (VecOK 18 52 x ∧ x.es = xs) := by
  refine enter Tryz.func44 rfl rfl rfl rfl (Cls.start w) ?_
  refine c_seq ?_
  refine c_text ?_
  refine l_y (Cls.gs _ _) (y_assign rfl) rfl ?_
  refine l_nil ?_
  refine e_then ?_
  refine CJ.weak (.c (t := 0) rfl .n) (fun _ h => h) ?_
  refine c_seq ?_
  refine c_seq ?_
  refine c_text ?_
  refine l_y (Cls.gs _ _) (y_move rfl) rfl ?_
  refine l_y (Cls.gs _ _) (y_eqSliceNil Tryz.underlying22 rfl rfl) rfl ?_
  refine l_nil ?_
  refine e_then ?_
  refine CJ.weak (.c (t := 0) rfl (.c (t := 4) rfl .n)) (fun _ h => h) ?_
  refine c_cond rfl (fun h0 => ?_) (fun h0 => ?_)
  · obtain rfl : a = none := by cases a <;> simp_all
    refine c_seq ?_
    refine c_text ?_
    refine l_y (Cls.gs _ _) (y_assign rfl) rfl ?_
    refine l_nil ?_
    refine e_then ?_
    refine CJ.weak (.c (t := 2) rfl .n) (fun _ h => h) ?_
    refine c_ret ?_
    refine e_then_ret ?_
    refine e_ret rfl (.t rfl .n) (fun wF hw => ?_)
    exact ⟨Vec.nil, rfl, (hw.anc (w, []) (by simp)).below, ⟨by simp, by simp⟩, .nil, hI.of_none.symm⟩
  · obtain ⟨ad, rfl⟩ : ∃ ad, a = some ad := by cases a <;> simp_all
    refine c_skip ?_
    refine e_then ?_
    refine CJ.weak (.c (t := 0) rfl .n) (fun _ h => h) ?_
    refine c_seq ?_
    refine c_text ?_
    refine l_n rfl (n_vec0 .z Tryz.underlying22 ty52 rfl) (fun zb0 hzb0 => ?_)
    refine l_y (Cls.gs _ _) (y_move rfl) rfl ?_
    refine l_n rfl (n_appendE 140000 xs Tryz.underlying22 ti52 hzb0.1 .z rfl rfl rfl hx hs .z hI (by rw [hzb0.2.1]; simp; omega) rfl rfl) (fun x1 hx1 => ?_)
    refine l_y (Cls.gs _ _) (y_assign rfl) rfl ?_
    refine l_nil ?_
    refine e_then ?_
    refine CJ.weak (.c (t := 2) rfl .n) (fun _ h => h) ?_
    refine c_ret ?_
    refine e_ret rfl (.t rfl .n) (fun wF hw => ?_)
    exact ⟨x1, rfl, (hw.anc (w, []) (by simp)).below, hw.vin hx1.1 .z .z, hx1.1, by rw [hx1.2, hzb0.2.1]; rfl⟩

theorem clone45 (xs : List (List Value)) (a : Option Addr) (c : Nat) (hx : ∀ l ∈ xs, l.length = 1) (hs : ∀ l ∈ xs, l.all sc = true) (hn : xs.length ≤ 1000000) (w : World) (hI : Elts w a 1 xs) : Calls Tryz.prog 45 #[.slice a xs.length c] w fun e w' => ∃ x : Vec, e = .returned x.val ∧ Gr w w' ∧ VIn w x w' ∧ (VecOK 1 3 x ∧ x.es = xs) := by
  refine enter Tryz.func45 rfl rfl rfl rfl (Cls.start w) ?_
  refine c_seq ?_
  refine c_text ?_
  refine l_y (Cls.gs _ _) (y_assign rfl) rfl ?_
  refine l_nil ?_
  refine e_then ?_
  refine CJ.weak (.c (t := 0) rfl .n) (fun _ h => h) ?_
  refine c_seq ?_
  refine c_seq ?_
  refine c_text ?_
  refine l_y (Cls.gs _ _) (y_move rfl) rfl ?_
  refine l_y (Cls.gs _ _) (y_eqSliceNil Tryz.underlying50 rfl rfl) rfl ?_
  refine l_nil ?_
  refine e_then ?_
  refine CJ.weak (.c (t := 0) rfl (.c (t := 4) rfl .n)) (fun _ h => h) ?_
  refine c_cond rfl (fun h0 => ?_) (fun h0 => ?_)
  · obtain rfl : a = none := by cases a <;> simp_all
    refine c_seq ?_
    refine c_text ?_
    refine l_y (Cls.gs _ _) (y_assign rfl) rfl ?_
    refine l_nil ?_
    refine e_then ?_
    refine CJ.weak (.c (t := 2) rfl .n) (fun _ h => h) ?_
    refine c_ret ?_
    refine e_then_ret ?_
    refine e_ret rfl (.t rfl .n) (fun wF hw => ?_)
    exact ⟨Vec.nil, rfl, (hw.anc (w, []) (by simp)).below, ⟨by simp, by simp⟩, .nil, hI.of_none.symm⟩
  · obtain ⟨ad, rfl⟩ : ∃ ad, a = some ad := by cases a <;> simp_all
    refine c_skip ?_
    refine e_then ?_
    refine CJ.weak (.c (t := 0) rfl .n) (fun _ h => h) ?_
    refine c_seq ?_
    refine c_text ?_
    refine l_n rfl (n_vec0 .z Tryz.underlying50 ty3 rfl) (fun zb0 hzb0 => ?_)
    refine l_y (Cls.gs _ _) (y_move rfl) rfl ?_
    refine l_n rfl (n_appendE 140000 xs Tryz.underlying50 ti3 hzb0.1 .z rfl rfl rfl hx hs .z hI (by rw [hzb0.2.1]; simp; omega) rfl rfl) (fun x1 hx1 => ?_)
    refine l_y (Cls.gs _ _) (y_assign rfl) rfl ?_
    refine l_nil ?_
    refine e_then ?_
    refine CJ.weak (.c (t := 2) rfl .n) (fun _ h => h) ?_
    refine c_ret ?_
    refine e_ret rfl (.t rfl .n) (fun wF hw => ?_)
    exact ⟨x1, rfl, (hw.anc (w, []) (by simp)).below, hw.vin hx1.1 .z .z, hx1.1, by rw [hx1.2, hzb0.2.1]; rfl⟩

end Go.Proofs.YtdpdahpkdimopaaGreat
