/-
  What the law's own function calls, in the words of vectors.
-/
import Derived.Test.YtpjacndlbjeehaaGreatDoorM8
import Derived.Test.YtpjacndlbjeehaaGreatDoorW10
import Derived.Test.YtpjacndlbjeehaaGreatDoorW11
import Derived.Test.YtpjacndlbjeehaaGreatDoorW4
set_option linter.unusedVariables false
set_option linter.unusedSimpArgs false
namespace Go.Proofs.YtpjacndlbjeehaaGreatDoor
open Go Go.RowKit Go.Sort Go.Px Mb
set_option linter.unusedVariables false
set_option maxRecDepth 100000
theorem cls_hole {A : List (World × List Nat)} {L r : List Px.Loc} {F : List Px.Loc → List Px.Loc} {w : World} (hw : Cls A L w) (hH : Hole r F L) : (∀ p ∈ r, w.heap[p.1]? = some p.2) ∧ (r.map (·.1)).Nodup := by
  obtain ⟨p, q, rfl, _⟩ := hH.ex
  refine ⟨fun x hx => hw.loc x (by simp [hx]), ?_⟩
  have := hw.nd
  rw [List.map_append, List.map_append] at this
  exact ((List.nodup_append.1 (List.nodup_append.1 this).1).2.1)
theorem elts_own {m : Nat} {e : TypeId} {v : Vec} (hv : VecOK m e v) {w : World} (h : ∀ p ∈ v.own, w.heap[p.1]? = some p.2) : ∃ a cap, v.val = .slice a v.es.length cap ∧ v.es.length ≤ cap ∧ Elts w a m v.es := by
  cases hv with
  | nil => exact ⟨none, 0, rfl, Nat.le_refl _, fun i l hl => by simp at hl⟩
  | @row b cap es rest hl hc hcap hr =>
    refine ⟨some ⟨b, 0, none⟩, cap, rfl, hc, fun i l hl' => ⟨b, 0, rfl, fun j v hv => ?_⟩⟩
    have hb := h (b, blk (es.flatten ++ rest) e) (by simp)
    have hf := flatten_get hl hl' hv
    rw [Nat.zero_add, cell_blk hb, List.getElem?_append_left (List.getElem?_eq_some_iff.1 hf).1]; exact hf
theorem cf7v (ls : List Al) (a : Al) (pa : Nat) (v : Vec) (hv : VecOK 16 36 v) (he : v.es = ls.map Al.cells) (hn : ls.length < 9223372036854775808) (w : World) (h : ∀ p ∈ v.own, w.heap[p.1]? = some p.2) (hpa : w.heap[pa]? = some (blk a.cells 36)) :
    Calls Tryz.prog 7 #[v.val, .func (.func 8) #[] #[ptrV pa]] w fun e w' => ∃ x : Bool, e = .returned (.bool x) ∧ Gr w w' ∧ True := by
  obtain ⟨la, c, e1, _, e2⟩ := elts_own hv h
  rw [he] at e1 e2
  rw [List.length_map] at e1
  rw [e1]
  exact cf7 ls a pa la c hn w e2 hpa
theorem unpack10v (a : Al) (ha : AlOK a) (v : Vec) (hv : VecOK 1 5 v) (he : v.es = (packB a).map bC) (w : World) (h : ∀ p ∈ v.own, w.heap[p.1]? = some p.2) :
    Calls Tryz.prog 10 #[v.val] w fun e w' => e = .returned (.tuple #[.agg a.cells.toArray, .int .i64 ((packB a).length : Int), .int .i64 0]) ∧ Gr w w' := by
  obtain ⟨la, c, e1, e3, e2⟩ := elts_own hv h
  rw [he] at e1 e2 e3
  rw [List.length_map] at e1 e3
  rw [e1]
  exact unpack10 a ha la c e3 w e2
theorem equal15v (ls : List Int) (u v : Vec) (hu : VecOK 1 3 u) (hv : VecOK 1 3 v) (eu : u.es = ls.map idx) (ev : v.es = ls.map idx) (hl : ls.length ≤ 9223372036854775807) (w : World) (h1 : ∀ p ∈ u.own, w.heap[p.1]? = some p.2) (h2 : ∀ p ∈ v.own, w.heap[p.1]? = some p.2) :
    Calls Tryz.prog 15 #[u.val, v.val] w fun e w' => e = .returned (.bool true) ∧ Gr w w' := by
  obtain ⟨a1, c, p1, _, p2⟩ := elts_own hu h1
  obtain ⟨a2, d, q1, _, q2⟩ := elts_own hv h2
  rw [eu] at p1 p2
  rw [ev] at q1 q2
  rw [List.length_map] at p1 q1
  rw [p1, q1]
  by_cases h0 : ls = []
  · subst h0
    exact (Tryz.slices_Equal_int_empty a1 a2 c 0 d w (by decide)).mono fun e w' ⟨h3, h4⟩ => ⟨h3, h4 ▸ Gr.refl w⟩
  · have cells : ∀ {a : Option Addr}, Elts w a 1 (ls.map idx) → ∃ b o, a = some ⟨b, o, none⟩ ∧ ∀ j, j < ls.length → w.cell? ⟨b, o + j, none⟩ = some (.int .i64 (ls.getD j 0)) := fun {a} hE => by
      obtain ⟨x, l, rfl⟩ := List.exists_cons_of_ne_nil h0
      obtain ⟨b, o, e, _⟩ := hE 0 (idx x) rfl
      refine ⟨b, o, e, fun j hj => ?_⟩
      obtain ⟨b', o', e', hc⟩ := hE j (idx (x :: l)[j]) (by rw [List.getElem?_map, List.getElem?_eq_getElem hj]; rfl)
      rw [e] at e'
      cases e'
      have := hc 0 _ rfl
      rw [List.getD_eq_getElem?_getD, List.getElem?_eq_getElem hj]
      simpa using this
    obtain ⟨b1, o1, rfl, hc1⟩ := cells p2
    obtain ⟨b2, o2, rfl, hc2⟩ := cells q2
    refine (Tryz.slices_Equal_int b1 o1 ls.length c b2 o2 ls.length d ls ls w (Nat.le_refl _) (Nat.le_refl _) hl hl hc1 hc2).mono fun e w' ⟨h3, k, h4⟩ => ⟨?_, h4 ▸ Joins.below_draws _ w k⟩
    rw [h3]; simp
end Go.Proofs.YtpjacndlbjeehaaGreatDoor
