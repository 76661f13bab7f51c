/-
  The library's own functions, in the words of vectors.
-/
import Derived.Test.YtpjacndlbjeehaaGreatDoorPf
import Derived.Test.YtpjacndlbjeehaaGreatDoorM7
import Derived.Test.YtpjacndlbjeehaaGreatDoorW8
import Derived.Lib.SmallJoins
import Derived.Lib.AppendIntMem
import Derived.Lib.AtoiErrMem
import Derived.Test.YtpjacndlbjeehaaGreatDoorS
set_option linter.unusedVariables false
set_option linter.unusedSimpArgs false
namespace Go.Proofs.YtpjacndlbjeehaaGreatDoor
open Go Go.RowKit Go.Sort Go.Px Mb
set_option linter.unusedVariables false
set_option maxRecDepth 100000
/-- the library's tables and limits, as they stand -/
structure Env0 (w : World) : Prop where
  tab : Lib.TabIs Tryz.prog w "internal/strconv.uint64pow10" .u64 Lib.pow10Tab
  mx : ∃ m, w.cell? ⟨3, 0, none⟩ = some (.int .i64 m)
theorem tabAt : ∃ g, Tryz.prog.globalNamed "internal/strconv.uint64pow10" = some g := by
  refine ⟨(Tryz.prog.globalNamed "internal/strconv.uint64pow10").getD 0, ?_⟩
  kernel_rfl
theorem Env0.gr {w w' : World} (h : Env0 w) (g : Gr w w') : Env0 w' := by
  obtain ⟨i, hi⟩ := tabAt
  obtain ⟨m, hm⟩ := h.mx
  exact ⟨Joins.tab_stays hi h.tab g (Nat.le_refl _), m, g.cell hm⟩
theorem gr_grow (w : World) (k : Nat) (os : Array Obj) : Gr w (grow (w.drewN k) os) := Lib.below_grow _ w (Nat.le_refl _) k os
theorem itoa36 (n : Int) (h0 : -9223372036854775808 ≤ n) (h1 : n ≤ 9223372036854775807) (w : World) (hE : Env0 w) : Calls Tryz.prog 36 #[.int .i64 n] w fun e w' => e = .returned (.string (numS n)) ∧ Gr w w' :=
  (Tryz.strconv_Itoa n h0 h1 w hE.tab).mono fun e w' ⟨h, k, os, hw⟩ => ⟨h, hw ▸ gr_grow w k os⟩
theorem fmt66 (n : Int) (h0 : -9223372036854775808 ≤ n) (h1 : n ≤ 9223372036854775807) (w : World) (hE : Env0 w) : Calls Tryz.prog 66 #[.int .i64 n, .int .i64 10] w fun e w' => e = .returned (.string (numS n)) ∧ Gr w w' :=
  (Tryz.strconv_FormatInt_10 n h0 h1 w hE.tab).mono fun e w' ⟨h, k, os, hw⟩ => ⟨h, hw ▸ gr_grow w k os⟩
theorem parse71 (n : Int) (h0 : -9223372036854775808 ≤ n) (h1 : n ≤ 9223372036854775807) (w : World) : Calls Tryz.prog 71 #[.string (numS n), .int .i64 10, .int .i64 64] w fun e w' => e = .returned (.tuple #[.int .i64 n, .nilIface]) ∧ Gr w w' :=
  (Tryz.strconv_ParseInt_10_at64_ok (numS n) (by have := itoa_len n h0 h1; unfold numS; rw [bs_size]; omega) n (parse_itoa n h0 h1) w).mono fun e w' ⟨h, hw⟩ => ⟨h, by
    rcases hw with rfl | ⟨t, rfl⟩
    · exact Gr.refl _
    · exact Lib.bytesWorld_below _ _ _⟩
theorem cut72 {p q : List UInt8} (hp : (46 : UInt8) ∉ p) (hs : (p ++ ([46, 46] ++ q)).length < 1000) (w : World) (hE : Env0 w) : Calls Tryz.prog 72 #[.string (bs (p ++ ([46, 46] ++ q))), .string (bs [46, 46])] w fun e w' => e = .returned (.tuple #[.string (bs p), .string (bs q), .bool true]) ∧ Gr w w' := by
  obtain ⟨m, hm⟩ := hE.mx
  refine (Tryz.strings_Cut (bs (p ++ ([46, 46] ++ q))) (bs [46, 46]) m w (by rw [bs_size]; omega) hm).mono fun e w' ⟨h, k, hw⟩ => ⟨?_, hw ▸ Joins.below_draws _ w k⟩
  rw [h, show Lib.cut (bs (p ++ ([46, 46] ++ q))).data.toList (bs [46, 46]).data.toList = (p, q, true) from cut_at hp]
theorem vec_some {m : Nat} {e : TypeId} {v : Vec} (hv : VecOK m e v) (hne : v.es ≠ []) {w : World} (h : ∀ p ∈ v.own, w.heap[p.1]? = some p.2) : ∃ b cap, v.val = .slice (some ⟨b, 0, none⟩) v.es.length cap ∧ v.es.length ≤ cap ∧ b < w.heap.size ∧ ∀ i l, v.es[i]? = some l → ∀ j x, l[j]? = some x → w.cell? ⟨b, i * m + j, none⟩ = some x := by
  cases hv with
  | nil => simp at hne
  | @row b cap es rest hl hc hcap hr =>
    have hb := h (b, blk (es.flatten ++ rest) e) (by simp)
    refine ⟨b, cap, rfl, hc, (Array.getElem?_eq_some_iff.1 hb).1, fun i l hl' j x hx => ?_⟩
    have hf := flatten_get hl hl' hx
    rw [cell_blk hb, List.getElem?_append_left (List.getElem?_eq_some_iff.1 hf).1]; exact hf
theorem join41v (ws : List ByteArray) (h0 : ws ≠ []) (hl : ws.length ≤ 1000) (hj : (Lib.join (ws.map (·.data.toList)) [32]).length ≤ 1000) (v : Vec) (hv : VecOK 1 9 v) (he : v.es = ws.map sC) (w : World) (h : ∀ p ∈ v.own, w.heap[p.1]? = some p.2) :
    Calls Tryz.prog 41 #[v.val, .string (bs [32])] w fun e w' => e = .returned (.string (joinS ws)) ∧ Gr w w' := by
  obtain ⟨b, cap, e1, e2, e3, e4⟩ := vec_some hv (by rw [he]; simpa using h0) h
  rw [e1, show v.es.length = ws.length by rw [he, List.length_map]]
  refine Tryz.strings_Join b 0 cap ws (bs [32]) w (fun j x hx => ?_) e3 (by omega) (by rw [he, List.length_map] at e2; exact e2) (by rw [bs_list]; omega)
  have := e4 j (sC x) (by rw [he, List.getElem?_map, hx]; rfl) 0 _ rfl
  rw [Nat.zero_add]
  simpa using this
theorem flat_sC : ∀ l : List ByteArray, (l.map sC).flatten = l.map Value.string
  | [] => rfl
  | x :: l => by simp [flat_sC l]
theorem split42v (ws : List ByteArray) (h0 : ws ≠ []) (hl : ws.length ≤ 1000) (hw : ∀ x ∈ ws, noBlank x) (hj : (joinS ws).size ≤ 1000) (w : World) (hE : Env0 w) :
    Calls Tryz.prog 42 #[.string (joinS ws), .string (bs [32])] w fun e w' => ∃ x : Vec, e = .returned x.val ∧ Gr w w' ∧ VIn w x w' ∧ (VecOK 1 9 x ∧ x.es = ws.map sC) := by
  obtain ⟨m, hm⟩ := hE.mx
  obtain ⟨s1, s2⟩ := splitS h0 hw
  refine (Tryz.strings_Split (joinS ws) (bs [32]) m w (by omega) hm (by rw [bs_size]; decide)).mono fun e w' ⟨h, hw'⟩ => ?_
  rw [s2] at hw'
  rw [s1] at h
  have hx : (ws.map sC).flatten ++ [] = ws.map Value.string := by rw [List.append_nil]; exact flat_sC ws
  refine ⟨⟨.slice (some ⟨w.heap.size, 0, none⟩) ws.length ws.length, ws.map sC, [(w.heap.size, blk ((ws.map sC).flatten ++ []) 9)]⟩, h, hw' ▸ Gr.alloc w _, ⟨fun p hp => ?_, by simp⟩, ?_, rfl⟩
  · simp only [List.mem_singleton] at hp
    subst hp
    refine ⟨?_, Nat.le_refl _⟩
    rw [hw', hx]
    show (w.heap.push (blk (ws.map Value.string) 9))[w.heap.size]? = some _
    rw [Array.getElem?_push, if_pos rfl]
  · have := VecOK.row (m := 1) (e := 9) (b := w.heap.size) (cap := ws.length) (es := ws.map sC) (rest := []) (by simp) (by simp) (by simp only [maxLen]; omega) (by simp)
    rwa [List.length_map] at this
theorem index43v (x : ByteArray) (v : Vec) (hv : VecOK 1 9 v) (he : v.es = names.map sC) (w : World) (h : ∀ p ∈ v.own, w.heap[p.1]? = some p.2) :
    Calls Tryz.prog 43 #[v.val, .string x] w fun e w' => e = .returned (.int .i64 (Lib.idxOfS names x)) ∧ Gr w w' := by
  obtain ⟨b, cap, e1, e2, e3, e4⟩ := vec_some hv (by rw [he]; simp) h
  rw [e1, show v.es.length = 6 by rw [he]; rfl]
  refine (Tryz.slices_Index_string b 0 6 cap names x w (by decide) (by decide) (fun j hj => ?_)).mono fun e w' ⟨h1, h2⟩ => ⟨h1, h2 ▸ Gr.refl w⟩
  obtain ⟨y, hy⟩ : ∃ y, names[j]? = some y := ⟨_, List.getElem?_eq_getElem hj⟩
  have := e4 j (sC y) (by rw [he, List.getElem?_map, hy]; rfl) 0 _ rfl
  rw [Nat.zero_add, List.getD_eq_getElem?_getD, hy]
  simpa using this
end Go.Proofs.YtpjacndlbjeehaaGreatDoor
