/-
  What the library's sort leaves, in the words of vectors.
-/
import Derived.Test.YtdpdahpkdimopaaGreatA
import Derived.Shelf.SlSortCmp.WholeK
namespace Go.Px
open Go Go.RowKit Go.Sort Go.Proofs
section
variable {α : Type} [Inhabited α]
theorem flatK_eq (enc : α → List Value) (k : Nat) (hk : ∀ x, (enc x).length = k) (d : Array α) : flatK enc k d = ((d.toList.map enc).flatten).toArray := by
  have hl : ((d.toList.map enc).flatten).length = d.size * k := by rw [flatten_len (m := k) (by simpa using fun x _ => hk x)]; simp
  apply Array.ext
  · simp [hl]
  · intro t h1 h2
    have ht : t < d.size * k := by simpa using h1
    have hk0 : 0 < k := by rcases Nat.eq_zero_or_pos k with h | h; · subst h; omega
                           · exact h
    have e1 := get_flatK enc k d t ht
    rw [getElem!_pos _ t h1] at e1
    rw [e1]
    have hq : t / k < d.size := (Nat.div_lt_iff_lt_mul hk0).2 ht
    have hr : t % k < (enc d[t / k]).length := by rw [hk]; exact Nat.mod_lt _ hk0
    have e2 := flatten_get (m := k) (es := d.toList.map enc) (k := t / k) (i := t % k) (l := enc d[t / k]) (u := (enc d[t / k])[t % k]) (by simpa using fun x _ => hk x) (by simp [hq]) (List.getElem?_eq_getElem hr)
    rw [show t / k * k + t % k = t by rw [Nat.mul_comm]; exact Nat.div_add_mod t k] at e2
    rw [getElem!_pos d (t / k) hq, getElem!_pos _ (t % k) hr]
    have := List.getElem?_eq_some_iff.1 e2
    simp [this.2]
theorem holdsK_of (enc : α → List Value) (k : Nat) (hk : ∀ x, (enc x).length = k) (d : Array α) {w : World} {b : Nat} {rest : List Value} {t : TypeId} (h : w.heap[b]? = some (blk ((d.toList.map enc).flatten ++ rest) t)) : HoldsK enc k w b 0 d := by
  unfold HoldsK Holds
  rw [flatK_eq enc k hk]
  intro j hj
  have hj : j < ((d.toList.map enc).flatten).length := by simpa using hj
  refine ⟨?_, by simp [World.frozen?, h, blk]⟩
  rw [cell_blk h, Nat.zero_add, List.getElem?_append_left hj, getElem!_pos _ j (by simpa using hj)]
  simp [List.getElem?_eq_getElem hj]
theorem putCells_blk (F G rest : List Value) (h : F.length = G.length) : putCells id 0 F.toArray (G ++ rest).toArray = (F ++ rest).toArray := by
  unfold putCells
  apply Array.ext
  · simp [h]
  · intro i h1 h2
    simp only [Array.getElem_mapIdx, Nat.zero_le, true_and, Nat.zero_add, Nat.sub_zero, List.size_toArray, id]
    by_cases hi : i < F.length
    · rw [if_pos hi, getElem!_pos _ i (by simpa using hi)]
      simp [List.getElem_append_left hi]
    · rw [if_neg hi]
      simp only [List.getElem_toArray]
      rw [List.getElem_append_right (by omega), List.getElem_append_right (by omega)]
      congr 1; omega
theorem sortWorldK_blk (enc : α → List Value) (k : Nat) (hk : ∀ x, (enc x).length = k) (d d' : Array α) (hs : d'.size = d.size) {w : World} {b n : Nat} {os : Array Obj} {rest : List Value} {t : TypeId} (h : w.heap[b]? = some (blk ((d.toList.map enc).flatten ++ rest) t)) :
    Keeps w [b] (sortWorldK enc k w b 0 n d' os) ∧ (sortWorldK enc k w b 0 n d' os).heap[b]? = some (blk ((d'.toList.map enc).flatten ++ rest) t) := by
  have hlt : b < w.heap.size := (Array.getElem?_eq_some_iff.1 h).1
  have hheap : (sortWorldK enc k w b 0 n d' os).heap = (w.heap.modify b (onCells (putCells id 0 (flatK enc k d')))) ++ os := rfl
  refine ⟨⟨rfl, rfl, rfl, ?_, fun i hi hne => ?_⟩, ?_⟩
  · rw [hheap]; simp
  · have hne : b ≠ i := fun e => hne (by simp [e])
    rw [hheap, Array.getElem?_append_left (by simpa using hi), Array.getElem?_modify, if_neg hne]
  · rw [hheap, Array.getElem?_append_left (by simpa using hlt), Array.getElem?_modify, if_pos rfl, h]
    simp only [Option.map_some, blk, onCells]
    rw [flatK_eq enc k hk, putCells_blk _ _ _ (by rw [flatten_len (m := k) (by simpa using fun x _ => hk x), flatten_len (m := k) (by simpa using fun x _ => hk x)]; simp [hs])]
end
end Go.Px
