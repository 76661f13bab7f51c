/-
  The library's sort of numbers, in the words of vectors; an inbox as it lies in memory.
-/
import Derived.Test.YtpjacndlbjeehaaGreatDoorM2
import Derived.Test.YtpjacndlbjeehaaGreatDoorPx10
import Derived.Shelf.SlSortCmp.WholeK
set_option linter.unusedVariables false
set_option linter.unusedSimpArgs false
namespace Mb
open Go Go.RowKit Go.Sort Go.Px
theorem gr_blk {W w : World} (g : Gr W w) {b : Nat} {o : Obj} (h : W.heap[b]? = some o) : w.heap[b]? = some o := (g.block b (Array.getElem?_eq_some_iff.1 h).1).trans h
abbrev idx (i : Int) : List Value := [.int .i64 i]
theorem flat_idx : ∀ ls : List Int, (ls.map idx).flatten = ls.map (Value.int .i64)
  | [] => rfl
  | x :: l => by simp only [List.map_cons, List.flatten_cons, flat_idx l, List.singleton_append]
theorem holds_vec {ls : List Int} {w : World} {b : Nat} {rest : List Value} {t : TypeId} (h : w.heap[b]? = some (blk ((ls.map idx).flatten ++ rest) t)) : Holds (Value.int .i64) w b 0 ls.toArray := fun j hj => by
  have hj : j < ls.length := by simpa using hj
  refine ⟨?_, by simp [World.frozen?, h, blk]⟩
  rw [cell_blk h, Nat.zero_add, flat_idx, List.getElem?_append_left (by simpa using hj), getElem!_pos _ j (by simpa using hj)]
  simp [List.getElem?_eq_getElem hj]
theorem putRow_vec {ls ls' : List Int} {w : World} {b n : Nat} {os : Array Obj} {rest : List Value} {t : TypeId} (hl : ls'.length = ls.length) (h : w.heap[b]? = some (blk ((ls.map idx).flatten ++ rest) t)) :
    Keeps w [b] (grow (putRow (Value.int .i64) (ahead w n) b 0 ls'.toArray) os) ∧ (grow (putRow (Value.int .i64) (ahead w n) b 0 ls'.toArray) os).heap[b]? = some (blk ((ls'.map idx).flatten ++ rest) t) := by
  have hlt : b < w.heap.size := (Array.getElem?_eq_some_iff.1 h).1
  have hheap : (grow (putRow (Value.int .i64) (ahead w n) b 0 ls'.toArray) os).heap = (w.heap.modify b (onCells (putCells (Value.int .i64) 0 ls'.toArray))) ++ os := rfl
  refine ⟨⟨rfl, rfl, rfl, ?_, fun i hi hne => ?_⟩, ?_⟩
  · rw [hheap]; simp
  · have hne : b ≠ i := fun e => hne (by simp [e])
    rw [hheap, Array.getElem?_append_left (by simpa using hi), Array.getElem?_modify, if_neg hne]
  · rw [hheap, Array.getElem?_append_left (by simpa using hlt), Array.getElem?_modify, if_pos rfl, h]
    simp only [Option.map_some, blk, onCells]
    congr 2
    rw [flat_idx, flat_idx]
    unfold putCells
    apply Array.ext
    · simp [hl]
    · intro i h1 h2
      simp only [Array.getElem_mapIdx, Nat.zero_le, true_and, Nat.zero_add, Nat.sub_zero, List.size_toArray]
      by_cases hi : i < ls'.length
      · rw [if_pos hi, getElem!_pos _ i (by simpa using hi)]
        simp [List.getElem_append_left, hi]
      · rw [if_neg hi]
        simp only [List.getElem_toArray]
        rw [List.getElem_append_right (by simp; omega), List.getElem_append_right (by simp; omega)]
        simp [hl]
/-- an inbox: two maps -/
abbrev IB := (List KB × Nat) × (List KB × Nat)
def ibOwn (xb vb gb : Nat) (s : IB) : List Px.Loc := [(xb, blk [.map (some vb), .map (some gb)] 57), (vb, mObjT s.1.1 s.1.2), (gb, mObjT s.2.1 s.2.2)]
structure IBOK (s : IB) : Prop where
  v : MapT s.1.1 s.1.2
  g : MapT s.2.1 s.2.2
def evOf (a : Al) : Ev := ⟨a.id, if a.kind = 6 then some a.of_ else none⟩
def takeI (s : IB) (a : Al) : IB :=
  if a.kind = 6 then ((delT s.1.1 a.of_, s.1.2), setT s.2.1 s.2.2 a.of_)
  else if a.id ∈ s.1.1.map (·.1) ∨ a.id ∈ s.2.1.map (·.1) then s else (setT s.1.1 s.1.2 a.id, s.2)
theorem takeI_ok {s : IB} (h : IBOK s) (a : Al) : IBOK (takeI s a) := by
  unfold takeI
  split
  · exact ⟨h.v.del _, h.g.set _⟩
  · split
    · exact h
    · exact ⟨h.v.set _, h.g⟩
/-- which numbers an inbox has, as sets -/
structure Same (s : IB) (t : List Int × List Int) : Prop where
  v : ∀ x, x ∈ s.1.1.map (·.1) ↔ x ∈ t.1
  g : ∀ x, x ∈ s.2.1.map (·.1) ↔ x ∈ t.2
theorem mem_setT {ks : List KB} {c : Nat} {t x : Int} : x ∈ (setT ks c t).1.map (·.1) ↔ x ∈ ks.map (·.1) ∨ x = t := by
  unfold setT
  split
  · rename_i h
    constructor
    · exact .inl
    · rintro (h1 | rfl)
      · exact h1
      · exact h
  · simp
theorem mem_delT {ks : List KB} {t x : Int} : x ∈ (delT ks t).map (·.1) ↔ x ∈ ks.map (·.1) ∧ x ≠ t := by
  unfold delT
  simp only [List.mem_map, List.mem_filter, decide_eq_true_eq]
  constructor
  · rintro ⟨p, ⟨h1, h2⟩, rfl⟩; exact ⟨⟨p, h1, rfl⟩, h2⟩
  · rintro ⟨⟨p, h1, rfl⟩, h2⟩; exact ⟨p, ⟨h1, h2⟩, rfl⟩
theorem take_same {s : IB} {t : List Int × List Int} (h : Same s t) (a : Al) : Same (takeI s a) (take t (evOf a)) := by
  unfold takeI take evOf
  by_cases hk : a.kind = 6
  · simp only [hk, if_true]
    refine ⟨fun x => ?_, fun x => ?_⟩
    · rw [mem_delT, h.v]; simp
    · rw [mem_setT, h.g]; simp [or_comm]
  · simp only [hk, if_false]
    have e : (a.id ∈ s.1.1.map (·.1) ∨ a.id ∈ s.2.1.map (·.1)) ↔ (a.id ∈ t.1 ∨ a.id ∈ t.2) := by rw [h.v, h.g]
    by_cases hin : a.id ∈ t.1 ∨ a.id ∈ t.2
    · rw [if_pos (e.2 hin), if_pos hin]; exact h
    · rw [if_neg (fun h' => hin (e.1 h')), if_neg hin]
      refine ⟨fun x => ?_, h.g⟩
      rw [mem_setT, h.v]; simp
end Mb
