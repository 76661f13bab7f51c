/-
  Alerts as words, and words read back. No program here.
-/
import Derived.Test.YtpjacndlbjeehaaGreatDoorM5
import Derived.Lib.SplitLaws
import Derived.Lib.Join
import Derived.Lib.SlicesS
import Derived.Lib.ItoaNum
import Derived.KernelRfl
set_option linter.unusedVariables false
set_option linter.unusedSimpArgs false
namespace Mb
open Go Go.Px
abbrev bs (l : List UInt8) : ByteArray := ⟨l.toArray⟩
theorem bs_list (l : List UInt8) : (bs l).data.toList = l := rfl
theorem bs_ext {a b : ByteArray} (h : a.data.toList = b.data.toList) : a = b := by
  obtain ⟨⟨a⟩⟩ := a
  obtain ⟨⟨b⟩⟩ := b
  simp at h
  subst h; rfl
theorem bs_append (a b : List UInt8) : bs a ++ bs b = bs (a ++ b) := bs_ext (by simp [ByteArray.data_append])
theorem bs_size (l : List UInt8) : (bs l).size = l.length := by simp [ByteArray.size]
theorem index_miss {c : UInt8} : ∀ {w : List UInt8}, c ∉ w → Lib.index w [c] = -1
  | [], _ => rfl
  | b :: l, h => by
    have h1 : c ≠ b := fun e => h (by simp [e])
    rw [Lib.index]
    have ih := index_miss (w := l) (fun e => h (List.mem_cons_of_mem _ e))
    simp only [List.isPrefixOf, show (c == b) = false from by simpa using h1, Bool.false_and, Bool.false_eq_true, if_false, ih]
    rfl
theorem index_at {sep r : List UInt8} {c : UInt8} : ∀ {w : List UInt8}, c ∉ w → Lib.index (w ++ ((c :: sep) ++ r)) (c :: sep) = w.length
  | [], _ => by
    rw [List.nil_append, List.cons_append, Lib.index]
    have : (c :: sep).isPrefixOf (c :: (sep ++ r)) = true := by
      rw [List.isPrefixOf_iff_prefix]
      exact ⟨r, rfl⟩
    rw [if_pos this]; rfl
  | b :: l, h => by
    have h1 : c ≠ b := fun e => h (by simp [e])
    rw [List.cons_append, Lib.index]
    simp only [List.isPrefixOf, show (c == b) = false from by simpa using h1, Bool.false_and, Bool.false_eq_true, if_false]
    rw [index_at (w := l) (fun e => h (List.mem_cons_of_mem _ e))]
    rw [if_neg (by simp)]
    simp
theorem join_cons2 (w x : List UInt8) (ws : List (List UInt8)) (c : UInt8) : Lib.join (w :: x :: ws) [c] = w ++ ([c] ++ Lib.join (x :: ws) [c]) := by
  rw [Lib.join_cons, Lib.join_cons]
  simp [Lib.joinTail]
theorem join_count {c : UInt8} : ∀ {ws : List (List UInt8)}, ws ≠ [] → (∀ w ∈ ws, c ∉ w) → (Lib.join ws [c]).count c + 1 = ws.length
  | [], h, _ => absurd rfl h
  | [w], _, h => by rw [Lib.join_one, List.count_eq_zero_of_not_mem (h w (by simp))]; rfl
  | w :: x :: ws, _, h => by
    rw [join_cons2, List.count_append, List.count_append, List.count_eq_zero_of_not_mem (h w (by simp))]
    have := join_count (ws := x :: ws) (by simp) (fun y hy => h y (by simp at hy ⊢; exact .inr hy))
    simp at this ⊢
    omega
theorem join_split {c : UInt8} : ∀ {ws : List (List UInt8)}, ws ≠ [] → (∀ w ∈ ws, c ∉ w) → Lib.splitK [c] 0 (ws.length - 1) (Lib.join ws [c]) = ws
  | [], h, _ => absurd rfl h
  | [w], _, h => by rw [Lib.join_one]; rfl
  | w :: x :: ws, _, h => by
    have hw : c ∉ w := h w (by simp)
    have hix : Lib.index (Lib.join (w :: x :: ws) [c]) [c] = w.length := by rw [join_cons2]; exact index_at (sep := []) hw
    rw [show (w :: x :: ws).length - 1 = (x :: ws).length - 1 + 1 by simp, Lib.splitK, if_neg (by rw [hix]; simp), hix]
    have ht : ((w.length : Nat) : Int).toNat = w.length := rfl
    rw [ht, join_cons2, Nat.add_zero, List.take_left, show (w ++ ([c] ++ Lib.join (x :: ws) [c])).drop (w.length + [c].length) = Lib.join (x :: ws) [c] by rw [← List.append_assoc, ← List.length_append, List.drop_left]]
    rw [join_split (ws := x :: ws) (by simp) (fun y hy => h y (by simp at hy ⊢; exact .inr hy))]
theorem cut_at {p q sep : List UInt8} {c : UInt8} (h : c ∉ p) : Lib.cut (p ++ ((c :: sep) ++ q)) (c :: sep) = (p, q, true) := by
  unfold Lib.cut
  rw [index_at h, if_pos (by omega)]
  have ht : ((p.length : Nat) : Int).toNat = p.length := rfl
  rw [ht, List.take_left, ← List.append_assoc, ← List.length_append, List.drop_left]
/-- words, joined by blanks -/
def joinS (ws : List ByteArray) : ByteArray := bs (Lib.join (ws.map (·.data.toList)) [32])
def noBlank (x : ByteArray) : Prop := (32 : UInt8) ∉ x.data.toList
theorem splitS {ws : List ByteArray} (h0 : ws ≠ []) (h : ∀ x ∈ ws, noBlank x) : Lib.countB (joinS ws) (bs [32]) + 1 = ws.length ∧ Lib.splitB (bs [32]) 0 (Lib.countB (joinS ws) (bs [32])) (joinS ws) = ws := by
  have hm : ws.map (·.data.toList) ≠ [] := by simpa using h0
  have hw : ∀ w ∈ ws.map (·.data.toList), (32 : UInt8) ∉ w := fun w hw => by
    obtain ⟨x, hx, rfl⟩ := List.mem_map.1 hw
    exact h x hx
  have e1 : Lib.countB (joinS ws) (bs [32]) = (Lib.join (ws.map (·.data.toList)) [32]).count 32 := Lib.count_one 32 _
  have e2 := join_count hm hw
  rw [List.length_map] at e2
  refine ⟨by rw [e1, e2], ?_⟩
  have inj : ∀ {l l' : List ByteArray}, l.map (·.data.toList) = l'.map (·.data.toList) → l = l' := by
    intro l
    induction l with
    | nil => intro l' h; cases l' with
             | nil => rfl
             | cons _ _ => simp at h
    | cons x l ih => intro l' h; cases l' with
                     | nil => simp at h
                     | cons y l' => simp only [List.map_cons, List.cons.injEq] at h; rw [bs_ext h.1, ih h.2]
  apply inj
  rw [Lib.splitB_data, e1, show (Lib.join (ws.map (·.data.toList)) [32]).count 32 = (ws.map (·.data.toList)).length - 1 by rw [List.length_map]; omega]
  exact join_split hm hw
/-- a bound, as a word -/
def bdS (b : Bd) : ByteArray := if b.u = true then bs [63] else (bs (Lib.itoa b.lo) ++ bs [46, 46]) ++ bs (Lib.itoa b.hi)
theorem bdS_some {b : Bd} (h : b.u = false) : bdS b = bs (Lib.itoa b.lo ++ ([46, 46] ++ Lib.itoa b.hi)) := by
  rw [bdS, if_neg (by simp [h]), bs_append, bs_append, List.append_assoc]
theorem itoa_not {n : Int} {c : UInt8} (h : c.toNat ≠ 45) (h' : c.toNat < 48 ∨ 57 < c.toNat) : c ∉ Lib.itoa n := fun hc => by
  rcases itoa_range n c hc with h1 | h1 <;> omega
theorem itoa_blank (n : Int) : noBlank (bs (Lib.itoa n)) := itoa_not (by decide) (by decide)
theorem bdS_blank (b : Bd) : noBlank (bdS b) := by
  cases h : b.u with
  | true => rw [bdS, if_pos h]; unfold noBlank; decide
  | false =>
    rw [bdS_some h]
    unfold noBlank
    simp only [List.mem_append, not_or]
    exact ⟨itoa_not (by decide) (by decide), by decide, itoa_not (by decide) (by decide)⟩
def kindNames : List ByteArray := []
end Mb
