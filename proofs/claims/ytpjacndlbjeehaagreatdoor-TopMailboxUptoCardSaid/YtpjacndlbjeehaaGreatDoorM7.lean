/-
  The words of an alert. No program here.
-/
import Derived.Test.YtpjacndlbjeehaaGreatDoorM6
set_option linter.unusedVariables false
set_option linter.unusedSimpArgs false
namespace Mb
open Go Go.Px
abbrev sC (x : ByteArray) : List Value := [.string x]
abbrev names : List ByteArray := [bs [97, 112, 112, 101, 97, 114, 101, 100], bs [98, 114, 105, 103, 104, 116, 101, 110, 101, 100], bs [102, 97, 100, 101, 100], bs [109, 111, 118, 101, 100], bs [118, 97, 110, 105, 115, 104, 101, 100], bs [114, 101, 116, 114, 97, 99, 116, 101, 100]]
def nameOf (k : Int) : ByteArray := names.getD (k.toNat - 1) ByteArray.empty
def numS (n : Int) : ByteArray := bs (Lib.itoa n)
def words6 (a : Al) : List ByteArray := [bs [97, 108, 101, 114, 116], numS a.id, nameOf a.kind, bs [97, 116], bdS a.at_, bs [111, 102], numS a.of_]
def wordsN (a : Al) : List ByteArray := [bs [97, 108, 101, 114, 116], numS a.id, nameOf a.kind, bs [97, 116], bdS a.at_, bs [111, 98, 106, 101, 99, 116], numS a.object, bs [114, 97], bdS a.ra, bs [100, 101, 99], bdS a.dec, bs [102, 108, 117, 120], bdS a.flux]
def alWords (a : Al) : List ByteArray := if a.kind = 6 then words6 a else wordsN a
def alText (a : Al) : ByteArray := joinS (alWords a)
theorem names_at {k : Int} (h1 : 1 ≤ k) (h2 : k ≤ 6) : names[k.toNat - 1]? = some (nameOf k) := by
  unfold nameOf
  have : k.toNat - 1 < 6 := by omega
  rw [List.getD_eq_getElem?_getD]
  cases hn : names[k.toNat - 1]? with
  | none => rw [List.getElem?_eq_none_iff] at hn; simp at hn; omega
  | some x => rfl
theorem names_idx {k : Int} (h1 : 1 ≤ k) (h2 : k ≤ 6) : Lib.idxOfS names (nameOf k) = k - 1 := by
  have : k = 1 ∨ k = 2 ∨ k = 3 ∨ k = 4 ∨ k = 5 ∨ k = 6 := by omega
  rcases this with rfl | rfl | rfl | rfl | rfl | rfl <;> decide +kernel
/-- a word that has no blank and is short -/
structure WordOK (x : ByteArray) : Prop where
  b : noBlank x
  l : x.data.toList.length ≤ 42
theorem wordLit {l : List UInt8} (h : l.length ≤ 42) (h' : (32 : UInt8) ∉ l) : WordOK (bs l) := ⟨h', h⟩
theorem wordNum {n : Int} (h0 : -9223372036854775808 ≤ n) (h1 : n ≤ 9223372036854775807) : WordOK (numS n) := ⟨itoa_blank n, by
  have := itoa_len n h0 h1
  show (Lib.itoa n).length ≤ 42
  omega⟩
theorem wordBd {b : Bd} (h : BdOK b) : WordOK (bdS b) := ⟨bdS_blank b, by
  have h1 := h.lo
  have h2 := h.hi
  have h3 := h.le
  cases hu : b.u with
  | true => rw [bdS, if_pos hu]; simp
  | false =>
    rw [bdS_some hu]
    show (Lib.itoa b.lo ++ ([46, 46] ++ Lib.itoa b.hi)).length ≤ 42
    have := itoa_len b.lo (by omega) (by omega)
    have := itoa_len b.hi (by omega) (by omega)
    simp only [List.length_append, List.length_cons, List.length_nil]
    omega⟩
theorem wordName {k : Int} (h1 : 1 ≤ k) (h2 : k ≤ 6) : WordOK (nameOf k) := by
  have : k = 1 ∨ k = 2 ∨ k = 3 ∨ k = 4 ∨ k = 5 ∨ k = 6 := by omega
  rcases this with rfl | rfl | rfl | rfl | rfl | rfl <;> exact ⟨by unfold noBlank; decide +kernel, by decide +kernel⟩
theorem words_ok {a : Al} (h : AlOK a) : ∀ x ∈ alWords a, WordOK x := by
  have i1 := h.id1
  have i2 := h.id2
  have i3 := h.ob1
  have i4 := h.ob2
  have i5 := h.of1
  have i6 := h.of2
  have e1 := wordNum (n := a.id) (by omega) (by omega)
  have e2 := wordNum (n := a.object) (by omega) (by omega)
  have e3 := wordNum (n := a.of_) (by omega) (by omega)
  have e4 := wordName h.k1 h.k2
  have b1 := wordBd h.at_
  have b2 := wordBd h.ra
  have b3 := wordBd h.dec
  have b4 := wordBd h.flux
  intro x hx
  unfold alWords at hx
  split at hx
  · simp only [words6, List.mem_cons, List.not_mem_nil, or_false] at hx
    rcases hx with rfl | rfl | rfl | rfl | rfl | rfl | rfl <;> first | assumption | exact wordLit (by decide) (by decide)
  · simp only [wordsN, List.mem_cons, List.not_mem_nil, or_false] at hx
    rcases hx with rfl | rfl | rfl | rfl | rfl | rfl | rfl | rfl | rfl | rfl | rfl | rfl | rfl <;> first | assumption | exact wordLit (by decide) (by decide)
theorem words_ne (a : Al) : alWords a ≠ [] := by
  unfold alWords words6 wordsN; split <;> simp
theorem words_len (a : Al) : (alWords a).length ≤ 13 := by
  unfold alWords words6 wordsN; split <;> simp
theorem join_len {c : UInt8} : ∀ {ws : List (List UInt8)}, (∀ w ∈ ws, w.length ≤ 42) → (Lib.join ws [c]).length ≤ 43 * ws.length
  | [], _ => by simp [Lib.join_nil]
  | [w], h => by rw [Lib.join_one]; have := h w (by simp); simp; omega
  | w :: x :: ws, h => by
    rw [join_cons2, List.length_append, List.length_append]
    have := h w (by simp)
    have := join_len (c := c) (ws := x :: ws) (fun y hy => h y (by simp at hy ⊢; exact .inr hy))
    simp at this ⊢
    omega
theorem text_len {a : Al} (h : AlOK a) : (Lib.join ((alWords a).map (·.data.toList)) [32]).length ≤ 1000 := by
  have := join_len (c := 32) (ws := (alWords a).map (·.data.toList)) (fun w hw => by
    obtain ⟨x, hx, rfl⟩ := List.mem_map.1 hw
    exact (words_ok h x hx).l)
  have := words_len a
  rw [List.length_map] at *
  omega
theorem text_size {a : Al} (h : AlOK a) : (alText a).size ≤ 1000 := by
  have := text_len h
  unfold alText joinS
  rw [bs_size]; exact this
end Mb
