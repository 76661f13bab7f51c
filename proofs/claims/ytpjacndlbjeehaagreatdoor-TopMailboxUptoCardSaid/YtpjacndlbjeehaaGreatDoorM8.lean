/-
  The law, with no program: two inboxes that take the same alerts, in whatever order and however often, hold the same.
-/
import Derived.Test.YtpjacndlbjeehaaGreatDoorMK
import Derived.Test.YtpjacndlbjeehaaGreatDoorM3
set_option linter.unusedVariables false
set_option linter.unusedSimpArgs false
namespace Mb
open Go Go.Px
/-- which alert is taken at round i: e: from behind; b: turned by so many -/
def sg (e : Bool) (L b i : Nat) : Nat := if e = true then L - 1 - (i + b) % L else (i + b) % L
theorem sg_lt {e : Bool} {L b i : Nat} (h : i < L) : sg e L b i < L := by
  have := Nat.mod_lt (i + b) (show 0 < L by omega)
  unfold sg; split <;> omega
theorem turn_surj {L b j : Nat} (hj : j < L) (hb : b < L) : ∃ i, i < L ∧ (i + b) % L = j := by
  by_cases h : b ≤ j
  · exact ⟨j - b, by omega, by rw [Nat.sub_add_cancel h, Nat.mod_eq_of_lt hj]⟩
  · refine ⟨j + L - b, by omega, ?_⟩
    rw [show j + L - b + b = j + L by omega, Nat.add_mod_right, Nat.mod_eq_of_lt hj]
theorem sg_surj {e : Bool} {L b j : Nat} (hj : j < L) (hb : b < L) : ∃ i, i < L ∧ sg e L b i = j := by
  unfold sg
  cases e with
  | false => obtain ⟨i, h1, h2⟩ := turn_surj hj hb; exact ⟨i, h1, by simpa using h2⟩
  | true => obtain ⟨i, h1, h2⟩ := turn_surj (j := L - 1 - j) (by omega) hb; exact ⟨i, h1, by simp only [if_true, h2]; omega⟩
theorem sgAdd {L k : Nat} {x : Int} (h : k < L) (hb0 : 0 ≤ x % (L : Int)) (hb1 : x % (L : Int) < L) (hL : L ≤ 1048576) : Value.int .i64 (IntKind.i64.wrap ((k : Int) + x % (L : Int))) = Value.int .i64 ((k + (x % (L : Int)).toNat : Nat) : Int) := by
  generalize x % (L : Int) = y at *
  rw [i64w]; congr 1; split <;> omega
theorem sgRem {L m : Nat} : Value.int .i64 (((m : Nat) : Int).tmod (L : Int)) = Value.int .i64 ((m % L : Nat) : Int) := by
  rw [Int.ofNat_tmod]
theorem sgSub1 {L : Nat} (h0 : 0 < L) (hL : L ≤ 1048576) : Value.int .i64 (IntKind.i64.wrap ((L : Int) - 1)) = Value.int .i64 ((L - 1 : Nat) : Int) := by
  rw [i64w]; congr 1; split <;> omega
theorem sgSub {L j : Nat} (h0 : j < L) (hL : L ≤ 1048576) : Value.int .i64 (IntKind.i64.wrap (((L - 1 : Nat) : Int) - (j : Int))) = Value.int .i64 ((L - 1 - j : Nat) : Int) := by
  rw [i64w]; congr 1; split <;> omega
def evA (fl : List Al) (i : Nat) : List Ev := (fl[i]?.map evOf).toList
theorem evA_at {fl : List Al} {i : Nat} {a : Al} (h : fl[i]? = some a) : evA fl i = [evOf a] := by simp [evA, h]
/-- what the second inbox takes, in order -/
def ev2 (fl : List Al) (e t : Bool) (b : Nat) : Nat → List Ev
  | 0 => []
  | k + 1 => ev2 fl e t b k ++ (evA fl (sg e fl.length b k) ++ (if t = true then evA fl k else []))
theorem mem_evA {fl : List Al} {i : Nat} {x : Ev} : x ∈ evA fl i ↔ ∃ a, fl[i]? = some a ∧ x = evOf a := by
  unfold evA
  cases fl[i]? with
  | none => simp
  | some a => simp
theorem mem_ev2 {fl : List Al} {e t : Bool} {b : Nat} (hb : b < fl.length) (x : Ev) : x ∈ fl.map evOf ↔ x ∈ ev2 fl e t b fl.length := by
  have h1 : ∀ k, x ∈ ev2 fl e t b k → x ∈ fl.map evOf := by
    intro k
    induction k with
    | zero => intro h; simp [ev2] at h
    | succ k ih =>
      intro h
      simp only [ev2, List.mem_append] at h
      have mm : ∀ i, x ∈ evA fl i → x ∈ fl.map evOf := fun i hi => by
        obtain ⟨a, ha, rfl⟩ := mem_evA.1 hi
        exact List.mem_map.2 ⟨a, List.mem_of_getElem? ha, rfl⟩
      rcases h with h | h | h
      · exact ih h
      · exact mm _ h
      · split at h
        · exact mm _ h
        · simp at h
  have h2 : ∀ i k, i < k → ∀ y, y ∈ evA fl (sg e fl.length b i) → y ∈ ev2 fl e t b k := by
    intro i k hik
    induction k with
    | zero => omega
    | succ k ih =>
      intro y hy
      simp only [ev2, List.mem_append]
      by_cases h : i = k
      · subst h; exact .inr (.inl hy)
      · exact .inl (ih (by omega) y hy)
  constructor
  · intro h
    obtain ⟨a, ha, rfl⟩ := List.mem_map.1 h
    obtain ⟨j, hj, ha'⟩ := List.getElem_of_mem ha
    obtain ⟨i, hi, hs⟩ := sg_surj (e := e) hj hb
    exact h2 i _ hi _ (mem_evA.2 ⟨a, by rw [hs, List.getElem?_eq_getElem hj, ha'], rfl⟩)
  · exact h1 _
theorem mem_ev2' {fl : List Al} {e t : Bool} {b : Nat} (hb : fl ≠ [] → b < fl.length) (x : Ev) : x ∈ fl.map evOf ↔ x ∈ ev2 fl e t b fl.length := by
  by_cases h : fl = []
  · subst h; simp [ev2]
  · exact mem_ev2 (hb h) x
theorem same_snoc {s : IB} {l : List Ev} {a : Al} (h : Same s (takes l)) : Same (takeI s a) (takes (l ++ [evOf a])) := by
  rw [takes_snoc]; exact take_same h a
theorem takeI_len (s : IB) (a : Al) : (takeI s a).1.1.length ≤ s.1.1.length + 1 := by
  unfold takeI
  split
  · have := List.length_filter_le (fun p : KB => decide (p.1 ≠ a.of_)) s.1.1
    show (delT s.1.1 a.of_).length ≤ _
    unfold delT; omega
  · split
    · omega
    · show (setT s.1.1 s.1.2 a.id).1.length ≤ _
      unfold setT; split <;> simp
theorem same_nil : Same ((([], 0), ([], 0)) : IB) (takes []) := ⟨by simp [takes], by simp [takes]⟩
/-- sorted lists of the same keys are one -/
theorem same_lists {s t : IB} {l1 l2 : List Ev} (hs : IBOK s) (ht : IBOK t) (h1 : Same s (takes l1)) (h2 : Same t (takes l2)) (hl : ∀ x, x ∈ l1 ↔ x ∈ l2) {xs ys : List Int}
    (p1 : xs.Pairwise (· ≤ ·)) (p2 : ys.Pairwise (· ≤ ·)) (q1 : xs.Perm (s.1.1.map (·.1))) (q2 : ys.Perm (t.1.1.map (·.1))) : xs = ys := by
  classical
  refine List.Perm.eq_of_pairwise (le := fun a b : Int => a ≤ b) (fun a b _ _ h3 h4 => by omega) p1 p2 (q1.trans (List.Perm.trans ?_ q2.symm))
  refine (List.perm_ext_iff_of_nodup hs.v.nk ht.v.nk).2 fun x => ?_
  rw [h1.v, h2.v, takes_same hl]
theorem take_snoc {fl : List Al} {k : Nat} {a : Al} (h : fl[k]? = some a) : (fl.take (k + 1)).map evOf = (fl.take k).map evOf ++ [evOf a] := by
  rw [List.take_add_one, h]; simp
theorem emod_of {x n : Int} (hn : 0 < n) : x % n = if x.tmod n < 0 then x.tmod n + n else x.tmod n := by
  have h1 := Int.emod_nonneg x (show n ≠ 0 by omega)
  have h2 := Int.emod_lt_of_pos x hn
  have h3 := Int.tmod_lt_of_pos x hn
  have h4 := Int.lt_tmod_of_pos x hn
  have h5 := Int.emod_emod_of_dvd x (Int.dvd_refl n)
  have h6 : (x.tmod n) % n = x % n := by
    have := Int.tmod_add_mul_tdiv x n
    have e : x.tmod n = x - n * x.tdiv n := by omega
    rw [e, Int.sub_mul_emod_self_left]
  split
  · rw [← h6, ← Int.add_emod_right (x.tmod n) n]; exact Int.emod_eq_of_lt (by omega) (by omega)
  · rw [← h6]; exact Int.emod_eq_of_lt (by omega) (by omega)
end Mb
