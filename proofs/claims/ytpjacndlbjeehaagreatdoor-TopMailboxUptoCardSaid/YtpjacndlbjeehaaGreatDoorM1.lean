/-
  Alerts: what the checks tell; numbers as bytes. No program here.
-/
import Derived.Test.YtpjacndlbjeehaaGreatDoorPx9
set_option linter.unusedVariables false
set_option linter.unusedSimpArgs false
namespace Mb
open Go Go.Px
structure Bd where
  lo : Int
  hi : Int
  u : Bool
  deriving DecidableEq
structure Al where
  id : Int
  kind : Int
  object : Int
  at_ : Bd
  ra : Bd
  dec : Bd
  flux : Bd
  of_ : Int
def Bd.cells (b : Bd) : List Value := [.int .i64 b.lo, .int .i64 b.hi, .bool b.u]
abbrev Al.cells (a : Al) : List Value := [.int .i64 a.id, .int .i64 a.kind, .int .i64 a.object, .int .i64 a.at_.lo, .int .i64 a.at_.hi, .bool a.at_.u, .int .i64 a.ra.lo, .int .i64 a.ra.hi, .bool a.ra.u, .int .i64 a.dec.lo, .int .i64 a.dec.hi, .bool a.dec.u, .int .i64 a.flux.lo, .int .i64 a.flux.hi, .bool a.flux.u, .int .i64 a.of_]
def bdErr (b : Bd) : Int :=
  if (b.u && (!decide (b.lo = 0) || !decide (b.hi = 0))) = true then 3
  else if (decide (min b.lo b.hi < -1152921504606846976) || decide (1152921504606846976 < max b.lo b.hi)) = true then 4
  else if decide (b.hi < b.lo) = true then 11 else 0
/-- a bound that is one -/
structure BdOK (b : Bd) : Prop where
  u : b.u = true → b.lo = 0 ∧ b.hi = 0
  lo : -1152921504606846976 ≤ b.lo
  hi : b.hi ≤ 1152921504606846976
  le : b.lo ≤ b.hi
theorem bdErr_zero {b : Bd} : bdErr b = 0 ↔ BdOK b := by
  unfold bdErr
  by_cases h1 : (b.u && (!decide (b.lo = 0) || !decide (b.hi = 0))) = true
  · rw [if_pos h1]
    simp only [Bool.and_eq_true, Bool.or_eq_true, Bool.not_eq_true', decide_eq_false_iff_not] at h1
    constructor
    · intro h; simp at h
    · rintro ⟨h, _⟩; have := h h1.1; omega
  · rw [if_neg h1]
    simp only [Bool.and_eq_true, Bool.or_eq_true, Bool.not_eq_true', decide_eq_false_iff_not, not_and, not_or, Classical.not_not] at h1
    by_cases h2 : (decide (min b.lo b.hi < -1152921504606846976) || decide (1152921504606846976 < max b.lo b.hi)) = true
    · rw [if_pos h2]
      simp only [Bool.or_eq_true, decide_eq_true_eq] at h2
      constructor
      · intro h; simp at h
      · rintro ⟨_, _, _, _⟩; omega
    · rw [if_neg h2]
      simp only [Bool.or_eq_true, decide_eq_true_eq] at h2
      by_cases h3 : decide (b.hi < b.lo) = true
      · rw [if_pos h3]
        simp only [decide_eq_true_eq] at h3
        constructor
        · intro h; simp at h
        · rintro ⟨_, _, _, _⟩; omega
      · rw [if_neg h3]
        simp only [decide_eq_true_eq] at h3
        exact ⟨fun _ => ⟨h1, by omega, by omega, by omega⟩, fun _ => rfl⟩
/-- an alert that is one -/
structure AlOK (a : Al) : Prop where
  id1 : 1 ≤ a.id
  id2 : a.id ≤ 2147483647
  ob1 : 0 ≤ a.object
  ob2 : a.object ≤ 2147483647
  of1 : 0 ≤ a.of_
  of2 : a.of_ ≤ 2147483647
  k1 : 1 ≤ a.kind
  k2 : a.kind ≤ 6
  at_ : BdOK a.at_
  ra : BdOK a.ra
  dec : BdOK a.dec
  flux : BdOK a.flux
  at1 : -17592186044416 ≤ a.at_.lo
  at2 : a.at_.hi ≤ 17592186044416
  d1 : -1073741824 ≤ a.dec.lo
  d2 : a.dec.hi ≤ 1073741824
  r1 : 0 ≤ a.ra.lo
  r2 : a.ra.lo < 4294967296
  r3 : a.ra.hi - a.ra.lo < 4294967296
  nr : a.kind ≠ 6 → a.of_ = 0
  rt : a.kind = 6 → a.of_ ≠ 0 ∧ a.of_ ≠ a.id ∧ a.object = 0 ∧ a.ra = ⟨0, 0, false⟩ ∧ a.dec = ⟨0, 0, false⟩ ∧ a.flux = ⟨0, 0, false⟩
/-! ### numbers as bytes, seven bits each, the lower ones first -/
def numB (n : Nat) : List Nat := if h : n < 128 then [n] else (n % 128 + 128) :: numB (n / 128)
termination_by n
decreasing_by omega
theorem numB_small {n : Nat} (h : n < 128) : numB n = [n] := by rw [numB, dif_pos h]
theorem numB_big {n : Nat} (h : ¬ n < 128) : numB n = (n % 128 + 128) :: numB (n / 128) := by rw [numB, dif_neg h]
theorem numB_ne (n : Nat) : numB n ≠ [] := by
  by_cases h : n < 128
  · rw [numB_small h]; simp
  · rw [numB_big h]; simp
theorem numB_lt : ∀ (n : Nat), ∀ x ∈ numB n, x < 256 := by
  intro n
  induction n using Nat.strongRecOn with
  | ind n ih =>
    intro x hx
    by_cases h : n < 128
    · rw [numB_small h] at hx; simp at hx; omega
    · rw [numB_big h] at hx
      rcases List.mem_cons.1 hx with rfl | hx
      · omega
      · exact ih (n / 128) (by omega) x hx
theorem numB_len : ∀ (k n : Nat), n < 128 ^ (k + 1) → (numB n).length ≤ k + 1
  | 0, n, h => by rw [numB_small (by simpa using h)]; simp
  | k + 1, n, h => by
    by_cases h1 : n < 128
    · rw [numB_small h1]; simp
    · rw [numB_big h1, List.length_cons]
      have := numB_len k (n / 128) (by rw [Nat.pow_succ] at h; omega)
      omega
/-- zigzag: signed numbers as natural ones -/
def zig (x : Int) : Nat := if 0 ≤ x then (2 * x).toNat else (-2 * x - 1).toNat
theorem zig_half (x : Int) : ((zig x : Nat) : Int) / 2 = if 0 ≤ x then x else -x - 1 := by
  unfold zig; split <;> omega
theorem zig_odd (x : Int) : ((zig x : Nat) : Int) % 2 = if 0 ≤ x then 0 else 1 := by
  unfold zig; split <;> omega
def endsB (b : Bd) : List Nat := if b.u = true then [] else numB (zig b.lo) ++ numB (b.hi - b.lo).toNat
def flagsOf (a : Al) : Nat := (if a.at_.u then 1 else 0) + (if a.ra.u then 2 else 0) + (if a.dec.u then 4 else 0) + (if a.flux.u then 8 else 0)
/-- an alert as bytes, but for the checksum -/
def bodyB (a : Al) : List Nat := 165 :: (a.kind.toNat + 16 * flagsOf a) :: (numB a.id.toNat ++ (endsB a.at_ ++ (if a.kind = 6 then numB a.of_.toNat else numB a.object.toNat ++ (endsB a.ra ++ (endsB a.dec ++ endsB a.flux)))))
/-! ### an inbox: what is valid depends on what was taken, not on the order -/
structure Ev where
  id : Int
  of_ : Option Int
/-- valid and gone ones -/
def take (s : List Int × List Int) (e : Ev) : List Int × List Int :=
  match e.of_ with
  | some o => (s.1.filter (· ≠ o), o :: s.2)
  | none => if e.id ∈ s.1 ∨ e.id ∈ s.2 then s else (s.1 ++ [e.id], s.2)
def takes (l : List Ev) : List Int × List Int := l.foldl take ([], [])
theorem mem_snoc {l : List Ev} {e f : Ev} : f ∈ l ++ [e] ↔ f ∈ l ∨ f = e := by simp
theorem takes_snoc (l : List Ev) (e : Ev) : takes (l ++ [e]) = take (takes l) e := by simp [takes, List.foldl_append]
theorem rev_ind {α : Type} {P : List α → Prop} (h0 : P []) (h1 : ∀ l x, P l → P (l ++ [x])) (l : List α) : P l := by
  rw [← List.reverse_reverse l]
  induction l.reverse with
  | nil => exact h0
  | cons x l ih => rw [List.reverse_cons]; exact h1 _ _ ih
theorem takes_gone (l : List Ev) (x : Int) : x ∈ (takes l).2 ↔ ∃ e ∈ l, e.of_ = some x := by
  refine rev_ind (P := fun l => x ∈ (takes l).2 ↔ ∃ e ∈ l, e.of_ = some x) ?_ (fun l e ih => ?_) l
  · simp [takes]
  rw [takes_snoc]
  unfold take
  cases he : e.of_ with
  | some o =>
    simp only [List.mem_cons, ih, mem_snoc]
    constructor
    · rintro (rfl | ⟨f, hf, hx⟩)
      · exact ⟨e, .inr rfl, he⟩
      · exact ⟨f, .inl hf, hx⟩
    · rintro ⟨f, hf | rfl, hx⟩
      · exact .inr ⟨f, hf, hx⟩
      · rw [he] at hx; exact .inl (Option.some.inj hx).symm
  | none =>
    have : ∀ s : List Int × List Int, (if e.id ∈ s.1 ∨ e.id ∈ s.2 then s else (s.1 ++ [e.id], s.2)).2 = s.2 := fun s => by split <;> rfl
    simp only [this, ih, mem_snoc]
    constructor
    · rintro ⟨f, hf, hx⟩; exact ⟨f, .inl hf, hx⟩
    · rintro ⟨f, hf | rfl, hx⟩
      · exact ⟨f, hf, hx⟩
      · rw [he] at hx; simp at hx
theorem takes_valid (l : List Ev) (x : Int) : x ∈ (takes l).1 ↔ (∃ e ∈ l, e.of_ = none ∧ e.id = x) ∧ ¬ ∃ e ∈ l, e.of_ = some x := by
  refine rev_ind (P := fun l => x ∈ (takes l).1 ↔ (∃ e ∈ l, e.of_ = none ∧ e.id = x) ∧ ¬ ∃ e ∈ l, e.of_ = some x) ?_ (fun l e ih => ?_) l
  · simp [takes]
  have hg := takes_gone l
  rw [takes_snoc]
  unfold take
  cases he : e.of_ with
  | some o =>
    simp only [List.mem_filter, ih, mem_snoc, decide_not, Bool.not_eq_true', decide_eq_false_iff_not]
    constructor
    · rintro ⟨⟨⟨f, hf, h1, h2⟩, h3⟩, h4⟩
      refine ⟨⟨f, .inl hf, h1, h2⟩, ?_⟩
      rintro ⟨g, hg | rfl, hx⟩
      · exact h3 ⟨g, hg, hx⟩
      · rw [he] at hx; exact h4 (Option.some.inj hx).symm
    · rintro ⟨⟨f, hf | rfl, h1, h2⟩, h3⟩
      · exact ⟨⟨⟨f, hf, h1, h2⟩, fun ⟨g, hg, hx⟩ => h3 ⟨g, .inl hg, hx⟩⟩, fun hxo => h3 ⟨e, .inr rfl, by rw [he, hxo]⟩⟩
      · rw [he] at h1; simp at h1
  | none =>
    have key : (∃ f, (f ∈ l ∨ f = e) ∧ f.of_ = some x) ↔ ∃ f ∈ l, f.of_ = some x := by
      constructor
      · rintro ⟨f, hf | rfl, hx⟩
        · exact ⟨f, hf, hx⟩
        · rw [he] at hx; simp at hx
      · rintro ⟨f, hf, hx⟩; exact ⟨f, .inl hf, hx⟩
    simp only [mem_snoc]
    rw [key]
    by_cases hin : e.id ∈ (takes l).1 ∨ e.id ∈ (takes l).2
    · rw [if_pos hin, ih]
      refine and_congr_left fun hno => ⟨fun ⟨f, hf, h⟩ => ⟨f, .inl hf, h⟩, ?_⟩
      rintro ⟨f, hf | rfl, h1, h2⟩
      · exact ⟨f, hf, h1, h2⟩
      · rcases hin with hin | hin
        · rw [h2] at hin; exact (ih.1 hin).1
        · rw [h2, hg] at hin; exact absurd hin hno
    · rw [if_neg hin]
      simp only [List.mem_append, List.mem_singleton, ih]
      constructor
      · rintro (⟨⟨f, hf, h⟩, h2⟩ | rfl)
        · exact ⟨⟨f, .inl hf, h⟩, h2⟩
        · exact ⟨⟨e, .inr rfl, he, rfl⟩, fun hx => hin (.inr ((hg _).2 hx))⟩
      · rintro ⟨⟨f, hf | rfl, h1, h2⟩, h3⟩
        · exact .inl ⟨⟨f, hf, h1, h2⟩, h3⟩
        · exact .inr h2.symm
theorem takes_same {l l' : List Ev} (h : ∀ e, e ∈ l ↔ e ∈ l') (x : Int) : x ∈ (takes l).1 ↔ x ∈ (takes l').1 := by
  rw [takes_valid, takes_valid]
  simp only [h]
theorem takes_nodup (l : List Ev) : (takes l).1.Nodup := by
  refine rev_ind (P := fun l => (takes l).1.Nodup) (by simp [takes]) (fun l e ih => ?_) l
  rw [takes_snoc]
  unfold take
  cases he : e.of_ with
  | some o => exact ih.filter _
  | none =>
    dsimp only
    by_cases hin : e.id ∈ (takes l).1 ∨ e.id ∈ (takes l).2
    · rw [if_pos hin]; exact ih
    · rw [if_neg hin, List.nodup_append]
      exact ⟨ih, by simp, fun a ha b hb => by simp at hb; subst hb; exact fun e' => hin (.inl (e' ▸ ha))⟩
end Mb
