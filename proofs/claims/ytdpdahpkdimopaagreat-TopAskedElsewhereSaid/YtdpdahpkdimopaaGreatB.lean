/-
  Plain definitions and laws: rows, questions, indices, what they answer. No program here.
-/
import Derived.Test.YtdpdahpkdimopaaGreatA
/-
  Plain definitions for the law TopAskedElsewhere: rows, questions, what the checks tell. No program here.
-/
namespace Sg
structure Bd where
  lo : Int
  hi : Int
  u : Bool
structure Bx where
  x : Bd
  y : Bd
  z : Bd
structure Row where
  id : Int
  box : Bx
  flux : Bd
  when_ : Bd
  frames : List Int
  marks : Int
structure Cone where
  x : Int
  y : Int
  z : Int
  cos : Int
structure Ask where
  cones : List Cone
  from_ : Int
  to_ : Int
  least : Int
  ban : Int
def bdErr (b : Bd) : Int :=
  if (b.u && (!decide (b.lo = 0) || !decide (b.hi = 0))) = true then 3
  else if (decide (min b.lo b.hi < -1152921504606846976) || decide (1152921504606846976 < max b.lo b.hi)) = true then 4
  else if decide (b.hi < b.lo) = true then 11 else 0
def endsErr (b : Bd) (m : Int) : Int :=
  if (!decide (bdErr b = 0)) = true then bdErr b else if (decide (b.lo < -m) || decide (m < b.hi)) = true then 4 else 0
def orErr : List Int → Int
  | [] => 0
  | x :: l => if (!decide (x = 0)) = true then x else orErr l
def vecErr (x y z : Int) : Int :=
  if (decide (1048576 < max (max x y) z) || decide (min (min x y) z < -1048576)) = true then 4
  else if (decide (x = 0) && (decide (y = 0) && decide (z = 0))) = true then 8 else 0
def conesErr : List Cone → Int
  | [] => 0
  | c :: l => if (!decide (vecErr c.x c.y c.z = 0)) = true then vecErr c.x c.y c.z else if (decide (c.cos < 0) || decide (1073741824 < c.cos)) = true then 4 else conesErr l
def askErr (q : Ask) : Int :=
  if decide (4 < (q.cones.length : Int)) = true then 2
  else if (!decide (conesErr q.cones = 0)) = true then conesErr q.cones
  else if (decide (min q.from_ q.to_ < -17592186044416) || decide (17592186044416 < max q.from_ q.to_)) = true then 4
  else if decide (q.to_ < q.from_) = true then 11
  else if (decide (q.least < 0) || decide (1125899906842624 < q.least) || decide (q.ban < 0) || decide (3 < q.ban)) = true then 4 else 0
def framesErr : List Int → Int → Int
  | [], _ => 0
  | n :: l, prev => if (decide (n < 1) || decide (1048576 < n)) = true then 4 else if decide (n ≤ prev) = true then 11 else framesErr l n
def rowErr (r : Row) : Int :=
  if (decide (r.id < 1) || decide (2147483647 < r.id)) = true then 4
  else if (!decide (endsErr r.box.x 1073741824 = 0)) = true then endsErr r.box.x 1073741824
  else if (!decide (endsErr r.box.y 1073741824 = 0)) = true then endsErr r.box.y 1073741824
  else if (!decide (endsErr r.box.z 1073741824 = 0)) = true then endsErr r.box.z 1073741824
  else if (!decide (orErr [endsErr r.flux 1125899906842624, endsErr r.when_ 17592186044416] = 0)) = true then orErr [endsErr r.flux 1125899906842624, endsErr r.when_ 17592186044416]
  else if decide ((r.frames.length : Int) = 0) = true then 3
  else if decide (8 < (r.frames.length : Int)) = true then 2
  else if (!decide (framesErr r.frames 0 = 0)) = true then framesErr r.frames 0
  else if (decide (r.marks < 0) || decide (3 < r.marks)) = true then 4 else 0
def rowsErr1 : List Row → Option Int → Int
  | [], _ => 0
  | r :: l, prev => if (!decide (rowErr r = 0)) = true then rowErr r else if (match prev with | some p => decide (r.id ≤ p) | none => false) = true then 11 else rowsErr1 l (some r.id)
def rowsErr (l : List Row) : Int := if decide (200 < (l.length : Int)) = true then 2 else rowsErr1 l none
def between (b : Bd) (lo hi : Int) : Int :=
  if b.u = true then 1 else if (decide (b.hi < lo) || decide (hi < b.lo)) = true then 0 else if (decide (lo ≤ b.lo) && decide (b.hi ≤ hi)) = true then 2 else 1
def below (x n : Int) : Int := if decide (n < 1) = true then 0 else if decide (x.tmod n < 0) = true then x.tmod n + n else x.tmod n
def okB (b : Bd) : Bool := !(b.u || decide (b.hi < b.lo) || decide (b.lo < -1073741824) || decide (1073741824 < b.hi))
def okX (b : Bx) : Bool := okB b.x && okB b.y && okB b.z
def cmpI (a b : Int) : Int := if decide (a < b) = true then -1 else if decide (b < a) = true then 1 else 0
theorem orErr_step {xs : List Int} {k : Nat} {x : Int} (hx : xs[k]? = some x) : orErr (xs.drop k) = if (!decide (x = 0)) = true then x else orErr (xs.drop (k + 1)) := by
  obtain ⟨h, rfl⟩ := List.getElem?_eq_some_iff.1 hx
  rw [List.drop_eq_getElem_cons h, orErr]
theorem orErr_end {xs : List Int} {k : Nat} (h : xs.length ≤ k) : orErr (xs.drop k) = 0 := by rw [List.drop_of_length_le h, orErr]
end Sg
/-
  Arithmetic of wide numbers: what the model's operations on 64 bits come to. No program here.
-/
namespace Sg
open Go Go.Px
def hi64 (p : Int) : Int := p / 18446744073709551616
def lo64 (p : Int) : Int := p % 18446744073709551616
theorem u64w (x : Int) : IntKind.u64.wrap x = x % 18446744073709551616 := by
  simp [IntKind.wrap, IntKind.bits, IntKind.signed]
theorem i64w (x : Int) : IntKind.i64.wrap x = if x % 18446744073709551616 ≥ 9223372036854775808 then x % 18446744073709551616 - 18446744073709551616 else x % 18446744073709551616 := by
  simp [IntKind.wrap, IntKind.bits, IntKind.signed]
theorem ofInt_toNat {x : Int} (h0 : 0 ≤ x) (h1 : x < 18446744073709551616) : ((BitVec.ofInt 64 x).toNat : Int) = x := by
  simp [BitVec.toNat_ofInt]; omega
theorem com64 {x : Int} (h0 : 0 ≤ x) (h1 : x < 18446744073709551616) : IntKind.u64.wrap (BitVec.ofInt IntKind.u64.bits (if IntKind.u64.signed then -1 else IntKind.u64.max) ^^^ BitVec.ofInt IntKind.u64.bits x).toNat = 18446744073709551615 - x := by
  have e : (BitVec.ofInt 64 18446744073709551615 : BitVec 64) = BitVec.allOnes 64 := by decide +kernel
  have e2 : (BitVec.ofInt 64 18446744073709551615 ^^^ BitVec.ofInt 64 x : BitVec 64) = ~~~ (BitVec.ofInt 64 x) := by
    rw [e, BitVec.allOnes_xor]
  show IntKind.u64.wrap ((BitVec.ofInt 64 18446744073709551615 ^^^ BitVec.ofInt 64 x : BitVec 64).toNat : Int) = _
  rw [e2, u64w, BitVec.toNat_not]
  have := ofInt_toNat h0 h1
  omega
theorem band32 {x : Int} (h0 : 0 ≤ x) (h1 : x < 18446744073709551616) : IntKind.u64.wrap (BitVec.ofInt IntKind.u64.bits x &&& BitVec.ofInt IntKind.u64.bits 4294967295).toNat = x % 4294967296 := by
  rw [u64w]
  show ((BitVec.ofInt 64 x &&& BitVec.ofInt 64 4294967295).toNat : Int) % _ = _
  rw [BitVec.toNat_and]
  have h2 := ofInt_toNat h0 h1
  have e : (BitVec.ofInt 64 4294967295).toNat = 2 ^ 32 - 1 := by decide +kernel
  rw [e, Nat.and_two_pow_sub_one_eq_mod]
  omega
theorem shr_lit {x : Int} {k : Nat} : x.fdiv (2 ^ k) = x / 2 ^ k := Int.fdiv_eq_ediv_of_nonneg _ (Int.pow_nonneg (by decide))
theorem shr32 {x : Int} : x.fdiv (2 ^ (min (Int.toNat 32) IntKind.u64.bits)) = x / 4294967296 := by
  rw [show (2 : Int) ^ (min (Int.toNat 32) IntKind.u64.bits) = 4294967296 by decide +kernel]
  exact Int.fdiv_eq_ediv_of_nonneg _ (by decide)
/-- long multiplication -/
theorem mul64_pure {x0 x1 y0 y1 : Int} (hx0 : 0 ≤ x0) (hx0' : x0 < 4294967296) (hx1 : 0 ≤ x1) (hx1' : x1 < 4294967296) (hy0 : 0 ≤ y0) (hy0' : y0 < 4294967296) (hy1 : 0 ≤ y1) (hy1' : y1 < 4294967296) :
    x0 * y0 < 18446744073709551616 ∧ 0 ≤ x0 * y0 ∧ x1 * y0 + x0 * y0 / 4294967296 < 18446744073709551616 ∧ 0 ≤ x1 * y0 ∧
    (x1 * y0 + x0 * y0 / 4294967296) % 4294967296 + x0 * y1 < 18446744073709551616 ∧ 0 ≤ x0 * y1 ∧ 0 ≤ x1 * y1 ∧
    x1 * y1 + (x1 * y0 + x0 * y0 / 4294967296) / 4294967296 + ((x1 * y0 + x0 * y0 / 4294967296) % 4294967296 + x0 * y1) / 4294967296 = ((x1 * 4294967296 + x0) * (y1 * 4294967296 + y0)) / 18446744073709551616 ∧
    x1 * y1 + (x1 * y0 + x0 * y0 / 4294967296) / 4294967296 + ((x1 * y0 + x0 * y0 / 4294967296) % 4294967296 + x0 * y1) / 4294967296 < 18446744073709551616 := by
  have bound : ∀ a b : Int, 0 ≤ a → a < 4294967296 → 0 ≤ b → b < 4294967296 → 0 ≤ a * b ∧ a * b ≤ 18446744065119617025 := fun a b ha ha' hb hb' =>
    ⟨Int.mul_nonneg ha hb, by
      have h1 : a * b ≤ 4294967295 * b := Int.mul_le_mul_of_nonneg_right (by omega) hb
      omega⟩
  have a := bound x0 y0 hx0 hx0' hy0 hy0'
  have b := bound x1 y0 hx1 hx1' hy0 hy0'
  have c := bound x0 y1 hx0 hx0' hy1 hy1'
  have d := bound x1 y1 hx1 hx1' hy1 hy1'
  have e : (x1 * 4294967296 + x0) * (y1 * 4294967296 + y0) = x1 * y1 * 18446744073709551616 + (x1 * y0 + x0 * y1) * 4294967296 + x0 * y0 := by
    simp only [Int.add_mul, Int.mul_add]
    have e1 : x1 * 4294967296 * (y1 * 4294967296) = x1 * y1 * 18446744073709551616 := by
      rw [Int.mul_assoc, Int.mul_left_comm 4294967296 y1 4294967296, ← Int.mul_assoc]; rfl
    have e2 : x1 * 4294967296 * y0 = x1 * y0 * 4294967296 := by rw [Int.mul_right_comm]
    have e3 : x0 * (y1 * 4294967296) = x0 * y1 * 4294967296 := by rw [Int.mul_assoc]
    omega
  rw [e]
  generalize x0 * y0 = p at *
  generalize x1 * y0 = q at *
  generalize x0 * y1 = r at *
  generalize x1 * y1 = s at *
  omega
theorem natAbs_cases (a : Int) : (a < 0 ∧ (a.natAbs : Int) = -a) ∨ (0 ≤ a ∧ (a.natAbs : Int) = a) := by omega
theorem abs_mul' (a b : Int) : (a.natAbs : Int) * (b.natAbs : Int) = if (decide (a < 0)) = (decide (b < 0)) then a * b else -(a * b) := by
  rcases natAbs_cases a with ⟨ha, ea⟩ | ⟨ha, ea⟩ <;> rcases natAbs_cases b with ⟨hb, eb⟩ | ⟨hb, eb⟩ <;> rw [ea, eb]
  · rw [if_pos (by simp [ha, hb])]; exact Int.neg_mul_neg a b
  · rw [if_neg (by simp [ha]; omega)]; exact Int.neg_mul a b
  · rw [if_neg (by simp [hb]; omega)]; exact Int.mul_neg a b
  · rw [if_pos (by simp; omega)]
theorem mul_bound {a b m k : Int} (ha : -m ≤ a) (ha' : a ≤ m) (hb : -k ≤ b) (hb' : b ≤ k) (hm : 0 ≤ m) : -(m * k) ≤ a * b ∧ a * b ≤ m * k := by
  have h1 : (a.natAbs : Int) ≤ m := by omega
  have h2 : (b.natAbs : Int) ≤ k := by omega
  have h3 : (a.natAbs : Int) * (b.natAbs : Int) ≤ m * k := Int.mul_le_mul h1 h2 (by omega) hm
  have h4 := abs_mul' a b
  split at h4 <;> constructor <;> first | omega | (have : 0 ≤ (a.natAbs : Int) * (b.natAbs : Int) := Int.mul_nonneg (by omega) (by omega); omega)
theorem cmp_split (p q : Int) : orErr [cmpI (hi64 p) (hi64 q), cmpI (lo64 p) (lo64 q)] = cmpI p q := by
  have hp : p = hi64 p * 18446744073709551616 + lo64 p := by unfold hi64 lo64; omega
  have hq : q = hi64 q * 18446744073709551616 + lo64 q := by unfold hi64 lo64; omega
  have l1 : 0 ≤ lo64 p ∧ lo64 p < 18446744073709551616 := by unfold lo64; omega
  have l2 : 0 ≤ lo64 q ∧ lo64 q < 18446744073709551616 := by unfold lo64; omega
  generalize hi64 p = a at *
  generalize hi64 q = b at *
  generalize lo64 p = c at *
  generalize lo64 q = d at *
  simp only [orErr, cmpI, decide_eq_true_eq]
  by_cases h1 : a < b
  · rw [if_pos h1, if_pos (show p < q by omega)]; rfl
  · by_cases h2 : b < a
    · rw [if_neg h1, if_pos h2, if_neg (show ¬ p < q by omega), if_pos (show q < p by omega)]; rfl
    · rw [if_neg h1, if_neg h2]
      by_cases h3 : c < d
      · rw [if_pos h3, if_pos (show p < q by omega)]; rfl
      · by_cases h4 : d < c
        · rw [if_neg h3, if_pos h4, if_neg (show ¬ p < q by omega), if_pos (show q < p by omega)]; rfl
        · rw [if_neg h3, if_neg h4, if_neg (show ¬ p < q by omega), if_neg (show ¬ q < p by omega)]; rfl
/-- whole numbers that lie in a block of one's own -/
theorem locInts {A : List (World × List Nat)} {L : List Px.Loc} {w : World} {b : Nat} {xs : List Int} {t : TypeId} (hw : Cls A L w) (hL : Mem L (b, blk (xs.map (Value.int .i64)) t)) :
    ∀ (i : Nat) (x : Int), xs[i]? = some x → ∃ b' o, some (⟨b, 0, none⟩ : Addr) = some ⟨b', o, none⟩ ∧ w.cell? ⟨b', o + i, none⟩ = some (.int .i64 x) := fun i x hx =>
  ⟨b, 0, rfl, by rw [cell_blk (hw.loc _ hL.mem)]; simp [hx]⟩
end Sg
/-
  Square roots of whole numbers; a bit is set. No program here.
-/
namespace Sg
open Go Go.Px
def isqN : Nat → Nat
  | 0 => 0
  | n + 1 => if (isqN n + 1) * (isqN n + 1) ≤ n + 1 then isqN n + 1 else isqN n
theorem isqN_spec : ∀ n, isqN n * isqN n ≤ n ∧ n < (isqN n + 1) * (isqN n + 1)
  | 0 => by simp [isqN]
  | n + 1 => by
    obtain ⟨h1, h2⟩ := isqN_spec n
    simp only [isqN]
    split
    · rename_i h
      refine ⟨h, ?_⟩
      have : (isqN n + 1 + 1) * (isqN n + 1 + 1) = (isqN n + 1) * (isqN n + 1) + 2 * (isqN n + 1) + 1 := by
        simp only [Nat.add_mul, Nat.mul_add]; omega
      omega
    · omega
def isq (n : Int) : Int := (isqN n.toNat : Nat)
theorem isq_spec {n : Int} (h : 0 ≤ n) : 0 ≤ isq n ∧ isq n * isq n ≤ n ∧ n < (isq n + 1) * (isq n + 1) := by
  obtain ⟨m, rfl⟩ := Int.eq_ofNat_of_zero_le h
  obtain ⟨h1, h2⟩ := isqN_spec m
  simp only [isq, Int.toNat_natCast]
  refine ⟨by omega, ?_, ?_⟩
  · exact_mod_cast h1
  · exact_mod_cast h2
theorem sq_le {a b : Int} (ha : 0 ≤ a) (h : a ≤ b) : a * a ≤ b * b := Int.mul_le_mul h h ha (by omega)
theorem le_of_sq {a b : Int} (hb : 0 ≤ b) (h : a * a < (b + 1) * (b + 1)) : a ≤ b := by
  rcases Int.lt_or_le b a with hlt | hle
  · have := sq_le (a := b + 1) (b := a) (by omega) (by omega)
    omega
  · exact hle
theorem isq_unique {n r : Int} (h0 : 0 ≤ r) (h1 : r * r ≤ n) (h2 : n < (r + 1) * (r + 1)) : isq n = r := by
  have hn : 0 ≤ n := Int.le_trans (Int.mul_nonneg h0 h0) h1
  obtain ⟨g0, g1, g2⟩ := isq_spec hn
  have := le_of_sq h0 (a := isq n) (by omega)
  have := le_of_sq g0 (a := r) (by omega)
  omega
theorem isq_mono {m n : Int} (h0 : 0 ≤ m) (h : m ≤ n) : isq m ≤ isq n := by
  obtain ⟨g0, g1, g2⟩ := isq_spec h0
  obtain ⟨k0, k1, k2⟩ := isq_spec (show 0 ≤ n by omega)
  exact le_of_sq k0 (by omega)
def bitv (j : Nat) : Int := match j with | 0 => 0 | m + 1 => 2 ^ m
theorem two_pow_pos' (m : Nat) : (0 : Int) < 2 ^ m := Int.pow_pos (by decide)
/-- what holds at the head of the loop over the bits: j bits are left -/
def SqInv (N : Int) (x : Nat × Int) : Prop := x.1 ≤ 63 ∧ 0 ≤ x.2 ∧ (∃ q : Nat, x.2 = 2 ^ x.1 * (q : Int)) ∧ x.2 + 2 ^ x.1 ≤ 9223372036854775808 ∧ x.2 * x.2 ≤ N ∧ N < (x.2 + 2 ^ x.1) * (x.2 + 2 ^ x.1)
theorem toNat_of {x : Nat} (h : x < 18446744073709551616) : (BitVec.ofInt 64 (x : Int)).toNat = x := by
  have := ofInt_toNat (x := (x : Int)) (by omega) (by omega)
  omega
theorem or_nat {m q : Nat} (h : 2 ^ (m + 1) * q + 2 ^ (m + 1) ≤ 9223372036854775808) :
    IntKind.u64.wrap (BitVec.ofInt IntKind.u64.bits ((2 ^ (m + 1) * q : Nat) : Int) ||| BitVec.ofInt IntKind.u64.bits ((2 ^ m : Nat) : Int)).toNat = ((2 ^ (m + 1) * q + 2 ^ m : Nat) : Int) := by
  have hm : (2 : Nat) ^ m < 2 ^ (m + 1) := Nat.pow_lt_pow_right (by decide) (by omega)
  have e0 := Nat.two_pow_add_eq_or_of_lt hm q
  generalize (2 : Nat) ^ (m + 1) * q = a at *
  generalize (2 : Nat) ^ (m + 1) = c at *
  generalize (2 : Nat) ^ m = b at *
  show IntKind.u64.wrap ((BitVec.ofInt 64 (a : Int) ||| BitVec.ofInt 64 (b : Int)).toNat : Int) = _
  rw [BitVec.toNat_or, toNat_of (by omega), toNat_of (by omega), ← e0, u64i (by omega) (by omega)]
theorem cast_pow (m : Nat) : ((2 ^ m : Nat) : Int) = 2 ^ m := by push_cast; rfl
theorem cast_mul (m q : Nat) : ((2 ^ m * q : Nat) : Int) = 2 ^ m * (q : Int) := by push_cast; rfl
theorem cast_add (m q : Nat) : ((2 ^ (m + 1) * q + 2 ^ m : Nat) : Int) = 2 ^ (m + 1) * (q : Int) + 2 ^ m := by push_cast; rfl
theorem or_bit {m q : Nat} (h : (2 : Int) ^ (m + 1) * (q : Int) + 2 ^ (m + 1) ≤ 9223372036854775808) :
    IntKind.u64.wrap (BitVec.ofInt IntKind.u64.bits (2 ^ (m + 1) * (q : Int)) ||| BitVec.ofInt IntKind.u64.bits (2 ^ m)).toNat = 2 ^ (m + 1) * (q : Int) + 2 ^ m := by
  have h' : 2 ^ (m + 1) * q + 2 ^ (m + 1) ≤ 9223372036854775808 := by
    rw [← cast_mul, ← cast_pow] at h
    omega
  have := or_nat h'
  rw [cast_add, cast_mul, cast_pow] at this
  exact this
theorem pow_double (m : Nat) : (2 : Int) ^ (m + 1) = 2 ^ m + 2 ^ m := by rw [Int.pow_succ]; omega
theorem sq_step_yes {N : Int} {m q : Nat} (h : SqInv N (m + 1, 2 ^ (m + 1) * (q : Int))) (hs : (2 ^ (m + 1) * (q : Int) + 2 ^ m) * (2 ^ (m + 1) * (q : Int) + 2 ^ m) ≤ N) : SqInv N (m, 2 ^ (m + 1) * (q : Int) + 2 ^ m) := by
  obtain ⟨h1, h2, h3, h4, h5, h6⟩ := h
  have e := pow_double m
  have hp := two_pow_pos' m
  have hq : (2 : Int) ^ (m + 1) * (q : Int) + 2 ^ m = 2 ^ m * ((2 * q + 1 : Nat) : Int) := by
    rw [e]; push_cast
    rw [Int.mul_add, Int.mul_one, Int.add_mul, Int.mul_left_comm, Int.two_mul]
  refine ⟨by simp only at h1 ⊢; omega, ?_, ⟨2 * q + 1, hq⟩, ?_, hs, ?_⟩
  · show 0 ≤ (2 : Int) ^ (m + 1) * (q : Int) + 2 ^ m
    have h2 : 0 ≤ (2 : Int) ^ (m + 1) * (q : Int) := h2
    generalize (2 : Int) ^ (m + 1) * (q : Int) = a at *
    generalize (2 : Int) ^ m = b at *
    omega
  · show (2 : Int) ^ (m + 1) * (q : Int) + 2 ^ m + 2 ^ m ≤ _
    have h4 : (2 : Int) ^ (m + 1) * (q : Int) + 2 ^ (m + 1) ≤ 9223372036854775808 := h4
    generalize (2 : Int) ^ (m + 1) * (q : Int) = a at *
    generalize (2 : Int) ^ (m + 1) = c at *
    generalize (2 : Int) ^ m = b at *
    omega
  · show N < ((2 : Int) ^ (m + 1) * (q : Int) + 2 ^ m + 2 ^ m) * ((2 : Int) ^ (m + 1) * (q : Int) + 2 ^ m + 2 ^ m)
    rw [Int.add_assoc, ← e]
    exact h6
theorem sq_step_no {N : Int} {m q : Nat} (h : SqInv N (m + 1, 2 ^ (m + 1) * (q : Int))) (hs : N < (2 ^ (m + 1) * (q : Int) + 2 ^ m) * (2 ^ (m + 1) * (q : Int) + 2 ^ m)) : SqInv N (m, 2 ^ (m + 1) * (q : Int)) := by
  obtain ⟨h1, h2, h3, h4, h5, h6⟩ := h
  have e := pow_double m
  have hp := two_pow_pos' m
  have hq : (2 : Int) ^ (m + 1) * (q : Int) = 2 ^ m * ((2 * q : Nat) : Int) := by
    rw [e]; push_cast
    rw [Int.add_mul, Int.mul_left_comm, Int.two_mul]
  refine ⟨by simp only at h1 ⊢; omega, h2, ⟨2 * q, hq⟩, ?_, h5, hs⟩
  show (2 : Int) ^ (m + 1) * (q : Int) + 2 ^ m ≤ _
  have h4 : (2 : Int) ^ (m + 1) * (q : Int) + 2 ^ (m + 1) ≤ 9223372036854775808 := h4
  generalize (2 : Int) ^ (m + 1) * (q : Int) = a at *
  generalize (2 : Int) ^ (m + 1) = c at *
  generalize (2 : Int) ^ m = b at *
  omega
theorem sq_rng {N : Int} {m q : Nat} (h : SqInv N (m + 1, 2 ^ (m + 1) * (q : Int))) : 0 ≤ (2 : Int) ^ (m + 1) * (q : Int) + 2 ^ m ∧ (2 : Int) ^ (m + 1) * (q : Int) + 2 ^ m < 18446744073709551616 := by
  obtain ⟨h1, h2, h3, h4, h5, h6⟩ := h
  have e := pow_double m
  have hp := two_pow_pos' m
  have h2 : 0 ≤ (2 : Int) ^ (m + 1) * (q : Int) := h2
  have h4 : (2 : Int) ^ (m + 1) * (q : Int) + 2 ^ (m + 1) ≤ 9223372036854775808 := h4
  generalize (2 : Int) ^ (m + 1) * (q : Int) = a at *
  generalize (2 : Int) ^ (m + 1) = c at *
  generalize (2 : Int) ^ m = b at *
  omega
theorem bitv_pos {j : Nat} (h : decide (0 < bitv j) = true) : ∃ m, j = m + 1 := by
  cases j with
  | zero => exact absurd (of_decide_eq_true h) (by decide)
  | succ m => exact ⟨m, rfl⟩
theorem bitv_zero {j : Nat} (h : decide (0 < bitv j) = false) : j = 0 := by
  cases j with
  | zero => rfl
  | succ m => exact absurd (two_pow_pos' m) (of_decide_eq_false h)
theorem sq_start {N : Int} (h0 : 0 ≤ N) (h1 : N ≤ 85070591730234615847396907784232501249) : SqInv N (63, 0) :=
  ⟨by decide, by decide, ⟨0, by decide⟩, by decide, h0, by
    have : ((0 : Int) + 2 ^ 63) * (0 + 2 ^ 63) = 85070591730234615865843651857942052864 := by decide
    show N < ((0 : Int) + 2 ^ 63) * (0 + 2 ^ 63)
    omega⟩
theorem sq_end {N r : Int} (h : SqInv N (0, r)) : isq N = r ∧ 0 ≤ r ∧ r ≤ 9223372036854775807 := by
  obtain ⟨h1, h2, h3, h4, h5, h6⟩ := h
  have h7 : r + 1 ≤ 9223372036854775808 := by simpa using h4
  exact ⟨isq_unique h2 h5 h6, h2, by omega⟩
theorem le_split (S N : Int) : (decide (hi64 S < hi64 N) || decide (hi64 S = hi64 N) && decide (lo64 S ≤ lo64 N)) = decide (S ≤ N) := by
  have hp : S = hi64 S * 18446744073709551616 + lo64 S := by unfold hi64 lo64; omega
  have hq : N = hi64 N * 18446744073709551616 + lo64 N := by unfold hi64 lo64; omega
  have l1 : 0 ≤ lo64 S ∧ lo64 S < 18446744073709551616 := by unfold lo64; omega
  have l2 : 0 ≤ lo64 N ∧ lo64 N < 18446744073709551616 := by unfold lo64; omega
  rw [Bool.eq_iff_iff]
  simp only [Bool.or_eq_true, Bool.and_eq_true, decide_eq_true_eq]
  omega
theorem bit_half (m : Nat) : ((2 : Int) ^ m).fdiv (2 ^ (min (Int.toNat 1) IntKind.u64.bits)) = bitv m := by
  rw [show (2 : Int) ^ (min (Int.toNat 1) IntKind.u64.bits) = 2 by decide +kernel, Int.fdiv_eq_ediv_of_nonneg _ (by decide)]
  cases m with
  | zero => rfl
  | succ m =>
    show (2 : Int) ^ (m + 1) / 2 = 2 ^ m
    rw [Int.pow_succ]; omega
end Sg
/-
  Near: products and squares of bounds; what the code tells. No program here.
-/
namespace Sg
open Go Go.Px
def pmin (a b : Bd) : Int := min (min (min (a.lo * b.lo) (a.lo * b.hi)) (a.hi * b.lo)) (a.hi * b.hi)
def pmax (a b : Bd) : Int := max (max (max (a.lo * b.lo) (a.lo * b.hi)) (a.hi * b.lo)) (a.hi * b.hi)
def sqlo (a : Bd) : Int := if (decide (0 < a.lo) || decide (a.hi < 0)) = true then min (a.lo * a.lo) (a.hi * a.hi) else 0
def sqhi (a : Bd) : Int := max (a.lo * a.lo) (a.hi * a.hi)
def least3 (a b : Bx) : Int := 0 + pmin a.x b.x + pmin a.y b.y + pmin a.z b.z
def most3 (a b : Bx) : Int := 0 + pmax a.x b.x + pmax a.y b.y + pmax a.z b.z
def low3 (a : Bx) : Int := 0 + sqlo a.x + sqlo a.y + sqlo a.z
def high3 (a : Bx) : Int := 0 + sqhi a.x + sqhi a.y + sqhi a.z
def root3 (a b : Bx) : Int := if decide (cmpI (isq (high3 a * high3 b) * isq (high3 a * high3 b)) (high3 a * high3 b) < 0) = true then isq (high3 a * high3 b) + 1 else isq (high3 a * high3 b)
def nearV (a b : Bx) (c : Int) : Int :=
  if (decide (c < 0) || decide (1073741824 < c)) = true then 0
  else if (!okX a || !okX b) = true then 1
  else if (decide (0 < low3 a) && decide (0 < low3 b) && decide (0 ≤ cmpI (least3 a b * 1073741824) (c * root3 a b))) = true then 2
  else if decide (cmpI (most3 a b * 1073741824) (c * isq (low3 a * low3 b)) < 0) = true then 0 else 1
theorem okB_iff {b : Bd} (h : okB b = true) : b.u = false ∧ b.lo ≤ b.hi ∧ -1073741824 ≤ b.lo ∧ b.hi ≤ 1073741824 := by
  simp only [okB, Bool.not_eq_true', Bool.or_eq_false_iff, decide_eq_false_iff_not] at h
  exact ⟨h.1.1.1, by omega, by omega, by omega⟩
theorem prod_in {a b : Int} (h1 : -1073741824 ≤ a) (h2 : a ≤ 1073741824) (h3 : -1073741824 ≤ b) (h4 : b ≤ 1073741824) : -1152921504606846976 ≤ a * b ∧ a * b ≤ 1152921504606846976 :=
  mul_bound (m := 1073741824) (k := 1073741824) h1 h2 h3 h4 (by decide)
structure PB (a b : Bd) : Prop where
  p1 : -1152921504606846976 ≤ a.lo * b.lo ∧ a.lo * b.lo ≤ 1152921504606846976
  p2 : -1152921504606846976 ≤ a.lo * b.hi ∧ a.lo * b.hi ≤ 1152921504606846976
  p3 : -1152921504606846976 ≤ a.hi * b.lo ∧ a.hi * b.lo ≤ 1152921504606846976
  p4 : -1152921504606846976 ≤ a.hi * b.hi ∧ a.hi * b.hi ≤ 1152921504606846976
theorem pb {a b : Bd} (ha : okB a = true) (hb : okB b = true) : PB a b := by
  obtain ⟨_, a1, a2, a3⟩ := okB_iff ha
  obtain ⟨_, b1, b2, b3⟩ := okB_iff hb
  exact ⟨prod_in (by omega) (by omega) (by omega) (by omega), prod_in (by omega) (by omega) (by omega) (by omega), prod_in (by omega) (by omega) (by omega) (by omega), prod_in (by omega) (by omega) (by omega) (by omega)⟩
theorem pm_in {a b : Bd} (ha : okB a = true) (hb : okB b = true) : -1152921504606846976 ≤ pmin a b ∧ pmin a b ≤ pmax a b ∧ pmax a b ≤ 1152921504606846976 := by
  obtain ⟨p1, p2, p3, p4⟩ := pb ha hb
  unfold pmin pmax
  omega
theorem sq_in {a : Bd} (ha : okB a = true) : 0 ≤ sqlo a ∧ sqlo a ≤ sqhi a ∧ sqhi a ≤ 1152921504606846976 := by
  obtain ⟨p1, p2, p3, p4⟩ := pb ha ha
  have h1 : 0 ≤ a.lo * a.lo := by rcases Int.lt_or_le a.lo 0 with h | h <;> first | exact Int.mul_nonneg h h | exact Int.mul_nonneg_of_nonpos_of_nonpos (by omega) (by omega)
  have h2 : 0 ≤ a.hi * a.hi := by rcases Int.lt_or_le a.hi 0 with h | h <;> first | exact Int.mul_nonneg h h | exact Int.mul_nonneg_of_nonpos_of_nonpos (by omega) (by omega)
  unfold sqlo sqhi
  split <;> omega
theorem isq_le {h k : Int} (h0 : 0 ≤ h) (k0 : 0 ≤ k) (h1 : h ≤ 3458764513820540928) (k1 : k ≤ 3458764513820540928) : 0 ≤ isq (h * k) ∧ isq (h * k) ≤ 3458764513820540928 := by
  have hn : 0 ≤ h * k := Int.mul_nonneg h0 k0
  obtain ⟨g0, g1, g2⟩ := isq_spec hn
  have : h * k ≤ 3458764513820540928 * 3458764513820540928 := Int.mul_le_mul h1 k1 k0 (by decide)
  exact ⟨g0, le_of_sq (by decide) (by omega)⟩
theorem okX_both {a b : Bx} (h : (!okX a || !okX b) = false) : ((okB a.x = true ∧ okB a.y = true) ∧ okB a.z = true) ∧ ((okB b.x = true ∧ okB b.y = true) ∧ okB b.z = true) := by
  simpa [okX, Bool.and_eq_true] using h
theorem near_a {a b : Bx} {c : Int} (h0 : (decide (c < 0) || decide (1073741824 < c)) = true) : nearV a b c = 0 := if_pos h0
theorem near_b {a b : Bx} {c : Int} (h0 : (decide (c < 0) || decide (1073741824 < c)) = false) (h1 : (!okX a || !okX b) = true) : nearV a b c = 1 := by unfold nearV; rw [h0, h1]; rfl
theorem near_c {a b : Bx} {c r : Int} (h0 : (decide (c < 0) || decide (1073741824 < c)) = false) (h1 : (!okX a || !okX b) = false) (hr : root3 a b = r)
    (h3 : (decide (0 < low3 a) && decide (0 < low3 b) && decide (0 ≤ cmpI (least3 a b * 1073741824) (c * r))) = true) : nearV a b c = 2 := by subst hr; unfold nearV; rw [h0, h1, h3]; rfl
theorem near_d {a b : Bx} {c r : Int} (h0 : (decide (c < 0) || decide (1073741824 < c)) = false) (h1 : (!okX a || !okX b) = false) (hr : root3 a b = r)
    (h3 : (decide (0 < low3 a) && decide (0 < low3 b) && decide (0 ≤ cmpI (least3 a b * 1073741824) (c * r))) = false)
    (h4 : decide (cmpI (most3 a b * 1073741824) (c * isq (low3 a * low3 b)) < 0) = true) : nearV a b c = 0 := by subst hr; unfold nearV; rw [h0, h1, h3, h4]; rfl
theorem near_e {a b : Bx} {c r : Int} (h0 : (decide (c < 0) || decide (1073741824 < c)) = false) (h1 : (!okX a || !okX b) = false) (hr : root3 a b = r)
    (h3 : (decide (0 < low3 a) && decide (0 < low3 b) && decide (0 ≤ cmpI (least3 a b * 1073741824) (c * r))) = false)
    (h4 : decide (cmpI (most3 a b * 1073741824) (c * isq (low3 a * low3 b)) < 0) = false) : nearV a b c = 1 := by subst hr; unfold nearV; rw [h0, h1, h3, h4]; rfl
def ptBx (x y z : Int) : Bx := ⟨⟨x, x, false⟩, ⟨y, y, false⟩, ⟨z, z, false⟩⟩
def bandI (a b : Int) : Int := IntKind.i64.wrap (BitVec.ofInt IntKind.i64.bits a &&& BitVec.ofInt IntKind.i64.bits b).toNat
def coneFold (b : Bx) : Int → List Cone → Int
  | g, [] => g
  | g, c :: l => coneFold b (min g (nearV b (ptBx c.x c.y c.z) c.cos)) l
def grade0 (r : Row) (q : Ask) : Int := if (!decide (bandI r.marks q.ban = 0)) = true then 0 else min (between r.when_ q.from_ q.to_) (between r.flux q.least 1125899906842624)
def gradeV (r : Row) (q : Ask) : Int := coneFold r.box (grade0 r q) q.cones
theorem coneFold_step {b : Bx} {g : Int} {l : List Cone} {k : Nat} {c : Cone} (hc : l[k]? = some c) : coneFold b g (l.drop k) = coneFold b (min g (nearV b (ptBx c.x c.y c.z) c.cos)) (l.drop (k + 1)) := by
  obtain ⟨h, rfl⟩ := List.getElem?_eq_some_iff.1 hc
  rw [List.drop_eq_getElem_cons h, coneFold]
theorem coneFold_end {b : Bx} {g : Int} {l : List Cone} {k : Nat} (h : l.length ≤ k) : coneFold b g (l.drop k) = g := by rw [List.drop_of_length_le h, coneFold]
def Bd.cells (b : Bd) : List Value := [.int .i64 b.lo, .int .i64 b.hi, .bool b.u]
def Bx.cells (b : Bx) : List Value := b.x.cells ++ b.y.cells ++ b.z.cells
def Cone.cells (c : Cone) : List Value := [.int .i64 c.x, .int .i64 c.y, .int .i64 c.z, .int .i64 c.cos]
end Sg
/-
  The checks of a question and of a row, step by step. No program here.
-/
namespace Sg
open Go Go.Px
theorem conesErr_step {l : List Cone} {k : Nat} {c : Cone} (hc : l[k]? = some c) : conesErr (l.drop k) = if (!decide (vecErr c.x c.y c.z = 0)) = true then vecErr c.x c.y c.z else if (decide (c.cos < 0) || decide (1073741824 < c.cos)) = true then 4 else conesErr (l.drop (k + 1)) := by
  obtain ⟨h, rfl⟩ := List.getElem?_eq_some_iff.1 hc
  rw [List.drop_eq_getElem_cons h, conesErr]
theorem conesErr_end {l : List Cone} {k : Nat} (h : l.length ≤ k) : conesErr (l.drop k) = 0 := by rw [List.drop_of_length_le h, conesErr]
theorem ask_cone {q : Ask} {e : Int} (h0 : decide (4 < (q.cones.length : Int)) = false) (hc : conesErr q.cones = e) (he : (!decide (e = 0)) = true) : askErr q = e := by subst hc; rw [askErr, h0, he]; rfl
theorem ask_rest {q : Ask} (h0 : decide (4 < (q.cones.length : Int)) = false) (hc : conesErr q.cones = 0) : askErr q = (if (decide (min q.from_ q.to_ < -17592186044416) || decide (17592186044416 < max q.from_ q.to_)) = true then 4
  else if decide (q.to_ < q.from_) = true then 11
  else if (decide (q.least < 0) || decide (1125899906842624 < q.least) || decide (q.ban < 0) || decide (3 < q.ban)) = true then 4 else 0) := by
  rw [askErr, if_neg (by rw [h0]; decide), if_neg (by rw [hc]; decide)]
theorem framesErr_step {l : List Int} {k : Nat} {c p : Int} (hc : l[k]? = some c) : framesErr (l.drop k) p = if (decide (c < 1) || decide (1048576 < c)) = true then 4 else if decide (c ≤ p) = true then 11 else framesErr (l.drop (k + 1)) c := by
  obtain ⟨h, rfl⟩ := List.getElem?_eq_some_iff.1 hc
  rw [List.drop_eq_getElem_cons h, framesErr]
theorem framesErr_end {l : List Int} {k : Nat} {p : Int} (h : l.length ≤ k) : framesErr (l.drop k) p = 0 := by rw [List.drop_of_length_le h, framesErr]
/-- what stood ahead of place k (0: nothing) -/
def prevOf (l : List Int) : Nat → Int
  | 0 => 0
  | k + 1 => l.getD k 0
theorem prevOf_succ {l : List Int} {k : Nat} {c : Int} (h : l[k]? = some c) : prevOf l (k + 1) = c := by simp [prevOf, h]
theorem frames_le {l : List Int} {k : Nat} {c p : Int} (hp : l[k - 1]? = some p) (hc : (decide (c < 1) || decide (1048576 < c)) = false) : (decide ((0 : Int) < (k : Int)) && decide (c ≤ p)) = decide (c ≤ prevOf l k) := by
  have h1 : ¬ c < 1 := by simp only [Bool.or_eq_false_iff, decide_eq_false_iff_not] at hc; exact hc.1
  cases k with
  | zero => show (decide ((0 : Int) < 0) && decide (c ≤ p)) = decide (c ≤ 0); rw [decide_eq_false (p := c ≤ 0) (by omega)]; rfl
  | succ k => rw [prevOf_succ (c := p) (by simpa using hp)]; simp
def rowTail (r : Row) : Int := if (decide (r.marks < 0) || decide (3 < r.marks)) = true then 4 else 0
structure RowHead (r : Row) : Prop where
  h0 : (decide (r.id < 1) || decide (2147483647 < r.id)) = false
  h1 : (!decide (endsErr r.box.x 1073741824 = 0)) = false
  h2 : (!decide (endsErr r.box.y 1073741824 = 0)) = false
  h3 : (!decide (endsErr r.box.z 1073741824 = 0)) = false
  h4 : (!decide (orErr [endsErr r.flux 1125899906842624, endsErr r.when_ 17592186044416] = 0)) = false
  h5 : decide ((r.frames.length : Int) = 0) = false
  h6 : decide (8 < (r.frames.length : Int)) = false
theorem RowHead.eq {r : Row} (h : RowHead r) : rowErr r = if (!decide (framesErr r.frames 0 = 0)) = true then framesErr r.frames 0 else rowTail r := by
  rw [rowErr, if_neg (ne_true_of_eq_false h.h0), if_neg (ne_true_of_eq_false h.h1), if_neg (ne_true_of_eq_false h.h2), if_neg (ne_true_of_eq_false h.h3), if_neg (ne_true_of_eq_false h.h4), if_neg (ne_true_of_eq_false h.h5), if_neg (ne_true_of_eq_false h.h6), rowTail]
theorem RowHead.err {r : Row} (h : RowHead r) {e : Int} (hf : framesErr r.frames 0 = e) (he : (!decide (e = 0)) = true) : rowErr r = e := by rw [h.eq, hf, if_pos he]
theorem RowHead.ok {r : Row} (h : RowHead r) (hf : framesErr r.frames 0 = 0) : rowErr r = rowTail r := by rw [h.eq, if_neg (by rw [hf]; decide)]
end Sg
/-
  Rows as they lie in memory; what Scan answers. No program here.
-/
namespace Sg
open Go Go.Px
structure MRow where
  row : Row
  fa : Option Addr
  fc : Nat
abbrev MRow.cells (m : MRow) : List Value := [.int .i64 m.row.id, .int .i64 m.row.box.x.lo, .int .i64 m.row.box.x.hi, .bool m.row.box.x.u, .int .i64 m.row.box.y.lo, .int .i64 m.row.box.y.hi, .bool m.row.box.y.u, .int .i64 m.row.box.z.lo, .int .i64 m.row.box.z.hi, .bool m.row.box.z.u, .int .i64 m.row.flux.lo, .int .i64 m.row.flux.hi, .bool m.row.flux.u, .int .i64 m.row.when_.lo, .int .i64 m.row.when_.hi, .bool m.row.when_.u, .slice m.fa m.row.frames.length m.fc, .int .i64 m.row.marks]
structure RowsAt (w : World) (a : Option Addr) (ms : List MRow) : Prop where
  els : Elts w a 18 (ms.map MRow.cells)
  fr : ∀ m ∈ ms, Ints w m.fa m.row.frames ∧ m.row.frames.length < 9223372036854775808
theorem RowsAt.gr {w w' : World} {a : Option Addr} {ms : List MRow} (h : RowsAt w a ms) (g : Gr w w') : RowsAt w' a ms := ⟨h.els.gr g, fun m hm => ⟨(h.fr m hm).1.gr g, (h.fr m hm).2⟩⟩
abbrev rowsOf (ms : List MRow) : List Row := ms.map (·.row)
theorem rowsErr1_step {l : List Row} {k : Nat} {r : Row} {p : Option Int} (hc : l[k]? = some r) : rowsErr1 (l.drop k) p = if (!decide (rowErr r = 0)) = true then rowErr r else if (match p with | some p => decide (r.id ≤ p) | none => false) = true then 11 else rowsErr1 (l.drop (k + 1)) (some r.id) := by
  obtain ⟨h, rfl⟩ := List.getElem?_eq_some_iff.1 hc
  rw [List.drop_eq_getElem_cons h]; cases p <;> rfl
theorem rowsErr1_end {l : List Row} {k : Nat} {p : Option Int} (h : l.length ≤ k) : rowsErr1 (l.drop k) p = 0 := by rw [List.drop_of_length_le h]; rfl
def prevR (ms : List MRow) : Nat → Option Int
  | 0 => none
  | k + 1 => (ms[k]?).map (·.row.id)
theorem prevR_succ {ms : List MRow} {k : Nat} {m : MRow} (h : ms[k]? = some m) : prevR ms (k + 1) = some m.row.id := by simp [prevR, h]
theorem rows_le {ms : List MRow} {k : Nat} {p : MRow} {i : Int} (hp : ms[k - 1]? = some p) : (decide ((0 : Int) < (k : Int)) && decide (i ≤ p.row.id)) = (match prevR ms k with | some p => decide (i ≤ p) | none => false) := by
  cases k with
  | zero => rfl
  | succ k => rw [prevR_succ (m := p) (by simpa using hp)]; simp
theorem rows_big {ms : List MRow} (h : decide (200 < (ms.length : Int)) = true) : rowsErr (rowsOf ms) = 2 := by unfold rowsErr; rw [if_pos (by simpa using h)]
theorem rows_small {ms : List MRow} (h : decide (200 < (ms.length : Int)) = false) : rowsErr (rowsOf ms) = rowsErr1 (rowsOf ms) none := by unfold rowsErr; rw [if_neg (by simpa using h)]
theorem rowsErr_len {l : List Row} (h : (!decide (rowsErr l = 0)) = false) : l.length ≤ 200 := by
  unfold rowsErr at h
  by_cases hl : decide (200 < (l.length : Int)) = true
  · rw [if_pos hl] at h; simp at h
  · simp at hl; omega
def ansOf (q : Ask) (r : Row) : Option (Int × Int) := if (!decide (gradeV r q = 0)) = true then some (r.id, gradeV r q) else none
def ansV (l : List Row) (q : Ask) : List (Int × Int) := l.filterMap (ansOf q)
abbrev ansCells (a : Int × Int) : List Value := [.int .i64 a.1, .int .i64 a.2]
theorem ansV_yes {ms : List MRow} {q : Ask} {k : Nat} {m : MRow} (h : ms[k]? = some m) (hg : (!decide (gradeV m.row q = 0)) = true) :
    (ansV (rowsOf (ms.take (k + 1))) q).map ansCells = (ansV (rowsOf (ms.take k)) q).map ansCells ++ [[.int .i64 m.row.id, .int .i64 (gradeV m.row q)]] := by
  rw [List.take_add_one, h]
  simp only [ansV, rowsOf, Option.toList_some, List.map_append, List.map_cons, List.map_nil, List.filterMap_append, List.filterMap_cons, List.filterMap_nil, ansOf, hg, if_true]
theorem ansV_no {ms : List MRow} {q : Ask} {k : Nat} {m : MRow} (h : ms[k]? = some m) (hg : (!decide (gradeV m.row q = 0)) = false) :
    (ansV (rowsOf (ms.take (k + 1))) q).map ansCells = (ansV (rowsOf (ms.take k)) q).map ansCells := by
  rw [List.take_add_one, h]
  simp [ansV, rowsOf, List.filterMap_append, ansOf, hg]
def scanErr (l : List Row) (q : Ask) : Int := if (!decide (rowsErr l = 0)) = true then rowsErr l else if (!decide (askErr q = 0)) = true then askErr q else 0
def scanV (l : List Row) (q : Ask) : List (Int × Int) := if (!decide (rowsErr l = 0)) = true then [] else if (!decide (askErr q = 0)) = true then [] else ansV l q
theorem ansV_len (l : List Row) (q : Ask) : (ansV l q).length ≤ l.length := List.length_filterMap_le _ _
theorem scan_a {l : List Row} {q : Ask} (h : (!decide (rowsErr l = 0)) = true) : scanErr l q = rowsErr l ∧ scanV l q = [] := ⟨if_pos h, if_pos h⟩
theorem scan_b {l : List Row} {q : Ask} (h : (!decide (rowsErr l = 0)) = false) (h2 : (!decide (askErr q = 0)) = true) : scanErr l q = askErr q ∧ scanV l q = [] := by
  unfold scanErr scanV; rw [h]; exact ⟨if_pos h2, if_pos h2⟩
theorem scan_c {l : List Row} {q : Ask} (h : (!decide (rowsErr l = 0)) = false) (h2 : (!decide (askErr q = 0)) = false) : scanErr l q = 0 ∧ scanV l q = ansV l q := by
  unfold scanErr scanV; rw [h, h2]; exact ⟨rfl, rfl⟩
end Sg
/-
  Copies of rows; the middle of a box; hulls. No program here.
-/
namespace Sg
open Go Go.Px
abbrev rowCells (r : Row) (fa : Option Addr) (fn fc : Nat) : List Value := [.int .i64 r.id, .int .i64 r.box.x.lo, .int .i64 r.box.x.hi, .bool r.box.x.u, .int .i64 r.box.y.lo, .int .i64 r.box.y.hi, .bool r.box.y.u, .int .i64 r.box.z.lo, .int .i64 r.box.z.hi, .bool r.box.z.u, .int .i64 r.flux.lo, .int .i64 r.flux.hi, .bool r.flux.u, .int .i64 r.when_.lo, .int .i64 r.when_.hi, .bool r.when_.u, .slice fa fn fc, .int .i64 r.marks]
/-- elements that are these rows, but for where their frames lie -/
def Like (es : List (List Value)) (l : List Row) : Prop := es.length = l.length ∧ ∀ (i : Nat) (r : Row), l[i]? = some r → ∃ fa fn fc, es[i]? = some (rowCells r fa fn fc)
theorem Like.of (ms : List MRow) : Like (ms.map MRow.cells) (rowsOf ms) := ⟨by simp [rowsOf], fun i r h => by
  simp only [rowsOf, List.getElem?_map, Option.map_eq_some_iff] at h ⊢
  obtain ⟨m, hm, rfl⟩ := h
  exact ⟨m.fa, m.row.frames.length, m.fc, m, hm, rfl⟩⟩
theorem Like.set {es : List (List Value)} {l : List Row} {k : Nat} {r : Row} {fa : Option Addr} {fn fc : Nat} (h : Like es l) (hr : l[k]? = some r) : Like (es.set k (rowCells r fa fn fc)) l := ⟨by simp [h.1], fun i r' hi => by
  by_cases hik : k = i
  · subst hik
    rw [hr] at hi; cases hi
    exact ⟨fa, fn, fc, by rw [List.getElem?_set_self (by rw [h.1]; exact (List.getElem?_eq_some_iff.1 hr).1)]⟩
  · rw [List.getElem?_set_ne hik]; exact h.2 i r' hi⟩
/-- the rest of the elements is as it was -/
def RestAt (es : List (List Value)) (ms : List MRow) (k : Nat) : Prop := ∀ (i : Nat) (m : MRow), k ≤ i → ms[i]? = some m → es[i]? = some m.cells
theorem RestAt.of (ms : List MRow) : RestAt (ms.map MRow.cells) ms 0 := fun i m _ h => by simp [h]
theorem RestAt.set {es : List (List Value)} {ms : List MRow} {k : Nat} {x : List Value} (h : RestAt es ms k) : RestAt (es.set k x) ms (k + 1) := fun i m hi hm => by rw [List.getElem?_set_ne (by omega)]; exact h i m (by omega) hm
end Sg
/-
  Turning a list round by exchanges. No program here.
-/
namespace Sg
open Go Go.Px
def RevP (cs l : List Cone) (k : Nat) : Prop := l.length = cs.length ∧ ∀ i : Nat, i < cs.length → l[i]? = if i < k ∨ cs.length - 1 - k < i then cs[cs.length - 1 - i]? else cs[i]?
theorem RevP.start (cs : List Cone) : RevP cs cs 0 := ⟨rfl, fun i hi => by rw [if_neg (by omega)]⟩
theorem RevP.step {cs l : List Cone} {k : Nat} {a b : Cone} (h : RevP cs l k) (hk : k < cs.length - 1 - k) (ha : l[k]? = some a) (hb : l[cs.length - 1 - k]? = some b) : RevP cs ((l.set k b).set (cs.length - 1 - k) a) (k + 1) := by
  refine ⟨by simp [h.1], fun i hi => ?_⟩
  have h1 := h.2 k (by omega)
  have h2 := h.2 (cs.length - 1 - k) (by omega)
  rw [if_neg (by omega), ha] at h1
  rw [if_neg (by omega), hb] at h2
  by_cases e1 : i = cs.length - 1 - k
  · subst e1
    rw [List.getElem?_set_self (by simp [h.1]; omega), if_pos (by omega), show cs.length - 1 - (cs.length - 1 - k) = k by omega, h1]
  · rw [List.getElem?_set_ne (by omega)]
    by_cases e2 : i = k
    · subst e2
      rw [List.getElem?_set_self (by rw [h.1]; omega), if_pos (by omega), h2]
    · rw [List.getElem?_set_ne (by omega), h.2 i hi]
      by_cases e3 : i < k ∨ cs.length - 1 - k < i
      · rw [if_pos e3, if_pos (by omega)]
      · rw [if_neg e3, if_neg (by omega)]
theorem RevP.done {cs l : List Cone} {k : Nat} (h : RevP cs l k) (hk : cs.length ≤ 2 * k + 1) (hk2 : 2 * k ≤ cs.length + 1) : l = cs.reverse := by
  apply List.ext_getElem?
  intro i
  by_cases hi : i < cs.length
  · rw [h.2 i hi, List.getElem?_reverse hi]
    split
    · rfl
    · congr 1; omega
  · rw [List.getElem?_eq_none (by rw [h.1]; omega), List.getElem?_eq_none (by simp; omega)]
end Sg
/-
  The middle of a box; hulls; directions. No program here.
-/
namespace Sg
open Go Go.Px
def hullB (a b : Bd) : Bd := ⟨min a.lo b.lo, max a.hi b.hi, false⟩
def hullX (a b : Bx) : Bx := ⟨hullB a.x b.x, hullB a.y b.y, hullB a.z b.z⟩
def halfB (b : Bd) : Int := b.lo + (b.hi - b.lo).tdiv 2
theorem halfB_in {b : Bd} (h : okB b = true) : -1073741824 ≤ halfB b ∧ halfB b ≤ 1073741824 := by
  obtain ⟨_, h1, h2, h3⟩ := okB_iff h
  unfold halfB
  rw [Int.tdiv_eq_ediv_of_nonneg (by omega)]
  omega
theorem tdiv2_in {x : Int} (h1 : -1073741824 ≤ x) (h2 : x ≤ 1073741824) : -1073741824 ≤ x.tdiv 2 ∧ x.tdiv 2 ≤ 1073741824 := by
  rcases Int.lt_or_le x 0 with h | h
  · have e : x.tdiv 2 = -((-x).tdiv 2) := by rw [Int.neg_tdiv, Int.neg_neg]
    rw [e, Int.tdiv_eq_ediv_of_nonneg (by omega)]; omega
  · rw [Int.tdiv_eq_ediv_of_nonneg h]; omega
theorem tdiv2_abs (x : Int) : (x.tdiv 2).natAbs = x.natAbs / 2 := by rw [Int.natAbs_tdiv]; rfl
theorem big3 {x y z : Int} (h : (decide (1048576 < max (max x y) z) || decide (min (min x y) z < -1048576)) = true) : x.natAbs / 2 + y.natAbs / 2 + z.natAbs / 2 < x.natAbs + y.natAbs + z.natAbs := by
  simp only [Bool.or_eq_true, decide_eq_true_eq] at h
  omega
theorem vecErr_zero {x y z : Int} (h : (decide (1048576 < max (max x y) z) || decide (min (min x y) z < -1048576)) = false) (h0 : (!(decide (x = 0) && (decide (y = 0) && (decide (z = 0) && true)))) = true) : vecErr x y z = 0 := by
  unfold vecErr; rw [h, if_neg (by simp), if_neg (by simp at h0 ⊢; omega)]
end Sg
/-
  Tiles of directions. No program here.
-/
namespace Sg
open Go Go.Px
theorem wrap_in (x : Int) : -9223372036854775808 ≤ IntKind.i64.wrap x ∧ IntKind.i64.wrap x ≤ 9223372036854775807 := by rw [i64w]; omega
def pick3 (x y z k : Int) : Int := if k = 0 then x else if k = 1 then y else z
theorem nth3 {x y z k : Int} (h0 : 0 ≤ k) (h1 : k ≤ 2) : Nth [Value.int .i64 x, .int .i64 y, .int .i64 z] (0 + k.toNat * 1) (.int .i64 (pick3 x y z k)) := by
  have : k = 0 ∨ k = 1 ∨ k = 2 := by omega
  rcases this with rfl | rfl | rfl
  · exact .z
  · exact .s .z
  · exact .s (.s .z)
def placeV (x m lv : Int) : Int := min (IntKind.i64.wrap ((IntKind.i64.wrap (IntKind.i64.wrap (x + m) * 2 ^ (min lv.toNat IntKind.i64.bits))).tdiv (IntKind.i64.wrap (2 * m)))) (IntKind.i64.wrap (IntKind.i64.wrap (1 * 2 ^ (min lv.toNat IntKind.i64.bits)) - 1))
/-- a direction that is one -/
structure DirOK (x y z : Int) : Prop where
  x1 : -1048576 ≤ x
  x2 : x ≤ 1048576
  y1 : -1048576 ≤ y
  y2 : y ≤ 1048576
  z1 : -1048576 ≤ z
  z2 : z ≤ 1048576
  nz : ¬ (x = 0 ∧ y = 0 ∧ z = 0)
theorem dir_ok {x y z : Int} (h : vecErr x y z = 0) : DirOK x y z := by
  unfold vecErr at h
  by_cases h1 : (decide (1048576 < max (max x y) z) || decide (min (min x y) z < -1048576)) = true
  · rw [if_pos h1] at h; simp at h
  · rw [if_neg h1] at h
    by_cases h2 : (decide (x = 0) && (decide (y = 0) && decide (z = 0))) = true
    · rw [if_pos h2] at h; simp at h
    · simp only [Bool.or_eq_true, decide_eq_true_eq, not_or] at h1
      simp only [Bool.and_eq_true, decide_eq_true_eq] at h2
      exact ⟨by omega, by omega, by omega, by omega, by omega, by omega, h2⟩
/-- a face of which the component is none of zero -/
def FaceOK (x y z f : Int) : Prop := ((f = 0 ∨ f = 1) ∧ x ≠ 0) ∨ ((f = 2 ∨ f = 3) ∧ y ≠ 0) ∨ ((f = 4 ∨ f = 5) ∧ z ≠ 0)
theorem FaceOK.rng {x y z f : Int} (h : FaceOK x y z f) : 0 ≤ f ∧ f ≤ 5 := by unfold FaceOK at h; omega
theorem FaceOK.pos {x y z f : Int} (h : FaceOK x y z f) (hd : DirOK x y z) : 1 ≤ max (pick3 x y z (f / 2)) (-(pick3 x y z (f / 2))) ∧ max (pick3 x y z (f / 2)) (-(pick3 x y z (f / 2))) ≤ 1048576 := by
  obtain ⟨h1, h2, h3, h4, h5, h6, _⟩ := hd
  unfold FaceOK at h
  rcases h with ⟨rfl | rfl, h⟩ | ⟨rfl | rfl, h⟩ | ⟨rfl | rfl, h⟩ <;> simp [pick3] <;> omega
theorem pick3_in {x y z k : Int} (hd : DirOK x y z) : -1048576 ≤ pick3 x y z k ∧ pick3 x y z k ≤ 1048576 := by
  obtain ⟨h1, h2, h3, h4, h5, h6, _⟩ := hd
  unfold pick3; split
  · omega
  · split <;> omega
end Sg
/-
  Nodes of an index, as they lie in memory. No program here.
-/
namespace Sg
open Go Go.Px
abbrev nodeL (b : Bx) (t : Bd) (kv rv : Value) : List Value := [.int .i64 b.x.lo, .int .i64 b.x.hi, .bool b.x.u, .int .i64 b.y.lo, .int .i64 b.y.hi, .bool b.y.u, .int .i64 b.z.lo, .int .i64 b.z.hi, .bool b.z.u, .int .i64 t.lo, .int .i64 t.hi, .bool t.u, kv, rv]
end Sg
/-
  The nodes of an index while it is built. No program here.
-/
namespace Sg
open Go Go.Px
inductive Nd where
  | mk (b : Nat) (box : Bx) (wh : Bd) (kv rv : Vec) (kids : List Nd) (rows : List Nat)
def Nd.b : Nd → Nat | .mk b _ _ _ _ _ _ => b
def Nd.box : Nd → Bx | .mk _ x _ _ _ _ _ => x
def Nd.wh : Nd → Bd | .mk _ _ w _ _ _ _ => w
mutual
/-- the blocks of a tree -/
def Nd.own : Nd → List Px.Loc
  | .mk b box wh kv rv kids _ => (b, blk (nodeL box wh kv.val rv.val) 87) :: (kv.own ++ (rv.own ++ kidsOwn kids))
def kidsOwn : List Nd → List Px.Loc
  | [] => []
  | k :: l => k.own ++ kidsOwn l
end
structure Nod where
  t : Int
  b : Nat
  box : Bx
  wh : Bd
  kv : Vec
  rv : Vec
  kids : List Nd
  rows : List Nat
def Nod.nd (n : Nod) : Nd := .mk n.b n.box n.wh n.kv n.rv n.kids n.rows
abbrev Nod.own (n : Nod) : List Px.Loc := (n.b, blk (nodeL n.box n.wh n.kv.val n.rv.val) 87) :: (n.kv.own ++ (n.rv.own ++ kidsOwn n.kids))
theorem Nod.own_nd (n : Nod) : n.nd.own = n.own := by simp [Nod.nd, Nd.own]
def nodsOwn : List Nod → List Px.Loc
  | [] => []
  | n :: l => n.own ++ nodsOwn l
theorem nodsOwn_app : ∀ (l1 l2 : List Nod), nodsOwn (l1 ++ l2) = nodsOwn l1 ++ nodsOwn l2
  | [], l2 => rfl
  | n :: l1, l2 => by simp only [List.cons_append, nodsOwn, nodsOwn_app l1 l2, List.append_assoc]
def kvsOf (ns : List Nod) : List (Int × Nat) := ns.map fun n => (n.t, n.b)
abbrev idx (i : Nat) : List Value := [.int .i64 (i : Int)]
structure Nod.OK (n : Nod) : Prop where
  kv : VecOK 1 84 n.kv
  ke : n.kv.es = n.kids.map fun k => [ptrV k.b]
  rv : VecOK 1 3 n.rv
  re : n.rv.es = n.rows.map idx
  t1 : -9223372036854775808 ≤ n.t
  t2 : n.t ≤ 9223372036854775807
theorem nods_take0 (n : Nod) (l1 l2 : List Nod) (q : List Px.Loc) : (nodsOwn (l1 ++ n :: l2) ++ q).Perm (n.own ++ (nodsOwn l1 ++ (nodsOwn l2 ++ q))) := by
  rw [nodsOwn_app]
  simp only [nodsOwn]
  have h1 : (nodsOwn l1 ++ (n.own ++ nodsOwn l2)).Perm (n.own ++ (nodsOwn l1 ++ nodsOwn l2)) := by
    simp only [← List.append_assoc]
    exact List.Perm.append_right _ List.perm_append_comm
  have := h1.append_right q
  simpa only [List.append_assoc] using this
/-- one node comes to the front, its rows first -/
theorem nods_take (n : Nod) (l1 l2 : List Nod) (q : List Px.Loc) : (nodsOwn (l1 ++ n :: l2) ++ q).Perm ((n.b, blk (nodeL n.box n.wh n.kv.val n.rv.val) 87) :: (n.rv.own ++ (n.kv.own ++ (kidsOwn n.kids ++ (nodsOwn l1 ++ (nodsOwn l2 ++ q)))))) := by
  refine (nods_take0 n l1 l2 q).trans ?_
  simp only [Nod.own, List.cons_append, List.append_assoc]
  refine List.Perm.cons _ ?_
  rw [← List.append_assoc n.kv.own, ← List.append_assoc n.rv.own n.kv.own]
  exact List.perm_append_comm.append_right _
theorem kvsOf_upd {l1 l2 : List Nod} {n n' : Nod} (ht : n'.t = n.t) (hb : n'.b = n.b) : kvsOf (l1 ++ n' :: l2) = kvsOf (l1 ++ n :: l2) := by simp [kvsOf, ht, hb]
theorem kvs_split {ns : List Nod} {p : Int × Nat} {q1 q2 : List (Int × Nat)} (h : kvsOf ns = q1 ++ p :: q2) : ∃ l1 n l2, ns = l1 ++ n :: l2 ∧ p = (n.t, n.b) := by
  unfold kvsOf at h
  obtain ⟨l1, r, h1, _, h3⟩ := List.map_eq_append_iff.1 h
  obtain ⟨n, l2, h4, h5, _⟩ := List.map_eq_cons_iff.1 h3
  exact ⟨l1, n, l2, by rw [h1, h4], h5.symm⟩
theorem put_node {A : List (World × List Nat)} {mb ib : Nat} {oI : Obj} {w : World} {l1 l2 : List Nod} {n n' : Nod} {q : List Px.Loc} (ht : n'.t = n.t) (hb : n'.b = n.b)
    (h : Cls A ((mb, mObj (kvsOf (l1 ++ n :: l2))) :: (ib, oI) :: (n'.b, blk (nodeL n'.box n'.wh n'.kv.val n'.rv.val) 87) :: (n'.rv.own ++ (n'.kv.own ++ (kidsOwn n'.kids ++ (nodsOwn l1 ++ (nodsOwn l2 ++ q)))))) w) :
    Cls A ((mb, mObj (kvsOf (l1 ++ n' :: l2))) :: (ib, oI) :: (nodsOwn (l1 ++ n' :: l2) ++ q)) w := by
  rw [kvsOf_upd ht hb]
  exact h.perm (((nods_take n' l1 l2 q).symm.cons _).cons _)
theorem nods_new (n : Nod) (ns : List Nod) (q : List Px.Loc) : (n.own ++ (nodsOwn ns ++ q)).Perm (nodsOwn (ns ++ [n]) ++ q) := by
  rw [nodsOwn_app, ← List.append_assoc]
  refine List.Perm.append_right _ ?_
  simp only [nodsOwn, List.append_nil]
  exact List.perm_append_comm
theorem kvsOf_new (ns : List Nod) (n : Nod) : kvsOf (ns ++ [n]) = kvsOf ns ++ [(n.t, n.b)] := by simp [kvsOf]
/-- what a row must be to lie under a node -/
structure Hold1 (r : Row) (b : Bx) (t : Bd) : Prop where
  ok : okX r.box = true
  un : r.when_.u = false
  x1 : b.x.lo ≤ r.box.x.lo
  x2 : r.box.x.hi ≤ b.x.hi
  y1 : b.y.lo ≤ r.box.y.lo
  y2 : r.box.y.hi ≤ b.y.hi
  z1 : b.z.lo ≤ r.box.z.lo
  z2 : r.box.z.hi ≤ b.z.hi
  t1 : t.lo ≤ r.when_.lo
  t2 : r.when_.hi ≤ t.hi
theorem Hold1.self {r : Row} (h : okX r.box = true) (hu : r.when_.u = false) : Hold1 r r.box r.when_ := ⟨h, hu, Int.le_refl _, Int.le_refl _, Int.le_refl _, Int.le_refl _, Int.le_refl _, Int.le_refl _, Int.le_refl _, Int.le_refl _⟩
theorem Hold1.hull {r : Row} {b b2 : Bx} {t t2 : Bd} (h : Hold1 r b t) : Hold1 r (hullX b b2) (hullB t t2) := by
  obtain ⟨h0, hu, h1, h2, h3, h4, h5, h6, h7, h8⟩ := h
  refine ⟨h0, hu, ?_, ?_, ?_, ?_, ?_, ?_, ?_, ?_⟩ <;> simp only [hullX, hullB] <;> omega
theorem Hold1.hull2 {r : Row} {b b2 : Bx} {t t2 : Bd} (h : Hold1 r b2 t2) : Hold1 r (hullX b b2) (hullB t t2) := by
  obtain ⟨h0, hu, h1, h2, h3, h4, h5, h6, h7, h8⟩ := h
  refine ⟨h0, hu, ?_, ?_, ?_, ?_, ?_, ?_, ?_, ?_⟩ <;> simp only [hullX, hullB] <;> omega
def HoldL (rs : List Row) (l : List Nat) (b : Bx) (t : Bd) : Prop := ∀ i ∈ l, ∃ r, rs[i]? = some r ∧ Hold1 r b t
/-- the rows under a node, the tree over -/
def Nd.all : Nd → List Nat
  | .mk _ _ _ _ _ kids rows => rows ++ (kids.map Nd.all).flatten
/-- a node keeps what it holds within its box and its span -/
inductive Good (rs : List Row) : Nd → Prop
  | mk {b : Nat} {box : Bx} {wh : Bd} {kv rv : Vec} {kids : List Nd} {rows : List Nat} (hr : HoldL rs rows box wh) (hk : ∀ k ∈ kids, Good rs k) (ha : ∀ k ∈ kids, HoldL rs k.all box wh) : Good rs (.mk b box wh kv rv kids rows)
/-- what stands behind k rows: the loose ones and those of the nodes -/
structure Inv1 (rs : List Row) (li : List Nat) (ns : List Nod) (k : Nat) : Prop where
  perm : (li ++ (ns.map (·.rows)).flatten).Perm (List.range k)
  ok : ∀ n ∈ ns, n.OK ∧ n.kids = [] ∧ HoldL rs n.rows n.box n.wh
  le : ns.length ≤ k
  nd : (ns.map (·.t)).Nodup
theorem Inv1.start (rs : List Row) : Inv1 rs [] [] 0 := ⟨.refl _, by simp, Nat.le_refl _, by simp⟩
theorem Inv1.loose {rs : List Row} {li : List Nat} {ns : List Nod} {k : Nat} (h : Inv1 rs li ns k) : Inv1 rs (li ++ [k]) ns (k + 1) := by
  refine ⟨?_, h.ok, Nat.le_succ_of_le h.le, h.nd⟩
  rw [List.range_succ]
  refine List.Perm.trans ?_ (h.perm.append_right [k])
  simp only [List.append_assoc]
  exact List.Perm.append_left _ List.perm_append_comm
theorem Inv1.upd {rs : List Row} {li : List Nat} {l1 l2 : List Nod} {n n' : Nod} {k : Nat} (h : Inv1 rs li (l1 ++ n :: l2) k) (ht : n'.t = n.t) (hr : n'.rows = n.rows ++ [k]) (ho : n'.OK) (hk : n'.kids = []) (hh : HoldL rs n'.rows n'.box n'.wh) : Inv1 rs li (l1 ++ n' :: l2) (k + 1) := by
  refine ⟨?_, fun m hm => ?_, by have := h.le; simp at this ⊢; omega, by have := h.nd; simpa [ht] using this⟩
  · rw [List.range_succ]
    refine List.Perm.trans ?_ (h.perm.append_right [k])
    simp only [List.map_append, List.map_cons, List.flatten_append, List.flatten_cons, hr, List.append_assoc]
    refine List.Perm.append_left _ (List.Perm.append_left _ (List.Perm.append_left _ ?_))
    exact List.perm_append_comm
  · rcases List.mem_append.1 hm with h' | h'
    · exact h.ok m (by simp [h'])
    · rcases List.mem_cons.1 h' with rfl | h'
      · exact ⟨ho, hk, hh⟩
      · exact h.ok m (by simp [h'])
theorem Inv1.new {rs : List Row} {li : List Nat} {ns : List Nod} {n : Nod} {k : Nat} (h : Inv1 rs li ns k) (hno : ∀ p ∈ kvsOf ns, p.1 ≠ n.t) (hr : n.rows = [k]) (ho : n.OK) (hk : n.kids = []) (hh : HoldL rs n.rows n.box n.wh) : Inv1 rs li (ns ++ [n]) (k + 1) := by
  refine ⟨?_, fun m hm => ?_, by have := h.le; simp; omega, ?_⟩
  rotate_right
  · rw [List.map_append, List.nodup_append]
    refine ⟨h.nd, by simp, fun a ha b hb e => ?_⟩
    simp only [List.map_cons, List.map_nil, List.mem_singleton] at hb
    obtain ⟨m, hm, rfl⟩ := List.mem_map.1 ha
    exact hno (m.t, m.b) (List.mem_map.2 ⟨m, hm, rfl⟩) (by rw [← hb, ← e])
  · rw [List.range_succ]
    refine List.Perm.trans ?_ (h.perm.append_right [k])
    simp [hr]
  · rcases List.mem_append.1 hm with h' | h'
    · exact h.ok m h'
    · obtain rfl := List.mem_singleton.1 h'
      exact ⟨ho, hk, hh⟩
theorem put_new {A : List (World × List Nat)} {mb ib : Nat} {oI : Obj} {w : World} {ns : List Nod} {n : Nod} {q : List Px.Loc} {x : Px.Loc} (hk : n.kv.own = []) (hr : n.rv.own = [x]) (hkk : kidsOwn n.kids = [])
    (h : Cls A ((n.b, blk (nodeL n.box n.wh n.kv.val n.rv.val) 87) :: x :: (mb, mObj (kvsOf ns ++ [(n.t, n.b)])) :: (ib, oI) :: (nodsOwn ns ++ q)) w) : Cls A ((mb, mObj (kvsOf (ns ++ [n]))) :: (ib, oI) :: (nodsOwn (ns ++ [n]) ++ q)) w := by
  rw [kvsOf_new]
  refine h.perm ?_
  have e : n.own = [(n.b, blk (nodeL n.box n.wh n.kv.val n.rv.val) 87), x] := by unfold Nod.own; rw [hk, hr, hkk]; rfl
  have h1 := nods_new n ns q
  rw [e] at h1
  refine List.Perm.trans ?_ ((h1.cons _).cons _)
  exact (List.perm_append_comm (l₁ := [(n.b, blk (nodeL n.box n.wh n.kv.val n.rv.val) 87), x]) (l₂ := [(mb, mObj (kvsOf ns ++ [(n.t, n.b)])), (ib, oI)])).append_right (nodsOwn ns ++ q)
theorem mem_flat_len {l : List Nod} {n : Nod} (h : n ∈ l) : n.rows.length ≤ (l.map (·.rows)).flatten.length := by
  obtain ⟨a, b, rfl⟩ := List.append_of_mem h
  simp only [List.map_append, List.map_cons, List.flatten_append, List.flatten_cons, List.length_append]; omega
theorem Inv1.len {rs : List Row} {li : List Nat} {ns : List Nod} {k : Nat} (h : Inv1 rs li ns k) : li.length ≤ k ∧ ∀ n ∈ ns, n.rows.length ≤ k := by
  have := h.perm.length_eq
  rw [List.length_append, List.length_range] at this
  exact ⟨by omega, fun n hn => by have := mem_flat_len hn; omega⟩
theorem HoldL.add {rs : List Row} {l : List Nat} {b : Bx} {t : Bd} {k : Nat} {r : Row} (h : HoldL rs l b t) (hr : rs[k]? = some r) (ho : okX r.box = true) (hu : r.when_.u = false) : HoldL rs (l ++ [k]) (hullX b r.box) (hullB t r.when_) := fun i hi => by
  rcases List.mem_append.1 hi with hi | hi
  · obtain ⟨r', h1, h2⟩ := h i hi; exact ⟨r', h1, h2.hull⟩
  · obtain rfl := List.mem_singleton.1 hi; exact ⟨r, hr, (Hold1.self ho hu).hull2⟩
theorem HoldL.one {rs : List Row} {k : Nat} {r : Row} (hr : rs[k]? = some r) (ho : okX r.box = true) (hu : r.when_.u = false) : HoldL rs [k] r.box r.when_ := fun i hi => by
  obtain rfl := List.mem_singleton.1 hi; exact ⟨r, hr, Hold1.self ho hu⟩
end Sg
/-
  Answers compared. No program here.
-/
namespace Sg
open Go Go.Px
theorem take_ne {xs ys : List (Int × Int)} {k : Nat} {x y : Int × Int} (hx : xs[k]? = some x) (hy : ys[k]? = some y) (h : x ≠ y) : xs ≠ ys := fun e => by subst e; rw [hx] at hy; exact h (by simpa using hy)
theorem take_succ_eq {xs ys : List (Int × Int)} {k : Nat} {x y : Int × Int} (hx : xs[k]? = some x) (hy : ys[k]? = some y) (h : xs.take k = ys.take k) (e : x = y) : xs.take (k + 1) = ys.take (k + 1) := by
  rw [List.take_add_one, List.take_add_one, h, hx, hy, e]
theorem pair_ne {x y : Int × Int} (h : (!(decide (x.1 = y.1) && (decide (x.2 = y.2) && true))) = true) : x ≠ y := fun e => by subst e; simp at h
theorem pair_eq {x y : Int × Int} (h : (!(decide (x.1 = y.1) && (decide (x.2 = y.2) && true))) = false) : x = y := by
  simp at h; exact Prod.ext h.1 h.2
theorem eq_pair (x y : Int × Int) (i : Int) : decide ((x.1 + i, x.2) = y) = (decide (x.1 + i = y.1) && (decide (x.2 = y.2) && true)) := by
  obtain ⟨a, b⟩ := x; obtain ⟨c, d⟩ := y
  simp [Prod.ext_iff, Bool.decide_and]
end Sg
/-
  A tree of nodes that stands in a world; what a walk over it answers. No program here.
-/
namespace Sg
open Go Go.Px
/-- a node and all below it stand in world W, apart from the blocks X -/
inductive NdAt (n : Nat) (W : World) (X : List Nat) : Nd → Prop
  | mk {b : Nat} {box : Bx} {wh : Bd} {kv rv : Vec} {kids : List Nd} {rows : List Nat} {ka ra : Option Addr} {kc rc : Nat} (hb : W.heap[b]? = some (blk (nodeL box wh kv.val rv.val) 87)) (hX : b ∉ X)
      (hk : kv.val = .slice ka kids.length kc) (hr : rv.val = .slice ra rows.length rc) (hke : Elts W ka 1 (kids.map fun k => [ptrV k.b])) (hre : Elts W ra 1 (rows.map idx))
      (hkX : ∀ a, ka = some a → kids ≠ [] → a.block ∉ X) (hrX : ∀ a, ra = some a → rows ≠ [] → a.block ∉ X) (hks : ∀ k ∈ kids, NdAt n W X k) (hkl : kids.length < 1000000) (hrl : rows.length < 1000000) (hrr : ∀ i ∈ rows, i < n) : NdAt n W X (.mk b box wh kv rv kids rows)
theorem Elts.keeps {W w : World} {X : List Nat} {a : Option Addr} {m : Nat} {ls : List (List Value)} (h : Elts W a m ls) (hx : ∀ ad, a = some ad → ls ≠ [] → ad.block ∉ X) (k : Keeps W X w) : Elts w a m ls := fun i l hl => by
  obtain ⟨b, o, e, hc⟩ := h i l hl
  exact ⟨b, o, e, fun j v hv => k.cell (hc j v hv) (show b ∉ X from hx _ e (fun h => by subst h; simp at hl))⟩
theorem Elts.lt {W : World} {a : Addr} {m : Nat} {ls : List (List Value)} (h : Elts W (some a) m ls) {i j : Nat} {l : List Value} {v : Value} (hl : ls[i]? = some l) (hv : l[j]? = some v) : a.block < W.heap.size := by
  obtain ⟨b, o, e, hc⟩ := h i l hl
  cases e
  have := block_of_cell (hc j v hv)
  exact this
theorem NdAt.keeps {n : Nat} {W w : World} {X X' : List Nat} (k : Keeps W X w) (hX' : ∀ i ∈ X', i ∈ X ∨ W.heap.size ≤ i) {nd : Nd} (h : NdAt n W X nd) : NdAt n w X' nd := by
  induction h with
  | @mk b box wh kv rv kids rows ka ra kc rc hb hX hk hr hke hre hkX hrX hks hkl hrl hrr ih =>
    have hblt : b < W.heap.size := (Array.getElem?_eq_some_iff.1 hb).1
    have away : ∀ i, i < W.heap.size → i ∉ X → i ∉ X' := fun i h1 h2 h3 => by rcases hX' i h3 with h | h; exact h2 h; omega
    refine .mk ((k.block b hblt hX).trans hb) (away b hblt hX) hk hr (Elts.keeps hke (fun a ha hn => hkX a ha (fun e => hn (by simp [e]))) k) (Elts.keeps hre (fun a ha hn => hrX a ha (fun e => hn (by simp [e]))) k) ?_ ?_ ih hkl hrl hrr
    · intro a ha hn
      subst ha
      obtain ⟨x, l, rfl⟩ := List.exists_cons_of_ne_nil hn
      exact away _ (Elts.lt hke (i := 0) (j := 0) rfl rfl) (hkX a rfl hn)
    · intro a ha hn
      subst ha
      obtain ⟨x, l, rfl⟩ := List.exists_cons_of_ne_nil hn
      exact away _ (Elts.lt hre (i := 0) (j := 0) rfl rfl) (hrX a rfl hn)
def useV (q : Ask) (box : Bx) (wh : Bd) : Bool := !decide (coneFold box (between wh q.from_ q.to_) q.cones = 0)
/-- what a row of this number answers -/
def ansAt (q : Ask) (rs : List Row) (i : Nat) : List (Int × Int) := match rs[i]? with | some r => (ansOf q r).toList | none => []
mutual
def Nd.ans (q : Ask) (rs : List Row) : Nd → List (Int × Int)
  | .mk _ box wh _ _ kids rows => if useV q box wh = true then kidsAns q rs kids ++ rows.flatMap (ansAt q rs) else []
def kidsAns (q : Ask) (rs : List Row) : List Nd → List (Int × Int)
  | [] => []
  | k :: l => k.ans q rs ++ kidsAns q rs l
end
/-- what Run's closures read: the index, the question; apart from the blocks X -/
structure RunCtx (W : World) (X : List Nat) (rs : List Row) (q : Ask) (p1 p2 ib : Nat) : Prop where
  ex : ∃ (es : List (List Value)) (xa ca : Option Addr) (xc cc : Nat) (lv rv lo : Value), W.heap[p1]? = some (blk [ptrV ib] 53) ∧ W.heap[ib]? = some (blk [.slice xa es.length xc, lv, rv, lo] 80) ∧
    W.heap[p2]? = some (blk [.slice ca q.cones.length cc, .int .i64 q.from_, .int .i64 q.to_, .int .i64 q.least, .int .i64 q.ban] 27) ∧ Elts W xa 18 es ∧ Like es rs ∧ Elts W ca 4 (q.cones.map Cone.cells) ∧
    (∀ a, xa = some a → es ≠ [] → a.block ∉ X) ∧ (∀ a, ca = some a → q.cones ≠ [] → a.block ∉ X)
  cl : q.cones.length < 9223372036854775808
  n1 : p1 ∉ X
  n2 : p2 ∉ X
  n3 : ib ∉ X
theorem Like.cells {es : List (List Value)} {rs : List Row} (h : Like es rs) : ∀ l ∈ es, ∃ x y, l = x :: y := fun l hl => by
  obtain ⟨i, hi, rfl⟩ := List.getElem_of_mem hl
  have hi' : i < rs.length := by rw [← h.1]; exact hi
  obtain ⟨fa, fn, fc, he⟩ := h.2 i rs[i] (List.getElem?_eq_getElem hi')
  rw [List.getElem?_eq_getElem hi] at he
  exact ⟨_, _, Option.some.inj he⟩
theorem RunCtx.keeps {W w : World} {X X' : List Nat} {rs : List Row} {q : Ask} {p1 p2 ib : Nat} (h : RunCtx W X rs q p1 p2 ib) (k : Keeps W X w) (hX' : ∀ i ∈ X', i ∈ X ∨ W.heap.size ≤ i) : RunCtx w X' rs q p1 p2 ib := by
  obtain ⟨⟨es, xa, ca, xc, cc, lv, rv, lo, h1, h2, h3, h4, h5, h6, h7, h8⟩, hc, n1, n2, n3⟩ := h
  have away : ∀ i, i < W.heap.size → i ∉ X → i ∉ X' := fun i h1 h2 h3 => by rcases hX' i h3 with h | h; exact h2 h; omega
  have l1 := (Array.getElem?_eq_some_iff.1 h1).1
  have l2 := (Array.getElem?_eq_some_iff.1 h2).1
  have l3 := (Array.getElem?_eq_some_iff.1 h3).1
  refine ⟨⟨es, xa, ca, xc, cc, lv, rv, lo, (k.block _ l1 n1).trans h1, (k.block _ l2 n3).trans h2, (k.block _ l3 n2).trans h3, Elts.keeps h4 h7 k, h5, Elts.keeps h6 (fun a ha hn => h8 a ha (fun e => hn (by simp [e]))) k, ?_, ?_⟩, hc, away _ l1 n1, away _ l3 n2, away _ l2 n3⟩
  · intro a ha hn
    subst ha
    obtain ⟨x, l, rfl⟩ := List.exists_cons_of_ne_nil hn
    obtain ⟨y, z, rfl⟩ := Like.cells h5 x (by simp)
    exact away _ (Elts.lt h4 (i := 0) (j := 0) rfl rfl) (h7 a rfl hn)
  · intro a ha hn
    subst ha
    obtain ⟨x, l, hx⟩ := List.exists_cons_of_ne_nil hn
    exact away _ (Elts.lt h6 (i := 0) (j := 0) (l := x.cells) (by rw [hx]; rfl) rfl) (h8 a rfl hn)

/-- what one owns is new or was to be turned -/
theorem own_of {W : World} {X : List Nat} {A : List (World × List Nat)} {L : List Px.Loc} {w : World} (hw : Cls A L w) (hA : Mem A (W, X)) : ∀ i ∈ L.map (·.1), i ∈ X ∨ W.heap.size ≤ i := fun i hi => by
  obtain ⟨p, hp, rfl⟩ := List.mem_map.1 hi
  exact hw.own _ hA.mem p hp
theorem RunCtx.at {W : World} {X : List Nat} {rs : List Row} {q : Ask} {p1 p2 ib : Nat} {A : List (World × List Nat)} {L : List Px.Loc} {w : World} (h : RunCtx W X rs q p1 p2 ib) (hw : Cls A L w) (hA : Mem A (W, X)) : RunCtx w (L.map (·.1)) rs q p1 p2 ib := h.keeps (hw.kp hA) (own_of hw hA)
theorem NdAt.at {n : Nat} {W : World} {X : List Nat} {nd : Nd} {A : List (World × List Nat)} {L : List Px.Loc} {w : World} (h : NdAt n W X nd) (hw : Cls A L w) (hA : Mem A (W, X)) : NdAt n w (L.map (·.1)) nd := h.keeps (hw.kp hA) (own_of hw hA)
theorem Elts.at {W : World} {X : List Nat} {a : Option Addr} {m : Nat} {ls : List (List Value)} {A : List (World × List Nat)} {L : List Px.Loc} {w : World} (h : Elts W a m ls) (hx : ∀ ad, a = some ad → ls ≠ [] → ad.block ∉ X) (hl : ∀ l ∈ ls, ∃ x y, l = x :: y) (hw : Cls A L w) (hA : Mem A (W, X)) :
    Elts w a m ls ∧ ∀ ad, a = some ad → ls ≠ [] → ad.block ∉ L.map (·.1) := ⟨Elts.keeps h hx (hw.kp hA), fun ad ha hn hi => by
  subst ha
  obtain ⟨x, l, rfl⟩ := List.exists_cons_of_ne_nil hn
  obtain ⟨y, z, rfl⟩ := hl x (by simp)
  have := Elts.lt h (i := 0) (j := 0) rfl rfl
  rcases own_of hw hA _ hi with h' | h'
  · exact hx ad rfl hn h'
  · omega⟩
end Sg
/-
  Where a node has no answers, no row under it has one; what a walk answers is what its rows answer, in some order. No program here.
-/
namespace Sg
open Go Go.Px
theorem cmpI_lt {a b : Int} : cmpI a b < 0 ↔ a < b := by
  unfold cmpI; simp only [decide_eq_true_eq]
  split
  · simp [*]
  · split <;> simp <;> omega
theorem cmpI_ge {a b : Int} : 0 ≤ cmpI a b ↔ b ≤ a := by
  unfold cmpI; simp only [decide_eq_true_eq]
  split
  · simp; omega
  · split <;> simp <;> omega
theorem near_rng (a b : Bx) (c : Int) : 0 ≤ nearV a b c ∧ nearV a b c ≤ 2 := by
  unfold nearV
  split
  · simp
  · split
    · simp
    · split
      · simp
      · split <;> simp
theorem between_rng (b : Bd) (lo hi : Int) : 0 ≤ between b lo hi ∧ between b lo hi ≤ 2 := by
  unfold between
  split
  · simp
  · split
    · simp
    · split <;> simp
/-- the fold over the cones is the least of all -/
theorem le_coneFold {b : Bx} {x : Int} : ∀ {l : List Cone} {g : Int}, x ≤ coneFold b g l ↔ x ≤ g ∧ ∀ c ∈ l, x ≤ nearV b (ptBx c.x c.y c.z) c.cos
  | [], g => by simp [coneFold]
  | c :: l, g => by
    rw [coneFold, le_coneFold (l := l)]
    simp only [List.mem_cons, forall_eq_or_imp]
    rw [Int.le_min]; exact and_assoc
theorem coneFold_zero {b : Bx} {g : Int} {l : List Cone} (hg : 0 ≤ g) : coneFold b g l = 0 ↔ g = 0 ∨ ∃ c ∈ l, nearV b (ptBx c.x c.y c.z) c.cos = 0 := by
  have h0 : 0 ≤ coneFold b g l := le_coneFold.2 ⟨hg, fun c _ => (near_rng _ _ _).1⟩
  have h1 : 1 ≤ coneFold b g l ↔ 1 ≤ g ∧ ∀ c ∈ l, 1 ≤ nearV b (ptBx c.x c.y c.z) c.cos := le_coneFold
  constructor
  · intro h
    by_cases hg0 : g = 0
    · exact .inl hg0
    · refine .inr (Classical.byContradiction fun hn => ?_)
      have : 1 ≤ coneFold b g l := h1.2 ⟨by omega, fun c hc => by
        have := (near_rng b (ptBx c.x c.y c.z) c.cos).1
        by_cases h2 : nearV b (ptBx c.x c.y c.z) c.cos = 0
        · exact absurd ⟨c, hc, h2⟩ hn
        · omega⟩
      omega
  · rintro (h | ⟨c, hc, h⟩)
    · by_cases h2 : 1 ≤ coneFold b g l
      · have := (h1.1 h2).1; omega
      · omega
    · by_cases h2 : 1 ≤ coneFold b g l
      · have := (h1.1 h2).2 c hc; omega
      · omega
theorem isq_nonneg (n : Int) : 0 ≤ isq n := by unfold isq; exact Int.natCast_nonneg _
/-- what No means for two known boxes -/
theorem near_no {a b : Bx} {c : Int} (hc : (decide (c < 0) || decide (1073741824 < c)) = false) (ha : okX a = true) (hb : okX b = true) :
    nearV a b c = 0 ↔ most3 a b * 1073741824 < c * isq (low3 a * low3 b) := by
  have h1 : (!okX a || !okX b) = false := by rw [ha, hb]; rfl
  obtain ⟨⟨⟨oa1, oa2⟩, oa3⟩, ⟨⟨ob1, ob2⟩, ob3⟩⟩ := okX_both h1
  unfold nearV
  rw [hc, h1]
  simp only [Bool.false_eq_true, if_false]
  by_cases hs : (decide (0 < low3 a) && decide (0 < low3 b) && decide (0 ≤ cmpI (least3 a b * 1073741824) (c * root3 a b))) = true
  · rw [if_pos hs]
    constructor
    · intro h; simp at h
    · intro h
      exfalso
      simp only [Bool.and_eq_true, decide_eq_true_eq, cmpI_ge] at hs
      obtain ⟨⟨hl1, hl2⟩, h3⟩ := hs
      have c0 : 0 ≤ c := by simp only [Bool.or_eq_false_iff, decide_eq_false_iff_not] at hc; omega
      have p1 := pm_in oa1 ob1
      have p2 := pm_in oa2 ob2
      have p3 := pm_in oa3 ob3
      have q1 := sq_in oa1
      have q2 := sq_in oa2
      have q3 := sq_in oa3
      have r1 := sq_in ob1
      have r2 := sq_in ob2
      have r3 := sq_in ob3
      have hlm : least3 a b ≤ most3 a b := by unfold least3 most3; omega
      have hla : low3 a ≤ high3 a := by unfold low3 high3; omega
      have hlb : low3 b ≤ high3 b := by unfold low3 high3; omega
      have hm : low3 a * low3 b ≤ high3 a * high3 b := Int.mul_le_mul hla hlb (by omega) (by omega)
      have hi : isq (low3 a * low3 b) ≤ isq (high3 a * high3 b) := isq_mono (Int.mul_nonneg (by omega) (by omega)) hm
      have hr : isq (high3 a * high3 b) ≤ root3 a b := by unfold root3; split <;> omega
      have : c * isq (low3 a * low3 b) ≤ c * root3 a b := Int.mul_le_mul_of_nonneg_left (by omega) c0
      omega
  · rw [if_neg hs]
    by_cases hn : decide (cmpI (most3 a b * 1073741824) (c * isq (low3 a * low3 b)) < 0) = true
    · rw [if_pos hn]; simp only [decide_eq_true_eq, cmpI_lt] at hn; simp [hn]
    · rw [if_neg hn]; simp only [decide_eq_true_eq, cmpI_lt] at hn; simp [hn]
structure Sub (a b : Bd) : Prop where
  l : b.lo ≤ a.lo
  r : a.hi ≤ b.hi
theorem pmax_sub {a b : Bd} (h : Sub a b) (hn : a.lo ≤ a.hi) (x : Int) : pmax a ⟨x, x, false⟩ ≤ pmax b ⟨x, x, false⟩ := by
  obtain ⟨h1, h2⟩ := h
  unfold pmax
  simp only
  rcases Int.lt_or_le x 0 with hx | hx
  · have e1 : a.lo * x ≤ b.lo * x := Int.mul_le_mul_of_nonpos_right h1 (by omega)
    have e2 : a.hi * x ≤ b.lo * x := Int.mul_le_mul_of_nonpos_right (by omega) (by omega)
    omega
  · have e1 : a.hi * x ≤ b.hi * x := Int.mul_le_mul_of_nonneg_right h2 hx
    have e2 : a.lo * x ≤ b.hi * x := Int.mul_le_mul_of_nonneg_right (by omega) hx
    omega
theorem sqlo_sub {a b : Bd} (h : Sub a b) (hn : a.lo ≤ a.hi) : sqlo b ≤ sqlo a := by
  obtain ⟨h1, h2⟩ := h
  have n1 : 0 ≤ a.lo * a.lo := by rcases Int.lt_or_le a.lo 0 with h | h <;> first | exact Int.mul_nonneg h h | exact Int.mul_nonneg_of_nonpos_of_nonpos (by omega) (by omega)
  have n2 : 0 ≤ a.hi * a.hi := by rcases Int.lt_or_le a.hi 0 with h | h <;> first | exact Int.mul_nonneg h h | exact Int.mul_nonneg_of_nonpos_of_nonpos (by omega) (by omega)
  unfold sqlo
  simp only [Bool.or_eq_true, decide_eq_true_eq]
  by_cases hb : 0 < b.lo ∨ b.hi < 0
  · rw [if_pos hb, if_pos (by omega)]
    rcases hb with hb | hb
    · have e1 : b.lo * b.lo ≤ a.lo * a.lo := sq_le (by omega) h1
      have e2 : b.lo * b.lo ≤ a.hi * a.hi := sq_le (by omega) (by omega)
      omega
    · have e1 : b.hi * b.hi ≤ a.hi * a.hi := by have := sq_le (a := -b.hi) (b := -a.hi) (by omega) (by omega); rwa [Int.neg_mul_neg, Int.neg_mul_neg] at this
      have e2 : b.hi * b.hi ≤ a.lo * a.lo := by have := sq_le (a := -b.hi) (b := -a.lo) (by omega) (by omega); rwa [Int.neg_mul_neg, Int.neg_mul_neg] at this
      omega
  · rw [if_neg hb]; split <;> omega
/-- a box that is not near a direction holds none that is near it -/
theorem near_sub {a b : Bx} (hx : Sub a.x b.x) (hy : Sub a.y b.y) (hz : Sub a.z b.z) (ha : okX a = true) (x y z c : Int) (h : nearV b (ptBx x y z) c = 0) : nearV a (ptBx x y z) c = 0 := by
  by_cases hc : (decide (c < 0) || decide (1073741824 < c)) = true
  · exact near_a hc
  have hc := eq_false_of_ne_true hc
  by_cases hb : (!okX b || !okX (ptBx x y z)) = true
  · rw [near_b hc hb] at h; simp at h
  have hb : okX b = true ∧ okX (ptBx x y z) = true := by simpa using hb
  rw [near_no hc hb.1 hb.2] at h
  rw [near_no hc ha hb.2]
  have oa : (okB a.x = true ∧ okB a.y = true) ∧ okB a.z = true := by simpa [okX, Bool.and_eq_true] using ha
  obtain ⟨_, x1, _, _⟩ := okB_iff oa.1.1
  obtain ⟨_, y1, _, _⟩ := okB_iff oa.1.2
  obtain ⟨_, z1, _, _⟩ := okB_iff oa.2
  have ob : (okB b.x = true ∧ okB b.y = true) ∧ okB b.z = true := by simpa [okX, Bool.and_eq_true] using hb.1
  have op : (okB (ptBx x y z).x = true ∧ okB (ptBx x y z).y = true) ∧ okB (ptBx x y z).z = true := by simpa [okX, Bool.and_eq_true] using hb.2
  have p1 := pmax_sub hx x1 x
  have p2 := pmax_sub hy y1 y
  have p3 := pmax_sub hz z1 z
  have q1 := sqlo_sub hx x1
  have q2 := sqlo_sub hy y1
  have q3 := sqlo_sub hz z1
  have m1 : most3 a (ptBx x y z) ≤ most3 b (ptBx x y z) := by unfold most3 ptBx; simp only; omega
  have l1 : low3 b ≤ low3 a := by unfold low3; omega
  have b1 := sq_in ob.1.1
  have b2 := sq_in ob.1.2
  have b3 := sq_in ob.2
  have c1 := sq_in op.1.1
  have c2 := sq_in op.1.2
  have c3 := sq_in op.2
  have l0 : 0 ≤ low3 b := by unfold low3; omega
  have l2 : 0 ≤ low3 (ptBx x y z) := by unfold low3; omega
  have hm : low3 b * low3 (ptBx x y z) ≤ low3 a * low3 (ptBx x y z) := Int.mul_le_mul_of_nonneg_right l1 l2
  have hi := isq_mono (Int.mul_nonneg l0 l2) hm
  have c0 : 0 ≤ c := by simp only [Bool.or_eq_false_iff, decide_eq_false_iff_not] at hc; omega
  have : c * isq (low3 b * low3 (ptBx x y z)) ≤ c * isq (low3 a * low3 (ptBx x y z)) := Int.mul_le_mul_of_nonneg_left hi c0
  omega
theorem between_sub {a b : Bd} (h : Sub a b) (hn : a.u = false) (lo hi : Int) (h0 : between b lo hi = 0) : between a lo hi = 0 := by
  obtain ⟨h1, h2⟩ := h
  unfold between at h0 ⊢
  rw [hn]
  simp only [Bool.or_eq_true, decide_eq_true_eq, Bool.and_eq_true, Bool.false_eq_true, if_false] at h0 ⊢
  by_cases hb : b.u = true
  · rw [if_pos hb] at h0; simp at h0
  · rw [if_neg hb] at h0
    by_cases hc : b.hi < lo ∨ hi < b.lo
    · rw [if_pos (by omega)]
    · rw [if_neg hc] at h0; split at h0 <;> simp at h0
theorem grade_zero {r : Row} {q : Ask} {box : Bx} {wh : Bd} (h : Hold1 r box wh) (hu : useV q box wh = false) : gradeV r q = 0 := by
  have h0 : coneFold box (between wh q.from_ q.to_) q.cones = 0 := by simpa [useV] using hu
  have hg : 0 ≤ grade0 r q := by
    unfold grade0
    split
    · simp
    · have := between_rng r.when_ q.from_ q.to_
      have := between_rng r.flux q.least 1125899906842624
      omega
  rw [gradeV, coneFold_zero hg]
  rcases (coneFold_zero (between_rng _ _ _).1).1 h0 with h1 | ⟨c, hc, h1⟩
  · refine .inl ?_
    have := between_sub ⟨h.t1, h.t2⟩ h.un _ _ h1
    have h2 := between_rng r.flux q.least 1125899906842624
    unfold grade0
    split
    · rfl
    · omega
  · exact .inr ⟨c, hc, near_sub ⟨h.x1, h.x2⟩ ⟨h.y1, h.y2⟩ ⟨h.z1, h.z2⟩ h.ok _ _ _ _ h1⟩
theorem ansAt_none {q : Ask} {rs : List Row} {l : List Nat} {box : Bx} {wh : Bd} (h : HoldL rs l box wh) (hu : useV q box wh = false) : ∀ i ∈ l, ansAt q rs i = [] := fun i hi => by
  obtain ⟨r, h1, h2⟩ := h i hi
  unfold ansAt
  rw [h1]
  simp only [ansOf, grade_zero h2 hu]
  rfl
theorem flatMap_nil {q : Ask} {rs : List Row} {l : List Nat} (h : ∀ i ∈ l, ansAt q rs i = []) : l.flatMap (ansAt q rs) = [] := by
  rw [List.flatMap_eq_nil_iff]; exact h
mutual
/-- what a walk over a tree answers: the answers of all its rows, in some order -/
theorem Nd.ans_perm (q : Ask) (rs : List Row) : ∀ (nd : Nd), Good rs nd → (nd.ans q rs).Perm (nd.all.flatMap (ansAt q rs))
  | .mk b box wh kv rv kids rows, hg => by
    cases hg with
    | mk hr hk ha =>
      rw [Nd.ans, Nd.all]
      by_cases hu : useV q box wh = true
      · rw [if_pos hu, List.flatMap_append]
        refine List.Perm.trans List.perm_append_comm (List.Perm.append_left _ ?_)
        exact kidsAns_perm q rs kids hk
      · have hu := eq_false_of_ne_true hu
        rw [if_neg (ne_true_of_eq_false hu), List.flatMap_append, flatMap_nil (ansAt_none hr hu), flatMap_nil]
        · exact .refl _
        · intro i hi
          obtain ⟨l, hl, hi⟩ := List.mem_flatten.1 hi
          obtain ⟨k, hkm, rfl⟩ := List.mem_map.1 hl
          exact ansAt_none (ha k hkm) hu i hi
theorem kidsAns_perm (q : Ask) (rs : List Row) : ∀ (kids : List Nd), (∀ k ∈ kids, Good rs k) → (kidsAns q rs kids).Perm ((kids.map Nd.all).flatten.flatMap (ansAt q rs))
  | [], _ => by simp [kidsAns]
  | k :: l, h => by
    rw [kidsAns, List.map_cons, List.flatten_cons, List.flatMap_append]
    exact (Nd.ans_perm q rs k (h k (by simp))).append (kidsAns_perm q rs l (fun x hx => h x (by simp [hx])))
end
theorem ansAt_range (q : Ask) (rs : List Row) : (List.range rs.length).flatMap (ansAt q rs) = ansV rs q := by
  have h : ∀ (l pre : List Row), rs = pre ++ l → (List.range' pre.length l.length).flatMap (ansAt q rs) = ansV l q := by
    intro l
    induction l with
    | nil => intro pre _; rfl
    | cons r l ih =>
      intro pre he
      rw [List.length_cons, List.range'_succ, List.flatMap_cons]
      have h1 : ansAt q rs pre.length = (ansOf q r).toList := by
        unfold ansAt
        rw [he, List.getElem?_append_right (Nat.le_refl _), Nat.sub_self]
        rfl
      have h2 := ih (pre ++ [r]) (by rw [he]; simp)
      rw [List.length_append, List.length_singleton] at h2
      rw [h1, h2, ansV, ansV, List.filterMap_cons]
      cases ansOf q r <;> rfl
  have := h rs [] rfl
  rw [List.range_eq_range']
  exact this
/-- two orders of the same answers, one strictly by numbers, one by numbers: the same list -/
theorem sorted_eq {l l' : List (Int × Int)} (hp : l'.Perm l) (hs : l'.Pairwise fun a b => a.1 ≤ b.1) (ht : l.Pairwise fun a b => a.1 < b.1) : l' = l := by
  have hinj : ∀ a ∈ l, ∀ b ∈ l, a.1 = b.1 → a = b := by
    intro a ha b hb e
    have key : ∀ (l : List (Int × Int)), l.Pairwise (fun a b => a.1 < b.1) → ∀ a ∈ l, ∀ b ∈ l, a.1 = b.1 → a = b := by
      intro l hl
      induction hl with
      | nil => intro a ha; simp at ha
      | @cons x xs h1 _ ih =>
        intro a ha b hb e
        rcases List.mem_cons.1 ha with ha' | ha' <;> rcases List.mem_cons.1 hb with hb' | hb'
        · rw [ha', hb']
        · have := h1 b hb'; rw [ha'] at e; omega
        · have := h1 a ha'; rw [hb'] at e; omega
        · exact ih a ha' b hb' e
    exact key l ht a ha b hb e
  refine List.Perm.eq_of_pairwise (le := fun a b => a.1 ≤ b.1) (fun a b ha hb h1 h2 => hinj a (hp.mem_iff.1 ha) b hb (by omega)) hs (ht.imp (fun h => by omega)) hp
end Sg
/-
  Rows that are moved: with greater numbers, later, their axes exchanged in a circle; the question with them. No program here.
-/
namespace Sg
open Go Go.Px
def rotX (b : Bx) : Bx := ⟨b.y, b.z, b.x⟩
def rotN : Nat → Bx → Bx
  | 0, b => b
  | n + 1, b => rotX (rotN n b)
def rotC (c : Cone) : Cone := ⟨c.y, c.z, c.x, c.cos⟩
def rotCN : Nat → Cone → Cone
  | 0, c => c
  | n + 1, c => rotC (rotCN n c)
def laterB (t : Int) (b : Bd) : Bd := if b.u = true then b else ⟨b.lo + t, b.hi + t, b.u⟩
def moveR (id t : Int) (ax : Nat) (r : Row) : Row := ⟨r.id + id, rotN ax r.box, r.flux, laterB t r.when_, r.frames, r.marks⟩
theorem okX_rot (b : Bx) : okX (rotX b) = okX b := by
  simp only [okX, rotX]
  cases okB b.x <;> cases okB b.y <;> cases okB b.z <;> rfl
theorem near_rot (a b : Bx) (c : Int) : nearV (rotX a) (rotX b) c = nearV a b c := by
  have h1 : least3 (rotX a) (rotX b) = least3 a b := by simp only [least3, rotX]; omega
  have h2 : most3 (rotX a) (rotX b) = most3 a b := by simp only [most3, rotX]; omega
  have h3 : ∀ a, low3 (rotX a) = low3 a := fun a => by simp only [low3, rotX]; omega
  have h4 : ∀ a, high3 (rotX a) = high3 a := fun a => by simp only [high3, rotX]; omega
  have h5 : root3 (rotX a) (rotX b) = root3 a b := by unfold root3; rw [h4, h4]
  unfold nearV
  rw [h1, h2, h3, h3, h5, okX_rot, okX_rot]
theorem near_rotN (a : Bx) (c : Cone) : ∀ n, nearV (rotN n a) (ptBx (rotCN n c).x (rotCN n c).y (rotCN n c).z) (rotCN n c).cos = nearV a (ptBx c.x c.y c.z) c.cos
  | 0 => rfl
  | n + 1 => by
    rw [← near_rotN a c n]
    exact near_rot _ (ptBx (rotCN n c).x (rotCN n c).y (rotCN n c).z) _
theorem between_later (b : Bd) (lo hi t : Int) : between (laterB t b) (lo + t) (hi + t) = between b lo hi := by
  unfold laterB between
  by_cases h : b.u = true
  · simp [h]
  · rw [if_neg h]
    simp only [h, Bool.false_eq_true, if_false]
    rw [show decide (b.hi + t < lo + t) = decide (b.hi < lo) from decide_eq_decide.2 (by omega), show decide (hi + t < b.lo + t) = decide (hi < b.lo) from decide_eq_decide.2 (by omega),
      show decide (lo + t ≤ b.lo + t) = decide (lo ≤ b.lo) from decide_eq_decide.2 (by omega), show decide (b.hi + t ≤ hi + t) = decide (b.hi ≤ hi) from decide_eq_decide.2 (by omega)]
/-- the moved question's cones: those of the question, turned, in any order and with repetitions -/
structure Moved (q r : Ask) (t : Int) (ax : Nat) : Prop where
  cones : ∀ c, c ∈ r.cones ↔ ∃ d ∈ q.cones, c = rotCN ax d
  from_ : r.from_ = q.from_ + t
  to_ : r.to_ = q.to_ + t
  least : r.least = q.least
  ban : r.ban = q.ban
theorem grade_moved {q r : Ask} {id t : Int} {ax : Nat} (h : Moved q r t ax) (x : Row) : gradeV (moveR id t ax x) r = gradeV x q := by
  have hg : grade0 (moveR id t ax x) r = grade0 x q := by
    unfold grade0
    simp only [moveR, h.ban, h.least, h.from_, h.to_, between_later]
  unfold gradeV
  rw [hg]
  have key : ∀ y, y ≤ coneFold (moveR id t ax x).box (grade0 x q) r.cones ↔ y ≤ coneFold x.box (grade0 x q) q.cones := fun y => by
    rw [le_coneFold, le_coneFold]
    refine and_congr_right fun _ => ⟨fun hc d hd => ?_, fun hc c hc' => ?_⟩
    · have := hc (rotCN ax d) ((h.cones _).2 ⟨d, hd, rfl⟩)
      rwa [show (moveR id t ax x).box = rotN ax x.box from rfl, near_rotN] at this
    · obtain ⟨d, hd, rfl⟩ := (h.cones c).1 hc'
      rw [show (moveR id t ax x).box = rotN ax x.box from rfl, near_rotN]
      exact hc d hd
  exact Int.le_antisymm ((key _).1 (Int.le_refl _)) ((key _).2 (Int.le_refl _))
theorem ans_moved {q r : Ask} {id t : Int} {ax : Nat} (h : Moved q r t ax) (l : List Row) : ansV (l.map (moveR id t ax)) r = (ansV l q).map fun a => (a.1 + id, a.2) := by
  unfold ansV
  rw [List.filterMap_map, List.map_filterMap]
  congr 1
  funext x
  simp only [Function.comp, ansOf, grade_moved h]
  split <;> rfl
/-! ### the checks -/
theorem endsErr_zero {b : Bd} {m : Int} : endsErr b m = 0 ↔ bdErr b = 0 ∧ -m ≤ b.lo ∧ b.hi ≤ m := by
  unfold endsErr
  by_cases h : bdErr b = 0
  · rw [h]
    simp only [decide_true, Bool.not_true, Bool.false_eq_true, if_false, Bool.or_eq_true, decide_eq_true_eq, true_and]
    split
    · constructor
      · intro h; simp at h
      · intro h; omega
    · constructor
      · intro _; omega
      · intro _; rfl
  · rw [if_pos (by simpa using h)]
    simp [h]
theorem bdErr_zero {b : Bd} : bdErr b = 0 ↔ (b.u = true → b.lo = 0 ∧ b.hi = 0) ∧ -1152921504606846976 ≤ b.lo ∧ b.hi ≤ 1152921504606846976 ∧ b.lo ≤ b.hi := by
  unfold bdErr
  by_cases h1 : (b.u && (!decide (b.lo = 0) || !decide (b.hi = 0))) = true
  · rw [if_pos h1]
    simp only [Bool.and_eq_true, Bool.or_eq_true, Bool.not_eq_true', decide_eq_false_iff_not] at h1
    constructor
    · intro h; simp at h
    · rintro ⟨h, _⟩; have := h h1.1; omega
  · rw [if_neg h1]
    simp only [Bool.and_eq_true, Bool.or_eq_true, Bool.not_eq_true', decide_eq_false_iff_not, not_and, not_or, Classical.not_not] at h1
    by_cases h2 : (decide (min b.lo b.hi < -1152921504606846976) || decide (1152921504606846976 < max b.lo b.hi)) = true
    · rw [if_pos h2]
      simp only [Bool.or_eq_true, decide_eq_true_eq] at h2
      constructor
      · intro h; simp at h
      · intro h; omega
    · rw [if_neg h2]
      simp only [Bool.or_eq_true, decide_eq_true_eq] at h2
      by_cases h3 : decide (b.hi < b.lo) = true
      · rw [if_pos h3]
        simp only [decide_eq_true_eq] at h3
        constructor
        · intro h; simp at h
        · intro h; omega
      · rw [if_neg h3]
        simp only [decide_eq_true_eq] at h3
        exact ⟨fun _ => ⟨h1, by omega⟩, fun _ => rfl⟩
theorem orErr2 {a b : Int} : orErr [a, b] = 0 ↔ a = 0 ∧ b = 0 := by
  simp only [orErr]
  by_cases ha : a = 0
  · subst ha
    by_cases hb : b = 0 <;> simp [hb]
  · simp [ha]
structure RowGood (r : Row) : Prop where
  id1 : 1 ≤ r.id
  id2 : r.id ≤ 2147483647
  x : endsErr r.box.x 1073741824 = 0
  y : endsErr r.box.y 1073741824 = 0
  z : endsErr r.box.z 1073741824 = 0
  flux : endsErr r.flux 1125899906842624 = 0
  when_ : endsErr r.when_ 17592186044416 = 0
  fr : framesErr r.frames 0 = 0
  fl : 0 < r.frames.length ∧ r.frames.length ≤ 8
  marks : 0 ≤ r.marks ∧ r.marks ≤ 3
theorem rowErr_zero {r : Row} : rowErr r = 0 ↔ RowGood r := by
  constructor
  · intro h
    unfold rowErr at h
    split at h
    · simp at h
    rename_i h0
    split at h
    · rename_i h1; simp at h1; exact absurd h h1
    rename_i h1
    split at h
    · rename_i h2; simp at h2; exact absurd h h2
    rename_i h2
    split at h
    · rename_i h3; simp at h3; exact absurd h h3
    rename_i h3
    split at h
    · rename_i h4; simp at h4; exact absurd h h4
    rename_i h4
    split at h
    · simp at h
    rename_i h5
    split at h
    · simp at h
    rename_i h6
    split at h
    · rename_i h7; simp at h7; exact absurd h h7
    rename_i h7
    split at h
    · simp at h
    rename_i h8
    simp only [Bool.or_eq_true, decide_eq_true_eq, Bool.not_eq_true', decide_eq_false_iff_not, Classical.not_not] at h0 h1 h2 h3 h4 h5 h6 h7 h8
    have h4 := orErr2.1 h4
    exact ⟨by omega, by omega, h1, h2, h3, h4.1, h4.2, h7, by omega, by omega⟩
  · rintro ⟨i1, i2, x, y, z, f, wn, fr, fl, m⟩
    have ho := orErr2.2 ⟨f, wn⟩
    unfold rowErr
    rw [if_neg (by simp only [Bool.or_eq_true, decide_eq_true_eq]; omega), if_neg (by simp [x]), if_neg (by simp [y]), if_neg (by simp [z]), if_neg (by simp [ho]), if_neg (by simp only [decide_eq_true_eq]; omega),
      if_neg (by simp only [decide_eq_true_eq]; omega), if_neg (by simp [fr]), if_neg (by simp only [Bool.or_eq_true, decide_eq_true_eq]; omega)]
theorem rot_ends {m : Int} (b : Bx) (h : endsErr b.x m = 0 ∧ endsErr b.y m = 0 ∧ endsErr b.z m = 0) : ∀ n, endsErr (rotN n b).x m = 0 ∧ endsErr (rotN n b).y m = 0 ∧ endsErr (rotN n b).z m = 0
  | 0 => h
  | n + 1 => by have := rot_ends b h n; exact ⟨this.2.1, this.2.2, this.1⟩
theorem later_ends {b : Bd} {t : Int} (h : endsErr b 17592186044416 = 0) (ht : 0 ≤ t) (hm : (laterB t b).hi ≤ 17592186044416) : endsErr (laterB t b) 17592186044416 = 0 := by
  rw [endsErr_zero, bdErr_zero] at h ⊢
  unfold laterB at hm ⊢
  split
  · exact h
  · rename_i hu
    rw [if_neg hu] at hm
    simp only at hm ⊢
    exact ⟨⟨fun h => absurd h hu, by omega, by omega, by omega⟩, by omega, by omega⟩
theorem RowGood.moved {r : Row} {id t : Int} {ax : Nat} (h : RowGood r) (hid : 0 ≤ id) (ht : 0 ≤ t) (h1 : r.id + id ≤ 2147483647) (h2 : (laterB t r.when_).hi ≤ 17592186044416) : RowGood (moveR id t ax r) := by
  obtain ⟨i1, i2, x, y, z, f, wn, fr, fl, m⟩ := h
  have hr := rot_ends r.box ⟨x, y, z⟩ ax
  exact ⟨by simp only [moveR]; omega, h1, hr.1, hr.2.1, hr.2.2, f, later_ends wn ht h2, fr, fl, m⟩
def leP (p : Option Int) (x : Int) : Bool := match p with | some p => decide (x ≤ p) | none => false
theorem rowsErr1_cons (r : Row) (l : List Row) (p : Option Int) : rowsErr1 (r :: l) p = if (!decide (rowErr r = 0)) = true then rowErr r else if leP p r.id = true then 11 else rowsErr1 l (some r.id) := by cases p <;> rfl
theorem rowsErr1_zero : ∀ {l : List Row} {p : Option Int}, rowsErr1 l p = 0 ↔ (∀ r ∈ l, RowGood r) ∧ l.Pairwise (fun a b => a.id < b.id) ∧ ∀ x, p = some x → ∀ r ∈ l, x < r.id
  | [], p => by simp [rowsErr1]
  | r :: l, p => by
    rw [rowsErr1_cons]
    by_cases hr : rowErr r = 0
    · rw [if_neg (by simp [hr])]
      have hg := rowErr_zero.1 hr
      have ih := rowsErr1_zero (l := l) (p := some r.id)
      by_cases hp : leP p r.id = true
      · rw [if_pos hp]
        cases p with
        | none => simp [leP] at hp
        | some x =>
          simp only [leP, decide_eq_true_eq] at hp
          constructor
          · intro h; simp at h
          · rintro ⟨_, _, h⟩; have := h x rfl r (by simp); omega
      · rw [if_neg hp, ih]
        constructor
        · rintro ⟨h1, h2, h3⟩
          have h4 := h3 _ rfl
          refine ⟨fun x hx => by rcases List.mem_cons.1 hx with rfl | hx; exact hg; exact h1 x hx, List.pairwise_cons.2 ⟨h4, h2⟩, fun x hx y hy => ?_⟩
          subst hx
          simp only [leP, decide_eq_true_eq] at hp
          rcases List.mem_cons.1 hy with rfl | hy
          · omega
          · have := h4 y hy; omega
        · rintro ⟨h1, h2, h3⟩
          exact ⟨fun x hx => h1 x (by simp [hx]), (List.pairwise_cons.1 h2).2, fun x hx y hy => by cases hx; exact (List.pairwise_cons.1 h2).1 y hy⟩
    · rw [if_pos (by simpa using hr)]
      constructor
      · intro h; exact absurd h hr
      · rintro ⟨h1, _⟩; exact absurd (rowErr_zero.2 (h1 r (by simp))) hr
theorem rowsErr_zero {l : List Row} : rowsErr l = 0 ↔ l.length ≤ 200 ∧ (∀ r ∈ l, RowGood r) ∧ l.Pairwise (fun a b => a.id < b.id) := by
  unfold rowsErr
  by_cases h : decide (200 < (l.length : Int)) = true
  · rw [if_pos h]
    simp only [decide_eq_true_eq] at h
    constructor
    · intro h; simp at h
    · intro h; omega
  · rw [if_neg h, rowsErr1_zero (p := none)]
    simp only [decide_eq_true_eq] at h
    constructor
    · rintro ⟨h1, h2, _⟩; exact ⟨by omega, h1, h2⟩
    · rintro ⟨_, h1, h2⟩; exact ⟨h1, h2, fun x hx => by simp at hx⟩
theorem rowsErr_moved {l : List Row} {id t : Int} {ax : Nat} (h : rowsErr l = 0) (hid : 0 ≤ id) (ht : 0 ≤ t) (h1 : ∀ r ∈ l, r.id + id ≤ 2147483647 ∧ (laterB t r.when_).hi ≤ 17592186044416) : rowsErr (l.map (moveR id t ax)) = 0 := by
  rw [rowsErr_zero] at h ⊢
  obtain ⟨h2, h3, h4⟩ := h
  refine ⟨by simpa using h2, fun r hr => ?_, ?_⟩
  · obtain ⟨x, hx, rfl⟩ := List.mem_map.1 hr
    exact (h3 x hx).moved hid ht (h1 x hx).1 (h1 x hx).2
  · rw [List.pairwise_map]
    exact h4.imp (fun h => by simp only [moveR]; omega)
theorem ansV_sorted {l : List Row} (q : Ask) (h : l.Pairwise (fun a b => a.id < b.id)) : (ansV l q).Pairwise fun a b => a.1 < b.1 := by
  unfold ansV
  rw [List.pairwise_filterMap]
  refine h.imp fun {a b} hab x hx y hy => ?_
  unfold ansOf at hx hy
  split at hx <;> split at hy <;> simp at hx hy
  subst hx hy
  exact hab
theorem conesErr_zero : ∀ {l : List Cone}, conesErr l = 0 ↔ ∀ c ∈ l, vecErr c.x c.y c.z = 0 ∧ 0 ≤ c.cos ∧ c.cos ≤ 1073741824
  | [] => by simp [conesErr]
  | c :: l => by
    rw [conesErr]
    by_cases h1 : vecErr c.x c.y c.z = 0
    · rw [if_neg (by simp [h1])]
      by_cases h2 : (decide (c.cos < 0) || decide (1073741824 < c.cos)) = true
      · rw [if_pos h2]
        simp only [Bool.or_eq_true, decide_eq_true_eq] at h2
        constructor
        · intro h; simp at h
        · intro h; have := (h c (by simp)).2; omega
      · rw [if_neg h2, conesErr_zero]
        simp only [Bool.or_eq_true, decide_eq_true_eq] at h2
        simp only [List.mem_cons, forall_eq_or_imp]
        constructor
        · intro h; exact ⟨⟨h1, by omega, by omega⟩, h⟩
        · intro h; exact h.2
    · rw [if_pos (by simpa using h1)]
      constructor
      · intro h; exact absurd h h1
      · intro h; exact absurd (h c (by simp)).1 h1
theorem vecErr_iff {x y z : Int} : vecErr x y z = 0 ↔ (-1048576 ≤ x ∧ x ≤ 1048576) ∧ (-1048576 ≤ y ∧ y ≤ 1048576) ∧ (-1048576 ≤ z ∧ z ≤ 1048576) ∧ ¬ (x = 0 ∧ y = 0 ∧ z = 0) := by
  constructor
  · intro h
    obtain ⟨h1, h2, h3, h4, h5, h6, h7⟩ := dir_ok h
    exact ⟨⟨h1, h2⟩, ⟨h3, h4⟩, ⟨h5, h6⟩, h7⟩
  · rintro ⟨⟨h1, h2⟩, ⟨h3, h4⟩, ⟨h5, h6⟩, h7⟩
    unfold vecErr
    rw [if_neg (by simp only [Bool.or_eq_true, decide_eq_true_eq]; omega), if_neg (by simp only [Bool.and_eq_true, decide_eq_true_eq]; exact h7)]
theorem vec_rot (c : Cone) (h : vecErr c.x c.y c.z = 0 ∧ 0 ≤ c.cos ∧ c.cos ≤ 1073741824) : ∀ n, vecErr (rotCN n c).x (rotCN n c).y (rotCN n c).z = 0 ∧ 0 ≤ (rotCN n c).cos ∧ (rotCN n c).cos ≤ 1073741824
  | 0 => h
  | n + 1 => by
    have := vec_rot c h n
    refine ⟨?_, this.2⟩
    have h2 := vecErr_iff.1 this.1
    simp only [rotCN, rotC]
    rw [vecErr_iff]
    refine ⟨h2.2.1, h2.2.2.1, h2.1, fun e => h2.2.2.2 ⟨e.2.2, e.1, e.2.1⟩⟩
theorem askErr_zero {q : Ask} : askErr q = 0 ↔ q.cones.length ≤ 4 ∧ conesErr q.cones = 0 ∧ (-17592186044416 ≤ q.from_ ∧ q.to_ ≤ 17592186044416 ∧ q.from_ ≤ q.to_) ∧ 0 ≤ q.least ∧ q.least ≤ 1125899906842624 ∧ 0 ≤ q.ban ∧ q.ban ≤ 3 := by
  unfold askErr
  by_cases h0 : decide (4 < (q.cones.length : Int)) = true
  · rw [if_pos h0]; simp only [decide_eq_true_eq] at h0
    constructor
    · intro h; simp at h
    · intro h; omega
  rw [if_neg h0]; simp only [decide_eq_true_eq] at h0
  by_cases h1 : conesErr q.cones = 0
  · rw [if_neg (by simp [h1])]
    by_cases h2 : (decide (min q.from_ q.to_ < -17592186044416) || decide (17592186044416 < max q.from_ q.to_)) = true
    · rw [if_pos h2]; simp only [Bool.or_eq_true, decide_eq_true_eq] at h2
      constructor
      · intro h; simp at h
      · intro h; omega
    rw [if_neg h2]; simp only [Bool.or_eq_true, decide_eq_true_eq] at h2
    by_cases h3 : decide (q.to_ < q.from_) = true
    · rw [if_pos h3]; simp only [decide_eq_true_eq] at h3
      constructor
      · intro h; simp at h
      · intro h; omega
    rw [if_neg h3]; simp only [decide_eq_true_eq] at h3
    by_cases h4 : (decide (q.least < 0) || decide (1125899906842624 < q.least) || decide (q.ban < 0) || decide (3 < q.ban)) = true
    · rw [if_pos h4]; simp only [Bool.or_eq_true, decide_eq_true_eq] at h4
      constructor
      · intro h; simp at h
      · intro h; omega
    rw [if_neg h4]; simp only [Bool.or_eq_true, decide_eq_true_eq] at h4
    exact ⟨fun _ => ⟨by omega, h1, by omega, by omega⟩, fun _ => rfl⟩
  · rw [if_pos (by simpa using h1)]
    constructor
    · intro h; exact absurd h h1
    · intro h; exact absurd h.2.1 h1
theorem askErr_moved {q r : Ask} {t : Int} {ax : Nat} (h : askErr q = 0) (hm : Moved q r t ax) (ht : 0 ≤ t) (hl : r.cones.length ≤ 4) (hto : r.to_ ≤ 17592186044416) : askErr r = 0 := by
  rw [askErr_zero] at h ⊢
  obtain ⟨h1, h2, h3, h4⟩ := h
  rw [conesErr_zero] at h2
  refine ⟨hl, conesErr_zero.2 fun c hc => ?_, ?_, by rw [hm.least, hm.ban]; exact h4⟩
  · obtain ⟨d, hd, rfl⟩ := (hm.cones c).1 hc
    exact vec_rot d (h2 d hd) ax
  · rw [hm.to_] at hto ⊢
    rw [hm.from_]
    omega
/-- what Run gathers and sorts is what Scan tells -/
theorem run_eq {rs : List Row} {q : Ask} {li : List Nat} {roots : List Nd} {ls : List (Int × Int)} (hr : rowsErr rs = 0) (hp : (li ++ (roots.map Nd.all).flatten).Perm (List.range rs.length)) (hg : ∀ k ∈ roots, Good rs k)
    (hl : ls.Perm (li.flatMap (ansAt q rs) ++ kidsAns q rs roots)) (hs : ls.Pairwise fun a b => a.1 ≤ b.1) : ls = ansV rs q := by
  refine sorted_eq ?_ hs (ansV_sorted q (rowsErr_zero.1 hr).2.2)
  refine hl.trans ?_
  refine ((kidsAns_perm q rs roots hg).append_left _).trans ?_
  rw [← List.flatMap_append, ← ansAt_range]
  exact hp.flatMap_right _
end Sg
/-
  An index as it lies in memory; its levels while they are built. No program here.
-/
namespace Sg
open Go Go.Px
/-- a tree whose vectors hold what they are said to hold -/
inductive NdW (n : Nat) : Nd → Prop
  | mk {b : Nat} {box : Bx} {wh : Bd} {kv rv : Vec} {kids : List Nd} {rows : List Nat} (hkv : VecOK 1 84 kv) (hke : kv.es = kids.map fun k => [ptrV k.b]) (hrv : VecOK 1 3 rv) (hre : rv.es = rows.map idx)
      (hkl : kids.length < 1000000) (hrl : rows.length < 1000000) (hrr : ∀ i ∈ rows, i < n) (hks : ∀ k ∈ kids, NdW n k) : NdW n (.mk b box wh kv rv kids rows)
theorem elts_vec {m : Nat} {e : TypeId} {v : Vec} (hv : VecOK m e v) {w : World} (h : ∀ p ∈ v.own, w.heap[p.1]? = some p.2) :
    ∃ a cap, v.val = .slice a v.es.length cap ∧ Elts w a m v.es ∧ ∀ ad, a = some ad → v.es ≠ [] → ∃ o, (ad.block, o) ∈ v.own := by
  cases hv with
  | nil => exact ⟨none, 0, rfl, fun i l hl => by simp at hl, by simp⟩
  | @row b cap es rest hl hc hcap hr =>
    refine ⟨some ⟨b, 0, none⟩, cap, rfl, fun i l hl' => ⟨b, 0, rfl, fun j v hv => ?_⟩, fun ad ha _ => ⟨_, by cases ha; simp; rfl⟩⟩
    have hb := h (b, blk (es.flatten ++ rest) e) (by simp)
    have hf := flatten_get hl hl' hv
    rw [Nat.zero_add, cell_blk hb, List.getElem?_append_left (List.getElem?_eq_some_iff.1 hf).1]; exact hf
theorem mem_kidsOwn {k : Nd} {p : Px.Loc} (hp : p ∈ k.own) : ∀ {l : List Nd}, k ∈ l → p ∈ kidsOwn l
  | x :: l, h => by
    rw [kidsOwn]
    rcases List.mem_cons.1 h with rfl | h
    · exact List.mem_append_left _ hp
    · exact List.mem_append_right _ (mem_kidsOwn hp h)
theorem NdAt.of {n : Nat} {W : World} {X : List Nat} {nd : Nd} (h : NdW n nd) : (∀ p ∈ nd.own, W.heap[p.1]? = some p.2 ∧ p.1 ∉ X) → NdAt n W X nd := by
  induction h with
  | @mk b box wh kv rv kids rows hkv hke hrv hre hkl hrl hrr hks ih =>
    intro ho
    rw [Nd.own] at ho
    obtain ⟨ka, kc, k1, k2, k3⟩ := elts_vec hkv (w := W) (fun p hp => (ho p (by simp [hp])).1)
    obtain ⟨ra, rc, r1, r2, r3⟩ := elts_vec hrv (w := W) (fun p hp => (ho p (by simp [hp])).1)
    rw [hke] at k1 k2 k3
    rw [hre] at r1 r2 r3
    rw [List.length_map] at k1 r1
    refine .mk (ho _ (List.mem_cons_self ..)).1 (ho _ (List.mem_cons_self ..)).2 k1 r1 k2 r2 (fun a ha hn => ?_) (fun a ha hn => ?_) (fun k hk => ih k hk fun p hp => ho p ?_) hkl hrl hrr
    · obtain ⟨o, ho'⟩ := k3 a ha (by simpa using hn)
      exact (ho (a.block, o) (by simp [ho'])).2
    · obtain ⟨o, ho'⟩ := r3 a ha (by simpa using hn)
      exact (ho (a.block, o) (by simp [ho'])).2
    · have := mem_kidsOwn hp hk
      simp [this]
/-- what New makes -/
structure IdxOK (rs : List Row) (x1 rtv lv : Vec) (li : List Nat) (roots : List Nd) : Prop where
  vx : VecOK 18 52 x1
  like : Like x1.es rs
  vr : VecOK 1 84 rtv
  rte : rtv.es = roots.map fun k => [ptrV k.b]
  vl : VecOK 1 3 lv
  lve : lv.es = li.map idx
  nds : ∀ k ∈ roots, NdW rs.length k
  good : ∀ k ∈ roots, Good rs k
  perm : (li ++ (roots.map Nd.all).flatten).Perm (List.range rs.length)
  rl : roots.length ≤ rs.length
def idxOwn (ib : Nat) (level : Int) (x1 rtv lv : Vec) (roots : List Nd) : List Px.Loc := (ib, blk [x1.val, .int .i64 level, rtv.val, lv.val] 80) :: (kidsOwn roots ++ (rtv.own ++ (lv.own ++ x1.own)))
/-- nodes that hold all rows but the loose ones -/
structure Bag (rs : List Row) (li : List Nat) (ns : List Nod) : Prop where
  perm : (li ++ ((ns.map Nod.nd).map Nd.all).flatten).Perm (List.range rs.length)
  w : ∀ n ∈ ns, NdW rs.length n.nd
  g : ∀ n ∈ ns, Good rs n.nd
  h : ∀ n ∈ ns, HoldL rs n.nd.all n.box n.wh
  t : ∀ n ∈ ns, -9223372036854775808 ≤ n.t ∧ n.t ≤ 9223372036854775807
  le : ns.length ≤ rs.length
theorem Bag.of {rs : List Row} {li : List Nat} {ns : List Nod} (h : Inv1 rs li ns rs.length) (hs : rs.length ≤ 200) : Bag rs li ns := by
  have hall : ∀ n ∈ ns, n.nd.all = n.rows := fun n hn => by simp [Nod.nd, Nd.all, (h.ok n hn).2.1]
  refine ⟨?_, fun n hn => ?_, fun n hn => ?_, fun n hn => ?_, fun n hn => ⟨(h.ok n hn).1.t1, (h.ok n hn).1.t2⟩, h.le⟩
  · have : (ns.map Nod.nd).map Nd.all = ns.map (·.rows) := by rw [List.map_map]; exact List.map_congr_left fun n hn => hall n hn
    rw [this]; exact h.perm
  · obtain ⟨ho, hk, hh⟩ := h.ok n hn
    refine .mk ho.kv ho.ke ho.rv ho.re (by rw [hk]; simp) (by have := h.len.2 n hn; omega) (fun i hi => ?_) (by rw [hk]; simp)
    obtain ⟨r, hr, _⟩ := hh i hi
    exact (List.getElem?_eq_some_iff.1 hr).1
  · obtain ⟨ho, hk, hh⟩ := h.ok n hn
    exact .mk hh (by rw [hk]; simp) (by rw [hk]; simp)
  · rw [hall n hn]; exact (h.ok n hn).2.2
theorem Bag.reorder {rs : List Row} {li : List Nat} {ns ns' : List Nod} (h : Bag rs li ns) (hp : ns'.Perm ns) : Bag rs li ns' :=
  ⟨(List.Perm.append_left _ ((hp.map _).map _).flatten).trans h.perm, fun n hn => h.w n (hp.mem_iff.1 hn), fun n hn => h.g n (hp.mem_iff.1 hn), fun n hn => h.h n (hp.mem_iff.1 hn), fun n hn => h.t n (hp.mem_iff.1 hn), by rw [hp.length_eq]; exact h.le⟩
theorem HoldL.hull {rs : List Row} {l : List Nat} {b b2 : Bx} {t t2 : Bd} (h : HoldL rs l b t) : HoldL rs l (hullX b b2) (hullB t t2) := fun i hi => by
  obtain ⟨r, h1, h2⟩ := h i hi; exact ⟨r, h1, h2.hull⟩
theorem HoldL.hull2 {rs : List Row} {l : List Nat} {b b2 : Bx} {t t2 : Bd} (h : HoldL rs l b2 t2) : HoldL rs l (hullX b b2) (hullB t t2) := fun i hi => by
  obtain ⟨r, h1, h2⟩ := h i hi; exact ⟨r, h1, h2.hull2⟩
theorem HoldL.app {rs : List Row} {l l' : List Nat} {b : Bx} {t : Bd} (h : HoldL rs l b t) (h' : HoldL rs l' b t) : HoldL rs (l ++ l') b t := fun i hi => by
  rcases List.mem_append.1 hi with hi | hi
  · exact h i hi
  · exact h' i hi
theorem all_nd (n : Nod) : n.nd.all = n.rows ++ (n.kids.map Nd.all).flatten := by rw [Nod.nd, Nd.all]
/-- a node goes below one of the level above -/
theorem Bag.into {rs : List Row} {li : List Nat} {l1 l2 rem : List Nod} {u n : Nod} {kv : Vec} (h : Bag rs li ((l1 ++ u :: l2) ++ n :: rem)) (hkv : VecOK 1 84 kv) (hke : kv.es = u.kv.es ++ [[ptrV n.b]]) (hl : u.kids.length < 999999) :
    Bag rs li ((l1 ++ { u with box := hullX u.box n.box, wh := hullB u.wh n.wh, kv := kv, kids := u.kids ++ [n.nd] } :: l2) ++ rem) := by
  have hu := h.w u (by simp)
  have hn := h.w n (by simp)
  have gu := h.g u (by simp)
  have gn := h.g n (by simp)
  have hhu := h.h u (by simp)
  have hhn := h.h n (by simp)
  have htu := h.t u (by simp)
  have key : ∀ {P : Nod → Prop}, (∀ m ∈ ((l1 ++ u :: l2) ++ n :: rem), P m) → P { u with box := hullX u.box n.box, wh := hullB u.wh n.wh, kv := kv, kids := u.kids ++ [n.nd] } →
      ∀ m ∈ ((l1 ++ { u with box := hullX u.box n.box, wh := hullB u.wh n.wh, kv := kv, kids := u.kids ++ [n.nd] } :: l2) ++ rem), P m := fun h1 h2 m hm => by
    rcases List.mem_append.1 hm with hm | hm
    · rcases List.mem_append.1 hm with hm | hm
      · exact h1 m (by simp [hm])
      · rcases List.mem_cons.1 hm with rfl | hm
        · exact h2
        · exact h1 m (by simp [hm])
    · exact h1 m (by simp [hm])
  refine ⟨?_, key h.w ?_, key h.g ?_, key h.h ?_, key h.t htu, by have := h.le; simp at this ⊢; omega⟩
  · refine List.Perm.trans (List.Perm.append_left _ ?_) h.perm
    simp only [List.map_append, List.map_cons, List.flatten_append, List.flatten_cons, List.append_assoc, List.map_nil, List.flatten_nil, List.append_nil, all_nd]
    refine List.Perm.append_left _ (List.Perm.append_left _ (List.Perm.append_left _ ?_))
    have := (List.perm_append_comm (l₁ := n.rows ++ (n.kids.map Nd.all).flatten) (l₂ := ((l2.map Nod.nd).map Nd.all).flatten)).append_right ((rem.map Nod.nd).map Nd.all).flatten
    simpa only [List.append_assoc] using this
  · show NdW _ (Nd.mk ..)
    cases hu with
    | mk a1 a2 a3 a4 a5 a6 a7 a8 =>
      refine .mk hkv (by rw [hke, a2]; simp [Nod.nd, Nd.b]) a3 a4 (by simp; omega) a6 a7 fun k hk => ?_
      rcases List.mem_append.1 hk with hk | hk
      · exact a8 k hk
      · obtain rfl := List.mem_singleton.1 hk; exact hn
  · show Good _ (Nd.mk ..)
    cases gu with
    | mk a1 a2 a3 =>
      refine .mk a1.hull (fun k hk => ?_) fun k hk => ?_
      · rcases List.mem_append.1 hk with hk | hk
        · exact a2 k hk
        · obtain rfl := List.mem_singleton.1 hk; exact gn
      · rcases List.mem_append.1 hk with hk | hk
        · exact (a3 k hk).hull
        · obtain rfl := List.mem_singleton.1 hk; exact hhn.hull2
  · rw [all_nd] at hhu ⊢
    simp only [List.map_append, List.map_cons, List.map_nil, List.flatten_append, List.flatten_cons, List.flatten_nil, List.append_nil]
    rw [← List.append_assoc]
    exact (HoldL.hull hhu).app hhn.hull2
/-- a node is the first below one of the level above -/
theorem Bag.first {rs : List Row} {li : List Nat} {us rem : List Nod} {n : Nod} {kv : Vec} {t : Int} {b : Nat} (h : Bag rs li (us ++ n :: rem)) (hkv : VecOK 1 84 kv) (hke : kv.es = [[ptrV n.b]]) (ht : -9223372036854775808 ≤ t ∧ t ≤ 9223372036854775807) :
    Bag rs li ((us ++ [⟨t, b, n.box, n.wh, kv, Vec.nil, [n.nd], []⟩]) ++ rem) := by
  have hn := h.w n (by simp)
  have gn := h.g n (by simp)
  have hhn := h.h n (by simp)
  have key : ∀ {P : Nod → Prop}, (∀ m ∈ (us ++ n :: rem), P m) → P ⟨t, b, n.box, n.wh, kv, Vec.nil, [n.nd], []⟩ → ∀ m ∈ ((us ++ [⟨t, b, n.box, n.wh, kv, Vec.nil, [n.nd], []⟩]) ++ rem), P m := fun h1 h2 m hm => by
    rcases List.mem_append.1 hm with hm | hm
    · rcases List.mem_append.1 hm with hm | hm
      · exact h1 m (by simp [hm])
      · obtain rfl := List.mem_singleton.1 hm; exact h2
    · exact h1 m (by simp [hm])
  refine ⟨?_, key h.w ?_, key h.g ?_, key h.h ?_, key h.t ht, by have := h.le; simp at this ⊢; omega⟩
  · refine List.Perm.trans (List.Perm.append_left _ ?_) h.perm
    simp only [List.map_append, List.map_cons, List.flatten_append, List.flatten_cons, List.append_assoc, List.map_nil, List.flatten_nil, List.append_nil, all_nd, List.nil_append]
    exact .refl _
  · show NdW _ (Nd.mk ..)
    exact .mk hkv (by rw [hke]; rfl) .nil rfl (by simp) (by simp) (by simp) fun k hk => by obtain rfl := List.mem_singleton.1 hk; exact hn
  · show Good _ (Nd.mk ..)
    exact .mk (fun i hi => by simp at hi) (fun k hk => by obtain rfl := List.mem_singleton.1 hk; exact gn) (fun k hk => by obtain rfl := List.mem_singleton.1 hk; exact hhn)
  · rw [all_nd]; simpa using hhn
theorem reorder_of : ∀ {l : List Int} {ns : List Nod}, l.Perm (ns.map (·.t)) → ∃ ns' : List Nod, ns'.Perm ns ∧ ns'.map (·.t) = l
  | [], ns, h => ⟨[], by have := h.length_eq; simp at this; rw [List.eq_nil_of_length_eq_zero this.symm], rfl⟩
  | a :: l, ns, h => by
    obtain ⟨n, hn, ha⟩ := List.mem_map.1 (h.mem_iff.1 (List.mem_cons_self ..))
    obtain ⟨s, t, rfl⟩ := List.append_of_mem hn
    have h2 : l.Perm ((s ++ t).map (·.t)) := by
      have h3 : (a :: l).Perm (a :: (s ++ t).map (·.t)) := h.trans (by
        rw [← ha]
        simp only [List.map_append, List.map_cons]
        exact List.perm_middle)
      exact (List.perm_cons _).1 h3
    obtain ⟨ns', h4, h5⟩ := reorder_of (ns := s ++ t) h2
    exact ⟨n :: ns', (h4.cons n).trans List.perm_middle.symm, by simp [h5, ha]⟩
theorem nodsOwn_perm {l l' : List Nod} (h : l.Perm l') : (nodsOwn l).Perm (nodsOwn l') := by
  have e : ∀ l, nodsOwn l = l.flatMap Nod.own := fun l => by
    induction l with
    | nil => rfl
    | cons n l ih => rw [nodsOwn, ih, List.flatMap_cons]
  rw [e, e]; exact h.flatMap_right _
theorem kidsOwn_nods : ∀ (l : List Nod), kidsOwn (l.map Nod.nd) = nodsOwn l
  | [] => rfl
  | n :: l => by rw [List.map_cons, kidsOwn, nodsOwn, kidsOwn_nods l, Nod.own_nd]
theorem kidsOwn_app : ∀ (l l' : List Nd), kidsOwn (l ++ l') = kidsOwn l ++ kidsOwn l'
  | [], l' => rfl
  | k :: l, l' => by simp only [List.cons_append, kidsOwn, kidsOwn_app l l', List.append_assoc]
theorem key_eq {ns : List Nod} (hnd : (ns.map (·.t)).Nodup) {n m : Nod} (hn : n ∈ ns) (hm : m ∈ ns) (h : n.t = m.t) : n = m := by
  induction ns with
  | nil => simp at hn
  | cons x l ih =>
    rw [List.map_cons, List.nodup_cons] at hnd
    rcases List.mem_cons.1 hn with hn' | hn' <;> rcases List.mem_cons.1 hm with hm' | hm'
    · rw [hn', hm']
    · exact absurd (List.mem_map.2 ⟨m, hm', by rw [← h, hn']⟩) hnd.1
    · exact absurd (List.mem_map.2 ⟨n, hn', by rw [h, hm']⟩) hnd.1
    · exact ih hnd.2 hn' hm'
end Sg
/-
  The levels of an index: what one owns, in other orders. No program here.
-/
namespace Sg
open Go Go.Px
abbrev Nod.obj (n : Nod) : Px.Loc := (n.b, blk (nodeL n.box n.wh n.kv.val n.rv.val) 87)
abbrev Nod.below (n : Nod) : List Px.Loc := n.kv.own ++ (n.rv.own ++ kidsOwn n.kids)
theorem nods_takeK (n : Nod) (l1 l2 : List Nod) (q : List Px.Loc) : (nodsOwn (l1 ++ n :: l2) ++ q).Perm (n.obj :: (n.kv.own ++ (n.rv.own ++ (kidsOwn n.kids ++ (nodsOwn l1 ++ (nodsOwn l2 ++ q)))))) := by
  have := nods_take0 n l1 l2 q
  simpa only [Nod.own, List.cons_append, List.append_assoc] using this
theorem take_front (x y z : Px.Loc) (us rem : List Nod) (n : Nod) (q : List Px.Loc) : (x :: y :: z :: (nodsOwn us ++ (nodsOwn (n :: rem) ++ q))).Perm (n.obj :: x :: y :: z :: (nodsOwn us ++ (n.below ++ (nodsOwn rem ++ q)))) := by
  classical
  rw [List.perm_iff_count]; intro a
  simp only [Nod.obj, nodsOwn, Nod.own, List.count_append, List.count_cons]; omega
theorem put_kid {A : List (World × List Nat)} {w : World} {bU : Nat} {x y z : Px.Loc} {l1 l2 rem : List Nod} {u n : Nod} {kv : Vec} {b' : Bx} {t' : Bd} {q : List Px.Loc}
    (h : Cls A (z :: n.obj :: (bU, mObj (kvsOf (l1 ++ u :: l2))) :: x :: y :: (u.b, blk (nodeL b' t' kv.val u.rv.val) 87) :: (kv.own ++ (u.rv.own ++ (kidsOwn u.kids ++ (nodsOwn l1 ++ (nodsOwn l2 ++ (n.below ++ (nodsOwn rem ++ q)))))))) w) :
    Cls A ((bU, mObj (kvsOf (l1 ++ { u with box := b', wh := t', kv := kv, kids := u.kids ++ [n.nd] } :: l2))) :: x :: y :: (nodsOwn (l1 ++ { u with box := b', wh := t', kv := kv, kids := u.kids ++ [n.nd] } :: l2) ++ (nodsOwn rem ++ q))) w := by
  have h := h.thin (.d .r)
  rw [kvsOf_upd (n := u) (n' := { u with box := b', wh := t', kv := kv, kids := u.kids ++ [n.nd] }) rfl rfl]
  refine h.perm ?_
  classical
  rw [List.perm_iff_count]; intro a
  simp only [Nod.obj, nodsOwn_app, nodsOwn, Nod.own, kidsOwn_app, kidsOwn, Nod.own_nd, List.count_append, List.count_cons, List.count_nil]; omega
theorem put_first {A : List (World × List Nat)} {w : World} {bU nn bs : Nat} {t : Int} {x y : Px.Loc} {us rem : List Nod} {n : Nod} {q : List Px.Loc}
    (h : Cls A ((nn, blk (nodeL n.box n.wh (.slice (some ⟨bs, 0, none⟩) 1 1) (.slice none 0 0)) 87) :: (bs, blk [ptrV n.b] 84) :: n.obj :: (bU, mObj (kvsOf us ++ [(t, nn)])) :: x :: y :: (nodsOwn us ++ (n.below ++ (nodsOwn rem ++ q)))) w) :
    Cls A ((bU, mObj (kvsOf (us ++ [⟨t, nn, n.box, n.wh, ⟨.slice (some ⟨bs, 0, none⟩) 1 1, [[ptrV n.b]], [(bs, blk ([[ptrV n.b]].flatten ++ []) 84)]⟩, Vec.nil, [n.nd], []⟩]))) :: x :: y :: (nodsOwn (us ++ [⟨t, nn, n.box, n.wh, ⟨.slice (some ⟨bs, 0, none⟩) 1 1, [[ptrV n.b]], [(bs, blk ([[ptrV n.b]].flatten ++ []) 84)]⟩, Vec.nil, [n.nd], []⟩]) ++ (nodsOwn rem ++ q))) w := by
  rw [kvsOf_new]
  refine h.perm ?_
  classical
  rw [List.perm_iff_count]; intro a
  simp only [Nod.obj, nodsOwn_app, nodsOwn, Nod.own, kidsOwn, Nod.own_nd, Vec.nil, List.count_append, List.count_cons, List.count_nil, List.flatten_cons, List.flatten_nil, List.append_nil]; omega
theorem entry_cls {A : List (World × List Nat)} {w : World} {B x y z : Px.Loc} {ns rem : List Nod} {k q : List Px.Loc} (h : Cls A (B :: x :: y :: z :: (k ++ (nodsOwn ns ++ q))) w) (hp : rem.Perm ns) : Cls A (x :: y :: z :: (nodsOwn [] ++ (nodsOwn rem ++ (k ++ q)))) w := by
  have h := h.thin (.d .r)
  refine h.perm (((List.Perm.cons _ (List.Perm.cons _ (List.Perm.cons _ ?_)))))
  rw [nodsOwn, List.nil_append, ← List.append_assoc, ← List.append_assoc]
  refine List.Perm.append_right _ (List.perm_append_comm.trans ?_)
  exact List.Perm.append_right _ (nodsOwn_perm hp.symm)
theorem final_cls {A : List (World × List Nat)} {w : World} {m x : Px.Loc} {ns rem : List Nod} {r k q : List Px.Loc} (h : Cls A (m :: x :: (r ++ (nodsOwn ns ++ (k ++ q)))) w) (hp : rem.Perm ns) : Cls A (x :: (kidsOwn (rem.map Nod.nd) ++ (r ++ q))) w := by
  have h := h.thin (L' := x :: (r ++ (nodsOwn ns ++ q))) (.d (.k (.ka (.ka (.a .r)))))
  rw [kidsOwn_nods]
  refine h.perm (List.Perm.cons _ ?_)
  rw [← List.append_assoc, ← List.append_assoc]
  refine List.Perm.append_right _ (List.perm_append_comm.trans ?_)
  exact List.Perm.append_right _ (nodsOwn_perm hp.symm)
theorem NdW.kv {m : Nat} {u : Nod} (h : NdW m u.nd) : VecOK 1 84 u.kv ∧ u.kv.es = u.kids.map fun k => [ptrV k.b] := by
  unfold Nod.nd at h
  cases h with
  | mk a1 a2 a3 a4 a5 a6 a7 a8 => exact ⟨a1, a2⟩
theorem drop_nod {l : List Int} {j : Nat} {rem : List Nod} (h : l.drop j = rem.map (·.t)) (hj : j < l.length) : ∃ n rem', rem = n :: rem' ∧ l[j]? = some n.t ∧ l.drop (j + 1) = rem'.map (·.t) := by
  cases rem with
  | nil =>
    have := congrArg List.length h
    simp at this; omega
  | cons n rem' =>
    rw [List.drop_eq_getElem_cons hj, List.map_cons] at h
    injection h with h1 h2
    exact ⟨n, rem', rfl, by rw [List.getElem?_eq_getElem hj, h1], h2⟩
theorem lookup_key {ns : List Nod} (hnd : (ns.map (·.t)).Nodup) {n : Nod} (hn : n ∈ ns) {o : Option (Int × Nat)}
    (ho : (o = none ∧ ∀ p ∈ kvsOf ns, p.1 ≠ n.t) ∨ ∃ p l1 l2, o = some p ∧ kvsOf ns = l1 ++ p :: l2 ∧ p.1 = n.t) : o = some (n.t, n.b) := by
  rcases ho with ⟨_, h⟩ | ⟨p, l1, l2, rfl, h, hp⟩
  · exact absurd rfl (h (n.t, n.b) (List.mem_map.2 ⟨n, hn, rfl⟩))
  · obtain ⟨q1, m, q2, rfl, rfl⟩ := kvs_split h
    rw [key_eq hnd hn (by simp) hp.symm]
theorem kvs_keys (ns : List Nod) : (kvsOf ns).map (·.1) = ns.map (·.t) := by simp [kvsOf]
theorem kvs_noT {us : List Nod} {t : Int} (h : ∀ p ∈ kvsOf us, p.1 ≠ t) : t ∉ us.map (·.t) := fun hm => by
  obtain ⟨u, hu, rfl⟩ := List.mem_map.1 hm
  exact h (u.t, u.b) (List.mem_map.2 ⟨u, hu, rfl⟩) rfl
/-- what stands while the nodes of one level are put under those of the next -/
structure Lev (rs : List Row) (li : List Nat) (ns : List Nod) (ks : List Int) (us rem : List Nod) (j : Nat) : Prop where
  bag : Bag rs li (us ++ rem)
  nd : (us.map (·.t)).Nodup
  kl : ∀ u ∈ us, u.kids.length ≤ j
  sub : ∀ m ∈ rem, m ∈ ns
  keys : ks.drop j = rem.map (·.t)
  jl : j ≤ ks.length
theorem Lev.into {rs : List Row} {li : List Nat} {ns : List Nod} {ks : List Int} {l1 l2 rem : List Nod} {u n : Nod} {j : Nat} {kv : Vec} (h : Lev rs li ns ks (l1 ++ u :: l2) (n :: rem) j) (hks : ks.length ≤ 200) (hj : j < ks.length) (hd : ks.drop (j + 1) = rem.map (·.t)) (hkv : VecOK 1 84 kv) (hke : kv.es = u.kv.es ++ [[ptrV n.b]]) :
    Lev rs li ns ks (l1 ++ { u with box := hullX u.box n.box, wh := hullB u.wh n.wh, kv := kv, kids := u.kids ++ [n.nd] } :: l2) rem (j + 1) := by
  refine ⟨h.bag.into hkv hke (by have := h.kl u (by simp); omega), by have := h.nd; simpa using this, fun m hm => ?_, fun m hm => h.sub m (by simp [hm]), hd, hj⟩
  rcases List.mem_append.1 hm with hm | hm
  · have := h.kl m (by simp [hm]); omega
  · rcases List.mem_cons.1 hm with rfl | hm
    · have := h.kl u (by simp); simp; omega
    · have := h.kl m (by simp [hm]); omega
theorem Lev.first {rs : List Row} {li : List Nat} {ns : List Nod} {ks : List Int} {us rem : List Nod} {n : Nod} {j : Nat} {kv : Vec} {t : Int} {b : Nat} (h : Lev rs li ns ks us (n :: rem) j) (hj : j < ks.length) (hd : ks.drop (j + 1) = rem.map (·.t)) (hkv : VecOK 1 84 kv) (hke : kv.es = [[ptrV n.b]]) (ht : -9223372036854775808 ≤ t ∧ t ≤ 9223372036854775807)
    (hno : ∀ p ∈ kvsOf us, p.1 ≠ t) : Lev rs li ns ks (us ++ [⟨t, b, n.box, n.wh, kv, Vec.nil, [n.nd], []⟩]) rem (j + 1) := by
  refine ⟨h.bag.first hkv hke ht, ?_, fun m hm => ?_, fun m hm => h.sub m (by simp [hm]), hd, hj⟩
  · rw [List.map_append, List.nodup_append]
    refine ⟨h.nd, by simp, fun a ha c hc e => ?_⟩
    simp only [List.map_cons, List.map_nil, List.mem_singleton] at hc
    subst hc
    exact kvs_noT hno (e ▸ ha)
  · rcases List.mem_append.1 hm with hm | hm
    · have := h.kl m hm; omega
    · obtain rfl := List.mem_singleton.1 hm; simp
theorem Lev.start {rs : List Row} {li : List Nat} {ns rem : List Nod} {ks : List Int} (h : Bag rs li ns) (hp : rem.Perm ns) (hk : rem.map (·.t) = ks) : Lev rs li ns ks [] rem 0 :=
  ⟨by simpa using h.reorder hp, by simp, by simp, fun m hm => hp.mem_iff.1 hm, by rw [← hk]; rfl, Nat.zero_le _⟩
theorem Lev.done {rs : List Row} {li : List Nat} {ns us rem : List Nod} {ks : List Int} {j : Nat} (h : Lev rs li ns ks us rem j) (hj : ks.length ≤ j) : rem = [] ∧ Bag rs li us := by
  have h1 := h.keys
  rw [List.drop_of_length_le hj] at h1
  have h2 : rem = [] := by simpa using h1.symm
  subst h2
  exact ⟨rfl, by simpa using h.bag⟩
theorem IdxOK.of {rs : List Row} {li : List Nat} {ns rem : List Nod} {x1 rtv lv : Vec} (h : Bag rs li ns) (hp : rem.Perm ns) (h1 : VecOK 18 52 x1) (h2 : Like x1.es rs) (h3 : VecOK 1 84 rtv) (h4 : rtv.es = rem.map fun n => [ptrV n.b]) (h5 : VecOK 1 3 lv) (h6 : lv.es = li.map idx) : IdxOK rs x1 rtv lv li (rem.map Nod.nd) := by
  have h := h.reorder hp
  refine ⟨h1, h2, h3, by rw [h4, List.map_map]; rfl, h5, h6, fun k hk => ?_, fun k hk => ?_, h.perm, by simpa using h.le⟩
  · obtain ⟨n, hn, rfl⟩ := List.mem_map.1 hk; exact h.w n hn
  · obtain ⟨n, hn, rfl⟩ := List.mem_map.1 hk; exact h.g n hn
end Sg
