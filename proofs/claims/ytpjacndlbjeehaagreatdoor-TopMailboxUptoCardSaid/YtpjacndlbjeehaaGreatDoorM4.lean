/-
  Reading bytes back: numbers, zigzags. No program here.
-/
import Derived.Test.YtpjacndlbjeehaaGreatDoorM3
import Derived.Test.YtpjacndlbjeehaaGreatDoorPx11
set_option linter.unusedVariables false
set_option linter.unusedSimpArgs false
namespace Mb
open Go Go.Px
/-- the first byte of a number -/
def b0 (m : Nat) : Nat := if m < 128 then m else m % 128 + 128
theorem b0_lt (m : Nat) : b0 m < 256 := by unfold b0; split <;> omega
theorem numB_b0 (m : Nat) : numB m = b0 m :: (if m < 128 then [] else numB (m / 128)) := by
  by_cases h : m < 128
  · rw [numB_small h, b0, if_pos h, if_pos h]
  · rw [numB_big h, b0, if_neg h, if_neg h]
theorem drop_head {l r : List Nat} {i x : Nat} (h : l.drop i = x :: r) : l[i]? = some x ∧ l.drop (i + 1) = r := by
  constructor
  · have := congrArg (·[0]?) h
    simpa using this
  · have := congrArg (List.drop 1) h
    simpa [List.drop_drop, Nat.add_comm] using this
theorem drop_app {l p r : List Nat} {i : Nat} (h : l.drop i = p ++ r) : l.drop (i + p.length) = r := by
  have := congrArg (List.drop p.length) h
  simpa [List.drop_drop, Nat.add_comm] using this
theorem drop_lt {l r : List Nat} {i x : Nat} (h : l.drop i = x :: r) : i < l.length := by
  have := congrArg List.length h
  simp at this
  omega
theorem and127 : ∀ x : Fin 256, (x.val &&& 127) = x.val % 128 := by decide +kernel
theorem b0_mod (m : Nat) : b0 m % 128 = m % 128 := by unfold b0; split <;> omega
/-- what has been read of n when j bytes are read -/
def accN (n : Nat) : Nat → Nat
  | 0 => 0
  | j + 1 => n % 128 ^ (j + 1)
theorem accN_eq (n : Nat) : ∀ j, accN n j = n % 128 ^ j
  | 0 => by rw [Nat.pow_zero, Nat.mod_one]; rfl
  | j + 1 => rfl
theorem accStep {n j : Nat} (hn : n < 9223372036854775808) (hj : j ≤ 8) :
    Value.int .u64 (IntKind.u64.wrap (BitVec.ofInt IntKind.u64.bits ((accN n j : Nat) : Int) ||| BitVec.ofInt IntKind.u64.bits (IntKind.u64.wrap (IntKind.u64.wrap (IntKind.u8.wrap (BitVec.ofInt IntKind.u8.bits ((b0 (n / 128 ^ j) : Nat) : Int) &&& BitVec.ofInt IntKind.u8.bits 127).toNat) * 2 ^ (min (Int.toNat ((7 * j : Nat) : Int)) IntKind.u64.bits)))).toNat) = Value.int .u64 ((accN n (j + 1) : Nat) : Int) := by
  rw [accN_eq, accN_eq]
  have hb := b0_lt (n / 128 ^ j)
  have e1 : (BitVec.ofInt IntKind.u8.bits ((b0 (n / 128 ^ j) : Nat) : Int) &&& BitVec.ofInt IntKind.u8.bits 127).toNat = n / 128 ^ j % 128 := by
    show (BitVec.ofInt 8 ((b0 (n / 128 ^ j) : Nat) : Int) &&& BitVec.ofInt 8 127).toNat = _
    rw [BitVec.toNat_and, show (BitVec.ofInt 8 127).toNat = 127 by decide, show (BitVec.ofInt 8 ((b0 (n / 128 ^ j) : Nat) : Int)).toNat = b0 (n / 128 ^ j) by simp [BitVec.toNat_ofInt]; omega]
    rw [and127 ⟨_, hb⟩, b0_mod]
  rw [e1]
  have hs : min (Int.toNat ((7 * j : Nat) : Int)) IntKind.u64.bits = 7 * j := by
    show min (Int.toNat ((7 * j : Nat) : Int)) 64 = _
    rw [Int.toNat_natCast]; omega
  rw [hs]
  have hp : (2 : Nat) ^ (7 * j) = 128 ^ j := by rw [Nat.pow_mul]
  have hpos : 0 < 128 ^ j := Nat.pow_pos (by decide)
  have hsum : n % 128 ^ (j + 1) = 128 ^ j * (n / 128 ^ j % 128) + n % 128 ^ j := by
    rw [Nat.pow_succ, Nat.mod_mul]; omega
  have hle : n % 128 ^ (j + 1) ≤ n := Nat.mod_le _ _
  have hlt := Nat.mod_lt n hpos
  generalize hA : n % 128 ^ j = A at *
  generalize hM : n / 128 ^ j % 128 = M at *
  have hM7 : M < 128 := by omega
  have e2 : IntKind.u64.wrap (IntKind.u64.wrap (IntKind.u8.wrap (M : Int)) * 2 ^ (7 * j)) = ((128 ^ j * M : Nat) : Int) := by
    rw [u8w, show ((M : Int) % 256) = M by omega, u64w (M : Int), show ((M : Int) % 18446744073709551616) = M by omega]
    have : (M : Int) * 2 ^ (7 * j) = ((128 ^ j * M : Nat) : Int) := by
      rw [← hp]; push_cast; exact Int.mul_comm _ _
    rw [this, u64w]
    omega
  rw [e2]
  show Value.int .u64 (IntKind.u64.wrap ((BitVec.ofInt 64 ((A : Nat) : Int) ||| BitVec.ofInt 64 ((128 ^ j * M : Nat) : Int)).toNat : Int)) = _
  rw [BitVec.toNat_or, show (BitVec.ofInt 64 ((A : Nat) : Int)).toNat = A by simp [BitVec.toNat_ofInt]; omega, show (BitVec.ofInt 64 ((128 ^ j * M : Nat) : Int)).toNat = 128 ^ j * M by rw [BitVec.toNat_ofInt]; omega]
  have e3 : A ||| 128 ^ j * M = 128 ^ j * M + A := by
    rw [Nat.or_comm, ← hp, Nat.mul_comm, ← Nat.shiftLeft_eq]
    exact (Nat.shiftLeft_add_eq_or_of_lt (by rw [hp]; exact hlt) M).symm
  rw [e3, hsum, u64w]
  congr 1
  omega
theorem accEnd {n j : Nat} (h : n / 128 ^ j < 128) : accN n (j + 1) = n := by
  have hp : 0 < 128 ^ j := Nat.pow_pos (by decide)
  have h1 : n < 128 ^ j * 128 := by rw [Nat.mul_comm]; exact (Nat.div_lt_iff_lt_mul hp).1 h
  show n % 128 ^ (j + 1) = n
  rw [Nat.pow_succ]; exact Nat.mod_eq_of_lt h1
theorem notLast {n j : Nat} (h : j ≤ 8) (h0 : j = 0 ∨ 0 < n / 128 ^ j) (hb : (decide (((7 * j : Nat) : Int) = 63) || decide (((b0 (n / 128 ^ j) : Nat) : Int) = 0) && decide (0 < ((7 * j : Nat) : Int))) = true) : False := by
  simp only [Bool.or_eq_true, Bool.and_eq_true, decide_eq_true_eq] at hb
  rcases hb with hb | ⟨h1, h2⟩
  · omega
  · have : b0 (n / 128 ^ j) = 0 := by omega
    unfold b0 at this
    split at this <;> omega
theorem convI {n : Nat} (hn : n < 9223372036854775808) : Value.int .i64 (IntKind.i64.wrap (n : Int)) = Value.int .i64 (n : Int) := by
  rw [i64w]; congr 1; split <;> omega
theorem band1 {z : Nat} (h : z < 9223372036854775808) : IntKind.i64.wrap (BitVec.ofInt IntKind.i64.bits (z : Int) &&& BitVec.ofInt IntKind.i64.bits 1).toNat = ((z % 2 : Nat) : Int) := by
  show IntKind.i64.wrap ((BitVec.ofInt 64 (z : Int) &&& BitVec.ofInt 64 1).toNat : Int) = _
  rw [BitVec.toNat_and, show (BitVec.ofInt 64 1).toNat = 1 by decide, show (BitVec.ofInt 64 (z : Int)).toNat = z by simp [BitVec.toNat_ofInt]; omega, Nat.and_one_is_mod, i64w]
  split <;> omega
theorem unzig {x : Int} (h0 : -2305843009213693952 ≤ x) (h1 : x ≤ 2305843009213693952) :
    Value.int .i64 (IntKind.i64.wrap (BitVec.ofInt IntKind.i64.bits (((zig x : Nat) : Int).fdiv (2 ^ (min (Int.toNat 1) IntKind.i64.bits))) ^^^ BitVec.ofInt IntKind.i64.bits (IntKind.i64.wrap (0 - (IntKind.i64.wrap (BitVec.ofInt IntKind.i64.bits ((zig x : Nat) : Int) &&& BitVec.ofInt IntKind.i64.bits 1).toNat)))).toNat) = Value.int .i64 x := by
  have hz : zig x < 9223372036854775808 := by unfold zig; split <;> omega
  rw [band1 hz, show (2 : Int) ^ (min (Int.toNat 1) IntKind.i64.bits) = 2 by decide +kernel, Int.fdiv_eq_ediv_of_nonneg _ (by decide), zig_half]
  show Value.int .i64 (IntKind.i64.wrap ((BitVec.ofInt 64 _ ^^^ BitVec.ofInt 64 _).toNat : Int)) = _
  have hm := zig_odd x
  by_cases hx : 0 ≤ x
  · rw [if_pos hx] at hm
    have e : ((zig x % 2 : Nat) : Int) = 0 := by omega
    rw [e, if_pos hx, show IntKind.i64.wrap (0 - 0) = 0 by decide +kernel, show (BitVec.ofInt 64 0 : BitVec 64) = 0#64 by decide +kernel, BitVec.xor_zero, ofInt_toNat hx (by omega), i64w]
    congr 1
    split <;> omega
  · rw [if_neg hx] at hm
    have e : ((zig x % 2 : Nat) : Int) = 1 := by omega
    rw [e, if_neg hx, show IntKind.i64.wrap (0 - 1) = -1 by decide +kernel, show (BitVec.ofInt 64 (-1) : BitVec 64) = BitVec.allOnes 64 by decide +kernel, BitVec.xor_allOnes, BitVec.toNat_not]
    have := ofInt_toNat (x := -x - 1) (by omega) (by omega)
    rw [i64w]
    congr 1
    split <;> omega
theorem pred64 {i : Nat} (h : i < 1000000) : Value.int .i64 (IntKind.i64.wrap (((i + 1 : Nat) : Int) - 1)) = Value.int .i64 ((i : Nat) : Int) := lit64 (by omega) (by omega) (by omega)
theorem add7 {j : Nat} (h : j ≤ 8) : Value.int .i64 (IntKind.i64.wrap (((7 * j : Nat) : Int) + 7)) = Value.int .i64 ((7 * (j + 1) : Nat) : Int) := lit64 (by omega) (by omega) (by omega)
theorem small9 {n j : Nat} (hn : n < 9223372036854775808) (hm : ¬ n / 128 ^ j < 128) (hj : j ≤ 8) : j < 8 := by
  by_cases h : j = 8
  · subst h
    exfalso
    apply hm
    omega
  · omega
/-- a reader in memory, over bytes that an older world has -/
abbrev rdO (S : Value) (i : Nat) : Obj := blk [S, .int .i64 ((i : Nat) : Int), .int .i64 0] 88
theorem startBW {W w : World} {rb : Nat} {o : Obj} (hb : w.heap[rb]? = some o) (hK : Keeps W [] w) (hs : W.heap.size ≤ rb) : Cls [(w, [rb]), (W, [])] [(rb, o)] w :=
  ⟨fun p hp => by
      simp at hp
      rcases hp with rfl | rfl
      · exact Keeps.refl w _
      · exact hK,
    fun p hp => by simp at hp; subst hp; exact hb, by simp, fun p hp l hl => by
      simp at hp hl
      subst hl
      rcases hp with rfl | rfl
      · exact .inl (by simp)
      · exact .inr hs⟩
end Mb
