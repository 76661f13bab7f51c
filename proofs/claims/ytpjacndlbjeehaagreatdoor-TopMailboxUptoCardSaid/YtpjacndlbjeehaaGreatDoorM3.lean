/-
  Bytes, bits and zigzags as the machine reckons them; the checksum. No program here.
-/
import Derived.Test.YtpjacndlbjeehaaGreatDoorMK
set_option linter.unusedVariables false
set_option linter.unusedSimpArgs false
namespace Mb
open Go Go.Px
abbrev bC (x : Nat) : List Value := [.int .u8 (x : Int)]
theorem u8w (x : Int) : IntKind.u8.wrap x = x % 256 := by simp [IntKind.wrap, IntKind.bits, IntKind.signed]
theorem u64w (x : Int) : IntKind.u64.wrap x = x % 18446744073709551616 := by simp [IntKind.wrap, IntKind.bits, IntKind.signed]
theorem i64w (x : Int) : IntKind.i64.wrap x = if x % 18446744073709551616 ≥ 9223372036854775808 then x % 18446744073709551616 - 18446744073709551616 else x % 18446744073709551616 := by simp [IntKind.wrap, IntKind.bits, IntKind.signed]
theorem bor8 : ∀ x : Fin 256, (x.val ||| 128) = x.val % 128 + 128 := by decide +kernel
theorem bor128 (m : Nat) : Value.int .u8 (IntKind.u8.wrap (BitVec.ofInt IntKind.u8.bits (IntKind.u8.wrap (m : Int)) ||| BitVec.ofInt IntKind.u8.bits 128).toNat) = Value.int .u8 ((m % 128 + 128 : Nat) : Int) := by
  have e1 : (BitVec.ofInt 8 (IntKind.u8.wrap (m : Int))).toNat = m % 256 := by rw [u8w]; simp [BitVec.toNat_ofInt]; omega
  have e2 : (BitVec.ofInt 8 128).toNat = 128 := by decide
  rw [u8w]
  show Value.int .u8 (((BitVec.ofInt 8 (IntKind.u8.wrap (m : Int)) ||| BitVec.ofInt 8 128).toNat : Int) % 256) = _
  rw [BitVec.toNat_or, e1, e2]
  have := bor8 ⟨m % 256, by omega⟩
  simp only at this
  rw [this]
  congr 1
  omega
theorem shr7 (m : Nat) : Value.int .u64 (((m : Nat) : Int).fdiv (2 ^ (min (Int.toNat 7) IntKind.u64.bits))) = Value.int .u64 ((m / 128 : Nat) : Int) := by
  rw [show (2 : Int) ^ (min (Int.toNat 7) IntKind.u64.bits) = 128 by decide +kernel, Int.fdiv_eq_ediv_of_nonneg _ (by decide)]
  rfl
theorem conv8 {m : Nat} (h : m < 256) : Value.int .u8 (IntKind.u8.wrap (m : Int)) = Value.int .u8 (m : Int) := by rw [u8w]; congr 1; omega
theorem ofInt_toNat {x : Int} (h0 : 0 ≤ x) (h1 : x < 18446744073709551616) : ((BitVec.ofInt 64 x).toNat : Int) = x := by
  simp [BitVec.toNat_ofInt]; omega
theorem zigV {x : Int} (h0 : -2305843009213693952 ≤ x) (h1 : x ≤ 2305843009213693952) :
    Value.int .u64 (IntKind.u64.wrap (BitVec.ofInt IntKind.u64.bits (IntKind.u64.wrap (IntKind.i64.wrap (x * 2 ^ (min (Int.toNat 1) IntKind.i64.bits)))) ^^^ BitVec.ofInt IntKind.u64.bits (IntKind.u64.wrap (x.fdiv (2 ^ (min (Int.toNat 63) IntKind.i64.bits))))).toNat) = Value.int .u64 ((zig x : Nat) : Int) := by
  rw [show (2 : Int) ^ (min (Int.toNat 1) IntKind.i64.bits) = 2 by decide +kernel, show (2 : Int) ^ (min (Int.toNat 63) IntKind.i64.bits) = 9223372036854775808 by decide +kernel, Int.fdiv_eq_ediv_of_nonneg _ (by decide)]
  have e0 : IntKind.i64.wrap (x * 2) = x * 2 := by rw [i64w]; split <;> omega
  rw [e0, u64w (x * 2), u64w (x / 9223372036854775808)]
  rw [u64w]
  show Value.int .u64 (((BitVec.ofInt 64 (x * 2 % 18446744073709551616) ^^^ BitVec.ofInt 64 (x / 9223372036854775808 % 18446744073709551616)).toNat : Int) % _) = _
  by_cases hx : 0 ≤ x
  · have e1 : x / 9223372036854775808 % 18446744073709551616 = 0 := by omega
    rw [e1, show (BitVec.ofInt 64 0 : BitVec 64) = 0#64 by decide +kernel, BitVec.xor_zero, ofInt_toNat (by omega) (by omega)]
    congr 1
    unfold zig; rw [if_pos hx]; omega
  · have e1 : x / 9223372036854775808 % 18446744073709551616 = 18446744073709551615 := by omega
    rw [e1, show (BitVec.ofInt 64 18446744073709551615 : BitVec 64) = BitVec.allOnes 64 by decide +kernel, BitVec.xor_allOnes, BitVec.toNat_not]
    have := ofInt_toNat (x := x * 2 % 18446744073709551616) (by omega) (by omega)
    congr 1
    unfold zig; rw [if_neg hx]; omega
theorem conv64 {x : Int} (h0 : 0 ≤ x) (h1 : x < 9223372036854775808) : Value.int .u64 (IntKind.u64.wrap x) = Value.int .u64 ((x.toNat : Nat) : Int) := by rw [u64w]; congr 1; omega
/-! ### the checksum, as the machine reckons it -/
def bxor32 (a b : Int) : Int := IntKind.u32.wrap (BitVec.ofInt IntKind.u32.bits a ^^^ BitVec.ofInt IntKind.u32.bits b).toNat
def band32 (a b : Int) : Int := IntKind.u32.wrap (BitVec.ofInt IntKind.u32.bits a &&& BitVec.ofInt IntKind.u32.bits b).toNat
def bitStep (c : Int) : Int := if decide (band32 c 1 = 1) = true then bxor32 (c.fdiv (2 ^ (min (Int.toNat 1) IntKind.u32.bits))) 3988292384 else c.fdiv (2 ^ (min (Int.toNat 1) IntKind.u32.bits))
def stepK : Nat → Int → Int
  | 0, c => c
  | k + 1, c => stepK k (bitStep c)
def crcF : Int → List Nat → Int
  | c, [] => c
  | c, x :: l => crcF (stepK 8 (bxor32 c (IntKind.u32.wrap (x : Int)))) l
def crcV (l : List Nat) : Int := IntKind.u32.wrap (BitVec.ofInt IntKind.u32.bits (if IntKind.u32.signed then -1 else IntKind.u32.max) ^^^ BitVec.ofInt IntKind.u32.bits (crcF 4294967295 l)).toNat
theorem crcF_step {l : List Nat} {k x : Nat} {c : Int} (h : l[k]? = some x) : crcF c (l.drop k) = crcF (stepK 8 (bxor32 c (IntKind.u32.wrap (x : Int)))) (l.drop (k + 1)) := by
  obtain ⟨h1, h2⟩ := List.getElem?_eq_some_iff.1 h
  rw [List.drop_eq_getElem_cons h1, h2, crcF]
theorem crcF_end {l : List Nat} {k : Nat} {c : Int} (h : l.length ≤ k) : crcF c (l.drop k) = c := by rw [List.drop_of_length_le h, crcF]
/-! ### flags and checksums as bytes -/
def fl (a : Al) : Nat → Int
  | 0 => 0
  | 1 => if a.at_.u then 1 else 0
  | 2 => (if a.at_.u then 1 else 0) + (if a.ra.u then 2 else 0)
  | 3 => (if a.at_.u then 1 else 0) + (if a.ra.u then 2 else 0) + (if a.dec.u then 4 else 0)
  | _ => (if a.at_.u then 1 else 0) + (if a.ra.u then 2 else 0) + (if a.dec.u then 4 else 0) + (if a.flux.u then 8 else 0)
abbrev orI (a b : Int) : Int := IntKind.i64.wrap (BitVec.ofInt IntKind.i64.bits a ||| BitVec.ofInt IntKind.i64.bits b).toNat
abbrev shlI (a : Int) (k : Int) : Int := IntKind.i64.wrap (a * 2 ^ (min k.toNat IntKind.i64.bits))
theorem fl1 {a : Al} (h : a.at_.u = true) : orI (fl a 0) (shlI 1 0) = fl a 1 := by simp only [fl, h]; decide +kernel
theorem fl1n {a : Al} (h : a.at_.u = false) : fl a 0 = fl a 1 := by simp [fl, h]
theorem fl2 {a : Al} (h : a.ra.u = true) : orI (fl a 1) (shlI 1 1) = fl a 2 := by simp only [fl, h]; cases a.at_.u <;> decide +kernel
theorem fl2n {a : Al} (h : a.ra.u = false) : fl a 1 = fl a 2 := by simp [fl, h]
theorem fl3 {a : Al} (h : a.dec.u = true) : orI (fl a 2) (shlI 1 2) = fl a 3 := by simp only [fl, h]; cases a.at_.u <;> cases a.ra.u <;> decide +kernel
theorem fl3n {a : Al} (h : a.dec.u = false) : fl a 2 = fl a 3 := by simp [fl, h]
theorem fl4 {a : Al} (h : a.flux.u = true) : orI (fl a 3) (shlI 1 3) = fl a 4 := by simp only [fl, h]; cases a.at_.u <;> cases a.ra.u <;> cases a.dec.u <;> decide +kernel
theorem fl4n {a : Al} (h : a.flux.u = false) : fl a 3 = fl a 4 := by simp [fl, h]
theorem fl_flags (a : Al) : fl a 4 = (flagsOf a : Int) := by unfold flagsOf fl; cases a.at_.u <;> cases a.ra.u <;> cases a.dec.u <;> cases a.flux.u <;> rfl
theorem flags_lt (a : Al) : flagsOf a < 16 := by unfold flagsOf; cases a.at_.u <;> cases a.ra.u <;> cases a.dec.u <;> cases a.flux.u <;> simp
theorem kf : ∀ (k : Fin 8) (f : Fin 16), IntKind.u8.wrap (orI (k.val : Int) (shlI (f.val : Int) 4)) = ((k.val + 16 * f.val : Nat) : Int) := by decide +kernel
theorem kindFlags {a : Al} (h : AlOK a) : Value.int .u8 (IntKind.u8.wrap (orI a.kind (shlI (fl a 4) 4))) = Value.int .u8 ((a.kind.toNat + 16 * flagsOf a : Nat) : Int) := by
  have h1 := h.k1
  have h2 := h.k2
  have := kf ⟨a.kind.toNat, by omega⟩ ⟨flagsOf a, flags_lt a⟩
  simp only [Int.toNat_of_nonneg (show 0 ≤ a.kind by omega)] at this
  rw [fl_flags, this]
def crcB (s : Int) : List Nat := [(IntKind.u8.wrap (s.fdiv (2 ^ (min (Int.toNat 24) IntKind.u32.bits)))).toNat, (IntKind.u8.wrap (s.fdiv (2 ^ (min (Int.toNat 16) IntKind.u32.bits)))).toNat, (IntKind.u8.wrap (s.fdiv (2 ^ (min (Int.toNat 8) IntKind.u32.bits)))).toNat, (IntKind.u8.wrap s).toNat]
theorem u8nat (x : Int) : Value.int .u8 (IntKind.u8.wrap x) = Value.int .u8 (((IntKind.u8.wrap x).toNat : Nat) : Int) := by rw [u8w]; congr 1; omega
def packB (a : Al) : List Nat := bodyB a ++ crcB (crcV (bodyB a))
theorem bodyB_len {a : Al} (h : AlOK a) : (bodyB a).length ≤ 200 := by
  have e : ∀ b : Bd, BdOK b → (endsB b).length ≤ 20 := fun b hb => by
    have h1 := hb.lo
    have h2 := hb.hi
    have h3 := hb.le
    unfold endsB
    split
    · simp
    · rw [List.length_append]
      have := numB_len 8 (zig b.lo) (by unfold zig; split <;> omega)
      have := numB_len 8 (b.hi - b.lo).toNat (by omega)
      omega
  have e1 := e _ h.at_
  have e2 := e _ h.ra
  have e3 := e _ h.dec
  have e4 := e _ h.flux
  have h1 := h.id2
  have h2 := h.ob2
  have h3 := h.of2
  have e5 := numB_len 8 a.id.toNat (by omega)
  have e6 := numB_len 8 a.object.toNat (by omega)
  have e7 := numB_len 8 a.of_.toNat (by omega)
  unfold bodyB
  simp only [List.length_cons, List.length_append]
  split
  · omega
  · simp only [List.length_append]; omega
end Mb
