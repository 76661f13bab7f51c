/-
  Flags and bytes read back. No program here.
-/
import Derived.Test.YtpjacndlbjeehaaGreatDoorM4
set_option linter.unusedVariables false
set_option linter.unusedSimpArgs false
namespace Mb
open Go Go.Px
theorem kfI : ∀ (k : Fin 8) (f : Fin 16), IntKind.i64.wrap ((k.val + 16 * f.val : Nat) : Int) = ((k.val + 16 * f.val : Nat) : Int) ∧ (((k.val + 16 * f.val : Nat) : Int).fdiv (2 ^ (min (Int.toNat 4) IntKind.i64.bits)) = (f.val : Int)) ∧ IntKind.i64.wrap (BitVec.ofInt IntKind.i64.bits ((k.val + 16 * f.val : Nat) : Int) &&& BitVec.ofInt IntKind.i64.bits 15).toNat = (k.val : Int) := by decide +kernel
theorem kf_at {a : Al} (h : AlOK a) : IntKind.i64.wrap ((a.kind.toNat + 16 * flagsOf a : Nat) : Int) = ((a.kind.toNat + 16 * flagsOf a : Nat) : Int) ∧ (((a.kind.toNat + 16 * flagsOf a : Nat) : Int).fdiv (2 ^ (min (Int.toNat 4) IntKind.i64.bits)) = (flagsOf a : Int)) ∧ IntKind.i64.wrap (BitVec.ofInt IntKind.i64.bits ((a.kind.toNat + 16 * flagsOf a : Nat) : Int) &&& BitVec.ofInt IntKind.i64.bits 15).toNat = a.kind := by
  have h1 := h.k1
  have h2 := h.k2
  have := kfI ⟨a.kind.toNat, by omega⟩ ⟨flagsOf a, flags_lt a⟩
  simp only at this
  rw [show ((a.kind.toNat : Nat) : Int) = a.kind by omega] at this
  exact this
theorem convK {a : Al} (h : AlOK a) : Value.int .i64 (IntKind.i64.wrap ((a.kind.toNat + 16 * flagsOf a : Nat) : Int)) = Value.int .i64 ((a.kind.toNat + 16 * flagsOf a : Nat) : Int) := congrArg _ (kf_at h).1
theorem flagsSh {a : Al} (h : AlOK a) : Value.int .i64 (((a.kind.toNat + 16 * flagsOf a : Nat) : Int).fdiv (2 ^ (min (Int.toNat 4) IntKind.i64.bits))) = Value.int .i64 (flagsOf a : Int) := congrArg _ (kf_at h).2.1
theorem kindOf {a : Al} (h : AlOK a) : Value.int .i64 (IntKind.i64.wrap (BitVec.ofInt IntKind.i64.bits ((a.kind.toNat + 16 * flagsOf a : Nat) : Int) &&& BitVec.ofInt IntKind.i64.bits 15).toNat) = Value.int .i64 a.kind := congrArg _ (kf_at h).2.2
theorem flagBit1 (a : Al) : Value.bool (decide (0 < IntKind.i64.wrap (BitVec.ofInt IntKind.i64.bits (flagsOf a : Int) &&& BitVec.ofInt IntKind.i64.bits 1).toNat)) = .bool a.at_.u := by
  refine congrArg Value.bool ?_
  unfold flagsOf; cases a.at_.u <;> cases a.ra.u <;> cases a.dec.u <;> cases a.flux.u <;> decide +kernel
theorem flagBit2 (a : Al) : Value.bool (decide (0 < IntKind.i64.wrap (BitVec.ofInt IntKind.i64.bits (flagsOf a : Int) &&& BitVec.ofInt IntKind.i64.bits 2).toNat)) = .bool a.ra.u := by
  refine congrArg Value.bool ?_
  unfold flagsOf; cases a.at_.u <;> cases a.ra.u <;> cases a.dec.u <;> cases a.flux.u <;> decide +kernel
theorem flagBit4 (a : Al) : Value.bool (decide (0 < IntKind.i64.wrap (BitVec.ofInt IntKind.i64.bits (flagsOf a : Int) &&& BitVec.ofInt IntKind.i64.bits 4).toNat)) = .bool a.dec.u := by
  refine congrArg Value.bool ?_
  unfold flagsOf; cases a.at_.u <;> cases a.ra.u <;> cases a.dec.u <;> cases a.flux.u <;> decide +kernel
theorem flagBit8 (a : Al) : Value.bool (decide (0 < IntKind.i64.wrap (BitVec.ofInt IntKind.i64.bits (flagsOf a : Int) &&& BitVec.ofInt IntKind.i64.bits 8).toNat)) = .bool a.flux.u := by
  refine congrArg Value.bool ?_
  unfold flagsOf; cases a.at_.u <;> cases a.ra.u <;> cases a.dec.u <;> cases a.flux.u <;> decide +kernel
theorem flags6 {a : Al} (h : AlOK a) (hk : a.kind = 6) : flagsOf a ≤ 1 := by
  obtain ⟨_, _, _, h4, h5, h6⟩ := h.rt hk
  unfold flagsOf
  rw [h4, h5, h6]
  cases a.at_.u <;> simp
theorem neqC {x y : Int} (h : x = y) : Value.bool (!decide (x = y)) = .bool false := by simp [h]
theorem shr0 (s : Int) : s.fdiv (2 ^ (min (Int.toNat 0) IntKind.u32.bits)) = s := by
  rw [show (2 : Int) ^ (min (Int.toNat 0) IntKind.u32.bits) = 1 by decide +kernel]
  simp
theorem clsNew {A : List (World × List Nat)} {L : List Px.Loc} {W w : World} {b : Nat} {o : Obj} (hw : Cls A L w) (hA : Mem A (W, [])) (hL : Mem L (b, o)) : W.heap.size ≤ b := by
  rcases hw.own _ hA.mem _ hL.mem with h | h
  · simp at h
  · exact h
theorem elts_pre {w : World} {ad : Option Addr} {m : Nat} {p q : List (List Value)} (h : Elts w ad m (p ++ q)) : Elts w ad m p := fun i l hl => h i l (by
  rw [List.getElem?_append_left (List.getElem?_eq_some_iff.1 hl).1]; exact hl)
theorem al_rt {a : Al} (h : AlOK a) (hk : a.kind = 6) : (⟨((a.id.toNat : Nat) : Int), a.kind, 0, ⟨a.at_.lo, a.at_.hi, a.at_.u⟩, ⟨0, 0, false⟩, ⟨0, 0, false⟩, ⟨0, 0, false⟩, ((a.of_.toNat : Nat) : Int)⟩ : Al) = a := by
  obtain ⟨_, _, h3, h4, h5, h6⟩ := h.rt hk
  have h1 := h.id1
  have h2 := h.of1
  rw [Int.toNat_of_nonneg (by omega), Int.toNat_of_nonneg (by omega)]
  cases a
  simp_all
theorem al_nr {a : Al} (h : AlOK a) (hk : a.kind ≠ 6) : (⟨((a.id.toNat : Nat) : Int), a.kind, ((a.object.toNat : Nat) : Int), ⟨a.at_.lo, a.at_.hi, a.at_.u⟩, ⟨a.ra.lo, a.ra.hi, a.ra.u⟩, ⟨a.dec.lo, a.dec.hi, a.dec.u⟩, ⟨a.flux.lo, a.flux.hi, a.flux.u⟩, 0⟩ : Al) = a := by
  have h3 := h.nr hk
  have h1 := h.id1
  have h2 := h.ob1
  rw [Int.toNat_of_nonneg (by omega), Int.toNat_of_nonneg (by omega)]
  cases a
  simp_all
end Mb
