/-
  Px, part 5: loops whose class stays; reading what was there; numbers.
-/
import Derived.Test.YtpjacndlbjeehaaGreatDoorPx4
import Derived.IntWalk
namespace Go.Px
open Go Go.RowKit
set_option linter.unusedVariables false
set_option linter.unusedSimpArgs false
def app : Env → Env → Env
  | [], r => r
  | x :: l, r => x :: app l r
section
variable {P : Program} {Q : Exit → Act → World → Prop} {n : Nat} {D : List Deferred} {ρ ρ0 : Env} {C : World → Prop} {A : List (World × List Nat)} {L : List Loc} {ty : TypeId} {pos : String} {af : Array Edge} {dst : Option Tmp} {g : Option (Nat × Bool)}
theorem picks_self : ∀ ρ : Env, ∀ t v, ρ.get? t = some v → ρ.get? t = some v := fun _ _ _ h => h
theorem CJ.picked {c : Code} {ρ' : Env} (hρ : ∀ t v, ρ'.get? t = some v → ρ.get? t = some v) (h : CJ P c Q n D ρ' C) : CJ P c Q n D ρ C := fun a w ha hw => h a w (ha.of_all hρ) hw
open Classical in
theorem c_loopC {c : Code} {α : Type} (I : α → Prop) (upd : α → Env) (μ : α → Nat) (x0 : α) (h0 : I x0)
    (round : ∀ x, I x → CJ P c (Exit.then (again n D I (fun x => app (upd x) ρ0) (fun _ => C) μ (μ x)) Q) n D (app (upd x) ρ0) C) : CJ P (.loop c) Q n D (app (upd x0) ρ0) C := fun a w ha hw => by
  let J : Act → World → Nat → Prop := fun a w m => ∃ x, I x ∧ μ x = m ∧ AgT n D (app (upd x) ρ0) a ∧ C w
  let M : Act → World → Nat := fun a w => if h : ∃ m, J a w m then Classical.choose (least_of h) else 0
  refine wp_loop (fun a w => ∃ m, J a w m) M ⟨_, x0, h0, rfl, ha, hw⟩ ?_
  intro a w hJ
  have hM : M a w = Classical.choose (least_of hJ) := dif_pos hJ
  obtain ⟨x, hx, hm, ha', hw'⟩ := (Classical.choose_spec (least_of hJ)).1
  refine wp_mono (round x hx a w ha' hw') fun e a2 w2 hq => ?_
  cases e with
  | normal =>
    obtain ⟨y, hy, hlt, ha2, hw2⟩ := hq
    have hJ2 : ∃ m, J a2 w2 m := ⟨_, y, hy, rfl, ha2, hw2⟩
    have hM2 : M a2 w2 = Classical.choose (least_of hJ2) := dif_pos hJ2
    refine ⟨hJ2, ?_⟩
    rw [hM, hM2]
    have h1 := (Classical.choose_spec (least_of hJ2)).2 (μ y) ⟨y, hy, rfl, ha2, hw2⟩
    omega
  | exit id => exact hq
  | goto l => exact hq
  | ret => exact hq
  | panic c => exact hq
  | outgrown => exact hq
/-! ### what was there -/
theorem block_of_cell {w : World} {a : Addr} {v : Value} (h : w.cell? a = some v) : a.block < w.heap.size := by
  unfold World.cell? at h
  cases hb : w.heap[a.block]? with
  | none => rw [hb] at h; simp at h
  | some o => exact (Array.getElem?_eq_some_iff.1 hb).1
theorem Keeps.cell {W : World} {X : List Nat} {w : World} (h : Keeps W X w) {a : Addr} {v : Value} (hc : W.cell? a = some v) (hx : a.block ∉ X) : w.cell? a = some v := by
  have := h.block a.block (block_of_cell hc) hx
  unfold World.cell? at *
  rw [this]; exact hc
theorem Gr.cell {W w : World} (h : Gr W w) {a : Addr} {v : Value} (hc : W.cell? a = some v) : w.cell? a = some v :=
  (Keeps.of_gr h []).cell hc (by simp)
theorem Cls.gr {W w : World} (h : Cls A L w) (hA : Mem A (W, [])) : Gr W w := (h.anc _ hA.mem).below
theorem LoadAt.aggF {W : World} {t m : Nat} {z : Value} {l : List Value} {ad : Addr} (hA : Mem A (W, [])) (ht : Ty P t m true z) (hl : l.length = m) (h : ∀ i v, l[i]? = some v → W.cell? (ad.add i) = some v) : LoadAt P t (Cls A L) ad (.agg l.toArray) :=
  .agg ht hl fun w hw i v hv => (hw.gr hA).cell (h i v hv)
theorem LoadAt.oneF {W : World} {t m : Nat} {z v : Value} {ad : Addr} (hA : Mem A (W, [])) (ht : Ty P t m false z) (h : W.cell? ad = some v) : LoadAt P t (Cls A L) ad v :=
  .one ht fun w hw => (hw.gr hA).cell h
/-- elements of m cells each, from address a on -/
def Elts (w : World) (a : Option Addr) (m : Nat) (ls : List (List Value)) : Prop :=
  ∀ i l, ls[i]? = some l → ∃ b o, a = some ⟨b, o, none⟩ ∧ ∀ j v, l[j]? = some v → w.cell? ⟨b, o + i * m + j, none⟩ = some v
theorem Elts.gr {w w' : World} {a : Option Addr} {m : Nat} {ls : List (List Value)} (h : Elts w a m ls) (g : Gr w w') : Elts w' a m ls := fun i l hl => by
  obtain ⟨b, o, e, hc⟩ := h i l hl
  exact ⟨b, o, e, fun j v hv => g.cell (hc j v hv)⟩
theorem elt_load {w : World} {b o m k : Nat} {l : List Value} (h : ∀ j v, l[j]? = some v → w.cell? ⟨b, o + k * m + j, none⟩ = some v) : ∀ i v, l[i]? = some v → w.cell? ((⟨b, o + ((k : Nat) : Int).toNat * m, none⟩ : Addr).add i) = some v := fun i v hv => by
  rw [add_at, Int.toNat_natCast]; exact h i v hv
/-- elements of one cell that are whole numbers of 64 bits -/
def Ints (w : World) (a : Option Addr) (xs : List Int) : Prop := Elts w a 1 (xs.map fun x => [.int .i64 x])
theorem Ints.at_ {w : World} {a : Option Addr} {xs : List Int} (h : Ints w a xs) {i : Nat} {x : Int} (hx : xs[i]? = some x) : ∃ b o, a = some ⟨b, o, none⟩ ∧ w.cell? ⟨b, o + i, none⟩ = some (.int .i64 x) := by
  obtain ⟨b, o, e, hc⟩ := h i [.int .i64 x] (by simp [hx])
  refine ⟨b, o, e, ?_⟩
  have := hc 0 _ rfl
  simpa using this
theorem Ints.gr {w w' : World} {a : Option Addr} {xs : List Int} (h : Ints w a xs) (g : Gr w w') : Ints w' a xs := Elts.gr h g
theorem y_indexAddrF {t e sz : Nat} {ag : Bool} {z : Value} {x y : Operand} {a0 : Option Addr} {b o len cap : Nat} {k : IntKind} {i : Int} (hu : P.underlying t = some (.slice e)) (ht : Ty P e sz ag z) (hx : ρ.ev x = some (.slice a0 len cap)) (hy : ρ.ev y = some (.int k i)) (ha : a0 = some ⟨b, o, none⟩) (h0 : 0 ≤ i) (h1 : i < len) :
    YO P ⟨dst, .indexAddr t x y, ty, pos, af, g⟩ n D ρ C (.pointer (some ⟨b, o + i.toNat * sz, none⟩)) := y_indexAddr hu ht (ha ▸ hx) hy h0 h1
theorem y_eqb {xt yt : TypeId} {x y : Operand} {a b : Bool} (hu : P.underlying xt = some .bool) (hx : ρ.ev x = some (.bool a)) (hy : ρ.ev y = some (.bool b)) : YO P ⟨dst, .binOp .eql xt x y yt, ty, pos, af, g⟩ n D ρ C (.bool (a == b)) :=
  y_bin hx hy (fun w => eqGuard_bool w) fun w => run_eql_bool (P := P) (w := w) xt a b hu
theorem y_neb {xt yt : TypeId} {x y : Operand} {a b : Bool} (hu : P.underlying xt = some .bool) (hx : ρ.ev x = some (.bool a)) (hy : ρ.ev y = some (.bool b)) : YO P ⟨dst, .binOp .neq xt x y yt, ty, pos, af, g⟩ n D ρ C (.bool (!(a == b))) :=
  y_bin hx hy (fun w => eqGuard_bool w) fun w => run_neq_bool (P := P) (w := w) xt a b hu
/-- a call of a function without a body that the model answers at once -/
theorem y_callx {k : FuncId} {xs : List Operand} {ats : Array TypeId} {vs : List Value} {v : Value} (hx : Evs ρ xs vs) (h : ∀ w, (callFunc k vs.toArray).run P w = .ok (.value v) w) :
    YO P ⟨dst, .call { callee := .value (.func k), args := xs.toArray, argTypes := ats }, ty, pos, af, g⟩ n D ρ C v := .of fun a ha w hw => by
  have hf : a.eval (.func k) = .func (.func k) #[] #[] := rfl
  simp only [execOp, resolve, hf, hx.map ha, Deferred.ofValue, pure, bind, Sem.bind, invoke]
  have := h w
  simpa using this
/-! ### numbers -/
theorem w64 {x : Int} (h1 : -9223372036854775808 ≤ x) (h2 : x ≤ 9223372036854775807) : IntKind.i64.wrap x = x := by
  exact IntWalk.i64_in x ⟨h1, h2⟩
theorem u64i {x : Int} (h1 : 0 ≤ x) (h2 : x < 18446744073709551616) : IntKind.u64.wrap x = x := IntWalk.u64_in x ⟨h1, by omega⟩
theorem VU {x y : Int} (h : x = y) : Value.int .u64 x = Value.int .u64 y := congrArg _ h
theorem VI {x y : Int} (h : x = y) : Value.int .i64 x = Value.int .i64 y := congrArg _ h
theorem lit64 {x y : Int} (e : x = y) (h1 : -9223372036854775808 ≤ x) (h2 : x ≤ 9223372036854775807) : Value.int .i64 (IntKind.i64.wrap x) = Value.int .i64 y := by rw [w64 h1 h2, e]
theorem succ64 {k : Nat} (h : k < 9223372036854775807) : Value.int .i64 (IntKind.i64.wrap ((k : Int) + 1)) = Value.int .i64 ((k + 1 : Nat) : Int) := lit64 (by omega) (by omega) (by omega)
end
end Go.Px
