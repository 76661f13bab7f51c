/-
  Px, part 6: equality of structs.
-/
import Derived.Test.YtpjacndlbjeehaaGreatDoorPx5
import Derived.Laws.StructEq
namespace Go.Px
open Go Go.RowKit
set_option linter.unusedVariables false
set_option linter.unusedSimpArgs false
section
variable {P : Program} {n : Nat} {D : List Deferred} {ρ : Env} {C : World → Prop} {ty : TypeId} {pos : String} {af : Array Edge} {dst : Option Tmp} {g : Option (Nat × Bool)}
/-- what '==' of two values of type t tells, d deep -/
def EqV (P : Program) (t : TypeId) (a b : Value) (r : Bool) : Prop := ∀ d w, (Op.equalIn (d + 8) t a b).run P w = .ok r w
theorem EqV.int {t : TypeId} {k k' : IntKind} {a b : Int} (hu : P.underlying t = some (.int k')) : EqV P t (.int k a) (.int k b) (decide (a = b)) := fun d w => by
  rw [run_equalIn_int w (d + 7) t k k' a b hu]; rfl
theorem EqV.bool {t : TypeId} {a b : Bool} (hu : P.underlying t = some .bool) : EqV P t (.bool a) (.bool b) (a == b) := fun d w => run_equalIn_bool w (d + 7) t a b hu
def EqF (P : Program) (xs ys : List Value) (fs : List Field) (r : Bool) : Prop := ∀ d w, (Op.eqFields (d + 8) xs.toArray ys.toArray fs).run P w = .ok r w
theorem EqF.nil {xs ys : List Value} : EqF P xs ys [] true := fun d w => by simp [Op.eqFields]
theorem EqF.one {xs ys : List Value} {f : Field} {fs : List Field} {m : Nat} {z a b : Value} {r s : Bool} (hn : (f.name == "_") = false) (ht : Ty P f.type m false z) (ha : Nth xs f.offset a) (hb : Nth ys f.offset b) (he : EqV P f.type a b r) (h : EqF P xs ys fs s) : EqF P xs ys (f :: fs) (r && s) := fun d w => by
  have hn' : f.name ≠ "_" := by simpa using hn
  have e1 : (part f.type xs.toArray f.offset).run P w = .ok a w := by simp [part, ht.agg, ha.get]
  have e2 : (part f.type ys.toArray f.offset).run P w = .ok b w := by simp [part, ht.agg, hb.get]
  simp only [Op.eqFields, if_pos hn', Sem.run_bind, e1, e2, he d w, Result.andThen_ok]
  cases r
  · simp
  · simpa using h d w
theorem y_eqA {t yt : TypeId} {x y : Operand} {xs ys : List Value} {fs : Array Field} {r : Bool} (hu : P.underlying t = some (.struct fs)) (hg : P.eqGuardType P.depth t = false) (hp : P.stoodInHeld t = false) (hx : ρ.ev x = some (.agg xs.toArray)) (hy : ρ.ev y = some (.agg ys.toArray)) (h : EqF P xs ys fs.toList r) :
    YO P ⟨dst, .binOp .eql t x y yt, ty, pos, af, g⟩ n D ρ C (.bool r) :=
  y_bin hx hy (fun w => run_eqGuard_agg w .eql t x y xs.toArray ys.toArray hg) fun w => by
    have hf : P.fieldsOf t = fs := by simp [Program.fieldsOf, hu]
    have e : (Op.equalIn 10000 t (.agg xs.toArray) (.agg ys.toArray)).run P w = .ok r w := by
      rw [show (10000 : Nat) = 9999 + 1 from rfl, run_equalIn_struct (P := P) w 9999 t xs.toArray ys.toArray (by rw [hf]; exact hu) hp, hf]
      exact h 9991 w
    rw [run_eql_struct, e]; rfl
theorem y_neA {t yt : TypeId} {x y : Operand} {xs ys : List Value} {fs : Array Field} {r : Bool} (hu : P.underlying t = some (.struct fs)) (hg : P.eqGuardType P.depth t = false) (hp : P.stoodInHeld t = false) (hx : ρ.ev x = some (.agg xs.toArray)) (hy : ρ.ev y = some (.agg ys.toArray)) (h : EqF P xs ys fs.toList r) :
    YO P ⟨dst, .binOp .neq t x y yt, ty, pos, af, g⟩ n D ρ C (.bool (!r)) :=
  y_bin hx hy (fun w => run_eqGuard_agg w .neq t x y xs.toArray ys.toArray hg) fun w => by
    have hf : P.fieldsOf t = fs := by simp [Program.fieldsOf, hu]
    have e : (Op.equalIn 10000 t (.agg xs.toArray) (.agg ys.toArray)).run P w = .ok r w := by
      rw [show (10000 : Nat) = 9999 + 1 from rfl, run_equalIn_struct (P := P) w 9999 t xs.toArray ys.toArray (by rw [hf]; exact hu) hp, hf]
      exact h 9991 w
    rw [run_neq_struct, e]; rfl
theorem y_add64 {xt yt : TypeId} {x y : Operand} (m r : Int) (hx : ρ.ev x = some (.int .i64 m)) (hy : ρ.ev y = some (.int .i64 r)) (h1 : -9223372036854775808 ≤ m + r) (h2 : m + r ≤ 9223372036854775807) : YO P ⟨dst, .binOp .add xt x y yt, ty, pos, af, g⟩ n D ρ C (.int .i64 (m + r)) := (y_add hx hy).lit (lit64 rfl h1 h2)
theorem y_sub64 {xt yt : TypeId} {x y : Operand} (m r : Int) (hx : ρ.ev x = some (.int .i64 m)) (hy : ρ.ev y = some (.int .i64 r)) (h1 : -9223372036854775808 ≤ m - r) (h2 : m - r ≤ 9223372036854775807) : YO P ⟨dst, .binOp .sub xt x y yt, ty, pos, af, g⟩ n D ρ C (.int .i64 (m - r)) := (y_sub hx hy).lit (lit64 rfl h1 h2)
end
end Go.Px
