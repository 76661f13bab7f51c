/-
  Px, part 11: functions that defer one closure, and its recover where nothing panics.
-/
import Derived.Test.YtpjacndlbjeehaaGreatDoorPx10
import Derived.Defers
import Derived.Recover
namespace Go.Px
open Go Go.RowKit
set_option linter.unusedVariables false
set_option linter.unusedSimpArgs false
section
variable {P : Program} {Q : Exit → Act → World → Prop} {n : Nat} {D : List Deferred} {ρ : Env} {C : World → Prop} {ops : Array Oper} {rest : List Oper} {ty : TypeId} {pos : String} {af : Array Edge}
theorem CJ.cls {C' : World → Prop} {c : Code} (h : ∀ w, C w → C' w) (k : CJ P c Q n D ρ C') : CJ P c Q n D ρ C := fun a w ha hw => k a w ha (h w hw)
/-- one of several ready operations is taken -/
def SJ (P : Program) (ops : Array Oper) (Q : Exit → Act → World → Prop) (ds : Nat → Bool) (S0 : World → Prop) (fuel : Nat) (listed : Array Bool) (i n : Nat) (D : List Deferred) (ρ : Env) (C : World → Prop) : Prop :=
  (∀ w, C w → S0 w) → ∀ a, AgT n D ρ a → ∀ w, C w → wpOp P ops Q i (fun a' w' => ∃ S' : World → Prop, S' w' ∧ GS S' ∧ (∀ w, S' w → S0 w) ∧ (ds i = true ∨ ∀ w, S' w → C w) ∧ wpC P .any ops Q ds S0 fuel S' (listed.setIfInBounds i true) a') a w
theorem a_two {ds : Nat → Bool} {S0 : World → Prop} {fuel : Nat} {listed : Array Bool} (i j : Nat) (hr : Region.ready .any ops listed = [i, j]) (h1 : SJ P ops Q ds S0 fuel listed i n D ρ C) (h2 : SJ P ops Q ds S0 fuel listed j n D ρ C) : AJ P ops Q ds S0 (fuel + 1) listed n D ρ C := fun h0 a ha => by
  refine ⟨fun h => (by rw [hr] at h; cases h), fun k hk w hw => ?_⟩
  rw [hr] at hk
  simp only [List.mem_cons, List.not_mem_nil, or_false] at hk
  rcases hk with rfl | rfl
  · exact h1 h0 a ha w hw
  · exact h2 h0 a ha w hw
theorem s_n {ds : Nat → Bool} {S0 : World → Prop} {fuel : Nat} {listed : Array Bool} {i : Nat} {o : Oper} {α : Type} {H : α → Prop} {ρ' : α → Env} {C' : α → World → Prop} (hi : ops[i]? = some o) (hgd : o.guard = none) (hG : ∀ x, GS (C' x)) (hsub : (ds i = true ∧ ∀ x w, C' x w → S0 w) ∨ ∀ x w, C' x w → C w)
    (hN : NO P o n D ρ C H ρ' C') (next : ∀ x, H x → AJ P ops Q ds S0 fuel (listed.setIfInBounds i true) n D (ρ' x) (C' x)) : SJ P ops Q ds S0 fuel listed i n D ρ C := fun h0 a ha w hw => by
  unfold wpOp
  simp only [hi]
  rw [if_pos (by simp [Region.wanted, hgd])]
  exact .inl (hN a w ha hw _ _ fun x hx a' w' ha' hw' => ⟨C' x, hw', hG x, (hsub.elim (fun h => h.2 x) (fun h w hw => h0 w (h x w hw))), hsub.imp (fun h => h.1) (fun h => h x), next x hx (hsub.elim (fun h => h.2 x) (fun h w hw => h0 w (h x w hw))) a' ha'⟩)
/-- no panic comes out -/
def calm (Q : Exit → Act → World → Prop) : Exit → Act → World → Prop
  | .panic _, _, _ => False
  | e, a, w => Q e a w
instance {Q : Exit → Act → World → Prop} : PanicOK (calm Q) := ⟨fun c a d v w h => h.elim⟩
theorem calm_wp {c : Code} {Q : Exit → Act → World → Prop} {a : Act} {w : World} (h : c.wp P (calm Q) a w) : c.wp P Q a w := fun b k cs =>
  let ⟨e, a', w', q, r⟩ := h b k cs
  ⟨e, a', w', (by cases e <;> first | exact q.elim | exact q), r⟩
theorem enterD {f : FuncId} {fn : Func} {c : Code} {vs : List Value} {w : World} {R : Ending → World → Prop} (hf : P.funcs[f]? = some fn) (hb : fn.body = some c) (hn : fn.ntmps = n) (hl : Nat.ble vs.length n = true)
    (hρ : argEnv vs 0 = ρ) (hw : C w) (h : CJ P c (calm (bodyPostD P fn R)) n [] ρ C) : Calls P f vs.toArray w R := by
  subst hn hρ
  have hl : vs.length ≤ fn.ntmps := by simpa using hl
  refine calls_of_wp_defers hf hb (calm_wp (h _ w ⟨by simp; omega, rfl, fun t v ht => ?_⟩ hw))
  obtain ⟨_, h2⟩ := argEnv_get vs 0 t v ht
  simp only [Nat.sub_zero] at h2
  have hlt : t < vs.length := (List.getElem?_eq_some_iff.1 h2).1
  rw [Array.getElem?_append_left (by simpa using hlt)]
  simpa using h2
theorem l_defer {fo : Operand} {ats : Array TypeId} {cs : List Value} {k : FuncId} (hf : ρ.ev fo = some (.func (.func k) #[] cs.toArray)) (next : LJ P ops Q rest n ({ target := .fn (.func k) cs.toArray, args := #[] } :: D) ρ C) :
    LJ P ops Q (⟨none, .defer { callee := .value fo, args := #[], argTypes := ats }, ty, pos, af, none⟩ :: rest) n D ρ C := fun a w ha hw => by
  unfold wpList
  rw [if_pos (by simp [Region.wanted])]
  refine .inl ?_
  unfold Oper.wp
  have e : (execOp a.eval ⟨none, .defer { callee := .value fo, args := #[], argTypes := ats }, ty, pos, af, none⟩).run P w = .ok (.defer { target := .fn (.func k) cs.toArray, args := #[] }) w := by
    simp only [execOp, resolve, ha.ev hf, Deferred.ofValue, pure, bind, Sem.bind]
    simp [Sem.pure, Sem.run]
  rw [e]
  exact next _ _ ⟨ha.size, by simp [Act.put, ha.dfs], ha.env⟩ hw
/-- the one deferred closure turns nothing where the frame returns -/
def Idle (P : Program) (k : FuncId) (cs : List Value) : Prop := ∀ w, CallsD P k cs.toArray .returning w fun e u' w' => (∃ v, e = .returned v) ∧ u' = .returning ∧ Gr w w'
theorem e_retD {fn : Func} {rs : List ResultVar} {vs : List Value} {R : Ending → World → Prop} {k : FuncId} {cs : List Value} (hk : Ent P k) (hi : Idle P k cs) (hg : GS C) (hr : fn.results = rs.toArray) (h : Res P ρ C rs vs) (hR : ∀ w, C w → R (.returned (outOf vs)) w) :
    EJ (calm (bodyPostD P fn R)) .ret n [{ target := .fn (.func k) cs.toArray, args := #[] }] ρ C := fun a w ha hw => by
  show Leaves P fn a.tmps R a.defers .returning w
  rw [ha.dfs]
  refine leaves_cons (f := k) (args := cs.toArray) (by simp) (by simpa [invoke] using hk cs.toArray w) ((hi w).mono ?_)
  rintro e u' w' ⟨⟨v, rfl⟩, rfl, g⟩
  have hw' := hg _ _ hw g
  exact ⟨_, results_run hr ha hw' h, hR w' hw'⟩
theorem y_sliceH {dst : Option Tmp} {g : Option (Nat × Bool)} {t e : Nat} {k : IntKind} {x y : Operand} {a : Option Addr} {len cap h m : Nat} {b : Bool} {z : Value} (hu : P.underlying t = some (.slice e)) (ht : Ty P e m b z) (hx : ρ.ev x = some (.slice a len cap)) (hy : ρ.ev y = some (.int k ((h : Nat) : Int))) (hh : h ≤ cap) :
    YO P ⟨dst, .slice t x none (some y) none, ty, pos, af, g⟩ n D ρ C (.slice a h cap) :=
  .of fun act ha w _ => by
    have he : P.elem t = e := by simp [Program.elem, hu]
    subst he
    simp only [execOp, ha.ev hx, Option.map_some, Option.map_none, ha.ev hy]
    refine run_val ?_
    rw [run_sliceAt_slice (h := hu), run_slice_h (ht := hu) (h0 := by omega) (h2 := by omega), ht.size, Result.andThen_ok]
    have e : sliced a 0 (Int.toNat h) cap m = .slice a h cap := by
      unfold sliced
      rw [Int.toNat_natCast, Nat.zero_mul, Nat.sub_zero, Nat.sub_zero]
      congr 1
      split
      · rfl
      · cases a <;> rfl
    rw [e]
end
end Go.Px
