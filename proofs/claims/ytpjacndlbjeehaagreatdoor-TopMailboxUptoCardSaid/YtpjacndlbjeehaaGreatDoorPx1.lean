/-
  Px, part 1: a step-by-step logic over the model's code, for proofs whose lines a program writes.
  Environments of temporaries, operations that yield a value in every world of a class, regions in whatever order.
-/
import Derived.Orders
import Derived.Below
import Derived.Tactics
namespace Go.Px
open Go Go.RowKit
set_option linter.unusedVariables false

/-! ### 1. What the temporaries hold -/
abbrev Env := List (Nat × Value)
def Env.get? : Env → Nat → Option Value
  | [], _ => none
  | (s, v) :: r, t => bif Nat.beq s t then some v else Env.get? r t
def Env.ev (ρ : Env) : Operand → Option Value
  | .tmp t => ρ.get? t
  | .const v => some v
  | .global g => some (.pointer (some ⟨g, 0, none⟩))
  | .func f => some (.func (.func f) #[] #[])
structure AgT (n : Nat) (D : List Deferred) (ρ : Env) (a : Act) : Prop where
  size : a.tmps.size = n
  dfs : a.defers = D
  env : ∀ t v, ρ.get? t = some v → a.tmps[t]? = some v
theorem AgT.ev {n : Nat} {D : List Deferred} {ρ : Env} {a : Act} (h : AgT n D ρ a) {x : Operand} {v : Value} (hx : ρ.ev x = some v) : a.eval x = v := by
  cases x with
  | tmp t =>
    have := h.env t v hx
    simp only [Act.eval]
    rw [Array.getD_eq_getD_getElem?, this]; rfl
  | const u => simpa [Env.ev, Act.eval] using hx
  | global g => simpa [Env.ev, Act.eval] using hx
  | func f => simpa [Env.ev, Act.eval] using hx
theorem AgT.tmp {n : Nat} {D : List Deferred} {ρ : Env} {a : Act} (h : AgT n D ρ a) {t : Nat} {v : Value} (hx : ρ.get? t = some v) : a.tmps.getD t undef = v := by
  rw [Array.getD_eq_getD_getElem?, h.env t v hx]; rfl
theorem AgT.put {n : Nat} {D : List Deferred} {ρ : Env} {a : Act} (h : AgT n D ρ a) (d : Nat) (v : Value) (hd : Nat.blt d n = true) : AgT n D ((d, v) :: ρ) (a.put (some d) v) := by
  have hd' : d < n := by simpa using hd
  refine ⟨by simp [Act.put, h.size], by simp [Act.put, h.dfs], fun t u ht => ?_⟩
  simp only [Env.get?] at ht
  cases hb : Nat.beq d t with
  | true =>
    rw [hb] at ht
    have : d = t := Nat.eq_of_beq_eq_true hb
    subst this
    simp only [cond_true, Option.some.injEq] at ht
    subst ht
    simp [Act.put, h.size, hd']
  | false =>
    rw [hb] at ht
    have hne : d ≠ t := Nat.ne_of_beq_eq_false hb
    simp only [Act.put]
    rw [Array.getElem?_setIfInBounds_ne hne]
    exact h.env t u ht
theorem AgT.put_none {n : Nat} {D : List Deferred} {ρ : Env} {a : Act} (h : AgT n D ρ a) (v : Value) : AgT n D ρ (a.put none v) := h
/-- a smaller environment, told by a mask -/
inductive Mask : Env → Env → Prop
  | n : Mask [] []
  | k {x ρ ρ'} : Mask ρ ρ' → Mask (x :: ρ) (x :: ρ')
  | d {x ρ ρ'} : Mask ρ ρ' → Mask (x :: ρ) ρ'
theorem AgT.of_all {n : Nat} {D : List Deferred} {ρ ρ' : Env} {a : Act} (h : AgT n D ρ a) (hs : ∀ t v, ρ'.get? t = some v → ρ.get? t = some v) : AgT n D ρ' a :=
  ⟨h.size, h.dfs, fun t v ht => h.env t v (hs t v ht)⟩
/-- entries picked one by one -/
inductive Picks (ρ : Env) : Env → Prop
  | n : Picks ρ []
  | c {t v ρ'} : ρ.get? t = some v → Picks ρ ρ' → Picks ρ ((t, v) :: ρ')
theorem Picks.sub {ρ ρ' : Env} (h : Picks ρ ρ') : ∀ t v, ρ'.get? t = some v → ρ.get? t = some v := by
  induction h with
  | n => intro t v h; simp [Env.get?] at h
  | @c s u r hs _ ih =>
    intro t v ht
    simp only [Env.get?] at ht
    cases hb : Nat.beq s t with
    | true =>
      rw [hb] at ht
      have : s = t := Nat.eq_of_beq_eq_true hb
      subst this
      simp only [cond_true, Option.some.injEq] at ht
      subst ht; exact hs
    | false => rw [hb] at ht; exact ih t v (by simpa using ht)

/-! ### 2. Growth; an operation that yields its value in every world of a class -/
def Gr (w w' : World) : Prop := Below w.heap.size w w'
theorem Gr.refl (w : World) : Gr w w := Below.refl _ _
theorem Gr.trans {a b c : World} (h : Gr a b) (k : Gr b c) : Gr a c := Below.trans h (Below.mono k h.size)
theorem Gr.alloc (w : World) (o : Obj) : Gr w (w.alloc o) := (Below.refl _ _).alloc (Nat.le_refl _) o
theorem Gr.drawn (w : World) : Gr w { w with drawn := w.drawn + 1 } := ⟨rfl, rfl, rfl, Nat.le_refl _, fun _ _ => rfl⟩
def GS (S : World → Prop) : Prop := ∀ w w', S w → Gr w w' → S w'
def quietG (P : Program) (o : Oper) (a : Act) (w : World) (v : Value) : Prop :=
  match (execOp a.eval o).run P w with
  | .ok (.value u) w' => w' = w ∧ u = v
  | .ok .skip w' => w' = w ∧ v = undef
  | .ok (.enter f args) w' => w' = w ∧ Calls P f args w (fun e w'' => e = .returned v ∧ Gr w w'')
  | _ => False
theorem quietG_of_run {P : Program} {o : Oper} {a : Act} {w : World} {v : Value} (h : (execOp a.eval o).run P w = .ok (.value v) w) : quietG P o a w v := by
  unfold quietG; rw [h]; exact ⟨rfl, rfl⟩
/-- Operation 'o' yields v in every world of the class C, from every frame that the environment tells. -/
def YO (P : Program) (o : Oper) (n : Nat) (D : List Deferred) (ρ : Env) (C : World → Prop) (v : Value) : Prop :=
  ∀ a, AgT n D ρ a → ∀ w, C w → quietG P o a w v
theorem Oper.wp_of_quietG {P : Program} {o : Oper} {a : Act} {w : World} {v : Value} {K : Act → World → Prop} {Q : Exit → Act → World → Prop}
    (h : quietG P o a w v) (hk : ∀ w', Gr w w' → K (a.put o.dst v) w') : o.wp P a w K Q := by
  unfold quietG at h
  unfold Oper.wp
  generalize (execOp a.eval o).run P w = r at *
  cases r with
  | ok n w' =>
    cases n <;> simp only at h <;> simp only [Oper.upon]
    case value u => obtain ⟨e1, e2⟩ := h; rw [e1, e2]; exact hk _ (Gr.refl _)
    case skip => obtain ⟨e1, e2⟩ := h; rw [e1, ← e2]; exact hk _ (Gr.refl _)
    case enter f args =>
      obtain ⟨e1, hc⟩ := h
      rw [e1]
      exact hc.mono fun e w'' ⟨he, hg⟩ => by subst he; exact hk _ hg
  | halt x w' => simp only at h

/-! ### 3. Regions in whatever order, over classes of worlds -/
section
variable {P : Program} {ops : Array Oper} {Q : Exit → Act → World → Prop} {md : Region.Mode}
/-- What a panic leaves does not look at the temporaries. -/
class PanicOK (Q : Exit → Act → World → Prop) : Prop where
  ok : ∀ c a d v w, Q (.panic c) (a.put d v) w → Q (.panic c) a w
instance {fn : Func} {R : Ending → World → Prop} : PanicOK (bodyPost P fn R) := ⟨fun c a d v w h => by cases d <;> exact h⟩
instance {K : Act → World → Prop} {Q : Exit → Act → World → Prop} [h : PanicOK Q] : PanicOK (Exit.then K Q) := ⟨fun c a d v w hq => h.ok c a d v w hq⟩
instance {i : Nat} {Q : Exit → Act → World → Prop} [h : PanicOK Q] : PanicOK (Exit.inBlock i Q) := ⟨fun c a d v w hq => h.ok c a d v w hq⟩

def wpC (P : Program) (md : Region.Mode) (ops : Array Oper) (Q : Exit → Act → World → Prop) (ds : Nat → Bool) (S0 : World → Prop) : Nat → (World → Prop) → Array Bool → Act → Prop
  | 0, S, listed, a => Region.ready md ops listed = [] ∧ ∀ w, S w → Q .normal a w
  | fuel + 1, S, listed, a =>
    (Region.ready md ops listed = [] → ∀ w, S w → Q .normal a w) ∧
    ∀ i ∈ Region.ready md ops listed, ∀ w, S w → wpOp P ops Q i (fun a' w' => ∃ S' : World → Prop, S' w' ∧ GS S' ∧ (∀ w, S' w → S0 w) ∧ (ds i = true ∨ ∀ w, S' w → S w) ∧
      wpC P md ops Q ds S0 fuel S' (listed.setIfInBounds i true) a') a w
theorem wpAny_of_wpC {ds : Nat → Bool} {S0 : World → Prop} : ∀ (fuel : Nat) (S : World → Prop) (listed : Array Bool) (a : Act) (w : World), wpC P md ops Q ds S0 fuel S listed a → S w → wpAny P md ops Q fuel listed a w
  | 0, _, _, _, w, h, hw => ⟨h.1, h.2 w hw⟩
  | fuel + 1, _, _, _, w, h, hw => ⟨fun h0 => h.1 h0 w hw, fun i hi => wpOp_mono (fun a' w' ⟨S', hS', _, _, _, h'⟩ => wpAny_of_wpC fuel S' _ a' w' h' hS') (h.2 i hi w hw)⟩
/-- Operation 'oi' is quiet in class S in this state. -/
def QI (P : Program) (ops : Array Oper) (S : World → Prop) (o : Oper) (v : Value) (a : Act) : Prop :=
  (Region.wanted o (yielded ops a.tmps) = true ∧ ∀ w, S w → quietG P o a w v) ∨ (Region.wanted o (yielded ops a.tmps) = false ∧ v = undef)
theorem QI.sub {S S' : World → Prop} {o : Oper} {v : Value} {a : Act} (h : QI P ops S o v a) (hs : ∀ w, S' w → S w) : QI P ops S' o v a :=
  h.imp (fun ⟨h1, h2⟩ => ⟨h1, fun w hw => h2 w (hs w hw)⟩) id
theorem QI.of_same {S : World → Prop} {o : Oper} {v : Value} {a a' : Act} (hy : QI P ops S o v a) (he : execOp a'.eval o = execOp a.eval o)
    (hw : Region.wanted o (yielded ops a'.tmps) = Region.wanted o (yielded ops a.tmps)) : QI P ops S o v a' := by
  unfold QI quietG at *
  rw [he, hw]
  exact hy
theorem QI.wpOp {S : World → Prop} {i : Nat} {o : Oper} {v : Value} {a : Act} {w : World} {K : Act → World → Prop} (hi : ops[i]? = some o) (hy : QI P ops S o v a) (hw : S w)
    (hk : ∀ w', Gr w w' → K (a.put o.dst v) w') : wpOp P ops Q i K a w := by
  unfold Go.wpOp
  simp only [hi]
  rcases hy with ⟨h1, h2⟩ | ⟨h1, rfl⟩
  · simp only [h1, if_true]; exact .inl (Oper.wp_of_quietG (h2 w hw) hk)
  · simp only [h1, Bool.false_eq_true, if_false]; exact hk w (Gr.refl _)
theorem wpOp_away {j : Nat} {oi oj : Oper} {v : Value} (hj : ops[j]? = some oj) (hap : oi.apart ops oj = true) [hQ : PanicOK Q]
    (hsi : ∀ cs b, oi.op ≠ .select cs b) (hsj : ∀ cs b, oj.op ≠ .select cs b) {S : World → Prop} {K : Act → World → Prop} {a : Act} {w : World}
    (hy : QI P ops S oi v a) (h : wpOp P ops Q j K (a.put oi.dst v) w) :
    wpOp P ops Q j (fun a' w' => QI P ops S oi v a' ∧ K (a'.put oi.dst v) w') a w := by
  obtain ⟨h1, h2, h3⟩ := Oper.apart_spec hap
  have keep : ∀ u, QI P ops S oi v (a.put oj.dst u) := fun u => hy.of_same (execOp_put oi hsi a oj.dst u h3) (wanted_put oi a oj.dst u h3)
  have keepD : ∀ d u, QI P ops S oi v (({ a with defers := d :: a.defers } : Act).put oj.dst u) := fun d u => by
    have : QI P ops S oi v ({ a with defers := d :: a.defers } : Act) := hy.of_same rfl rfl
    exact this.of_same (execOp_put oi hsi _ oj.dst u h3) (wanted_put oi _ oj.dst u h3)
  have swap : ∀ u, ((a.put oi.dst v).put oj.dst u) = ((a.put oj.dst u).put oi.dst v) := fun u => Act.put_comm a v u h2
  unfold wpOp at *
  simp only [hj] at *
  rw [wanted_put oj a oi.dst v h1] at h
  by_cases hw : Region.wanted oj (yielded ops a.tmps) = true
  · simp only [hw, if_true] at h ⊢
    rcases h with h | ⟨hasks, hlets⟩
    · refine .inl ?_
      unfold Oper.wp at *
      rw [execOp_put oj hsj a oi.dst v h1] at h
      generalize (execOp a.eval oj).run P w = r at *
      cases r with
      | ok m w' =>
        cases m <;> simp only [Oper.upon] at h ⊢
        case value u => exact ⟨keep u, by rw [← swap]; exact h⟩
        case skip => exact ⟨keep _, by rw [← swap]; exact h⟩
        case defer d =>
          refine ⟨keepD d _, ?_⟩
          rw [← Act.put_comm _ v undef h2, ← Act.put_defers]
          exact h
        case enter f args =>
          refine Calls.mono h fun e w'' he => ?_
          cases e with
          | returned u => exact ⟨keep u, by rw [← swap]; exact he⟩
          | panicked c => exact hQ.ok _ _ _ _ _ he
          | outgrown => exact he
        case row row args => exact Rows.mono h fun u w'' he => ⟨keep u, by rw [← swap]; exact he⟩
      | halt x w' =>
        cases x <;> simp only [Oper.upon] at h ⊢
        case panic u => exact hQ.ok _ _ _ _ _ h
    · exact .inr ⟨by unfold Oper.asks at *; rw [execOp_put oj hsj a oi.dst v h1] at hasks; exact hasks, hlets⟩
  · simp only [hw] at h ⊢
    exact ⟨keep _, by rw [← swap]; exact h⟩
theorem wpC_first {ds : Nat → Bool} {S0 : World → Prop} [hQ : PanicOK Q] {i : Nat} {oi : Oper} {v : Value} (hi : ops[i]? = some oi) (hsel : Region.noSelect ops = true) :
    ∀ (fuel : Nat) (S : World → Prop) (listed : Array Bool) (a : Act),
      (∀ j oj, ops[j]? = some oj → j ≠ i → listed.getD j true = false → (∀ e ∈ oj.after, Region.binds md e = true → e.on ≠ i) → oi.apart ops oj = true ∧ ds j = false) →
      i ∈ Region.ready md ops listed → QI P ops S oi v a → GS S → (∀ w, S w → S0 w) →
      wpC P md ops Q ds S0 fuel S (listed.setIfInBounds i true) (a.put oi.dst v) → wpC P md ops Q ds S0 (fuel + 1) S listed a := by
  intro fuel
  induction fuel with
  | zero =>
    intro S listed a _ hr hy hS h0 H
    refine ⟨fun h => (by rw [h] at hr; cases hr), fun j hj w hw => ?_⟩
    by_cases hji : j = i
    · subst hji
      exact hy.wpOp hi hw fun w' hg => ⟨S, hS _ _ hw hg, hS, h0, .inr fun _ h => h, H⟩
    · have := ready_mono hj hji
      rw [H.1] at this
      cases this
  | succ fuel ih =>
    intro S listed a hfree hr hy hS h0 H
    refine ⟨fun h => (by rw [h] at hr; cases hr), fun j hj w hw => ?_⟩
    by_cases hji : j = i
    · subst hji
      exact hy.wpOp hi hw fun w' hg => ⟨S, hS _ _ hw hg, hS, h0, .inr fun _ h => h, H⟩
    · have h1 := H.2 j (ready_mono hj hji) w hw
      obtain ⟨hjun, oj, hoj, hall⟩ := mem_ready.1 hj
      have hnot : ∀ e ∈ oj.after, Region.binds md e = true → e.on ≠ i := fun e he hb heq => by
        have h1 := hall e he hb
        have hr0 := (mem_ready.1 hr).1
        rw [heq] at h1
        rcases Nat.lt_or_ge i listed.size with h' | h'
        · simp [h'] at hr0 h1; rw [hr0] at h1; cases h1
        · simp [Array.getElem?_eq_none h'] at h1
      obtain ⟨hap, hdj⟩ := hfree j oj hoj hji hjun hnot
      have h2 := wpOp_away (S := S) hoj hap (fun cs b => Region.noSelect_spec hsel i oi cs b hi) (fun cs b => Region.noSelect_spec hsel j oj cs b hoj) hy h1
      have hfree' : ∀ k ok, ops[k]? = some ok → k ≠ i → (listed.setIfInBounds j true).getD k true = false →
          (∀ e ∈ ok.after, Region.binds md e = true → e.on ≠ i) → oi.apart ops ok = true ∧ ds k = false := fun k ok hk hki hun hno => by
        refine hfree k ok hk hki ?_ hno
        by_cases hjk : j = k
        · subst hjk; exact hjun
        · rw [getD_set_ne true hjk] at hun; exact hun
      refine wpOp_mono (fun a' w' ⟨hy', S', hS', hG', hs0, hsub, h'⟩ => ?_) h2
      have hsub' : ∀ w, S' w → S w := hsub.resolve_left (by simp [hdj])
      refine ⟨S', hS', hG', hs0, .inr hsub', ih S' (listed.setIfInBounds j true) a' hfree' (ready_mono hr (Ne.symm hji)) (hy'.sub hsub') hG' hs0 ?_⟩
      rw [Array.setIfInBounds_comm _ _ hji]
      exact h'
/-- The check of one quiet operation that is taken first: whoever has not come up yet waits for it, or is apart from it and no destroyer. -/
def freeC (md : Region.Mode) (ops : Array Oper) (ds : Nat → Bool) (listed : Array Bool) (i : Nat) : Bool :=
  match ops[i]? with
  | none => false
  | some oi => (List.range ops.size).all fun j => j == i || listed.getD j true || match ops[j]? with
      | some oj => oj.after.any (fun e => Region.binds md e && e.on == i) || (oi.apart ops oj && !ds j)
      | none => true
theorem freeC_spec {ds : Nat → Bool} {i : Nat} {oi : Oper} {listed : Array Bool} (hi : ops[i]? = some oi) (h : freeC md ops ds listed i = true) (j : Nat) (oj : Oper)
    (hj : ops[j]? = some oj) (hne : j ≠ i) (hun : listed.getD j true = false) (hno : ∀ e ∈ oj.after, Region.binds md e = true → e.on ≠ i) :
    oi.apart ops oj = true ∧ ds j = false := by
  simp only [freeC, hi, List.all_eq_true, List.mem_range] at h
  have h1 := h j (Array.getElem?_eq_some_iff.1 hj).1
  simp only [hj, Bool.or_eq_true, beq_iff_eq, hne, false_or, hun, Bool.false_eq_true] at h1
  rcases h1 with h1 | h1
  · obtain ⟨e, he, hb⟩ := Array.any_eq_true'.1 h1
    simp only [Bool.and_eq_true, beq_iff_eq] at hb
    exact absurd hb.2 (hno e he hb.1)
  · simpa using h1
end
end Go.Px
