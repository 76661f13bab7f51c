/-
  An engine of walks: environments, classes of worlds, judgements, loops, calls, vectors, maps. No program here.
-/
import Derived.Orders
import Derived.Below
import Derived.Tactics
import Derived.WalkKit
import Derived.WalkLawsBesides
import Derived.LoopN
import Derived.IntWalk
import Derived.Laws.StructEq
import Derived.Laws.AppendOwn
import Derived.Laws.Cover3
import Derived.Laws.Pointers
import Derived.MapKept
/-
  Px, part 1: a step-by-step logic over the model's code, for proofs whose lines a program writes.
  Environments of temporaries, operations that yield a value in every world of a class, regions in whatever order.
-/
namespace Go.Px
open Go Go.RowKit
set_option linter.unusedVariables false

/-! ### 1. What the temporaries hold -/
abbrev Env := List (Nat × Value)
def Env.get? : Env → Nat → Option Value
  | [], _ => none
  | (s, v) :: r, t => bif Nat.beq s t then some v else Env.get? r t
def Env.ev (ρ : Env) : Operand → Option Value
  | .tmp t => ρ.get? t
  | .const v => some v
  | .global g => some (.pointer (some ⟨g, 0, none⟩))
  | .func f => some (.func (.func f) #[] #[])
structure AgT (n : Nat) (D : List Deferred) (ρ : Env) (a : Act) : Prop where
  size : a.tmps.size = n
  dfs : a.defers = D
  env : ∀ t v, ρ.get? t = some v → a.tmps[t]? = some v
theorem AgT.ev {n : Nat} {D : List Deferred} {ρ : Env} {a : Act} (h : AgT n D ρ a) {x : Operand} {v : Value} (hx : ρ.ev x = some v) : a.eval x = v := by
  cases x with
  | tmp t =>
    have := h.env t v hx
    simp only [Act.eval]
    rw [Array.getD_eq_getD_getElem?, this]; rfl
  | const u => simpa [Env.ev, Act.eval] using hx
  | global g => simpa [Env.ev, Act.eval] using hx
  | func f => simpa [Env.ev, Act.eval] using hx
theorem AgT.tmp {n : Nat} {D : List Deferred} {ρ : Env} {a : Act} (h : AgT n D ρ a) {t : Nat} {v : Value} (hx : ρ.get? t = some v) : a.tmps.getD t undef = v := by
  rw [Array.getD_eq_getD_getElem?, h.env t v hx]; rfl
theorem AgT.put {n : Nat} {D : List Deferred} {ρ : Env} {a : Act} (h : AgT n D ρ a) (d : Nat) (v : Value) (hd : Nat.blt d n = true) : AgT n D ((d, v) :: ρ) (a.put (some d) v) := by
  have hd' : d < n := by simpa using hd
  refine ⟨by simp [Act.put, h.size], by simp [Act.put, h.dfs], fun t u ht => ?_⟩
  simp only [Env.get?] at ht
  cases hb : Nat.beq d t with
  | true =>
    rw [hb] at ht
    have : d = t := Nat.eq_of_beq_eq_true hb
    subst this
    simp only [cond_true, Option.some.injEq] at ht
    subst ht
    simp [Act.put, h.size, hd']
  | false =>
    rw [hb] at ht
    have hne : d ≠ t := Nat.ne_of_beq_eq_false hb
    simp only [Act.put]
    rw [Array.getElem?_setIfInBounds_ne hne]
    exact h.env t u ht
theorem AgT.put_none {n : Nat} {D : List Deferred} {ρ : Env} {a : Act} (h : AgT n D ρ a) (v : Value) : AgT n D ρ (a.put none v) := h
/-- a smaller environment, told by a mask -/
inductive Mask : Env → Env → Prop
  | n : Mask [] []
  | k {x ρ ρ'} : Mask ρ ρ' → Mask (x :: ρ) (x :: ρ')
  | d {x ρ ρ'} : Mask ρ ρ' → Mask (x :: ρ) ρ'
theorem AgT.of_all {n : Nat} {D : List Deferred} {ρ ρ' : Env} {a : Act} (h : AgT n D ρ a) (hs : ∀ t v, ρ'.get? t = some v → ρ.get? t = some v) : AgT n D ρ' a :=
  ⟨h.size, h.dfs, fun t v ht => h.env t v (hs t v ht)⟩
/-- entries picked one by one -/
inductive Picks (ρ : Env) : Env → Prop
  | n : Picks ρ []
  | c {t v ρ'} : ρ.get? t = some v → Picks ρ ρ' → Picks ρ ((t, v) :: ρ')
theorem Picks.sub {ρ ρ' : Env} (h : Picks ρ ρ') : ∀ t v, ρ'.get? t = some v → ρ.get? t = some v := by
  induction h with
  | n => intro t v h; simp [Env.get?] at h
  | @c s u r hs _ ih =>
    intro t v ht
    simp only [Env.get?] at ht
    cases hb : Nat.beq s t with
    | true =>
      rw [hb] at ht
      have : s = t := Nat.eq_of_beq_eq_true hb
      subst this
      simp only [cond_true, Option.some.injEq] at ht
      subst ht; exact hs
    | false => rw [hb] at ht; exact ih t v (by simpa using ht)

/-! ### 2. Growth; an operation that yields its value in every world of a class -/
def Gr (w w' : World) : Prop := Below w.heap.size w w'
theorem Gr.refl (w : World) : Gr w w := Below.refl _ _
theorem Gr.trans {a b c : World} (h : Gr a b) (k : Gr b c) : Gr a c := Below.trans h (Below.mono k h.size)
theorem Gr.alloc (w : World) (o : Obj) : Gr w (w.alloc o) := (Below.refl _ _).alloc (Nat.le_refl _) o
theorem Gr.drawn (w : World) : Gr w { w with drawn := w.drawn + 1 } := ⟨rfl, rfl, rfl, Nat.le_refl _, fun _ _ => rfl⟩
def GS (S : World → Prop) : Prop := ∀ w w', S w → Gr w w' → S w'
def quietG (P : Program) (o : Oper) (a : Act) (w : World) (v : Value) : Prop :=
  match (execOp a.eval o).run P w with
  | .ok (.value u) w' => w' = w ∧ u = v
  | .ok .skip w' => w' = w ∧ v = undef
  | .ok (.enter f args) w' => w' = w ∧ Calls P f args w (fun e w'' => e = .returned v ∧ Gr w w'')
  | _ => False
theorem quietG_of_run {P : Program} {o : Oper} {a : Act} {w : World} {v : Value} (h : (execOp a.eval o).run P w = .ok (.value v) w) : quietG P o a w v := by
  unfold quietG; rw [h]; exact ⟨rfl, rfl⟩
/-- Operation 'o' yields v in every world of the class C, from every frame that the environment tells. -/
def YO (P : Program) (o : Oper) (n : Nat) (D : List Deferred) (ρ : Env) (C : World → Prop) (v : Value) : Prop :=
  ∀ a, AgT n D ρ a → ∀ w, C w → quietG P o a w v
theorem Oper.wp_of_quietG {P : Program} {o : Oper} {a : Act} {w : World} {v : Value} {K : Act → World → Prop} {Q : Exit → Act → World → Prop}
    (h : quietG P o a w v) (hk : ∀ w', Gr w w' → K (a.put o.dst v) w') : o.wp P a w K Q := by
  unfold quietG at h
  unfold Oper.wp
  generalize (execOp a.eval o).run P w = r at *
  cases r with
  | ok n w' =>
    cases n <;> simp only at h <;> simp only [Oper.upon]
    case value u => obtain ⟨e1, e2⟩ := h; rw [e1, e2]; exact hk _ (Gr.refl _)
    case skip => obtain ⟨e1, e2⟩ := h; rw [e1, ← e2]; exact hk _ (Gr.refl _)
    case enter f args =>
      obtain ⟨e1, hc⟩ := h
      rw [e1]
      exact hc.mono fun e w'' ⟨he, hg⟩ => by subst he; exact hk _ hg
  | halt x w' => simp only at h

/-! ### 3. Regions in whatever order, over classes of worlds -/
section
variable {P : Program} {ops : Array Oper} {Q : Exit → Act → World → Prop} {md : Region.Mode}
/-- What a panic leaves does not look at the temporaries. -/
class PanicOK (Q : Exit → Act → World → Prop) : Prop where
  ok : ∀ c a d v w, Q (.panic c) (a.put d v) w → Q (.panic c) a w
instance {fn : Func} {R : Ending → World → Prop} : PanicOK (bodyPost P fn R) := ⟨fun c a d v w h => by cases d <;> exact h⟩
instance {K : Act → World → Prop} {Q : Exit → Act → World → Prop} [h : PanicOK Q] : PanicOK (Exit.then K Q) := ⟨fun c a d v w hq => h.ok c a d v w hq⟩
instance {i : Nat} {Q : Exit → Act → World → Prop} [h : PanicOK Q] : PanicOK (Exit.inBlock i Q) := ⟨fun c a d v w hq => h.ok c a d v w hq⟩

def wpC (P : Program) (md : Region.Mode) (ops : Array Oper) (Q : Exit → Act → World → Prop) (ds : Nat → Bool) (S0 : World → Prop) : Nat → (World → Prop) → Array Bool → Act → Prop
  | 0, S, listed, a => Region.ready md ops listed = [] ∧ ∀ w, S w → Q .normal a w
  | fuel + 1, S, listed, a =>
    (Region.ready md ops listed = [] → ∀ w, S w → Q .normal a w) ∧
    ∀ i ∈ Region.ready md ops listed, ∀ w, S w → wpOp P ops Q i (fun a' w' => ∃ S' : World → Prop, S' w' ∧ GS S' ∧ (∀ w, S' w → S0 w) ∧ (ds i = true ∨ ∀ w, S' w → S w) ∧
      wpC P md ops Q ds S0 fuel S' (listed.setIfInBounds i true) a') a w
theorem wpAny_of_wpC {ds : Nat → Bool} {S0 : World → Prop} : ∀ (fuel : Nat) (S : World → Prop) (listed : Array Bool) (a : Act) (w : World), wpC P md ops Q ds S0 fuel S listed a → S w → wpAny P md ops Q fuel listed a w
  | 0, _, _, _, w, h, hw => ⟨h.1, h.2 w hw⟩
  | fuel + 1, _, _, _, w, h, hw => ⟨fun h0 => h.1 h0 w hw, fun i hi => wpOp_mono (fun a' w' ⟨S', hS', _, _, _, h'⟩ => wpAny_of_wpC fuel S' _ a' w' h' hS') (h.2 i hi w hw)⟩
/-- Operation 'oi' is quiet in class S in this state. -/
def QI (P : Program) (ops : Array Oper) (S : World → Prop) (o : Oper) (v : Value) (a : Act) : Prop :=
  (Region.wanted o (yielded ops a.tmps) = true ∧ ∀ w, S w → quietG P o a w v) ∨ (Region.wanted o (yielded ops a.tmps) = false ∧ v = undef)
theorem QI.sub {S S' : World → Prop} {o : Oper} {v : Value} {a : Act} (h : QI P ops S o v a) (hs : ∀ w, S' w → S w) : QI P ops S' o v a :=
  h.imp (fun ⟨h1, h2⟩ => ⟨h1, fun w hw => h2 w (hs w hw)⟩) id
theorem QI.of_same {S : World → Prop} {o : Oper} {v : Value} {a a' : Act} (hy : QI P ops S o v a) (he : execOp a'.eval o = execOp a.eval o)
    (hw : Region.wanted o (yielded ops a'.tmps) = Region.wanted o (yielded ops a.tmps)) : QI P ops S o v a' := by
  unfold QI quietG at *
  rw [he, hw]
  exact hy
theorem QI.wpOp {S : World → Prop} {i : Nat} {o : Oper} {v : Value} {a : Act} {w : World} {K : Act → World → Prop} (hi : ops[i]? = some o) (hy : QI P ops S o v a) (hw : S w)
    (hk : ∀ w', Gr w w' → K (a.put o.dst v) w') : wpOp P ops Q i K a w := by
  unfold Go.wpOp
  simp only [hi]
  rcases hy with ⟨h1, h2⟩ | ⟨h1, rfl⟩
  · simp only [h1, if_true]; exact .inl (Oper.wp_of_quietG (h2 w hw) hk)
  · simp only [h1, Bool.false_eq_true, if_false]; exact hk w (Gr.refl _)
theorem wpOp_away {j : Nat} {oi oj : Oper} {v : Value} (hj : ops[j]? = some oj) (hap : oi.apart ops oj = true) [hQ : PanicOK Q]
    (hsi : ∀ cs b, oi.op ≠ .select cs b) (hsj : ∀ cs b, oj.op ≠ .select cs b) {S : World → Prop} {K : Act → World → Prop} {a : Act} {w : World}
    (hy : QI P ops S oi v a) (h : wpOp P ops Q j K (a.put oi.dst v) w) :
    wpOp P ops Q j (fun a' w' => QI P ops S oi v a' ∧ K (a'.put oi.dst v) w') a w := by
  obtain ⟨h1, h2, h3⟩ := Oper.apart_spec hap
  have keep : ∀ u, QI P ops S oi v (a.put oj.dst u) := fun u => hy.of_same (execOp_put oi hsi a oj.dst u h3) (wanted_put oi a oj.dst u h3)
  have keepD : ∀ d u, QI P ops S oi v (({ a with defers := d :: a.defers } : Act).put oj.dst u) := fun d u => by
    have : QI P ops S oi v ({ a with defers := d :: a.defers } : Act) := hy.of_same rfl rfl
    exact this.of_same (execOp_put oi hsi _ oj.dst u h3) (wanted_put oi _ oj.dst u h3)
  have swap : ∀ u, ((a.put oi.dst v).put oj.dst u) = ((a.put oj.dst u).put oi.dst v) := fun u => Act.put_comm a v u h2
  unfold wpOp at *
  simp only [hj] at *
  rw [wanted_put oj a oi.dst v h1] at h
  by_cases hw : Region.wanted oj (yielded ops a.tmps) = true
  · simp only [hw, if_true] at h ⊢
    rcases h with h | ⟨hasks, hlets⟩
    · refine .inl ?_
      unfold Oper.wp at *
      rw [execOp_put oj hsj a oi.dst v h1] at h
      generalize (execOp a.eval oj).run P w = r at *
      cases r with
      | ok m w' =>
        cases m <;> simp only [Oper.upon] at h ⊢
        case value u => exact ⟨keep u, by rw [← swap]; exact h⟩
        case skip => exact ⟨keep _, by rw [← swap]; exact h⟩
        case defer d =>
          refine ⟨keepD d _, ?_⟩
          rw [← Act.put_comm _ v undef h2, ← Act.put_defers]
          exact h
        case enter f args =>
          refine Calls.mono h fun e w'' he => ?_
          cases e with
          | returned u => exact ⟨keep u, by rw [← swap]; exact he⟩
          | panicked c => exact hQ.ok _ _ _ _ _ he
          | outgrown => exact he
        case row row args => exact Rows.mono h fun u w'' he => ⟨keep u, by rw [← swap]; exact he⟩
      | halt x w' =>
        cases x <;> simp only [Oper.upon] at h ⊢
        case panic u => exact hQ.ok _ _ _ _ _ h
    · exact .inr ⟨by unfold Oper.asks at *; rw [execOp_put oj hsj a oi.dst v h1] at hasks; exact hasks, hlets⟩
  · simp only [hw] at h ⊢
    exact ⟨keep _, by rw [← swap]; exact h⟩
theorem wpC_first {ds : Nat → Bool} {S0 : World → Prop} [hQ : PanicOK Q] {i : Nat} {oi : Oper} {v : Value} (hi : ops[i]? = some oi) (hsel : Region.noSelect ops = true) :
    ∀ (fuel : Nat) (S : World → Prop) (listed : Array Bool) (a : Act),
      (∀ j oj, ops[j]? = some oj → j ≠ i → listed.getD j true = false → (∀ e ∈ oj.after, Region.binds md e = true → e.on ≠ i) → oi.apart ops oj = true ∧ ds j = false) →
      i ∈ Region.ready md ops listed → QI P ops S oi v a → GS S → (∀ w, S w → S0 w) →
      wpC P md ops Q ds S0 fuel S (listed.setIfInBounds i true) (a.put oi.dst v) → wpC P md ops Q ds S0 (fuel + 1) S listed a := by
  intro fuel
  induction fuel with
  | zero =>
    intro S listed a _ hr hy hS h0 H
    refine ⟨fun h => (by rw [h] at hr; cases hr), fun j hj w hw => ?_⟩
    by_cases hji : j = i
    · subst hji
      exact hy.wpOp hi hw fun w' hg => ⟨S, hS _ _ hw hg, hS, h0, .inr fun _ h => h, H⟩
    · have := ready_mono hj hji
      rw [H.1] at this
      cases this
  | succ fuel ih =>
    intro S listed a hfree hr hy hS h0 H
    refine ⟨fun h => (by rw [h] at hr; cases hr), fun j hj w hw => ?_⟩
    by_cases hji : j = i
    · subst hji
      exact hy.wpOp hi hw fun w' hg => ⟨S, hS _ _ hw hg, hS, h0, .inr fun _ h => h, H⟩
    · have h1 := H.2 j (ready_mono hj hji) w hw
      obtain ⟨hjun, oj, hoj, hall⟩ := mem_ready.1 hj
      have hnot : ∀ e ∈ oj.after, Region.binds md e = true → e.on ≠ i := fun e he hb heq => by
        have h1 := hall e he hb
        have hr0 := (mem_ready.1 hr).1
        rw [heq] at h1
        rcases Nat.lt_or_ge i listed.size with h' | h'
        · simp [h'] at hr0 h1; rw [hr0] at h1; cases h1
        · simp [Array.getElem?_eq_none h'] at h1
      obtain ⟨hap, hdj⟩ := hfree j oj hoj hji hjun hnot
      have h2 := wpOp_away (S := S) hoj hap (fun cs b => Region.noSelect_spec hsel i oi cs b hi) (fun cs b => Region.noSelect_spec hsel j oj cs b hoj) hy h1
      have hfree' : ∀ k ok, ops[k]? = some ok → k ≠ i → (listed.setIfInBounds j true).getD k true = false →
          (∀ e ∈ ok.after, Region.binds md e = true → e.on ≠ i) → oi.apart ops ok = true ∧ ds k = false := fun k ok hk hki hun hno => by
        refine hfree k ok hk hki ?_ hno
        by_cases hjk : j = k
        · subst hjk; exact hjun
        · rw [getD_set_ne true hjk] at hun; exact hun
      refine wpOp_mono (fun a' w' ⟨hy', S', hS', hG', hs0, hsub, h'⟩ => ?_) h2
      have hsub' : ∀ w, S' w → S w := hsub.resolve_left (by simp [hdj])
      refine ⟨S', hS', hG', hs0, .inr hsub', ih S' (listed.setIfInBounds j true) a' hfree' (ready_mono hr (Ne.symm hji)) (hy'.sub hsub') hG' hs0 ?_⟩
      rw [Array.setIfInBounds_comm _ _ hji]
      exact h'
/-- The check of one quiet operation that is taken first: whoever has not come up yet waits for it, or is apart from it and no destroyer. -/
def freeC (md : Region.Mode) (ops : Array Oper) (ds : Nat → Bool) (listed : Array Bool) (i : Nat) : Bool :=
  match ops[i]? with
  | none => false
  | some oi => (List.range ops.size).all fun j => j == i || listed.getD j true || match ops[j]? with
      | some oj => oj.after.any (fun e => Region.binds md e && e.on == i) || (oi.apart ops oj && !ds j)
      | none => true
theorem freeC_spec {ds : Nat → Bool} {i : Nat} {oi : Oper} {listed : Array Bool} (hi : ops[i]? = some oi) (h : freeC md ops ds listed i = true) (j : Nat) (oj : Oper)
    (hj : ops[j]? = some oj) (hne : j ≠ i) (hun : listed.getD j true = false) (hno : ∀ e ∈ oj.after, Region.binds md e = true → e.on ≠ i) :
    oi.apart ops oj = true ∧ ds j = false := by
  simp only [freeC, hi, List.all_eq_true, List.mem_range] at h
  have h1 := h j (Array.getElem?_eq_some_iff.1 hj).1
  simp only [hj, Bool.or_eq_true, beq_iff_eq, hne, false_or, hun, Bool.false_eq_true] at h1
  rcases h1 with h1 | h1
  · obtain ⟨e, he, hb⟩ := Array.any_eq_true'.1 h1
    simp only [Bool.and_eq_true, beq_iff_eq] at hb
    exact absurd hb.2 (hno e he hb.1)
  · simpa using h1
end
end Go.Px
/-
  Px, part 2: classes of worlds (anchors and blocks of one's own), and what single operations yield.
-/
namespace Go.Px
open Go Go.RowKit
set_option linter.unusedVariables false
set_option linter.unusedSimpArgs false

/-! ### 1. Classes of worlds -/
abbrev Loc := Nat × Obj
/-- Of the blocks of W, but for those of X, nothing has turned. -/
structure Keeps (W : World) (X : List Nat) (w : World) : Prop where
  os : w.os = W.os
  tape : w.tape = W.tape
  output : w.output = W.output
  size : W.heap.size ≤ w.heap.size
  block : ∀ i, i < W.heap.size → i ∉ X → w.heap[i]? = W.heap[i]?
theorem Keeps.refl (W : World) (X : List Nat) : Keeps W X W := ⟨rfl, rfl, rfl, Nat.le_refl _, fun _ _ _ => rfl⟩
theorem Keeps.gr {W : World} {X : List Nat} {w w' : World} (h : Keeps W X w) (g : Gr w w') : Keeps W X w' :=
  ⟨g.os.trans h.os, g.tape.trans h.tape, g.output.trans h.output, Nat.le_trans h.size g.size, fun i hi hx => (g.block i (Nat.lt_of_lt_of_le hi h.size)).trans (h.block i hi hx)⟩
theorem Keeps.trans {W : World} {X Y : List Nat} {w w' : World} (h : Keeps W X w) (g : Keeps w Y w') (hY : ∀ i ∈ Y, i ∈ X ∨ W.heap.size ≤ i) : Keeps W X w' :=
  ⟨g.os.trans h.os, g.tape.trans h.tape, g.output.trans h.output, Nat.le_trans h.size g.size, fun i hi hx =>
    (g.block i (Nat.lt_of_lt_of_le hi h.size) (fun hy => by rcases hY i hy with h | h <;> first | exact hx h | omega)).trans (h.block i hi hx)⟩
theorem Keeps.below {W w : World} (h : Keeps W [] w) : Gr W w := ⟨h.os, h.tape, h.output, h.size, fun i hi => h.block i hi (by simp)⟩
theorem Keeps.of_gr {W w : World} (g : Gr W w) (X : List Nat) : Keeps W X w := (Keeps.refl W X).gr g
theorem Keeps.mono {W : World} {X Y : List Nat} {w : World} (h : Keeps W X w) (hs : ∀ i ∈ X, i ∈ Y) : Keeps W Y w :=
  ⟨h.os, h.tape, h.output, h.size, fun i hi hx => h.block i hi (fun h => hx (hs i h))⟩
structure Cls (A : List (World × List Nat)) (L : List Loc) (w : World) : Prop where
  anc : ∀ p ∈ A, Keeps p.1 p.2 w
  loc : ∀ p ∈ L, w.heap[p.1]? = some p.2
  nd : (L.map (·.1)).Nodup
  own : ∀ p ∈ A, ∀ l ∈ L, l.1 ∈ p.2 ∨ p.1.heap.size ≤ l.1
theorem Cls.lt {A : List (World × List Nat)} {L : List Loc} {w : World} (h : Cls A L w) {p : Loc} (hp : p ∈ L) : p.1 < w.heap.size :=
  (Array.getElem?_eq_some_iff.1 (h.loc p hp)).1
theorem Cls.gs (A : List (World × List Nat)) (L : List Loc) : GS (Cls A L) := fun w w' h g =>
  ⟨fun p hp => (h.anc p hp).gr g, fun p hp => (g.block p.1 (h.lt hp)).trans (h.loc p hp), h.nd, h.own⟩
theorem Cls.alloc {A : List (World × List Nat)} {L : List Loc} {w : World} (h : Cls A L w) (o : Obj) : Cls A ((w.heap.size, o) :: L) (w.alloc o) := by
  have h' := Cls.gs A L w _ h (Gr.alloc w o)
  refine ⟨h'.anc, ?_, ?_, ?_⟩
  · intro p hp
    rcases List.mem_cons.1 hp with rfl | hp
    · show (w.heap.push o)[w.heap.size]? = some o
      simp
    · exact h'.loc p hp
  · simp only [List.map_cons, List.nodup_cons]
    refine ⟨?_, h.nd⟩
    intro hm
    obtain ⟨p, hp, he⟩ := List.mem_map.1 hm
    have := h.lt hp
    omega
  · intro p hp l hl
    rcases List.mem_cons.1 hl with rfl | hl
    · exact .inr (h.anc p hp).size
    · exact h.own p hp l hl
/-- start: at a world of which one owns nothing -/
theorem Cls.start (W : World) : Cls [(W, [])] [] W := ⟨fun p hp => by simp at hp; subst hp; exact Keeps.refl W [], by simp, by simp, by simp⟩
/-- What is known of the world at hand is laid as a new anchor. -/
theorem Cls.anchor {A : List (World × List Nat)} {L : List Loc} {w : World} (h : Cls A L w) : Cls ((w, L.map (·.1)) :: A) L w := by
  refine ⟨?_, h.loc, h.nd, ?_⟩
  · intro p hp
    rcases List.mem_cons.1 hp with rfl | hp
    · exact Keeps.refl _ _
    · exact h.anc p hp
  · intro p hp l hl
    rcases List.mem_cons.1 hp with rfl | hp
    · exact .inl (List.mem_map_of_mem hl)
    · exact h.own p hp l hl
/-! relations whose proof terms tell places -/
inductive Mem {α : Type} : List α → α → Prop
  | z {x l} : Mem (x :: l) x
  | s {y x l} : Mem l x → Mem (y :: l) x
theorem Mem.mem {α : Type} {l : List α} {x : α} (h : Mem l x) : x ∈ l := by
  induction h with
  | z => exact List.mem_cons_self
  | s _ ih => exact List.mem_cons_of_mem _ ih
/-- element i of l is v -/
inductive Nth {α : Type} : List α → Nat → α → Prop
  | z {x l} : Nth (x :: l) 0 x
  | s {y l n x} : Nth l n x → Nth (y :: l) (n + 1) x
theorem Nth.get {α : Type} {l : List α} {n : Nat} {x : α} (h : Nth l n x) : l[n]? = some x := by
  induction h with
  | z => rfl
  | s _ ih => simpa using ih
/-- n elements from place m on -/
inductive Ex {α : Type} : List α → Nat → Nat → List α → Prop
  | d {l} : Ex l 0 0 []
  | t {x l n r} : Ex l 0 n r → Ex (x :: l) 0 (n + 1) (x :: r)
  | s {y l m n r} : Ex l m n r → Ex (y :: l) (m + 1) n r
theorem Ex.spec {α : Type} {l : List α} {m n : Nat} {r : List α} (h : Ex l m n r) : (l.drop m).take n = r ∧ r.length = n ∧ m + n ≤ l.length := by
  induction h with
  | d => simp
  | t _ ih => obtain ⟨h1, h2, h3⟩ := ih; simp at h1 h2 h3 ⊢; exact ⟨h1, h2, by omega⟩
  | s _ ih => obtain ⟨h1, h2, h3⟩ := ih; simp at h1 h2 h3 ⊢; exact ⟨h1, h2, by omega⟩
theorem Ex.get {α : Type} {l : List α} {m n : Nat} {r : List α} (h : Ex l m n r) (i : Nat) (hi : i < n) : l[m + i]? = r[i]? := by
  obtain ⟨h1, h2, h3⟩ := h.spec
  rw [← h1, List.getElem?_take, if_pos hi, List.getElem?_drop]
/-- the elements from place m on become r -/
inductive Up {α : Type} : List α → Nat → List α → List α → Prop
  | d {l m} : Up l m [] l
  | t {x y l r l'} : Up l 0 r l' → Up (x :: l) 0 (y :: r) (y :: l')
  | s {y l m r l'} : Up l m r l' → Up (y :: l) (m + 1) r (y :: l')
theorem Up.len {α : Type} {l : List α} {m : Nat} {r l' : List α} (h : Up l m r l') : l'.length = l.length ∧ (r ≠ [] → m + r.length ≤ l.length) := by
  induction h with
  | d => simp
  | @t x y l r l' h ih => obtain ⟨h1, h2⟩ := ih; refine ⟨by simp [h1], fun _ => ?_⟩; cases r with | nil => simp | cons a b => have := h2 (by simp); simp at this ⊢; omega
  | s _ ih => obtain ⟨h1, h2⟩ := ih; refine ⟨by simp [h1], fun hr => ?_⟩; have := h2 hr; simp; omega
theorem Up.get {α : Type} {l : List α} {m : Nat} {r l' : List α} (h : Up l m r l') : ∀ i : Nat, l'[i]? = if m ≤ i ∧ i < m + r.length then r[i - m]? else l[i]? := by
  induction h with
  | d => intro i; simp; intro h1 h2; omega
  | @t x y l r l' h ih =>
    intro i
    cases i with
    | zero => simp
    | succ i =>
      have := ih i
      simp at this ⊢
      rw [this]
  | @s y l m r l' h ih =>
    intro i
    cases i with
    | zero => simp
    | succ i =>
      have := ih i
      simp only [List.getElem?_cons_succ, this]
      by_cases h1 : m ≤ i ∧ i < m + r.length
      · rw [if_pos h1, if_pos (by omega)]; congr 1; omega
      · rw [if_neg h1, if_neg (by omega)]
/-- the block of one's own at this place of the list becomes another -/
inductive LSet : List Loc → Nat → Obj → Obj → List Loc → Prop
  | z {b o o' L} : LSet ((b, o) :: L) b o o' ((b, o') :: L)
  | s {x b o o' L L'} : LSet L b o o' L' → LSet (x :: L) b o o' (x :: L')
theorem LSet.mem {L : List Loc} {b : Nat} {o o' : Obj} {L' : List Loc} (h : LSet L b o o' L') : (b, o) ∈ L := by
  induction h with
  | z => exact List.mem_cons_self
  | s _ ih => exact List.mem_cons_of_mem _ ih
theorem LSet.ids {L : List Loc} {b : Nat} {o o' : Obj} {L' : List Loc} (h : LSet L b o o' L') : L'.map (·.1) = L.map (·.1) := by
  induction h with
  | z => rfl
  | s _ ih => simp [ih]
theorem LSet.of {L : List Loc} {b : Nat} {o o' : Obj} {L' : List Loc} (h : LSet L b o o' L') (hn : (L.map (·.1)).Nodup) : ∀ p ∈ L', p = (b, o') ∨ (p ∈ L ∧ p.1 ≠ b) := by
  induction h with
  | @z b o o' L =>
    intro p hp
    rcases List.mem_cons.1 hp with rfl | hp
    · exact .inl rfl
    · refine .inr ⟨List.mem_cons_of_mem _ hp, fun e => ?_⟩
      simp only [List.map_cons, List.nodup_cons] at hn
      exact hn.1 (e ▸ List.mem_map_of_mem hp)
  | @s x b o o' L L' h ih =>
    intro p hp
    simp only [List.map_cons, List.nodup_cons] at hn
    rcases List.mem_cons.1 hp with rfl | hp
    · exact .inr ⟨List.mem_cons_self, fun e => hn.1 (by rw [e]; exact List.mem_map_of_mem h.mem)⟩
    · rcases ih hn.2 p hp with h | ⟨h1, h2⟩
      · exact .inl h
      · exact .inr ⟨List.mem_cons_of_mem _ h1, h2⟩
/-- One block of one's own is turned, nothing else. -/
theorem Cls.set {A : List (World × List Nat)} {L L' : List Loc} {b : Nat} {o o' : Obj} {w w' : World} (h : Cls A L w) (hL : LSet L b o o' L')
    (h1 : w'.os = w.os) (h2 : w'.tape = w.tape) (h3 : w'.output = w.output) (h4 : w.heap.size ≤ w'.heap.size) (hb : w'.heap[b]? = some o') (hk : ∀ i, i < w.heap.size → i ≠ b → w'.heap[i]? = w.heap[i]?) : Cls A L' w' := by
  have hlt : b < w.heap.size := h.lt hL.mem
  refine ⟨fun p hp => ?_, fun p hp => ?_, by rw [hL.ids]; exact h.nd, fun p hp l hl => ?_⟩
  · have hs : Keeps w [b] w' := ⟨h1, h2, h3, h4, fun i hi hne => hk i hi (by simpa using hne)⟩
    refine (h.anc p hp).trans hs fun i hi => ?_
    obtain rfl : i = b := by simpa using hi
    exact h.own p hp (i, o) hL.mem
  · rcases hL.of h.nd p hp with rfl | ⟨h1, h2⟩
    · exact hb
    · rw [hk _ (h.lt h1) h2]; exact h.loc p h1
  · have hm : l.1 ∈ L.map (·.1) := by rw [← hL.ids]; exact List.mem_map_of_mem hl
    obtain ⟨q, hq, he⟩ := List.mem_map.1 hm
    rw [← he]
    exact h.own p hp q hq

/-! ### 2. Facts on types -/
/-- a type's size in cells; whether it is an aggregate; its zero value -/
structure Ty (P : Program) (t n : Nat) (agg : Bool) (z : Value) : Prop where
  agg : ∀ w, (isAgg t).run P w = .ok agg w
  size : ∀ w, (sizeOf t).run P w = .ok n w
  zero : ∀ w, (zeroValue t).run P w = .ok z w
/-- a value of one cell -/
def sc : Value → Bool
  | .agg _ | .tuple _ => false
  | _ => true
/-- a value's cells -/
inductive Cl : Value → List Value → Prop
  | a {l} : Cl (.agg l.toArray) l
  | o {v} (h : sc v = true) : Cl v [v]
theorem Cl.cells {v : Value} {l : List Value} (h : Cl v l) : v.cells = l.toArray := by
  cases h with
  | a => rfl
  | o h => cases v <;> simp_all [Value.cells, sc]
theorem loadCellsFrom_run {P : Program} {w : World} {a : Addr} {l : List Value} (n : Nat) (h : ∀ i, i < n → ∃ v, l[i]? = some v ∧ w.cell? (a.add i) = some v) :
    ∀ (m i : Nat) (acc : Array Value), i + m = n → acc.toList = l.take i → (loadCellsFrom a i m acc).run P w = .ok (l.take n).toArray w := by
  intro m
  induction m with
  | zero => intro i acc hi ha; obtain rfl : i = n := by omega
            simp only [loadCellsFrom]
            show Result.ok acc w = _
            rw [← ha]
  | succ m ih =>
    intro i acc hi ha
    obtain ⟨v, hv, hc⟩ := h i (by omega)
    have hstep : (loadCellsFrom a i (m + 1) acc).run P w = (loadCellsFrom a (i + 1) m (acc.push v)).run P w := by
      simp only [loadCellsFrom, load, bind, Sem.bind, Sem.run, hc]
    rw [hstep]
    refine ih (i + 1) _ (by omega) ?_
    rw [Array.toList_push, ha, List.take_add_one, hv]
    rfl
theorem loadVar_agg {P : Program} {w : World} {t n : Nat} {z : Value} {a : Addr} {l : List Value} (ht : Ty P t n true z) (hl : l.length = n) (h : ∀ i, i < n → ∃ v, l[i]? = some v ∧ w.cell? (a.add i) = some v) :
    (loadVar t a).run P w = .ok (.agg l.toArray) w := by
  have h1 := loadCellsFrom_run (P := P) n h n 0 #[] (by omega) rfl
  rw [List.take_of_length_le (by omega)] at h1
  simp only [loadVar, Sem.run_bind, ht.agg, Result.andThen_ok, if_true, ht.size, loadCells, h1]
  rfl
theorem loadVar_one {P : Program} {w : World} {t n : Nat} {z : Value} {a : Addr} {v : Value} (ht : Ty P t n false z) (h : w.cell? a = some v) :
    (loadVar t a).run P w = .ok v w := by
  simp only [loadVar, Sem.run_bind, ht.agg, Result.andThen_ok, Bool.false_eq_true, if_false, load, Sem.run, h]
/-- a value of type t lies at address a, its cells being l -/
inductive LoadAt (P : Program) (t : Nat) (S : World → Prop) (a : Addr) : Value → Prop
  | agg {n z} {l : List Value} (ht : Ty P t n true z) (hl : l.length = n) (h : ∀ w, S w → ∀ i v, l[i]? = some v → w.cell? (a.add i) = some v) : LoadAt P t S a (.agg l.toArray)
  | one {n z} {v : Value} (ht : Ty P t n false z) (h : ∀ w, S w → w.cell? a = some v) : LoadAt P t S a v
theorem LoadAt.run {P : Program} {t : Nat} {S : World → Prop} {a : Addr} {v : Value} (h : LoadAt P t S a v) {w : World} (hw : S w) : (loadVar t a).run P w = .ok v w := by
  cases h with
  | agg ht hl h => exact loadVar_agg ht hl fun i hi => ⟨_, List.getElem?_eq_getElem (by omega), h w hw i _ (List.getElem?_eq_getElem (by omega))⟩
  | one ht h => exact loadVar_one ht (h w hw)
/-- a block of one's own -/
def blk (l : List Value) (t : TypeId) : Obj := .cells l.toArray t (0, 0)
theorem cell_blk {w : World} {b : Nat} {l : List Value} {t : TypeId} (h : w.heap[b]? = some (blk l t)) (i : Nat) : w.cell? ⟨b, i, none⟩ = l[i]? := by
  simp [World.cell?, h, blk]
theorem add_at (b o i : Nat) : (⟨b, o, none⟩ : Addr).add i = ⟨b, o + i, none⟩ := by unfold Addr.add; split <;> simp_all
theorem LoadAt.aggL {P : Program} {t n : Nat} {z : Value} {A : List (World × List Nat)} {L : List Loc} {b o : Nat} {l r : List Value} {tt : TypeId} (hL : Mem L (b, blk l tt)) (ht : Ty P t n true z) (he : Ex l o n r) : LoadAt P t (Cls A L) ⟨b, o, none⟩ (.agg r.toArray) :=
  .agg ht he.spec.2.1 fun w hw i v hv => by
    rw [add_at, cell_blk (hw.loc _ hL.mem), he.get i]
    · exact hv
    · have := (List.getElem?_eq_some_iff.1 hv).1
      have := he.spec.2.1
      omega
theorem LoadAt.oneL {P : Program} {t n : Nat} {z : Value} {A : List (World × List Nat)} {L : List Loc} {b o : Nat} {l : List Value} {v : Value} {tt : TypeId} (hL : Mem L (b, blk l tt)) (ht : Ty P t n false z) (he : Nth l o v) : LoadAt P t (Cls A L) ⟨b, o, none⟩ v :=
  .one ht fun w hw => by rw [cell_blk (hw.loc _ hL.mem)]; exact he.get

/-! ### 3. What single operations yield -/
/-- operands, one by one -/
inductive Evs (ρ : Env) : List Operand → List Value → Prop
  | n : Evs ρ [] []
  | c {x xs v vs} : ρ.ev x = some v → Evs ρ xs vs → Evs ρ (x :: xs) (v :: vs)
theorem Evs.map {n : Nat} {D : List Deferred} {ρ : Env} {a : Act} (h : AgT n D ρ a) {xs : List Operand} {vs : List Value} (hx : Evs ρ xs vs) : xs.toArray.map a.eval = vs.toArray := by
  induction hx with
  | n => simp
  | c h1 _ ih => simp only [List.map_toArray, List.map_cons, h.ev h1, Array.mk.injEq, List.cons.injEq, true_and] at ih ⊢; simpa using ih
/-- numbered operands, one by one -/
inductive EvsI (ρ : Env) : List (Nat × Operand) → List (Nat × Value) → Prop
  | n : EvsI ρ [] []
  | c {i x xs v vs} : ρ.ev x = some v → EvsI ρ xs vs → EvsI ρ ((i, x) :: xs) ((i, v) :: vs)
theorem EvsI.map {n : Nat} {D : List Deferred} {ρ : Env} {a : Act} (h : AgT n D ρ a) {xs : List (Nat × Operand)} {vs : List (Nat × Value)} (hx : EvsI ρ xs vs) : xs.toArray.map (fun (i, x) => (i, a.eval x)) = vs.toArray := by
  induction hx with
  | n => simp
  | c h1 _ ih => simp only [List.map_toArray, List.map_cons, h.ev h1, Array.mk.injEq, List.cons.injEq, true_and] at ih ⊢; simpa using ih
/-- a value under a condition -/
def gv (c : Bool) (v : Value) : Value := bif c then v else undef
theorem gva {ρ : Env} {x : Operand} {c d : Bool} {v : Value} (h : c = true) (hx : ρ.ev x = some (gv (c && d) v)) : ρ.ev x = some (gv d v) := by rw [hx, h]; rfl
theorem band_l {a b : Bool} (h : (a && b) = true) : a = true := by cases a <;> simp_all
theorem gvt {ρ : Env} {x : Operand} {c : Bool} {v : Value} (h : c = true) (hx : ρ.ev x = some (gv c v)) : ρ.ev x = some v := by rw [hx, h]; rfl
section
variable {P : Program} {n : Nat} {D : List Deferred} {ρ : Env} {C : World → Prop} {dst : Option Tmp} {ty : TypeId} {pos : String} {af : Array Edge} {g : Option (Nat × Bool)}
theorem YO.of {o : Oper} {v : Value} (h : ∀ a, AgT n D ρ a → ∀ w, C w → (execOp a.eval o).run P w = .ok (.value v) w) : YO P o n D ρ C v :=
  fun a ha w hw => quietG_of_run (h a ha w hw)
theorem run_val {s : Sem Value} {w : World} {v : Value} (h : s.run P w = .ok v w) : (do pure (Next.value (← s)) : Sem Next).run P w = .ok (.value v) w := by
  simp only [Sem.run_bind, h, Result.andThen_ok]; rfl
theorem y_move {x : Operand} {v : Value} (hx : ρ.ev x = some v) : YO P ⟨dst, .move x, ty, pos, af, g⟩ n D ρ C v :=
  .of fun a ha w _ => by simp only [execOp, ha.ev hx]; rfl
theorem y_assign {x : Operand} {v : Value} (hx : ρ.ev x = some v) : YO P ⟨dst, .assign x, ty, pos, af, g⟩ n D ρ C v :=
  .of fun a ha w _ => by simp only [execOp, ha.ev hx]; rfl
theorem y_or {c x y : Operand} {t e : Bool} (hc : ρ.ev c = some (.bool t)) (hx : ρ.ev x = some (.bool true)) (hy : ρ.ev y = some (gv (!t) (.bool e))) : YO P ⟨dst, .pick c x y, ty, pos, af, g⟩ n D ρ C (.bool (t || e)) :=
  .of fun a ha w _ => by
    simp only [execOp, ha.ev hc, ha.ev hx, ha.ev hy, asBool]
    cases t <;> simp [gv, pure, bind, Sem.bind, Sem.run]
theorem y_and {c x y : Operand} {t e : Bool} (hc : ρ.ev c = some (.bool t)) (hx : ρ.ev x = some (gv t (.bool e))) (hy : ρ.ev y = some (.bool false)) : YO P ⟨dst, .pick c x y, ty, pos, af, g⟩ n D ρ C (.bool (t && e)) :=
  .of fun a ha w _ => by
    simp only [execOp, ha.ev hc, ha.ev hx, ha.ev hy, asBool]
    cases t <;> simp [gv, pure, bind, Sem.bind, Sem.run]
/-- a binary operation, by what the two functions of the model come to -/
theorem y_bin {op : BinOp} {xt yt : TypeId} {x y : Operand} {u v r : Value} (hx : ρ.ev x = some u) (hy : ρ.ev y = some v) (h1 : ∀ w, (eqGuard op xt x y u v).run P w = .ok () w) (h2 : ∀ w, (binOp op xt u v).run P w = .ok r w) :
    YO P ⟨dst, .binOp op xt x y yt, ty, pos, af, g⟩ n D ρ C r :=
  .of fun a ha w _ => by
    simp only [execOp, ha.ev hx, ha.ev hy]
    exact run_val (by simp only [Sem.run_bind, h1, Result.andThen_ok, h2])
theorem eqGuard_int {op : BinOp} {xt : TypeId} {x y : Operand} {k k' : IntKind} {m r : Int} (w : World) : (eqGuard op xt x y (.int k m) (.int k' r)).run P w = .ok () w := by
  unfold eqGuard; split <;> rfl
theorem eqGuard_bool {op : BinOp} {xt : TypeId} {x y : Operand} {m r : Bool} (w : World) : (eqGuard op xt x y (.bool m) (.bool r)).run P w = .ok () w := by
  unfold eqGuard; split <;> rfl
theorem eqGuard_string {op : BinOp} {xt : TypeId} {x y : Operand} {m r : ByteArray} (w : World) : (eqGuard op xt x y (.string m) (.string r)).run P w = .ok () w := by
  unfold eqGuard; split <;> rfl
section ints
variable {xt yt : TypeId} {x y : Operand} {k : IntKind} {m r : Int}
theorem y_add (hx : ρ.ev x = some (.int k m)) (hy : ρ.ev y = some (.int k r)) : YO P ⟨dst, .binOp .add xt x y yt, ty, pos, af, g⟩ n D ρ C (.int k (k.wrap (m + r))) :=
  y_bin hx hy (fun w => eqGuard_int w) fun w => by simp only [binOp, ne_eq, not_true_eq_false, if_false, Op.intArith]; rfl
theorem y_sub (hx : ρ.ev x = some (.int k m)) (hy : ρ.ev y = some (.int k r)) : YO P ⟨dst, .binOp .sub xt x y yt, ty, pos, af, g⟩ n D ρ C (.int k (k.wrap (m - r))) :=
  y_bin hx hy (fun w => eqGuard_int w) fun w => by simp only [binOp, ne_eq, not_true_eq_false, if_false, Op.intArith]; rfl
theorem y_mul (hx : ρ.ev x = some (.int k m)) (hy : ρ.ev y = some (.int k r)) : YO P ⟨dst, .binOp .mul xt x y yt, ty, pos, af, g⟩ n D ρ C (.int k (k.wrap (m * r))) :=
  y_bin hx hy (fun w => eqGuard_int w) fun w => by simp only [binOp, ne_eq, not_true_eq_false, if_false, Op.intArith]; rfl
theorem y_quo (hx : ρ.ev x = some (.int k m)) (hy : ρ.ev y = some (.int k r)) (h0 : r ≠ 0) : YO P ⟨dst, .binOp .quo xt x y yt, ty, pos, af, g⟩ n D ρ C (.int k (k.wrap (m.tdiv r))) :=
  y_bin hx hy (fun w => eqGuard_int w) fun w => by simp only [binOp, ne_eq, not_true_eq_false, if_false, Op.intDiv, h0]; rfl
theorem y_rem (hx : ρ.ev x = some (.int k m)) (hy : ρ.ev y = some (.int k r)) (h0 : r ≠ 0) : YO P ⟨dst, .binOp .rem xt x y yt, ty, pos, af, g⟩ n D ρ C (.int k (m.tmod r)) :=
  y_bin hx hy (fun w => eqGuard_int w) fun w => by simp only [binOp, ne_eq, not_true_eq_false, if_false, Op.intDiv, h0]; rfl
theorem y_band (hx : ρ.ev x = some (.int k m)) (hy : ρ.ev y = some (.int k r)) : YO P ⟨dst, .binOp .and xt x y yt, ty, pos, af, g⟩ n D ρ C (.int k (k.wrap (BitVec.ofInt k.bits m &&& BitVec.ofInt k.bits r).toNat)) :=
  y_bin hx hy (fun w => eqGuard_int w) fun w => by simp only [binOp, ne_eq, not_true_eq_false, if_false, Op.intBits]; rfl
theorem y_bor (hx : ρ.ev x = some (.int k m)) (hy : ρ.ev y = some (.int k r)) : YO P ⟨dst, .binOp .or xt x y yt, ty, pos, af, g⟩ n D ρ C (.int k (k.wrap (BitVec.ofInt k.bits m ||| BitVec.ofInt k.bits r).toNat)) :=
  y_bin hx hy (fun w => eqGuard_int w) fun w => by simp only [binOp, ne_eq, not_true_eq_false, if_false, Op.intBits]; rfl
theorem y_bxor (hx : ρ.ev x = some (.int k m)) (hy : ρ.ev y = some (.int k r)) : YO P ⟨dst, .binOp .xor xt x y yt, ty, pos, af, g⟩ n D ρ C (.int k (k.wrap (BitVec.ofInt k.bits m ^^^ BitVec.ofInt k.bits r).toNat)) :=
  y_bin hx hy (fun w => eqGuard_int w) fun w => by simp only [binOp, ne_eq, not_true_eq_false, if_false, Op.intBits]; rfl
theorem y_andNot (hx : ρ.ev x = some (.int k m)) (hy : ρ.ev y = some (.int k r)) : YO P ⟨dst, .binOp .andNot xt x y yt, ty, pos, af, g⟩ n D ρ C (.int k (k.wrap (BitVec.ofInt k.bits m &&& ~~~ BitVec.ofInt k.bits r).toNat)) :=
  y_bin hx hy (fun w => eqGuard_int w) fun w => by simp only [binOp, ne_eq, not_true_eq_false, if_false, Op.intBits]; rfl
theorem y_shl {k' : IntKind} (hx : ρ.ev x = some (.int k m)) (hy : ρ.ev y = some (.int k' r)) (h0 : 0 ≤ r) : YO P ⟨dst, .binOp .shl xt x y yt, ty, pos, af, g⟩ n D ρ C (.int k (k.wrap (m * 2 ^ (min r.toNat k.bits)))) :=
  y_bin hx hy (fun w => eqGuard_int w) fun w => by simp only [binOp, Op.shift, if_neg (show ¬ r < 0 by omega)]; rfl
theorem y_shr {k' : IntKind} (hx : ρ.ev x = some (.int k m)) (hy : ρ.ev y = some (.int k' r)) (h0 : 0 ≤ r) : YO P ⟨dst, .binOp .shr xt x y yt, ty, pos, af, g⟩ n D ρ C (.int k (m.fdiv (2 ^ (min r.toNat k.bits)))) :=
  y_bin hx hy (fun w => eqGuard_int w) fun w => by simp only [binOp, Op.shift, if_neg (show ¬ r < 0 by omega)]; rfl
theorem y_lss (hx : ρ.ev x = some (.int k m)) (hy : ρ.ev y = some (.int k r)) : YO P ⟨dst, .binOp .lss xt x y yt, ty, pos, af, g⟩ n D ρ C (.bool (decide (m < r))) :=
  y_bin hx hy (fun w => eqGuard_int w) fun w => by simp only [binOp, ne_eq, not_true_eq_false, if_false, Op.intCmp]; rfl
theorem y_leq (hx : ρ.ev x = some (.int k m)) (hy : ρ.ev y = some (.int k r)) : YO P ⟨dst, .binOp .leq xt x y yt, ty, pos, af, g⟩ n D ρ C (.bool (decide (m ≤ r))) :=
  y_bin hx hy (fun w => eqGuard_int w) fun w => by simp only [binOp, ne_eq, not_true_eq_false, if_false, Op.intCmp]; rfl
theorem y_gtr (hx : ρ.ev x = some (.int k m)) (hy : ρ.ev y = some (.int k r)) : YO P ⟨dst, .binOp .gtr xt x y yt, ty, pos, af, g⟩ n D ρ C (.bool (decide (r < m))) :=
  y_bin hx hy (fun w => eqGuard_int w) fun w => by simp only [binOp, ne_eq, not_true_eq_false, if_false, Op.intCmp]; rfl
theorem y_geq (hx : ρ.ev x = some (.int k m)) (hy : ρ.ev y = some (.int k r)) : YO P ⟨dst, .binOp .geq xt x y yt, ty, pos, af, g⟩ n D ρ C (.bool (decide (r ≤ m))) :=
  y_bin hx hy (fun w => eqGuard_int w) fun w => by simp only [binOp, ne_eq, not_true_eq_false, if_false, Op.intCmp]; rfl
theorem y_eql (hx : ρ.ev x = some (.int k m)) (hy : ρ.ev y = some (.int k r)) : YO P ⟨dst, .binOp .eql xt x y yt, ty, pos, af, g⟩ n D ρ C (.bool (decide (m = r))) :=
  y_bin hx hy (fun w => eqGuard_int w) fun w => by simp only [binOp, ne_eq, not_true_eq_false, if_false, Op.intCmp]; rfl
theorem y_neq (hx : ρ.ev x = some (.int k m)) (hy : ρ.ev y = some (.int k r)) : YO P ⟨dst, .binOp .neq xt x y yt, ty, pos, af, g⟩ n D ρ C (.bool (!decide (m = r))) :=
  y_bin hx hy (fun w => eqGuard_int w) fun w => by simp only [binOp, ne_eq, not_true_eq_false, if_false, Op.intCmp]; rfl
theorem y_neg (hx : ρ.ev x = some (.int k m)) : YO P ⟨dst, .unOp .neg xt x, ty, pos, af, g⟩ n D ρ C (.int k (k.wrap (0 - m))) :=
  .of fun a ha w _ => by simp only [execOp, ha.ev hx]; exact run_val (by simp only [Op.unary, Op.intArith]; rfl)
theorem y_com (hx : ρ.ev x = some (.int k m)) : YO P ⟨dst, .unOp .xor xt x, ty, pos, af, g⟩ n D ρ C (.int k (k.wrap (BitVec.ofInt k.bits (if k.signed then -1 else k.max) ^^^ BitVec.ofInt k.bits m).toNat)) :=
  .of fun a ha w _ => by simp only [execOp, ha.ev hx]; exact run_val (by simp only [Op.unary, Op.intBits]; rfl)
theorem y_conv {src dt : TypeId} {k' : IntKind} {du : TypeDesc} (hs : P.underlying src = some du) (hd : P.underlying dt = some (.int k')) (hx : ρ.ev x = some (.int k m)) : YO P ⟨dst, .convert src dt x, ty, pos, af, g⟩ n D ρ C (.int k' (k'.wrap m)) :=
  .of fun a ha w _ => by
    simp only [execOp, ha.ev hx]
    exact run_val (by simp only [convert, Sem.run_bind, run_underlying hs, run_underlying hd, Result.andThen_ok, Conv.intToInt]; rfl)
end ints
theorem y_not {xt : TypeId} {x : Operand} {t : Bool} (hx : ρ.ev x = some (.bool t)) : YO P ⟨dst, .unOp .not xt x, ty, pos, af, g⟩ n D ρ C (.bool (!t)) :=
  .of fun a ha w _ => by simp only [execOp, ha.ev hx]; exact run_val (by simp only [Op.unary]; rfl)
theorem y_min2 {ats : Array TypeId} {x y : Operand} {k k' : IntKind} {m r : Int} (hx : ρ.ev x = some (.int k m)) (hy : ρ.ev y = some (.int k' r)) :
    YO P ⟨dst, .call { callee := .builtin .min, args := [x, y].toArray, argTypes := ats }, ty, pos, af, g⟩ n D ρ C (.int k (min m r)) :=
  .of fun a ha w _ => by
    simp only [execOp, resolve, List.map_toArray, List.map_cons, List.map_nil, ha.ev hx, ha.ev hy, Sem.run_bind, invoke, builtin, Builtin.min_, Builtin.min2, List.foldlM, pure, bind, Sem.bind, Sem.run, Result.andThen_ok]
    congr 3
    simp only [Int.min_def]; split <;> split <;> omega
theorem y_max2 {ats : Array TypeId} {x y : Operand} {k k' : IntKind} {m r : Int} (hx : ρ.ev x = some (.int k m)) (hy : ρ.ev y = some (.int k' r)) :
    YO P ⟨dst, .call { callee := .builtin .max, args := [x, y].toArray, argTypes := ats }, ty, pos, af, g⟩ n D ρ C (.int k (max m r)) :=
  .of fun a ha w _ => by
    simp only [execOp, resolve, List.map_toArray, List.map_cons, List.map_nil, ha.ev hx, ha.ev hy, Sem.run_bind, invoke, builtin, Builtin.max_, Builtin.max2, List.foldlM, pure, bind, Sem.bind, Sem.run, Result.andThen_ok]
    congr 3
    simp only [Int.max_def]; split <;> split <;> omega
theorem y_extract {x : Operand} {i : Nat} {l : List Value} {v : Value} (hx : ρ.ev x = some (.tuple l.toArray)) (hi : Nth l i v) : YO P ⟨dst, .extract x i, ty, pos, af, g⟩ n D ρ C v :=
  .of fun a ha w _ => by
    simp only [execOp, ha.ev hx]
    exact run_val (by simp only [Instr.extract, List.getElem?_toArray, hi.get]; rfl)
theorem y_load {x : Operand} {t : TypeId} {ad : Addr} {v : Value} (hx : ρ.ev x = some (.pointer (some ad))) (h : LoadAt P t C ad v) : YO P ⟨dst, .load t x, ty, pos, af, g⟩ n D ρ C v :=
  .of fun a ha w hw => by
    simp only [execOp, ha.ev hx]
    exact run_val (by simp only [Instr.loadAt, Instr.sureAddr, pure, bind, Sem.bind]; exact h.run hw)
/-- where a field lies -/
def FA (P : Program) (s i off : Nat) : Prop := ∀ w b o, (Instr.fieldAt s (.pointer (some ⟨b, o, none⟩)) i).run P w = .ok (.pointer (some ⟨b, o + off, none⟩)) w
theorem fa_of {P : Program} {s i m : Nat} {fs : Array Field} {f : Field} (hu : P.underlying s = some (.struct fs)) {off : Nat} (hf : fs[i]? = some f) (ho : f.offset = off) (hs : ∀ w, (sizeOf f.type).run P w = .ok (m + 1) w) : FA P s i off := fun w b o => by
  subst ho
  simp only [Instr.fieldAt, Sem.run_bind, run_underlying hu, Result.andThen_ok, hf, Instr.sureAddr, fieldPlace, hs, pure, Sem.run]
  simp only [Nat.add_eq_zero_iff, Nat.one_ne_zero, and_false, if_false, add_at]
  rfl
theorem y_fieldAddr {x : Operand} {s i off : Nat} {b o : Nat} (hx : ρ.ev x = some (.pointer (some ⟨b, o, none⟩))) (h : FA P s i off) : YO P ⟨dst, .fieldAddr s x i, ty, pos, af, g⟩ n D ρ C (.pointer (some ⟨b, o + off, none⟩)) :=
  .of fun a ha w _ => by simp only [execOp, ha.ev hx]; exact run_val (h w b o)
end
end Go.Px
/-
  Px, part 3: judgements over regions and code; operations that make or turn memory; loops; returns; the entry.
-/
namespace Go.Px
open Go Go.RowKit
set_option linter.unusedVariables false
set_option linter.unusedSimpArgs false

/-! ### 1. Judgements -/
def LJ (P : Program) (ops : Array Oper) (Q : Exit → Act → World → Prop) (rest : List Oper) (n : Nat) (D : List Deferred) (ρ : Env) (C : World → Prop) : Prop :=
  ∀ a w, AgT n D ρ a → C w → wpList P ops Q rest a w
def AJ (P : Program) (ops : Array Oper) (Q : Exit → Act → World → Prop) (ds : Nat → Bool) (S0 : World → Prop) (fuel : Nat) (listed : Array Bool) (n : Nat) (D : List Deferred) (ρ : Env) (C : World → Prop) : Prop :=
  (∀ w, C w → S0 w) → ∀ a, AgT n D ρ a → wpC P .any ops Q ds S0 fuel C listed a
def CJ (P : Program) (c : Code) (Q : Exit → Act → World → Prop) (n : Nat) (D : List Deferred) (ρ : Env) (C : World → Prop) : Prop :=
  ∀ a w, AgT n D ρ a → C w → c.wp P Q a w
def EJ (Q : Exit → Act → World → Prop) (e : Exit) (n : Nat) (D : List Deferred) (ρ : Env) (C : World → Prop) : Prop :=
  ∀ a w, AgT n D ρ a → C w → Q e a w
/-- an operation that makes or turns memory: behind it, for some x of which H holds, the environment ρ' x and the class C' x -/
def NO (P : Program) (o : Oper) (n : Nat) (D : List Deferred) (ρ : Env) (C : World → Prop) {α : Type} (H : α → Prop) (ρ' : α → Env) (C' : α → World → Prop) : Prop :=
  ∀ a w, AgT n D ρ a → C w → ∀ (K : Act → World → Prop) (Q : Exit → Act → World → Prop), (∀ x, H x → ∀ a' w', AgT n D (ρ' x) a' → C' x w' → K a' w') → o.wp P a w K Q
section
variable {P : Program} {ops : Array Oper} {Q : Exit → Act → World → Prop} {rest : List Oper} {n : Nat} {D : List Deferred} {ρ ρ' : Env} {C C' : World → Prop} {op : Op} {ty : TypeId} {pos : String} {af : Array Edge} {ds : Nat → Bool} {S0 : World → Prop} {fuel : Nat} {listed : Array Bool}
theorem CJ.weak {c : Code} (hρ : Picks ρ ρ') (hC : ∀ w, C w → C' w) (h : CJ P c Q n D ρ' C') : CJ P c Q n D ρ C := fun a w ha hw => h a w (ha.of_all hρ.sub) (hC w hw)
theorem LJ.weak (hρ : Picks ρ ρ') (hC : ∀ w, C w → C' w) (h : LJ P ops Q rest n D ρ' C') : LJ P ops Q rest n D ρ C := fun a w ha hw => h a w (ha.of_all hρ.sub) (hC w hw)
theorem EJ.weak {e : Exit} (hρ : Picks ρ ρ') (hC : ∀ w, C w → C' w) (h : EJ Q e n D ρ' C') : EJ Q e n D ρ C := fun a w ha hw => h a w (ha.of_all hρ.sub) (hC w hw)

/-! ### 2. A region in the order of its text -/
theorem l_nil (h : EJ Q .normal n D ρ C) : LJ P ops Q [] n D ρ C := fun a w ha hw => h a w ha hw
theorem l_y {d : Nat} {v : Value} (hg : GS C) (h : YO P ⟨some d, op, ty, pos, af, none⟩ n D ρ C v) (hd : Nat.blt d n = true) (next : LJ P ops Q rest n D ((d, v) :: ρ) C) :
    LJ P ops Q (⟨some d, op, ty, pos, af, none⟩ :: rest) n D ρ C := fun a w ha hw => by
  unfold wpList
  rw [if_pos (by simp [Region.wanted])]
  exact .inl (Oper.wp_of_quietG (h a ha w hw) fun w' hg' => next _ _ (ha.put d v hd) (hg _ _ hw hg'))
theorem l_y0 {v : Value} (hg : GS C) (h : YO P ⟨none, op, ty, pos, af, none⟩ n D ρ C v) (next : LJ P ops Q rest n D ρ C) :
    LJ P ops Q (⟨none, op, ty, pos, af, none⟩ :: rest) n D ρ C := fun a w ha hw => by
  unfold wpList
  rw [if_pos (by simp [Region.wanted])]
  exact .inl (Oper.wp_of_quietG (h a ha w hw) fun w' hg' => next _ _ ha (hg _ _ hw hg'))
theorem wanted_of {a : Act} {j s : Nat} {want t c : Bool} (ha : AgT n D ρ a) (hj : (ops[j]?).bind (·.dst) = some s) (hs : ρ.get? s = some (.bool t)) (hc : (t == want) = c) {d : Option Tmp} :
    Region.wanted ⟨d, op, ty, pos, af, some (j, want)⟩ (yielded ops a.tmps) = c := by
  have h1 := ha.env s _ hs
  simp only [Region.wanted, yielded, hj, Option.bind_some, h1]
  rw [← hc]
  simp
/-- an operation under a guard -/
theorem l_g {d j s : Nat} {want t c : Bool} {v : Value} (hg : GS C) (hj : (ops[j]?).bind (·.dst) = some s) (hs : ρ.get? s = some (.bool t)) (hc : (t == want) = c)
    (h : c = true → YO P ⟨some d, op, ty, pos, af, some (j, want)⟩ n D ρ C v) (hd : Nat.blt d n = true) (next : LJ P ops Q rest n D ((d, gv c v) :: ρ) C) :
    LJ P ops Q (⟨some d, op, ty, pos, af, some (j, want)⟩ :: rest) n D ρ C := fun a w ha hw => by
  unfold wpList
  rw [wanted_of ha hj hs hc]
  cases hcc : c with
  | true =>
    rw [if_pos rfl]
    refine .inl (Oper.wp_of_quietG (h hcc a ha w hw) fun w' hg' => ?_)
    have := next _ _ (ha.put d (gv c v) hd) (hg _ _ hw hg')
    rw [hcc] at this
    exact this
  | false =>
    rw [if_neg (by simp)]
    have := next _ _ (ha.put d (gv c v) hd) hw
    rw [hcc] at this
    exact this
theorem wanted_of2 {a : Act} {j s : Nat} {want t c1 c2 : Bool} (ha : AgT n D ρ a) (hj : (ops[j]?).bind (·.dst) = some s) (hs : ρ.get? s = some (gv c1 (.bool t))) (hc : (t == want) = c2) {d : Option Tmp} :
    Region.wanted ⟨d, op, ty, pos, af, some (j, want)⟩ (yielded ops a.tmps) = (c1 && c2) := by
  have h1 := ha.env s _ hs
  cases c1 with
  | true =>
    have h1 : a.tmps[s]? = some (.bool t) := h1
    simp only [Region.wanted, yielded, hj, Option.bind_some, h1]
    rw [← hc]
    simp
  | false =>
    have h1 : a.tmps[s]? = some undef := h1
    simp only [Region.wanted, yielded, hj, Option.bind_some, h1]
    simp [undef]
theorem l_gg {d j s : Nat} {want t c1 c2 : Bool} {v : Value} (hg : GS C) (hj : (ops[j]?).bind (·.dst) = some s) (hs : ρ.get? s = some (gv c1 (.bool t))) (hc : (t == want) = c2)
    (h : (c1 && c2) = true → YO P ⟨some d, op, ty, pos, af, some (j, want)⟩ n D ρ C v) (hd : Nat.blt d n = true) (next : LJ P ops Q rest n D ((d, gv (c1 && c2) v) :: ρ) C) :
    LJ P ops Q (⟨some d, op, ty, pos, af, some (j, want)⟩ :: rest) n D ρ C := fun a w ha hw => by
  unfold wpList
  rw [wanted_of2 ha hj hs hc]
  cases hcc : (c1 && c2) with
  | true =>
    rw [if_pos rfl]
    refine .inl (Oper.wp_of_quietG (h hcc a ha w hw) fun w' hg' => ?_)
    have := next _ _ (ha.put d (gv (c1 && c2) v) hd) (hg _ _ hw hg')
    rw [hcc] at this
    exact this
  | false =>
    rw [if_neg (by simp)]
    have := next _ _ (ha.put d (gv (c1 && c2) v) hd) hw
    rw [hcc] at this
    exact this
theorem l_n {o : Oper} {α : Type} {H : α → Prop} {ρ' : α → Env} {C' : α → World → Prop} (hgd : o.guard = none) (hN : NO P o n D ρ C H ρ' C') (next : ∀ x, H x → LJ P ops Q rest n D (ρ' x) (C' x)) :
    LJ P ops Q (o :: rest) n D ρ C := fun a w ha hw => by
  unfold wpList
  rw [if_pos (by simp [Region.wanted, hgd])]
  exact .inl (hN a w ha hw _ _ fun x hx a' w' ha' hw' => next x hx a' w' ha' hw')

/-! ### 3. A region whose order is drawn -/
theorem a_done (hr : Region.ready .any ops listed = []) (h : EJ Q .normal n D ρ C) : AJ P ops Q ds S0 fuel listed n D ρ C := fun h0 a ha => by
  cases fuel with
  | zero => exact ⟨hr, fun w hw => h a w ha hw⟩
  | succ f => exact ⟨fun _ w hw => h a w ha hw, by rw [hr]; simp⟩
theorem a_y [PanicOK Q] {i d : Nat} {v : Value} (hg : GS C) (hsel : Region.noSelect ops = true) (hi : ops[i]? = some ⟨some d, op, ty, pos, af, none⟩) (hf : freeC .any ops ds listed i = true) (hr : (Region.ready .any ops listed).contains i = true)
    (h : YO P ⟨some d, op, ty, pos, af, none⟩ n D ρ C v) (hd : Nat.blt d n = true) (next : AJ P ops Q ds S0 fuel (listed.setIfInBounds i true) n D ((d, v) :: ρ) C) :
    AJ P ops Q ds S0 (fuel + 1) listed n D ρ C := fun h0 a ha =>
  wpC_first hi hsel fuel C listed a (freeC_spec hi hf) (by simpa using hr) (.inl ⟨by simp [Region.wanted], h a ha⟩) hg h0 (next h0 _ (ha.put d v hd))
theorem a_g [PanicOK Q] {i d j s : Nat} {want t c : Bool} {v : Value} (hg : GS C) (hsel : Region.noSelect ops = true) (hi : ops[i]? = some ⟨some d, op, ty, pos, af, some (j, want)⟩) (hf : freeC .any ops ds listed i = true) (hr : (Region.ready .any ops listed).contains i = true)
    (hj : (ops[j]?).bind (·.dst) = some s) (hs : ρ.get? s = some (.bool t)) (hc : (t == want) = c)
    (h : c = true → YO P ⟨some d, op, ty, pos, af, some (j, want)⟩ n D ρ C v) (hd : Nat.blt d n = true) (next : AJ P ops Q ds S0 fuel (listed.setIfInBounds i true) n D ((d, gv c v) :: ρ) C) :
    AJ P ops Q ds S0 (fuel + 1) listed n D ρ C := fun h0 a ha => by
  refine wpC_first (v := gv c v) hi hsel fuel C listed a (freeC_spec hi hf) (by simpa using hr) ?_ hg h0 (next h0 _ (ha.put d _ hd))
  have hw := wanted_of (op := op) (ty := ty) (pos := pos) (af := af) (d := some d) ha hj hs hc
  cases hcc : c with
  | true => exact .inl ⟨by rw [hw, hcc], fun w hw' => h hcc a ha w hw'⟩
  | false => exact .inr ⟨by rw [hw, hcc], rfl⟩
theorem a_gg [PanicOK Q] {i d j s : Nat} {want t c1 c2 : Bool} {v : Value} (hg : GS C) (hsel : Region.noSelect ops = true) (hi : ops[i]? = some ⟨some d, op, ty, pos, af, some (j, want)⟩) (hf : freeC .any ops ds listed i = true) (hr : (Region.ready .any ops listed).contains i = true)
    (hj : (ops[j]?).bind (·.dst) = some s) (hs : ρ.get? s = some (gv c1 (.bool t))) (hc : (t == want) = c2)
    (h : (c1 && c2) = true → YO P ⟨some d, op, ty, pos, af, some (j, want)⟩ n D ρ C v) (hd : Nat.blt d n = true) (next : AJ P ops Q ds S0 fuel (listed.setIfInBounds i true) n D ((d, gv (c1 && c2) v) :: ρ) C) :
    AJ P ops Q ds S0 (fuel + 1) listed n D ρ C := fun h0 a ha => by
  refine wpC_first (v := gv (c1 && c2) v) hi hsel fuel C listed a (freeC_spec hi hf) (by simpa using hr) ?_ hg h0 (next h0 _ (ha.put d _ hd))
  have hw := wanted_of2 (op := op) (ty := ty) (pos := pos) (af := af) (d := some d) ha hj hs hc
  cases hcc : (c1 && c2) with
  | true => exact .inl ⟨by rw [hw, hcc], fun w hw' => h hcc a ha w hw'⟩
  | false => exact .inr ⟨by rw [hw, hcc], rfl⟩
/-- an operation that looks at no memory may come first even ahead of those that turn memory -/
def freeM (md : Region.Mode) (ops : Array Oper) (listed : Array Bool) (i : Nat) : Bool := freeC md ops (fun _ => false) listed i
theorem wpC_firstM {md : Region.Mode} [hQ : PanicOK Q] {i : Nat} {oi : Oper} {v : Value} (hi : ops[i]? = some oi) (hsel : Region.noSelect ops = true) :
    ∀ (fuel : Nat) (S : World → Prop) (listed : Array Bool) (a : Act),
      (∀ j oj, ops[j]? = some oj → j ≠ i → listed.getD j true = false → (∀ e ∈ oj.after, Region.binds md e = true → e.on ≠ i) → oi.apart ops oj = true) →
      i ∈ Region.ready md ops listed → QI P ops S0 oi v a → GS S → (∀ w, S w → S0 w) →
      wpC P md ops Q ds S0 fuel S (listed.setIfInBounds i true) (a.put oi.dst v) → wpC P md ops Q ds S0 (fuel + 1) S listed a := by
  intro fuel
  induction fuel with
  | zero =>
    intro S listed a _ hr hy hS h0 H
    refine ⟨fun h => (by rw [h] at hr; cases hr), fun j hj w hw => ?_⟩
    by_cases hji : j = i
    · subst hji
      exact hy.wpOp hi (h0 w hw) fun w' hg => ⟨S, hS _ _ hw hg, hS, h0, .inr fun _ h => h, H⟩
    · have := ready_mono hj hji
      rw [H.1] at this
      cases this
  | succ fuel ih =>
    intro S listed a hfree hr hy hS h0 H
    refine ⟨fun h => (by rw [h] at hr; cases hr), fun j hj w hw => ?_⟩
    by_cases hji : j = i
    · subst hji
      exact hy.wpOp hi (h0 w hw) fun w' hg => ⟨S, hS _ _ hw hg, hS, h0, .inr fun _ h => h, H⟩
    · have h1 := H.2 j (ready_mono hj hji) w hw
      obtain ⟨hjun, oj, hoj, hall⟩ := mem_ready.1 hj
      have hnot : ∀ e ∈ oj.after, Region.binds md e = true → e.on ≠ i := fun e he hb heq => by
        have h1 := hall e he hb
        have hr0 := (mem_ready.1 hr).1
        rw [heq] at h1
        rcases Nat.lt_or_ge i listed.size with h' | h'
        · simp [h'] at hr0 h1; rw [hr0] at h1; cases h1
        · simp [Array.getElem?_eq_none h'] at h1
      have hap := hfree j oj hoj hji hjun hnot
      have h2 := wpOp_away (S := S0) hoj hap (fun cs b => Region.noSelect_spec hsel i oi cs b hi) (fun cs b => Region.noSelect_spec hsel j oj cs b hoj) hy h1
      have hfree' : ∀ k ok, ops[k]? = some ok → k ≠ i → (listed.setIfInBounds j true).getD k true = false →
          (∀ e ∈ ok.after, Region.binds md e = true → e.on ≠ i) → oi.apart ops ok = true := fun k ok hk hki hun hno => by
        refine hfree k ok hk hki ?_ hno
        by_cases hjk : j = k
        · subst hjk; exact hjun
        · rw [getD_set_ne true hjk] at hun; exact hun
      refine wpOp_mono (fun a' w' ⟨hy', S', hS', hG', hs0, hsub, h'⟩ => ?_) h2
      refine ⟨S', hS', hG', hs0, hsub, ih S' (listed.setIfInBounds j true) a' hfree' (ready_mono hr (Ne.symm hji)) hy' hG' hs0 ?_⟩
      rw [Array.setIfInBounds_comm _ _ hji]
      exact h'
theorem freeM_spec {i : Nat} {oi : Oper} (hi : ops[i]? = some oi) (h : freeM .any ops listed i = true) (j : Nat) (oj : Oper)
    (hj : ops[j]? = some oj) (hne : j ≠ i) (hun : listed.getD j true = false) (hno : ∀ e ∈ oj.after, Region.binds .any e = true → e.on ≠ i) : oi.apart ops oj = true :=
  (freeC_spec hi h j oj hj hne hun hno).1
theorem a_yM [PanicOK Q] {i d : Nat} {v : Value} (hg : GS C) (hsel : Region.noSelect ops = true) (hi : ops[i]? = some ⟨some d, op, ty, pos, af, none⟩) (hf : freeM .any ops listed i = true) (hr : (Region.ready .any ops listed).contains i = true)
    (h : YO P ⟨some d, op, ty, pos, af, none⟩ n D ρ S0 v) (hd : Nat.blt d n = true) (next : AJ P ops Q ds S0 fuel (listed.setIfInBounds i true) n D ((d, v) :: ρ) C) :
    AJ P ops Q ds S0 (fuel + 1) listed n D ρ C := fun h0 a ha =>
  wpC_firstM hi hsel fuel C listed a (freeM_spec hi hf) (by simpa using hr) (.inl ⟨by simp [Region.wanted], h a ha⟩) hg h0 (next h0 _ (ha.put d v hd))
theorem a_gM [PanicOK Q] {i d j s : Nat} {want t c : Bool} {v : Value} (hg : GS C) (hsel : Region.noSelect ops = true) (hi : ops[i]? = some ⟨some d, op, ty, pos, af, some (j, want)⟩) (hf : freeM .any ops listed i = true) (hr : (Region.ready .any ops listed).contains i = true)
    (hj : (ops[j]?).bind (·.dst) = some s) (hs : ρ.get? s = some (.bool t)) (hc : (t == want) = c)
    (h : c = true → YO P ⟨some d, op, ty, pos, af, some (j, want)⟩ n D ρ S0 v) (hd : Nat.blt d n = true) (next : AJ P ops Q ds S0 fuel (listed.setIfInBounds i true) n D ((d, gv c v) :: ρ) C) :
    AJ P ops Q ds S0 (fuel + 1) listed n D ρ C := fun h0 a ha => by
  refine wpC_firstM (v := gv c v) hi hsel fuel C listed a (freeM_spec hi hf) (by simpa using hr) ?_ hg h0 (next h0 _ (ha.put d _ hd))
  have hw := wanted_of (op := op) (ty := ty) (pos := pos) (af := af) (d := some d) ha hj hs hc
  cases hcc : c with
  | true => exact .inl ⟨by rw [hw, hcc], fun w hw' => h hcc a ha w hw'⟩
  | false => exact .inr ⟨by rw [hw, hcc], rfl⟩
theorem a_n {i : Nat} {o : Oper} {α : Type} {H : α → Prop} {ρ' : α → Env} {C' : α → World → Prop} (hi : ops[i]? = some o) (hgd : o.guard = none) (hr : Region.ready .any ops listed = [i]) (hG : ∀ x, GS (C' x)) (hsub : (ds i = true ∧ ∀ x w, C' x w → S0 w) ∨ ∀ x w, C' x w → C w)
    (hN : NO P o n D ρ C H ρ' C') (next : ∀ x, H x → AJ P ops Q ds S0 fuel (listed.setIfInBounds i true) n D (ρ' x) (C' x)) : AJ P ops Q ds S0 (fuel + 1) listed n D ρ C := fun h0 a ha => by
  refine ⟨fun h => (by rw [hr] at h; cases h), fun j hj w hw => ?_⟩
  rw [hr] at hj
  obtain rfl : j = i := by simpa using hj
  unfold wpOp
  simp only [hi]
  rw [if_pos (by simp [Region.wanted, hgd])]
  exact .inl (hN a w ha hw _ _ fun x hx a' w' ha' hw' => ⟨C' x, hw', hG x, (hsub.elim (fun h => h.2 x) (fun h w hw => h0 w (h x w hw))), hsub.imp (fun h => h.1) (fun h => h x), next x hx (hsub.elim (fun h => h.2 x) (fun h w hw => h0 w (h x w hw))) a' ha'⟩)

/-! ### 4. Code -/
theorem c_text {id : Nat} {l : List Oper} (h : LJ P l.toArray Q l n D ρ C) : CJ P (.region id l.toArray false) Q n D ρ C := fun a w ha hw => wp_region_lit (h a w ha hw)
theorem c_draw {id m : Nat} (ds : Nat → Bool) (hS0 : ∀ w, C w → S0 w) (hm : P.follows .mixedOrders = true) (hg : GS C) (hs : ops.size = m) (h : AJ P ops Q ds S0 m (Array.replicate m false) n D ρ C) : CJ P (.region id ops true) Q n D ρ C := fun a w ha hw => by
  subst hs
  exact wp_region_any hm (wpAny_of_wpC _ _ _ _ _ (h hS0 a ha) (hg _ _ hw (Gr.drawn w)))
theorem c_skip (h : EJ Q .normal n D ρ C) : CJ P .skip Q n D ρ C := fun a w ha hw => wp_skip (h a w ha hw)
theorem c_ret (h : EJ Q .ret n D ρ C) : CJ P .ret Q n D ρ C := fun a w ha hw => wp_ret (h a w ha hw)
theorem c_exit {id : Nat} (h : EJ Q (.exit id) n D ρ C) : CJ P (.exit id) Q n D ρ C := fun a w ha hw => wp_exit (h a w ha hw)
theorem c_label {id : Nat} (h : EJ Q .normal n D ρ C) : CJ P (.label id) Q n D ρ C := fun a w ha hw => wp_label (h a w ha hw)
theorem c_seq {x y : Code} (h : CJ P x (Exit.then (y.wp P Q) Q) n D ρ C) : CJ P (.seq x y) Q n D ρ C := fun a w ha hw => wp_seq (h a w ha hw)
theorem c_block {id : Nat} {c : Code} (h : CJ P c (Exit.inBlock id Q) n D ρ C) : CJ P (.block id c) Q n D ρ C := fun a w ha hw => wp_block (h a w ha hw)
theorem c_cond {x : Operand} {c d : Code} {t : Bool} (hx : ρ.ev x = some (.bool t)) (ht : t = true → CJ P c Q n D ρ C) (hf : t = false → CJ P d Q n D ρ C) : CJ P (.cond x c d) Q n D ρ C := fun a w ha hw =>
  wp_cond_split (ha.ev hx) (fun h => ht h a w ha hw) (fun h => hf h a w ha hw)
theorem c_true {x : Operand} {c d : Code} (hx : ρ.ev x = some (.bool true)) (h : CJ P c Q n D ρ C) : CJ P (.cond x c d) Q n D ρ C := c_cond hx (fun _ => h) (fun h => by cases h)
theorem c_false {x : Operand} {c d : Code} (hx : ρ.ev x = some (.bool false)) (h : CJ P d Q n D ρ C) : CJ P (.cond x c d) Q n D ρ C := c_cond hx (fun h => by cases h) (fun _ => h)
theorem e_then {y : Code} (h : CJ P y Q n D ρ C) : EJ (Exit.then (y.wp P Q) Q) .normal n D ρ C := h
theorem e_then_ret {K : Act → World → Prop} (h : EJ Q .ret n D ρ C) : EJ (Exit.then K Q) .ret n D ρ C := h
theorem e_then_exit {K : Act → World → Prop} {id : Nat} (h : EJ Q (.exit id) n D ρ C) : EJ (Exit.then K Q) (.exit id) n D ρ C := h
theorem e_block {id : Nat} (h : EJ Q .normal n D ρ C) : EJ (Exit.inBlock id Q) .normal n D ρ C := h
theorem e_block_ret {id : Nat} (h : EJ Q .ret n D ρ C) : EJ (Exit.inBlock id Q) .ret n D ρ C := h
theorem e_block_hit {id : Nat} (h : EJ Q .normal n D ρ C) : EJ (Exit.inBlock id Q) (.exit id) n D ρ C := fun a w ha hw => by
  show if id = id then _ else _
  rw [if_pos rfl]; exact h a w ha hw
theorem e_block_miss {id id' : Nat} (hne : Nat.beq id' id = false) (h : EJ Q (.exit id') n D ρ C) : EJ (Exit.inBlock id Q) (.exit id') n D ρ C := fun a w ha hw => by
  show if id' = id then _ else _
  rw [if_neg (Nat.ne_of_beq_eq_false hne)]; exact h a w ha hw
/-- a sequence, cut: behind the first part a state told for some x -/
def mid (n : Nat) (D : List Deferred) {β : Type} (H : β → Prop) (ρ' : β → Env) (C' : β → World → Prop) : Act → World → Prop := fun a w => ∃ x, H x ∧ AgT n D (ρ' x) a ∧ C' x w
theorem c_cut {x y : Code} {β : Type} (H : β → Prop) (ρ' : β → Env) (C' : β → World → Prop) (h : CJ P x (Exit.then (mid n D H ρ' C') Q) n D ρ C) (k : ∀ b, H b → CJ P y Q n D (ρ' b) (C' b)) : CJ P (.seq x y) Q n D ρ C := fun a w ha hw =>
  wp_seq (wp_mono (h a w ha hw) fun e a' w' hq => by
    cases e with
    | normal => obtain ⟨b, hb, ha', hw'⟩ := hq; exact k b hb a' w' ha' hw'
    | exit id => exact hq
    | goto l => exact hq
    | ret => exact hq
    | panic c => exact hq
    | outgrown => exact hq)
theorem e_mid {β : Type} {H : β → Prop} {ρ' : β → Env} {C' : β → World → Prop} (x : β) (hx : H x) (hρ : Picks ρ (ρ' x)) (hC : ∀ w, C w → C' x w) : EJ (Exit.then (mid n D H ρ' C') Q) .normal n D ρ C := fun a w ha hw =>
  ⟨x, hx, ha.of_all hρ.sub, hC w hw⟩
/-- a loop: at each round's head, for some x, the environment ρL x and the class CL x -/
def again (n : Nat) (D : List Deferred) {α : Type} (I : α → Prop) (ρL : α → Env) (CL : α → World → Prop) (μ : α → Nat) (m : Nat) : Act → World → Prop := fun a w => ∃ x, I x ∧ μ x < m ∧ AgT n D (ρL x) a ∧ CL x w
theorem least_of {J : Nat → Prop} (h : ∃ m, J m) : ∃ m, J m ∧ ∀ k, J k → m ≤ k := by
  obtain ⟨m, hm⟩ := h
  induction m using Nat.strongRecOn with
  | _ m ih =>
    by_cases hk : ∃ k, k < m ∧ J k
    · obtain ⟨k, hlt, hJ⟩ := hk; exact ih k hlt hJ
    · exact ⟨m, hm, fun k hJ => Nat.le_of_not_lt fun hlt => hk ⟨k, hlt, hJ⟩⟩
open Classical in
theorem c_loop {c : Code} {α : Type} (I : α → Prop) (ρL : α → Env) (CL : α → World → Prop) (μ : α → Nat) (x0 : α) (h0 : I x0) (hρ : Picks ρ (ρL x0)) (hC : ∀ w, C w → CL x0 w)
    (round : ∀ x, I x → CJ P c (Exit.then (again n D I ρL CL μ (μ x)) Q) n D (ρL x) (CL x)) : CJ P (.loop c) Q n D ρ C := fun a w ha hw => by
  let J : Act → World → Nat → Prop := fun a w m => ∃ x, I x ∧ μ x = m ∧ AgT n D (ρL x) a ∧ CL x w
  let M : Act → World → Nat := fun a w => if h : ∃ m, J a w m then Classical.choose (least_of h) else 0
  refine wp_loop (fun a w => ∃ m, J a w m) M ⟨_, x0, h0, rfl, ha.of_all hρ.sub, hC w hw⟩ ?_
  intro a w hJ
  have hM : M a w = Classical.choose (least_of hJ) := dif_pos hJ
  obtain ⟨x, hx, hm, ha', hw'⟩ := (Classical.choose_spec (least_of hJ)).1
  refine wp_mono (round x hx a w ha' hw') fun e a2 w2 hq => ?_
  cases e with
  | normal =>
    obtain ⟨y, hy, hlt, ha2, hw2⟩ := hq
    have hJ2 : ∃ m, J a2 w2 m := ⟨_, y, hy, rfl, ha2, hw2⟩
    have hM2 : M a2 w2 = Classical.choose (least_of hJ2) := dif_pos hJ2
    refine ⟨hJ2, ?_⟩
    rw [hM, hM2]
    have h1 := (Classical.choose_spec (least_of hJ2)).2 (μ y) ⟨y, hy, rfl, ha2, hw2⟩
    omega
  | exit id => exact hq
  | goto l => exact hq
  | ret => exact hq
  | panic c => exact hq
  | outgrown => exact hq
theorem e_again {α : Type} {I : α → Prop} {ρL : α → Env} {CL : α → World → Prop} {μ : α → Nat} {m : Nat} (x : α) (hx : I x) (hm : μ x < m) (hρ : Picks ρ (ρL x)) (hC : ∀ w, C w → CL x w) : EJ (Exit.then (again n D I ρL CL μ m) Q) .normal n D ρ C := fun a w ha hw =>
  ⟨x, hx, hm, ha.of_all hρ.sub, hC w hw⟩

/-- a loop, round by round -/
def RJ (P : Program) (c : Code) (Q : Exit → Act → World → Prop) (m : Nat) (n : Nat) (D : List Deferred) (ρ : Env) (C : World → Prop) : Prop :=
  ∀ a w, AgT n D ρ a → C w → Code.rounds P c Q m a w
theorem c_rounds {c : Code} (m : Nat) (h : RJ P c Q m n D ρ C) : CJ P (.loop c) Q n D ρ C := fun a w ha hw => wp_loop_rounds m (h a w ha hw)
theorem r_succ {c : Code} {m : Nat} (h : CJ P c (Exit.then (Code.rounds P c Q m) Q) n D ρ C) : RJ P c Q (m + 1) n D ρ C := h
theorem e_rounds {c : Code} {m : Nat} (h : RJ P c Q m n D ρ C) : EJ (Exit.then (Code.rounds P c Q m) Q) .normal n D ρ C := h
theorem RJ.weak {c : Code} {m : Nat} (hρ : Picks ρ ρ') (hC : ∀ w, C w → C' w) (h : RJ P c Q m n D ρ' C') : RJ P c Q m n D ρ C := fun a w ha hw => h a w (ha.of_all hρ.sub) (hC w hw)

/-! ### 5. The entry and the return -/
def argEnv : List Value → Nat → Env
  | [], _ => []
  | v :: r, i => (i, v) :: argEnv r (i + 1)
theorem argEnv_get : ∀ (l : List Value) (i t : Nat) (v : Value), (argEnv l i).get? t = some v → i ≤ t ∧ l[t - i]? = some v
  | [], _, _, _, h => by simp [argEnv, Env.get?] at h
  | u :: r, i, t, v, h => by
    simp only [argEnv, Env.get?] at h
    cases hb : Nat.beq i t with
    | true =>
      rw [hb] at h
      have : i = t := Nat.eq_of_beq_eq_true hb
      subst this
      simpa using h
    | false =>
      rw [hb] at h
      have hne : i ≠ t := Nat.ne_of_beq_eq_false hb
      obtain ⟨h1, h2⟩ := argEnv_get r (i + 1) t v (by simpa using h)
      refine ⟨by omega, ?_⟩
      obtain ⟨k, hk⟩ : ∃ k, t - i = k + 1 := ⟨t - i - 1, by omega⟩
      rw [hk]
      simp only [List.getElem?_cons_succ]
      rw [← h2]; congr 1; omega
theorem enter {f : FuncId} {fn : Func} {c : Code} {vs : List Value} {w : World} {R : Ending → World → Prop} (hf : P.funcs[f]? = some fn) (hb : fn.body = some c) (hn : fn.ntmps = n) (hl : Nat.ble vs.length n = true)
    (hρ : argEnv vs 0 = ρ) (hw : C w) (h : CJ P c (bodyPost P fn R) n [] ρ C) : Calls P f vs.toArray w R := by
  subst hn hρ
  have hl : vs.length ≤ fn.ntmps := by simpa using hl
  refine calls_of_wp hf hb (h _ w ⟨by simp; omega, rfl, fun t v ht => ?_⟩ hw)
  obtain ⟨_, h2⟩ := argEnv_get vs 0 t v ht
  simp only [Nat.sub_zero] at h2
  have hlt : t < vs.length := (List.getElem?_eq_some_iff.1 h2).1
  rw [Array.getElem?_append_left (by simpa using hlt)]
  simpa using h2
inductive Res (P : Program) (ρ : Env) (C : World → Prop) : List ResultVar → List Value → Prop
  | n : Res P ρ C [] []
  | t {i v rs vs} : ρ.get? i = some v → Res P ρ C rs vs → Res P ρ C (.tmp i :: rs) (v :: vs)
  | c {i t ad v rs vs} : ρ.get? i = some (.pointer (some ad)) → LoadAt P t C ad v → Res P ρ C rs vs → Res P ρ C (.cell i t :: rs) (v :: vs)
def resF (a : Act) : ResultVar → Sem Value
  | .tmp i => pure (a.tmps.getD i undef)
  | .cell i u => do loadVar u (← asAddr (a.tmps.getD i undef))
theorem Res.run {a : Act} {w : World} (ha : AgT n D ρ a) (hw : C w) {rs : List ResultVar} {vs : List Value} (h : Res P ρ C rs vs) : (rs.mapM (m := Sem) (resF a)).run P w = .ok vs w := by
  induction h with
  | n => rfl
  | @t i v rs vs h1 _ ih =>
    have e1 : (resF a (.tmp i)).run P w = .ok v w := congrArg (fun v => Result.ok v w) (ha.tmp h1)
    rw [List.mapM_cons, Sem.run_bind, e1, Result.andThen_ok, Sem.run_bind, ih, Result.andThen_ok]
    rfl
  | @c i u ad v rs vs h1 h2 _ ih =>
    have e1 : (resF a (.cell i u)).run P w = .ok v w := by
      simp only [resF]
      rw [ha.tmp h1]
      exact h2.run hw
    rw [List.mapM_cons, Sem.run_bind, e1, Result.andThen_ok, Sem.run_bind, ih, Result.andThen_ok]
    rfl
def outOf : List Value → Value
  | [v] => v
  | vs => .tuple vs.toArray
theorem results_run {fn : Func} {a : Act} {w : World} {rs : List ResultVar} {vs : List Value} (hr : fn.results = rs.toArray) (ha : AgT n D ρ a) (hw : C w) (h : Res P ρ C rs vs) : (results fn a.tmps).run P w = .ok (outOf vs) w := by
  have h1 := h.run ha hw
  have e : results fn a.tmps = (do let l ← rs.toArray.mapM (m := Sem) (resF a); pure (if h : l.size = 1 then l[0] else .tuple l)) := by
    unfold results
    rw [hr]
    refine congrArg (fun z : Sem (Array Value) => z >>= fun l => pure (if h : l.size = 1 then l[0] else .tuple l)) (congrArg (fun f => Array.mapM (m := Sem) f rs.toArray) ?_)
    funext r; cases r <;> rfl
  rw [e, List.mapM_toArray, Sem.run_bind]
  have h2 : (List.toArray <$> rs.mapM (m := Sem) (resF a)).run P w = .ok vs.toArray w := by
    have h3 : (rs.mapM (m := Sem) (resF a) >>= fun l => pure l.toArray : Sem (Array Value)).run P w = .ok vs.toArray w := by rw [Sem.run_bind, h1, Result.andThen_ok]; rfl
    rw [← h3]; rfl
  rw [h2, Result.andThen_ok]
  cases vs with
  | nil => rfl
  | cons v r => cases r with
    | nil => rfl
    | cons u r => rfl
theorem e_ret {fn : Func} {rs : List ResultVar} {vs : List Value} {R : Ending → World → Prop} (hr : fn.results = rs.toArray) (h : Res P ρ C rs vs) (hR : ∀ w, C w → R (.returned (outOf vs)) w) : EJ (bodyPost P fn R) .ret n [] ρ C := fun a w ha hw =>
  ⟨ha.dfs, _, results_run hr ha hw h, hR w hw⟩
theorem e_end {fn : Func} {rs : List ResultVar} {vs : List Value} {R : Ending → World → Prop} (hr : fn.results = rs.toArray) (h : Res P ρ C rs vs) (hR : ∀ w, C w → R (.returned (outOf vs)) w) : EJ (bodyPost P fn R) .normal n [] ρ C := fun a w ha hw =>
  ⟨ha.dfs, _, results_run hr ha hw h, hR w hw⟩
end
end Go.Px
/-
  Px, part 4: operations that make or turn memory; calls; more operations that yield.
-/
namespace Go.Px
open Go Go.RowKit
set_option linter.unusedVariables false
set_option linter.unusedSimpArgs false
section
variable {P : Program} {n : Nat} {D : List Deferred} {ρ : Env} {C : World → Prop} {ty : TypeId} {pos : String} {af : Array Edge} {A : List (World × List Nat)} {L : List Loc} {dst : Option Tmp} {g : Option (Nat × Bool)}
theorem run_val' {s : Sem Value} {w w' : World} {v : Value} (h : s.run P w = .ok v w') : (do pure (Next.value (← s)) : Sem Next).run P w = .ok (.value v) w' := by
  simp only [Sem.run_bind, h, Result.andThen_ok]; rfl
theorem run_unit {s : Sem Unit} {w w' : World} (h : s.run P w = .ok () w') : (do s; pure Next.skip : Sem Next).run P w = .ok .skip w' := by
  simp only [Sem.run_bind, h, Result.andThen_ok]; rfl
theorem NO.of {o : Oper} {d : Nat} {α : Type} {H : α → Prop} {val : α → Value} {C' : α → World → Prop} (hd : o.dst = some d) (hn : Nat.blt d n = true)
    (h : ∀ a, AgT n D ρ a → ∀ w, C w → ∃ x w', H x ∧ (execOp a.eval o).run P w = .ok (.value (val x)) w' ∧ C' x w') : NO P o n D ρ C H (fun x => (d, val x) :: ρ) C' := fun a w ha hw K Q hK => by
  obtain ⟨x, w', hx, hr, hc⟩ := h a ha w hw
  unfold Oper.wp
  rw [hr]
  show K (a.put o.dst (val x)) w'
  rw [hd]
  exact hK x hx _ _ (ha.put d _ hn) hc
theorem NO.of0 {o : Oper} {α : Type} {H : α → Prop} {C' : α → World → Prop} (hd : o.dst = none)
    (h : ∀ a, AgT n D ρ a → ∀ w, C w → ∃ x w', H x ∧ (execOp a.eval o).run P w = .ok .skip w' ∧ C' x w') : NO P o n D ρ C H (fun _ => ρ) C' := fun a w ha hw K Q hK => by
  obtain ⟨x, w', hx, hr, hc⟩ := h a ha w hw
  unfold Oper.wp
  rw [hr]
  show K (a.put o.dst undef) w'
  rw [hd]
  exact hK x hx _ _ ha hc
/-! ### blocks of one's own -/
theorem newVar_run {t : TypeId} {v : Value} {l : List Value} (h : Cl v l) (w : World) : (newVar t v).run P w = .ok ⟨w.heap.size, 0, none⟩ (w.alloc (blk l t)) := by
  simp only [newVar, newRow, h.cells]
  rfl
theorem n_alloc {d : Nat} {t m : Nat} {b : Bool} {z : Value} {l : List Value} (ht : Ty P t m b z) (hz : Cl z l) (hn : Nat.blt d n = true) :
    NO P ⟨some d, .alloc t, ty, pos, af, g⟩ n D ρ (Cls A L) (fun _ : Nat => True) (fun b => (d, .pointer (some ⟨b, 0, none⟩)) :: ρ) (fun b => Cls A ((b, blk l t) :: L)) :=
  NO.of rfl hn fun a ha w hw => ⟨w.heap.size, w.alloc (blk l t), trivial, by
    simp only [execOp]
    exact run_val' (by simp only [Instr.alloc, Sem.run_bind, ht.zero, Result.andThen_ok, newVar_run hz]; rfl), hw.alloc _⟩
theorem n_box {d : Nat} {t : TypeId} {x : Operand} {v : Value} {l : List Value} (hx : ρ.ev x = some v) (hz : Cl v l) (hn : Nat.blt d n = true) :
    NO P ⟨some d, .box t x, ty, pos, af, g⟩ n D ρ (Cls A L) (fun _ : Nat => True) (fun b => (d, .pointer (some ⟨b, 0, none⟩)) :: ρ) (fun b => Cls A ((b, blk l t) :: L)) :=
  NO.of rfl hn fun a ha w hw => ⟨w.heap.size, w.alloc (blk l t), trivial, by
    simp only [execOp, ha.ev hx]
    exact run_val' (by simp only [Instr.box, Sem.run_bind, newVar_run hz, Result.andThen_ok]; rfl), hw.alloc _⟩
def setAll {α : Type} : List α → Nat → List α → List α
  | l, _, [] => l
  | l, m, v :: r => setAll (l.set m v) (m + 1) r
theorem setAll_cons {α : Type} (x : α) : ∀ (r l : List α) (m : Nat), setAll (x :: l) (m + 1) r = x :: setAll l m r
  | [], _, _ => rfl
  | v :: r, l, m => by simp only [setAll, List.set_cons_succ]; exact setAll_cons x r (l.set m v) (m + 1)
theorem Up.setAll {α : Type} {l : List α} {m : Nat} {r l' : List α} (h : Up l m r l') : Px.setAll l m r = l' := by
  induction h with
  | d => rfl
  | @t x y l r l' h ih => simp only [Px.setAll, List.set_cons_zero, setAll_cons, Nat.zero_add]; rw [ih]
  | s h ih => rw [setAll_cons, ih]
theorem storeCells_run {b : Nat} {tt : TypeId} : ∀ (r l : List Value) (o i : Nat) (w : World), w.heap[b]? = some (blk l tt) → r.all sc = true → o + i + r.length ≤ l.length →
    ∃ w', (storeCells ⟨b, o, none⟩ r i).run P w = .ok () w' ∧ w'.heap[b]? = some (blk (Px.setAll l (o + i) r) tt) ∧ w'.os = w.os ∧ w'.tape = w.tape ∧ w'.output = w.output ∧ w'.heap.size = w.heap.size ∧ ∀ k, k ≠ b → w'.heap[k]? = w.heap[k]?
  | [], l, o, i, w, hb, _, _ => ⟨w, rfl, hb, rfl, rfl, rfl, rfl, fun _ _ => rfl⟩
  | v :: r, l, o, i, w, hb, hs, hl => by
    simp only [List.all_cons, Bool.and_eq_true] at hs
    simp only [List.length_cons] at hl
    have hlt : o + i < l.length := by omega
    have hc : w.cell? ⟨b, o + i, none⟩ = some l[o + i] := by rw [cell_blk hb]; exact List.getElem?_eq_getElem hlt
    have hfr : w.frozen? ⟨b, o + i, none⟩ = false := by simp [World.frozen?, hb, blk]
    have hb' : (w.setCell ⟨b, o + i, none⟩ v).heap[b]? = some (blk (l.set (o + i) v) tt) := by
      simp [World.setCell, Array.getElem?_modify, hb, blk]
    obtain ⟨w', h1, h2, h3, h4, h5, h6, h7⟩ := storeCells_run r (l.set (o + i) v) o (i + 1) (w.setCell ⟨b, o + i, none⟩ v) hb' hs.2 (by simp; omega)
    refine ⟨w', ?_, h2, h3, h4, h5, by rw [h6]; simp [World.setCell], fun k hk => ?_⟩
    · have hst : (storeCells ⟨b, o, none⟩ (v :: r) i).run P w = (storeCells ⟨b, o, none⟩ r (i + 1)).run P (w.setCell ⟨b, o + i, none⟩ v) := by
        have hv := hs.1
        simp only [storeCells, add_at, store, bind, Sem.bind]
        cases v <;> first | (simp [sc] at hv; done) | (simp only [Sem.run, hc, hfr]; rfl)
      rw [hst, h1]
    · rw [h7 k hk]
      exact Below.heap_setCell _ _ _ _ hk
/-- a store into a block of one's own -/
theorem n_store {t m : Nat} {ag : Bool} {z : Value} {x y : Operand} {b o : Nat} {v : Value} {r l l' : List Value} {tt : TypeId} {L' : List Loc} (hx : ρ.ev x = some (.pointer (some ⟨b, o, none⟩))) (hy : ρ.ev y = some v) (ht : Ty P t (m + 1) ag z) (hv : Cl v r)
    (hr : r.length = m + 1) (hs : r.all sc = true) (hL : LSet L b (blk l tt) (blk l' tt) L') (hu : Up l o r l') :
    NO P ⟨none, .store t x y, ty, pos, af, g⟩ n D ρ (Cls A L) (fun _ : Unit => True) (fun _ => ρ) (fun _ => Cls A L') :=
  NO.of0 rfl fun a ha w hw => by
    have hb := hw.loc _ hL.mem
    have hlen : o + 0 + r.length ≤ l.length := by
      cases r with
      | nil => simp at hr
      | cons a b => have := hu.len.2 (by simp); omega
    obtain ⟨w', h1, h2, h3, h4, h5, h6, h7⟩ := storeCells_run (P := P) r l o 0 w hb hs hlen
    refine ⟨(), w', trivial, ?_, hw.set hL h3 h4 h5 (by omega) (by rw [h2, Nat.add_zero, hu.setAll]) (fun i hi hne => h7 i hne)⟩
    simp only [execOp, ha.ev hx, ha.ev hy]
    refine run_unit ?_
    have hsz : (r.toArray.size ≠ m + 1) = False := by simp [hr]
    have e : (Instr.storeAt t (.pointer (some ⟨b, o, none⟩)) v) = storeVar t ⟨b, o, none⟩ v := rfl
    rw [e]
    simp only [storeVar, hv.cells, Sem.run_bind, ht.size, Result.andThen_ok, hsz, if_false]
    exact h1
/-! ### calls -/
/-- function k has a body that is entered -/
def Ent (P : Program) (k : FuncId) : Prop := ∀ args w, (callFunc k args).run P w = .ok (.enter k args) w
theorem ent_of {k : FuncId} {fn : Func} (h : P.funcs[k]? = some fn) (hb : fn.body.isNone = false) (hn : (fn.name == "runtime.NumGoroutine") = false) : Ent P k := fun args w => by
  simp only [callFunc, Sem.run_bind, run_program, Result.andThen_ok, h, hn, hb, Bool.false_eq_true, if_false]; rfl
theorem call_run {k : FuncId} (hk : Ent P k) {fo : Operand} {xs : List Operand} {ats : Array TypeId} {fs cs vs : List Value} {a : Act} (ha : AgT n D ρ a) (hf : ρ.ev fo = some (.func (.func k) fs.toArray cs.toArray)) (hx : Evs ρ xs vs) (w : World) :
    (execOp a.eval ⟨dst, .call { callee := .value fo, args := xs.toArray, argTypes := ats }, ty, pos, af, g⟩).run P w = .ok (.enter k (fs ++ vs ++ cs).toArray) w := by
  simp only [execOp, resolve, ha.ev hf, hx.map ha, Deferred.ofValue, pure, bind, Sem.bind, invoke]
  have := hk (fs ++ vs ++ cs).toArray w
  simpa using this
/-- a call that hands back one value and leaves what is there alone -/
theorem y_call {k : FuncId} (hk : Ent P k) {xs : List Operand} {ats : Array TypeId} {vs : List Value} {v : Value} (hx : Evs ρ xs vs) (h : ∀ w, C w → Calls P k vs.toArray w fun e w' => e = .returned v ∧ Gr w w') :
    YO P ⟨dst, .call { callee := .value (.func k), args := xs.toArray, argTypes := ats }, ty, pos, af, g⟩ n D ρ C v := fun a ha w hw => by
  unfold quietG
  rw [call_run (fs := []) (cs := []) hk ha rfl hx w]
  exact ⟨rfl, by simpa using h w hw⟩
theorem y_callv {k : FuncId} (hk : Ent P k) {fo : Operand} {xs : List Operand} {ats : Array TypeId} {fs cs vs : List Value} {v : Value} (hf : ρ.ev fo = some (.func (.func k) fs.toArray cs.toArray)) (hx : Evs ρ xs vs)
    (h : ∀ w, C w → Calls P k (fs ++ vs ++ cs).toArray w fun e w' => e = .returned v ∧ Gr w w') :
    YO P ⟨dst, .call { callee := .value fo, args := xs.toArray, argTypes := ats }, ty, pos, af, g⟩ n D ρ C v := fun a ha w hw => by
  unfold quietG
  rw [call_run hk ha hf hx w]
  exact ⟨rfl, h w hw⟩
/-- what a call hands back, for some x of which Φ tells in the world behind it; of what was there it has turned the blocks of X alone -/
def Ret (P : Program) (k : FuncId) (args : List Value) (w : World) {α : Type} (val : α → Value) (Φ : α → World → Prop) : Prop :=
  Calls P k args.toArray w fun e w' => ∃ x, e = .returned (val x) ∧ Gr w w' ∧ Φ x w'
/-- a call that hands back something new: a new anchor is laid in the world behind it -/
theorem n_call {d : Nat} {k : FuncId} (hk : Ent P k) {xs : List Operand} {ats : Array TypeId} {vs : List Value} {α : Type} {val : α → Value} {Φ : α → World → Prop} (hx : Evs ρ xs vs) (h : ∀ w, Cls A L w → Ret P k vs w val Φ) (hn : Nat.blt d n = true) :
    NO P ⟨some d, .call { callee := .value (.func k), args := xs.toArray, argTypes := ats }, ty, pos, af, g⟩ n D ρ (Cls A L) (fun p : α × World => Φ p.1 p.2 ∧ Cls A L p.2) (fun p => (d, val p.1) :: ρ) (fun p => Cls ((p.2, L.map (·.1)) :: A) L) := fun a w ha hw K Q hK => by
  unfold Oper.wp
  rw [call_run (fs := []) (cs := []) hk ha rfl hx w]
  have h1 : Calls P k vs.toArray w fun e w' => ∃ x, e = .returned (val x) ∧ Gr w w' ∧ Φ x w' := h w hw
  have e : ([] ++ vs ++ [] : List Value).toArray = vs.toArray := by simp
  rw [e]
  refine Calls.mono h1 fun e w' ⟨x, he, hg, hp⟩ => ?_
  subst he
  have hc := Cls.gs A L _ _ hw hg
  exact hK (x, w') ⟨hp, hc⟩ _ _ (ha.put d _ hn) hc.anchor
/-- the same with a result that is dropped or stands in no temporary of interest; and with one block of one's own turned -/
theorem n_callT {d b : Nat} {o : Obj} {k : FuncId} (hk : Ent P k) {xs : List Operand} {ats : Array TypeId} {vs : List Value} {α : Type} {val : α → Value} {o' : α → Obj} {L' : α → List Loc} {Φ : α → World → Prop} (hx : Evs ρ xs vs) (hL : ∀ x, LSet L b o (o' x) (L' x))
    (h : ∀ w, Cls A L w → Calls P k vs.toArray w fun e w' => ∃ x, e = .returned (val x) ∧ Keeps w [b] w' ∧ w'.heap[b]? = some (o' x) ∧ Φ x w') (hn : Nat.blt d n = true) :
    NO P ⟨some d, .call { callee := .value (.func k), args := xs.toArray, argTypes := ats }, ty, pos, af, g⟩ n D ρ (Cls A L) (fun p : α × World => Φ p.1 p.2 ∧ Cls A (L' p.1) p.2) (fun p => (d, val p.1) :: ρ) (fun p => Cls ((p.2, (L' p.1).map (·.1)) :: A) (L' p.1)) := fun a w ha hw K Q hK => by
  unfold Oper.wp
  rw [call_run (fs := []) (cs := []) hk ha rfl hx w]
  have e : ([] ++ vs ++ [] : List Value).toArray = vs.toArray := by simp
  rw [e]
  refine Calls.mono (h w hw) fun e w' ⟨x, he, hg, hb, hp⟩ => ?_
  subst he
  have hc := hw.set (hL x) hg.os hg.tape hg.output hg.size hb (fun i hi hne => hg.block i hi (by simpa using hne))
  exact hK (x, w') ⟨hp, hc⟩ _ _ (ha.put d _ hn) hc.anchor
theorem YO.lit {o : Oper} {v v' : Value} (h : YO P o n D ρ C v) (e : v = v') : YO P o n D ρ C v' := e ▸ h
theorem beq_t (t : Bool) : (t == true) = t := by cases t <;> rfl
theorem beq_f (t : Bool) : (t == false) = !t := by cases t <;> rfl
theorem Cls.tail {x : Loc} {w : World} (h : Cls A (x :: L) w) : Cls A L w :=
  ⟨h.anc, fun p hp => h.loc p (List.mem_cons_of_mem _ hp), by have := h.nd; simp only [List.map_cons, List.nodup_cons] at this; exact this.2, fun p hp l hl => h.own p hp l (List.mem_cons_of_mem _ hl)⟩
/-! ### more that yields -/
theorem foldMin (k : IntKind) (w : World) : ∀ (l : List Int) (m : Int), ((l.map (Value.int k)).foldlM Builtin.min2 (.int k m)).run P w = .ok (.int k (l.foldl min m)) w
  | [], m => rfl
  | x :: l, m => by
    simp only [List.map_cons, List.foldlM_cons, Sem.run_bind, Builtin.min2, List.foldl_cons]
    show ((Sem.pure _).run P w).andThen _ = _
    simp only [Sem.run, Result.andThen_ok]
    rw [foldMin k w l]
    congr 3
    simp only [Int.min_def]; split <;> split <;> omega
theorem foldMax (k : IntKind) (w : World) : ∀ (l : List Int) (m : Int), ((l.map (Value.int k)).foldlM Builtin.max2 (.int k m)).run P w = .ok (.int k (l.foldl max m)) w
  | [], m => rfl
  | x :: l, m => by
    simp only [List.map_cons, List.foldlM_cons, Sem.run_bind, Builtin.max2, List.foldl_cons]
    show ((Sem.pure _).run P w).andThen _ = _
    simp only [Sem.run, Result.andThen_ok]
    rw [foldMax k w l]
    congr 3
    simp only [Int.max_def]; split <;> split <;> omega
theorem y_minN {ats : Array TypeId} {xs : List Operand} {k : IntKind} {m : Int} {l : List Int} (hx : Evs ρ xs (.int k m :: l.map (Value.int k))) :
    YO P ⟨dst, .call { callee := .builtin .min, args := xs.toArray, argTypes := ats }, ty, pos, af, g⟩ n D ρ C (.int k (l.foldl min m)) :=
  .of fun a ha w _ => by
    simp only [execOp, resolve, hx.map ha, pure, bind, Sem.bind, invoke, builtin, Builtin.min_]
    exact run_val (foldMin k w l m)
theorem y_maxN {ats : Array TypeId} {xs : List Operand} {k : IntKind} {m : Int} {l : List Int} (hx : Evs ρ xs (.int k m :: l.map (Value.int k))) :
    YO P ⟨dst, .call { callee := .builtin .max, args := xs.toArray, argTypes := ats }, ty, pos, af, g⟩ n D ρ C (.int k (l.foldl max m)) :=
  .of fun a ha w _ => by
    simp only [execOp, resolve, hx.map ha, pure, bind, Sem.bind, invoke, builtin, Builtin.max_]
    exact run_val (foldMax k w l m)

theorem y_indexAddr {t e sz : Nat} {ag : Bool} {z : Value} {x y : Operand} {b o len cap : Nat} {k : IntKind} {i : Int} (hu : P.underlying t = some (.slice e)) (ht : Ty P e sz ag z) (hx : ρ.ev x = some (.slice (some ⟨b, o, none⟩) len cap)) (hy : ρ.ev y = some (.int k i)) (h0 : 0 ≤ i) (h1 : i < len) :
    YO P ⟨dst, .indexAddr t x y, ty, pos, af, g⟩ n D ρ C (.pointer (some ⟨b, o + i.toNat * sz, none⟩)) :=
  .of fun a ha w _ => by
    simp only [execOp, ha.ev hx, ha.ev hy]
    refine run_val ?_
    simp only [Instr.indexAt, asIntOf, Sem.run_bind, run_underlying hu, Result.andThen_ok, pure, Sem.run, ht.size]
    have hb : (0 ≤ i ∧ i < (len : Int)) := ⟨h0, h1⟩
    by_cases hl : (len ≤ 1) <;> simp [hl, hb, Sem.run, Sem.run_bind, run_underlying hu, ht.size, add_at, bind, Sem.bind, pure] <;> (rw [Sem.run_bind', ht.size]; rfl)
theorem y_indexArr {t e sz len : Nat} {ag : Bool} {z : Value} {x y : Operand} {b o : Nat} {k : IntKind} {i : Int} (hu : P.underlying t = some (.array len e)) (ht : Ty P e sz ag z) (hx : ρ.ev x = some (.pointer (some ⟨b, o, none⟩))) (hy : ρ.ev y = some (.int k i)) (h0 : 0 ≤ i) (h1 : i < len) :
    YO P ⟨dst, .indexAddr t x y, ty, pos, af, g⟩ n D ρ C (.pointer (some ⟨b, o + i.toNat * sz, none⟩)) :=
  .of fun a ha w _ => by
    simp only [execOp, ha.ev hx, ha.ev hy]
    refine run_val ?_
    simp only [Instr.indexAt, asIntOf, Instr.sureAddr, Sem.run_bind, run_underlying hu, Result.andThen_ok, pure, Sem.run, ht.size]
    have hb : (0 ≤ i ∧ i < (len : Int)) := ⟨h0, h1⟩
    by_cases hl : (len ≤ 1) <;> simp [hl, hb, Sem.run, Sem.run_bind, run_underlying hu, ht.size, add_at, bind, Sem.bind, pure] <;> (rw [Sem.run_bind', ht.size]; rfl)
/-- an element of an array by value -/
theorem y_indexV {t e sz len : Nat} {z : Value} {x y : Operand} {k : IntKind} (i : Nat) {ii : Int} {l r : List Value} (hu : P.underlying t = some (.array len e)) (ht : Ty P e sz true z) (hx : ρ.ev x = some (.agg l.toArray)) (hy : ρ.ev y = some (.int k ii)) (hii : ii = (i : Int)) (h1 : Nat.blt i len = true) (he : Ex l (i * sz) sz r) :
    YO P ⟨dst, .index t x y, ty, pos, af, g⟩ n D ρ C (.agg r.toArray) :=
  .of fun a ha w _ => by
    subst hii
    simp only [execOp, ha.ev hx, ha.ev hy]
    refine run_val ?_
    have hlt : i < len := by simpa using h1
    simp only [Instr.index, asIntOf, Sem.run_bind, run_underlying hu, Result.andThen_ok, pure, Sem.run]
    rw [if_pos ⟨by omega, by omega⟩]
    simp only [Sem.run_bind, ht.size, Result.andThen_ok, part, ht.agg, if_true, Int.toNat_natCast]
    have := he.spec.1
    simp only [pure, Sem.run]
    congr 2
    rw [List.extract_toArray, List.extract_eq_take_drop]
    congr 1
    rw [show i * sz + sz - i * sz = sz by omega]; exact this
theorem y_lenS {t e : Nat} {ats : Array TypeId} {x : Operand} {a0 : Option Addr} {len cap : Nat} (hu : P.underlying t = some (.slice e)) (hx : ρ.ev x = some (.slice a0 len cap)) (ha0 : ats[0]? = some t) :
    YO P ⟨dst, .call { callee := .builtin .len, args := [x].toArray, argTypes := ats }, ty, pos, af, g⟩ n D ρ C (.int .i64 len) :=
  .of fun a ha w _ => by
    simp only [execOp, resolve, List.map_toArray, List.map_cons, List.map_nil, ha.ev hx, Sem.run_bind, invoke, builtin, pure, Sem.run, Result.andThen_ok]
    simp only [Builtin.len_, ha0, List.getElem?_toArray, List.getElem?_cons_zero, Sem.run_bind, run_underlying hu, Result.andThen_ok]
    rfl
theorem y_lenStr {t : Nat} {ats : Array TypeId} {x : Operand} {s : ByteArray} (hu : P.underlying t = some .string) (hx : ρ.ev x = some (.string s)) (ha0 : ats[0]? = some t) :
    YO P ⟨dst, .call { callee := .builtin .len, args := [x].toArray, argTypes := ats }, ty, pos, af, g⟩ n D ρ C (.int .i64 s.size) :=
  .of fun a ha w _ => by
    simp only [execOp, resolve, List.map_toArray, List.map_cons, List.map_nil, ha.ev hx, Sem.run_bind, invoke, builtin, pure, Sem.run, Result.andThen_ok]
    simp only [Builtin.len_, ha0, List.getElem?_toArray, List.getElem?_cons_zero, Sem.run_bind, run_underlying hu, Result.andThen_ok]
    rfl
/-- a field of a struct by value -/
def FV (P : Program) (s i off n : Nat) (ag : Bool) : Prop := ∀ w (l : List Value), (Instr.field s (.agg l.toArray) i).run P w = (if ag then .ok (.agg ((l.drop off).take n).toArray) w else match l[off]? with | some v => .ok v w | none => .halt (.stuck "part: no such cell") w)
theorem fv_of {s i m off : Nat} {ag : Bool} {z : Value} {fs : Array Field} {f : Field} (hu : P.underlying s = some (.struct fs)) (hf : fs[i]? = some f) (ho : f.offset = off) (ht : Ty P f.type m ag z) : FV P s i off m ag := fun w l => by
  subst ho
  simp only [Instr.field, Sem.run_bind, run_underlying hu, Result.andThen_ok, hf, asAgg, part, ht.agg, pure, Sem.run]
  cases ag with
  | true =>
    simp only [if_true, Sem.run_bind, ht.size, Result.andThen_ok]
    simp only [pure, Sem.run]
    congr 2
    rw [List.extract_toArray, List.extract_eq_take_drop, show f.offset + m - f.offset = m by omega]
  | false =>
    simp only [Bool.false_eq_true, if_false, List.getElem?_toArray]
    cases l[f.offset]? <;> rfl
theorem y_fieldA {s i off m : Nat} {x : Operand} {l r : List Value} (h : FV P s i off m true) (hx : ρ.ev x = some (.agg l.toArray)) (he : Ex l off m r) : YO P ⟨dst, .field s x i, ty, pos, af, g⟩ n D ρ C (.agg r.toArray) :=
  .of fun a ha w _ => by
    simp only [execOp, ha.ev hx]
    exact run_val (by rw [h w l, if_pos rfl, he.spec.1])
theorem y_field1 {s i off m : Nat} {x : Operand} {l : List Value} {v : Value} (h : FV P s i off m false) (hx : ρ.ev x = some (.agg l.toArray)) (he : Nth l off v) : YO P ⟨dst, .field s x i, ty, pos, af, g⟩ n D ρ C v :=
  .of fun a ha w _ => by
    simp only [execOp, ha.ev hx]
    exact run_val (by rw [h w l, if_neg (by simp), he.get])
/-- a struct or an array written out -/
inductive Fill (place : Nat → Option (Nat × Nat)) : List Value → List (Nat × Value) → List Value → Prop
  | d {l} : Fill place l [] l
  | c {i off m v r l l' l'' rest} (hp : place i = some (off, m)) (hv : Cl v r) (hr : r.length = m) (hm : Nat.ble (off + m) l.length = true) (hu : Up l off r l') (h : Fill place l' rest l'') : Fill place l ((i, v) :: rest) l''
theorem foldl_up : ∀ (r : List Value) (l : List Value) (off k : Nat), ((r.zipIdx k).foldl (fun cs (c, j) => cs.setIfInBounds (off + j) c) l.toArray) = (setAll l (off + k) r).toArray
  | [], l, off, k => rfl
  | v :: r, l, off, k => by
    simp only [List.zipIdx_cons, List.foldl_cons, setAll]
    rw [List.setIfInBounds_toArray, foldl_up r _ off (k + 1)]; rfl
theorem Fill.run {place : Nat → Option (Nat × Nat)} {l : List Value} {ps : List (Nat × Value)} {l' : List Value} (h : Fill place l ps l') : Instr.fill place l.toArray ps = some l'.toArray := by
  induction h with
  | d => rfl
  | @c i off m v r l l' l'' rest hp hv hr hm hu h ih =>
    simp only [Instr.fill, hp, hv.cells]
    have hm : off + m ≤ l.length := by simpa using hm
    rw [if_neg (by simp [hr]; omega)]
    rw [← Array.foldl_toList, Array.toList_zipIdx]
    have e0 : (r.zipIdx 0).foldl (fun (cs : Array Value) (p : Value × Nat) => cs.setIfInBounds (off + p.2) p.1) l.toArray = (Px.setAll l (off + 0) r).toArray := foldl_up r l off 0
    simp only [List.zipIdx] at e0 ⊢
    rw [Nat.add_zero, hu.setAll] at e0
    rw [← ih, ← e0]
/-- where the parts of type t lie, for 'build' -/
def Pl (P : Program) (t : Nat) (places : List (Nat × Nat)) : Prop := ∃ fs, P.underlying t = some (.struct fs) ∧ ∀ w, (fs.mapM fun f => do pure (f.offset, ← sizeOf f.type) : Sem (Array (Nat × Nat))).run P w = .ok places.toArray w
theorem y_build {t m : Nat} {places : List (Nat × Nat)} {xs : List (Nat × Operand)} {vs : List (Nat × Value)} {z : Value} {l l' : List Value} (hp : Pl P t places) (ht : Ty P t m true z) (hz : Cl z l) (hx : EvsI ρ xs vs) (hf : Fill (fun i : Nat => places[i]?) l vs l') :
    YO P ⟨dst, .build t xs.toArray, ty, pos, af, g⟩ n D ρ C (.agg l'.toArray) :=
  .of fun a ha w _ => by
    obtain ⟨fs, hu, hpl⟩ := hp
    simp only [execOp]
    rw [hx.map ha]
    refine run_val ?_
    simp only [Instr.build, Sem.run_bind, ht.zero, Result.andThen_ok, run_underlying hu, hpl, hz.cells]
    have := hf.run
    have e : (fun i : Nat => places.toArray[i]?) = (fun i : Nat => places[i]?) := by funext i; simp
    rw [e, this]
    rfl
theorem y_buildArr {t e sz len m : Nat} {ag : Bool} {ze : Value} {xs : List (Nat × Operand)} {vs : List (Nat × Value)} {z : Value} {l l' : List Value} (hu : P.underlying t = some (.array len e)) (he : Ty P e sz ag ze) (ht : Ty P t m true z) (hz : Cl z l) (hx : EvsI ρ xs vs) (hf : Fill (fun i => some (i * sz, sz)) l vs l') :
    YO P ⟨dst, .build t xs.toArray, ty, pos, af, g⟩ n D ρ C (.agg l'.toArray) :=
  .of fun a ha w _ => by
    simp only [execOp]
    rw [hx.map ha]
    refine run_val ?_
    simp only [Instr.build, Sem.run_bind, ht.zero, Result.andThen_ok, run_underlying hu, he.size, hz.cells]
    rw [hf.run]
    rfl
/-- a slice written out: a new block -/
theorem n_buildSlice {d t e sz len : Nat} {ag : Bool} {ze : Value} {xs : List (Nat × Operand)} {vs : List (Nat × Value)} {zs l l' : List Value} (hu : P.underlying t = some (.slice e)) (he : Ty P e sz ag ze) (hze : Cl ze zs) (hbig : Nat.ble (len * sz) 16777216 = true)
    (h0 : (len * sz = 0) = False) (hl : ((Array.range (len * sz)).map (zs.toArray[· % zs.toArray.size]!)) = l.toArray) (hx : EvsI ρ xs vs) (hf : Fill (fun i => some (i * sz, sz)) l vs l') (hn : Nat.blt d n = true) :
    NO P ⟨some d, .buildSlice t len xs.toArray, ty, pos, af, g⟩ n D ρ (Cls A L) (fun _ : Nat => True) (fun b => (d, .slice (some ⟨b, 0, none⟩) len len) :: ρ) (fun b => Cls A ((b, blk l' e) :: L)) :=
  NO.of rfl hn fun a ha w hw => ⟨w.heap.size, w.alloc (blk l' e), trivial, by
    simp only [execOp]
    rw [hx.map ha]
    refine run_val' ?_
    have hb : ¬ (len * sz > 2 ^ 24) := by have : len * sz ≤ 16777216 := by simpa using hbig
                                          omega
    simp only [Instr.buildSlice, Sem.run_bind, run_underlying hu, Result.andThen_ok, he.size, if_neg hb, h0, if_false, he.zero, hze.cells, pure, Sem.run]
    rw [hl, hf.run]
    simp only [Sem.run_bind, newRow]
    rfl, hw.alloc _⟩
theorem y_makeFunc {k : FuncId} {fx cx : List Operand} {fs cs : List Value} (hf : Evs ρ fx fs) (hc : Evs ρ cx cs) : YO P ⟨dst, .makeFunc (.func k) fx.toArray cx.toArray, ty, pos, af, g⟩ n D ρ C (.func (.func k) fs.toArray cs.toArray) :=
  .of fun a ha w _ => by
    simp only [execOp, hf.map ha, hc.map ha]
    exact run_val (by simp only [Instr.makeFunc]; rfl)
theorem y_nilCheck {x : Operand} {ad : Addr} (hx : ρ.ev x = some (.pointer (some ad))) : YO P ⟨dst, .nilCheck x, ty, pos, af, g⟩ n D ρ C (.pointer (some ad)) :=
  .of fun a ha w _ => by simp only [execOp, ha.ev hx]; rfl
theorem y_nilCheckF {x : Operand} {k : FuncId} {fs cs : Array Value} (hx : ρ.ev x = some (.func (.func k) fs cs)) : YO P ⟨dst, .nilCheck x, ty, pos, af, g⟩ n D ρ C (.func (.func k) fs cs) :=
  .of fun a ha w _ => by simp only [execOp, ha.ev hx]; rfl
theorem y_min3 {ats : Array TypeId} {x0 x1 x2 : Operand} {k : IntKind} {m0 m1 m2 : Int} (h0 : ρ.ev x0 = some (.int k m0)) (h1 : ρ.ev x1 = some (.int k m1)) (h2 : ρ.ev x2 = some (.int k m2)) :
    YO P ⟨dst, .call { callee := .builtin .min, args := [x0, x1, x2].toArray, argTypes := ats }, ty, pos, af, g⟩ n D ρ C (.int k (min (min m0 m1) m2)) :=
  y_minN (l := [m1, m2]) (.c h0 (.c h1 (.c h2 .n)))
theorem y_min4 {ats : Array TypeId} {x0 x1 x2 x3 : Operand} {k : IntKind} {m0 m1 m2 m3 : Int} (h0 : ρ.ev x0 = some (.int k m0)) (h1 : ρ.ev x1 = some (.int k m1)) (h2 : ρ.ev x2 = some (.int k m2)) (h3 : ρ.ev x3 = some (.int k m3)) :
    YO P ⟨dst, .call { callee := .builtin .min, args := [x0, x1, x2, x3].toArray, argTypes := ats }, ty, pos, af, g⟩ n D ρ C (.int k (min (min (min m0 m1) m2) m3)) :=
  y_minN (l := [m1, m2, m3]) (.c h0 (.c h1 (.c h2 (.c h3 .n))))
theorem y_max3 {ats : Array TypeId} {x0 x1 x2 : Operand} {k : IntKind} {m0 m1 m2 : Int} (h0 : ρ.ev x0 = some (.int k m0)) (h1 : ρ.ev x1 = some (.int k m1)) (h2 : ρ.ev x2 = some (.int k m2)) :
    YO P ⟨dst, .call { callee := .builtin .max, args := [x0, x1, x2].toArray, argTypes := ats }, ty, pos, af, g⟩ n D ρ C (.int k (max (max m0 m1) m2)) :=
  y_maxN (l := [m1, m2]) (.c h0 (.c h1 (.c h2 .n)))
theorem y_max4 {ats : Array TypeId} {x0 x1 x2 x3 : Operand} {k : IntKind} {m0 m1 m2 m3 : Int} (h0 : ρ.ev x0 = some (.int k m0)) (h1 : ρ.ev x1 = some (.int k m1)) (h2 : ρ.ev x2 = some (.int k m2)) (h3 : ρ.ev x3 = some (.int k m3)) :
    YO P ⟨dst, .call { callee := .builtin .max, args := [x0, x1, x2, x3].toArray, argTypes := ats }, ty, pos, af, g⟩ n D ρ C (.int k (max (max (max m0 m1) m2) m3)) :=
  y_maxN (l := [m1, m2, m3]) (.c h0 (.c h1 (.c h2 (.c h3 .n))))
end
end Go.Px
/-
  Px, part 5: loops whose class stays; reading what was there; numbers.
-/
namespace Go.Px
open Go Go.RowKit
set_option linter.unusedVariables false
set_option linter.unusedSimpArgs false
def app : Env → Env → Env
  | [], r => r
  | x :: l, r => x :: app l r
section
variable {P : Program} {Q : Exit → Act → World → Prop} {n : Nat} {D : List Deferred} {ρ ρ0 : Env} {C : World → Prop} {A : List (World × List Nat)} {L : List Loc} {ty : TypeId} {pos : String} {af : Array Edge} {dst : Option Tmp} {g : Option (Nat × Bool)}
theorem picks_self : ∀ ρ : Env, ∀ t v, ρ.get? t = some v → ρ.get? t = some v := fun _ _ _ h => h
theorem CJ.picked {c : Code} {ρ' : Env} (hρ : ∀ t v, ρ'.get? t = some v → ρ.get? t = some v) (h : CJ P c Q n D ρ' C) : CJ P c Q n D ρ C := fun a w ha hw => h a w (ha.of_all hρ) hw
open Classical in
theorem c_loopC {c : Code} {α : Type} (I : α → Prop) (upd : α → Env) (μ : α → Nat) (x0 : α) (h0 : I x0)
    (round : ∀ x, I x → CJ P c (Exit.then (again n D I (fun x => app (upd x) ρ0) (fun _ => C) μ (μ x)) Q) n D (app (upd x) ρ0) C) : CJ P (.loop c) Q n D (app (upd x0) ρ0) C := fun a w ha hw => by
  let J : Act → World → Nat → Prop := fun a w m => ∃ x, I x ∧ μ x = m ∧ AgT n D (app (upd x) ρ0) a ∧ C w
  let M : Act → World → Nat := fun a w => if h : ∃ m, J a w m then Classical.choose (least_of h) else 0
  refine wp_loop (fun a w => ∃ m, J a w m) M ⟨_, x0, h0, rfl, ha, hw⟩ ?_
  intro a w hJ
  have hM : M a w = Classical.choose (least_of hJ) := dif_pos hJ
  obtain ⟨x, hx, hm, ha', hw'⟩ := (Classical.choose_spec (least_of hJ)).1
  refine wp_mono (round x hx a w ha' hw') fun e a2 w2 hq => ?_
  cases e with
  | normal =>
    obtain ⟨y, hy, hlt, ha2, hw2⟩ := hq
    have hJ2 : ∃ m, J a2 w2 m := ⟨_, y, hy, rfl, ha2, hw2⟩
    have hM2 : M a2 w2 = Classical.choose (least_of hJ2) := dif_pos hJ2
    refine ⟨hJ2, ?_⟩
    rw [hM, hM2]
    have h1 := (Classical.choose_spec (least_of hJ2)).2 (μ y) ⟨y, hy, rfl, ha2, hw2⟩
    omega
  | exit id => exact hq
  | goto l => exact hq
  | ret => exact hq
  | panic c => exact hq
  | outgrown => exact hq
/-! ### what was there -/
theorem block_of_cell {w : World} {a : Addr} {v : Value} (h : w.cell? a = some v) : a.block < w.heap.size := by
  unfold World.cell? at h
  cases hb : w.heap[a.block]? with
  | none => rw [hb] at h; simp at h
  | some o => exact (Array.getElem?_eq_some_iff.1 hb).1
theorem Keeps.cell {W : World} {X : List Nat} {w : World} (h : Keeps W X w) {a : Addr} {v : Value} (hc : W.cell? a = some v) (hx : a.block ∉ X) : w.cell? a = some v := by
  have := h.block a.block (block_of_cell hc) hx
  unfold World.cell? at *
  rw [this]; exact hc
theorem Gr.cell {W w : World} (h : Gr W w) {a : Addr} {v : Value} (hc : W.cell? a = some v) : w.cell? a = some v :=
  (Keeps.of_gr h []).cell hc (by simp)
theorem Cls.gr {W w : World} (h : Cls A L w) (hA : Mem A (W, [])) : Gr W w := (h.anc _ hA.mem).below
theorem LoadAt.aggF {W : World} {t m : Nat} {z : Value} {l : List Value} {ad : Addr} (hA : Mem A (W, [])) (ht : Ty P t m true z) (hl : l.length = m) (h : ∀ i v, l[i]? = some v → W.cell? (ad.add i) = some v) : LoadAt P t (Cls A L) ad (.agg l.toArray) :=
  .agg ht hl fun w hw i v hv => (hw.gr hA).cell (h i v hv)
theorem LoadAt.oneF {W : World} {t m : Nat} {z v : Value} {ad : Addr} (hA : Mem A (W, [])) (ht : Ty P t m false z) (h : W.cell? ad = some v) : LoadAt P t (Cls A L) ad v :=
  .one ht fun w hw => (hw.gr hA).cell h
/-- elements of m cells each, from address a on -/
def Elts (w : World) (a : Option Addr) (m : Nat) (ls : List (List Value)) : Prop :=
  ∀ i l, ls[i]? = some l → ∃ b o, a = some ⟨b, o, none⟩ ∧ ∀ j v, l[j]? = some v → w.cell? ⟨b, o + i * m + j, none⟩ = some v
theorem Elts.gr {w w' : World} {a : Option Addr} {m : Nat} {ls : List (List Value)} (h : Elts w a m ls) (g : Gr w w') : Elts w' a m ls := fun i l hl => by
  obtain ⟨b, o, e, hc⟩ := h i l hl
  exact ⟨b, o, e, fun j v hv => g.cell (hc j v hv)⟩
theorem elt_load {w : World} {b o m k : Nat} {l : List Value} (h : ∀ j v, l[j]? = some v → w.cell? ⟨b, o + k * m + j, none⟩ = some v) : ∀ i v, l[i]? = some v → w.cell? ((⟨b, o + ((k : Nat) : Int).toNat * m, none⟩ : Addr).add i) = some v := fun i v hv => by
  rw [add_at, Int.toNat_natCast]; exact h i v hv
/-- elements of one cell that are whole numbers of 64 bits -/
def Ints (w : World) (a : Option Addr) (xs : List Int) : Prop := Elts w a 1 (xs.map fun x => [.int .i64 x])
theorem Ints.at_ {w : World} {a : Option Addr} {xs : List Int} (h : Ints w a xs) {i : Nat} {x : Int} (hx : xs[i]? = some x) : ∃ b o, a = some ⟨b, o, none⟩ ∧ w.cell? ⟨b, o + i, none⟩ = some (.int .i64 x) := by
  obtain ⟨b, o, e, hc⟩ := h i [.int .i64 x] (by simp [hx])
  refine ⟨b, o, e, ?_⟩
  have := hc 0 _ rfl
  simpa using this
theorem Ints.gr {w w' : World} {a : Option Addr} {xs : List Int} (h : Ints w a xs) (g : Gr w w') : Ints w' a xs := Elts.gr h g
theorem y_indexAddrF {t e sz : Nat} {ag : Bool} {z : Value} {x y : Operand} {a0 : Option Addr} {b o len cap : Nat} {k : IntKind} {i : Int} (hu : P.underlying t = some (.slice e)) (ht : Ty P e sz ag z) (hx : ρ.ev x = some (.slice a0 len cap)) (hy : ρ.ev y = some (.int k i)) (ha : a0 = some ⟨b, o, none⟩) (h0 : 0 ≤ i) (h1 : i < len) :
    YO P ⟨dst, .indexAddr t x y, ty, pos, af, g⟩ n D ρ C (.pointer (some ⟨b, o + i.toNat * sz, none⟩)) := y_indexAddr hu ht (ha ▸ hx) hy h0 h1
theorem y_eqb {xt yt : TypeId} {x y : Operand} {a b : Bool} (hu : P.underlying xt = some .bool) (hx : ρ.ev x = some (.bool a)) (hy : ρ.ev y = some (.bool b)) : YO P ⟨dst, .binOp .eql xt x y yt, ty, pos, af, g⟩ n D ρ C (.bool (a == b)) :=
  y_bin hx hy (fun w => eqGuard_bool w) fun w => run_eql_bool (P := P) (w := w) xt a b hu
theorem y_neb {xt yt : TypeId} {x y : Operand} {a b : Bool} (hu : P.underlying xt = some .bool) (hx : ρ.ev x = some (.bool a)) (hy : ρ.ev y = some (.bool b)) : YO P ⟨dst, .binOp .neq xt x y yt, ty, pos, af, g⟩ n D ρ C (.bool (!(a == b))) :=
  y_bin hx hy (fun w => eqGuard_bool w) fun w => run_neq_bool (P := P) (w := w) xt a b hu
/-- a call of a function without a body that the model answers at once -/
theorem y_callx {k : FuncId} {xs : List Operand} {ats : Array TypeId} {vs : List Value} {v : Value} (hx : Evs ρ xs vs) (h : ∀ w, (callFunc k vs.toArray).run P w = .ok (.value v) w) :
    YO P ⟨dst, .call { callee := .value (.func k), args := xs.toArray, argTypes := ats }, ty, pos, af, g⟩ n D ρ C v := .of fun a ha w hw => by
  have hf : a.eval (.func k) = .func (.func k) #[] #[] := rfl
  simp only [execOp, resolve, hf, hx.map ha, Deferred.ofValue, pure, bind, Sem.bind, invoke]
  have := h w
  simpa using this
/-! ### numbers -/
theorem w64 {x : Int} (h1 : -9223372036854775808 ≤ x) (h2 : x ≤ 9223372036854775807) : IntKind.i64.wrap x = x := by
  exact IntWalk.i64_in x ⟨h1, h2⟩
theorem u64i {x : Int} (h1 : 0 ≤ x) (h2 : x < 18446744073709551616) : IntKind.u64.wrap x = x := IntWalk.u64_in x ⟨h1, by omega⟩
theorem VU {x y : Int} (h : x = y) : Value.int .u64 x = Value.int .u64 y := congrArg _ h
theorem VI {x y : Int} (h : x = y) : Value.int .i64 x = Value.int .i64 y := congrArg _ h
theorem lit64 {x y : Int} (e : x = y) (h1 : -9223372036854775808 ≤ x) (h2 : x ≤ 9223372036854775807) : Value.int .i64 (IntKind.i64.wrap x) = Value.int .i64 y := by rw [w64 h1 h2, e]
theorem succ64 {k : Nat} (h : k < 9223372036854775807) : Value.int .i64 (IntKind.i64.wrap ((k : Int) + 1)) = Value.int .i64 ((k + 1 : Nat) : Int) := lit64 (by omega) (by omega) (by omega)
end
end Go.Px
/-
  Px, part 6: equality of structs.
-/
namespace Go.Px
open Go Go.RowKit
set_option linter.unusedVariables false
set_option linter.unusedSimpArgs false
section
variable {P : Program} {n : Nat} {D : List Deferred} {ρ : Env} {C : World → Prop} {ty : TypeId} {pos : String} {af : Array Edge} {dst : Option Tmp} {g : Option (Nat × Bool)}
/-- what '==' of two values of type t tells, d deep -/
def EqV (P : Program) (t : TypeId) (a b : Value) (r : Bool) : Prop := ∀ d w, (Op.equalIn (d + 8) t a b).run P w = .ok r w
theorem EqV.int {t : TypeId} {k k' : IntKind} {a b : Int} (hu : P.underlying t = some (.int k')) : EqV P t (.int k a) (.int k b) (decide (a = b)) := fun d w => by
  rw [run_equalIn_int w (d + 7) t k k' a b hu]; rfl
theorem EqV.bool {t : TypeId} {a b : Bool} (hu : P.underlying t = some .bool) : EqV P t (.bool a) (.bool b) (a == b) := fun d w => run_equalIn_bool w (d + 7) t a b hu
def EqF (P : Program) (xs ys : List Value) (fs : List Field) (r : Bool) : Prop := ∀ d w, (Op.eqFields (d + 8) xs.toArray ys.toArray fs).run P w = .ok r w
theorem EqF.nil {xs ys : List Value} : EqF P xs ys [] true := fun d w => by simp [Op.eqFields]
theorem EqF.one {xs ys : List Value} {f : Field} {fs : List Field} {m : Nat} {z a b : Value} {r s : Bool} (hn : (f.name == "_") = false) (ht : Ty P f.type m false z) (ha : Nth xs f.offset a) (hb : Nth ys f.offset b) (he : EqV P f.type a b r) (h : EqF P xs ys fs s) : EqF P xs ys (f :: fs) (r && s) := fun d w => by
  have hn' : f.name ≠ "_" := by simpa using hn
  have e1 : (part f.type xs.toArray f.offset).run P w = .ok a w := by simp [part, ht.agg, ha.get]
  have e2 : (part f.type ys.toArray f.offset).run P w = .ok b w := by simp [part, ht.agg, hb.get]
  simp only [Op.eqFields, if_pos hn', Sem.run_bind, e1, e2, he d w, Result.andThen_ok]
  cases r
  · simp
  · simpa using h d w
theorem y_eqA {t yt : TypeId} {x y : Operand} {xs ys : List Value} {fs : Array Field} {r : Bool} (hu : P.underlying t = some (.struct fs)) (hg : P.eqGuardType P.depth t = false) (hp : P.stoodInHeld t = false) (hx : ρ.ev x = some (.agg xs.toArray)) (hy : ρ.ev y = some (.agg ys.toArray)) (h : EqF P xs ys fs.toList r) :
    YO P ⟨dst, .binOp .eql t x y yt, ty, pos, af, g⟩ n D ρ C (.bool r) :=
  y_bin hx hy (fun w => run_eqGuard_agg w .eql t x y xs.toArray ys.toArray hg) fun w => by
    have hf : P.fieldsOf t = fs := by simp [Program.fieldsOf, hu]
    have e : (Op.equalIn 10000 t (.agg xs.toArray) (.agg ys.toArray)).run P w = .ok r w := by
      rw [show (10000 : Nat) = 9999 + 1 from rfl, run_equalIn_struct (P := P) w 9999 t xs.toArray ys.toArray (by rw [hf]; exact hu) hp, hf]
      exact h 9991 w
    rw [run_eql_struct, e]; rfl
theorem y_neA {t yt : TypeId} {x y : Operand} {xs ys : List Value} {fs : Array Field} {r : Bool} (hu : P.underlying t = some (.struct fs)) (hg : P.eqGuardType P.depth t = false) (hp : P.stoodInHeld t = false) (hx : ρ.ev x = some (.agg xs.toArray)) (hy : ρ.ev y = some (.agg ys.toArray)) (h : EqF P xs ys fs.toList r) :
    YO P ⟨dst, .binOp .neq t x y yt, ty, pos, af, g⟩ n D ρ C (.bool (!r)) :=
  y_bin hx hy (fun w => run_eqGuard_agg w .neq t x y xs.toArray ys.toArray hg) fun w => by
    have hf : P.fieldsOf t = fs := by simp [Program.fieldsOf, hu]
    have e : (Op.equalIn 10000 t (.agg xs.toArray) (.agg ys.toArray)).run P w = .ok r w := by
      rw [show (10000 : Nat) = 9999 + 1 from rfl, run_equalIn_struct (P := P) w 9999 t xs.toArray ys.toArray (by rw [hf]; exact hu) hp, hf]
      exact h 9991 w
    rw [run_neq_struct, e]; rfl
theorem y_add64 {xt yt : TypeId} {x y : Operand} (m r : Int) (hx : ρ.ev x = some (.int .i64 m)) (hy : ρ.ev y = some (.int .i64 r)) (h1 : -9223372036854775808 ≤ m + r) (h2 : m + r ≤ 9223372036854775807) : YO P ⟨dst, .binOp .add xt x y yt, ty, pos, af, g⟩ n D ρ C (.int .i64 (m + r)) := (y_add hx hy).lit (lit64 rfl h1 h2)
theorem y_sub64 {xt yt : TypeId} {x y : Operand} (m r : Int) (hx : ρ.ev x = some (.int .i64 m)) (hy : ρ.ev y = some (.int .i64 r)) (h1 : -9223372036854775808 ≤ m - r) (h2 : m - r ≤ 9223372036854775807) : YO P ⟨dst, .binOp .sub xt x y yt, ty, pos, af, g⟩ n D ρ C (.int .i64 (m - r)) := (y_sub hx hy).lit (lit64 rfl h1 h2)
end
end Go.Px
/-
  Px, part 7: slices of one's own that grow ('vectors').
-/
namespace Go.Px
open Go Go.RowKit
set_option linter.unusedVariables false
set_option linter.unusedSimpArgs false
/-- what append asks of a type: size in cells, size in bytes at most -/
def tiB (P : Program) (e m bytes : Nat) : Bool := match P.info? e with
  | some i => (match i.zero with | some z => Nat.beq z.cells.size m | none => false) && Nat.beq i.size m && Nat.ble i.bytes bytes
  | none => false
structure TI (P : Program) (e m bytes : Nat) : Prop where
  ex : ∃ i z, P.info? e = some i ∧ i.zero = some z ∧ i.size = m ∧ z.cells.size = m ∧ i.bytes ≤ bytes
theorem ti_of {P : Program} {e m bytes : Nat} (h : tiB P e m bytes = true) : TI P e m bytes := by
  unfold tiB at h
  split at h
  · rename_i i hi
    split at h
    · rename_i z hz
      simp only [Bool.and_eq_true, Nat.beq_eq, Nat.ble_eq] at h
      exact ⟨i, z, hi, hz, h.1.2, h.1.1, h.2⟩
    · simp at h
  · cases h
structure Vec where
  val : Value
  es : List (List Value)
  own : List Loc
inductive VecOK (m : Nat) (e : TypeId) : Vec → Prop
  | nil : VecOK m e ⟨.slice none 0 0, [], []⟩
  | row {b cap : Nat} {es : List (List Value)} {rest : List Value} (hl : ∀ l ∈ es, l.length = m) (hc : es.length ≤ cap) (hcap : cap ≤ maxLen) (hr : rest.length = (cap - es.length) * m) :
      VecOK m e ⟨.slice (some ⟨b, 0, none⟩) es.length cap, es, [(b, blk (es.flatten ++ rest) e)]⟩
/-- the blocks r stand at one place of L; F puts others there -/
inductive Hole : List Loc → (List Loc → List Loc) → List Loc → Prop
  | z {r} : Hole r (fun r => r) r
  | h {r q} : Hole r (fun r => r ++ q) (r ++ q)
  | e {q} : Hole [] (fun r => r ++ q) q
  | c {x r F L} : Hole r F L → Hole r (fun r => x :: F r) (x :: L)
  | k {q r F L} : Hole r F L → Hole r (fun r => q ++ F r) (q ++ L)
theorem Hole.ex {r : List Loc} {F : List Loc → List Loc} {L : List Loc} (h : Hole r F L) : ∃ p q, L = p ++ r ++ q ∧ ∀ r', F r' = p ++ r' ++ q := by
  induction h with
  | z => exact ⟨[], [], by simp, by simp⟩
  | @h r q => exact ⟨[], q, by simp, by simp⟩
  | @e q => exact ⟨[], q, by simp, by simp⟩
  | @c x r F L _ ih => obtain ⟨p, q, h1, h2⟩ := ih; exact ⟨x :: p, q, by simp [h1], fun r' => by simp [h2]⟩
  | @k s r F L _ ih => obtain ⟨p, q, h1, h2⟩ := ih; exact ⟨s ++ p, q, by simp [h1], fun r' => by simp [h2]⟩
/-- the blocks r are turned, or given up, or new ones come: what stood elsewhere stays -/
theorem Cls.hole {A : List (World × List Nat)} {L : List Loc} {r r' : List Loc} {F : List Loc → List Loc} {w w' : World} (hw : Cls A L w) (hH : Hole r F L) (hk : Keeps w (r.map (·.1)) w')
    (hr : ∀ p ∈ r', w'.heap[p.1]? = some p.2 ∧ (p.1 ∈ r.map (·.1) ∨ w.heap.size ≤ p.1)) (hnd : (r'.map (·.1)).Nodup) : Cls A (F r') w' := by
  obtain ⟨p, q, rfl, hF⟩ := hH.ex
  rw [hF]
  have hin : ∀ x ∈ p ++ q, x.1 ∉ r.map (·.1) := by
    intro x hx hm
    have := hw.nd
    simp only [List.map_append] at this
    rw [List.append_assoc, List.nodup_append, List.nodup_append] at this
    obtain ⟨h1, ⟨h2, h3, h4⟩, h5⟩ := this
    rcases List.mem_append.1 hx with h | h
    · exact h5 _ (List.mem_map_of_mem h) _ (List.mem_append_left _ hm) rfl
    · exact h4 _ hm _ (List.mem_map_of_mem h) rfl
  have hold : ∀ x ∈ p ++ q, w'.heap[x.1]? = some x.2 := fun x hx => by
    have hx' : x ∈ p ++ r ++ q := by rcases List.mem_append.1 hx with h | h <;> simp [h]
    rw [hk.block x.1 (hw.lt hx') (hin x hx)]; exact hw.loc x hx'
  refine ⟨fun a ha => (hw.anc a ha).trans hk fun i hi => ?_, fun x hx => ?_, ?_, fun a ha l hl => ?_⟩
  · obtain ⟨x, hx, rfl⟩ := List.mem_map.1 hi
    exact hw.own a ha x (by simp; exact .inr (.inl hx))
  · simp only [List.mem_append] at hx
    rcases hx with (h | h) | h
    · exact hold x (by simp [h])
    · exact (hr x h).1
    · exact hold x (by simp [h])
  · have := hw.nd
    simp only [List.map_append] at this ⊢
    rw [List.append_assoc, List.nodup_append, List.nodup_append] at this ⊢
    obtain ⟨h1, ⟨h2, h3, h4⟩, h5⟩ := this
    refine ⟨h1, ⟨hnd, h3, ?_⟩, ?_⟩
    · intro a ha b hb e
      subst e
      obtain ⟨x, hx, rfl⟩ := List.mem_map.1 ha
      rcases (hr x hx).2 with h | h
      · exact h4 _ h _ hb rfl
      · obtain ⟨y, hy, he⟩ := List.mem_map.1 hb
        have := hw.lt (p := y) (by simp [hy])
        omega
    · intro a ha b hb e
      subst e
      rcases List.mem_append.1 hb with hb | hb
      · obtain ⟨x, hx, rfl⟩ := List.mem_map.1 hb
        rcases (hr x hx).2 with h | h
        · exact h5 _ ha _ (List.mem_append_left _ h) rfl
        · obtain ⟨y, hy, he⟩ := List.mem_map.1 ha
          have := hw.lt (p := y) (by simp [hy])
          omega
      · exact h5 _ ha _ (List.mem_append_right _ hb) rfl
  · simp only [List.mem_append] at hl
    rcases hl with (h | h) | h
    · exact hw.own a ha l (by simp [h])
    · rcases (hr l h).2 with h' | h'
      · obtain ⟨x, hx, he⟩ := List.mem_map.1 h'
        rw [← he]; exact hw.own a ha x (by simp [hx])
      · exact .inr (Nat.le_trans (hw.anc a ha).size h')
    · exact hw.own a ha l (by simp [h])
section
variable {P : Program} {dst : Option Tmp} {n : Nat} {D : List Deferred} {ρ : Env} {C : World → Prop} {A : List (World × List Nat)} {L : List Loc} {ty : TypeId} {pos : String} {af : Array Edge} {g : Option (Nat × Bool)}
theorem flatten_len {m : Nat} : ∀ {es : List (List Value)}, (∀ l ∈ es, l.length = m) → es.flatten.length = es.length * m
  | [], _ => by simp
  | l :: es, h => by
    rw [List.flatten_cons, List.length_append, h l (by simp), flatten_len (fun x hx => h x (by simp [hx])), List.length_cons, Nat.add_mul]; omega
theorem append_run {t e m bytes : Nat} {v : Vec} {a : Addr} {cap' : Nat} {news : List (List Value)} (hu : P.underlying t = some (.slice e)) (hi : TI P e m bytes) (hv : VecOK m e v)
    (hnl : ∀ l ∈ news, l.length = m) (h1 : ∀ u ∈ news.flatten, u.oneCell' = true) (hmax : v.es.length + news.length ≤ maxLen) (hb : (v.es.length + news.length) * bytes ≤ 140737488355328)
    (w : World) (hv0 : ∀ p ∈ v.own, w.heap[p.1]? = some p.2) (hsrc : ∀ j u, news.flatten[j]? = some u → w.cell? (a.add j) = some u) :
    ∃ v' w', VecOK m e v' ∧ v'.es = v.es ++ news ∧ (Builtin.append_ #[t, t] ty #[v.val, .slice (some a) news.length cap']).run P w = .ok v'.val w' ∧ Keeps w (v.own.map (·.1)) w' ∧
      (∀ p ∈ v'.own, w'.heap[p.1]? = some p.2 ∧ (p.1 ∈ v.own.map (·.1) ∨ w.heap.size ≤ p.1)) ∧ (v'.own.map (·.1)).Nodup := by
  obtain ⟨i, z, hi1, hz, hs, hzs, hby⟩ := hi.ex
  subst hs
  have hnews : news.flatten.length = news.length * i.size := flatten_len hnl
  have hsmall : v.es.length + news.length ≤ 9223372036854775807 := by simp only [maxLen] at hmax; omega
  have hby' : (v.es.length + news.length) * i.bytes ≤ 140737488355328 := Nat.le_trans (Nat.mul_le_mul_left _ hby) hb
  -- a new row
  have grown : ∀ (old : Nat), old < v.es.length + news.length → (∀ l ∈ v.es, l.length = i.size) →
      (Builtin.append_ #[t, t] ty #[v.val, .slice (some a) news.length cap']).run P w = .ok (.slice (some ⟨w.heap.size, 0, none⟩) (v.es.length + news.length) (grownCap w (v.es.length + news.length) old e))
        (w.drew.alloc (.cells (v.es.flatten.toArray ++ news.flatten.toArray ++ Builtin.zeroCells z.cells (grownCap w (v.es.length + news.length) old e - (v.es.length + news.length))) e)) →
      ∃ v' w', VecOK i.size e v' ∧ v'.es = v.es ++ news ∧ (Builtin.append_ #[t, t] ty #[v.val, .slice (some a) news.length cap']).run P w = .ok v'.val w' ∧ Keeps w (v.own.map (·.1)) w' ∧
      (∀ p ∈ v'.own, w'.heap[p.1]? = some p.2 ∧ (p.1 ∈ v.own.map (·.1) ∨ w.heap.size ≤ p.1)) ∧ (v'.own.map (·.1)).Nodup := by
    intro old ho hle hr
    have hge := grownCap_ge w (v.es.length + news.length) old e
    have hcm := grownCap_le_maxLen w (v.es.length + news.length) old e hmax
    have hlen : (v.es ++ news).length = v.es.length + news.length := List.length_append
    have hall : ∀ l ∈ v.es ++ news, l.length = i.size := fun l hl => (List.mem_append.1 hl).elim (hle l) (hnl l)
    refine ⟨⟨.slice (some ⟨w.heap.size, 0, none⟩) (v.es ++ news).length (grownCap w (v.es.length + news.length) old e), v.es ++ news, [(w.heap.size, blk ((v.es ++ news).flatten ++ (Builtin.zeroCells z.cells (grownCap w (v.es.length + news.length) old e - (v.es.length + news.length))).toList) e)]⟩,
      w.drew.alloc (.cells (v.es.flatten.toArray ++ news.flatten.toArray ++ Builtin.zeroCells z.cells (grownCap w (v.es.length + news.length) old e - (v.es.length + news.length))) e), .row hall (by rw [hlen]; exact hge) hcm (by rw [Array.length_toList, size_zeroCells, hzs, hlen]), rfl, by rw [hlen]; exact hr, ⟨rfl, rfl, rfl, by simp, fun k hk _ => heap_alloc_old w.drew _ hk⟩, ?_, by simp⟩
    intro p hp
    obtain rfl := List.mem_singleton.1 hp
    refine ⟨?_, .inr (Nat.le_refl _)⟩
    show (w.drew.alloc _).heap[w.drew.heap.size]? = _
    rw [heap_alloc_new w.drew]
    congr 1
    unfold blk
    congr 1
    apply Array.ext'
    simp
  cases hv with
  | nil =>
    by_cases hm : news = []
    · subst hm
      refine ⟨⟨.slice none 0 0, [], []⟩, w, .nil, by simp, ?_, Keeps.refl w _, by simp, by simp⟩
      simp [Builtin.append_, run_underlying hu, sizeOf, typeInfo, hi1, Builtin.lenOf, Builtin.firstCells, loadCells, loadCellsFrom]
    · have hpos : 0 < news.length := List.length_pos_iff.2 hm
      refine grown 0 (by simp; omega) (by simp) ?_
      have hr := run_append_nil (P := P) w t ty e i z hu hi1 hz a news.length cap' news.flatten hnews hsrc hpos (by simp at hsmall; omega) (by have hb := hby'; simp only [List.length_nil, Nat.zero_add] at hb; omega)
      simpa using hr
  | @row b cap es rest hl hc hcap hrest =>
    have hes : es.flatten.length = es.length * i.size := flatten_len hl
    have hg : w.heap[b]? = some (.cells (es.flatten ++ rest).toArray e (0, 0)) := hv0 (b, blk (es.flatten ++ rest) e) (by simp)
    simp only at *
    by_cases hroom : es.length + news.length ≤ cap
    · have hcs : (es.flatten ++ rest).length = cap * i.size := by rw [List.length_append, hes, hrest, ← Nat.add_mul]; congr 1; omega
      have hfit : es.length * i.size + news.flatten.length ≤ (es.flatten ++ rest).toArray.size := by
        rw [hnews, List.size_toArray, hcs, ← Nat.add_mul]; exact Nat.mul_le_mul_right _ hroom
      have hr := run_append_room (P := P) w t ty e i hu hi1 b es.length cap _ hg a news.length cap' news.flatten hnews hsrc h1 hroom hfit
      have hall : ∀ l ∈ es ++ news, l.length = i.size := fun l hl' => (List.mem_append.1 hl').elim (hl l) (hnl l)
      have hlen : (es ++ news).length = es.length + news.length := List.length_append
      have ecur : ((es.flatten ++ rest).toArray.toList.take (es.length * i.size) ++ news.flatten ++ (es.flatten ++ rest).toArray.toList.drop (es.length * i.size + news.flatten.length)) = (es ++ news).flatten ++ rest.drop news.flatten.length := by
        have e0 : (es.flatten ++ rest).toArray.toList = es.flatten ++ rest := rfl
        rw [e0, ← hes, List.take_left, List.flatten_append, ← List.drop_drop, List.drop_left]
      refine ⟨⟨.slice (some ⟨b, 0, none⟩) (es ++ news).length cap, es ++ news, [(b, blk ((es ++ news).flatten ++ rest.drop news.flatten.length) e)]⟩, w.setRow b ((es ++ news).flatten ++ rest.drop news.flatten.length).toArray, .row hall (by rw [hlen]; exact hroom) hcap ?_, rfl, by rw [hlen, ← ecur]; exact hr,
        ⟨rfl, rfl, rfl, by simp, fun k hk hne => setRow_other w b k _ (fun e => hne (by simp [e]))⟩, ?_, by simp⟩
      · rw [List.length_drop, hrest, hnews, hlen, ← Nat.sub_mul]; congr 1; omega
      · intro p hp
        obtain rfl := List.mem_singleton.1 hp
        refine ⟨?_, .inl (by simp)⟩
        show (w.setRow b _).heap[b]? = _
        rw [setRow_heap w b _ _ e _ hg]; rfl
    · refine grown cap (by omega) hl ?_
      exact run_append_grow (P := P) w t ty e i z hu hi1 hz ⟨b, 0, none⟩ es.length cap es.flatten hes (fun j u hj => by rw [add_at, Nat.zero_add, cell_blk (hv0 (b, blk (es.flatten ++ rest) e) (by simp)), List.getElem?_append_left (List.getElem?_eq_some_iff.1 hj).1]; exact hj)
        a news.length cap' news.flatten hnews hsrc (by omega) (by omega) (growslice_fits (by omega) hby')
theorem n_append {d t e m : Nat} (bytes : Nat) {F : List Loc → List Loc} {v : Vec} {x y : Operand} {a : Addr} {k cap' : Nat} {news : List (List Value)} (hu : P.underlying t = some (.slice e)) (hi : TI P e m bytes) (hv : VecOK m e v) (hH : Hole v.own F L)
    (hx : ρ.ev x = some v.val) (hy : ρ.ev y = some (.slice (some a) k cap')) (hk : k = news.length) (hnl : ∀ l ∈ news, l.length = m) (h1 : ∀ u ∈ news.flatten, u.oneCell' = true)
    (hsrc : ∀ w, Cls A L w → ∀ j u, news.flatten[j]? = some u → w.cell? (a.add j) = some u) (hmax : v.es.length + news.length ≤ maxLen) (hb : (v.es.length + news.length) * bytes ≤ 140737488355328) (hd : Nat.blt d n = true) :
    NO P ⟨some d, .call { callee := .builtin .append, args := [x, y].toArray, argTypes := [t, t].toArray }, ty, pos, af, g⟩ n D ρ (Cls A L) (fun v' : Vec => VecOK m e v' ∧ v'.es = v.es ++ news) (fun v' => (d, v'.val) :: ρ) (fun v' => Cls A (F v'.own)) :=
  NO.of rfl hd fun ac ha w hw => by
    subst hk
    obtain ⟨p, q, hL, _⟩ := hH.ex
    obtain ⟨v', w', h2, h3, h4, h5, h6, h7⟩ := append_run (ty := ty) hu hi hv hnl h1 hmax hb w (fun p hp => hw.loc p (by rw [hL]; simp [hp])) (hsrc w hw)
    refine ⟨v', w', ⟨h2, h3⟩, ?_, hw.hole hH h5 h6 h7⟩
    simp only [execOp, resolve, List.map_toArray, List.map_cons, List.map_nil, ha.ev hx, ha.ev hy, Sem.run_bind, invoke, builtin, pure, Sem.run, Result.andThen_ok]
    rw [h4]; rfl
/-- elements that lie in a block of one's own, as a slice literal lays them -/
theorem src_blk {b : Nat} {t : TypeId} {l : List Value} {news : List (List Value)} (hL : Mem L (b, blk l t)) (hl : news.flatten = l) : ∀ w, Cls A L w → ∀ j u, news.flatten[j]? = some u → w.cell? ((⟨b, 0, none⟩ : Addr).add j) = some u := fun w hw j u hj => by
  rw [add_at, Nat.zero_add, cell_blk (hw.loc _ hL.mem), ← hl]; exact hj
theorem VecOK.len {m : Nat} {e : TypeId} {v : Vec} (h : VecOK m e v) : ∃ a cap, v.val = .slice a v.es.length cap := by
  cases h with
  | nil => exact ⟨_, _, rfl⟩
  | row => exact ⟨_, _, rfl⟩
/-- what the vector's own blocks say when they stand in world w and are newer than w0 -/
def VIn (w0 : World) (v : Vec) (w : World) : Prop := (∀ p ∈ v.own, w.heap[p.1]? = some p.2 ∧ w0.heap.size ≤ p.1) ∧ (v.own.map (·.1)).Nodup
theorem VecOK.nd {m : Nat} {e : TypeId} {v : Vec} (h : VecOK m e v) : (v.own.map (·.1)).Nodup := by cases h <;> simp
theorem Cls.vin {W : World} {F : List Loc → List Loc} {v : Vec} {w : World} {m : Nat} {e : TypeId} (hv : VecOK m e v) (hw : Cls A L w) (hH : Hole v.own F L) (hA : Mem A (W, [])) : VIn W v w := by
  obtain ⟨p, q, rfl, _⟩ := hH.ex
  refine ⟨fun x hx => ⟨hw.loc x (by simp [hx]), ?_⟩, hv.nd⟩
  rcases hw.own _ hA.mem x (by simp [hx]) with h | h
  · simp at h
  · exact h
/-- a call that hands back a vector (and more): it becomes one's own -/
theorem n_callV {d : Nat} {k : FuncId} (hk : Ent P k) {F : List Loc → List Loc} {xs : List Operand} {ats : Array TypeId} {vs : List Value} {α : Type} {val : α → Value} {vec : α → Vec} {Φ : α → Prop} (hH : Hole [] F L) (hx : Evs ρ xs vs)
    (h : ∀ w, Cls A L w → Calls P k vs.toArray w fun e w' => ∃ x, e = .returned (val x) ∧ Gr w w' ∧ VIn w (vec x) w' ∧ Φ x) (hn : Nat.blt d n = true) :
    NO P ⟨some d, .call { callee := .value (.func k), args := xs.toArray, argTypes := ats }, ty, pos, af, g⟩ n D ρ (Cls A L) (fun x => Φ x) (fun x => (d, val x) :: ρ) (fun x => Cls A (F (vec x).own)) := fun a w ha hw K Q hK => by
  unfold Oper.wp
  rw [call_run (fs := []) (cs := []) hk ha rfl hx w]
  have e : ([] ++ vs ++ [] : List Value).toArray = vs.toArray := by simp
  rw [e]
  refine Calls.mono (h w hw) fun e w' ⟨x, he, hg, hv, hp⟩ => ?_
  subst he
  exact hK x hp _ _ (ha.put d _ hn) (hw.hole hH (Keeps.of_gr hg _) (fun p hp => ⟨(hv.1 p hp).1, .inr (hv.1 p hp).2⟩) hv.2)
theorem n_append1 {d t e m : Nat} (bytes : Nat) {F : List Loc → List Loc} {v : Vec} {x y : Operand} {b : Nat} {l : List Value} {tt : TypeId} (hu : P.underlying t = some (.slice e)) (hi : TI P e m bytes) (hv : VecOK m e v) (hH : Hole v.own F L)
    (hx : ρ.ev x = some v.val) (hy : ρ.ev y = some (.slice (some ⟨b, 0, none⟩) 1 1)) (hL : Mem L (b, blk l tt)) (hl : l.length = m) (hs : l.all sc = true) (hmax : v.es.length < 1000000000) (hb : Nat.ble bytes 140000 = true) (hd : Nat.blt d n = true) :
    NO P ⟨some d, .call { callee := .builtin .append, args := [x, y].toArray, argTypes := [t, t].toArray }, ty, pos, af, g⟩ n D ρ (Cls A L) (fun v' : Vec => VecOK m e v' ∧ v'.es = v.es ++ [l]) (fun v' => (d, v'.val) :: ρ) (fun v' => Cls A (F v'.own)) :=
  n_append (news := [l]) bytes hu hi hv hH hx hy rfl (fun x hx => by obtain rfl := List.mem_singleton.1 hx; exact hl) (fun u hu => by
      have : u ∈ l := by simpa using hu
      have := List.all_eq_true.1 hs u this
      cases u <;> simp_all [sc, Value.oneCell'])
    (src_blk hL (by simp)) (by simp only [maxLen, List.length_singleton]; omega) (by
      have hb : bytes ≤ 140000 := by simpa using hb
      have := Nat.mul_le_mul (show v.es.length + [l].length ≤ 1000000000 by simp; omega) hb
      omega) hd
theorem y_lenV {t e m : Nat} {ats : Array TypeId} {x : Operand} {v : Vec} (hu : P.underlying t = some (.slice e)) (hv : VecOK m e v) (hx : ρ.ev x = some v.val) (ha0 : ats[0]? = some t) :
    YO P ⟨dst, .call { callee := .builtin .len, args := [x].toArray, argTypes := ats }, ty, pos, af, g⟩ n D ρ C (.int .i64 v.es.length) := by
  obtain ⟨a, cap, h⟩ := hv.len
  exact y_lenS hu (h ▸ hx) ha0
theorem Hole.eq {r : List Loc} {F : List Loc → List Loc} {L : List Loc} (h : Hole r F L) : F r = L := by
  induction h with
  | c _ ih => simp [ih]
  | k _ ih => simp [ih]
  | _ => simp
abbrev Vec.nil : Vec := ⟨.slice none 0 0, [], []⟩
open Classical in
theorem c_loopG {Q : Exit → Act → World → Prop} {c : Code} {α : Type} (I : α → Prop) (ρL : α → Env) (CL : α → World → Prop) (μ : α → Nat) (x0 : α) (h0 : I x0)
    (round : ∀ x, I x → CJ P c (Exit.then (again n D I ρL CL μ (μ x)) Q) n D (ρL x) (CL x)) : CJ P (.loop c) Q n D (ρL x0) (CL x0) := fun a w ha hw => by
  let J : Act → World → Nat → Prop := fun a w m => ∃ x, I x ∧ μ x = m ∧ AgT n D (ρL x) a ∧ CL x w
  let M : Act → World → Nat := fun a w => if h : ∃ m, J a w m then Classical.choose (least_of h) else 0
  refine wp_loop (fun a w => ∃ m, J a w m) M ⟨_, x0, h0, rfl, ha, hw⟩ ?_
  intro a w hJ
  have hM : M a w = Classical.choose (least_of hJ) := dif_pos hJ
  obtain ⟨x, hx, hm, ha', hw'⟩ := (Classical.choose_spec (least_of hJ)).1
  refine wp_mono (round x hx a w ha' hw') fun e a2 w2 hq => ?_
  cases e with
  | normal =>
    obtain ⟨y, hy, hlt, ha2, hw2⟩ := hq
    have hJ2 : ∃ m, J a2 w2 m := ⟨_, y, hy, rfl, ha2, hw2⟩
    have hM2 : M a2 w2 = Classical.choose (least_of hJ2) := dif_pos hJ2
    refine ⟨hJ2, ?_⟩
    rw [hM, hM2]
    have h1 := (Classical.choose_spec (least_of hJ2)).2 (μ y) ⟨y, hy, rfl, ha2, hw2⟩
    omega
  | exit id => exact hq
  | goto l => exact hq
  | ret => exact hq
  | panic c => exact hq
  | outgrown => exact hq
/-- a loop in which blocks of one's own are turned -/
theorem c_loopV {Q : Exit → Act → World → Prop} {c : Code} {ρ0 : Env} {α : Type} {F : List Loc → List Loc} (I : α → Prop) (upd : α → Env) (own : α → List Loc) (μ : α → Nat) (x0 : α) (h0 : I x0) (hH : Hole (own x0) F L)
    (round : ∀ x, I x → CJ P c (Exit.then (again n D I (fun x => app (upd x) ρ0) (fun x => Cls A (F (own x))) μ (μ x)) Q) n D (app (upd x) ρ0) (Cls A (F (own x)))) : CJ P (.loop c) Q n D (app (upd x0) ρ0) (Cls A L) :=
  fun a w ha hw => c_loopG I (fun x => app (upd x) ρ0) (fun x => Cls A (F (own x))) μ x0 h0 round a w ha (hH.eq ▸ hw)
end
end Go.Px
/-
  Px, part 8: elements of vectors; comparisons with nil; vectors made of what was there.
-/
namespace Go.Px
open Go Go.RowKit
set_option linter.unusedVariables false
set_option linter.unusedSimpArgs false
def Vec.block (v : Vec) : Nat := match v.own with | (b, _) :: _ => b | [] => 0
theorem flatten_get {m : Nat} : ∀ {es : List (List Value)} {k i : Nat} {l : List Value} {u : Value}, (∀ l ∈ es, l.length = m) → es[k]? = some l → l[i]? = some u → es.flatten[k * m + i]? = some u
  | [], k, i, l, u, _, hk, _ => by simp at hk
  | x :: es, 0, i, l, u, h, hk, hi => by
    simp at hk; subst hk
    rw [List.flatten_cons, Nat.zero_mul, Nat.zero_add, List.getElem?_append_left (List.getElem?_eq_some_iff.1 hi).1]; exact hi
  | x :: es, k + 1, i, l, u, h, hk, hi => by
    have hx := h x (by simp)
    rw [List.flatten_cons, List.getElem?_append_right (by rw [hx, Nat.add_mul]; omega), hx, show (k + 1) * m + i - m = k * m + i by rw [Nat.add_mul]; omega]
    exact flatten_get (fun l hl => h l (by simp [hl])) (by simpa using hk) hi
theorem Up.append {α : Type} {l : List α} {o : Nat} {r l' : List α} (h : Up l o r l') (q : List α) : Up (l ++ q) o r (l' ++ q) := by
  induction h with
  | d => exact .d
  | t _ ih => exact .t ih
  | s _ ih => exact .s ih
theorem Up.prepend {α : Type} {l : List α} {o : Nat} {r l' : List α} (h : Up l o r l') : ∀ p : List α, Up (p ++ l) (p.length + o) r (p ++ l')
  | [] => by simpa using h
  | x :: p => by
    have := (Up.prepend h p).s (y := x)
    rw [List.length_cons, show p.length + 1 + o = p.length + o + 1 by omega]; exact this
theorem Up.flat {m off : Nat} {r l' : List Value} : ∀ {es : List (List Value)} {k : Nat} {l : List Value}, (∀ l ∈ es, l.length = m) → es[k]? = some l → Up l off r l' → Up es.flatten (k * m + off) r (es.set k l').flatten
  | [], k, l, _, hk, _ => by simp at hk
  | x :: es, 0, l, h, hk, hu => by
    simp at hk; subst hk
    simpa using hu.append es.flatten
  | x :: es, k + 1, l, h, hk, hu => by
    have hx := h x (by simp)
    have := (Up.flat (fun l (hl : l ∈ es) => h l (by simp [hl])) (by simpa using hk) hu).prepend x
    rw [hx] at this
    rw [show (k + 1) * m + off = m + (k * m + off) by rw [Nat.add_mul]; omega]
    simpa using this
section
variable {P : Program} {dst : Option Tmp} {n : Nat} {D : List Deferred} {ρ : Env} {C : World → Prop} {A : List (World × List Nat)} {L : List Loc} {ty : TypeId} {pos : String} {af : Array Edge} {g : Option (Nat × Bool)}
theorem VecOK.all {m : Nat} {e : TypeId} {v : Vec} (hv : VecOK m e v) : ∀ l ∈ v.es, l.length = m := by
  cases hv with
  | nil => simp
  | row hl => exact hl
theorem VecOK.sc {m : Nat} {e : TypeId} {v : Vec} (hv : VecOK m e v) : Px.sc v.val = true := by cases hv <;> rfl
theorem VecOK.sc1 {m : Nat} {e : TypeId} {v : Vec} (hv : VecOK m e v) : [v.val].all Px.sc = true := by simp [hv.sc]
theorem VecOK.heap {m : Nat} {e : TypeId} {v : Vec} (hv : VecOK m e v) {k : Nat} {l : List Value} (hk : v.es[k]? = some l) : ∃ cap rest, v.val = .slice (some ⟨v.block, 0, none⟩) v.es.length cap ∧ v.own = [(v.block, blk (v.es.flatten ++ rest) e)] ∧ v.es.length ≤ cap ∧ cap ≤ maxLen ∧ rest.length = (cap - v.es.length) * m := by
  cases hv with
  | nil => simp at hk
  | row hl hc hcap hr => exact ⟨_, _, rfl, rfl, hc, hcap, hr⟩
theorem VecOK.cell {m : Nat} {e : TypeId} {v : Vec} (hv : VecOK m e v) {F : List Loc → List Loc} (hH : Hole v.own F L) {w : World} (hw : Cls A L w) {k i : Nat} {l : List Value} {u : Value} (hk : v.es[k]? = some l) (hi : l[i]? = some u) : w.cell? ⟨v.block, k * m + i, none⟩ = some u := by
  obtain ⟨cap, rest, _, ho, _⟩ := hv.heap hk
  obtain ⟨p, q, hL, _⟩ := hH.ex
  have hb := hw.loc (v.block, blk (v.es.flatten ++ rest) e) (by rw [hL, ho]; simp)
  have hf := flatten_get hv.all hk hi
  rw [cell_blk hb, List.getElem?_append_left (List.getElem?_eq_some_iff.1 hf).1]; exact hf
theorem y_idxVec {t e m : Nat} {e' : TypeId} {ag : Bool} {z : Value} {x y : Operand} {v : Vec} {k : IntKind} {i : Int} (hu : P.underlying t = some (.slice e)) (ht : Ty P e m ag z) (hv : VecOK m e' v) {u : Value} (hval : v.val = u) (hx : ρ.ev x = some u) (hy : ρ.ev y = some (.int k i)) (h0 : 0 ≤ i) (h1 : i < v.es.length) :
    YO P ⟨dst, .indexAddr t x y, ty, pos, af, g⟩ n D ρ C (.pointer (some ⟨v.block, 0 + i.toNat * m, none⟩)) := by
  obtain ⟨cap, rest, h, _⟩ := hv.heap (k := i.toNat) (List.getElem?_eq_getElem (by omega))
  exact y_indexAddr hu ht (h ▸ hval.symm ▸ hx) hy h0 h1
theorem LoadAt.aggV {t m n k off o : Nat} {e : TypeId} {z : Value} {v : Vec} {F : List Loc → List Loc} {l r : List Value} (hv : VecOK m e v) {b : Nat} (hb : v.block = b) (hH : Hole v.own F L) (ht : Ty P t n true z) (hk : v.es[k]? = some l) (he : Ex l off n r) (ho : o = k * m + off) : LoadAt P t (Cls A L) ⟨b, o, none⟩ (.agg r.toArray) :=
  hb ▸ .agg ht he.spec.2.1 fun w hw i u hi => by
    rw [add_at, ho, Nat.add_assoc]
    refine hv.cell hH hw hk ?_
    rw [he.get i]
    · exact hi
    · have := (List.getElem?_eq_some_iff.1 hi).1
      have := he.spec.2.1
      omega
theorem LoadAt.oneV {t m n k off o : Nat} {e : TypeId} {z u : Value} {v : Vec} {F : List Loc → List Loc} {l : List Value} (hv : VecOK m e v) {b : Nat} (hb : v.block = b) (hH : Hole v.own F L) (ht : Ty P t n false z) (hk : v.es[k]? = some l) (he : Nth l off u) (ho : o = k * m + off) : LoadAt P t (Cls A L) ⟨b, o, none⟩ u :=
  hb ▸ .one ht fun w hw => by rw [ho]; exact hv.cell hH hw hk he.get
theorem n_storeV {t m1 m k off o : Nat} {e : TypeId} {ag : Bool} {z u : Value} {v : Vec} {F : List Loc → List Loc} {x y : Operand} {r l l' : List Value} (hv : VecOK m e v) {b : Nat} (hb : v.block = b) (hH : Hole v.own F L) (hx : ρ.ev x = some (.pointer (some ⟨b, o, none⟩))) (hy : ρ.ev y = some u)
    (ht : Ty P t (m1 + 1) ag z) (hu : Cl u r) (hr : r.length = m1 + 1) (hs : r.all sc = true) (hk : v.es[k]? = some l) (ho : o = k * m + off) (hup : Up l off r l') :
    NO P ⟨none, .store t x y, ty, pos, af, g⟩ n D ρ (Cls A L) (fun v' : Vec => VecOK m e v' ∧ v'.es = v.es.set k l' ∧ v'.val = v.val ∧ v'.block = v.block) (fun _ => ρ) (fun v' => Cls A (F v'.own)) :=
  NO.of0 rfl fun a ha w hw => by
    subst ho
    subst hb
    obtain ⟨cap, rest, h1, h2, h3, h4, h5⟩ := hv.heap hk
    obtain ⟨p, q, hL, hF⟩ := hH.ex
    have hb := hw.loc (v.block, blk (v.es.flatten ++ rest) e) (by rw [hL, h2]; simp)
    have hU : Up (v.es.flatten ++ rest) (k * m + off) r ((v.es.set k l').flatten ++ rest) := (Up.flat hv.all hk hup).append rest
    have hlen : k * m + off + 0 + r.length ≤ (v.es.flatten ++ rest).length := by
      cases r with
      | nil => simp at hr
      | cons a b => have := hU.len.2 (by simp); omega
    obtain ⟨w', g1, g2, g3, g4, g5, g6, g7⟩ := storeCells_run (P := P) r (v.es.flatten ++ rest) (k * m + off) 0 w hb hs hlen
    have hlen' : ∀ l ∈ v.es.set k l', l.length = m := fun x hx => by
      rcases List.mem_or_eq_of_mem_set hx with h | h
      · exact hv.all x h
      · rw [h, hup.len.1]; exact hv.all l (List.mem_of_getElem? hk)
    refine ⟨⟨v.val, v.es.set k l', [(v.block, blk ((v.es.set k l').flatten ++ rest) e)]⟩, w', ⟨?_, rfl, rfl, rfl⟩, ?_, hw.hole hH ⟨g3, g4, g5, by omega, fun i hi hne => g7 i (fun e => hne (by rw [h2]; simp [e]))⟩ ?_ (by simp)⟩
    · have := VecOK.row (m := m) (e := e) (b := v.block) (cap := cap) (es := v.es.set k l') (rest := rest) hlen' (by simpa using h3) h4 (by simpa using h5)
      rw [List.length_set, ← h1] at this
      exact this
    · simp only [execOp, ha.ev hx, ha.ev hy]
      refine run_unit ?_
      have hsz : (r.toArray.size ≠ m1 + 1) = False := by simp [hr]
      have e0 : (Instr.storeAt t (.pointer (some ⟨v.block, k * m + off, none⟩)) u) = storeVar t ⟨v.block, k * m + off, none⟩ u := rfl
      rw [e0]
      simp only [storeVar, hu.cells, Sem.run_bind, ht.size, Result.andThen_ok, hsz, if_false]
      exact g1
    · intro p hp
      obtain rfl := List.mem_singleton.1 hp
      exact ⟨by rw [g2, Nat.add_zero, hU.setAll], .inl (by rw [h2]; simp)⟩
/-- a slice of no elements, written out -/
theorem n_vec0 {d t e m : Nat} {ag : Bool} {z : Value} {F : List Loc → List Loc} (hH : Hole [] F L) (hu : P.underlying t = some (.slice e)) (ht : Ty P e m ag z) (hn : Nat.blt d n = true) :
    NO P ⟨some d, .buildSlice t 0 #[], ty, pos, af, g⟩ n D ρ (Cls A L) (fun v : Vec => VecOK m e v ∧ v.es = [] ∧ v.val ≠ .slice none 0 0) (fun v => (d, v.val) :: ρ) (fun v => Cls A (F v.own)) :=
  NO.of rfl hn fun a ha w hw => ⟨⟨.slice (some ⟨w.heap.size, 0, none⟩) 0 0, [], [(w.heap.size, blk [] e)]⟩, w.alloc (blk [] e), ⟨.row (m := m) (b := w.heap.size) (cap := 0) (es := []) (rest := []) (by simp) (Nat.le_refl _) (Nat.zero_le _) (by simp), rfl, by simp⟩, by
    simp only [execOp]
    refine run_val' ?_
    have hb : ¬ (0 > 2 ^ 24) := by decide
    simp only [Instr.buildSlice, Sem.run_bind, run_underlying hu, Result.andThen_ok, ht.size, Nat.zero_mul, if_neg hb, if_true, Sem.run_pure]
    have e0 : Array.range 0 = #[] := Array.eq_empty_of_size_eq_zero (by simp)
    rw [e0]
    simp [Instr.fill, newRow, blk], hw.hole hH (Keeps.of_gr (Gr.alloc w _) _) (fun p hp => by obtain rfl := List.mem_singleton.1 hp; exact ⟨heap_alloc_new w _, .inr (Nat.le_refl _)⟩) (by simp)⟩
theorem Elts.flat {w : World} {a : Addr} {m : Nat} {ls : List (List Value)} (hl : ∀ l ∈ ls, l.length = m) (h : Elts w (some a) m ls) : ∀ j u, ls.flatten[j]? = some u → w.cell? (a.add j) = some u := by
  intro j u hj
  have hj' : j < ls.length * m := by rw [← flatten_len hl]; exact (List.getElem?_eq_some_iff.1 hj).1
  have hm : 0 < m := by rcases Nat.eq_zero_or_pos m with h | h; · subst h; omega
                        · exact h
  have hq : j / m < ls.length := (Nat.div_lt_iff_lt_mul hm).2 hj'
  obtain ⟨b, o, e, hc⟩ := h (j / m) ls[j / m] (List.getElem?_eq_getElem hq)
  cases e
  have hlen := hl _ (List.getElem_mem hq)
  have hr : j % m < (ls[j / m]).length := by rw [hlen]; exact Nat.mod_lt _ hm
  have e1 := flatten_get hl (List.getElem?_eq_getElem hq) (List.getElem?_eq_getElem hr)
  have e2 : j / m * m + j % m = j := by rw [Nat.mul_comm]; exact Nat.div_add_mod j m
  rw [e2, hj] at e1
  cases e1
  rw [add_at]
  have := hc (j % m) _ (List.getElem?_eq_getElem hr)
  rw [Nat.add_assoc, e2] at this
  exact this
theorem Elts.of_none {w : World} {m : Nat} {ls : List (List Value)} (h : Elts w none m ls) : ls = [] := by
  cases ls with
  | nil => rfl
  | cons l ls => obtain ⟨_, _, e, _⟩ := h 0 l rfl; cases e
/-- elements that are there, appended to a vector -/
theorem n_appendE {d t e m : Nat} (bytes : Nat) {F : List Loc → List Loc} {v : Vec} {x y : Operand} {a : Addr} {k cap' : Nat} {W : World} (news : List (List Value)) (hu : P.underlying t = some (.slice e)) (hi : TI P e m bytes) (hv : VecOK m e v) (hH : Hole v.own F L)
    (hx : ρ.ev x = some v.val) (hy : ρ.ev y = some (.slice (some a) k cap')) (hk : k = news.length) (hnl : ∀ l ∈ news, l.length = m) (h1 : ∀ l ∈ news, l.all sc = true) (hA : Mem A (W, []))
    (hsrc : Elts W (some a) m news) (hmax : v.es.length + news.length ≤ 1000000000) (hb : Nat.ble bytes 140000 = true) (hd : Nat.blt d n = true) :
    NO P ⟨some d, .call { callee := .builtin .append, args := [x, y].toArray, argTypes := [t, t].toArray }, ty, pos, af, g⟩ n D ρ (Cls A L) (fun v' : Vec => VecOK m e v' ∧ v'.es = v.es ++ news) (fun v' => (d, v'.val) :: ρ) (fun v' => Cls A (F v'.own)) :=
  n_append bytes hu hi hv hH hx hy hk hnl (fun u hu => by
      obtain ⟨l, hl, hul⟩ := List.mem_flatten.1 hu
      have := List.all_eq_true.1 (h1 l hl) u hul
      cases u <;> simp_all [sc, Value.oneCell'])
    (fun w hw => (hsrc.gr (hw.gr hA)).flat hnl) (by simp only [maxLen]; omega) (by
      have hb : bytes ≤ 140000 := by simpa using hb
      have := Nat.mul_le_mul hmax hb
      omega) hd
theorem y_eqSliceNil {t e : Nat} {yt : TypeId} {x y : Operand} {a : Option Addr} {l c : Nat} (hu : P.underlying t = some (.slice e)) (hx : ρ.ev x = some (.slice a l c)) (hy : ρ.ev y = some (.slice none 0 0)) : YO P ⟨dst, .binOp .eql t x y yt, ty, pos, af, g⟩ n D ρ C (.bool a.isNone) :=
  y_bin hx hy (fun w => by unfold eqGuard; split <;> rfl) fun w => by
    simp only [binOp]
    simp [run_equal_slice_nil w t e a l c hu]
theorem y_eqPtrNil {t : Nat} {yt : TypeId} {x y : Operand} {a : Option Addr} (hu : P.underlying t = some (.pointer (P.pointee t))) (hx : ρ.ev x = some (.pointer a)) (hy : ρ.ev y = some (.pointer none)) : YO P ⟨dst, .binOp .eql t x y yt, ty, pos, af, g⟩ n D ρ C (.bool a.isNone) :=
  y_bin hx hy (fun w => by unfold eqGuard; split <;> rfl) fun w => run_eql_pointer_nil w t a hu
theorem y_neqPtrNil {t : Nat} {yt : TypeId} {x y : Operand} {a : Option Addr} (hu : P.underlying t = some (.pointer (P.pointee t))) (hx : ρ.ev x = some (.pointer a)) (hy : ρ.ev y = some (.pointer none)) : YO P ⟨dst, .binOp .neq t x y yt, ty, pos, af, g⟩ n D ρ C (.bool (!a.isNone)) :=
  y_bin hx hy (fun w => by unfold eqGuard; split <;> rfl) fun w => run_neq_pointer_nil w t a hu
theorem LoadAt.aggB {W : World} {t m b o : Nat} {tt : TypeId} {z : Value} {l r : List Value} (hA : Mem A (W, [])) (hB : W.heap[b]? = some (blk l tt)) (ht : Ty P t m true z) (he : Ex l o m r) : LoadAt P t (Cls A L) ⟨b, o, none⟩ (.agg r.toArray) :=
  LoadAt.aggF hA ht he.spec.2.1 fun i v hv => by
    rw [add_at, cell_blk hB, he.get i]
    · exact hv
    · have := (List.getElem?_eq_some_iff.1 hv).1
      have := he.spec.2.1
      omega
theorem LoadAt.oneB {W : World} {t m b o : Nat} {tt : TypeId} {z v : Value} {l : List Value} (hA : Mem A (W, [])) (hB : W.heap[b]? = some (blk l tt)) (ht : Ty P t m false z) (he : Nth l o v) : LoadAt P t (Cls A L) ⟨b, o, none⟩ v :=
  LoadAt.oneF hA ht (by rw [cell_blk hB]; exact he.get)
theorem Cls.locM {w : World} {b : Nat} {o : Obj} (h : Cls A L w) (hm : Mem L (b, o)) : w.heap[b]? = some o := h.loc (b, o) hm.mem
/-- some blocks are let go -/
inductive Thin : List Loc → List Loc → Prop
  | r {K} : Thin K K
  | n {K} : Thin K []
  | d {x K K'} : Thin K K' → Thin (x :: K) K'
  | k {x K K'} : Thin K K' → Thin (x :: K) (x :: K')
  | a {q K K'} : Thin K K' → Thin (q ++ K) K'
  | ka {q K K'} : Thin K K' → Thin (q ++ K) (q ++ K')
theorem Thin.sub {L L' : List Loc} (h : Thin L L') : L'.Sublist L := by
  induction h with
  | r => exact List.Sublist.refl _
  | n => exact List.nil_sublist _
  | d _ ih => exact ih.cons _
  | k _ ih => exact ih.cons_cons _
  | a _ ih => exact ih.trans (List.sublist_append_right _ _)
  | ka _ ih => exact ih.append_left _
theorem Cls.subl {L L' : List Loc} {w : World} (h : Cls A L w) (hs : L'.Sublist L) : Cls A L' w :=
  ⟨h.anc, fun p hp => h.loc p (hs.subset hp), (hs.map _).nodup h.nd, fun p hp l hl => h.own p hp l (hs.subset hl)⟩
theorem Cls.thin {L L' : List Loc} {w : World} (h : Cls A L w) (hs : Thin L L') : Cls A L' w := h.subl hs.sub
/-- a call of which the value alone is told, for some x -/
theorem n_callW {d : Nat} {k : FuncId} (hk : Ent P k) {xs : List Operand} {ats : Array TypeId} {vs : List Value} {α : Type} {val : α → Value} {Φ : α → Prop} (hx : Evs ρ xs vs)
    (h : ∀ w, Cls A L w → Calls P k vs.toArray w fun e w' => ∃ x, e = .returned (val x) ∧ Gr w w' ∧ Φ x) (hn : Nat.blt d n = true) :
    NO P ⟨some d, .call { callee := .value (.func k), args := xs.toArray, argTypes := ats }, ty, pos, af, g⟩ n D ρ (Cls A L) (fun x => Φ x) (fun x => (d, val x) :: ρ) (fun _ => Cls A L) := fun a w ha hw K Q hK => by
  unfold Oper.wp
  rw [call_run (fs := []) (cs := []) hk ha rfl hx w]
  have e : ([] ++ vs ++ [] : List Value).toArray = vs.toArray := by simp
  rw [e]
  refine Calls.mono (h w hw) fun e w' ⟨x, he, hg, hp⟩ => ?_
  subst he
  exact hK x hp _ _ (ha.put d _ hn) (Cls.gs A L _ _ hw hg)
/-- what a call that turns one vector tells -/
def Turns (P : Program) (k : FuncId) (args : List Value) (w : World) (v : Vec) {α : Type} (val : α → Value) (vec : α → Vec) (Φ : α → Prop) : Prop :=
  Calls P k args.toArray w fun e w' => ∃ x, e = .returned (val x) ∧ Keeps w (v.own.map (·.1)) w' ∧ (∀ p ∈ (vec x).own, w'.heap[p.1]? = some p.2 ∧ (p.1 ∈ v.own.map (·.1) ∨ w.heap.size ≤ p.1)) ∧ ((vec x).own.map (·.1)).Nodup ∧ Φ x
theorem n_callTV {d : Nat} {k : FuncId} (hk : Ent P k) {F : List Loc → List Loc} {xs : List Operand} {ats : Array TypeId} {vs : List Value} {v : Vec} {α : Type} {val : α → Value} {vec : α → Vec} {Φ : α → Prop} (hH : Hole v.own F L) (hx : Evs ρ xs vs)
    (h : ∀ w, Cls A L w → Turns P k vs w v val vec Φ) (hn : Nat.blt d n = true) :
    NO P ⟨some d, .call { callee := .value (.func k), args := xs.toArray, argTypes := ats }, ty, pos, af, g⟩ n D ρ (Cls A L) (fun x => Φ x) (fun x => (d, val x) :: ρ) (fun x => Cls A (F (vec x).own)) := fun a w ha hw K Q hK => by
  unfold Oper.wp
  rw [call_run (fs := []) (cs := []) hk ha rfl hx w]
  have e : ([] ++ vs ++ [] : List Value).toArray = vs.toArray := by simp
  rw [e]
  refine Calls.mono (h w hw) fun e w' ⟨x, he, hg, hv, hnd, hp⟩ => ?_
  subst he
  exact hK x hp _ _ (ha.put d _ hn) (hw.hole hH hg hv hnd)
theorem Cls.startV {m : Nat} {e : TypeId} {v : Vec} (hv : VecOK m e v) {w : World} (h : ∀ p ∈ v.own, w.heap[p.1]? = some p.2) : Cls [(w, v.own.map (·.1))] v.own w :=
  ⟨fun p hp => by simp at hp; subst hp; exact Keeps.refl w _, h, hv.nd, fun p hp l hl => by simp at hp; subst hp; exact .inl (List.mem_map_of_mem hl)⟩
theorem Cls.ownV {m : Nat} {e : TypeId} {v : Vec} (hv : VecOK m e v) {F : List Loc → List Loc} {w : World} (hw : Cls A L w) (hH : Hole v.own F L) : ∀ p ∈ v.own, w.heap[p.1]? = some p.2 := by
  obtain ⟨p, q, rfl, _⟩ := hH.ex
  exact fun x hx => hw.loc x (by simp [hx])
/-- behind a function that turned one vector of its caller's -/
theorem Cls.turned {m' : Nat} {e' : TypeId} {W : World} {v v' : Vec} {F : List Loc → List Loc} {w : World} (hv' : VecOK m' e' v') (hw : Cls A L w) (hH : Hole v'.own F L) (hA : Mem A (W, v.own.map (·.1))) :
    Keeps W (v.own.map (·.1)) w ∧ (∀ p ∈ v'.own, w.heap[p.1]? = some p.2 ∧ (p.1 ∈ v.own.map (·.1) ∨ W.heap.size ≤ p.1)) ∧ (v'.own.map (·.1)).Nodup := by
  obtain ⟨p, q, rfl, _⟩ := hH.ex
  exact ⟨hw.anc _ hA.mem, fun x hx => ⟨hw.loc x (by simp [hx]), hw.own _ hA.mem x (by simp [hx])⟩, hv'.nd⟩
end
end Go.Px
/-
  Px, part 9: blocks of the caller's; blocks told anew; maps from numbers to pointers.
-/
namespace Go.Px
open Go Go.RowKit Go.MapKept
set_option linter.unusedVariables false
set_option linter.unusedSimpArgs false
section
variable {P : Program} {Q : Exit → Act → World → Prop} {dst : Option Tmp} {n : Nat} {D : List Deferred} {ρ : Env} {C : World → Prop} {A : List (World × List Nat)} {L : List Loc} {ty : TypeId} {pos : String} {af : Array Edge} {g : Option (Nat × Bool)}
theorem Cls.startB {b : Nat} {o : Obj} {w : World} (h : w.heap[b]? = some o) : Cls [(w, [b])] [(b, o)] w :=
  ⟨fun p hp => by simp at hp; subst hp; exact Keeps.refl w _, fun p hp => by simp at hp; subst hp; exact h, by simp, fun p hp l hl => by simp at hp hl; subst hp hl; exact .inl (by simp)⟩
/-- a call that turns one block of one's own -/
theorem n_callB {d b : Nat} {o o' : Obj} {k : FuncId} (hk : Ent P k) {xs : List Operand} {ats : Array TypeId} {vs : List Value} {v : Value} {L' : List Loc} (hx : Evs ρ xs vs) (hL : LSet L b o o' L')
    (h : ∀ w, Cls A L w → Calls P k vs.toArray w fun e w' => e = .returned v ∧ Keeps w [b] w' ∧ w'.heap[b]? = some o') (hn : Nat.blt d n = true) :
    NO P ⟨some d, .call { callee := .value (.func k), args := xs.toArray, argTypes := ats }, ty, pos, af, g⟩ n D ρ (Cls A L) (fun _ : Unit => True) (fun _ => (d, v) :: ρ) (fun _ => Cls A L') := fun a w ha hw K Q hK => by
  unfold Oper.wp
  rw [call_run (fs := []) (cs := []) hk ha rfl hx w]
  have e : ([] ++ vs ++ [] : List Value).toArray = vs.toArray := by simp
  rw [e]
  refine Calls.mono (h w hw) fun e w' ⟨he, hg, hb⟩ => ?_
  subst he
  exact hK () trivial _ _ (ha.put d _ hn) (hw.set hL hg.os hg.tape hg.output hg.size hb (fun i hi hne => hg.block i hi (by simpa using hne)))
/-- what a call that turns the blocks r tells -/
def TurnsL (P : Program) (k : FuncId) (args : List Value) (w : World) (r : List Loc) {α : Type} (val : α → Value) (r' : α → List Loc) (Φ : α → Prop) : Prop :=
  Calls P k args.toArray w fun e w' => ∃ x, e = .returned (val x) ∧ Keeps w (r.map (·.1)) w' ∧ (∀ p ∈ r' x, w'.heap[p.1]? = some p.2 ∧ (p.1 ∈ r.map (·.1) ∨ w.heap.size ≤ p.1)) ∧ ((r' x).map (·.1)).Nodup ∧ Φ x
theorem n_callTL {d : Nat} {k : FuncId} (hk : Ent P k) {F : List Loc → List Loc} {fo : Operand} {xs : List Operand} {ats : Array TypeId} {fs cs vs : List Value} {r : List Loc} {α : Type} {val : α → Value} {r' : α → List Loc} {Φ : α → Prop} (hf : ρ.ev fo = some (.func (.func k) fs.toArray cs.toArray)) (hH : Hole r F L) (hx : Evs ρ xs vs)
    (h : ∀ w, Cls A L w → TurnsL P k (fs ++ vs ++ cs) w r val r' Φ) (hn : Nat.blt d n = true) :
    NO P ⟨some d, .call { callee := .value fo, args := xs.toArray, argTypes := ats }, ty, pos, af, g⟩ n D ρ (Cls A L) (fun x => Φ x) (fun x => (d, val x) :: ρ) (fun x => Cls A (F (r' x))) := fun a w ha hw K Q hK => by
  unfold Oper.wp
  rw [call_run hk ha hf hx w]
  refine Calls.mono (h w hw) fun e w' ⟨x, he, hg, hv, hnd, hp⟩ => ?_
  subst he
  exact hK x hp _ _ (ha.put d _ hn) (hw.hole hH hg hv hnd)
theorem Cls.startL {r : List Loc} {w : World} (h : ∀ p ∈ r, w.heap[p.1]? = some p.2) (hnd : (r.map (·.1)).Nodup) : Cls [(w, r.map (·.1))] r w :=
  ⟨fun p hp => by simp at hp; subst hp; exact Keeps.refl w _, h, hnd, fun p hp l hl => by simp at hp; subst hp; exact .inl (List.mem_map_of_mem hl)⟩
theorem Cls.turnedL {W : World} {r r' : List Loc} {F : List Loc → List Loc} {w : World} (hw : Cls A L w) (hH : Hole r' F L) (hA : Mem A (W, r.map (·.1))) :
    Keeps W (r.map (·.1)) w ∧ (∀ p ∈ r', w.heap[p.1]? = some p.2 ∧ (p.1 ∈ r.map (·.1) ∨ W.heap.size ≤ p.1)) ∧ (r'.map (·.1)).Nodup := by
  obtain ⟨p, q, rfl, _⟩ := hH.ex
  refine ⟨hw.anc _ hA.mem, fun x hx => ⟨hw.loc x (by simp [hx]), hw.own _ hA.mem x (by simp [hx])⟩, ?_⟩
  have := hw.nd
  simp only [List.map_append] at this
  rw [List.append_assoc, List.nodup_append, List.nodup_append] at this
  exact this.2.1.1
theorem Cls.perm {L' : List Loc} {w : World} (h : Cls A L w) (hp : L.Perm L') : Cls A L' w :=
  ⟨h.anc, fun p hm => h.loc p (hp.mem_iff.2 hm), (hp.map _).nodup_iff.1 h.nd, fun p hp' l hl => h.own p hp' l (hp.mem_iff.2 hl)⟩
theorem Cls.swap {r r' : List Loc} {F : List Loc → List Loc} {w : World} (h : Cls A L w) (hH : Hole r F L) (hp : r.Perm r') : Cls A (F r') w := by
  obtain ⟨p, q, rfl, hF⟩ := hH.ex
  rw [hF]
  exact h.perm ((hp.append_left p).append_right q)
theorem CJ.swap {c : Code} {r r' : List Loc} {F : List Loc → List Loc} (hH : Hole r F L) (hp : r.Perm r') (h : CJ P c Q n D ρ (Cls A (F r'))) : CJ P c Q n D ρ (Cls A L) := fun a w ha hw => h a w ha (hw.swap hH hp)
/-! ### what was there, but for the blocks X -/
theorem Cls.kp {W : World} {X : List Nat} {w : World} (h : Cls A L w) (hA : Mem A (W, X)) : Keeps W X w := h.anc _ hA.mem
theorem LoadAt.aggFX {W : World} {X : List Nat} {t m : Nat} {z : Value} {l : List Value} {ad : Addr} (hA : Mem A (W, X)) (hx : ad.block ∉ X) (ht : Ty P t m true z) (hl : l.length = m) (h : ∀ i v, l[i]? = some v → W.cell? (ad.add i) = some v) : LoadAt P t (Cls A L) ad (.agg l.toArray) :=
  .agg ht hl fun w hw i v hv => (hw.kp hA).cell (h i v hv) (by unfold Addr.add; split <;> exact hx)
theorem LoadAt.oneFX {W : World} {X : List Nat} {t m : Nat} {z v : Value} {ad : Addr} (hA : Mem A (W, X)) (hx : ad.block ∉ X) (ht : Ty P t m false z) (h : W.cell? ad = some v) : LoadAt P t (Cls A L) ad v :=
  .one ht fun w hw => (hw.kp hA).cell h hx
theorem LoadAt.aggBX {W : World} {X : List Nat} {t m b o : Nat} {tt : TypeId} {z : Value} {l r : List Value} (hA : Mem A (W, X)) (hx : b ∉ X) (hB : W.heap[b]? = some (blk l tt)) (ht : Ty P t m true z) (he : Ex l o m r) : LoadAt P t (Cls A L) ⟨b, o, none⟩ (.agg r.toArray) :=
  LoadAt.aggFX hA hx ht he.spec.2.1 fun i v hv => by
    rw [add_at, cell_blk hB, he.get i]
    · exact hv
    · have := (List.getElem?_eq_some_iff.1 hv).1
      have := he.spec.2.1
      omega
theorem LoadAt.oneBX {W : World} {X : List Nat} {t m b o : Nat} {tt : TypeId} {z v : Value} {l : List Value} (hA : Mem A (W, X)) (hx : b ∉ X) (hB : W.heap[b]? = some (blk l tt)) (ht : Ty P t m false z) (he : Nth l o v) : LoadAt P t (Cls A L) ⟨b, o, none⟩ v :=
  LoadAt.oneFX hA hx ht (by rw [cell_blk hB]; exact he.get)
/-! ### maps -/
abbrev ptrV (b : Nat) : Value := .pointer (some ⟨b, 0, none⟩)
def mEnt (p : (Int × Nat) × Nat) : MapEntry := ⟨.int .i64 p.1.1, ptrV p.1.2, p.2⟩
def mObj (kvs : List (Int × Nat)) : Obj := .map ((kvs.zipIdx.map mEnt).toArray) kvs.length
theorem findNow_m (t : Int) : ∀ (kvs : List (Int × Nat)) (m i : Nat), ∃ r, Instr.findNow (.int .i64) (.int .i64 t) ((kvs.zipIdx m).map mEnt) i = some r ∧
    ((r = none ∧ ∀ p ∈ kvs, p.1 ≠ t) ∨ ∃ j p l1 l2, r = some (j, ptrV p.2) ∧ kvs = l1 ++ p :: l2 ∧ p.1 = t)
  | [], m, i => ⟨none, rfl, .inl ⟨rfl, by simp⟩⟩
  | p :: kvs, m, i => by
    by_cases h : t = p.1
    · refine ⟨some (i, ptrV p.2), ?_, .inr ⟨i, p, [], kvs, rfl, rfl, h.symm⟩⟩
      simp [Instr.findNow, List.zipIdx_cons, mEnt, Instr.sameNow, h]
    · obtain ⟨r, h1, h2⟩ := findNow_m t kvs (m + 1) (i + 1)
      refine ⟨r, ?_, ?_⟩
      · simp only [List.zipIdx_cons, List.map_cons, Instr.findNow, mEnt, Instr.sameNow, if_true]
        rw [show (t == p.1) = false by simpa using h]
        exact h1
      · rcases h2 with ⟨h3, h4⟩ | ⟨j, q, l1, l2, h3, h4, h5⟩
        · exact .inl ⟨h3, fun q hq => by rcases List.mem_cons.1 hq with rfl | hq; exact fun e => h e.symm; exact h4 q hq⟩
        · exact .inr ⟨j, q, p :: l1, l2, h3, by rw [h4]; rfl, h5⟩
theorem n_lookup {d mt kt et mb : Nat} {kvs : List (Int × Nat)} {x y : Operand} {t : Int} {ag : Bool} {m : Nat} (hu : P.underlying mt = some (.map kt et)) (hk : P.underlying kt = some (.int .i64)) (he : Ty P et m ag (.pointer none)) (hL : Mem L (mb, mObj kvs)) (hx : ρ.ev x = some (.map (some mb))) (hy : ρ.ev y = some (.int .i64 t)) (hn : Nat.blt d n = true) :
    NO P ⟨some d, .lookup mt x y false, ty, pos, af, g⟩ n D ρ (Cls A L) (fun o : Option (Int × Nat) => (o = none ∧ ∀ p ∈ kvs, p.1 ≠ t) ∨ ∃ p l1 l2, o = some p ∧ kvs = l1 ++ p :: l2 ∧ p.1 = t)
      (fun o => (d, .pointer (o.map fun p => ⟨p.2, 0, none⟩)) :: ρ) (fun _ => Cls A L) :=
  NO.of rfl hn fun a ha w hw => by
    obtain ⟨r, h1, h2⟩ := findNow_m t kvs 0 0
    have hb : w.heap[mb]? = some (.map ((kvs.zipIdx.map mEnt).toArray) kvs.length) := hw.loc _ hL.mem
    have hf := run_findKey (w := w) hk h1
    have hc := fun e => run_checkKey (P := P) (w := w) hk (k := .int .i64 t) (by simp [IsKey]) e 9999
    rcases h2 with ⟨rfl, h3⟩ | ⟨j, p, l1, l2, rfl, h3, h4⟩
    · refine ⟨none, w, .inl ⟨rfl, h3⟩, ?_, hw⟩
      simp only [execOp, ha.ev hx, ha.ev hy]
      refine run_val' ?_
      simp only [Instr.lookup, Sem.run_bind, run_underlying hu, Result.andThen_ok, Go.MapKept.run_getObj_map hb]
      simp [hc, hf, he.zero]
    · refine ⟨some p, w, .inr ⟨p, l1, l2, rfl, h3, h4⟩, ?_, hw⟩
      simp only [execOp, ha.ev hx, ha.ev hy]
      refine run_val' ?_
      simp only [Instr.lookup, Sem.run_bind, run_underlying hu, Result.andThen_ok, Go.MapKept.run_getObj_map hb]
      simp [hc, hf]
theorem n_makeMap {d mt : Nat} (hn : Nat.blt d n = true) :
    NO P ⟨some d, .makeMap mt none, ty, pos, af, g⟩ n D ρ (Cls A L) (fun _ : Nat => True) (fun b => (d, .map (some b)) :: ρ) (fun b => Cls A ((b, mObj []) :: L)) :=
  NO.of rfl hn fun a ha w hw => ⟨w.heap.size, w.alloc (mObj []), trivial, by
    simp only [execOp]
    exact run_val' (by simp only [Option.map_none, Instr.makeMap, Sem.run_bind]; rfl), hw.alloc _⟩
theorem n_mapNew {mt kt et mb b : Nat} {kvs : List (Int × Nat)} {x y z : Operand} {t : Int} {L' : List Loc} (hu : P.underlying mt = some (.map kt et)) (hk : P.underlying kt = some (.int .i64)) (hx : ρ.ev x = some (.map (some mb))) (hy : ρ.ev y = some (.int .i64 t)) (hz : ρ.ev z = some (ptrV b))
    (hno : ∀ p ∈ kvs, p.1 ≠ t) (hL : LSet L mb (mObj kvs) (mObj (kvs ++ [(t, b)])) L') :
    NO P ⟨none, .mapUpdate mt x y z, ty, pos, af, g⟩ n D ρ (Cls A L) (fun _ : Unit => True) (fun _ => ρ) (fun _ => Cls A L') :=
  NO.of0 rfl fun a ha w hw => by
    obtain ⟨r, h1, h2⟩ := findNow_m t kvs 0 0
    have hb : w.heap[mb]? = some (.map ((kvs.zipIdx.map mEnt).toArray) kvs.length) := hw.loc _ hL.mem
    have hc := fun e => run_checkKey (P := P) (w := w) hk (k := .int .i64 t) (by simp [IsKey]) e 9999
    rcases h2 with ⟨rfl, h3⟩ | ⟨j, p, l1, l2, _, h3, h4⟩
    · have hf := run_findKey (w := w) hk h1
      obtain ⟨e1, e2⟩ := Go.MapKept.heap_set (o' := mObj (kvs ++ [(t, b)])) hb
      refine ⟨(), { w with heap := w.heap.setIfInBounds mb (mObj (kvs ++ [(t, b)])) }, trivial, ?_, hw.set hL rfl rfl rfl (by simp) e1 (fun i _ hne => e2 i hne)⟩
      simp only [execOp, ha.ev hx, ha.ev hy, ha.ev hz]
      refine run_unit ?_
      simp only [Instr.mapUpdate, Sem.run_bind, run_underlying hu, Result.andThen_ok, Go.MapKept.run_getObj_map hb]
      have e3 : Obj.map (kvs.zipIdx.map mEnt ++ [(⟨.int .i64 t, ptrV b, kvs.length⟩ : MapEntry)]).toArray (kvs.length + 1) = mObj (kvs ++ [(t, b)]) := by
        simp [mObj, List.zipIdx_append, mEnt]
      simp [hc, hf, Go.MapKept.run_setObj_map _ hb]
      rw [e3]
    · exact absurd h4 (hno p (by rw [h3]; simp))
/-- a quiet operation where it alone is ready -/
theorem NO.ofY {C : World → Prop} {op : Op} {d : Nat} {v : Value} (hg : GS C) (h : YO P ⟨some d, op, ty, pos, af, none⟩ n D ρ C v) (hd : Nat.blt d n = true) :
    NO P ⟨some d, op, ty, pos, af, none⟩ n D ρ C (fun _ : Unit => True) (fun _ => (d, v) :: ρ) (fun _ => C) := fun a w ha hw K Q hK =>
  Oper.wp_of_quietG (h a ha w hw) fun w' hg' => hK () trivial _ _ (ha.put d v hd) (hg _ _ hw hg')
end
end Go.Px
