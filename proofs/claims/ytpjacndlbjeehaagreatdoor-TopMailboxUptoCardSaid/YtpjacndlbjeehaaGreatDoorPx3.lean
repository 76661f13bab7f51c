/-
  Px, part 3: judgements over regions and code; operations that make or turn memory; loops; returns; the entry.
-/
import Derived.Test.YtpjacndlbjeehaaGreatDoorPx2
import Derived.LoopN
namespace Go.Px
open Go Go.RowKit
set_option linter.unusedVariables false
set_option linter.unusedSimpArgs false

/-! ### 1. Judgements -/
def LJ (P : Program) (ops : Array Oper) (Q : Exit → Act → World → Prop) (rest : List Oper) (n : Nat) (D : List Deferred) (ρ : Env) (C : World → Prop) : Prop :=
  ∀ a w, AgT n D ρ a → C w → wpList P ops Q rest a w
def AJ (P : Program) (ops : Array Oper) (Q : Exit → Act → World → Prop) (ds : Nat → Bool) (S0 : World → Prop) (fuel : Nat) (listed : Array Bool) (n : Nat) (D : List Deferred) (ρ : Env) (C : World → Prop) : Prop :=
  (∀ w, C w → S0 w) → ∀ a, AgT n D ρ a → wpC P .any ops Q ds S0 fuel C listed a
def CJ (P : Program) (c : Code) (Q : Exit → Act → World → Prop) (n : Nat) (D : List Deferred) (ρ : Env) (C : World → Prop) : Prop :=
  ∀ a w, AgT n D ρ a → C w → c.wp P Q a w
def EJ (Q : Exit → Act → World → Prop) (e : Exit) (n : Nat) (D : List Deferred) (ρ : Env) (C : World → Prop) : Prop :=
  ∀ a w, AgT n D ρ a → C w → Q e a w
/-- an operation that makes or turns memory: behind it, for some x of which H holds, the environment ρ' x and the class C' x -/
def NO (P : Program) (o : Oper) (n : Nat) (D : List Deferred) (ρ : Env) (C : World → Prop) {α : Type} (H : α → Prop) (ρ' : α → Env) (C' : α → World → Prop) : Prop :=
  ∀ a w, AgT n D ρ a → C w → ∀ (K : Act → World → Prop) (Q : Exit → Act → World → Prop), (∀ x, H x → ∀ a' w', AgT n D (ρ' x) a' → C' x w' → K a' w') → o.wp P a w K Q
section
variable {P : Program} {ops : Array Oper} {Q : Exit → Act → World → Prop} {rest : List Oper} {n : Nat} {D : List Deferred} {ρ ρ' : Env} {C C' : World → Prop} {op : Op} {ty : TypeId} {pos : String} {af : Array Edge} {ds : Nat → Bool} {S0 : World → Prop} {fuel : Nat} {listed : Array Bool}
theorem CJ.weak {c : Code} (hρ : Picks ρ ρ') (hC : ∀ w, C w → C' w) (h : CJ P c Q n D ρ' C') : CJ P c Q n D ρ C := fun a w ha hw => h a w (ha.of_all hρ.sub) (hC w hw)
theorem LJ.weak (hρ : Picks ρ ρ') (hC : ∀ w, C w → C' w) (h : LJ P ops Q rest n D ρ' C') : LJ P ops Q rest n D ρ C := fun a w ha hw => h a w (ha.of_all hρ.sub) (hC w hw)
theorem EJ.weak {e : Exit} (hρ : Picks ρ ρ') (hC : ∀ w, C w → C' w) (h : EJ Q e n D ρ' C') : EJ Q e n D ρ C := fun a w ha hw => h a w (ha.of_all hρ.sub) (hC w hw)

/-! ### 2. A region in the order of its text -/
theorem l_nil (h : EJ Q .normal n D ρ C) : LJ P ops Q [] n D ρ C := fun a w ha hw => h a w ha hw
theorem l_y {d : Nat} {v : Value} (hg : GS C) (h : YO P ⟨some d, op, ty, pos, af, none⟩ n D ρ C v) (hd : Nat.blt d n = true) (next : LJ P ops Q rest n D ((d, v) :: ρ) C) :
    LJ P ops Q (⟨some d, op, ty, pos, af, none⟩ :: rest) n D ρ C := fun a w ha hw => by
  unfold wpList
  rw [if_pos (by simp [Region.wanted])]
  exact .inl (Oper.wp_of_quietG (h a ha w hw) fun w' hg' => next _ _ (ha.put d v hd) (hg _ _ hw hg'))
theorem l_y0 {v : Value} (hg : GS C) (h : YO P ⟨none, op, ty, pos, af, none⟩ n D ρ C v) (next : LJ P ops Q rest n D ρ C) :
    LJ P ops Q (⟨none, op, ty, pos, af, none⟩ :: rest) n D ρ C := fun a w ha hw => by
  unfold wpList
  rw [if_pos (by simp [Region.wanted])]
  exact .inl (Oper.wp_of_quietG (h a ha w hw) fun w' hg' => next _ _ ha (hg _ _ hw hg'))
theorem wanted_of {a : Act} {j s : Nat} {want t c : Bool} (ha : AgT n D ρ a) (hj : (ops[j]?).bind (·.dst) = some s) (hs : ρ.get? s = some (.bool t)) (hc : (t == want) = c) {d : Option Tmp} :
    Region.wanted ⟨d, op, ty, pos, af, some (j, want)⟩ (yielded ops a.tmps) = c := by
  have h1 := ha.env s _ hs
  simp only [Region.wanted, yielded, hj, Option.bind_some, h1]
  rw [← hc]
  simp
/-- an operation under a guard -/
theorem l_g {d j s : Nat} {want t c : Bool} {v : Value} (hg : GS C) (hj : (ops[j]?).bind (·.dst) = some s) (hs : ρ.get? s = some (.bool t)) (hc : (t == want) = c)
    (h : c = true → YO P ⟨some d, op, ty, pos, af, some (j, want)⟩ n D ρ C v) (hd : Nat.blt d n = true) (next : LJ P ops Q rest n D ((d, gv c v) :: ρ) C) :
    LJ P ops Q (⟨some d, op, ty, pos, af, some (j, want)⟩ :: rest) n D ρ C := fun a w ha hw => by
  unfold wpList
  rw [wanted_of ha hj hs hc]
  cases hcc : c with
  | true =>
    rw [if_pos rfl]
    refine .inl (Oper.wp_of_quietG (h hcc a ha w hw) fun w' hg' => ?_)
    have := next _ _ (ha.put d (gv c v) hd) (hg _ _ hw hg')
    rw [hcc] at this
    exact this
  | false =>
    rw [if_neg (by simp)]
    have := next _ _ (ha.put d (gv c v) hd) hw
    rw [hcc] at this
    exact this
theorem wanted_of2 {a : Act} {j s : Nat} {want t c1 c2 : Bool} (ha : AgT n D ρ a) (hj : (ops[j]?).bind (·.dst) = some s) (hs : ρ.get? s = some (gv c1 (.bool t))) (hc : (t == want) = c2) {d : Option Tmp} :
    Region.wanted ⟨d, op, ty, pos, af, some (j, want)⟩ (yielded ops a.tmps) = (c1 && c2) := by
  have h1 := ha.env s _ hs
  cases c1 with
  | true =>
    have h1 : a.tmps[s]? = some (.bool t) := h1
    simp only [Region.wanted, yielded, hj, Option.bind_some, h1]
    rw [← hc]
    simp
  | false =>
    have h1 : a.tmps[s]? = some undef := h1
    simp only [Region.wanted, yielded, hj, Option.bind_some, h1]
    simp [undef]
theorem l_gg {d j s : Nat} {want t c1 c2 : Bool} {v : Value} (hg : GS C) (hj : (ops[j]?).bind (·.dst) = some s) (hs : ρ.get? s = some (gv c1 (.bool t))) (hc : (t == want) = c2)
    (h : (c1 && c2) = true → YO P ⟨some d, op, ty, pos, af, some (j, want)⟩ n D ρ C v) (hd : Nat.blt d n = true) (next : LJ P ops Q rest n D ((d, gv (c1 && c2) v) :: ρ) C) :
    LJ P ops Q (⟨some d, op, ty, pos, af, some (j, want)⟩ :: rest) n D ρ C := fun a w ha hw => by
  unfold wpList
  rw [wanted_of2 ha hj hs hc]
  cases hcc : (c1 && c2) with
  | true =>
    rw [if_pos rfl]
    refine .inl (Oper.wp_of_quietG (h hcc a ha w hw) fun w' hg' => ?_)
    have := next _ _ (ha.put d (gv (c1 && c2) v) hd) (hg _ _ hw hg')
    rw [hcc] at this
    exact this
  | false =>
    rw [if_neg (by simp)]
    have := next _ _ (ha.put d (gv (c1 && c2) v) hd) hw
    rw [hcc] at this
    exact this
theorem l_n {o : Oper} {α : Type} {H : α → Prop} {ρ' : α → Env} {C' : α → World → Prop} (hgd : o.guard = none) (hN : NO P o n D ρ C H ρ' C') (next : ∀ x, H x → LJ P ops Q rest n D (ρ' x) (C' x)) :
    LJ P ops Q (o :: rest) n D ρ C := fun a w ha hw => by
  unfold wpList
  rw [if_pos (by simp [Region.wanted, hgd])]
  exact .inl (hN a w ha hw _ _ fun x hx a' w' ha' hw' => next x hx a' w' ha' hw')

/-! ### 3. A region whose order is drawn -/
theorem a_done (hr : Region.ready .any ops listed = []) (h : EJ Q .normal n D ρ C) : AJ P ops Q ds S0 fuel listed n D ρ C := fun h0 a ha => by
  cases fuel with
  | zero => exact ⟨hr, fun w hw => h a w ha hw⟩
  | succ f => exact ⟨fun _ w hw => h a w ha hw, by rw [hr]; simp⟩
theorem a_y [PanicOK Q] {i d : Nat} {v : Value} (hg : GS C) (hsel : Region.noSelect ops = true) (hi : ops[i]? = some ⟨some d, op, ty, pos, af, none⟩) (hf : freeC .any ops ds listed i = true) (hr : (Region.ready .any ops listed).contains i = true)
    (h : YO P ⟨some d, op, ty, pos, af, none⟩ n D ρ C v) (hd : Nat.blt d n = true) (next : AJ P ops Q ds S0 fuel (listed.setIfInBounds i true) n D ((d, v) :: ρ) C) :
    AJ P ops Q ds S0 (fuel + 1) listed n D ρ C := fun h0 a ha =>
  wpC_first hi hsel fuel C listed a (freeC_spec hi hf) (by simpa using hr) (.inl ⟨by simp [Region.wanted], h a ha⟩) hg h0 (next h0 _ (ha.put d v hd))
theorem a_g [PanicOK Q] {i d j s : Nat} {want t c : Bool} {v : Value} (hg : GS C) (hsel : Region.noSelect ops = true) (hi : ops[i]? = some ⟨some d, op, ty, pos, af, some (j, want)⟩) (hf : freeC .any ops ds listed i = true) (hr : (Region.ready .any ops listed).contains i = true)
    (hj : (ops[j]?).bind (·.dst) = some s) (hs : ρ.get? s = some (.bool t)) (hc : (t == want) = c)
    (h : c = true → YO P ⟨some d, op, ty, pos, af, some (j, want)⟩ n D ρ C v) (hd : Nat.blt d n = true) (next : AJ P ops Q ds S0 fuel (listed.setIfInBounds i true) n D ((d, gv c v) :: ρ) C) :
    AJ P ops Q ds S0 (fuel + 1) listed n D ρ C := fun h0 a ha => by
  refine wpC_first (v := gv c v) hi hsel fuel C listed a (freeC_spec hi hf) (by simpa using hr) ?_ hg h0 (next h0 _ (ha.put d _ hd))
  have hw := wanted_of (op := op) (ty := ty) (pos := pos) (af := af) (d := some d) ha hj hs hc
  cases hcc : c with
  | true => exact .inl ⟨by rw [hw, hcc], fun w hw' => h hcc a ha w hw'⟩
  | false => exact .inr ⟨by rw [hw, hcc], rfl⟩
theorem a_gg [PanicOK Q] {i d j s : Nat} {want t c1 c2 : Bool} {v : Value} (hg : GS C) (hsel : Region.noSelect ops = true) (hi : ops[i]? = some ⟨some d, op, ty, pos, af, some (j, want)⟩) (hf : freeC .any ops ds listed i = true) (hr : (Region.ready .any ops listed).contains i = true)
    (hj : (ops[j]?).bind (·.dst) = some s) (hs : ρ.get? s = some (gv c1 (.bool t))) (hc : (t == want) = c2)
    (h : (c1 && c2) = true → YO P ⟨some d, op, ty, pos, af, some (j, want)⟩ n D ρ C v) (hd : Nat.blt d n = true) (next : AJ P ops Q ds S0 fuel (listed.setIfInBounds i true) n D ((d, gv (c1 && c2) v) :: ρ) C) :
    AJ P ops Q ds S0 (fuel + 1) listed n D ρ C := fun h0 a ha => by
  refine wpC_first (v := gv (c1 && c2) v) hi hsel fuel C listed a (freeC_spec hi hf) (by simpa using hr) ?_ hg h0 (next h0 _ (ha.put d _ hd))
  have hw := wanted_of2 (op := op) (ty := ty) (pos := pos) (af := af) (d := some d) ha hj hs hc
  cases hcc : (c1 && c2) with
  | true => exact .inl ⟨by rw [hw, hcc], fun w hw' => h hcc a ha w hw'⟩
  | false => exact .inr ⟨by rw [hw, hcc], rfl⟩
/-- an operation that looks at no memory may come first even ahead of those that turn memory -/
def freeM (md : Region.Mode) (ops : Array Oper) (listed : Array Bool) (i : Nat) : Bool := freeC md ops (fun _ => false) listed i
theorem wpC_firstM {md : Region.Mode} [hQ : PanicOK Q] {i : Nat} {oi : Oper} {v : Value} (hi : ops[i]? = some oi) (hsel : Region.noSelect ops = true) :
    ∀ (fuel : Nat) (S : World → Prop) (listed : Array Bool) (a : Act),
      (∀ j oj, ops[j]? = some oj → j ≠ i → listed.getD j true = false → (∀ e ∈ oj.after, Region.binds md e = true → e.on ≠ i) → oi.apart ops oj = true) →
      i ∈ Region.ready md ops listed → QI P ops S0 oi v a → GS S → (∀ w, S w → S0 w) →
      wpC P md ops Q ds S0 fuel S (listed.setIfInBounds i true) (a.put oi.dst v) → wpC P md ops Q ds S0 (fuel + 1) S listed a := by
  intro fuel
  induction fuel with
  | zero =>
    intro S listed a _ hr hy hS h0 H
    refine ⟨fun h => (by rw [h] at hr; cases hr), fun j hj w hw => ?_⟩
    by_cases hji : j = i
    · subst hji
      exact hy.wpOp hi (h0 w hw) fun w' hg => ⟨S, hS _ _ hw hg, hS, h0, .inr fun _ h => h, H⟩
    · have := ready_mono hj hji
      rw [H.1] at this
      cases this
  | succ fuel ih =>
    intro S listed a hfree hr hy hS h0 H
    refine ⟨fun h => (by rw [h] at hr; cases hr), fun j hj w hw => ?_⟩
    by_cases hji : j = i
    · subst hji
      exact hy.wpOp hi (h0 w hw) fun w' hg => ⟨S, hS _ _ hw hg, hS, h0, .inr fun _ h => h, H⟩
    · have h1 := H.2 j (ready_mono hj hji) w hw
      obtain ⟨hjun, oj, hoj, hall⟩ := mem_ready.1 hj
      have hnot : ∀ e ∈ oj.after, Region.binds md e = true → e.on ≠ i := fun e he hb heq => by
        have h1 := hall e he hb
        have hr0 := (mem_ready.1 hr).1
        rw [heq] at h1
        rcases Nat.lt_or_ge i listed.size with h' | h'
        · simp [h'] at hr0 h1; rw [hr0] at h1; cases h1
        · simp [Array.getElem?_eq_none h'] at h1
      have hap := hfree j oj hoj hji hjun hnot
      have h2 := wpOp_away (S := S0) hoj hap (fun cs b => Region.noSelect_spec hsel i oi cs b hi) (fun cs b => Region.noSelect_spec hsel j oj cs b hoj) hy h1
      have hfree' : ∀ k ok, ops[k]? = some ok → k ≠ i → (listed.setIfInBounds j true).getD k true = false →
          (∀ e ∈ ok.after, Region.binds md e = true → e.on ≠ i) → oi.apart ops ok = true := fun k ok hk hki hun hno => by
        refine hfree k ok hk hki ?_ hno
        by_cases hjk : j = k
        · subst hjk; exact hjun
        · rw [getD_set_ne true hjk] at hun; exact hun
      refine wpOp_mono (fun a' w' ⟨hy', S', hS', hG', hs0, hsub, h'⟩ => ?_) h2
      refine ⟨S', hS', hG', hs0, hsub, ih S' (listed.setIfInBounds j true) a' hfree' (ready_mono hr (Ne.symm hji)) hy' hG' hs0 ?_⟩
      rw [Array.setIfInBounds_comm _ _ hji]
      exact h'
theorem freeM_spec {i : Nat} {oi : Oper} (hi : ops[i]? = some oi) (h : freeM .any ops listed i = true) (j : Nat) (oj : Oper)
    (hj : ops[j]? = some oj) (hne : j ≠ i) (hun : listed.getD j true = false) (hno : ∀ e ∈ oj.after, Region.binds .any e = true → e.on ≠ i) : oi.apart ops oj = true :=
  (freeC_spec hi h j oj hj hne hun hno).1
theorem a_yM [PanicOK Q] {i d : Nat} {v : Value} (hg : GS C) (hsel : Region.noSelect ops = true) (hi : ops[i]? = some ⟨some d, op, ty, pos, af, none⟩) (hf : freeM .any ops listed i = true) (hr : (Region.ready .any ops listed).contains i = true)
    (h : YO P ⟨some d, op, ty, pos, af, none⟩ n D ρ S0 v) (hd : Nat.blt d n = true) (next : AJ P ops Q ds S0 fuel (listed.setIfInBounds i true) n D ((d, v) :: ρ) C) :
    AJ P ops Q ds S0 (fuel + 1) listed n D ρ C := fun h0 a ha =>
  wpC_firstM hi hsel fuel C listed a (freeM_spec hi hf) (by simpa using hr) (.inl ⟨by simp [Region.wanted], h a ha⟩) hg h0 (next h0 _ (ha.put d v hd))
theorem a_gM [PanicOK Q] {i d j s : Nat} {want t c : Bool} {v : Value} (hg : GS C) (hsel : Region.noSelect ops = true) (hi : ops[i]? = some ⟨some d, op, ty, pos, af, some (j, want)⟩) (hf : freeM .any ops listed i = true) (hr : (Region.ready .any ops listed).contains i = true)
    (hj : (ops[j]?).bind (·.dst) = some s) (hs : ρ.get? s = some (.bool t)) (hc : (t == want) = c)
    (h : c = true → YO P ⟨some d, op, ty, pos, af, some (j, want)⟩ n D ρ S0 v) (hd : Nat.blt d n = true) (next : AJ P ops Q ds S0 fuel (listed.setIfInBounds i true) n D ((d, gv c v) :: ρ) C) :
    AJ P ops Q ds S0 (fuel + 1) listed n D ρ C := fun h0 a ha => by
  refine wpC_firstM (v := gv c v) hi hsel fuel C listed a (freeM_spec hi hf) (by simpa using hr) ?_ hg h0 (next h0 _ (ha.put d _ hd))
  have hw := wanted_of (op := op) (ty := ty) (pos := pos) (af := af) (d := some d) ha hj hs hc
  cases hcc : c with
  | true => exact .inl ⟨by rw [hw, hcc], fun w hw' => h hcc a ha w hw'⟩
  | false => exact .inr ⟨by rw [hw, hcc], rfl⟩
theorem a_n {i : Nat} {o : Oper} {α : Type} {H : α → Prop} {ρ' : α → Env} {C' : α → World → Prop} (hi : ops[i]? = some o) (hgd : o.guard = none) (hr : Region.ready .any ops listed = [i]) (hG : ∀ x, GS (C' x)) (hsub : (ds i = true ∧ ∀ x w, C' x w → S0 w) ∨ ∀ x w, C' x w → C w)
    (hN : NO P o n D ρ C H ρ' C') (next : ∀ x, H x → AJ P ops Q ds S0 fuel (listed.setIfInBounds i true) n D (ρ' x) (C' x)) : AJ P ops Q ds S0 (fuel + 1) listed n D ρ C := fun h0 a ha => by
  refine ⟨fun h => (by rw [hr] at h; cases h), fun j hj w hw => ?_⟩
  rw [hr] at hj
  obtain rfl : j = i := by simpa using hj
  unfold wpOp
  simp only [hi]
  rw [if_pos (by simp [Region.wanted, hgd])]
  exact .inl (hN a w ha hw _ _ fun x hx a' w' ha' hw' => ⟨C' x, hw', hG x, (hsub.elim (fun h => h.2 x) (fun h w hw => h0 w (h x w hw))), hsub.imp (fun h => h.1) (fun h => h x), next x hx (hsub.elim (fun h => h.2 x) (fun h w hw => h0 w (h x w hw))) a' ha'⟩)

/-! ### 4. Code -/
theorem c_text {id : Nat} {l : List Oper} (h : LJ P l.toArray Q l n D ρ C) : CJ P (.region id l.toArray false) Q n D ρ C := fun a w ha hw => wp_region_lit (h a w ha hw)
theorem c_draw {id m : Nat} (ds : Nat → Bool) (hS0 : ∀ w, C w → S0 w) (hm : P.follows .mixedOrders = true) (hg : GS C) (hs : ops.size = m) (h : AJ P ops Q ds S0 m (Array.replicate m false) n D ρ C) : CJ P (.region id ops true) Q n D ρ C := fun a w ha hw => by
  subst hs
  exact wp_region_any hm (wpAny_of_wpC _ _ _ _ _ (h hS0 a ha) (hg _ _ hw (Gr.drawn w)))
theorem c_skip (h : EJ Q .normal n D ρ C) : CJ P .skip Q n D ρ C := fun a w ha hw => wp_skip (h a w ha hw)
theorem c_ret (h : EJ Q .ret n D ρ C) : CJ P .ret Q n D ρ C := fun a w ha hw => wp_ret (h a w ha hw)
theorem c_exit {id : Nat} (h : EJ Q (.exit id) n D ρ C) : CJ P (.exit id) Q n D ρ C := fun a w ha hw => wp_exit (h a w ha hw)
theorem c_label {id : Nat} (h : EJ Q .normal n D ρ C) : CJ P (.label id) Q n D ρ C := fun a w ha hw => wp_label (h a w ha hw)
theorem c_seq {x y : Code} (h : CJ P x (Exit.then (y.wp P Q) Q) n D ρ C) : CJ P (.seq x y) Q n D ρ C := fun a w ha hw => wp_seq (h a w ha hw)
theorem c_block {id : Nat} {c : Code} (h : CJ P c (Exit.inBlock id Q) n D ρ C) : CJ P (.block id c) Q n D ρ C := fun a w ha hw => wp_block (h a w ha hw)
theorem c_cond {x : Operand} {c d : Code} {t : Bool} (hx : ρ.ev x = some (.bool t)) (ht : t = true → CJ P c Q n D ρ C) (hf : t = false → CJ P d Q n D ρ C) : CJ P (.cond x c d) Q n D ρ C := fun a w ha hw =>
  wp_cond_split (ha.ev hx) (fun h => ht h a w ha hw) (fun h => hf h a w ha hw)
theorem c_true {x : Operand} {c d : Code} (hx : ρ.ev x = some (.bool true)) (h : CJ P c Q n D ρ C) : CJ P (.cond x c d) Q n D ρ C := c_cond hx (fun _ => h) (fun h => by cases h)
theorem c_false {x : Operand} {c d : Code} (hx : ρ.ev x = some (.bool false)) (h : CJ P d Q n D ρ C) : CJ P (.cond x c d) Q n D ρ C := c_cond hx (fun h => by cases h) (fun _ => h)
theorem e_then {y : Code} (h : CJ P y Q n D ρ C) : EJ (Exit.then (y.wp P Q) Q) .normal n D ρ C := h
theorem e_then_ret {K : Act → World → Prop} (h : EJ Q .ret n D ρ C) : EJ (Exit.then K Q) .ret n D ρ C := h
theorem e_then_exit {K : Act → World → Prop} {id : Nat} (h : EJ Q (.exit id) n D ρ C) : EJ (Exit.then K Q) (.exit id) n D ρ C := h
theorem e_block {id : Nat} (h : EJ Q .normal n D ρ C) : EJ (Exit.inBlock id Q) .normal n D ρ C := h
theorem e_block_ret {id : Nat} (h : EJ Q .ret n D ρ C) : EJ (Exit.inBlock id Q) .ret n D ρ C := h
theorem e_block_hit {id : Nat} (h : EJ Q .normal n D ρ C) : EJ (Exit.inBlock id Q) (.exit id) n D ρ C := fun a w ha hw => by
  show if id = id then _ else _
  rw [if_pos rfl]; exact h a w ha hw
theorem e_block_miss {id id' : Nat} (hne : Nat.beq id' id = false) (h : EJ Q (.exit id') n D ρ C) : EJ (Exit.inBlock id Q) (.exit id') n D ρ C := fun a w ha hw => by
  show if id' = id then _ else _
  rw [if_neg (Nat.ne_of_beq_eq_false hne)]; exact h a w ha hw
/-- a sequence, cut: behind the first part a state told for some x -/
def mid (n : Nat) (D : List Deferred) {β : Type} (H : β → Prop) (ρ' : β → Env) (C' : β → World → Prop) : Act → World → Prop := fun a w => ∃ x, H x ∧ AgT n D (ρ' x) a ∧ C' x w
theorem c_cut {x y : Code} {β : Type} (H : β → Prop) (ρ' : β → Env) (C' : β → World → Prop) (h : CJ P x (Exit.then (mid n D H ρ' C') Q) n D ρ C) (k : ∀ b, H b → CJ P y Q n D (ρ' b) (C' b)) : CJ P (.seq x y) Q n D ρ C := fun a w ha hw =>
  wp_seq (wp_mono (h a w ha hw) fun e a' w' hq => by
    cases e with
    | normal => obtain ⟨b, hb, ha', hw'⟩ := hq; exact k b hb a' w' ha' hw'
    | exit id => exact hq
    | goto l => exact hq
    | ret => exact hq
    | panic c => exact hq
    | outgrown => exact hq)
theorem e_mid {β : Type} {H : β → Prop} {ρ' : β → Env} {C' : β → World → Prop} (x : β) (hx : H x) (hρ : Picks ρ (ρ' x)) (hC : ∀ w, C w → C' x w) : EJ (Exit.then (mid n D H ρ' C') Q) .normal n D ρ C := fun a w ha hw =>
  ⟨x, hx, ha.of_all hρ.sub, hC w hw⟩
/-- a loop: at each round's head, for some x, the environment ρL x and the class CL x -/
def again (n : Nat) (D : List Deferred) {α : Type} (I : α → Prop) (ρL : α → Env) (CL : α → World → Prop) (μ : α → Nat) (m : Nat) : Act → World → Prop := fun a w => ∃ x, I x ∧ μ x < m ∧ AgT n D (ρL x) a ∧ CL x w
theorem least_of {J : Nat → Prop} (h : ∃ m, J m) : ∃ m, J m ∧ ∀ k, J k → m ≤ k := by
  obtain ⟨m, hm⟩ := h
  induction m using Nat.strongRecOn with
  | _ m ih =>
    by_cases hk : ∃ k, k < m ∧ J k
    · obtain ⟨k, hlt, hJ⟩ := hk; exact ih k hlt hJ
    · exact ⟨m, hm, fun k hJ => Nat.le_of_not_lt fun hlt => hk ⟨k, hlt, hJ⟩⟩
open Classical in
theorem c_loop {c : Code} {α : Type} (I : α → Prop) (ρL : α → Env) (CL : α → World → Prop) (μ : α → Nat) (x0 : α) (h0 : I x0) (hρ : Picks ρ (ρL x0)) (hC : ∀ w, C w → CL x0 w)
    (round : ∀ x, I x → CJ P c (Exit.then (again n D I ρL CL μ (μ x)) Q) n D (ρL x) (CL x)) : CJ P (.loop c) Q n D ρ C := fun a w ha hw => by
  let J : Act → World → Nat → Prop := fun a w m => ∃ x, I x ∧ μ x = m ∧ AgT n D (ρL x) a ∧ CL x w
  let M : Act → World → Nat := fun a w => if h : ∃ m, J a w m then Classical.choose (least_of h) else 0
  refine wp_loop (fun a w => ∃ m, J a w m) M ⟨_, x0, h0, rfl, ha.of_all hρ.sub, hC w hw⟩ ?_
  intro a w hJ
  have hM : M a w = Classical.choose (least_of hJ) := dif_pos hJ
  obtain ⟨x, hx, hm, ha', hw'⟩ := (Classical.choose_spec (least_of hJ)).1
  refine wp_mono (round x hx a w ha' hw') fun e a2 w2 hq => ?_
  cases e with
  | normal =>
    obtain ⟨y, hy, hlt, ha2, hw2⟩ := hq
    have hJ2 : ∃ m, J a2 w2 m := ⟨_, y, hy, rfl, ha2, hw2⟩
    have hM2 : M a2 w2 = Classical.choose (least_of hJ2) := dif_pos hJ2
    refine ⟨hJ2, ?_⟩
    rw [hM, hM2]
    have h1 := (Classical.choose_spec (least_of hJ2)).2 (μ y) ⟨y, hy, rfl, ha2, hw2⟩
    omega
  | exit id => exact hq
  | goto l => exact hq
  | ret => exact hq
  | panic c => exact hq
  | outgrown => exact hq
theorem e_again {α : Type} {I : α → Prop} {ρL : α → Env} {CL : α → World → Prop} {μ : α → Nat} {m : Nat} (x : α) (hx : I x) (hm : μ x < m) (hρ : Picks ρ (ρL x)) (hC : ∀ w, C w → CL x w) : EJ (Exit.then (again n D I ρL CL μ m) Q) .normal n D ρ C := fun a w ha hw =>
  ⟨x, hx, hm, ha.of_all hρ.sub, hC w hw⟩

/-- a loop, round by round -/
def RJ (P : Program) (c : Code) (Q : Exit → Act → World → Prop) (m : Nat) (n : Nat) (D : List Deferred) (ρ : Env) (C : World → Prop) : Prop :=
  ∀ a w, AgT n D ρ a → C w → Code.rounds P c Q m a w
theorem c_rounds {c : Code} (m : Nat) (h : RJ P c Q m n D ρ C) : CJ P (.loop c) Q n D ρ C := fun a w ha hw => wp_loop_rounds m (h a w ha hw)
theorem r_succ {c : Code} {m : Nat} (h : CJ P c (Exit.then (Code.rounds P c Q m) Q) n D ρ C) : RJ P c Q (m + 1) n D ρ C := h
theorem e_rounds {c : Code} {m : Nat} (h : RJ P c Q m n D ρ C) : EJ (Exit.then (Code.rounds P c Q m) Q) .normal n D ρ C := h
theorem RJ.weak {c : Code} {m : Nat} (hρ : Picks ρ ρ') (hC : ∀ w, C w → C' w) (h : RJ P c Q m n D ρ' C') : RJ P c Q m n D ρ C := fun a w ha hw => h a w (ha.of_all hρ.sub) (hC w hw)

/-! ### 5. The entry and the return -/
def argEnv : List Value → Nat → Env
  | [], _ => []
  | v :: r, i => (i, v) :: argEnv r (i + 1)
theorem argEnv_get : ∀ (l : List Value) (i t : Nat) (v : Value), (argEnv l i).get? t = some v → i ≤ t ∧ l[t - i]? = some v
  | [], _, _, _, h => by simp [argEnv, Env.get?] at h
  | u :: r, i, t, v, h => by
    simp only [argEnv, Env.get?] at h
    cases hb : Nat.beq i t with
    | true =>
      rw [hb] at h
      have : i = t := Nat.eq_of_beq_eq_true hb
      subst this
      simpa using h
    | false =>
      rw [hb] at h
      have hne : i ≠ t := Nat.ne_of_beq_eq_false hb
      obtain ⟨h1, h2⟩ := argEnv_get r (i + 1) t v (by simpa using h)
      refine ⟨by omega, ?_⟩
      obtain ⟨k, hk⟩ : ∃ k, t - i = k + 1 := ⟨t - i - 1, by omega⟩
      rw [hk]
      simp only [List.getElem?_cons_succ]
      rw [← h2]; congr 1; omega
theorem enter {f : FuncId} {fn : Func} {c : Code} {vs : List Value} {w : World} {R : Ending → World → Prop} (hf : P.funcs[f]? = some fn) (hb : fn.body = some c) (hn : fn.ntmps = n) (hl : Nat.ble vs.length n = true)
    (hρ : argEnv vs 0 = ρ) (hw : C w) (h : CJ P c (bodyPost P fn R) n [] ρ C) : Calls P f vs.toArray w R := by
  subst hn hρ
  have hl : vs.length ≤ fn.ntmps := by simpa using hl
  refine calls_of_wp hf hb (h _ w ⟨by simp; omega, rfl, fun t v ht => ?_⟩ hw)
  obtain ⟨_, h2⟩ := argEnv_get vs 0 t v ht
  simp only [Nat.sub_zero] at h2
  have hlt : t < vs.length := (List.getElem?_eq_some_iff.1 h2).1
  rw [Array.getElem?_append_left (by simpa using hlt)]
  simpa using h2
inductive Res (P : Program) (ρ : Env) (C : World → Prop) : List ResultVar → List Value → Prop
  | n : Res P ρ C [] []
  | t {i v rs vs} : ρ.get? i = some v → Res P ρ C rs vs → Res P ρ C (.tmp i :: rs) (v :: vs)
  | c {i t ad v rs vs} : ρ.get? i = some (.pointer (some ad)) → LoadAt P t C ad v → Res P ρ C rs vs → Res P ρ C (.cell i t :: rs) (v :: vs)
def resF (a : Act) : ResultVar → Sem Value
  | .tmp i => pure (a.tmps.getD i undef)
  | .cell i u => do loadVar u (← asAddr (a.tmps.getD i undef))
theorem Res.run {a : Act} {w : World} (ha : AgT n D ρ a) (hw : C w) {rs : List ResultVar} {vs : List Value} (h : Res P ρ C rs vs) : (rs.mapM (m := Sem) (resF a)).run P w = .ok vs w := by
  induction h with
  | n => rfl
  | @t i v rs vs h1 _ ih =>
    have e1 : (resF a (.tmp i)).run P w = .ok v w := congrArg (fun v => Result.ok v w) (ha.tmp h1)
    rw [List.mapM_cons, Sem.run_bind, e1, Result.andThen_ok, Sem.run_bind, ih, Result.andThen_ok]
    rfl
  | @c i u ad v rs vs h1 h2 _ ih =>
    have e1 : (resF a (.cell i u)).run P w = .ok v w := by
      simp only [resF]
      rw [ha.tmp h1]
      exact h2.run hw
    rw [List.mapM_cons, Sem.run_bind, e1, Result.andThen_ok, Sem.run_bind, ih, Result.andThen_ok]
    rfl
def outOf : List Value → Value
  | [v] => v
  | vs => .tuple vs.toArray
theorem results_run {fn : Func} {a : Act} {w : World} {rs : List ResultVar} {vs : List Value} (hr : fn.results = rs.toArray) (ha : AgT n D ρ a) (hw : C w) (h : Res P ρ C rs vs) : (results fn a.tmps).run P w = .ok (outOf vs) w := by
  have h1 := h.run ha hw
  have e : results fn a.tmps = (do let l ← rs.toArray.mapM (m := Sem) (resF a); pure (if h : l.size = 1 then l[0] else .tuple l)) := by
    unfold results
    rw [hr]
    refine congrArg (fun z : Sem (Array Value) => z >>= fun l => pure (if h : l.size = 1 then l[0] else .tuple l)) (congrArg (fun f => Array.mapM (m := Sem) f rs.toArray) ?_)
    funext r; cases r <;> rfl
  rw [e, List.mapM_toArray, Sem.run_bind]
  have h2 : (List.toArray <$> rs.mapM (m := Sem) (resF a)).run P w = .ok vs.toArray w := by
    have h3 : (rs.mapM (m := Sem) (resF a) >>= fun l => pure l.toArray : Sem (Array Value)).run P w = .ok vs.toArray w := by rw [Sem.run_bind, h1, Result.andThen_ok]; rfl
    rw [← h3]; rfl
  rw [h2, Result.andThen_ok]
  cases vs with
  | nil => rfl
  | cons v r => cases r with
    | nil => rfl
    | cons u r => rfl
theorem e_ret {fn : Func} {rs : List ResultVar} {vs : List Value} {R : Ending → World → Prop} (hr : fn.results = rs.toArray) (h : Res P ρ C rs vs) (hR : ∀ w, C w → R (.returned (outOf vs)) w) : EJ (bodyPost P fn R) .ret n [] ρ C := fun a w ha hw =>
  ⟨ha.dfs, _, results_run hr ha hw h, hR w hw⟩
theorem e_end {fn : Func} {rs : List ResultVar} {vs : List Value} {R : Ending → World → Prop} (hr : fn.results = rs.toArray) (h : Res P ρ C rs vs) (hR : ∀ w, C w → R (.returned (outOf vs)) w) : EJ (bodyPost P fn R) .normal n [] ρ C := fun a w ha hw =>
  ⟨ha.dfs, _, results_run hr ha hw h, hR w hw⟩
end
end Go.Px
