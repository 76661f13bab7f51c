/-
  Px, part 2: classes of worlds (anchors and blocks of one's own), and what single operations yield.
-/
import Derived.Test.YtpjacndlbjeehaaGreatDoorPx1
import Derived.WalkKit
import Derived.WalkLawsBesides
namespace Go.Px
open Go Go.RowKit
set_option linter.unusedVariables false
set_option linter.unusedSimpArgs false

/-! ### 1. Classes of worlds -/
abbrev Loc := Nat × Obj
/-- Of the blocks of W, but for those of X, nothing has turned. -/
structure Keeps (W : World) (X : List Nat) (w : World) : Prop where
  os : w.os = W.os
  tape : w.tape = W.tape
  output : w.output = W.output
  size : W.heap.size ≤ w.heap.size
  block : ∀ i, i < W.heap.size → i ∉ X → w.heap[i]? = W.heap[i]?
theorem Keeps.refl (W : World) (X : List Nat) : Keeps W X W := ⟨rfl, rfl, rfl, Nat.le_refl _, fun _ _ _ => rfl⟩
theorem Keeps.gr {W : World} {X : List Nat} {w w' : World} (h : Keeps W X w) (g : Gr w w') : Keeps W X w' :=
  ⟨g.os.trans h.os, g.tape.trans h.tape, g.output.trans h.output, Nat.le_trans h.size g.size, fun i hi hx => (g.block i (Nat.lt_of_lt_of_le hi h.size)).trans (h.block i hi hx)⟩
theorem Keeps.trans {W : World} {X Y : List Nat} {w w' : World} (h : Keeps W X w) (g : Keeps w Y w') (hY : ∀ i ∈ Y, i ∈ X ∨ W.heap.size ≤ i) : Keeps W X w' :=
  ⟨g.os.trans h.os, g.tape.trans h.tape, g.output.trans h.output, Nat.le_trans h.size g.size, fun i hi hx =>
    (g.block i (Nat.lt_of_lt_of_le hi h.size) (fun hy => by rcases hY i hy with h | h <;> first | exact hx h | omega)).trans (h.block i hi hx)⟩
theorem Keeps.below {W w : World} (h : Keeps W [] w) : Gr W w := ⟨h.os, h.tape, h.output, h.size, fun i hi => h.block i hi (by simp)⟩
theorem Keeps.of_gr {W w : World} (g : Gr W w) (X : List Nat) : Keeps W X w := (Keeps.refl W X).gr g
theorem Keeps.mono {W : World} {X Y : List Nat} {w : World} (h : Keeps W X w) (hs : ∀ i ∈ X, i ∈ Y) : Keeps W Y w :=
  ⟨h.os, h.tape, h.output, h.size, fun i hi hx => h.block i hi (fun h => hx (hs i h))⟩
structure Cls (A : List (World × List Nat)) (L : List Loc) (w : World) : Prop where
  anc : ∀ p ∈ A, Keeps p.1 p.2 w
  loc : ∀ p ∈ L, w.heap[p.1]? = some p.2
  nd : (L.map (·.1)).Nodup
  own : ∀ p ∈ A, ∀ l ∈ L, l.1 ∈ p.2 ∨ p.1.heap.size ≤ l.1
theorem Cls.lt {A : List (World × List Nat)} {L : List Loc} {w : World} (h : Cls A L w) {p : Loc} (hp : p ∈ L) : p.1 < w.heap.size :=
  (Array.getElem?_eq_some_iff.1 (h.loc p hp)).1
theorem Cls.gs (A : List (World × List Nat)) (L : List Loc) : GS (Cls A L) := fun w w' h g =>
  ⟨fun p hp => (h.anc p hp).gr g, fun p hp => (g.block p.1 (h.lt hp)).trans (h.loc p hp), h.nd, h.own⟩
theorem Cls.alloc {A : List (World × List Nat)} {L : List Loc} {w : World} (h : Cls A L w) (o : Obj) : Cls A ((w.heap.size, o) :: L) (w.alloc o) := by
  have h' := Cls.gs A L w _ h (Gr.alloc w o)
  refine ⟨h'.anc, ?_, ?_, ?_⟩
  · intro p hp
    rcases List.mem_cons.1 hp with rfl | hp
    · show (w.heap.push o)[w.heap.size]? = some o
      simp
    · exact h'.loc p hp
  · simp only [List.map_cons, List.nodup_cons]
    refine ⟨?_, h.nd⟩
    intro hm
    obtain ⟨p, hp, he⟩ := List.mem_map.1 hm
    have := h.lt hp
    omega
  · intro p hp l hl
    rcases List.mem_cons.1 hl with rfl | hl
    · exact .inr (h.anc p hp).size
    · exact h.own p hp l hl
/-- start: at a world of which one owns nothing -/
theorem Cls.start (W : World) : Cls [(W, [])] [] W := ⟨fun p hp => by simp at hp; subst hp; exact Keeps.refl W [], by simp, by simp, by simp⟩
/-- What is known of the world at hand is laid as a new anchor. -/
theorem Cls.anchor {A : List (World × List Nat)} {L : List Loc} {w : World} (h : Cls A L w) : Cls ((w, L.map (·.1)) :: A) L w := by
  refine ⟨?_, h.loc, h.nd, ?_⟩
  · intro p hp
    rcases List.mem_cons.1 hp with rfl | hp
    · exact Keeps.refl _ _
    · exact h.anc p hp
  · intro p hp l hl
    rcases List.mem_cons.1 hp with rfl | hp
    · exact .inl (List.mem_map_of_mem hl)
    · exact h.own p hp l hl
/-! relations whose proof terms tell places -/
inductive Mem {α : Type} : List α → α → Prop
  | z {x l} : Mem (x :: l) x
  | s {y x l} : Mem l x → Mem (y :: l) x
theorem Mem.mem {α : Type} {l : List α} {x : α} (h : Mem l x) : x ∈ l := by
  induction h with
  | z => exact List.mem_cons_self
  | s _ ih => exact List.mem_cons_of_mem _ ih
/-- element i of l is v -/
inductive Nth {α : Type} : List α → Nat → α → Prop
  | z {x l} : Nth (x :: l) 0 x
  | s {y l n x} : Nth l n x → Nth (y :: l) (n + 1) x
theorem Nth.get {α : Type} {l : List α} {n : Nat} {x : α} (h : Nth l n x) : l[n]? = some x := by
  induction h with
  | z => rfl
  | s _ ih => simpa using ih
/-- n elements from place m on -/
inductive Ex {α : Type} : List α → Nat → Nat → List α → Prop
  | d {l} : Ex l 0 0 []
  | t {x l n r} : Ex l 0 n r → Ex (x :: l) 0 (n + 1) (x :: r)
  | s {y l m n r} : Ex l m n r → Ex (y :: l) (m + 1) n r
theorem Ex.spec {α : Type} {l : List α} {m n : Nat} {r : List α} (h : Ex l m n r) : (l.drop m).take n = r ∧ r.length = n ∧ m + n ≤ l.length := by
  induction h with
  | d => simp
  | t _ ih => obtain ⟨h1, h2, h3⟩ := ih; simp at h1 h2 h3 ⊢; exact ⟨h1, h2, by omega⟩
  | s _ ih => obtain ⟨h1, h2, h3⟩ := ih; simp at h1 h2 h3 ⊢; exact ⟨h1, h2, by omega⟩
theorem Ex.get {α : Type} {l : List α} {m n : Nat} {r : List α} (h : Ex l m n r) (i : Nat) (hi : i < n) : l[m + i]? = r[i]? := by
  obtain ⟨h1, h2, h3⟩ := h.spec
  rw [← h1, List.getElem?_take, if_pos hi, List.getElem?_drop]
/-- the elements from place m on become r -/
inductive Up {α : Type} : List α → Nat → List α → List α → Prop
  | d {l m} : Up l m [] l
  | t {x y l r l'} : Up l 0 r l' → Up (x :: l) 0 (y :: r) (y :: l')
  | s {y l m r l'} : Up l m r l' → Up (y :: l) (m + 1) r (y :: l')
theorem Up.len {α : Type} {l : List α} {m : Nat} {r l' : List α} (h : Up l m r l') : l'.length = l.length ∧ (r ≠ [] → m + r.length ≤ l.length) := by
  induction h with
  | d => simp
  | @t x y l r l' h ih => obtain ⟨h1, h2⟩ := ih; refine ⟨by simp [h1], fun _ => ?_⟩; cases r with | nil => simp | cons a b => have := h2 (by simp); simp at this ⊢; omega
  | s _ ih => obtain ⟨h1, h2⟩ := ih; refine ⟨by simp [h1], fun hr => ?_⟩; have := h2 hr; simp; omega
theorem Up.get {α : Type} {l : List α} {m : Nat} {r l' : List α} (h : Up l m r l') : ∀ i : Nat, l'[i]? = if m ≤ i ∧ i < m + r.length then r[i - m]? else l[i]? := by
  induction h with
  | d => intro i; simp; intro h1 h2; omega
  | @t x y l r l' h ih =>
    intro i
    cases i with
    | zero => simp
    | succ i =>
      have := ih i
      simp at this ⊢
      rw [this]
  | @s y l m r l' h ih =>
    intro i
    cases i with
    | zero => simp
    | succ i =>
      have := ih i
      simp only [List.getElem?_cons_succ, this]
      by_cases h1 : m ≤ i ∧ i < m + r.length
      · rw [if_pos h1, if_pos (by omega)]; congr 1; omega
      · rw [if_neg h1, if_neg (by omega)]
/-- the block of one's own at this place of the list becomes another -/
inductive LSet : List Loc → Nat → Obj → Obj → List Loc → Prop
  | z {b o o' L} : LSet ((b, o) :: L) b o o' ((b, o') :: L)
  | s {x b o o' L L'} : LSet L b o o' L' → LSet (x :: L) b o o' (x :: L')
theorem LSet.mem {L : List Loc} {b : Nat} {o o' : Obj} {L' : List Loc} (h : LSet L b o o' L') : (b, o) ∈ L := by
  induction h with
  | z => exact List.mem_cons_self
  | s _ ih => exact List.mem_cons_of_mem _ ih
theorem LSet.ids {L : List Loc} {b : Nat} {o o' : Obj} {L' : List Loc} (h : LSet L b o o' L') : L'.map (·.1) = L.map (·.1) := by
  induction h with
  | z => rfl
  | s _ ih => simp [ih]
theorem LSet.of {L : List Loc} {b : Nat} {o o' : Obj} {L' : List Loc} (h : LSet L b o o' L') (hn : (L.map (·.1)).Nodup) : ∀ p ∈ L', p = (b, o') ∨ (p ∈ L ∧ p.1 ≠ b) := by
  induction h with
  | @z b o o' L =>
    intro p hp
    rcases List.mem_cons.1 hp with rfl | hp
    · exact .inl rfl
    · refine .inr ⟨List.mem_cons_of_mem _ hp, fun e => ?_⟩
      simp only [List.map_cons, List.nodup_cons] at hn
      exact hn.1 (e ▸ List.mem_map_of_mem hp)
  | @s x b o o' L L' h ih =>
    intro p hp
    simp only [List.map_cons, List.nodup_cons] at hn
    rcases List.mem_cons.1 hp with rfl | hp
    · exact .inr ⟨List.mem_cons_self, fun e => hn.1 (by rw [e]; exact List.mem_map_of_mem h.mem)⟩
    · rcases ih hn.2 p hp with h | ⟨h1, h2⟩
      · exact .inl h
      · exact .inr ⟨List.mem_cons_of_mem _ h1, h2⟩
/-- One block of one's own is turned, nothing else. -/
theorem Cls.set {A : List (World × List Nat)} {L L' : List Loc} {b : Nat} {o o' : Obj} {w w' : World} (h : Cls A L w) (hL : LSet L b o o' L')
    (h1 : w'.os = w.os) (h2 : w'.tape = w.tape) (h3 : w'.output = w.output) (h4 : w.heap.size ≤ w'.heap.size) (hb : w'.heap[b]? = some o') (hk : ∀ i, i < w.heap.size → i ≠ b → w'.heap[i]? = w.heap[i]?) : Cls A L' w' := by
  have hlt : b < w.heap.size := h.lt hL.mem
  refine ⟨fun p hp => ?_, fun p hp => ?_, by rw [hL.ids]; exact h.nd, fun p hp l hl => ?_⟩
  · have hs : Keeps w [b] w' := ⟨h1, h2, h3, h4, fun i hi hne => hk i hi (by simpa using hne)⟩
    refine (h.anc p hp).trans hs fun i hi => ?_
    obtain rfl : i = b := by simpa using hi
    exact h.own p hp (i, o) hL.mem
  · rcases hL.of h.nd p hp with rfl | ⟨h1, h2⟩
    · exact hb
    · rw [hk _ (h.lt h1) h2]; exact h.loc p h1
  · have hm : l.1 ∈ L.map (·.1) := by rw [← hL.ids]; exact List.mem_map_of_mem hl
    obtain ⟨q, hq, he⟩ := List.mem_map.1 hm
    rw [← he]
    exact h.own p hp q hq

/-! ### 2. Facts on types -/
/-- a type's size in cells; whether it is an aggregate; its zero value -/
structure Ty (P : Program) (t n : Nat) (agg : Bool) (z : Value) : Prop where
  agg : ∀ w, (isAgg t).run P w = .ok agg w
  size : ∀ w, (sizeOf t).run P w = .ok n w
  zero : ∀ w, (zeroValue t).run P w = .ok z w
/-- a value of one cell -/
def sc : Value → Bool
  | .agg _ | .tuple _ => false
  | _ => true
/-- a value's cells -/
inductive Cl : Value → List Value → Prop
  | a {l} : Cl (.agg l.toArray) l
  | o {v} (h : sc v = true) : Cl v [v]
theorem Cl.cells {v : Value} {l : List Value} (h : Cl v l) : v.cells = l.toArray := by
  cases h with
  | a => rfl
  | o h => cases v <;> simp_all [Value.cells, sc]
theorem loadCellsFrom_run {P : Program} {w : World} {a : Addr} {l : List Value} (n : Nat) (h : ∀ i, i < n → ∃ v, l[i]? = some v ∧ w.cell? (a.add i) = some v) :
    ∀ (m i : Nat) (acc : Array Value), i + m = n → acc.toList = l.take i → (loadCellsFrom a i m acc).run P w = .ok (l.take n).toArray w := by
  intro m
  induction m with
  | zero => intro i acc hi ha; obtain rfl : i = n := by omega
            simp only [loadCellsFrom]
            show Result.ok acc w = _
            rw [← ha]
  | succ m ih =>
    intro i acc hi ha
    obtain ⟨v, hv, hc⟩ := h i (by omega)
    have hstep : (loadCellsFrom a i (m + 1) acc).run P w = (loadCellsFrom a (i + 1) m (acc.push v)).run P w := by
      simp only [loadCellsFrom, load, bind, Sem.bind, Sem.run, hc]
    rw [hstep]
    refine ih (i + 1) _ (by omega) ?_
    rw [Array.toList_push, ha, List.take_add_one, hv]
    rfl
theorem loadVar_agg {P : Program} {w : World} {t n : Nat} {z : Value} {a : Addr} {l : List Value} (ht : Ty P t n true z) (hl : l.length = n) (h : ∀ i, i < n → ∃ v, l[i]? = some v ∧ w.cell? (a.add i) = some v) :
    (loadVar t a).run P w = .ok (.agg l.toArray) w := by
  have h1 := loadCellsFrom_run (P := P) n h n 0 #[] (by omega) rfl
  rw [List.take_of_length_le (by omega)] at h1
  simp only [loadVar, Sem.run_bind, ht.agg, Result.andThen_ok, if_true, ht.size, loadCells, h1]
  rfl
theorem loadVar_one {P : Program} {w : World} {t n : Nat} {z : Value} {a : Addr} {v : Value} (ht : Ty P t n false z) (h : w.cell? a = some v) :
    (loadVar t a).run P w = .ok v w := by
  simp only [loadVar, Sem.run_bind, ht.agg, Result.andThen_ok, Bool.false_eq_true, if_false, load, Sem.run, h]
/-- a value of type t lies at address a, its cells being l -/
inductive LoadAt (P : Program) (t : Nat) (S : World → Prop) (a : Addr) : Value → Prop
  | agg {n z} {l : List Value} (ht : Ty P t n true z) (hl : l.length = n) (h : ∀ w, S w → ∀ i v, l[i]? = some v → w.cell? (a.add i) = some v) : LoadAt P t S a (.agg l.toArray)
  | one {n z} {v : Value} (ht : Ty P t n false z) (h : ∀ w, S w → w.cell? a = some v) : LoadAt P t S a v
theorem LoadAt.run {P : Program} {t : Nat} {S : World → Prop} {a : Addr} {v : Value} (h : LoadAt P t S a v) {w : World} (hw : S w) : (loadVar t a).run P w = .ok v w := by
  cases h with
  | agg ht hl h => exact loadVar_agg ht hl fun i hi => ⟨_, List.getElem?_eq_getElem (by omega), h w hw i _ (List.getElem?_eq_getElem (by omega))⟩
  | one ht h => exact loadVar_one ht (h w hw)
/-- a block of one's own -/
def blk (l : List Value) (t : TypeId) : Obj := .cells l.toArray t (0, 0)
theorem cell_blk {w : World} {b : Nat} {l : List Value} {t : TypeId} (h : w.heap[b]? = some (blk l t)) (i : Nat) : w.cell? ⟨b, i, none⟩ = l[i]? := by
  simp [World.cell?, h, blk]
theorem add_at (b o i : Nat) : (⟨b, o, none⟩ : Addr).add i = ⟨b, o + i, none⟩ := by unfold Addr.add; split <;> simp_all
theorem LoadAt.aggL {P : Program} {t n : Nat} {z : Value} {A : List (World × List Nat)} {L : List Loc} {b o : Nat} {l r : List Value} {tt : TypeId} (hL : Mem L (b, blk l tt)) (ht : Ty P t n true z) (he : Ex l o n r) : LoadAt P t (Cls A L) ⟨b, o, none⟩ (.agg r.toArray) :=
  .agg ht he.spec.2.1 fun w hw i v hv => by
    rw [add_at, cell_blk (hw.loc _ hL.mem), he.get i]
    · exact hv
    · have := (List.getElem?_eq_some_iff.1 hv).1
      have := he.spec.2.1
      omega
theorem LoadAt.oneL {P : Program} {t n : Nat} {z : Value} {A : List (World × List Nat)} {L : List Loc} {b o : Nat} {l : List Value} {v : Value} {tt : TypeId} (hL : Mem L (b, blk l tt)) (ht : Ty P t n false z) (he : Nth l o v) : LoadAt P t (Cls A L) ⟨b, o, none⟩ v :=
  .one ht fun w hw => by rw [cell_blk (hw.loc _ hL.mem)]; exact he.get

/-! ### 3. What single operations yield -/
/-- operands, one by one -/
inductive Evs (ρ : Env) : List Operand → List Value → Prop
  | n : Evs ρ [] []
  | c {x xs v vs} : ρ.ev x = some v → Evs ρ xs vs → Evs ρ (x :: xs) (v :: vs)
theorem Evs.map {n : Nat} {D : List Deferred} {ρ : Env} {a : Act} (h : AgT n D ρ a) {xs : List Operand} {vs : List Value} (hx : Evs ρ xs vs) : xs.toArray.map a.eval = vs.toArray := by
  induction hx with
  | n => simp
  | c h1 _ ih => simp only [List.map_toArray, List.map_cons, h.ev h1, Array.mk.injEq, List.cons.injEq, true_and] at ih ⊢; simpa using ih
/-- numbered operands, one by one -/
inductive EvsI (ρ : Env) : List (Nat × Operand) → List (Nat × Value) → Prop
  | n : EvsI ρ [] []
  | c {i x xs v vs} : ρ.ev x = some v → EvsI ρ xs vs → EvsI ρ ((i, x) :: xs) ((i, v) :: vs)
theorem EvsI.map {n : Nat} {D : List Deferred} {ρ : Env} {a : Act} (h : AgT n D ρ a) {xs : List (Nat × Operand)} {vs : List (Nat × Value)} (hx : EvsI ρ xs vs) : xs.toArray.map (fun (i, x) => (i, a.eval x)) = vs.toArray := by
  induction hx with
  | n => simp
  | c h1 _ ih => simp only [List.map_toArray, List.map_cons, h.ev h1, Array.mk.injEq, List.cons.injEq, true_and] at ih ⊢; simpa using ih
/-- a value under a condition -/
def gv (c : Bool) (v : Value) : Value := bif c then v else undef
theorem gva {ρ : Env} {x : Operand} {c d : Bool} {v : Value} (h : c = true) (hx : ρ.ev x = some (gv (c && d) v)) : ρ.ev x = some (gv d v) := by rw [hx, h]; rfl
theorem band_l {a b : Bool} (h : (a && b) = true) : a = true := by cases a <;> simp_all
theorem gvt {ρ : Env} {x : Operand} {c : Bool} {v : Value} (h : c = true) (hx : ρ.ev x = some (gv c v)) : ρ.ev x = some v := by rw [hx, h]; rfl
section
variable {P : Program} {n : Nat} {D : List Deferred} {ρ : Env} {C : World → Prop} {dst : Option Tmp} {ty : TypeId} {pos : String} {af : Array Edge} {g : Option (Nat × Bool)}
theorem YO.of {o : Oper} {v : Value} (h : ∀ a, AgT n D ρ a → ∀ w, C w → (execOp a.eval o).run P w = .ok (.value v) w) : YO P o n D ρ C v :=
  fun a ha w hw => quietG_of_run (h a ha w hw)
theorem run_val {s : Sem Value} {w : World} {v : Value} (h : s.run P w = .ok v w) : (do pure (Next.value (← s)) : Sem Next).run P w = .ok (.value v) w := by
  simp only [Sem.run_bind, h, Result.andThen_ok]; rfl
theorem y_move {x : Operand} {v : Value} (hx : ρ.ev x = some v) : YO P ⟨dst, .move x, ty, pos, af, g⟩ n D ρ C v :=
  .of fun a ha w _ => by simp only [execOp, ha.ev hx]; rfl
theorem y_assign {x : Operand} {v : Value} (hx : ρ.ev x = some v) : YO P ⟨dst, .assign x, ty, pos, af, g⟩ n D ρ C v :=
  .of fun a ha w _ => by simp only [execOp, ha.ev hx]; rfl
theorem y_or {c x y : Operand} {t e : Bool} (hc : ρ.ev c = some (.bool t)) (hx : ρ.ev x = some (.bool true)) (hy : ρ.ev y = some (gv (!t) (.bool e))) : YO P ⟨dst, .pick c x y, ty, pos, af, g⟩ n D ρ C (.bool (t || e)) :=
  .of fun a ha w _ => by
    simp only [execOp, ha.ev hc, ha.ev hx, ha.ev hy, asBool]
    cases t <;> simp [gv, pure, bind, Sem.bind, Sem.run]
theorem y_and {c x y : Operand} {t e : Bool} (hc : ρ.ev c = some (.bool t)) (hx : ρ.ev x = some (gv t (.bool e))) (hy : ρ.ev y = some (.bool false)) : YO P ⟨dst, .pick c x y, ty, pos, af, g⟩ n D ρ C (.bool (t && e)) :=
  .of fun a ha w _ => by
    simp only [execOp, ha.ev hc, ha.ev hx, ha.ev hy, asBool]
    cases t <;> simp [gv, pure, bind, Sem.bind, Sem.run]
/-- a binary operation, by what the two functions of the model come to -/
theorem y_bin {op : BinOp} {xt yt : TypeId} {x y : Operand} {u v r : Value} (hx : ρ.ev x = some u) (hy : ρ.ev y = some v) (h1 : ∀ w, (eqGuard op xt x y u v).run P w = .ok () w) (h2 : ∀ w, (binOp op xt u v).run P w = .ok r w) :
    YO P ⟨dst, .binOp op xt x y yt, ty, pos, af, g⟩ n D ρ C r :=
  .of fun a ha w _ => by
    simp only [execOp, ha.ev hx, ha.ev hy]
    exact run_val (by simp only [Sem.run_bind, h1, Result.andThen_ok, h2])
theorem eqGuard_int {op : BinOp} {xt : TypeId} {x y : Operand} {k k' : IntKind} {m r : Int} (w : World) : (eqGuard op xt x y (.int k m) (.int k' r)).run P w = .ok () w := by
  unfold eqGuard; split <;> rfl
theorem eqGuard_bool {op : BinOp} {xt : TypeId} {x y : Operand} {m r : Bool} (w : World) : (eqGuard op xt x y (.bool m) (.bool r)).run P w = .ok () w := by
  unfold eqGuard; split <;> rfl
theorem eqGuard_string {op : BinOp} {xt : TypeId} {x y : Operand} {m r : ByteArray} (w : World) : (eqGuard op xt x y (.string m) (.string r)).run P w = .ok () w := by
  unfold eqGuard; split <;> rfl
section ints
variable {xt yt : TypeId} {x y : Operand} {k : IntKind} {m r : Int}
theorem y_add (hx : ρ.ev x = some (.int k m)) (hy : ρ.ev y = some (.int k r)) : YO P ⟨dst, .binOp .add xt x y yt, ty, pos, af, g⟩ n D ρ C (.int k (k.wrap (m + r))) :=
  y_bin hx hy (fun w => eqGuard_int w) fun w => by simp only [binOp, ne_eq, not_true_eq_false, if_false, Op.intArith]; rfl
theorem y_sub (hx : ρ.ev x = some (.int k m)) (hy : ρ.ev y = some (.int k r)) : YO P ⟨dst, .binOp .sub xt x y yt, ty, pos, af, g⟩ n D ρ C (.int k (k.wrap (m - r))) :=
  y_bin hx hy (fun w => eqGuard_int w) fun w => by simp only [binOp, ne_eq, not_true_eq_false, if_false, Op.intArith]; rfl
theorem y_mul (hx : ρ.ev x = some (.int k m)) (hy : ρ.ev y = some (.int k r)) : YO P ⟨dst, .binOp .mul xt x y yt, ty, pos, af, g⟩ n D ρ C (.int k (k.wrap (m * r))) :=
  y_bin hx hy (fun w => eqGuard_int w) fun w => by simp only [binOp, ne_eq, not_true_eq_false, if_false, Op.intArith]; rfl
theorem y_quo (hx : ρ.ev x = some (.int k m)) (hy : ρ.ev y = some (.int k r)) (h0 : r ≠ 0) : YO P ⟨dst, .binOp .quo xt x y yt, ty, pos, af, g⟩ n D ρ C (.int k (k.wrap (m.tdiv r))) :=
  y_bin hx hy (fun w => eqGuard_int w) fun w => by simp only [binOp, ne_eq, not_true_eq_false, if_false, Op.intDiv, h0]; rfl
theorem y_rem (hx : ρ.ev x = some (.int k m)) (hy : ρ.ev y = some (.int k r)) (h0 : r ≠ 0) : YO P ⟨dst, .binOp .rem xt x y yt, ty, pos, af, g⟩ n D ρ C (.int k (m.tmod r)) :=
  y_bin hx hy (fun w => eqGuard_int w) fun w => by simp only [binOp, ne_eq, not_true_eq_false, if_false, Op.intDiv, h0]; rfl
theorem y_band (hx : ρ.ev x = some (.int k m)) (hy : ρ.ev y = some (.int k r)) : YO P ⟨dst, .binOp .and xt x y yt, ty, pos, af, g⟩ n D ρ C (.int k (k.wrap (BitVec.ofInt k.bits m &&& BitVec.ofInt k.bits r).toNat)) :=
  y_bin hx hy (fun w => eqGuard_int w) fun w => by simp only [binOp, ne_eq, not_true_eq_false, if_false, Op.intBits]; rfl
theorem y_bor (hx : ρ.ev x = some (.int k m)) (hy : ρ.ev y = some (.int k r)) : YO P ⟨dst, .binOp .or xt x y yt, ty, pos, af, g⟩ n D ρ C (.int k (k.wrap (BitVec.ofInt k.bits m ||| BitVec.ofInt k.bits r).toNat)) :=
  y_bin hx hy (fun w => eqGuard_int w) fun w => by simp only [binOp, ne_eq, not_true_eq_false, if_false, Op.intBits]; rfl
theorem y_bxor (hx : ρ.ev x = some (.int k m)) (hy : ρ.ev y = some (.int k r)) : YO P ⟨dst, .binOp .xor xt x y yt, ty, pos, af, g⟩ n D ρ C (.int k (k.wrap (BitVec.ofInt k.bits m ^^^ BitVec.ofInt k.bits r).toNat)) :=
  y_bin hx hy (fun w => eqGuard_int w) fun w => by simp only [binOp, ne_eq, not_true_eq_false, if_false, Op.intBits]; rfl
theorem y_andNot (hx : ρ.ev x = some (.int k m)) (hy : ρ.ev y = some (.int k r)) : YO P ⟨dst, .binOp .andNot xt x y yt, ty, pos, af, g⟩ n D ρ C (.int k (k.wrap (BitVec.ofInt k.bits m &&& ~~~ BitVec.ofInt k.bits r).toNat)) :=
  y_bin hx hy (fun w => eqGuard_int w) fun w => by simp only [binOp, ne_eq, not_true_eq_false, if_false, Op.intBits]; rfl
theorem y_shl {k' : IntKind} (hx : ρ.ev x = some (.int k m)) (hy : ρ.ev y = some (.int k' r)) (h0 : 0 ≤ r) : YO P ⟨dst, .binOp .shl xt x y yt, ty, pos, af, g⟩ n D ρ C (.int k (k.wrap (m * 2 ^ (min r.toNat k.bits)))) :=
  y_bin hx hy (fun w => eqGuard_int w) fun w => by simp only [binOp, Op.shift, if_neg (show ¬ r < 0 by omega)]; rfl
theorem y_shr {k' : IntKind} (hx : ρ.ev x = some (.int k m)) (hy : ρ.ev y = some (.int k' r)) (h0 : 0 ≤ r) : YO P ⟨dst, .binOp .shr xt x y yt, ty, pos, af, g⟩ n D ρ C (.int k (m.fdiv (2 ^ (min r.toNat k.bits)))) :=
  y_bin hx hy (fun w => eqGuard_int w) fun w => by simp only [binOp, Op.shift, if_neg (show ¬ r < 0 by omega)]; rfl
theorem y_lss (hx : ρ.ev x = some (.int k m)) (hy : ρ.ev y = some (.int k r)) : YO P ⟨dst, .binOp .lss xt x y yt, ty, pos, af, g⟩ n D ρ C (.bool (decide (m < r))) :=
  y_bin hx hy (fun w => eqGuard_int w) fun w => by simp only [binOp, ne_eq, not_true_eq_false, if_false, Op.intCmp]; rfl
theorem y_leq (hx : ρ.ev x = some (.int k m)) (hy : ρ.ev y = some (.int k r)) : YO P ⟨dst, .binOp .leq xt x y yt, ty, pos, af, g⟩ n D ρ C (.bool (decide (m ≤ r))) :=
  y_bin hx hy (fun w => eqGuard_int w) fun w => by simp only [binOp, ne_eq, not_true_eq_false, if_false, Op.intCmp]; rfl
theorem y_gtr (hx : ρ.ev x = some (.int k m)) (hy : ρ.ev y = some (.int k r)) : YO P ⟨dst, .binOp .gtr xt x y yt, ty, pos, af, g⟩ n D ρ C (.bool (decide (r < m))) :=
  y_bin hx hy (fun w => eqGuard_int w) fun w => by simp only [binOp, ne_eq, not_true_eq_false, if_false, Op.intCmp]; rfl
theorem y_geq (hx : ρ.ev x = some (.int k m)) (hy : ρ.ev y = some (.int k r)) : YO P ⟨dst, .binOp .geq xt x y yt, ty, pos, af, g⟩ n D ρ C (.bool (decide (r ≤ m))) :=
  y_bin hx hy (fun w => eqGuard_int w) fun w => by simp only [binOp, ne_eq, not_true_eq_false, if_false, Op.intCmp]; rfl
theorem y_eql (hx : ρ.ev x = some (.int k m)) (hy : ρ.ev y = some (.int k r)) : YO P ⟨dst, .binOp .eql xt x y yt, ty, pos, af, g⟩ n D ρ C (.bool (decide (m = r))) :=
  y_bin hx hy (fun w => eqGuard_int w) fun w => by simp only [binOp, ne_eq, not_true_eq_false, if_false, Op.intCmp]; rfl
theorem y_neq (hx : ρ.ev x = some (.int k m)) (hy : ρ.ev y = some (.int k r)) : YO P ⟨dst, .binOp .neq xt x y yt, ty, pos, af, g⟩ n D ρ C (.bool (!decide (m = r))) :=
  y_bin hx hy (fun w => eqGuard_int w) fun w => by simp only [binOp, ne_eq, not_true_eq_false, if_false, Op.intCmp]; rfl
theorem y_neg (hx : ρ.ev x = some (.int k m)) : YO P ⟨dst, .unOp .neg xt x, ty, pos, af, g⟩ n D ρ C (.int k (k.wrap (0 - m))) :=
  .of fun a ha w _ => by simp only [execOp, ha.ev hx]; exact run_val (by simp only [Op.unary, Op.intArith]; rfl)
theorem y_com (hx : ρ.ev x = some (.int k m)) : YO P ⟨dst, .unOp .xor xt x, ty, pos, af, g⟩ n D ρ C (.int k (k.wrap (BitVec.ofInt k.bits (if k.signed then -1 else k.max) ^^^ BitVec.ofInt k.bits m).toNat)) :=
  .of fun a ha w _ => by simp only [execOp, ha.ev hx]; exact run_val (by simp only [Op.unary, Op.intBits]; rfl)
theorem y_conv {src dt : TypeId} {k' : IntKind} {du : TypeDesc} (hs : P.underlying src = some du) (hd : P.underlying dt = some (.int k')) (hx : ρ.ev x = some (.int k m)) : YO P ⟨dst, .convert src dt x, ty, pos, af, g⟩ n D ρ C (.int k' (k'.wrap m)) :=
  .of fun a ha w _ => by
    simp only [execOp, ha.ev hx]
    exact run_val (by simp only [convert, Sem.run_bind, run_underlying hs, run_underlying hd, Result.andThen_ok, Conv.intToInt]; rfl)
end ints
theorem y_not {xt : TypeId} {x : Operand} {t : Bool} (hx : ρ.ev x = some (.bool t)) : YO P ⟨dst, .unOp .not xt x, ty, pos, af, g⟩ n D ρ C (.bool (!t)) :=
  .of fun a ha w _ => by simp only [execOp, ha.ev hx]; exact run_val (by simp only [Op.unary]; rfl)
theorem y_min2 {ats : Array TypeId} {x y : Operand} {k k' : IntKind} {m r : Int} (hx : ρ.ev x = some (.int k m)) (hy : ρ.ev y = some (.int k' r)) :
    YO P ⟨dst, .call { callee := .builtin .min, args := [x, y].toArray, argTypes := ats }, ty, pos, af, g⟩ n D ρ C (.int k (min m r)) :=
  .of fun a ha w _ => by
    simp only [execOp, resolve, List.map_toArray, List.map_cons, List.map_nil, ha.ev hx, ha.ev hy, Sem.run_bind, invoke, builtin, Builtin.min_, Builtin.min2, List.foldlM, pure, bind, Sem.bind, Sem.run, Result.andThen_ok]
    congr 3
    simp only [Int.min_def]; split <;> split <;> omega
theorem y_max2 {ats : Array TypeId} {x y : Operand} {k k' : IntKind} {m r : Int} (hx : ρ.ev x = some (.int k m)) (hy : ρ.ev y = some (.int k' r)) :
    YO P ⟨dst, .call { callee := .builtin .max, args := [x, y].toArray, argTypes := ats }, ty, pos, af, g⟩ n D ρ C (.int k (max m r)) :=
  .of fun a ha w _ => by
    simp only [execOp, resolve, List.map_toArray, List.map_cons, List.map_nil, ha.ev hx, ha.ev hy, Sem.run_bind, invoke, builtin, Builtin.max_, Builtin.max2, List.foldlM, pure, bind, Sem.bind, Sem.run, Result.andThen_ok]
    congr 3
    simp only [Int.max_def]; split <;> split <;> omega
theorem y_extract {x : Operand} {i : Nat} {l : List Value} {v : Value} (hx : ρ.ev x = some (.tuple l.toArray)) (hi : Nth l i v) : YO P ⟨dst, .extract x i, ty, pos, af, g⟩ n D ρ C v :=
  .of fun a ha w _ => by
    simp only [execOp, ha.ev hx]
    exact run_val (by simp only [Instr.extract, List.getElem?_toArray, hi.get]; rfl)
theorem y_load {x : Operand} {t : TypeId} {ad : Addr} {v : Value} (hx : ρ.ev x = some (.pointer (some ad))) (h : LoadAt P t C ad v) : YO P ⟨dst, .load t x, ty, pos, af, g⟩ n D ρ C v :=
  .of fun a ha w hw => by
    simp only [execOp, ha.ev hx]
    exact run_val (by simp only [Instr.loadAt, Instr.sureAddr, pure, bind, Sem.bind]; exact h.run hw)
/-- where a field lies -/
def FA (P : Program) (s i off : Nat) : Prop := ∀ w b o, (Instr.fieldAt s (.pointer (some ⟨b, o, none⟩)) i).run P w = .ok (.pointer (some ⟨b, o + off, none⟩)) w
theorem fa_of {P : Program} {s i m : Nat} {fs : Array Field} {f : Field} (hu : P.underlying s = some (.struct fs)) {off : Nat} (hf : fs[i]? = some f) (ho : f.offset = off) (hs : ∀ w, (sizeOf f.type).run P w = .ok (m + 1) w) : FA P s i off := fun w b o => by
  subst ho
  simp only [Instr.fieldAt, Sem.run_bind, run_underlying hu, Result.andThen_ok, hf, Instr.sureAddr, fieldPlace, hs, pure, Sem.run]
  simp only [Nat.add_eq_zero_iff, Nat.one_ne_zero, and_false, if_false, add_at]
  rfl
theorem y_fieldAddr {x : Operand} {s i off : Nat} {b o : Nat} (hx : ρ.ev x = some (.pointer (some ⟨b, o, none⟩))) (h : FA P s i off) : YO P ⟨dst, .fieldAddr s x i, ty, pos, af, g⟩ n D ρ C (.pointer (some ⟨b, o + off, none⟩)) :=
  .of fun a ha w _ => by simp only [execOp, ha.ev hx]; exact run_val (h w b o)
end
end Go.Px
