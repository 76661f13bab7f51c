/-
  Px, part 8: elements of vectors; comparisons with nil; vectors made of what was there.
-/
import Derived.Test.YtpjacndlbjeehaaGreatDoorPx7
import Derived.Laws.Cover3
import Derived.Laws.Pointers
namespace Go.Px
open Go Go.RowKit
set_option linter.unusedVariables false
set_option linter.unusedSimpArgs false
def Vec.block (v : Vec) : Nat := match v.own with | (b, _) :: _ => b | [] => 0
theorem flatten_get {m : Nat} : ∀ {es : List (List Value)} {k i : Nat} {l : List Value} {u : Value}, (∀ l ∈ es, l.length = m) → es[k]? = some l → l[i]? = some u → es.flatten[k * m + i]? = some u
  | [], k, i, l, u, _, hk, _ => by simp at hk
  | x :: es, 0, i, l, u, h, hk, hi => by
    simp at hk; subst hk
    rw [List.flatten_cons, Nat.zero_mul, Nat.zero_add, List.getElem?_append_left (List.getElem?_eq_some_iff.1 hi).1]; exact hi
  | x :: es, k + 1, i, l, u, h, hk, hi => by
    have hx := h x (by simp)
    rw [List.flatten_cons, List.getElem?_append_right (by rw [hx, Nat.add_mul]; omega), hx, show (k + 1) * m + i - m = k * m + i by rw [Nat.add_mul]; omega]
    exact flatten_get (fun l hl => h l (by simp [hl])) (by simpa using hk) hi
theorem Up.append {α : Type} {l : List α} {o : Nat} {r l' : List α} (h : Up l o r l') (q : List α) : Up (l ++ q) o r (l' ++ q) := by
  induction h with
  | d => exact .d
  | t _ ih => exact .t ih
  | s _ ih => exact .s ih
theorem Up.prepend {α : Type} {l : List α} {o : Nat} {r l' : List α} (h : Up l o r l') : ∀ p : List α, Up (p ++ l) (p.length + o) r (p ++ l')
  | [] => by simpa using h
  | x :: p => by
    have := (Up.prepend h p).s (y := x)
    rw [List.length_cons, show p.length + 1 + o = p.length + o + 1 by omega]; exact this
theorem Up.flat {m off : Nat} {r l' : List Value} : ∀ {es : List (List Value)} {k : Nat} {l : List Value}, (∀ l ∈ es, l.length = m) → es[k]? = some l → Up l off r l' → Up es.flatten (k * m + off) r (es.set k l').flatten
  | [], k, l, _, hk, _ => by simp at hk
  | x :: es, 0, l, h, hk, hu => by
    simp at hk; subst hk
    simpa using hu.append es.flatten
  | x :: es, k + 1, l, h, hk, hu => by
    have hx := h x (by simp)
    have := (Up.flat (fun l (hl : l ∈ es) => h l (by simp [hl])) (by simpa using hk) hu).prepend x
    rw [hx] at this
    rw [show (k + 1) * m + off = m + (k * m + off) by rw [Nat.add_mul]; omega]
    simpa using this
section
variable {P : Program} {dst : Option Tmp} {n : Nat} {D : List Deferred} {ρ : Env} {C : World → Prop} {A : List (World × List Nat)} {L : List Loc} {ty : TypeId} {pos : String} {af : Array Edge} {g : Option (Nat × Bool)}
theorem VecOK.all {m : Nat} {e : TypeId} {v : Vec} (hv : VecOK m e v) : ∀ l ∈ v.es, l.length = m := by
  cases hv with
  | nil => simp
  | row hl => exact hl
theorem VecOK.sc {m : Nat} {e : TypeId} {v : Vec} (hv : VecOK m e v) : Px.sc v.val = true := by cases hv <;> rfl
theorem VecOK.sc1 {m : Nat} {e : TypeId} {v : Vec} (hv : VecOK m e v) : [v.val].all Px.sc = true := by simp [hv.sc]
theorem VecOK.heap {m : Nat} {e : TypeId} {v : Vec} (hv : VecOK m e v) {k : Nat} {l : List Value} (hk : v.es[k]? = some l) : ∃ cap rest, v.val = .slice (some ⟨v.block, 0, none⟩) v.es.length cap ∧ v.own = [(v.block, blk (v.es.flatten ++ rest) e)] ∧ v.es.length ≤ cap ∧ cap ≤ maxLen ∧ rest.length = (cap - v.es.length) * m := by
  cases hv with
  | nil => simp at hk
  | row hl hc hcap hr => exact ⟨_, _, rfl, rfl, hc, hcap, hr⟩
theorem VecOK.cell {m : Nat} {e : TypeId} {v : Vec} (hv : VecOK m e v) {F : List Loc → List Loc} (hH : Hole v.own F L) {w : World} (hw : Cls A L w) {k i : Nat} {l : List Value} {u : Value} (hk : v.es[k]? = some l) (hi : l[i]? = some u) : w.cell? ⟨v.block, k * m + i, none⟩ = some u := by
  obtain ⟨cap, rest, _, ho, _⟩ := hv.heap hk
  obtain ⟨p, q, hL, _⟩ := hH.ex
  have hb := hw.loc (v.block, blk (v.es.flatten ++ rest) e) (by rw [hL, ho]; simp)
  have hf := flatten_get hv.all hk hi
  rw [cell_blk hb, List.getElem?_append_left (List.getElem?_eq_some_iff.1 hf).1]; exact hf
theorem y_idxVec {t e m : Nat} {e' : TypeId} {ag : Bool} {z : Value} {x y : Operand} {v : Vec} {k : IntKind} {i : Int} (hu : P.underlying t = some (.slice e)) (ht : Ty P e m ag z) (hv : VecOK m e' v) {u : Value} (hval : v.val = u) (hx : ρ.ev x = some u) (hy : ρ.ev y = some (.int k i)) (h0 : 0 ≤ i) (h1 : i < v.es.length) :
    YO P ⟨dst, .indexAddr t x y, ty, pos, af, g⟩ n D ρ C (.pointer (some ⟨v.block, 0 + i.toNat * m, none⟩)) := by
  obtain ⟨cap, rest, h, _⟩ := hv.heap (k := i.toNat) (List.getElem?_eq_getElem (by omega))
  exact y_indexAddr hu ht (h ▸ hval.symm ▸ hx) hy h0 h1
theorem LoadAt.aggV {t m n k off o : Nat} {e : TypeId} {z : Value} {v : Vec} {F : List Loc → List Loc} {l r : List Value} (hv : VecOK m e v) {b : Nat} (hb : v.block = b) (hH : Hole v.own F L) (ht : Ty P t n true z) (hk : v.es[k]? = some l) (he : Ex l off n r) (ho : o = k * m + off) : LoadAt P t (Cls A L) ⟨b, o, none⟩ (.agg r.toArray) :=
  hb ▸ .agg ht he.spec.2.1 fun w hw i u hi => by
    rw [add_at, ho, Nat.add_assoc]
    refine hv.cell hH hw hk ?_
    rw [he.get i]
    · exact hi
    · have := (List.getElem?_eq_some_iff.1 hi).1
      have := he.spec.2.1
      omega
theorem LoadAt.oneV {t m n k off o : Nat} {e : TypeId} {z u : Value} {v : Vec} {F : List Loc → List Loc} {l : List Value} (hv : VecOK m e v) {b : Nat} (hb : v.block = b) (hH : Hole v.own F L) (ht : Ty P t n false z) (hk : v.es[k]? = some l) (he : Nth l off u) (ho : o = k * m + off) : LoadAt P t (Cls A L) ⟨b, o, none⟩ u :=
  hb ▸ .one ht fun w hw => by rw [ho]; exact hv.cell hH hw hk he.get
theorem n_storeV {t m1 m k off o : Nat} {e : TypeId} {ag : Bool} {z u : Value} {v : Vec} {F : List Loc → List Loc} {x y : Operand} {r l l' : List Value} (hv : VecOK m e v) {b : Nat} (hb : v.block = b) (hH : Hole v.own F L) (hx : ρ.ev x = some (.pointer (some ⟨b, o, none⟩))) (hy : ρ.ev y = some u)
    (ht : Ty P t (m1 + 1) ag z) (hu : Cl u r) (hr : r.length = m1 + 1) (hs : r.all sc = true) (hk : v.es[k]? = some l) (ho : o = k * m + off) (hup : Up l off r l') :
    NO P ⟨none, .store t x y, ty, pos, af, g⟩ n D ρ (Cls A L) (fun v' : Vec => VecOK m e v' ∧ v'.es = v.es.set k l' ∧ v'.val = v.val ∧ v'.block = v.block) (fun _ => ρ) (fun v' => Cls A (F v'.own)) :=
  NO.of0 rfl fun a ha w hw => by
    subst ho
    subst hb
    obtain ⟨cap, rest, h1, h2, h3, h4, h5⟩ := hv.heap hk
    obtain ⟨p, q, hL, hF⟩ := hH.ex
    have hb := hw.loc (v.block, blk (v.es.flatten ++ rest) e) (by rw [hL, h2]; simp)
    have hU : Up (v.es.flatten ++ rest) (k * m + off) r ((v.es.set k l').flatten ++ rest) := (Up.flat hv.all hk hup).append rest
    have hlen : k * m + off + 0 + r.length ≤ (v.es.flatten ++ rest).length := by
      cases r with
      | nil => simp at hr
      | cons a b => have := hU.len.2 (by simp); omega
    obtain ⟨w', g1, g2, g3, g4, g5, g6, g7⟩ := storeCells_run (P := P) r (v.es.flatten ++ rest) (k * m + off) 0 w hb hs hlen
    have hlen' : ∀ l ∈ v.es.set k l', l.length = m := fun x hx => by
      rcases List.mem_or_eq_of_mem_set hx with h | h
      · exact hv.all x h
      · rw [h, hup.len.1]; exact hv.all l (List.mem_of_getElem? hk)
    refine ⟨⟨v.val, v.es.set k l', [(v.block, blk ((v.es.set k l').flatten ++ rest) e)]⟩, w', ⟨?_, rfl, rfl, rfl⟩, ?_, hw.hole hH ⟨g3, g4, g5, by omega, fun i hi hne => g7 i (fun e => hne (by rw [h2]; simp [e]))⟩ ?_ (by simp)⟩
    · have := VecOK.row (m := m) (e := e) (b := v.block) (cap := cap) (es := v.es.set k l') (rest := rest) hlen' (by simpa using h3) h4 (by simpa using h5)
      rw [List.length_set, ← h1] at this
      exact this
    · simp only [execOp, ha.ev hx, ha.ev hy]
      refine run_unit ?_
      have hsz : (r.toArray.size ≠ m1 + 1) = False := by simp [hr]
      have e0 : (Instr.storeAt t (.pointer (some ⟨v.block, k * m + off, none⟩)) u) = storeVar t ⟨v.block, k * m + off, none⟩ u := rfl
      rw [e0]
      simp only [storeVar, hu.cells, Sem.run_bind, ht.size, Result.andThen_ok, hsz, if_false]
      exact g1
    · intro p hp
      obtain rfl := List.mem_singleton.1 hp
      exact ⟨by rw [g2, Nat.add_zero, hU.setAll], .inl (by rw [h2]; simp)⟩
/-- a slice of no elements, written out -/
theorem n_vec0 {d t e m : Nat} {ag : Bool} {z : Value} {F : List Loc → List Loc} (hH : Hole [] F L) (hu : P.underlying t = some (.slice e)) (ht : Ty P e m ag z) (hn : Nat.blt d n = true) :
    NO P ⟨some d, .buildSlice t 0 #[], ty, pos, af, g⟩ n D ρ (Cls A L) (fun v : Vec => VecOK m e v ∧ v.es = [] ∧ v.val ≠ .slice none 0 0) (fun v => (d, v.val) :: ρ) (fun v => Cls A (F v.own)) :=
  NO.of rfl hn fun a ha w hw => ⟨⟨.slice (some ⟨w.heap.size, 0, none⟩) 0 0, [], [(w.heap.size, blk [] e)]⟩, w.alloc (blk [] e), ⟨.row (m := m) (b := w.heap.size) (cap := 0) (es := []) (rest := []) (by simp) (Nat.le_refl _) (Nat.zero_le _) (by simp), rfl, by simp⟩, by
    simp only [execOp]
    refine run_val' ?_
    have hb : ¬ (0 > 2 ^ 24) := by decide
    simp only [Instr.buildSlice, Sem.run_bind, run_underlying hu, Result.andThen_ok, ht.size, Nat.zero_mul, if_neg hb, if_true, Sem.run_pure]
    have e0 : Array.range 0 = #[] := Array.eq_empty_of_size_eq_zero (by simp)
    rw [e0]
    simp [Instr.fill, newRow, blk], hw.hole hH (Keeps.of_gr (Gr.alloc w _) _) (fun p hp => by obtain rfl := List.mem_singleton.1 hp; exact ⟨heap_alloc_new w _, .inr (Nat.le_refl _)⟩) (by simp)⟩
theorem Elts.flat {w : World} {a : Addr} {m : Nat} {ls : List (List Value)} (hl : ∀ l ∈ ls, l.length = m) (h : Elts w (some a) m ls) : ∀ j u, ls.flatten[j]? = some u → w.cell? (a.add j) = some u := by
  intro j u hj
  have hj' : j < ls.length * m := by rw [← flatten_len hl]; exact (List.getElem?_eq_some_iff.1 hj).1
  have hm : 0 < m := by rcases Nat.eq_zero_or_pos m with h | h; · subst h; omega
                        · exact h
  have hq : j / m < ls.length := (Nat.div_lt_iff_lt_mul hm).2 hj'
  obtain ⟨b, o, e, hc⟩ := h (j / m) ls[j / m] (List.getElem?_eq_getElem hq)
  cases e
  have hlen := hl _ (List.getElem_mem hq)
  have hr : j % m < (ls[j / m]).length := by rw [hlen]; exact Nat.mod_lt _ hm
  have e1 := flatten_get hl (List.getElem?_eq_getElem hq) (List.getElem?_eq_getElem hr)
  have e2 : j / m * m + j % m = j := by rw [Nat.mul_comm]; exact Nat.div_add_mod j m
  rw [e2, hj] at e1
  cases e1
  rw [add_at]
  have := hc (j % m) _ (List.getElem?_eq_getElem hr)
  rw [Nat.add_assoc, e2] at this
  exact this
theorem Elts.of_none {w : World} {m : Nat} {ls : List (List Value)} (h : Elts w none m ls) : ls = [] := by
  cases ls with
  | nil => rfl
  | cons l ls => obtain ⟨_, _, e, _⟩ := h 0 l rfl; cases e
/-- elements that are there, appended to a vector -/
theorem n_appendE {d t e m : Nat} (bytes : Nat) {F : List Loc → List Loc} {v : Vec} {x y : Operand} {a : Addr} {k cap' : Nat} {W : World} (news : List (List Value)) (hu : P.underlying t = some (.slice e)) (hi : TI P e m bytes) (hv : VecOK m e v) (hH : Hole v.own F L)
    (hx : ρ.ev x = some v.val) (hy : ρ.ev y = some (.slice (some a) k cap')) (hk : k = news.length) (hnl : ∀ l ∈ news, l.length = m) (h1 : ∀ l ∈ news, l.all sc = true) (hA : Mem A (W, []))
    (hsrc : Elts W (some a) m news) (hmax : v.es.length + news.length ≤ 1000000000) (hb : Nat.ble bytes 140000 = true) (hd : Nat.blt d n = true) :
    NO P ⟨some d, .call { callee := .builtin .append, args := [x, y].toArray, argTypes := [t, t].toArray }, ty, pos, af, g⟩ n D ρ (Cls A L) (fun v' : Vec => VecOK m e v' ∧ v'.es = v.es ++ news) (fun v' => (d, v'.val) :: ρ) (fun v' => Cls A (F v'.own)) :=
  n_append bytes hu hi hv hH hx hy hk hnl (fun u hu => by
      obtain ⟨l, hl, hul⟩ := List.mem_flatten.1 hu
      have := List.all_eq_true.1 (h1 l hl) u hul
      cases u <;> simp_all [sc, Value.oneCell'])
    (fun w hw => (hsrc.gr (hw.gr hA)).flat hnl) (by simp only [maxLen]; omega) (by
      have hb : bytes ≤ 140000 := by simpa using hb
      have := Nat.mul_le_mul hmax hb
      omega) hd
theorem y_eqSliceNil {t e : Nat} {yt : TypeId} {x y : Operand} {a : Option Addr} {l c : Nat} (hu : P.underlying t = some (.slice e)) (hx : ρ.ev x = some (.slice a l c)) (hy : ρ.ev y = some (.slice none 0 0)) : YO P ⟨dst, .binOp .eql t x y yt, ty, pos, af, g⟩ n D ρ C (.bool a.isNone) :=
  y_bin hx hy (fun w => by unfold eqGuard; split <;> rfl) fun w => by
    simp only [binOp]
    simp [run_equal_slice_nil w t e a l c hu]
theorem y_eqPtrNil {t : Nat} {yt : TypeId} {x y : Operand} {a : Option Addr} (hu : P.underlying t = some (.pointer (P.pointee t))) (hx : ρ.ev x = some (.pointer a)) (hy : ρ.ev y = some (.pointer none)) : YO P ⟨dst, .binOp .eql t x y yt, ty, pos, af, g⟩ n D ρ C (.bool a.isNone) :=
  y_bin hx hy (fun w => by unfold eqGuard; split <;> rfl) fun w => run_eql_pointer_nil w t a hu
theorem y_neqPtrNil {t : Nat} {yt : TypeId} {x y : Operand} {a : Option Addr} (hu : P.underlying t = some (.pointer (P.pointee t))) (hx : ρ.ev x = some (.pointer a)) (hy : ρ.ev y = some (.pointer none)) : YO P ⟨dst, .binOp .neq t x y yt, ty, pos, af, g⟩ n D ρ C (.bool (!a.isNone)) :=
  y_bin hx hy (fun w => by unfold eqGuard; split <;> rfl) fun w => run_neq_pointer_nil w t a hu
theorem LoadAt.aggB {W : World} {t m b o : Nat} {tt : TypeId} {z : Value} {l r : List Value} (hA : Mem A (W, [])) (hB : W.heap[b]? = some (blk l tt)) (ht : Ty P t m true z) (he : Ex l o m r) : LoadAt P t (Cls A L) ⟨b, o, none⟩ (.agg r.toArray) :=
  LoadAt.aggF hA ht he.spec.2.1 fun i v hv => by
    rw [add_at, cell_blk hB, he.get i]
    · exact hv
    · have := (List.getElem?_eq_some_iff.1 hv).1
      have := he.spec.2.1
      omega
theorem LoadAt.oneB {W : World} {t m b o : Nat} {tt : TypeId} {z v : Value} {l : List Value} (hA : Mem A (W, [])) (hB : W.heap[b]? = some (blk l tt)) (ht : Ty P t m false z) (he : Nth l o v) : LoadAt P t (Cls A L) ⟨b, o, none⟩ v :=
  LoadAt.oneF hA ht (by rw [cell_blk hB]; exact he.get)
theorem Cls.locM {w : World} {b : Nat} {o : Obj} (h : Cls A L w) (hm : Mem L (b, o)) : w.heap[b]? = some o := h.loc (b, o) hm.mem
/-- some blocks are let go -/
inductive Thin : List Loc → List Loc → Prop
  | r {K} : Thin K K
  | n {K} : Thin K []
  | d {x K K'} : Thin K K' → Thin (x :: K) K'
  | k {x K K'} : Thin K K' → Thin (x :: K) (x :: K')
  | a {q K K'} : Thin K K' → Thin (q ++ K) K'
  | ka {q K K'} : Thin K K' → Thin (q ++ K) (q ++ K')
theorem Thin.sub {L L' : List Loc} (h : Thin L L') : L'.Sublist L := by
  induction h with
  | r => exact List.Sublist.refl _
  | n => exact List.nil_sublist _
  | d _ ih => exact ih.cons _
  | k _ ih => exact ih.cons_cons _
  | a _ ih => exact ih.trans (List.sublist_append_right _ _)
  | ka _ ih => exact ih.append_left _
theorem Cls.subl {L L' : List Loc} {w : World} (h : Cls A L w) (hs : L'.Sublist L) : Cls A L' w :=
  ⟨h.anc, fun p hp => h.loc p (hs.subset hp), (hs.map _).nodup h.nd, fun p hp l hl => h.own p hp l (hs.subset hl)⟩
theorem Cls.thin {L L' : List Loc} {w : World} (h : Cls A L w) (hs : Thin L L') : Cls A L' w := h.subl hs.sub
/-- a call of which the value alone is told, for some x -/
theorem n_callW {d : Nat} {k : FuncId} (hk : Ent P k) {xs : List Operand} {ats : Array TypeId} {vs : List Value} {α : Type} {val : α → Value} {Φ : α → Prop} (hx : Evs ρ xs vs)
    (h : ∀ w, Cls A L w → Calls P k vs.toArray w fun e w' => ∃ x, e = .returned (val x) ∧ Gr w w' ∧ Φ x) (hn : Nat.blt d n = true) :
    NO P ⟨some d, .call { callee := .value (.func k), args := xs.toArray, argTypes := ats }, ty, pos, af, g⟩ n D ρ (Cls A L) (fun x => Φ x) (fun x => (d, val x) :: ρ) (fun _ => Cls A L) := fun a w ha hw K Q hK => by
  unfold Oper.wp
  rw [call_run (fs := []) (cs := []) hk ha rfl hx w]
  have e : ([] ++ vs ++ [] : List Value).toArray = vs.toArray := by simp
  rw [e]
  refine Calls.mono (h w hw) fun e w' ⟨x, he, hg, hp⟩ => ?_
  subst he
  exact hK x hp _ _ (ha.put d _ hn) (Cls.gs A L _ _ hw hg)
/-- what a call that turns one vector tells -/
def Turns (P : Program) (k : FuncId) (args : List Value) (w : World) (v : Vec) {α : Type} (val : α → Value) (vec : α → Vec) (Φ : α → Prop) : Prop :=
  Calls P k args.toArray w fun e w' => ∃ x, e = .returned (val x) ∧ Keeps w (v.own.map (·.1)) w' ∧ (∀ p ∈ (vec x).own, w'.heap[p.1]? = some p.2 ∧ (p.1 ∈ v.own.map (·.1) ∨ w.heap.size ≤ p.1)) ∧ ((vec x).own.map (·.1)).Nodup ∧ Φ x
theorem n_callTV {d : Nat} {k : FuncId} (hk : Ent P k) {F : List Loc → List Loc} {xs : List Operand} {ats : Array TypeId} {vs : List Value} {v : Vec} {α : Type} {val : α → Value} {vec : α → Vec} {Φ : α → Prop} (hH : Hole v.own F L) (hx : Evs ρ xs vs)
    (h : ∀ w, Cls A L w → Turns P k vs w v val vec Φ) (hn : Nat.blt d n = true) :
    NO P ⟨some d, .call { callee := .value (.func k), args := xs.toArray, argTypes := ats }, ty, pos, af, g⟩ n D ρ (Cls A L) (fun x => Φ x) (fun x => (d, val x) :: ρ) (fun x => Cls A (F (vec x).own)) := fun a w ha hw K Q hK => by
  unfold Oper.wp
  rw [call_run (fs := []) (cs := []) hk ha rfl hx w]
  have e : ([] ++ vs ++ [] : List Value).toArray = vs.toArray := by simp
  rw [e]
  refine Calls.mono (h w hw) fun e w' ⟨x, he, hg, hv, hnd, hp⟩ => ?_
  subst he
  exact hK x hp _ _ (ha.put d _ hn) (hw.hole hH hg hv hnd)
theorem Cls.startV {m : Nat} {e : TypeId} {v : Vec} (hv : VecOK m e v) {w : World} (h : ∀ p ∈ v.own, w.heap[p.1]? = some p.2) : Cls [(w, v.own.map (·.1))] v.own w :=
  ⟨fun p hp => by simp at hp; subst hp; exact Keeps.refl w _, h, hv.nd, fun p hp l hl => by simp at hp; subst hp; exact .inl (List.mem_map_of_mem hl)⟩
theorem Cls.ownV {m : Nat} {e : TypeId} {v : Vec} (hv : VecOK m e v) {F : List Loc → List Loc} {w : World} (hw : Cls A L w) (hH : Hole v.own F L) : ∀ p ∈ v.own, w.heap[p.1]? = some p.2 := by
  obtain ⟨p, q, rfl, _⟩ := hH.ex
  exact fun x hx => hw.loc x (by simp [hx])
/-- behind a function that turned one vector of its caller's -/
theorem Cls.turned {m' : Nat} {e' : TypeId} {W : World} {v v' : Vec} {F : List Loc → List Loc} {w : World} (hv' : VecOK m' e' v') (hw : Cls A L w) (hH : Hole v'.own F L) (hA : Mem A (W, v.own.map (·.1))) :
    Keeps W (v.own.map (·.1)) w ∧ (∀ p ∈ v'.own, w.heap[p.1]? = some p.2 ∧ (p.1 ∈ v.own.map (·.1) ∨ W.heap.size ≤ p.1)) ∧ (v'.own.map (·.1)).Nodup := by
  obtain ⟨p, q, rfl, _⟩ := hH.ex
  exact ⟨hw.anc _ hA.mem, fun x hx => ⟨hw.loc x (by simp [hx]), hw.own _ hA.mem x (by simp [hx])⟩, hv'.nd⟩
end
end Go.Px
