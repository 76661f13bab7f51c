/-
  Px, part 4: operations that make or turn memory; calls; more operations that yield.
-/
import Derived.Test.YtpjacndlbjeehaaGreatDoorPx3
namespace Go.Px
open Go Go.RowKit
set_option linter.unusedVariables false
set_option linter.unusedSimpArgs false
section
variable {P : Program} {n : Nat} {D : List Deferred} {ρ : Env} {C : World → Prop} {ty : TypeId} {pos : String} {af : Array Edge} {A : List (World × List Nat)} {L : List Loc} {dst : Option Tmp} {g : Option (Nat × Bool)}
theorem run_val' {s : Sem Value} {w w' : World} {v : Value} (h : s.run P w = .ok v w') : (do pure (Next.value (← s)) : Sem Next).run P w = .ok (.value v) w' := by
  simp only [Sem.run_bind, h, Result.andThen_ok]; rfl
theorem run_unit {s : Sem Unit} {w w' : World} (h : s.run P w = .ok () w') : (do s; pure Next.skip : Sem Next).run P w = .ok .skip w' := by
  simp only [Sem.run_bind, h, Result.andThen_ok]; rfl
theorem NO.of {o : Oper} {d : Nat} {α : Type} {H : α → Prop} {val : α → Value} {C' : α → World → Prop} (hd : o.dst = some d) (hn : Nat.blt d n = true)
    (h : ∀ a, AgT n D ρ a → ∀ w, C w → ∃ x w', H x ∧ (execOp a.eval o).run P w = .ok (.value (val x)) w' ∧ C' x w') : NO P o n D ρ C H (fun x => (d, val x) :: ρ) C' := fun a w ha hw K Q hK => by
  obtain ⟨x, w', hx, hr, hc⟩ := h a ha w hw
  unfold Oper.wp
  rw [hr]
  show K (a.put o.dst (val x)) w'
  rw [hd]
  exact hK x hx _ _ (ha.put d _ hn) hc
theorem NO.of0 {o : Oper} {α : Type} {H : α → Prop} {C' : α → World → Prop} (hd : o.dst = none)
    (h : ∀ a, AgT n D ρ a → ∀ w, C w → ∃ x w', H x ∧ (execOp a.eval o).run P w = .ok .skip w' ∧ C' x w') : NO P o n D ρ C H (fun _ => ρ) C' := fun a w ha hw K Q hK => by
  obtain ⟨x, w', hx, hr, hc⟩ := h a ha w hw
  unfold Oper.wp
  rw [hr]
  show K (a.put o.dst undef) w'
  rw [hd]
  exact hK x hx _ _ ha hc
/-! ### blocks of one's own -/
theorem newVar_run {t : TypeId} {v : Value} {l : List Value} (h : Cl v l) (w : World) : (newVar t v).run P w = .ok ⟨w.heap.size, 0, none⟩ (w.alloc (blk l t)) := by
  simp only [newVar, newRow, h.cells]
  rfl
theorem n_alloc {d : Nat} {t m : Nat} {b : Bool} {z : Value} {l : List Value} (ht : Ty P t m b z) (hz : Cl z l) (hn : Nat.blt d n = true) :
    NO P ⟨some d, .alloc t, ty, pos, af, g⟩ n D ρ (Cls A L) (fun _ : Nat => True) (fun b => (d, .pointer (some ⟨b, 0, none⟩)) :: ρ) (fun b => Cls A ((b, blk l t) :: L)) :=
  NO.of rfl hn fun a ha w hw => ⟨w.heap.size, w.alloc (blk l t), trivial, by
    simp only [execOp]
    exact run_val' (by simp only [Instr.alloc, Sem.run_bind, ht.zero, Result.andThen_ok, newVar_run hz]; rfl), hw.alloc _⟩
theorem n_box {d : Nat} {t : TypeId} {x : Operand} {v : Value} {l : List Value} (hx : ρ.ev x = some v) (hz : Cl v l) (hn : Nat.blt d n = true) :
    NO P ⟨some d, .box t x, ty, pos, af, g⟩ n D ρ (Cls A L) (fun _ : Nat => True) (fun b => (d, .pointer (some ⟨b, 0, none⟩)) :: ρ) (fun b => Cls A ((b, blk l t) :: L)) :=
  NO.of rfl hn fun a ha w hw => ⟨w.heap.size, w.alloc (blk l t), trivial, by
    simp only [execOp, ha.ev hx]
    exact run_val' (by simp only [Instr.box, Sem.run_bind, newVar_run hz, Result.andThen_ok]; rfl), hw.alloc _⟩
def setAll {α : Type} : List α → Nat → List α → List α
  | l, _, [] => l
  | l, m, v :: r => setAll (l.set m v) (m + 1) r
theorem setAll_cons {α : Type} (x : α) : ∀ (r l : List α) (m : Nat), setAll (x :: l) (m + 1) r = x :: setAll l m r
  | [], _, _ => rfl
  | v :: r, l, m => by simp only [setAll, List.set_cons_succ]; exact setAll_cons x r (l.set m v) (m + 1)
theorem Up.setAll {α : Type} {l : List α} {m : Nat} {r l' : List α} (h : Up l m r l') : Px.setAll l m r = l' := by
  induction h with
  | d => rfl
  | @t x y l r l' h ih => simp only [Px.setAll, List.set_cons_zero, setAll_cons, Nat.zero_add]; rw [ih]
  | s h ih => rw [setAll_cons, ih]
theorem storeCells_run {b : Nat} {tt : TypeId} : ∀ (r l : List Value) (o i : Nat) (w : World), w.heap[b]? = some (blk l tt) → r.all sc = true → o + i + r.length ≤ l.length →
    ∃ w', (storeCells ⟨b, o, none⟩ r i).run P w = .ok () w' ∧ w'.heap[b]? = some (blk (Px.setAll l (o + i) r) tt) ∧ w'.os = w.os ∧ w'.tape = w.tape ∧ w'.output = w.output ∧ w'.heap.size = w.heap.size ∧ ∀ k, k ≠ b → w'.heap[k]? = w.heap[k]?
  | [], l, o, i, w, hb, _, _ => ⟨w, rfl, hb, rfl, rfl, rfl, rfl, fun _ _ => rfl⟩
  | v :: r, l, o, i, w, hb, hs, hl => by
    simp only [List.all_cons, Bool.and_eq_true] at hs
    simp only [List.length_cons] at hl
    have hlt : o + i < l.length := by omega
    have hc : w.cell? ⟨b, o + i, none⟩ = some l[o + i] := by rw [cell_blk hb]; exact List.getElem?_eq_getElem hlt
    have hfr : w.frozen? ⟨b, o + i, none⟩ = false := by simp [World.frozen?, hb, blk]
    have hb' : (w.setCell ⟨b, o + i, none⟩ v).heap[b]? = some (blk (l.set (o + i) v) tt) := by
      simp [World.setCell, Array.getElem?_modify, hb, blk]
    obtain ⟨w', h1, h2, h3, h4, h5, h6, h7⟩ := storeCells_run r (l.set (o + i) v) o (i + 1) (w.setCell ⟨b, o + i, none⟩ v) hb' hs.2 (by simp; omega)
    refine ⟨w', ?_, h2, h3, h4, h5, by rw [h6]; simp [World.setCell], fun k hk => ?_⟩
    · have hst : (storeCells ⟨b, o, none⟩ (v :: r) i).run P w = (storeCells ⟨b, o, none⟩ r (i + 1)).run P (w.setCell ⟨b, o + i, none⟩ v) := by
        have hv := hs.1
        simp only [storeCells, add_at, store, bind, Sem.bind]
        cases v <;> first | (simp [sc] at hv; done) | (simp only [Sem.run, hc, hfr]; rfl)
      rw [hst, h1]
    · rw [h7 k hk]
      exact Below.heap_setCell _ _ _ _ hk
/-- a store into a block of one's own -/
theorem n_store {t m : Nat} {ag : Bool} {z : Value} {x y : Operand} {b o : Nat} {v : Value} {r l l' : List Value} {tt : TypeId} {L' : List Loc} (hx : ρ.ev x = some (.pointer (some ⟨b, o, none⟩))) (hy : ρ.ev y = some v) (ht : Ty P t (m + 1) ag z) (hv : Cl v r)
    (hr : r.length = m + 1) (hs : r.all sc = true) (hL : LSet L b (blk l tt) (blk l' tt) L') (hu : Up l o r l') :
    NO P ⟨none, .store t x y, ty, pos, af, g⟩ n D ρ (Cls A L) (fun _ : Unit => True) (fun _ => ρ) (fun _ => Cls A L') :=
  NO.of0 rfl fun a ha w hw => by
    have hb := hw.loc _ hL.mem
    have hlen : o + 0 + r.length ≤ l.length := by
      cases r with
      | nil => simp at hr
      | cons a b => have := hu.len.2 (by simp); omega
    obtain ⟨w', h1, h2, h3, h4, h5, h6, h7⟩ := storeCells_run (P := P) r l o 0 w hb hs hlen
    refine ⟨(), w', trivial, ?_, hw.set hL h3 h4 h5 (by omega) (by rw [h2, Nat.add_zero, hu.setAll]) (fun i hi hne => h7 i hne)⟩
    simp only [execOp, ha.ev hx, ha.ev hy]
    refine run_unit ?_
    have hsz : (r.toArray.size ≠ m + 1) = False := by simp [hr]
    have e : (Instr.storeAt t (.pointer (some ⟨b, o, none⟩)) v) = storeVar t ⟨b, o, none⟩ v := rfl
    rw [e]
    simp only [storeVar, hv.cells, Sem.run_bind, ht.size, Result.andThen_ok, hsz, if_false]
    exact h1
/-! ### calls -/
/-- function k has a body that is entered -/
def Ent (P : Program) (k : FuncId) : Prop := ∀ args w, (callFunc k args).run P w = .ok (.enter k args) w
theorem ent_of {k : FuncId} {fn : Func} (h : P.funcs[k]? = some fn) (hb : fn.body.isNone = false) (hn : (fn.name == "runtime.NumGoroutine") = false) : Ent P k := fun args w => by
  simp only [callFunc, Sem.run_bind, run_program, Result.andThen_ok, h, hn, hb, Bool.false_eq_true, if_false]; rfl
theorem call_run {k : FuncId} (hk : Ent P k) {fo : Operand} {xs : List Operand} {ats : Array TypeId} {fs cs vs : List Value} {a : Act} (ha : AgT n D ρ a) (hf : ρ.ev fo = some (.func (.func k) fs.toArray cs.toArray)) (hx : Evs ρ xs vs) (w : World) :
    (execOp a.eval ⟨dst, .call { callee := .value fo, args := xs.toArray, argTypes := ats }, ty, pos, af, g⟩).run P w = .ok (.enter k (fs ++ vs ++ cs).toArray) w := by
  simp only [execOp, resolve, ha.ev hf, hx.map ha, Deferred.ofValue, pure, bind, Sem.bind, invoke]
  have := hk (fs ++ vs ++ cs).toArray w
  simpa using this
/-- a call that hands back one value and leaves what is there alone -/
theorem y_call {k : FuncId} (hk : Ent P k) {xs : List Operand} {ats : Array TypeId} {vs : List Value} {v : Value} (hx : Evs ρ xs vs) (h : ∀ w, C w → Calls P k vs.toArray w fun e w' => e = .returned v ∧ Gr w w') :
    YO P ⟨dst, .call { callee := .value (.func k), args := xs.toArray, argTypes := ats }, ty, pos, af, g⟩ n D ρ C v := fun a ha w hw => by
  unfold quietG
  rw [call_run (fs := []) (cs := []) hk ha rfl hx w]
  exact ⟨rfl, by simpa using h w hw⟩
theorem y_callv {k : FuncId} (hk : Ent P k) {fo : Operand} {xs : List Operand} {ats : Array TypeId} {fs cs vs : List Value} {v : Value} (hf : ρ.ev fo = some (.func (.func k) fs.toArray cs.toArray)) (hx : Evs ρ xs vs)
    (h : ∀ w, C w → Calls P k (fs ++ vs ++ cs).toArray w fun e w' => e = .returned v ∧ Gr w w') :
    YO P ⟨dst, .call { callee := .value fo, args := xs.toArray, argTypes := ats }, ty, pos, af, g⟩ n D ρ C v := fun a ha w hw => by
  unfold quietG
  rw [call_run hk ha hf hx w]
  exact ⟨rfl, h w hw⟩
/-- what a call hands back, for some x of which Φ tells in the world behind it; of what was there it has turned the blocks of X alone -/
def Ret (P : Program) (k : FuncId) (args : List Value) (w : World) {α : Type} (val : α → Value) (Φ : α → World → Prop) : Prop :=
  Calls P k args.toArray w fun e w' => ∃ x, e = .returned (val x) ∧ Gr w w' ∧ Φ x w'
/-- a call that hands back something new: a new anchor is laid in the world behind it -/
theorem n_call {d : Nat} {k : FuncId} (hk : Ent P k) {xs : List Operand} {ats : Array TypeId} {vs : List Value} {α : Type} {val : α → Value} {Φ : α → World → Prop} (hx : Evs ρ xs vs) (h : ∀ w, Cls A L w → Ret P k vs w val Φ) (hn : Nat.blt d n = true) :
    NO P ⟨some d, .call { callee := .value (.func k), args := xs.toArray, argTypes := ats }, ty, pos, af, g⟩ n D ρ (Cls A L) (fun p : α × World => Φ p.1 p.2 ∧ Cls A L p.2) (fun p => (d, val p.1) :: ρ) (fun p => Cls ((p.2, L.map (·.1)) :: A) L) := fun a w ha hw K Q hK => by
  unfold Oper.wp
  rw [call_run (fs := []) (cs := []) hk ha rfl hx w]
  have h1 : Calls P k vs.toArray w fun e w' => ∃ x, e = .returned (val x) ∧ Gr w w' ∧ Φ x w' := h w hw
  have e : ([] ++ vs ++ [] : List Value).toArray = vs.toArray := by simp
  rw [e]
  refine Calls.mono h1 fun e w' ⟨x, he, hg, hp⟩ => ?_
  subst he
  have hc := Cls.gs A L _ _ hw hg
  exact hK (x, w') ⟨hp, hc⟩ _ _ (ha.put d _ hn) hc.anchor
/-- the same with a result that is dropped or stands in no temporary of interest; and with one block of one's own turned -/
theorem n_callT {d b : Nat} {o : Obj} {k : FuncId} (hk : Ent P k) {xs : List Operand} {ats : Array TypeId} {vs : List Value} {α : Type} {val : α → Value} {o' : α → Obj} {L' : α → List Loc} {Φ : α → World → Prop} (hx : Evs ρ xs vs) (hL : ∀ x, LSet L b o (o' x) (L' x))
    (h : ∀ w, Cls A L w → Calls P k vs.toArray w fun e w' => ∃ x, e = .returned (val x) ∧ Keeps w [b] w' ∧ w'.heap[b]? = some (o' x) ∧ Φ x w') (hn : Nat.blt d n = true) :
    NO P ⟨some d, .call { callee := .value (.func k), args := xs.toArray, argTypes := ats }, ty, pos, af, g⟩ n D ρ (Cls A L) (fun p : α × World => Φ p.1 p.2 ∧ Cls A (L' p.1) p.2) (fun p => (d, val p.1) :: ρ) (fun p => Cls ((p.2, (L' p.1).map (·.1)) :: A) (L' p.1)) := fun a w ha hw K Q hK => by
  unfold Oper.wp
  rw [call_run (fs := []) (cs := []) hk ha rfl hx w]
  have e : ([] ++ vs ++ [] : List Value).toArray = vs.toArray := by simp
  rw [e]
  refine Calls.mono (h w hw) fun e w' ⟨x, he, hg, hb, hp⟩ => ?_
  subst he
  have hc := hw.set (hL x) hg.os hg.tape hg.output hg.size hb (fun i hi hne => hg.block i hi (by simpa using hne))
  exact hK (x, w') ⟨hp, hc⟩ _ _ (ha.put d _ hn) hc.anchor
theorem YO.lit {o : Oper} {v v' : Value} (h : YO P o n D ρ C v) (e : v = v') : YO P o n D ρ C v' := e ▸ h
theorem beq_t (t : Bool) : (t == true) = t := by cases t <;> rfl
theorem beq_f (t : Bool) : (t == false) = !t := by cases t <;> rfl
theorem Cls.tail {x : Loc} {w : World} (h : Cls A (x :: L) w) : Cls A L w :=
  ⟨h.anc, fun p hp => h.loc p (List.mem_cons_of_mem _ hp), by have := h.nd; simp only [List.map_cons, List.nodup_cons] at this; exact this.2, fun p hp l hl => h.own p hp l (List.mem_cons_of_mem _ hl)⟩
/-! ### more that yields -/
theorem foldMin (k : IntKind) (w : World) : ∀ (l : List Int) (m : Int), ((l.map (Value.int k)).foldlM Builtin.min2 (.int k m)).run P w = .ok (.int k (l.foldl min m)) w
  | [], m => rfl
  | x :: l, m => by
    simp only [List.map_cons, List.foldlM_cons, Sem.run_bind, Builtin.min2, List.foldl_cons]
    show ((Sem.pure _).run P w).andThen _ = _
    simp only [Sem.run, Result.andThen_ok]
    rw [foldMin k w l]
    congr 3
    simp only [Int.min_def]; split <;> split <;> omega
theorem foldMax (k : IntKind) (w : World) : ∀ (l : List Int) (m : Int), ((l.map (Value.int k)).foldlM Builtin.max2 (.int k m)).run P w = .ok (.int k (l.foldl max m)) w
  | [], m => rfl
  | x :: l, m => by
    simp only [List.map_cons, List.foldlM_cons, Sem.run_bind, Builtin.max2, List.foldl_cons]
    show ((Sem.pure _).run P w).andThen _ = _
    simp only [Sem.run, Result.andThen_ok]
    rw [foldMax k w l]
    congr 3
    simp only [Int.max_def]; split <;> split <;> omega
theorem y_minN {ats : Array TypeId} {xs : List Operand} {k : IntKind} {m : Int} {l : List Int} (hx : Evs ρ xs (.int k m :: l.map (Value.int k))) :
    YO P ⟨dst, .call { callee := .builtin .min, args := xs.toArray, argTypes := ats }, ty, pos, af, g⟩ n D ρ C (.int k (l.foldl min m)) :=
  .of fun a ha w _ => by
    simp only [execOp, resolve, hx.map ha, pure, bind, Sem.bind, invoke, builtin, Builtin.min_]
    exact run_val (foldMin k w l m)
theorem y_maxN {ats : Array TypeId} {xs : List Operand} {k : IntKind} {m : Int} {l : List Int} (hx : Evs ρ xs (.int k m :: l.map (Value.int k))) :
    YO P ⟨dst, .call { callee := .builtin .max, args := xs.toArray, argTypes := ats }, ty, pos, af, g⟩ n D ρ C (.int k (l.foldl max m)) :=
  .of fun a ha w _ => by
    simp only [execOp, resolve, hx.map ha, pure, bind, Sem.bind, invoke, builtin, Builtin.max_]
    exact run_val (foldMax k w l m)

theorem y_indexAddr {t e sz : Nat} {ag : Bool} {z : Value} {x y : Operand} {b o len cap : Nat} {k : IntKind} {i : Int} (hu : P.underlying t = some (.slice e)) (ht : Ty P e sz ag z) (hx : ρ.ev x = some (.slice (some ⟨b, o, none⟩) len cap)) (hy : ρ.ev y = some (.int k i)) (h0 : 0 ≤ i) (h1 : i < len) :
    YO P ⟨dst, .indexAddr t x y, ty, pos, af, g⟩ n D ρ C (.pointer (some ⟨b, o + i.toNat * sz, none⟩)) :=
  .of fun a ha w _ => by
    simp only [execOp, ha.ev hx, ha.ev hy]
    refine run_val ?_
    simp only [Instr.indexAt, asIntOf, Sem.run_bind, run_underlying hu, Result.andThen_ok, pure, Sem.run, ht.size]
    have hb : (0 ≤ i ∧ i < (len : Int)) := ⟨h0, h1⟩
    by_cases hl : (len ≤ 1) <;> simp [hl, hb, Sem.run, Sem.run_bind, run_underlying hu, ht.size, add_at, bind, Sem.bind, pure] <;> (rw [Sem.run_bind', ht.size]; rfl)
theorem y_indexArr {t e sz len : Nat} {ag : Bool} {z : Value} {x y : Operand} {b o : Nat} {k : IntKind} {i : Int} (hu : P.underlying t = some (.array len e)) (ht : Ty P e sz ag z) (hx : ρ.ev x = some (.pointer (some ⟨b, o, none⟩))) (hy : ρ.ev y = some (.int k i)) (h0 : 0 ≤ i) (h1 : i < len) :
    YO P ⟨dst, .indexAddr t x y, ty, pos, af, g⟩ n D ρ C (.pointer (some ⟨b, o + i.toNat * sz, none⟩)) :=
  .of fun a ha w _ => by
    simp only [execOp, ha.ev hx, ha.ev hy]
    refine run_val ?_
    simp only [Instr.indexAt, asIntOf, Instr.sureAddr, Sem.run_bind, run_underlying hu, Result.andThen_ok, pure, Sem.run, ht.size]
    have hb : (0 ≤ i ∧ i < (len : Int)) := ⟨h0, h1⟩
    by_cases hl : (len ≤ 1) <;> simp [hl, hb, Sem.run, Sem.run_bind, run_underlying hu, ht.size, add_at, bind, Sem.bind, pure] <;> (rw [Sem.run_bind', ht.size]; rfl)
/-- an element of an array by value -/
theorem y_indexV {t e sz len : Nat} {z : Value} {x y : Operand} {k : IntKind} (i : Nat) {ii : Int} {l r : List Value} (hu : P.underlying t = some (.array len e)) (ht : Ty P e sz true z) (hx : ρ.ev x = some (.agg l.toArray)) (hy : ρ.ev y = some (.int k ii)) (hii : ii = (i : Int)) (h1 : Nat.blt i len = true) (he : Ex l (i * sz) sz r) :
    YO P ⟨dst, .index t x y, ty, pos, af, g⟩ n D ρ C (.agg r.toArray) :=
  .of fun a ha w _ => by
    subst hii
    simp only [execOp, ha.ev hx, ha.ev hy]
    refine run_val ?_
    have hlt : i < len := by simpa using h1
    simp only [Instr.index, asIntOf, Sem.run_bind, run_underlying hu, Result.andThen_ok, pure, Sem.run]
    rw [if_pos ⟨by omega, by omega⟩]
    simp only [Sem.run_bind, ht.size, Result.andThen_ok, part, ht.agg, if_true, Int.toNat_natCast]
    have := he.spec.1
    simp only [pure, Sem.run]
    congr 2
    rw [List.extract_toArray, List.extract_eq_take_drop]
    congr 1
    rw [show i * sz + sz - i * sz = sz by omega]; exact this
theorem y_lenS {t e : Nat} {ats : Array TypeId} {x : Operand} {a0 : Option Addr} {len cap : Nat} (hu : P.underlying t = some (.slice e)) (hx : ρ.ev x = some (.slice a0 len cap)) (ha0 : ats[0]? = some t) :
    YO P ⟨dst, .call { callee := .builtin .len, args := [x].toArray, argTypes := ats }, ty, pos, af, g⟩ n D ρ C (.int .i64 len) :=
  .of fun a ha w _ => by
    simp only [execOp, resolve, List.map_toArray, List.map_cons, List.map_nil, ha.ev hx, Sem.run_bind, invoke, builtin, pure, Sem.run, Result.andThen_ok]
    simp only [Builtin.len_, ha0, List.getElem?_toArray, List.getElem?_cons_zero, Sem.run_bind, run_underlying hu, Result.andThen_ok]
    rfl
theorem y_lenStr {t : Nat} {ats : Array TypeId} {x : Operand} {s : ByteArray} (hu : P.underlying t = some .string) (hx : ρ.ev x = some (.string s)) (ha0 : ats[0]? = some t) :
    YO P ⟨dst, .call { callee := .builtin .len, args := [x].toArray, argTypes := ats }, ty, pos, af, g⟩ n D ρ C (.int .i64 s.size) :=
  .of fun a ha w _ => by
    simp only [execOp, resolve, List.map_toArray, List.map_cons, List.map_nil, ha.ev hx, Sem.run_bind, invoke, builtin, pure, Sem.run, Result.andThen_ok]
    simp only [Builtin.len_, ha0, List.getElem?_toArray, List.getElem?_cons_zero, Sem.run_bind, run_underlying hu, Result.andThen_ok]
    rfl
/-- a field of a struct by value -/
def FV (P : Program) (s i off n : Nat) (ag : Bool) : Prop := ∀ w (l : List Value), (Instr.field s (.agg l.toArray) i).run P w = (if ag then .ok (.agg ((l.drop off).take n).toArray) w else match l[off]? with | some v => .ok v w | none => .halt (.stuck "part: no such cell") w)
theorem fv_of {s i m off : Nat} {ag : Bool} {z : Value} {fs : Array Field} {f : Field} (hu : P.underlying s = some (.struct fs)) (hf : fs[i]? = some f) (ho : f.offset = off) (ht : Ty P f.type m ag z) : FV P s i off m ag := fun w l => by
  subst ho
  simp only [Instr.field, Sem.run_bind, run_underlying hu, Result.andThen_ok, hf, asAgg, part, ht.agg, pure, Sem.run]
  cases ag with
  | true =>
    simp only [if_true, Sem.run_bind, ht.size, Result.andThen_ok]
    simp only [pure, Sem.run]
    congr 2
    rw [List.extract_toArray, List.extract_eq_take_drop, show f.offset + m - f.offset = m by omega]
  | false =>
    simp only [Bool.false_eq_true, if_false, List.getElem?_toArray]
    cases l[f.offset]? <;> rfl
theorem y_fieldA {s i off m : Nat} {x : Operand} {l r : List Value} (h : FV P s i off m true) (hx : ρ.ev x = some (.agg l.toArray)) (he : Ex l off m r) : YO P ⟨dst, .field s x i, ty, pos, af, g⟩ n D ρ C (.agg r.toArray) :=
  .of fun a ha w _ => by
    simp only [execOp, ha.ev hx]
    exact run_val (by rw [h w l, if_pos rfl, he.spec.1])
theorem y_field1 {s i off m : Nat} {x : Operand} {l : List Value} {v : Value} (h : FV P s i off m false) (hx : ρ.ev x = some (.agg l.toArray)) (he : Nth l off v) : YO P ⟨dst, .field s x i, ty, pos, af, g⟩ n D ρ C v :=
  .of fun a ha w _ => by
    simp only [execOp, ha.ev hx]
    exact run_val (by rw [h w l, if_neg (by simp), he.get])
/-- a struct or an array written out -/
inductive Fill (place : Nat → Option (Nat × Nat)) : List Value → List (Nat × Value) → List Value → Prop
  | d {l} : Fill place l [] l
  | c {i off m v r l l' l'' rest} (hp : place i = some (off, m)) (hv : Cl v r) (hr : r.length = m) (hm : Nat.ble (off + m) l.length = true) (hu : Up l off r l') (h : Fill place l' rest l'') : Fill place l ((i, v) :: rest) l''
theorem foldl_up : ∀ (r : List Value) (l : List Value) (off k : Nat), ((r.zipIdx k).foldl (fun cs (c, j) => cs.setIfInBounds (off + j) c) l.toArray) = (setAll l (off + k) r).toArray
  | [], l, off, k => rfl
  | v :: r, l, off, k => by
    simp only [List.zipIdx_cons, List.foldl_cons, setAll]
    rw [List.setIfInBounds_toArray, foldl_up r _ off (k + 1)]; rfl
theorem Fill.run {place : Nat → Option (Nat × Nat)} {l : List Value} {ps : List (Nat × Value)} {l' : List Value} (h : Fill place l ps l') : Instr.fill place l.toArray ps = some l'.toArray := by
  induction h with
  | d => rfl
  | @c i off m v r l l' l'' rest hp hv hr hm hu h ih =>
    simp only [Instr.fill, hp, hv.cells]
    have hm : off + m ≤ l.length := by simpa using hm
    rw [if_neg (by simp [hr]; omega)]
    rw [← Array.foldl_toList, Array.toList_zipIdx]
    have e0 : (r.zipIdx 0).foldl (fun (cs : Array Value) (p : Value × Nat) => cs.setIfInBounds (off + p.2) p.1) l.toArray = (Px.setAll l (off + 0) r).toArray := foldl_up r l off 0
    simp only [List.zipIdx] at e0 ⊢
    rw [Nat.add_zero, hu.setAll] at e0
    rw [← ih, ← e0]
/-- where the parts of type t lie, for 'build' -/
def Pl (P : Program) (t : Nat) (places : List (Nat × Nat)) : Prop := ∃ fs, P.underlying t = some (.struct fs) ∧ ∀ w, (fs.mapM fun f => do pure (f.offset, ← sizeOf f.type) : Sem (Array (Nat × Nat))).run P w = .ok places.toArray w
theorem y_build {t m : Nat} {places : List (Nat × Nat)} {xs : List (Nat × Operand)} {vs : List (Nat × Value)} {z : Value} {l l' : List Value} (hp : Pl P t places) (ht : Ty P t m true z) (hz : Cl z l) (hx : EvsI ρ xs vs) (hf : Fill (fun i : Nat => places[i]?) l vs l') :
    YO P ⟨dst, .build t xs.toArray, ty, pos, af, g⟩ n D ρ C (.agg l'.toArray) :=
  .of fun a ha w _ => by
    obtain ⟨fs, hu, hpl⟩ := hp
    simp only [execOp]
    rw [hx.map ha]
    refine run_val ?_
    simp only [Instr.build, Sem.run_bind, ht.zero, Result.andThen_ok, run_underlying hu, hpl, hz.cells]
    have := hf.run
    have e : (fun i : Nat => places.toArray[i]?) = (fun i : Nat => places[i]?) := by funext i; simp
    rw [e, this]
    rfl
theorem y_buildArr {t e sz len m : Nat} {ag : Bool} {ze : Value} {xs : List (Nat × Operand)} {vs : List (Nat × Value)} {z : Value} {l l' : List Value} (hu : P.underlying t = some (.array len e)) (he : Ty P e sz ag ze) (ht : Ty P t m true z) (hz : Cl z l) (hx : EvsI ρ xs vs) (hf : Fill (fun i => some (i * sz, sz)) l vs l') :
    YO P ⟨dst, .build t xs.toArray, ty, pos, af, g⟩ n D ρ C (.agg l'.toArray) :=
  .of fun a ha w _ => by
    simp only [execOp]
    rw [hx.map ha]
    refine run_val ?_
    simp only [Instr.build, Sem.run_bind, ht.zero, Result.andThen_ok, run_underlying hu, he.size, hz.cells]
    rw [hf.run]
    rfl
/-- a slice written out: a new block -/
theorem n_buildSlice {d t e sz len : Nat} {ag : Bool} {ze : Value} {xs : List (Nat × Operand)} {vs : List (Nat × Value)} {zs l l' : List Value} (hu : P.underlying t = some (.slice e)) (he : Ty P e sz ag ze) (hze : Cl ze zs) (hbig : Nat.ble (len * sz) 16777216 = true)
    (h0 : (len * sz = 0) = False) (hl : ((Array.range (len * sz)).map (zs.toArray[· % zs.toArray.size]!)) = l.toArray) (hx : EvsI ρ xs vs) (hf : Fill (fun i => some (i * sz, sz)) l vs l') (hn : Nat.blt d n = true) :
    NO P ⟨some d, .buildSlice t len xs.toArray, ty, pos, af, g⟩ n D ρ (Cls A L) (fun _ : Nat => True) (fun b => (d, .slice (some ⟨b, 0, none⟩) len len) :: ρ) (fun b => Cls A ((b, blk l' e) :: L)) :=
  NO.of rfl hn fun a ha w hw => ⟨w.heap.size, w.alloc (blk l' e), trivial, by
    simp only [execOp]
    rw [hx.map ha]
    refine run_val' ?_
    have hb : ¬ (len * sz > 2 ^ 24) := by have : len * sz ≤ 16777216 := by simpa using hbig
                                          omega
    simp only [Instr.buildSlice, Sem.run_bind, run_underlying hu, Result.andThen_ok, he.size, if_neg hb, h0, if_false, he.zero, hze.cells, pure, Sem.run]
    rw [hl, hf.run]
    simp only [Sem.run_bind, newRow]
    rfl, hw.alloc _⟩
theorem y_makeFunc {k : FuncId} {fx cx : List Operand} {fs cs : List Value} (hf : Evs ρ fx fs) (hc : Evs ρ cx cs) : YO P ⟨dst, .makeFunc (.func k) fx.toArray cx.toArray, ty, pos, af, g⟩ n D ρ C (.func (.func k) fs.toArray cs.toArray) :=
  .of fun a ha w _ => by
    simp only [execOp, hf.map ha, hc.map ha]
    exact run_val (by simp only [Instr.makeFunc]; rfl)
theorem y_nilCheck {x : Operand} {ad : Addr} (hx : ρ.ev x = some (.pointer (some ad))) : YO P ⟨dst, .nilCheck x, ty, pos, af, g⟩ n D ρ C (.pointer (some ad)) :=
  .of fun a ha w _ => by simp only [execOp, ha.ev hx]; rfl
theorem y_nilCheckF {x : Operand} {k : FuncId} {fs cs : Array Value} (hx : ρ.ev x = some (.func (.func k) fs cs)) : YO P ⟨dst, .nilCheck x, ty, pos, af, g⟩ n D ρ C (.func (.func k) fs cs) :=
  .of fun a ha w _ => by simp only [execOp, ha.ev hx]; rfl
theorem y_min3 {ats : Array TypeId} {x0 x1 x2 : Operand} {k : IntKind} {m0 m1 m2 : Int} (h0 : ρ.ev x0 = some (.int k m0)) (h1 : ρ.ev x1 = some (.int k m1)) (h2 : ρ.ev x2 = some (.int k m2)) :
    YO P ⟨dst, .call { callee := .builtin .min, args := [x0, x1, x2].toArray, argTypes := ats }, ty, pos, af, g⟩ n D ρ C (.int k (min (min m0 m1) m2)) :=
  y_minN (l := [m1, m2]) (.c h0 (.c h1 (.c h2 .n)))
theorem y_min4 {ats : Array TypeId} {x0 x1 x2 x3 : Operand} {k : IntKind} {m0 m1 m2 m3 : Int} (h0 : ρ.ev x0 = some (.int k m0)) (h1 : ρ.ev x1 = some (.int k m1)) (h2 : ρ.ev x2 = some (.int k m2)) (h3 : ρ.ev x3 = some (.int k m3)) :
    YO P ⟨dst, .call { callee := .builtin .min, args := [x0, x1, x2, x3].toArray, argTypes := ats }, ty, pos, af, g⟩ n D ρ C (.int k (min (min (min m0 m1) m2) m3)) :=
  y_minN (l := [m1, m2, m3]) (.c h0 (.c h1 (.c h2 (.c h3 .n))))
theorem y_max3 {ats : Array TypeId} {x0 x1 x2 : Operand} {k : IntKind} {m0 m1 m2 : Int} (h0 : ρ.ev x0 = some (.int k m0)) (h1 : ρ.ev x1 = some (.int k m1)) (h2 : ρ.ev x2 = some (.int k m2)) :
    YO P ⟨dst, .call { callee := .builtin .max, args := [x0, x1, x2].toArray, argTypes := ats }, ty, pos, af, g⟩ n D ρ C (.int k (max (max m0 m1) m2)) :=
  y_maxN (l := [m1, m2]) (.c h0 (.c h1 (.c h2 .n)))
theorem y_max4 {ats : Array TypeId} {x0 x1 x2 x3 : Operand} {k : IntKind} {m0 m1 m2 m3 : Int} (h0 : ρ.ev x0 = some (.int k m0)) (h1 : ρ.ev x1 = some (.int k m1)) (h2 : ρ.ev x2 = some (.int k m2)) (h3 : ρ.ev x3 = some (.int k m3)) :
    YO P ⟨dst, .call { callee := .builtin .max, args := [x0, x1, x2, x3].toArray, argTypes := ats }, ty, pos, af, g⟩ n D ρ C (.int k (max (max (max m0 m1) m2) m3)) :=
  y_maxN (l := [m1, m2, m3]) (.c h0 (.c h1 (.c h2 (.c h3 .n))))
end
end Go.Px
