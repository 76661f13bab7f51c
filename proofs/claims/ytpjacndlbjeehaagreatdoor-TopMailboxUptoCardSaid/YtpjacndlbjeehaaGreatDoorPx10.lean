/-
  Px, part 10: strings; maps from numbers to true; ranges over them.
-/
import Derived.Test.YtpjacndlbjeehaaGreatDoorPx9
import Derived.Laws.Concat
import Derived.Laws.StructEq
import Derived.Laws.Sem
namespace Go.Px
open Go Go.RowKit Go.MapKept
set_option linter.unusedVariables false
set_option linter.unusedSimpArgs false
section
variable {P : Program} {Q : Exit → Act → World → Prop} {dst : Option Tmp} {n : Nat} {D : List Deferred} {ρ : Env} {C : World → Prop} {A : List (World × List Nat)} {L : List Loc} {ty : TypeId} {pos : String} {af : Array Edge} {g : Option (Nat × Bool)}
/-! ### strings -/
theorem y_strAdd {xt yt : TypeId} {x y : Operand} {a b : ByteArray} (hx : ρ.ev x = some (.string a)) (hy : ρ.ev y = some (.string b)) (h : a.size + b.size ≤ 9223372036854775807) : YO P ⟨dst, .binOp .add xt x y yt, ty, pos, af, g⟩ n D ρ C (.string (a ++ b)) :=
  y_bin hx hy (fun w => eqGuard_string w) fun w => by simp only [binOp]; exact run_string_add_sum w a b h
theorem y_strEq {xt yt : TypeId} {x y : Operand} {a b : ByteArray} (hx : ρ.ev x = some (.string a)) (hy : ρ.ev y = some (.string b)) : YO P ⟨dst, .binOp .eql xt x y yt, ty, pos, af, g⟩ n D ρ C (.bool (a.toList == b.toList)) :=
  y_bin hx hy (fun w => eqGuard_string w) fun w => by simp only [binOp]; rfl
theorem y_strNe {xt yt : TypeId} {x y : Operand} {a b : ByteArray} (hx : ρ.ev x = some (.string a)) (hy : ρ.ev y = some (.string b)) : YO P ⟨dst, .binOp .neq xt x y yt, ty, pos, af, g⟩ n D ρ C (.bool (!(a.toList == b.toList))) :=
  y_bin hx hy (fun w => eqGuard_string w) fun w => by simp only [binOp]; rfl
/-! ### structs within structs, compared -/
def EqG (P : Program) (xs ys : List Value) (fs : List Field) (r : Bool) : Prop := ∀ d w, (Op.eqFields (d + 9) xs.toArray ys.toArray fs).run P w = .ok r w
theorem EqG.nil {xs ys : List Value} : EqG P xs ys [] true := fun d w => by simp [Op.eqFields]
theorem EqG.one {xs ys : List Value} {f : Field} {fs : List Field} {m : Nat} {z a b : Value} {r s : Bool} (hn : (f.name == "_") = false) (ht : Ty P f.type m false z) (ha : Nth xs f.offset a) (hb : Nth ys f.offset b) (he : EqV P f.type a b r) (h : EqG P xs ys fs s) : EqG P xs ys (f :: fs) (r && s) := fun d w => by
  have hn' : f.name ≠ "_" := by simpa using hn
  have e1 : (part f.type xs.toArray f.offset).run P w = .ok a w := by simp [part, ht.agg, ha.get]
  have e2 : (part f.type ys.toArray f.offset).run P w = .ok b w := by simp [part, ht.agg, hb.get]
  have e3 : (Op.equalIn (d + 9) f.type a b).run P w = .ok r w := he (d + 1) w
  simp only [Op.eqFields, if_pos hn', Sem.run_bind, e1, e2, e3, Result.andThen_ok]
  cases r
  · simp
  · simpa using h d w
theorem part_agg {f : Field} {m : Nat} {z : Value} {xs as : List Value} (ht : Ty P f.type m true z) (ha : Ex xs f.offset m as) (w : World) : (part f.type xs.toArray f.offset).run P w = .ok (.agg as.toArray) w := by
  simp only [part, ht.agg, ht.size, Sem.run_bind, Result.andThen_ok, if_true, pure, Sem.run]
  congr 2
  rw [List.extract_toArray, List.extract_eq_take_drop, show f.offset + m - f.offset = m by omega, ha.spec.1]
theorem EqG.agg {xs ys as bs : List Value} {f : Field} {fs : List Field} {fs' : Array Field} {m : Nat} {z : Value} {r s : Bool} (hn : (f.name == "_") = false) (ht : Ty P f.type m true z) (ha : Ex xs f.offset m as) (hb : Ex ys f.offset m bs) (hu : P.underlying f.type = some (.struct fs')) (hp : P.stoodInHeld f.type = false)
    (he : EqF P as bs fs'.toList r) (h : EqG P xs ys fs s) : EqG P xs ys (f :: fs) (r && s) := fun d w => by
  have hn' : f.name ≠ "_" := by simpa using hn
  have e1 := part_agg ht ha w
  have e2 := part_agg ht hb w
  have hf : P.fieldsOf f.type = fs' := by simp [Program.fieldsOf, hu]
  have e3 : (Op.equalIn (d + 9) f.type (.agg as.toArray) (.agg bs.toArray)).run P w = .ok r w := by
    rw [show d + 9 = (d + 8) + 1 from rfl, run_equalIn_struct (P := P) w (d + 8) f.type as.toArray bs.toArray (by rw [hf]; exact hu) hp, hf]
    exact he d w
  simp only [Op.eqFields, if_pos hn', Sem.run_bind, e1, e2, e3, Result.andThen_ok]
  cases r
  · simp
  · simpa using h d w
theorem y_eqG {t yt : TypeId} {x y : Operand} {xs ys : List Value} {fs : Array Field} {r : Bool} (hu : P.underlying t = some (.struct fs)) (hg : P.eqGuardType P.depth t = false) (hp : P.stoodInHeld t = false) (hx : ρ.ev x = some (.agg xs.toArray)) (hy : ρ.ev y = some (.agg ys.toArray)) (h : EqG P xs ys fs.toList r) :
    YO P ⟨dst, .binOp .eql t x y yt, ty, pos, af, g⟩ n D ρ C (.bool r) :=
  y_bin hx hy (fun w => run_eqGuard_agg w .eql t x y xs.toArray ys.toArray hg) fun w => by
    have hf : P.fieldsOf t = fs := by simp [Program.fieldsOf, hu]
    have e : (Op.equalIn 10000 t (.agg xs.toArray) (.agg ys.toArray)).run P w = .ok r w := by
      rw [show (10000 : Nat) = 9999 + 1 from rfl, run_equalIn_struct (P := P) w 9999 t xs.toArray ys.toArray (by rw [hf]; exact hu) hp, hf]
      exact h 9990 w
    rw [run_eql_struct, e]; rfl
theorem y_neG {t yt : TypeId} {x y : Operand} {xs ys : List Value} {fs : Array Field} {r : Bool} (hu : P.underlying t = some (.struct fs)) (hg : P.eqGuardType P.depth t = false) (hp : P.stoodInHeld t = false) (hx : ρ.ev x = some (.agg xs.toArray)) (hy : ρ.ev y = some (.agg ys.toArray)) (h : EqG P xs ys fs.toList r) :
    YO P ⟨dst, .binOp .neq t x y yt, ty, pos, af, g⟩ n D ρ C (.bool (!r)) :=
  y_bin hx hy (fun w => run_eqGuard_agg w .neq t x y xs.toArray ys.toArray hg) fun w => by
    have hf : P.fieldsOf t = fs := by simp [Program.fieldsOf, hu]
    have e : (Op.equalIn 10000 t (.agg xs.toArray) (.agg ys.toArray)).run P w = .ok r w := by
      rw [show (10000 : Nat) = 9999 + 1 from rfl, run_equalIn_struct (P := P) w 9999 t xs.toArray ys.toArray (by rw [hf]; exact hu) hp, hf]
      exact h 9990 w
    rw [run_neq_struct, e]; rfl
/-! ### maps from numbers to true -/
abbrev KB := Int × Nat
def mT (p : KB) : MapEntry := ⟨.int .i64 p.1, .bool true, p.2⟩
def mObjT (ks : List KB) (c : Nat) : Obj := .map (ks.map mT).toArray c
theorem findNow_T (t : Int) : ∀ (ks : List KB) (i : Nat), ∃ r, Instr.findNow (.int .i64) (.int .i64 t) (ks.map mT) i = some r ∧
    ((r = none ∧ ∀ p ∈ ks, p.1 ≠ t) ∨ ∃ p l1 l2, r = some (i + l1.length, .bool true) ∧ ks = l1 ++ p :: l2 ∧ p.1 = t)
  | [], i => ⟨none, rfl, .inl ⟨rfl, by simp⟩⟩
  | p :: ks, i => by
    by_cases h : t = p.1
    · refine ⟨some (i, .bool true), ?_, .inr ⟨p, [], ks, rfl, rfl, h.symm⟩⟩
      simp [Instr.findNow, mT, Instr.sameNow, h]
    · obtain ⟨r, h1, h2⟩ := findNow_T t ks (i + 1)
      refine ⟨r, ?_, ?_⟩
      · simp only [List.map_cons, Instr.findNow, mT, Instr.sameNow, if_true]
        rw [show (t == p.1) = false by simpa using h]
        exact h1
      · rcases h2 with ⟨h3, h4⟩ | ⟨q, l1, l2, h3, h4, h5⟩
        · exact .inl ⟨h3, fun q hq => by rcases List.mem_cons.1 hq with rfl | hq; exact fun e => h e.symm; exact h4 q hq⟩
        · exact .inr ⟨q, p :: l1, l2, by rw [h3, List.length_cons]; congr 2; omega, by rw [h4]; rfl, h5⟩
theorem y_lookupT {mt kt et mb c : Nat} {ks : List KB} {x y : Operand} {t : Int} {ag : Bool} {m : Nat} (hu : P.underlying mt = some (.map kt et)) (hk : P.underlying kt = some (.int .i64)) (he : Ty P et m ag (.bool false)) (hL : Mem L (mb, mObjT ks c)) (hx : ρ.ev x = some (.map (some mb))) (hy : ρ.ev y = some (.int .i64 t)) :
    YO P ⟨dst, .lookup mt x y false, ty, pos, af, g⟩ n D ρ (Cls A L) (.bool (decide (t ∈ ks.map (·.1)))) :=
  .of fun a ha w hw => by
    obtain ⟨r, h1, h2⟩ := findNow_T t ks 0
    have hb : w.heap[mb]? = some (.map ((ks.map mT).toArray) c) := hw.loc _ hL.mem
    have hf := run_findKey (w := w) hk h1
    have hc := fun e => run_checkKey (P := P) (w := w) hk (k := .int .i64 t) (by simp [IsKey]) e 9999
    simp only [execOp, ha.ev hx, ha.ev hy]
    refine run_val ?_
    simp only [Instr.lookup, Sem.run_bind, run_underlying hu, Result.andThen_ok, Go.MapKept.run_getObj_map hb]
    rcases h2 with ⟨rfl, h3⟩ | ⟨p, l1, l2, rfl, h3, h4⟩
    · have hn : decide (t ∈ ks.map (·.1)) = false := by
        simp only [decide_eq_false_iff_not, List.mem_map, not_exists, not_and]
        exact h3
      rw [hn]
      simp [hc, hf, he.zero]
    · have hn : decide (t ∈ ks.map (·.1)) = true := by
        simp only [decide_eq_true_eq, List.mem_map]
        exact ⟨p, by rw [h3]; simp, h4⟩
      rw [hn]
      simp [hc, hf]
def setT (ks : List KB) (c : Nat) (t : Int) : List KB × Nat := if t ∈ ks.map (·.1) then (ks, c) else (ks ++ [(t, c)], c + 1)
theorem sameBits_int (k : IntKind) (t : Int) (m : Nat) : Instr.sameBits (m + 1) (.int k t) (.int k t) = true := by simp [Instr.sameBits]
theorem n_setT {mt kt et mb c : Nat} {ks : List KB} {x y z : Operand} {t : Int} {L' : List Loc} (hu : P.underlying mt = some (.map kt et)) (hk : P.underlying kt = some (.int .i64)) (hx : ρ.ev x = some (.map (some mb))) (hy : ρ.ev y = some (.int .i64 t)) (hz : ρ.ev z = some (.bool true))
    (hL : LSet L mb (mObjT ks c) (mObjT (setT ks c t).1 (setT ks c t).2) L') :
    NO P ⟨none, .mapUpdate mt x y z, ty, pos, af, g⟩ n D ρ (Cls A L) (fun _ : Unit => True) (fun _ => ρ) (fun _ => Cls A L') :=
  NO.of0 rfl fun a ha w hw => by
    obtain ⟨r, h1, h2⟩ := findNow_T t ks 0
    have hb : w.heap[mb]? = some (.map ((ks.map mT).toArray) c) := hw.loc _ hL.mem
    have hc := fun e => run_checkKey (P := P) (w := w) hk (k := .int .i64 t) (by simp [IsKey]) e 9999
    have hf := run_findKey (w := w) hk h1
    obtain ⟨e1, e2⟩ := Go.MapKept.heap_set (o' := mObjT (setT ks c t).1 (setT ks c t).2) hb
    refine ⟨(), { w with heap := w.heap.setIfInBounds mb (mObjT (setT ks c t).1 (setT ks c t).2) }, trivial, ?_, hw.set hL rfl rfl rfl (by simp) e1 (fun i _ hne => e2 i hne)⟩
    simp only [execOp, ha.ev hx, ha.ev hy, ha.ev hz]
    refine run_unit ?_
    simp only [Instr.mapUpdate, Sem.run_bind, run_underlying hu, Result.andThen_ok, Go.MapKept.run_getObj_map hb]
    rcases h2 with ⟨rfl, h3⟩ | ⟨p, l1, l2, rfl, h3, h4⟩
    · have hn : t ∉ ks.map (·.1) := fun h => by obtain ⟨p, hp, e⟩ := List.mem_map.1 h; exact h3 p hp e
      have e3 : setT ks c t = (ks ++ [(t, c)], c + 1) := if_neg hn
      have e4 : Obj.map (ks.map mT ++ [(⟨.int .i64 t, .bool true, c⟩ : MapEntry)]).toArray (c + 1) = mObjT (setT ks c t).1 (setT ks c t).2 := by rw [e3]; simp [mObjT, mT]
      simp [hc, hf, Go.MapKept.run_setObj_map _ hb]
      rw [e4]
    · have hi : t ∈ ks.map (·.1) := List.mem_map.2 ⟨p, by rw [h3]; simp, h4⟩
      have e3 : setT ks c t = (ks, c) := if_pos hi
      have e4 : (((ks.map mT).toArray)[l1.length]?).map (·.key) = some (.int .i64 t) := by
        rw [h3]; simp [mT, h4]
      have e5 : ((ks.map mT).toArray).modify l1.length (fun e => { e with key := .int .i64 t, val := .bool true }) = (ks.map mT).toArray := by
        apply Array.ext
        · simp
        · intro i hi1 hi2
          rw [Array.getElem_modify]
          split
          · rename_i hh
            subst hh
            have : (ks.map mT).toArray[l1.length] = mT p := by simp [h3]
            rw [this, mT, h4]
          · rfl
      have e6 : (Instr.keyThatStays (.int .i64 t) (.int .i64 t)).run P w = .ok (.int .i64 t) w := by
        simp only [Instr.keyThatStays, sameBits_int, if_true]; rfl
      rw [e3]
      rw [show ((9999 : Nat) + 1) = 10000 from rfl] at hc
      simp only [hc, hf, Result.andThen_ok, Nat.zero_add, e4, Option.getD_some, Sem.run_bind, e6]
      rw [e5]
      exact Go.MapKept.run_setObj_map _ hb
theorem NO.of0v {o : Oper} {α : Type} {H : α → Prop} {C' : α → World → Prop} (hd : o.dst = none)
    (h : ∀ a, AgT n D ρ a → ∀ w, C w → ∃ x v w', H x ∧ (execOp a.eval o).run P w = .ok (.value v) w' ∧ C' x w') : NO P o n D ρ C H (fun _ => ρ) C' := fun a w ha hw K Q hK => by
  obtain ⟨x, v, w', hx, hr, hc⟩ := h a ha w hw
  unfold Oper.wp
  rw [hr]
  show K (a.put o.dst v) w'
  rw [hd]
  exact hK x hx a w' ha hc
def delT (ks : List KB) (t : Int) : List KB := ks.filter fun p => decide (p.1 ≠ t)
theorem delT_split {ks l1 l2 : List KB} {p : KB} {t : Int} (hnd : (ks.map (·.1)).Nodup) (h : ks = l1 ++ p :: l2) (hp : p.1 = t) : delT ks t = l1 ++ l2 := by
  subst h hp
  simp only [List.map_append, List.map_cons, List.nodup_append, List.nodup_cons] at hnd
  have e1 : l1.filter (fun q => decide (q.1 ≠ p.1)) = l1 := List.filter_eq_self.2 fun q hq => by
    simp only [decide_eq_true_eq]
    exact hnd.2.2 q.1 (List.mem_map.2 ⟨q, hq, rfl⟩) p.1 (by simp)
  have e2 : l2.filter (fun q => decide (q.1 ≠ p.1)) = l2 := List.filter_eq_self.2 fun q hq => by
    simp only [decide_eq_true_eq]
    exact fun e => hnd.2.1.1 (e ▸ List.mem_map.2 ⟨q, hq, rfl⟩)
  unfold delT
  rw [List.filter_append, List.filter_cons, if_neg (by simp), e1, e2]
theorem delT_none {ks : List KB} {t : Int} (h : ∀ p ∈ ks, p.1 ≠ t) : delT ks t = ks := List.filter_eq_self.2 fun q hq => by simpa using h q hq
theorem n_delT {mt kt et mb c : Nat} {ks : List KB} {x y : Operand} {t : Int} {ats : Array TypeId} {L' : List Loc} (hu : P.underlying mt = some (.map kt et)) (hk : P.underlying kt = some (.int .i64)) (ha0 : ats[0]? = some mt) (hx : ρ.ev x = some (.map (some mb))) (hy : ρ.ev y = some (.int .i64 t))
    (hnd : (ks.map (·.1)).Nodup) (hL : LSet L mb (mObjT ks c) (mObjT (delT ks t) c) L') :
    NO P ⟨none, .call { callee := .builtin .delete, args := [x, y].toArray, argTypes := ats }, ty, pos, af, g⟩ n D ρ (Cls A L) (fun _ : Unit => True) (fun _ => ρ) (fun _ => Cls A L') :=
  NO.of0v rfl fun a ha w hw => by
    obtain ⟨r, h1, h2⟩ := findNow_T t ks 0
    have hb : w.heap[mb]? = some (.map ((ks.map mT).toArray) c) := hw.loc _ hL.mem
    have hc := fun e => run_checkKey (P := P) (w := w) hk (k := .int .i64 t) (by simp [IsKey]) e 9999
    have hf := run_findKey (w := w) hk h1
    obtain ⟨e1, e2⟩ := Go.MapKept.heap_set (o' := mObjT (delT ks t) c) hb
    refine ⟨(), .tuple #[], { w with heap := w.heap.setIfInBounds mb (mObjT (delT ks t) c) }, trivial, ?_, hw.set hL rfl rfl rfl (by simp) e1 (fun i _ hne => e2 i hne)⟩
    have hd : (Builtin.delete_ ats ty #[.map (some mb), .int .i64 t]).run P w = .ok (.tuple #[]) { w with heap := w.heap.setIfInBounds mb (mObjT (delT ks t) c) } := by
      rw [show ((9999 : Nat) + 1) = 10000 from rfl] at hc
      have h0 : (#[Value.map (some mb), Value.int .i64 t] : Array Value)[0]? = some (.map (some mb)) := rfl
      have h0' : (#[Value.map (some mb), Value.int .i64 t] : Array Value)[1]? = some (.int .i64 t) := rfl
      simp only [Builtin.delete_, ha0, h0, h0', Sem.run_bind, run_underlying hu, Result.andThen_ok, Go.MapKept.run_getObj_map hb, hc, hf]
      rcases h2 with ⟨rfl, h3⟩ | ⟨p, l1, l2, rfl, h3, h4⟩
      · rw [delT_none h3]
        simp only [Sem.run_bind]
        rw [Go.MapKept.run_setObj_map _ hb]
        rfl
      · have e4 : ((ks.map mT).toArray).eraseIdxIfInBounds (0 + l1.length) = ((delT ks t).map mT).toArray := by
          rw [delT_split hnd h3 h4, h3]
          simp [List.eraseIdx_append_of_length_le]
        simp only [e4, Sem.run_bind]
        rw [Go.MapKept.run_setObj_map _ hb]
        rfl
    simp only [execOp, resolve, List.map_toArray, List.map_cons, List.map_nil, ha.ev hx, ha.ev hy, Sem.run_bind, invoke, builtin, pure, Sem.run, Result.andThen_ok]
    rw [hd]; rfl
/-! ### ranges over such a map -/
def itT (m c : Nat) (vis : List KB) : Obj := .mapIter (some m) c (vis.map (·.2)).toArray c
/-- the entries of a map: stamped apart, all of them before the map's own count -/
structure MapT (ks : List KB) (c : Nat) : Prop where
  nk : (ks.map (·.1)).Nodup
  nb : (ks.map (·.2)).Nodup
  lt : ∀ p ∈ ks, p.2 < c
theorem MapT.nil : MapT [] 0 := ⟨by simp, by simp, by simp⟩
theorem MapT.set {ks : List KB} {c : Nat} (h : MapT ks c) (t : Int) : MapT (setT ks c t).1 (setT ks c t).2 := by
  unfold setT
  split
  · exact h
  · rename_i hn
    refine ⟨?_, ?_, ?_⟩
    · rw [List.map_append, List.nodup_append]
      exact ⟨h.nk, by simp, fun a ha b hb => by simp at hb; subst hb; exact fun e => hn (e ▸ ha)⟩
    · rw [List.map_append, List.nodup_append]
      refine ⟨h.nb, by simp, fun a ha b hb => ?_⟩
      simp at hb; subst hb
      obtain ⟨p, hp, rfl⟩ := List.mem_map.1 ha
      have := h.lt p hp
      omega
    · intro p hp
      rcases List.mem_append.1 hp with hp | hp
      · have := h.lt p hp; dsimp only; omega
      · obtain rfl := List.mem_singleton.1 hp; dsimp only; omega
theorem MapT.del {ks : List KB} {c : Nat} (h : MapT ks c) (t : Int) : MapT (delT ks t) c :=
  ⟨h.nk.sublist (List.Sublist.map _ (List.filter_sublist ..)), h.nb.sublist (List.Sublist.map _ (List.filter_sublist ..)), fun p hp => h.lt p (List.mem_filter.1 hp).1⟩
theorem n_rangeT {d mt kt et mb c : Nat} {ks : List KB} {x : Operand} (hu : P.underlying mt = some (.map kt et)) (hL : Mem L (mb, mObjT ks c)) (hx : ρ.ev x = some (.map (some mb))) (hn : Nat.blt d n = true) :
    NO P ⟨some d, .range mt x, ty, pos, af, g⟩ n D ρ (Cls A L) (fun _ : Nat => True) (fun b => (d, .pointer (some ⟨b, 0, none⟩)) :: ρ) (fun b => Cls A ((b, itT mb c []) :: L)) :=
  NO.of rfl hn fun a ha w hw => by
    have hb : w.heap[mb]? = some (.map ((ks.map mT).toArray) c) := hw.loc _ hL.mem
    refine ⟨w.heap.size, w.alloc (itT mb c []), trivial, ?_, hw.alloc _⟩
    simp only [execOp, ha.ev hx]
    refine run_val' ?_
    simp only [Instr.range, Sem.run_bind, run_underlying hu, Result.andThen_ok, Go.MapKept.run_getObj_map hb]
    rfl
theorem run_getObj_it {w : World} {r m c l : Nat} {s : Array Nat} (h : w.heap[r]? = some (.mapIter (some m) c s l)) : (getObj r).run P w = .ok (.mapIter (some m) c s l) w := by simp [getObj, Sem.run, h]
theorem run_setObj_it {w : World} {r m c l : Nat} {s : Array Nat} (o' : Obj) (h : w.heap[r]? = some (.mapIter (some m) c s l)) : (setObj r o').run P w = .ok () { w with heap := w.heap.setIfInBounds r o' } := by simp [setObj, Sem.run, h]
theorem run_choose_next {w : World} {n : Nat} (hn : 0 < n) : ∃ i w1, (choose (.mapNext n)).run P w = .ok i w1 ∧ i < n ∧ Gr w w1 ∧ w1.heap = w.heap := by
  by_cases h : n ≤ 1
  · refine ⟨0, w, ?_, hn, Gr.refl w, rfl⟩
    rw [run_choose, if_pos (by simpa [Question.forced] using h)]
  · refine ⟨_, _, ?_, Nat.mod_lt (w.tape w.drawn (.mapNext n)) hn, Gr.drawn w, rfl⟩
    rw [run_choose, if_neg (by simpa [Question.forced] using h)]
    rfl
def nextV : Option KB → Value
  | none => .tuple #[.bool false]
  | some p => .tuple #[.bool true, .int .i64 p.1, .bool true]
def visT (vis : List KB) : Option KB → List KB
  | none => vis
  | some p => vis ++ [p]
theorem next_runT {mb ib c : Nat} {ks vis : List KB} (hk : MapT ks c) (hvis : ∀ p ∈ vis, p ∈ ks) {w : World} (hm : w.heap[mb]? = some (mObjT ks c)) (hi : w.heap[ib]? = some (itT mb c vis)) :
    ∃ x w1, ((x = none ∧ ∀ p ∈ ks, p ∈ vis) ∨ ∃ p, x = some p ∧ p ∈ ks ∧ p ∉ vis) ∧ Gr w w1 ∧ w1.heap = w.heap ∧
      (Instr.next (.pointer (some ⟨ib, 0, none⟩)) false ty).run P w = .ok (nextV x) (match x with | none => w1 | some p => { w1 with heap := w1.heap.setIfInBounds ib (itT mb c (vis ++ [p])) }) := by
  have hborn : ∀ e ∈ (ks.map mT).toArray, e.born < c := fun e he => by
    obtain ⟨p, hp, rfl⟩ := List.mem_map.1 (List.mem_toArray.1 he)
    exact hk.lt p hp
  have hcond : (!(vis.map (·.2)).toArray.isEmpty && !(ks.map mT).toArray.isEmpty && (ks.map mT).toArray.all (fun e => decide (e.born ≥ c))) = false := by
    cases hks : ks with
    | nil => simp
    | cons p l =>
      have h1 := hborn (mT p) (by rw [hks]; simp)
      have : ((p :: l).map mT).toArray.all (fun e => decide (e.born ≥ c)) = false := by
        rw [List.map_cons]
        simp only [List.all_toArray, List.all_cons]
        rw [decide_eq_false (by omega)]
        rfl
      rw [this, Bool.and_false]
  have hin : ∀ p ∈ ks, p.2 ∈ vis.map (·.2) → p ∈ vis := fun p hp h => by
    obtain ⟨q, hq, e⟩ := List.mem_map.1 h
    have hinj : ∀ (l : List KB), (l.map (·.2)).Nodup → ∀ a ∈ l, ∀ b ∈ l, a.2 = b.2 → a = b := by
      intro l
      induction l with
      | nil => intro _ a ha; simp at ha
      | cons x l ih =>
        intro hn a ha b hb hab
        rw [List.map_cons, List.nodup_cons] at hn
        rcases List.mem_cons.1 ha with ha' | ha' <;> rcases List.mem_cons.1 hb with hb' | hb'
        · rw [ha', hb']
        · exact absurd (List.mem_map.2 ⟨b, hb', by rw [← hab, ha']⟩) hn.1
        · exact absurd (List.mem_map.2 ⟨a, ha', by rw [hab, hb']⟩) hn.1
        · exact ih hn.2 a ha' b hb' hab
    rw [← hinj ks hk.nb q (hvis q hq) p hp e]; exact hq
  generalize hold : ((ks.map mT).toArray.filter fun e => !(vis.map (·.2)).toArray.contains e.born).filter (fun e => decide (e.born < c)) = old
  have hmem : ∀ e, e ∈ old ↔ ∃ p ∈ ks, mT p = e ∧ p ∉ vis := fun e => by
    subst hold
    simp only [Array.mem_filter, List.mem_toArray, List.mem_map, decide_eq_true_eq, Bool.not_eq_true', List.contains_toArray, List.contains_eq_mem, decide_eq_false_iff_not]
    constructor
    · rintro ⟨⟨⟨p, hp, rfl⟩, h2⟩, _⟩
      exact ⟨p, hp, rfl, fun hv => h2 ⟨p, hv, rfl⟩⟩
    · rintro ⟨p, hp, rfl, h2⟩
      exact ⟨⟨⟨p, hp, rfl⟩, fun hv => h2 (hin p hp (List.mem_map.2 hv))⟩, hk.lt p hp⟩
  have hnew : ((ks.map mT).toArray.filter fun e => !(vis.map (·.2)).toArray.contains e.born).filter (fun e => decide (e.born ≥ c)) = #[] := by
    apply Array.eq_empty_of_size_eq_zero
    rw [Array.size_eq_zero_iff, Array.filter_eq_empty_iff]
    intro e he
    have := hborn e (Array.mem_filter.1 he).1
    simp; omega
  have hgen : ∀ (cand : Array (Option MapEntry)), cand = (if old.isEmpty then #[none] else #[]) ++ (old ++ #[]).map some → 0 < cand.size ∧ ∀ ce ∈ cand, (ce = none ∧ ∀ p ∈ ks, p ∈ vis) ∨ ∃ p, ce = some (mT p) ∧ p ∈ ks ∧ p ∉ vis := fun cand hc => by
    subst hc
    by_cases he : old.isEmpty = true
    · rw [if_pos he]
      have he' : old = #[] := by simpa using he
      subst he'
      refine ⟨by simp, fun ce hce => .inl ⟨by simpa using hce, fun p hp => Classical.byContradiction fun hv => ?_⟩⟩
      have := (hmem (mT p)).2 ⟨p, hp, rfl, hv⟩
      simp at this
    · rw [if_neg he]
      refine ⟨?_, fun ce hce => ?_⟩
      · have : old ≠ #[] := by simpa using he
        have := Array.size_pos_iff.2 this
        simp; omega
      · simp only [Array.append_empty, Array.empty_append, Array.mem_map] at hce
        obtain ⟨e, h1, rfl⟩ := hce
        obtain ⟨p, hp, rfl, hv⟩ := (hmem e).1 h1
        exact .inr ⟨p, rfl, hp, hv⟩
  generalize hcand : (if old.isEmpty then #[none] else #[]) ++ (old ++ #[]).map some = cand at hgen
  obtain ⟨hpos, hall⟩ := hgen cand rfl
  obtain ⟨i, w1, hr, hi1, hg, hh⟩ := run_choose_next (P := P) (w := w) hpos
  have hrun : (Instr.next (.pointer (some ⟨ib, 0, none⟩)) false ty).run P w = (match cand[i]? with
      | some (some e) => (do setObj ib (.mapIter (some mb) c ((vis.map fun p : KB => p.2).toArray.push e.born) c); pure (.tuple #[.bool true, e.key, e.val]) : Sem Value)
      | some none => pure (.tuple #[.bool false])
      | none => stuck "Next: no such candidate").run P w1 := by
    unfold Instr.next
    simp only [Sem.run_bind]
    rw [run_getObj_it hi]
    simp only [Result.andThen_ok, Sem.run_bind]
    rw [Go.MapKept.run_getObj_map hm]
    simp only [Result.andThen_ok, hcond, Bool.false_eq_true, if_false, Sem.run_bind]
    rw [hold, hnew, hcand, hr]
    rfl
  have hci : cand[i]? = some cand[i] := Array.getElem?_eq_getElem hi1
  rw [hci] at hrun
  rcases hall cand[i] (Array.getElem_mem hi1) with ⟨hn, hv⟩ | ⟨p, hn, hp, hv⟩
  · rw [hn] at hrun
    exact ⟨none, w1, .inl ⟨rfl, hv⟩, hg, hh, hrun⟩
  · rw [hn] at hrun
    refine ⟨some p, w1, .inr ⟨p, rfl, hp, hv⟩, hg, hh, ?_⟩
    rw [hrun]
    have hi' : w1.heap[ib]? = some (.mapIter (some mb) c (vis.map (·.2)).toArray c) := by rw [hh]; exact hi
    simp only [Sem.run_bind]
    rw [run_setObj_it _ hi']
    simp only [Result.andThen_ok]
    have e : itT mb c (vis ++ [p]) = .mapIter (some mb) c ((vis.map fun p : KB => p.2).toArray.push (mT p).born) c := by simp [itT, mT]
    rw [e]
    rfl
theorem LSet.same {L L' : List Loc} {b : Nat} {o o' : Obj} (h : LSet L b o o' L') (e : o = o') : L' = L := by
  induction h with
  | z => subst e; rfl
  | s _ ih => rw [ih e]
theorem n_nextT {d mb ib c : Nat} {ks vis : List KB} {x : Operand} {L' : List KB → List Loc} (hk : MapT ks c) (hvis : ∀ p ∈ vis, p ∈ ks) (hm : Mem L (mb, mObjT ks c)) (hL : ∀ o, LSet L ib (itT mb c vis) (itT mb c o) (L' o)) (hx : ρ.ev x = some (.pointer (some ⟨ib, 0, none⟩))) (hn : Nat.blt d n = true) :
    NO P ⟨some d, .next x false, ty, pos, af, g⟩ n D ρ (Cls A L) (fun o : Option KB => (o = none ∧ ∀ p ∈ ks, p ∈ vis) ∨ ∃ p, o = some p ∧ p ∈ ks ∧ p ∉ vis) (fun o => (d, nextV o) :: ρ) (fun o => Cls A (L' (visT vis o))) :=
  NO.of rfl hn fun a ha w hw => by
    have hi : w.heap[ib]? = some (itT mb c vis) := hw.loc _ (hL vis).mem
    obtain ⟨o, w1, ho, hg, hh, hr⟩ := next_runT (P := P) (ty := ty) hk hvis (hw.loc _ hm.mem) hi
    have hw1 : Cls A L w1 := Cls.gs A L w w1 hw hg
    cases o with
    | none =>
      refine ⟨none, w1, ho, ?_, ?_⟩
      · simp only [execOp, ha.ev hx]; exact run_val' hr
      · show Cls A (L' vis) w1
        rw [(hL vis).same rfl]; exact hw1
    | some p =>
      have hi1 : w1.heap[ib]? = some (itT mb c vis) := by rw [hh]; exact hi
      obtain ⟨e1, e2⟩ := Go.MapKept.heap_set (o' := itT mb c (vis ++ [p])) hi1
      refine ⟨some p, { w1 with heap := w1.heap.setIfInBounds ib (itT mb c (vis ++ [p])) }, ho, ?_, ?_⟩
      · simp only [execOp, ha.ev hx]; exact run_val' hr
      · exact hw1.set (hL (vis ++ [p])) rfl rfl rfl (by simp) e1 (fun i _ hne => e2 i hne)
/-- the key that has come -/
theorem y_entryT {mb ib c : Nat} {ks vis : List KB} {p : KB} {x : Operand} (hk : MapT ks c) (hp : p ∈ ks) (hm : Mem L (mb, mObjT ks c)) (hi : Mem L (ib, itT mb c (vis ++ [p]))) (hx : ρ.ev x = some (.pointer (some ⟨ib, 0, none⟩))) :
    YO P ⟨dst, .entry x, ty, pos, af, g⟩ n D ρ (Cls A L) (.tuple #[.int .i64 p.1, .bool true]) :=
  .of fun a ha w hw => by
    have h1 : w.heap[ib]? = some (.mapIter (some mb) c ((vis ++ [p]).map fun p : KB => p.2).toArray c) := hw.loc _ hi.mem
    have h2 : w.heap[mb]? = some (.map ((ks.map mT).toArray) c) := hw.loc _ hm.mem
    simp only [execOp, ha.ev hx]
    refine run_val ?_
    unfold Instr.entry
    simp only [Sem.run_bind]
    rw [run_getObj_it h1]
    have hf : (ks.map mT).toArray.find? (fun e => e.born == p.2) = some (mT p) := by
      have key : ∀ (l : List KB), (l.map (·.2)).Nodup → p ∈ l → (l.map mT).find? (fun e => e.born == p.2) = some (mT p) := by
        intro l
        induction l with
        | nil => intro _ h; simp at h
        | cons x l ih =>
          intro hn h
          rw [List.map_cons, List.nodup_cons] at hn
          rw [List.map_cons, List.find?_cons]
          rcases List.mem_cons.1 h with h' | h'
          · subst h'
            simp [mT]
          · have : x.2 ≠ p.2 := fun e => hn.1 (e ▸ List.mem_map.2 ⟨p, h', rfl⟩)
            rw [show ((mT x).born == p.2) = false by simpa [mT] using this]
            exact ih hn.2 h'
      rw [List.find?_toArray]
      exact key ks hk.nb hp
    have hb : (((vis ++ [p]).map fun p : KB => p.2).toArray).back? = some p.2 := by simp
    simp only [Result.andThen_ok, hb, Sem.run_bind]
    rw [Go.MapKept.run_getObj_map h2]
    simp only [Result.andThen_ok, bne_self_eq_false, Bool.false_eq_true, if_false, hf]
    rfl
theorem y_nextOk {o : Option KB} {x : Operand} (hx : ρ.ev x = some (nextV o)) : YO P ⟨dst, .extract x 0, ty, pos, af, g⟩ n D ρ C (.bool o.isSome) := by
  cases o with
  | none => exact y_extract (l := [.bool false]) hx .z
  | some p => exact y_extract (l := [.bool true, .int .i64 p.1, .bool true]) hx .z
/-- some one-celled things of one's own are appended -/
theorem n_appendM {d t e : Nat} (bytes : Nat) {F : List Loc → List Loc} {v : Vec} {x y : Operand} {b k : Nat} {l : List Value} {tt : TypeId} (hu : P.underlying t = some (.slice e)) (hi : TI P e 1 bytes) (hv : VecOK 1 e v) (hH : Hole v.own F L)
    (hx : ρ.ev x = some v.val) (hy : ρ.ev y = some (.slice (some ⟨b, 0, none⟩) k k)) (hL : Mem L (b, blk l tt)) (hl : l.length = k) (hs : l.all sc = true) (hk : k ≤ 1000) (hmax : v.es.length < 1000000) (hb : Nat.ble bytes 140000 = true) (hd : Nat.blt d n = true) :
    NO P ⟨some d, .call { callee := .builtin .append, args := [x, y].toArray, argTypes := [t, t].toArray }, ty, pos, af, g⟩ n D ρ (Cls A L) (fun v' : Vec => VecOK 1 e v' ∧ v'.es = v.es ++ l.map fun c => [c]) (fun v' => (d, v'.val) :: ρ) (fun v' => Cls A (F v'.own)) := by
  have hfl : ∀ l : List Value, (l.map fun c => [c]).flatten = l := fun l => by induction l with
    | nil => rfl
    | cons c l ih => rw [List.map_cons, List.flatten_cons, ih]; rfl
  refine n_append (news := l.map fun c => [c]) bytes hu hi hv hH hx hy (by rw [List.length_map, hl]) (fun x hx => by obtain ⟨c, _, rfl⟩ := List.mem_map.1 hx; rfl) (fun u hu => by
      rw [hfl] at hu
      have := List.all_eq_true.1 hs u hu
      cases u <;> simp_all [sc, Value.oneCell'])
    (src_blk hL (hfl l)) (by simp only [maxLen, List.length_map]; omega) (by
      have hb : bytes ≤ 140000 := by simpa using hb
      rw [List.length_map, hl]
      have := Nat.mul_le_mul (show v.es.length + k ≤ 1001000 by omega) hb
      omega) hd
theorem LJ.cls {ops : Array Oper} {rest : List Oper} {C C' : World → Prop} (hC : ∀ w, C w → C' w) (h : LJ P ops Q rest n D ρ C') : LJ P ops Q rest n D ρ C := fun a w ha hw => h a w ha (hC w hw)
/-- a slice literal as a vector -/
abbrev ofBlk (b k : Nat) (es : List (List Value)) (t : TypeId) : Vec := ⟨.slice (some ⟨b, 0, none⟩) k k, es, [(b, blk (es.flatten ++ []) t)]⟩
end
end Go.Px
