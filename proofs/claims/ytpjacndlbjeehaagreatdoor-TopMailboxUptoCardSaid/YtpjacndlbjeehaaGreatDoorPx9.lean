/-
  Px, part 9: blocks of the caller's; blocks told anew; maps from numbers to pointers.
-/
import Derived.Test.YtpjacndlbjeehaaGreatDoorPx8
import Derived.MapKept
namespace Go.Px
open Go Go.RowKit Go.MapKept
set_option linter.unusedVariables false
set_option linter.unusedSimpArgs false
section
variable {P : Program} {Q : Exit → Act → World → Prop} {dst : Option Tmp} {n : Nat} {D : List Deferred} {ρ : Env} {C : World → Prop} {A : List (World × List Nat)} {L : List Loc} {ty : TypeId} {pos : String} {af : Array Edge} {g : Option (Nat × Bool)}
theorem Cls.startB {b : Nat} {o : Obj} {w : World} (h : w.heap[b]? = some o) : Cls [(w, [b])] [(b, o)] w :=
  ⟨fun p hp => by simp at hp; subst hp; exact Keeps.refl w _, fun p hp => by simp at hp; subst hp; exact h, by simp, fun p hp l hl => by simp at hp hl; subst hp hl; exact .inl (by simp)⟩
/-- a call that turns one block of one's own -/
theorem n_callB {d b : Nat} {o o' : Obj} {k : FuncId} (hk : Ent P k) {xs : List Operand} {ats : Array TypeId} {vs : List Value} {v : Value} {L' : List Loc} (hx : Evs ρ xs vs) (hL : LSet L b o o' L')
    (h : ∀ w, Cls A L w → Calls P k vs.toArray w fun e w' => e = .returned v ∧ Keeps w [b] w' ∧ w'.heap[b]? = some o') (hn : Nat.blt d n = true) :
    NO P ⟨some d, .call { callee := .value (.func k), args := xs.toArray, argTypes := ats }, ty, pos, af, g⟩ n D ρ (Cls A L) (fun _ : Unit => True) (fun _ => (d, v) :: ρ) (fun _ => Cls A L') := fun a w ha hw K Q hK => by
  unfold Oper.wp
  rw [call_run (fs := []) (cs := []) hk ha rfl hx w]
  have e : ([] ++ vs ++ [] : List Value).toArray = vs.toArray := by simp
  rw [e]
  refine Calls.mono (h w hw) fun e w' ⟨he, hg, hb⟩ => ?_
  subst he
  exact hK () trivial _ _ (ha.put d _ hn) (hw.set hL hg.os hg.tape hg.output hg.size hb (fun i hi hne => hg.block i hi (by simpa using hne)))
/-- what a call that turns the blocks r tells -/
def TurnsL (P : Program) (k : FuncId) (args : List Value) (w : World) (r : List Loc) {α : Type} (val : α → Value) (r' : α → List Loc) (Φ : α → Prop) : Prop :=
  Calls P k args.toArray w fun e w' => ∃ x, e = .returned (val x) ∧ Keeps w (r.map (·.1)) w' ∧ (∀ p ∈ r' x, w'.heap[p.1]? = some p.2 ∧ (p.1 ∈ r.map (·.1) ∨ w.heap.size ≤ p.1)) ∧ ((r' x).map (·.1)).Nodup ∧ Φ x
theorem n_callTL {d : Nat} {k : FuncId} (hk : Ent P k) {F : List Loc → List Loc} {fo : Operand} {xs : List Operand} {ats : Array TypeId} {fs cs vs : List Value} {r : List Loc} {α : Type} {val : α → Value} {r' : α → List Loc} {Φ : α → Prop} (hf : ρ.ev fo = some (.func (.func k) fs.toArray cs.toArray)) (hH : Hole r F L) (hx : Evs ρ xs vs)
    (h : ∀ w, Cls A L w → TurnsL P k (fs ++ vs ++ cs) w r val r' Φ) (hn : Nat.blt d n = true) :
    NO P ⟨some d, .call { callee := .value fo, args := xs.toArray, argTypes := ats }, ty, pos, af, g⟩ n D ρ (Cls A L) (fun x => Φ x) (fun x => (d, val x) :: ρ) (fun x => Cls A (F (r' x))) := fun a w ha hw K Q hK => by
  unfold Oper.wp
  rw [call_run hk ha hf hx w]
  refine Calls.mono (h w hw) fun e w' ⟨x, he, hg, hv, hnd, hp⟩ => ?_
  subst he
  exact hK x hp _ _ (ha.put d _ hn) (hw.hole hH hg hv hnd)
theorem Cls.startL {r : List Loc} {w : World} (h : ∀ p ∈ r, w.heap[p.1]? = some p.2) (hnd : (r.map (·.1)).Nodup) : Cls [(w, r.map (·.1))] r w :=
  ⟨fun p hp => by simp at hp; subst hp; exact Keeps.refl w _, h, hnd, fun p hp l hl => by simp at hp; subst hp; exact .inl (List.mem_map_of_mem hl)⟩
theorem Cls.turnedL {W : World} {r r' : List Loc} {F : List Loc → List Loc} {w : World} (hw : Cls A L w) (hH : Hole r' F L) (hA : Mem A (W, r.map (·.1))) :
    Keeps W (r.map (·.1)) w ∧ (∀ p ∈ r', w.heap[p.1]? = some p.2 ∧ (p.1 ∈ r.map (·.1) ∨ W.heap.size ≤ p.1)) ∧ (r'.map (·.1)).Nodup := by
  obtain ⟨p, q, rfl, _⟩ := hH.ex
  refine ⟨hw.anc _ hA.mem, fun x hx => ⟨hw.loc x (by simp [hx]), hw.own _ hA.mem x (by simp [hx])⟩, ?_⟩
  have := hw.nd
  simp only [List.map_append] at this
  rw [List.append_assoc, List.nodup_append, List.nodup_append] at this
  exact this.2.1.1
theorem Cls.perm {L' : List Loc} {w : World} (h : Cls A L w) (hp : L.Perm L') : Cls A L' w :=
  ⟨h.anc, fun p hm => h.loc p (hp.mem_iff.2 hm), (hp.map _).nodup_iff.1 h.nd, fun p hp' l hl => h.own p hp' l (hp.mem_iff.2 hl)⟩
theorem Cls.swap {r r' : List Loc} {F : List Loc → List Loc} {w : World} (h : Cls A L w) (hH : Hole r F L) (hp : r.Perm r') : Cls A (F r') w := by
  obtain ⟨p, q, rfl, hF⟩ := hH.ex
  rw [hF]
  exact h.perm ((hp.append_left p).append_right q)
theorem CJ.swap {c : Code} {r r' : List Loc} {F : List Loc → List Loc} (hH : Hole r F L) (hp : r.Perm r') (h : CJ P c Q n D ρ (Cls A (F r'))) : CJ P c Q n D ρ (Cls A L) := fun a w ha hw => h a w ha (hw.swap hH hp)
/-! ### what was there, but for the blocks X -/
theorem Cls.kp {W : World} {X : List Nat} {w : World} (h : Cls A L w) (hA : Mem A (W, X)) : Keeps W X w := h.anc _ hA.mem
theorem LoadAt.aggFX {W : World} {X : List Nat} {t m : Nat} {z : Value} {l : List Value} {ad : Addr} (hA : Mem A (W, X)) (hx : ad.block ∉ X) (ht : Ty P t m true z) (hl : l.length = m) (h : ∀ i v, l[i]? = some v → W.cell? (ad.add i) = some v) : LoadAt P t (Cls A L) ad (.agg l.toArray) :=
  .agg ht hl fun w hw i v hv => (hw.kp hA).cell (h i v hv) (by unfold Addr.add; split <;> exact hx)
theorem LoadAt.oneFX {W : World} {X : List Nat} {t m : Nat} {z v : Value} {ad : Addr} (hA : Mem A (W, X)) (hx : ad.block ∉ X) (ht : Ty P t m false z) (h : W.cell? ad = some v) : LoadAt P t (Cls A L) ad v :=
  .one ht fun w hw => (hw.kp hA).cell h hx
theorem LoadAt.aggBX {W : World} {X : List Nat} {t m b o : Nat} {tt : TypeId} {z : Value} {l r : List Value} (hA : Mem A (W, X)) (hx : b ∉ X) (hB : W.heap[b]? = some (blk l tt)) (ht : Ty P t m true z) (he : Ex l o m r) : LoadAt P t (Cls A L) ⟨b, o, none⟩ (.agg r.toArray) :=
  LoadAt.aggFX hA hx ht he.spec.2.1 fun i v hv => by
    rw [add_at, cell_blk hB, he.get i]
    · exact hv
    · have := (List.getElem?_eq_some_iff.1 hv).1
      have := he.spec.2.1
      omega
theorem LoadAt.oneBX {W : World} {X : List Nat} {t m b o : Nat} {tt : TypeId} {z v : Value} {l : List Value} (hA : Mem A (W, X)) (hx : b ∉ X) (hB : W.heap[b]? = some (blk l tt)) (ht : Ty P t m false z) (he : Nth l o v) : LoadAt P t (Cls A L) ⟨b, o, none⟩ v :=
  LoadAt.oneFX hA hx ht (by rw [cell_blk hB]; exact he.get)
/-! ### maps -/
abbrev ptrV (b : Nat) : Value := .pointer (some ⟨b, 0, none⟩)
def mEnt (p : (Int × Nat) × Nat) : MapEntry := ⟨.int .i64 p.1.1, ptrV p.1.2, p.2⟩
def mObj (kvs : List (Int × Nat)) : Obj := .map ((kvs.zipIdx.map mEnt).toArray) kvs.length
theorem findNow_m (t : Int) : ∀ (kvs : List (Int × Nat)) (m i : Nat), ∃ r, Instr.findNow (.int .i64) (.int .i64 t) ((kvs.zipIdx m).map mEnt) i = some r ∧
    ((r = none ∧ ∀ p ∈ kvs, p.1 ≠ t) ∨ ∃ j p l1 l2, r = some (j, ptrV p.2) ∧ kvs = l1 ++ p :: l2 ∧ p.1 = t)
  | [], m, i => ⟨none, rfl, .inl ⟨rfl, by simp⟩⟩
  | p :: kvs, m, i => by
    by_cases h : t = p.1
    · refine ⟨some (i, ptrV p.2), ?_, .inr ⟨i, p, [], kvs, rfl, rfl, h.symm⟩⟩
      simp [Instr.findNow, List.zipIdx_cons, mEnt, Instr.sameNow, h]
    · obtain ⟨r, h1, h2⟩ := findNow_m t kvs (m + 1) (i + 1)
      refine ⟨r, ?_, ?_⟩
      · simp only [List.zipIdx_cons, List.map_cons, Instr.findNow, mEnt, Instr.sameNow, if_true]
        rw [show (t == p.1) = false by simpa using h]
        exact h1
      · rcases h2 with ⟨h3, h4⟩ | ⟨j, q, l1, l2, h3, h4, h5⟩
        · exact .inl ⟨h3, fun q hq => by rcases List.mem_cons.1 hq with rfl | hq; exact fun e => h e.symm; exact h4 q hq⟩
        · exact .inr ⟨j, q, p :: l1, l2, h3, by rw [h4]; rfl, h5⟩
theorem n_lookup {d mt kt et mb : Nat} {kvs : List (Int × Nat)} {x y : Operand} {t : Int} {ag : Bool} {m : Nat} (hu : P.underlying mt = some (.map kt et)) (hk : P.underlying kt = some (.int .i64)) (he : Ty P et m ag (.pointer none)) (hL : Mem L (mb, mObj kvs)) (hx : ρ.ev x = some (.map (some mb))) (hy : ρ.ev y = some (.int .i64 t)) (hn : Nat.blt d n = true) :
    NO P ⟨some d, .lookup mt x y false, ty, pos, af, g⟩ n D ρ (Cls A L) (fun o : Option (Int × Nat) => (o = none ∧ ∀ p ∈ kvs, p.1 ≠ t) ∨ ∃ p l1 l2, o = some p ∧ kvs = l1 ++ p :: l2 ∧ p.1 = t)
      (fun o => (d, .pointer (o.map fun p => ⟨p.2, 0, none⟩)) :: ρ) (fun _ => Cls A L) :=
  NO.of rfl hn fun a ha w hw => by
    obtain ⟨r, h1, h2⟩ := findNow_m t kvs 0 0
    have hb : w.heap[mb]? = some (.map ((kvs.zipIdx.map mEnt).toArray) kvs.length) := hw.loc _ hL.mem
    have hf := run_findKey (w := w) hk h1
    have hc := fun e => run_checkKey (P := P) (w := w) hk (k := .int .i64 t) (by simp [IsKey]) e 9999
    rcases h2 with ⟨rfl, h3⟩ | ⟨j, p, l1, l2, rfl, h3, h4⟩
    · refine ⟨none, w, .inl ⟨rfl, h3⟩, ?_, hw⟩
      simp only [execOp, ha.ev hx, ha.ev hy]
      refine run_val' ?_
      simp only [Instr.lookup, Sem.run_bind, run_underlying hu, Result.andThen_ok, Go.MapKept.run_getObj_map hb]
      simp [hc, hf, he.zero]
    · refine ⟨some p, w, .inr ⟨p, l1, l2, rfl, h3, h4⟩, ?_, hw⟩
      simp only [execOp, ha.ev hx, ha.ev hy]
      refine run_val' ?_
      simp only [Instr.lookup, Sem.run_bind, run_underlying hu, Result.andThen_ok, Go.MapKept.run_getObj_map hb]
      simp [hc, hf]
theorem n_makeMap {d mt : Nat} (hn : Nat.blt d n = true) :
    NO P ⟨some d, .makeMap mt none, ty, pos, af, g⟩ n D ρ (Cls A L) (fun _ : Nat => True) (fun b => (d, .map (some b)) :: ρ) (fun b => Cls A ((b, mObj []) :: L)) :=
  NO.of rfl hn fun a ha w hw => ⟨w.heap.size, w.alloc (mObj []), trivial, by
    simp only [execOp]
    exact run_val' (by simp only [Option.map_none, Instr.makeMap, Sem.run_bind]; rfl), hw.alloc _⟩
theorem n_mapNew {mt kt et mb b : Nat} {kvs : List (Int × Nat)} {x y z : Operand} {t : Int} {L' : List Loc} (hu : P.underlying mt = some (.map kt et)) (hk : P.underlying kt = some (.int .i64)) (hx : ρ.ev x = some (.map (some mb))) (hy : ρ.ev y = some (.int .i64 t)) (hz : ρ.ev z = some (ptrV b))
    (hno : ∀ p ∈ kvs, p.1 ≠ t) (hL : LSet L mb (mObj kvs) (mObj (kvs ++ [(t, b)])) L') :
    NO P ⟨none, .mapUpdate mt x y z, ty, pos, af, g⟩ n D ρ (Cls A L) (fun _ : Unit => True) (fun _ => ρ) (fun _ => Cls A L') :=
  NO.of0 rfl fun a ha w hw => by
    obtain ⟨r, h1, h2⟩ := findNow_m t kvs 0 0
    have hb : w.heap[mb]? = some (.map ((kvs.zipIdx.map mEnt).toArray) kvs.length) := hw.loc _ hL.mem
    have hc := fun e => run_checkKey (P := P) (w := w) hk (k := .int .i64 t) (by simp [IsKey]) e 9999
    rcases h2 with ⟨rfl, h3⟩ | ⟨j, p, l1, l2, _, h3, h4⟩
    · have hf := run_findKey (w := w) hk h1
      obtain ⟨e1, e2⟩ := Go.MapKept.heap_set (o' := mObj (kvs ++ [(t, b)])) hb
      refine ⟨(), { w with heap := w.heap.setIfInBounds mb (mObj (kvs ++ [(t, b)])) }, trivial, ?_, hw.set hL rfl rfl rfl (by simp) e1 (fun i _ hne => e2 i hne)⟩
      simp only [execOp, ha.ev hx, ha.ev hy, ha.ev hz]
      refine run_unit ?_
      simp only [Instr.mapUpdate, Sem.run_bind, run_underlying hu, Result.andThen_ok, Go.MapKept.run_getObj_map hb]
      have e3 : Obj.map (kvs.zipIdx.map mEnt ++ [(⟨.int .i64 t, ptrV b, kvs.length⟩ : MapEntry)]).toArray (kvs.length + 1) = mObj (kvs ++ [(t, b)]) := by
        simp [mObj, List.zipIdx_append, mEnt]
      simp [hc, hf, Go.MapKept.run_setObj_map _ hb]
      rw [e3]
    · exact absurd h4 (hno p (by rw [h3]; simp))
/-- a quiet operation where it alone is ready -/
theorem NO.ofY {C : World → Prop} {op : Op} {d : Nat} {v : Value} (hg : GS C) (h : YO P ⟨some d, op, ty, pos, af, none⟩ n D ρ C v) (hd : Nat.blt d n = true) :
    NO P ⟨some d, op, ty, pos, af, none⟩ n D ρ C (fun _ : Unit => True) (fun _ => (d, v) :: ρ) (fun _ => C) := fun a w ha hw K Q hK =>
  Oper.wp_of_quietG (h a ha w hw) fun w' hg' => hK () trivial _ _ (ha.put d v hd) (hg _ _ hw hg')
end
end Go.Px
