/-
  Px, part 7: slices of one's own that grow ('vectors').
-/
import Derived.Test.YtpjacndlbjeehaaGreatDoorPx6
import Derived.Laws.AppendOwn
namespace Go.Px
open Go Go.RowKit
set_option linter.unusedVariables false
set_option linter.unusedSimpArgs false
/-- what append asks of a type: size in cells, size in bytes at most -/
def tiB (P : Program) (e m bytes : Nat) : Bool := match P.info? e with
  | some i => (match i.zero with | some z => Nat.beq z.cells.size m | none => false) && Nat.beq i.size m && Nat.ble i.bytes bytes
  | none => false
structure TI (P : Program) (e m bytes : Nat) : Prop where
  ex : ∃ i z, P.info? e = some i ∧ i.zero = some z ∧ i.size = m ∧ z.cells.size = m ∧ i.bytes ≤ bytes
theorem ti_of {P : Program} {e m bytes : Nat} (h : tiB P e m bytes = true) : TI P e m bytes := by
  unfold tiB at h
  split at h
  · rename_i i hi
    split at h
    · rename_i z hz
      simp only [Bool.and_eq_true, Nat.beq_eq, Nat.ble_eq] at h
      exact ⟨i, z, hi, hz, h.1.2, h.1.1, h.2⟩
    · simp at h
  · cases h
structure Vec where
  val : Value
  es : List (List Value)
  own : List Loc
inductive VecOK (m : Nat) (e : TypeId) : Vec → Prop
  | nil : VecOK m e ⟨.slice none 0 0, [], []⟩
  | row {b cap : Nat} {es : List (List Value)} {rest : List Value} (hl : ∀ l ∈ es, l.length = m) (hc : es.length ≤ cap) (hcap : cap ≤ maxLen) (hr : rest.length = (cap - es.length) * m) :
      VecOK m e ⟨.slice (some ⟨b, 0, none⟩) es.length cap, es, [(b, blk (es.flatten ++ rest) e)]⟩
/-- the blocks r stand at one place of L; F puts others there -/
inductive Hole : List Loc → (List Loc → List Loc) → List Loc → Prop
  | z {r} : Hole r (fun r => r) r
  | h {r q} : Hole r (fun r => r ++ q) (r ++ q)
  | e {q} : Hole [] (fun r => r ++ q) q
  | c {x r F L} : Hole r F L → Hole r (fun r => x :: F r) (x :: L)
  | k {q r F L} : Hole r F L → Hole r (fun r => q ++ F r) (q ++ L)
theorem Hole.ex {r : List Loc} {F : List Loc → List Loc} {L : List Loc} (h : Hole r F L) : ∃ p q, L = p ++ r ++ q ∧ ∀ r', F r' = p ++ r' ++ q := by
  induction h with
  | z => exact ⟨[], [], by simp, by simp⟩
  | @h r q => exact ⟨[], q, by simp, by simp⟩
  | @e q => exact ⟨[], q, by simp, by simp⟩
  | @c x r F L _ ih => obtain ⟨p, q, h1, h2⟩ := ih; exact ⟨x :: p, q, by simp [h1], fun r' => by simp [h2]⟩
  | @k s r F L _ ih => obtain ⟨p, q, h1, h2⟩ := ih; exact ⟨s ++ p, q, by simp [h1], fun r' => by simp [h2]⟩
/-- the blocks r are turned, or given up, or new ones come: what stood elsewhere stays -/
theorem Cls.hole {A : List (World × List Nat)} {L : List Loc} {r r' : List Loc} {F : List Loc → List Loc} {w w' : World} (hw : Cls A L w) (hH : Hole r F L) (hk : Keeps w (r.map (·.1)) w')
    (hr : ∀ p ∈ r', w'.heap[p.1]? = some p.2 ∧ (p.1 ∈ r.map (·.1) ∨ w.heap.size ≤ p.1)) (hnd : (r'.map (·.1)).Nodup) : Cls A (F r') w' := by
  obtain ⟨p, q, rfl, hF⟩ := hH.ex
  rw [hF]
  have hin : ∀ x ∈ p ++ q, x.1 ∉ r.map (·.1) := by
    intro x hx hm
    have := hw.nd
    simp only [List.map_append] at this
    rw [List.append_assoc, List.nodup_append, List.nodup_append] at this
    obtain ⟨h1, ⟨h2, h3, h4⟩, h5⟩ := this
    rcases List.mem_append.1 hx with h | h
    · exact h5 _ (List.mem_map_of_mem h) _ (List.mem_append_left _ hm) rfl
    · exact h4 _ hm _ (List.mem_map_of_mem h) rfl
  have hold : ∀ x ∈ p ++ q, w'.heap[x.1]? = some x.2 := fun x hx => by
    have hx' : x ∈ p ++ r ++ q := by rcases List.mem_append.1 hx with h | h <;> simp [h]
    rw [hk.block x.1 (hw.lt hx') (hin x hx)]; exact hw.loc x hx'
  refine ⟨fun a ha => (hw.anc a ha).trans hk fun i hi => ?_, fun x hx => ?_, ?_, fun a ha l hl => ?_⟩
  · obtain ⟨x, hx, rfl⟩ := List.mem_map.1 hi
    exact hw.own a ha x (by simp; exact .inr (.inl hx))
  · simp only [List.mem_append] at hx
    rcases hx with (h | h) | h
    · exact hold x (by simp [h])
    · exact (hr x h).1
    · exact hold x (by simp [h])
  · have := hw.nd
    simp only [List.map_append] at this ⊢
    rw [List.append_assoc, List.nodup_append, List.nodup_append] at this ⊢
    obtain ⟨h1, ⟨h2, h3, h4⟩, h5⟩ := this
    refine ⟨h1, ⟨hnd, h3, ?_⟩, ?_⟩
    · intro a ha b hb e
      subst e
      obtain ⟨x, hx, rfl⟩ := List.mem_map.1 ha
      rcases (hr x hx).2 with h | h
      · exact h4 _ h _ hb rfl
      · obtain ⟨y, hy, he⟩ := List.mem_map.1 hb
        have := hw.lt (p := y) (by simp [hy])
        omega
    · intro a ha b hb e
      subst e
      rcases List.mem_append.1 hb with hb | hb
      · obtain ⟨x, hx, rfl⟩ := List.mem_map.1 hb
        rcases (hr x hx).2 with h | h
        · exact h5 _ ha _ (List.mem_append_left _ h) rfl
        · obtain ⟨y, hy, he⟩ := List.mem_map.1 ha
          have := hw.lt (p := y) (by simp [hy])
          omega
      · exact h5 _ ha _ (List.mem_append_right _ hb) rfl
  · simp only [List.mem_append] at hl
    rcases hl with (h | h) | h
    · exact hw.own a ha l (by simp [h])
    · rcases (hr l h).2 with h' | h'
      · obtain ⟨x, hx, he⟩ := List.mem_map.1 h'
        rw [← he]; exact hw.own a ha x (by simp [hx])
      · exact .inr (Nat.le_trans (hw.anc a ha).size h')
    · exact hw.own a ha l (by simp [h])
section
variable {P : Program} {dst : Option Tmp} {n : Nat} {D : List Deferred} {ρ : Env} {C : World → Prop} {A : List (World × List Nat)} {L : List Loc} {ty : TypeId} {pos : String} {af : Array Edge} {g : Option (Nat × Bool)}
theorem flatten_len {m : Nat} : ∀ {es : List (List Value)}, (∀ l ∈ es, l.length = m) → es.flatten.length = es.length * m
  | [], _ => by simp
  | l :: es, h => by
    rw [List.flatten_cons, List.length_append, h l (by simp), flatten_len (fun x hx => h x (by simp [hx])), List.length_cons, Nat.add_mul]; omega
theorem append_run {t e m bytes : Nat} {v : Vec} {a : Addr} {cap' : Nat} {news : List (List Value)} (hu : P.underlying t = some (.slice e)) (hi : TI P e m bytes) (hv : VecOK m e v)
    (hnl : ∀ l ∈ news, l.length = m) (h1 : ∀ u ∈ news.flatten, u.oneCell' = true) (hmax : v.es.length + news.length ≤ maxLen) (hb : (v.es.length + news.length) * bytes ≤ 140737488355328)
    (w : World) (hv0 : ∀ p ∈ v.own, w.heap[p.1]? = some p.2) (hsrc : ∀ j u, news.flatten[j]? = some u → w.cell? (a.add j) = some u) :
    ∃ v' w', VecOK m e v' ∧ v'.es = v.es ++ news ∧ (Builtin.append_ #[t, t] ty #[v.val, .slice (some a) news.length cap']).run P w = .ok v'.val w' ∧ Keeps w (v.own.map (·.1)) w' ∧
      (∀ p ∈ v'.own, w'.heap[p.1]? = some p.2 ∧ (p.1 ∈ v.own.map (·.1) ∨ w.heap.size ≤ p.1)) ∧ (v'.own.map (·.1)).Nodup := by
  obtain ⟨i, z, hi1, hz, hs, hzs, hby⟩ := hi.ex
  subst hs
  have hnews : news.flatten.length = news.length * i.size := flatten_len hnl
  have hsmall : v.es.length + news.length ≤ 9223372036854775807 := by simp only [maxLen] at hmax; omega
  have hby' : (v.es.length + news.length) * i.bytes ≤ 140737488355328 := Nat.le_trans (Nat.mul_le_mul_left _ hby) hb
  -- a new row
  have grown : ∀ (old : Nat), old < v.es.length + news.length → (∀ l ∈ v.es, l.length = i.size) →
      (Builtin.append_ #[t, t] ty #[v.val, .slice (some a) news.length cap']).run P w = .ok (.slice (some ⟨w.heap.size, 0, none⟩) (v.es.length + news.length) (grownCap w (v.es.length + news.length) old e))
        (w.drew.alloc (.cells (v.es.flatten.toArray ++ news.flatten.toArray ++ Builtin.zeroCells z.cells (grownCap w (v.es.length + news.length) old e - (v.es.length + news.length))) e)) →
      ∃ v' w', VecOK i.size e v' ∧ v'.es = v.es ++ news ∧ (Builtin.append_ #[t, t] ty #[v.val, .slice (some a) news.length cap']).run P w = .ok v'.val w' ∧ Keeps w (v.own.map (·.1)) w' ∧
      (∀ p ∈ v'.own, w'.heap[p.1]? = some p.2 ∧ (p.1 ∈ v.own.map (·.1) ∨ w.heap.size ≤ p.1)) ∧ (v'.own.map (·.1)).Nodup := by
    intro old ho hle hr
    have hge := grownCap_ge w (v.es.length + news.length) old e
    have hcm := grownCap_le_maxLen w (v.es.length + news.length) old e hmax
    have hlen : (v.es ++ news).length = v.es.length + news.length := List.length_append
    have hall : ∀ l ∈ v.es ++ news, l.length = i.size := fun l hl => (List.mem_append.1 hl).elim (hle l) (hnl l)
    refine ⟨⟨.slice (some ⟨w.heap.size, 0, none⟩) (v.es ++ news).length (grownCap w (v.es.length + news.length) old e), v.es ++ news, [(w.heap.size, blk ((v.es ++ news).flatten ++ (Builtin.zeroCells z.cells (grownCap w (v.es.length + news.length) old e - (v.es.length + news.length))).toList) e)]⟩,
      w.drew.alloc (.cells (v.es.flatten.toArray ++ news.flatten.toArray ++ Builtin.zeroCells z.cells (grownCap w (v.es.length + news.length) old e - (v.es.length + news.length))) e), .row hall (by rw [hlen]; exact hge) hcm (by rw [Array.length_toList, size_zeroCells, hzs, hlen]), rfl, by rw [hlen]; exact hr, ⟨rfl, rfl, rfl, by simp, fun k hk _ => heap_alloc_old w.drew _ hk⟩, ?_, by simp⟩
    intro p hp
    obtain rfl := List.mem_singleton.1 hp
    refine ⟨?_, .inr (Nat.le_refl _)⟩
    show (w.drew.alloc _).heap[w.drew.heap.size]? = _
    rw [heap_alloc_new w.drew]
    congr 1
    unfold blk
    congr 1
    apply Array.ext'
    simp
  cases hv with
  | nil =>
    by_cases hm : news = []
    · subst hm
      refine ⟨⟨.slice none 0 0, [], []⟩, w, .nil, by simp, ?_, Keeps.refl w _, by simp, by simp⟩
      simp [Builtin.append_, run_underlying hu, sizeOf, typeInfo, hi1, Builtin.lenOf, Builtin.firstCells, loadCells, loadCellsFrom]
    · have hpos : 0 < news.length := List.length_pos_iff.2 hm
      refine grown 0 (by simp; omega) (by simp) ?_
      have hr := run_append_nil (P := P) w t ty e i z hu hi1 hz a news.length cap' news.flatten hnews hsrc hpos (by simp at hsmall; omega) (by have hb := hby'; simp only [List.length_nil, Nat.zero_add] at hb; omega)
      simpa using hr
  | @row b cap es rest hl hc hcap hrest =>
    have hes : es.flatten.length = es.length * i.size := flatten_len hl
    have hg : w.heap[b]? = some (.cells (es.flatten ++ rest).toArray e (0, 0)) := hv0 (b, blk (es.flatten ++ rest) e) (by simp)
    simp only at *
    by_cases hroom : es.length + news.length ≤ cap
    · have hcs : (es.flatten ++ rest).length = cap * i.size := by rw [List.length_append, hes, hrest, ← Nat.add_mul]; congr 1; omega
      have hfit : es.length * i.size + news.flatten.length ≤ (es.flatten ++ rest).toArray.size := by
        rw [hnews, List.size_toArray, hcs, ← Nat.add_mul]; exact Nat.mul_le_mul_right _ hroom
      have hr := run_append_room (P := P) w t ty e i hu hi1 b es.length cap _ hg a news.length cap' news.flatten hnews hsrc h1 hroom hfit
      have hall : ∀ l ∈ es ++ news, l.length = i.size := fun l hl' => (List.mem_append.1 hl').elim (hl l) (hnl l)
      have hlen : (es ++ news).length = es.length + news.length := List.length_append
      have ecur : ((es.flatten ++ rest).toArray.toList.take (es.length * i.size) ++ news.flatten ++ (es.flatten ++ rest).toArray.toList.drop (es.length * i.size + news.flatten.length)) = (es ++ news).flatten ++ rest.drop news.flatten.length := by
        have e0 : (es.flatten ++ rest).toArray.toList = es.flatten ++ rest := rfl
        rw [e0, ← hes, List.take_left, List.flatten_append, ← List.drop_drop, List.drop_left]
      refine ⟨⟨.slice (some ⟨b, 0, none⟩) (es ++ news).length cap, es ++ news, [(b, blk ((es ++ news).flatten ++ rest.drop news.flatten.length) e)]⟩, w.setRow b ((es ++ news).flatten ++ rest.drop news.flatten.length).toArray, .row hall (by rw [hlen]; exact hroom) hcap ?_, rfl, by rw [hlen, ← ecur]; exact hr,
        ⟨rfl, rfl, rfl, by simp, fun k hk hne => setRow_other w b k _ (fun e => hne (by simp [e]))⟩, ?_, by simp⟩
      · rw [List.length_drop, hrest, hnews, hlen, ← Nat.sub_mul]; congr 1; omega
      · intro p hp
        obtain rfl := List.mem_singleton.1 hp
        refine ⟨?_, .inl (by simp)⟩
        show (w.setRow b _).heap[b]? = _
        rw [setRow_heap w b _ _ e _ hg]; rfl
    · refine grown cap (by omega) hl ?_
      exact run_append_grow (P := P) w t ty e i z hu hi1 hz ⟨b, 0, none⟩ es.length cap es.flatten hes (fun j u hj => by rw [add_at, Nat.zero_add, cell_blk (hv0 (b, blk (es.flatten ++ rest) e) (by simp)), List.getElem?_append_left (List.getElem?_eq_some_iff.1 hj).1]; exact hj)
        a news.length cap' news.flatten hnews hsrc (by omega) (by omega) (growslice_fits (by omega) hby')
theorem n_append {d t e m : Nat} (bytes : Nat) {F : List Loc → List Loc} {v : Vec} {x y : Operand} {a : Addr} {k cap' : Nat} {news : List (List Value)} (hu : P.underlying t = some (.slice e)) (hi : TI P e m bytes) (hv : VecOK m e v) (hH : Hole v.own F L)
    (hx : ρ.ev x = some v.val) (hy : ρ.ev y = some (.slice (some a) k cap')) (hk : k = news.length) (hnl : ∀ l ∈ news, l.length = m) (h1 : ∀ u ∈ news.flatten, u.oneCell' = true)
    (hsrc : ∀ w, Cls A L w → ∀ j u, news.flatten[j]? = some u → w.cell? (a.add j) = some u) (hmax : v.es.length + news.length ≤ maxLen) (hb : (v.es.length + news.length) * bytes ≤ 140737488355328) (hd : Nat.blt d n = true) :
    NO P ⟨some d, .call { callee := .builtin .append, args := [x, y].toArray, argTypes := [t, t].toArray }, ty, pos, af, g⟩ n D ρ (Cls A L) (fun v' : Vec => VecOK m e v' ∧ v'.es = v.es ++ news) (fun v' => (d, v'.val) :: ρ) (fun v' => Cls A (F v'.own)) :=
  NO.of rfl hd fun ac ha w hw => by
    subst hk
    obtain ⟨p, q, hL, _⟩ := hH.ex
    obtain ⟨v', w', h2, h3, h4, h5, h6, h7⟩ := append_run (ty := ty) hu hi hv hnl h1 hmax hb w (fun p hp => hw.loc p (by rw [hL]; simp [hp])) (hsrc w hw)
    refine ⟨v', w', ⟨h2, h3⟩, ?_, hw.hole hH h5 h6 h7⟩
    simp only [execOp, resolve, List.map_toArray, List.map_cons, List.map_nil, ha.ev hx, ha.ev hy, Sem.run_bind, invoke, builtin, pure, Sem.run, Result.andThen_ok]
    rw [h4]; rfl
/-- elements that lie in a block of one's own, as a slice literal lays them -/
theorem src_blk {b : Nat} {t : TypeId} {l : List Value} {news : List (List Value)} (hL : Mem L (b, blk l t)) (hl : news.flatten = l) : ∀ w, Cls A L w → ∀ j u, news.flatten[j]? = some u → w.cell? ((⟨b, 0, none⟩ : Addr).add j) = some u := fun w hw j u hj => by
  rw [add_at, Nat.zero_add, cell_blk (hw.loc _ hL.mem), ← hl]; exact hj
theorem VecOK.len {m : Nat} {e : TypeId} {v : Vec} (h : VecOK m e v) : ∃ a cap, v.val = .slice a v.es.length cap := by
  cases h with
  | nil => exact ⟨_, _, rfl⟩
  | row => exact ⟨_, _, rfl⟩
/-- what the vector's own blocks say when they stand in world w and are newer than w0 -/
def VIn (w0 : World) (v : Vec) (w : World) : Prop := (∀ p ∈ v.own, w.heap[p.1]? = some p.2 ∧ w0.heap.size ≤ p.1) ∧ (v.own.map (·.1)).Nodup
theorem VecOK.nd {m : Nat} {e : TypeId} {v : Vec} (h : VecOK m e v) : (v.own.map (·.1)).Nodup := by cases h <;> simp
theorem Cls.vin {W : World} {F : List Loc → List Loc} {v : Vec} {w : World} {m : Nat} {e : TypeId} (hv : VecOK m e v) (hw : Cls A L w) (hH : Hole v.own F L) (hA : Mem A (W, [])) : VIn W v w := by
  obtain ⟨p, q, rfl, _⟩ := hH.ex
  refine ⟨fun x hx => ⟨hw.loc x (by simp [hx]), ?_⟩, hv.nd⟩
  rcases hw.own _ hA.mem x (by simp [hx]) with h | h
  · simp at h
  · exact h
/-- a call that hands back a vector (and more): it becomes one's own -/
theorem n_callV {d : Nat} {k : FuncId} (hk : Ent P k) {F : List Loc → List Loc} {xs : List Operand} {ats : Array TypeId} {vs : List Value} {α : Type} {val : α → Value} {vec : α → Vec} {Φ : α → Prop} (hH : Hole [] F L) (hx : Evs ρ xs vs)
    (h : ∀ w, Cls A L w → Calls P k vs.toArray w fun e w' => ∃ x, e = .returned (val x) ∧ Gr w w' ∧ VIn w (vec x) w' ∧ Φ x) (hn : Nat.blt d n = true) :
    NO P ⟨some d, .call { callee := .value (.func k), args := xs.toArray, argTypes := ats }, ty, pos, af, g⟩ n D ρ (Cls A L) (fun x => Φ x) (fun x => (d, val x) :: ρ) (fun x => Cls A (F (vec x).own)) := fun a w ha hw K Q hK => by
  unfold Oper.wp
  rw [call_run (fs := []) (cs := []) hk ha rfl hx w]
  have e : ([] ++ vs ++ [] : List Value).toArray = vs.toArray := by simp
  rw [e]
  refine Calls.mono (h w hw) fun e w' ⟨x, he, hg, hv, hp⟩ => ?_
  subst he
  exact hK x hp _ _ (ha.put d _ hn) (hw.hole hH (Keeps.of_gr hg _) (fun p hp => ⟨(hv.1 p hp).1, .inr (hv.1 p hp).2⟩) hv.2)
theorem n_append1 {d t e m : Nat} (bytes : Nat) {F : List Loc → List Loc} {v : Vec} {x y : Operand} {b : Nat} {l : List Value} {tt : TypeId} (hu : P.underlying t = some (.slice e)) (hi : TI P e m bytes) (hv : VecOK m e v) (hH : Hole v.own F L)
    (hx : ρ.ev x = some v.val) (hy : ρ.ev y = some (.slice (some ⟨b, 0, none⟩) 1 1)) (hL : Mem L (b, blk l tt)) (hl : l.length = m) (hs : l.all sc = true) (hmax : v.es.length < 1000000000) (hb : Nat.ble bytes 140000 = true) (hd : Nat.blt d n = true) :
    NO P ⟨some d, .call { callee := .builtin .append, args := [x, y].toArray, argTypes := [t, t].toArray }, ty, pos, af, g⟩ n D ρ (Cls A L) (fun v' : Vec => VecOK m e v' ∧ v'.es = v.es ++ [l]) (fun v' => (d, v'.val) :: ρ) (fun v' => Cls A (F v'.own)) :=
  n_append (news := [l]) bytes hu hi hv hH hx hy rfl (fun x hx => by obtain rfl := List.mem_singleton.1 hx; exact hl) (fun u hu => by
      have : u ∈ l := by simpa using hu
      have := List.all_eq_true.1 hs u this
      cases u <;> simp_all [sc, Value.oneCell'])
    (src_blk hL (by simp)) (by simp only [maxLen, List.length_singleton]; omega) (by
      have hb : bytes ≤ 140000 := by simpa using hb
      have := Nat.mul_le_mul (show v.es.length + [l].length ≤ 1000000000 by simp; omega) hb
      omega) hd
theorem y_lenV {t e m : Nat} {ats : Array TypeId} {x : Operand} {v : Vec} (hu : P.underlying t = some (.slice e)) (hv : VecOK m e v) (hx : ρ.ev x = some v.val) (ha0 : ats[0]? = some t) :
    YO P ⟨dst, .call { callee := .builtin .len, args := [x].toArray, argTypes := ats }, ty, pos, af, g⟩ n D ρ C (.int .i64 v.es.length) := by
  obtain ⟨a, cap, h⟩ := hv.len
  exact y_lenS hu (h ▸ hx) ha0
theorem Hole.eq {r : List Loc} {F : List Loc → List Loc} {L : List Loc} (h : Hole r F L) : F r = L := by
  induction h with
  | c _ ih => simp [ih]
  | k _ ih => simp [ih]
  | _ => simp
abbrev Vec.nil : Vec := ⟨.slice none 0 0, [], []⟩
open Classical in
theorem c_loopG {Q : Exit → Act → World → Prop} {c : Code} {α : Type} (I : α → Prop) (ρL : α → Env) (CL : α → World → Prop) (μ : α → Nat) (x0 : α) (h0 : I x0)
    (round : ∀ x, I x → CJ P c (Exit.then (again n D I ρL CL μ (μ x)) Q) n D (ρL x) (CL x)) : CJ P (.loop c) Q n D (ρL x0) (CL x0) := fun a w ha hw => by
  let J : Act → World → Nat → Prop := fun a w m => ∃ x, I x ∧ μ x = m ∧ AgT n D (ρL x) a ∧ CL x w
  let M : Act → World → Nat := fun a w => if h : ∃ m, J a w m then Classical.choose (least_of h) else 0
  refine wp_loop (fun a w => ∃ m, J a w m) M ⟨_, x0, h0, rfl, ha, hw⟩ ?_
  intro a w hJ
  have hM : M a w = Classical.choose (least_of hJ) := dif_pos hJ
  obtain ⟨x, hx, hm, ha', hw'⟩ := (Classical.choose_spec (least_of hJ)).1
  refine wp_mono (round x hx a w ha' hw') fun e a2 w2 hq => ?_
  cases e with
  | normal =>
    obtain ⟨y, hy, hlt, ha2, hw2⟩ := hq
    have hJ2 : ∃ m, J a2 w2 m := ⟨_, y, hy, rfl, ha2, hw2⟩
    have hM2 : M a2 w2 = Classical.choose (least_of hJ2) := dif_pos hJ2
    refine ⟨hJ2, ?_⟩
    rw [hM, hM2]
    have h1 := (Classical.choose_spec (least_of hJ2)).2 (μ y) ⟨y, hy, rfl, ha2, hw2⟩
    omega
  | exit id => exact hq
  | goto l => exact hq
  | ret => exact hq
  | panic c => exact hq
  | outgrown => exact hq
/-- a loop in which blocks of one's own are turned -/
theorem c_loopV {Q : Exit → Act → World → Prop} {c : Code} {ρ0 : Env} {α : Type} {F : List Loc → List Loc} (I : α → Prop) (upd : α → Env) (own : α → List Loc) (μ : α → Nat) (x0 : α) (h0 : I x0) (hH : Hole (own x0) F L)
    (round : ∀ x, I x → CJ P c (Exit.then (again n D I (fun x => app (upd x) ρ0) (fun x => Cls A (F (own x))) μ (μ x)) Q) n D (app (upd x) ρ0) (Cls A (F (own x)))) : CJ P (.loop c) Q n D (app (upd x0) ρ0) (Cls A L) :=
  fun a w ha hw => c_loopG I (fun x => app (upd x) ρ0) (fun x => Cls A (F (own x))) μ x0 h0 round a w ha (hH.eq ▸ hw)
end
end Go.Px
