/-
  A part of the proof of TopAskedElsewhere: walks of single functions.
-/
import Derived.Test.YtdpdahpkdimopaaGreatA
import Derived.Shelf.SlIterI.Nil
import Derived.Shelf.SlIterI.Sorted
import Derived.Shelf.SortM.Plain
import Derived.Shelf.SortM.SortNone
import Derived.Ground.GgzProg
import Derived.Ground.SlgmProg
import Derived.Test.YtdpdahpkdimopaaGreatProg
import Derived.Test.YtdpdahpkdimopaaGreatS
namespace Go.Proofs
open Go.RowKit Go.Maps Go.Sort Go.Shelf
theorem Tryz.sortsT (m : Nat) : AnyZI.SortsIn Tryz.prog Tryz.sortedT_ren Fence.wide m :=
  ⟨fun blk off cap ss W hH hblk hsz => callsIn_wide.2 (AnyM.slices_Sort_int Tryz.sortT blk off cap ss W hH hblk hsz),
   fun p cap W => callsIn_wide.2 (AnyM.slices_Sort_int_none Tryz.sortT p cap W)⟩
end Go.Proofs
namespace Go.Proofs.YtdpdahpkdimopaaGreat
open Go Go.Px Go.RowKit Go.Maps Go.Sort Go.Proofs
noncomputable abbrev RU : Value → Option (DataW Unit × List MemPlace) := fun _ => some (.nil, [])
noncomputable abbrev kvD (kvs : List (Int × Nat)) : DataW Unit := .map ((((kvs.zipIdx.map mEnt).toArray).toList.map (WideElems.rg Tryz.prog 71 RU)).foldr DataW.insert [])
structure KvOK (kvs : List (Int × Nat)) : Prop where
  nd : (kvs.map (·.1)).Nodup
  rng : ∀ p ∈ kvs, -9223372036854775808 ≤ p.1 ∧ p.1 ≤ 9223372036854775807
  len : kvs.length ≤ 1000000
theorem KvOK.rd {kvs : List (Int × Nat)} (h : KvOK kvs) : ∀ q ∈ kvs.zipIdx, WideElems.rd Tryz.prog 71 RU (mEnt q) = some (.int .i64 q.1.1, .nil) := fun q hq => by
  have hm : q.1 ∈ kvs := by
    have := List.mem_zipIdx_iff_getElem?.1 hq
    exact List.mem_of_getElem? this
  have := h.rng q.1 hm
  have hw : (Lit.int .i64 q.1.1).wf = true := by simp [Lit.wf, IntKind.min, IntKind.max, IntKind.signed, IntKind.bits]; omega
  simp [WideElems.rd, mEnt, keyOf_int_mk Tryz.underlying71 hw]
theorem zip_map {β : Type} (f : Int × Nat → β) : ∀ (l : List (Int × Nat)) (n : Nat), (l.zipIdx n).map (fun q => f q.1) = l.map f
  | [], _ => rfl
  | x :: l, n => by simp only [List.zipIdx_cons, List.map_cons, zip_map f l (n + 1)]
theorem zip_snd (l : List (Int × Nat)) : ∀ n, (l.zipIdx n).map (·.2) = List.range' n l.length := fun n => by simp
theorem kv_owns {kvs : List (Int × Nat)} (h : KvOK kvs) {w : World} {mb : Nat} (hb : w.heap[mb]? = some (mObj kvs)) : w.ownsMap Tryz.prog 71 RU mb kvs.length (kvD kvs) := by
  refine ⟨(kvs.zipIdx.map mEnt).toArray, kvs.length, hb, ⟨?_, ⟨?_, ?_, ?_⟩, ?_⟩, by simp, rfl⟩
  · have := h.len; simp [maxLen]; omega
  · intro x hx
    simp only [List.mem_map] at hx
    obtain ⟨q, hq, rfl⟩ := hx
    have := List.mem_zipIdx_iff_getElem?.1 hq
    exact (List.getElem?_eq_some_iff.1 this).1
  · have : ((kvs.zipIdx.map mEnt).toArray.toList.map (·.born)) = List.range' 0 kvs.length := by
      rw [← zip_snd]; simp [mEnt, Function.comp_def]
    rw [this]; exact List.nodup_range'
  · have : ((kvs.zipIdx.map mEnt).toArray.toList.map (·.key)) = (kvs.map (·.1)).map encZ := by
      rw [← zip_map (fun x => x.1) kvs 0]
      simp [mEnt, Function.comp_def, encZ]
    rw [this]
    exact List.pairwise_map.2 (h.nd.imp fun {a b} hab e => hab (by simpa [encZ] using e))
  · intro x hx
    simp only [List.mem_map] at hx
    obtain ⟨q, hq, rfl⟩ := hx
    exact ⟨_, h.rd q hq⟩
theorem kv_keys {kvs : List (Int × Nat)} (h : KvOK kvs) : (intKeys (kvD kvs)).Perm (kvs.map (·.1)) := by
  have h1 := (WideShapes.sorted_perm (((kvs.zipIdx.map mEnt).toArray).toList.map (WideElems.rg Tryz.prog 71 RU))).map (fun p => Go.intOf p.1)
  refine h1.trans ?_
  have e2 : (((kvs.zipIdx.map mEnt).toArray).toList.map (WideElems.rg Tryz.prog 71 RU)).map (fun p => Go.intOf p.1) = kvs.map (·.1) := by
    rw [← zip_map (fun x => x.1) kvs 0]
    simp only [List.map_map]
    refine List.map_congr_left fun q hq => ?_
    simp [WideElems.rg, h.rd q hq, Go.intOf]
  rw [e2]
/-- maps.Keys: a function value over one new block that holds the map -/
theorem keys23 (mb : Nat) (w : World) : Calls Tryz.prog 23 #[.map (some mb)] w fun e w' => e = .returned (.func (.func 52) #[] #[.pointer (some ⟨w.heap.size, 0, none⟩)]) ∧ w' = w.alloc (.cells #[.map (some mb)] 81) :=
  callsIn_wide.1 (AnyZI.keys_in Tryz.keysT Fence.wide 5 trivial rfl (some mb) w)
theorem flat1 : ∀ l : List Int, (l.map fun i => [encZ i]).flatten = l.map encZ
  | [] => rfl
  | x :: l => by simp only [List.map_cons, List.flatten_cons, flat1 l, List.singleton_append]
theorem vec_of_row {w w' : World} {t : TypeId} {v : Value} {n : Nat} {l : List Int} (h : w'.ownsRow w.heap.size t 1 v n (l.map encZ)) (hn : n = l.length) : ∃ x : Vec, x.val = v ∧ VecOK 1 t x ∧ x.es = l.map (fun i => [encZ i]) ∧ VIn w x w' := by
  subst hn
  rcases h.2 with ⟨rfl, hz⟩ | ⟨g, cap, cur, rfl, hbg, hg, hnc, hcm, hcs, htake⟩
  · have : l = [] := List.eq_nil_of_length_eq_zero hz
    subst this
    exact ⟨Vec.nil, rfl, .nil, rfl, by simp, by simp⟩
  · rw [Nat.mul_one] at htake hcs
    have hcur : (l.map fun i => [encZ i]).flatten ++ cur.toList.drop l.length = cur.toList := by rw [flat1, ← htake, List.take_append_drop]
    refine ⟨⟨.slice (some ⟨g, 0, none⟩) (l.map fun i => [encZ i]).length cap, l.map fun i => [encZ i], [(g, blk ((l.map fun i => [encZ i]).flatten ++ cur.toList.drop l.length) t)]⟩, by simp, .row (by simp) (by simpa using hnc) hcm (by simp [hcs]), rfl, ?_, by simp⟩
    intro p hp
    obtain rfl := List.mem_singleton.1 hp
    refine ⟨?_, hbg⟩
    rw [hcur]
    exact hg
/-- slices.Sorted of that: the keys, in some order -/
theorem sorted22 {kvs : List (Int × Nat)} (hk : KvOK kvs) (mb B : Nat) (w : World) (hB : w.heap[B]? = some (.cells #[.map (some mb)] 81)) (hm : w.heap[mb]? = some (mObj kvs)) :
    Calls Tryz.prog 22 #[.func (.func 52) #[] #[.pointer (some ⟨B, 0, none⟩)]] w fun e w' => ∃ (x : Vec × List Int), e = .returned x.1.val ∧ Gr w w' ∧ VIn w x.1 w' ∧ (VecOK 1 71 x.1 ∧ x.1.es = x.2.map (fun i => [encZ i]) ∧ x.2.Perm (kvs.map (·.1))) := by
  have hlen : Maps.size (kvD kvs) = kvs.length := by
    have := (kv_keys hk).length_eq
    simpa [intKeys, Maps.size] using this
  have hseq : SeqGives Fence.wide 2 Tryz.prog 52 #[.pointer (some ⟨B, 0, none⟩)] encZ (fun ss => ss.Perm (intKeys (kvD kvs))) (Maps.size (kvD kvs)) w :=
    AnyZI.keys_gives (ρ := Tryz.keysT_ren) { Tryz.keysT with } Fence.wide _ trivial rfl (by omega) B mb kvs.length _ w (Array.getElem?_eq_some_iff.1 hB).1 (by simp [World.cell?, hB]) (kv_owns hk hm)
  have cS := AnyZI.sorted_in Tryz.sortedT Fence.wide 5 trivial trivial trivial trivial rfl (by omega) (Tryz.sortsT _) (enters_of Tryz.func51 (by kernel_rfl) rfl) 52 #[.pointer (some ⟨B, 0, none⟩)] trivial (enters_of Tryz.func52 (by kernel_rfl) rfl) _ _ (by have := hk.len; simp [hlen, maxLen]; omega) (by have := hk.len; rw [hlen]; omega) w hseq
  refine (callsIn_wide.1 cS).mono fun e w' ⟨v, ss, he, hS, hrow, hnil, hb⟩ => ?_
  subst he
  have hp : (ss.mergeSort fun x y => decide (x ≤ y)).Perm (kvs.map (·.1)) := (List.mergeSort_perm _ _).trans (hS.trans (kv_keys hk))
  have hsl : (ss.mergeSort fun x y => decide (x ≤ y)).length = ss.length := List.length_mergeSort _
  obtain ⟨x, h1, h2, h3, h4⟩ := vec_of_row hrow hsl.symm
  exact ⟨(x, _), by rw [← h1], hb, h4, h2, h3, hp⟩
/-- maps.Keys at the operation -/
theorem n_keys {A : List (World × List Nat)} {L : List Px.Loc} {n : Nat} {D : List Deferred} {ρ : Env} {ty : TypeId} {pos : String} {af : Array Edge} {g : Option (Nat × Bool)} {d mb : Nat} {x : Operand} {ats : Array TypeId} (hk : Ent Tryz.prog 23) (hx : ρ.ev x = some (.map (some mb))) (hn : Nat.blt d n = true) :
    NO Tryz.prog ⟨some d, .call { callee := .value (.func 23), args := [x].toArray, argTypes := ats }, ty, pos, af, g⟩ n D ρ (Cls A L) (fun _ : Nat => True) (fun B => (d, .func (.func 52) #[] #[.pointer (some ⟨B, 0, none⟩)]) :: ρ) (fun B => Cls A ((B, blk [.map (some mb)] 81) :: L)) := fun a w ha hw K Q hK => by
  unfold Oper.wp
  rw [call_run (fs := []) (cs := []) hk ha rfl (.c hx .n) w]
  have e : ([] ++ [.map (some mb)] ++ [] : List Value).toArray = #[.map (some mb)] := by simp
  rw [e]
  refine Calls.mono (keys23 mb w) fun e w' ⟨he, hw'⟩ => ?_
  subst he hw'
  exact hK w.heap.size trivial _ _ (ha.put d _ hn) (hw.alloc _)
end Go.Proofs.YtdpdahpkdimopaaGreat
