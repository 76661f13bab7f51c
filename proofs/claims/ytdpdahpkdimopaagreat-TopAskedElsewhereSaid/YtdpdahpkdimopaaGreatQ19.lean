/-
  A part of the proof of TopAskedElsewhere: walks of single functions.
-/
import Derived.Test.YtdpdahpkdimopaaGreatQk
import Derived.Test.YtdpdahpkdimopaaGreatB
import Derived.Shelf.SlSortCmp.WholeK
import Derived.Shelf.SlSortCmp.NoneTotal
import Derived.Shelf.SlGeneric
import Derived.Ground.SlsfProg
import Derived.Test.YtdpdahpkdimopaaGreatProg
import Derived.Test.YtdpdahpkdimopaaGreatS
namespace Go.Proofs.YtdpdahpkdimopaaGreat
open Go Go.Px Sg Go.RowKit Go.Sort Go.Proofs
abbrev AnsB := { p : Int × Int // 0 ≤ p.1 ∧ p.1 ≤ 4294967296 }
instance : Inhabited AnsB := ⟨⟨(0, 0), by decide⟩⟩
def encB (a : AnsB) : List Value := [.int .i64 a.1.1, .int .i64 a.1.2]
set_option maxHeartbeats 1000000 in
theorem cmp31 (x y : AnsB) (W : World) : Calls Tryz.prog 31 #[.agg #[.int .i64 x.1.1, .int .i64 x.1.2], .agg #[.int .i64 y.1.1, .int .i64 y.1.2]] W fun e w' => e = .returned (.int .i64 (x.1.1 - y.1.1)) ∧ ∃ q os', w' = grow (W.drewN q) os' := by
  have e1 : IntKind.i64.wrap (x.1.1 - y.1.1) = x.1.1 - y.1.1 := by
    have h1 := x.2; have h2 := y.2
    exact IntWalk.i64_in _ ⟨by omega, by omega⟩
  go_enter Tryz.func31, Tryz.ntmps31
  go_wp2
  go_ret
  exact ⟨rfl, 0, _, by rw [alloc_eq_grow, alloc_eq_grow, grow_grow]; rfl⟩
theorem swoB : SWO (ltOf fun x y : AnsB => x.1.1 - y.1.1) where
  irrefl x := by simp [ltOf]
  trans x y z h1 h2 := by simp [ltOf] at *; omega
  ntrans x y z h1 h2 := by simp [ltOf] at *; omega
theorem lift_ans : ∀ (ls : List (Int × Int)), (∀ a ∈ ls, 0 ≤ a.1 ∧ a.1 ≤ 4294967296) → ∃ bs : List AnsB, bs.map (·.1) = ls
  | [], _ => ⟨[], rfl⟩
  | a :: ls, h => by
    obtain ⟨bs, hb⟩ := lift_ans ls fun x hx => h x (by simp [hx])
    exact ⟨⟨a, h a (by simp)⟩ :: bs, by simp [hb]⟩
theorem sort30 (v : Vec) (hv : VecOK 2 60 v) (ls : List (Int × Int)) (he : v.es = ls.map ansCells) (hb : ∀ a ∈ ls, 0 ≤ a.1 ∧ a.1 ≤ 4294967296) (hn : ls.length < 1000000) (w : World) (hV : ∀ p ∈ v.own, w.heap[p.1]? = some p.2) :
    Turns Tryz.prog 30 [v.val, .func (.func 31) #[] #[]] w v (fun _ : Vec => .tuple #[]) (fun x => x) (fun x => VecOK 2 60 x ∧ x.val = v.val ∧ ∃ ls' : List (Int × Int), x.es = ls'.map ansCells ∧ ls'.Perm ls ∧ ls'.Pairwise (fun a b => a.1 ≤ b.1)) := by
  cases hv with
  | nil =>
    have has : ls = [] := by simpa using he.symm
    subst has
    refine (AnyF.slices_SortFunc_none Tryz.sortAns none 0 (.func (.func 31) #[] #[]) w).mono fun e w' ⟨h1, h2⟩ => ?_
    subst h2
    exact ⟨Vec.nil, h1, Keeps.refl _ _, by simp, by simp, .nil, rfl, [], rfl, .refl _, .nil⟩
  | @row b cap es rest hl hc hcap hrest =>
    obtain ⟨bs, rfl⟩ := lift_ans ls hb
    simp only at he
    have hes : es = bs.map encB := by rw [he]; simp [encB, ansCells, Function.comp_def]
    have hheap : w.heap[b]? = some (blk ((bs.toArray.toList.map encB).flatten ++ rest) 60) := by have := hV (b, blk (es.flatten ++ rest) 60) (by simp); simpa [hes] using this
    have hlen : es.length = bs.toArray.size := by simp [hes]
    have hk2 : ∀ x, (encB x).length = 2 := fun _ => rfl
    have h := AnyQ.slices_SortFunc Tryz.sortAns 2 (fun _ => by kernel_rfl) (fun _ => by kernel_rfl) encB hk2 (fun x v hv => by simp [encB] at hv; rcases hv with rfl | rfl <;> rfl) (fun x y => x.1.1 - y.1.1) swoB 31 #[] b 0 cap bs.toArray w
      (enters_of Tryz.func31 (by kernel_rfl) rfl) (fun _ _ _ _ x y => cmp31 x y _) (holdsK_of encB 2 hk2 bs.toArray hheap) (Array.getElem?_eq_some_iff.1 hheap).1 (by simp at hn ⊢; omega)
    have e0 : ([.slice (some ⟨b, 0, none⟩) es.length cap, .func (.func 31) #[] #[]] : List Value).toArray = #[.slice (some ⟨b, 0, none⟩) bs.toArray.size cap, .func (.func 31) #[] #[]] := by rw [hlen]
    unfold Turns
    rw [e0]
    refine Calls.mono h fun e w' ⟨h1, d', n, os, hp, hs, hw⟩ => ?_
    obtain ⟨k1, k2⟩ := sortWorldK_blk encB 2 hk2 bs.toArray d' hp.1 (n := n) (os := os) hheap
    rw [← hw] at k1 k2
    have hd : (d'.toList.map encB).length = es.length := by rw [List.length_map, Array.length_toList, hp.1, hlen]
    refine ⟨⟨.slice (some ⟨b, 0, none⟩) (d'.toList.map encB).length cap, d'.toList.map encB, [(b, blk ((d'.toList.map encB).flatten ++ rest) 60)]⟩, h1, by simpa using k1, ?_, by simp, .row (fun l hl => by obtain ⟨x, _, rfl⟩ := List.mem_map.1 hl; rfl) (by rw [hd]; exact hc) hcap (by rw [hd]; exact hrest), by simp [hd], d'.toList.map (·.1), by simp [encB, ansCells, Function.comp_def], ?_, ?_⟩
    · intro p hp'
      obtain rfl := List.mem_singleton.1 hp'
      exact ⟨k2, .inl (by simp)⟩
    · have := hp.2.2
      rw [← hp.1, Array.extract_size] at this
      have e3 : bs.toArray.extract 0 d'.size = bs.toArray := by rw [hp.1, Array.extract_size]
      rw [e3] at this
      exact this.map _
    · rw [List.pairwise_map]
      rw [List.pairwise_iff_getElem]
      intro i j hi hj hij
      have hi' : i < d'.size := by simpa using hi
      have hj' : j < d'.size := by simpa using hj
      have := hs i j (Nat.zero_le _) hij (by rw [← hp.1]; exact hj')
      rw [getElem!_pos d' i hi', getElem!_pos d' j hj'] at this
      simp only [ltOf, decide_eq_false_iff_not] at this
      simp only [Array.getElem_toList]
      omega
end Go.Proofs.YtdpdahpkdimopaaGreat
