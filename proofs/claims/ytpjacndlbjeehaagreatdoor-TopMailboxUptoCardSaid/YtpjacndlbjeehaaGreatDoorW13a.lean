/-
  The arguments of TopMailbox, opened: alerts as they stand in memory; read anew behind the call, they are the same.
-/
import Derived.Test.YtpjacndlbjeehaaGreatDoorRows
import Derived.Test.YtpjacndlbjeehaaGreatDoorM1
import Derived.Test.YtpjacndlbjeehaaGreatDoorPx11
import Derived.Deep.Slices
import Derived.Deep.Fields
import Derived.ChangeSame
import Derived.ChangeSlices
import Derived.ChangeStays
import Derived.ChangeBears
import Derived.ChangeOld
import Derived.OpenShut
import Derived.KernelRfl
namespace Go.Proofs.YtpjacndlbjeehaaGreatDoor
open Go Go.ChangeShapes Go.WideShapes Go.RowKit Go.Px Mb
set_option linter.unusedVariables false
set_option linter.unusedSimpArgs false
theorem kidsT : Kids Tryz.prog (· < Tryz.prog.types.size) := kids_rows (by kernel_rfl) (by kernel_rfl)
theorem sizesT : (List.range Tryz.prog.types.size).all (fun t => match Tryz.prog.underlying t with | some (.slice e) => Nat.blt 0 (Tryz.prog.cellsOf e) | _ => true) = true := by kernel_rfl
theorem sizeT {t e : TypeId} (ht : t < Tryz.prog.types.size) (hu : Tryz.prog.underlying t = some (.slice e)) : 0 < Tryz.prog.cellsOf e := by
  have := List.all_eq_true.1 sizesT t (List.mem_range.2 ht)
  rw [hu] at this
  exact Nat.le_of_ble_eq_true this
theorem same_of_gr {W W' : World} (g : Gr W W') {p : MemPlace} (hp : p.block < W.heap.size) : W.sameAt W' p := by
  cases p with
  | cell b off =>
    have := g.block b hp
    simp only [World.sameAt, World.cell?, this]
  | map b => exact g.block b hp
section
variable {H : Type} {enc : TypeId × Value → H} {W W' : World}
theorem trodAll_again (g : Gr W W') : ∀ {ts : List TypeId} {vs : List Value} {ds : List (DataW H)} {ps : List MemPlace}, DataW.TrodAll enc Tryz.prog W 0 (fun _ => true) true ts vs ds ps → (∀ t ∈ ts, t < Tryz.prog.types.size) → (∀ p ∈ ps, p.block < W.heap.size) →
    DataW.TrodAll enc Tryz.prog W' 0 (fun b => decide (b < W.heap.size)) true ts vs ds ps
  | [], [], [], ps, h, _, _ => h
  | t :: ts, v :: vs, d :: ds, ps, ⟨p, q, ⟨n, h⟩, hs, e⟩, ht, hp => by
    subst e
    refine ⟨p, q, ⟨n, DataW.trod_stays kidsT (fun h1 h2 => sizeT h1 h2) (by simp) (ht t (by simp)) h (fun x hx => same_of_gr g (hp x (by simp [hx]))) (fun x hx => by simpa using hp x (by simp [hx]))⟩, ?_, rfl⟩
    exact trodAll_again g hs (fun x hx => ht x (by simp [hx])) (fun x hx => hp x (by simp [hx]))
theorem kept_of_gr (g : Gr W W') (may : MemPlace → Prop) : W.keptBut W' may := ⟨g.os, g.output, fun i hi => by
  rw [g.block i hi]
  cases W.heap[i]? with
  | none => rfl
  | some o => cases o with
    | cells c t fr => exact ⟨rfl, rfl, rfl, fun _ _ => rfl⟩
    | map es clock => exact .inr ⟨rfl, rfl⟩
    | _ => rfl⟩
end
/-! ### data, opened -/
theorem list3 {α : Type} {l : List α} (h : l.length = 3) : ∃ a b c, l = [a, b, c] := by
  match l, h with
  | [a, b, c], _ => exact ⟨a, b, c, rfl⟩
theorem cut_at {α : Type} (l : List α) (o k : Nat) : l.drop o = (l.drop o).take k ++ l.drop (o + k) := by rw [← List.drop_drop, List.take_append_drop]
theorem exists_list {α : Type} {Q : Nat → α → Prop} : ∀ {n : Nat}, (∀ i, i < n → ∃ x, Q i x) → ∃ l : List α, l.length = n ∧ ∀ i x, l[i]? = some x → Q i x
  | 0, _ => ⟨[], rfl, fun i x h => by simp at h⟩
  | n + 1, h => by
    obtain ⟨l, hl, hq⟩ := exists_list (n := n) (fun i hi => h i (by omega))
    obtain ⟨x, hx⟩ := h n (by omega)
    refine ⟨l ++ [x], by simp [hl], fun i y hy => ?_⟩
    by_cases hi : i < n
    · rw [List.getElem?_append_left (by omega)] at hy; exact hq i y hy
    · rw [List.getElem?_append_right (by omega)] at hy
      have : i - l.length = 0 := by have := (List.getElem?_eq_some_iff.1 hy).1; simp at this; omega
      rw [this] at hy
      simp at hy
      subst hy
      have : i = n := by omega
      subst this; exact hx
theorem elts_of {W : World} {a : Addr} {m : Nat} {ls : List (List Value)} (hne : ∀ l ∈ ls, l ≠ []) (h : ∀ i l, ls[i]? = some l → ∀ j v, l[j]? = some v → W.cell? (a.add (i * m + j)) = some v) : Elts W (some a) m ls := by
  intro i l hl
  have h0 : ∃ l0, ls[0]? = some l0 := ⟨_, List.getElem?_eq_getElem (by have := (List.getElem?_eq_some_iff.1 hl).1; omega)⟩
  obtain ⟨l0, h0⟩ := h0
  obtain ⟨x, l1, rfl⟩ := List.exists_cons_of_ne_nil (hne l0 (List.mem_of_getElem? h0))
  have h1 := h 0 _ h0 0 x rfl
  simp only [Nat.zero_mul, Nat.add_zero, Addr.add, if_true] at h1
  have hs : a.spot = none := by
    unfold World.cell? at h1
    split at h1
    · by_cases hsp : a.spot.isSome
      · rw [if_pos hsp] at h1; simp at h1
      · simpa using hsp
    · simp at h1
  obtain ⟨b, o, s⟩ := a
  simp only at hs
  subst hs
  refine ⟨b, o, rfl, fun j v hv => ?_⟩
  have := h i l hl j v hv
  rwa [add_at, ← Nat.add_assoc] at this
section
variable {H : Type} {enc : TypeId × Value → H} {W : World} {base : Nat} {sp : Nat → Bool} {hd : Bool}
theorem got {α : Type} {l : List α} {n i : Nat} {x : Option α} (hn : l.length = n) (hi : i < n) (h : x = l[i]?) : ∃ y, x = some y := ⟨_, h.trans (List.getElem?_eq_getElem (by omega))⟩
theorem op_int {t fuel : Nat} {cs : List Value} {x : DataW H × List MemPlace} (ht : Tryz.prog.underlying t = some (.int .i64)) (h : DataW.trod enc Tryz.prog W base sp hd fuel t cs = some x) : ∃ n : Int, cs = [.int .i64 n] ∧ -9223372036854775808 ≤ n ∧ n ≤ 9223372036854775807 := by
  obtain ⟨n, h1, _, h2⟩ := DataW.trod_int ht h
  refine ⟨n, h1, ?_⟩
  simp only [Lit.wf, Bool.and_eq_true, decide_eq_true_eq] at h2
  rw [show IntKind.i64.min = -9223372036854775808 from rfl, show IntKind.i64.max = 9223372036854775807 from rfl] at h2
  exact h2
theorem op_bd {t fuel : Nat} {cs : List Value} {x : DataW H × List MemPlace} {fs : Array Field} (ht : Tryz.prog.underlying t = some (.struct fs)) (hs : fs.size = 3)
    (h0 : ∃ f, fs[0]? = some f ∧ Tryz.prog.underlying f.type = some (.int .i64) ∧ f.offset = 0 ∧ Tryz.prog.cellsOf f.type = 1) (h1 : ∃ f, fs[1]? = some f ∧ Tryz.prog.underlying f.type = some (.int .i64) ∧ f.offset = 1 ∧ Tryz.prog.cellsOf f.type = 1) (h2 : ∃ f, fs[2]? = some f ∧ Tryz.prog.underlying f.type = some .bool ∧ f.offset = 2 ∧ Tryz.prog.cellsOf f.type = 1)
    (hC : Tryz.prog.cellsOf t = 3) (h : DataW.trod enc Tryz.prog W base sp hd fuel t cs = some x) : ∃ b : Bd, cs = b.cells := by
  obtain ⟨xs, n, _, _, hl, hxl, hf⟩ := DataW.trod_struct ht h
  rw [hC] at hl
  rw [hs] at hxl
  obtain ⟨a, b, c, rfl⟩ := list3 hl
  obtain ⟨f0, e0, u0, o0, c0⟩ := h0
  obtain ⟨f1, e1, u1, o1, c1⟩ := h1
  obtain ⟨f2, e2, u2, o2, c2⟩ := h2
  have g0 := hf 0 f0 e0
  have g1 := hf 1 f1 e1
  have g2 := hf 2 f2 e2
  rw [o0, c0] at g0
  rw [o1, c1] at g1
  rw [o2, c2] at g2
  obtain ⟨y0, z0⟩ := got hxl (by decide) g0
  obtain ⟨y1, z1⟩ := got hxl (by decide) g1
  obtain ⟨y2, z2⟩ := got hxl (by decide) g2
  obtain ⟨i0, k0, _⟩ := op_int u0 z0
  obtain ⟨i1, k1, _⟩ := op_int u1 z1
  obtain ⟨i2, k2, _⟩ := DataW.trod_bool u2 z2
  simp at k0 k1 k2
  exact ⟨⟨i0, i1, i2⟩, by rw [k0, k1, k2]; rfl⟩
theorem op_bd28 {fuel : Nat} {cs : List Value} {x : DataW H × List MemPlace} (h : DataW.trod enc Tryz.prog W base sp hd fuel 28 cs = some x) : ∃ b : Bd, cs = b.cells :=
  op_bd Tryz.underlying28 rfl ⟨_, rfl, Tryz.underlying26, rfl, by kernel_rfl⟩ ⟨_, rfl, Tryz.underlying26, rfl, by kernel_rfl⟩ ⟨_, rfl, Tryz.underlying4, rfl, by kernel_rfl⟩ (by kernel_rfl) h
theorem op_bd31 {fuel : Nat} {cs : List Value} {x : DataW H × List MemPlace} (h : DataW.trod enc Tryz.prog W base sp hd fuel 31 cs = some x) : ∃ b : Bd, cs = b.cells :=
  op_bd Tryz.underlying31 rfl ⟨_, rfl, Tryz.underlying29, rfl, by kernel_rfl⟩ ⟨_, rfl, Tryz.underlying29, rfl, by kernel_rfl⟩ ⟨_, rfl, Tryz.underlying4, rfl, by kernel_rfl⟩ (by kernel_rfl) h
theorem op_bd34 {fuel : Nat} {cs : List Value} {x : DataW H × List MemPlace} (h : DataW.trod enc Tryz.prog W base sp hd fuel 34 cs = some x) : ∃ b : Bd, cs = b.cells :=
  op_bd Tryz.underlying34 rfl ⟨_, rfl, Tryz.underlying32, rfl, by kernel_rfl⟩ ⟨_, rfl, Tryz.underlying32, rfl, by kernel_rfl⟩ ⟨_, rfl, Tryz.underlying4, rfl, by kernel_rfl⟩ (by kernel_rfl) h
theorem c36 : Tryz.prog.cellsOf 36 = 16 := by kernel_rfl
theorem c3 : Tryz.prog.cellsOf 3 = 1 := by kernel_rfl
theorem c28 : Tryz.prog.cellsOf 28 = 3 := by kernel_rfl
theorem c31 : Tryz.prog.cellsOf 31 = 3 := by kernel_rfl
theorem c34 : Tryz.prog.cellsOf 34 = 3 := by kernel_rfl
theorem op_al {fuel : Nat} {cs : List Value} {x : DataW H × List MemPlace} (h : DataW.trod enc Tryz.prog W base sp hd fuel 36 cs = some x) : ∃ a : Al, cs = a.cells := by
  obtain ⟨xs, n, _, _, hl, hxl, hf⟩ := DataW.trod_struct Tryz.underlying36 h
  rw [c36] at hl
  have hxl : xs.length = 8 := hxl
  obtain ⟨y0, z0⟩ := got hxl (by decide) (show DataW.trod enc Tryz.prog W base sp hd n 3 ((cs.drop 0).take (Tryz.prog.cellsOf 3)) = xs[0]? from hf 0 _ rfl)
  obtain ⟨y1, z1⟩ := got hxl (by decide) (show DataW.trod enc Tryz.prog W base sp hd n 3 ((cs.drop 1).take (Tryz.prog.cellsOf 3)) = xs[1]? from hf 1 _ rfl)
  obtain ⟨y2, z2⟩ := got hxl (by decide) (show DataW.trod enc Tryz.prog W base sp hd n 3 ((cs.drop 2).take (Tryz.prog.cellsOf 3)) = xs[2]? from hf 2 _ rfl)
  obtain ⟨y3, z3⟩ := got hxl (by decide) (show DataW.trod enc Tryz.prog W base sp hd n 28 ((cs.drop 3).take (Tryz.prog.cellsOf 28)) = xs[3]? from hf 3 _ rfl)
  obtain ⟨y4, z4⟩ := got hxl (by decide) (show DataW.trod enc Tryz.prog W base sp hd n 31 ((cs.drop 6).take (Tryz.prog.cellsOf 31)) = xs[4]? from hf 4 _ rfl)
  obtain ⟨y5, z5⟩ := got hxl (by decide) (show DataW.trod enc Tryz.prog W base sp hd n 31 ((cs.drop 9).take (Tryz.prog.cellsOf 31)) = xs[5]? from hf 5 _ rfl)
  obtain ⟨y6, z6⟩ := got hxl (by decide) (show DataW.trod enc Tryz.prog W base sp hd n 34 ((cs.drop 12).take (Tryz.prog.cellsOf 34)) = xs[6]? from hf 6 _ rfl)
  obtain ⟨y7, z7⟩ := got hxl (by decide) (show DataW.trod enc Tryz.prog W base sp hd n 3 ((cs.drop 15).take (Tryz.prog.cellsOf 3)) = xs[7]? from hf 7 _ rfl)
  rw [c3] at z0 z1 z2 z7
  rw [c28] at z3
  rw [c31] at z4 z5
  rw [c34] at z6
  obtain ⟨i0, k0, _⟩ := op_int Tryz.underlying3 z0
  obtain ⟨i1, k1, _⟩ := op_int Tryz.underlying3 z1
  obtain ⟨i2, k2, _⟩ := op_int Tryz.underlying3 z2
  obtain ⟨b3, k3⟩ := op_bd28 z3
  obtain ⟨b4, k4⟩ := op_bd31 z4
  obtain ⟨b5, k5⟩ := op_bd31 z5
  obtain ⟨b6, k6⟩ := op_bd34 z6
  obtain ⟨i7, k7, _⟩ := op_int Tryz.underlying3 z7
  refine ⟨⟨i0, i1, i2, b3, b4, b5, b6, i7⟩, ?_⟩
  have e : cs = (cs.drop 0).take 1 ++ ((cs.drop 1).take 1 ++ ((cs.drop 2).take 1 ++ ((cs.drop 3).take 3 ++ ((cs.drop 6).take 3 ++ ((cs.drop 9).take 3 ++ ((cs.drop 12).take 3 ++ ((cs.drop 15).take 1 ++ (cs.drop 16)))))))) := by
    rw [← cut_at cs 15 1, ← cut_at cs 12 3, ← cut_at cs 9 3, ← cut_at cs 6 3, ← cut_at cs 3 3, ← cut_at cs 2 1, ← cut_at cs 1 1, ← cut_at cs 0 1]; rfl
  rw [show cs.drop 16 = [] from List.drop_of_length_le (by omega)] at e
  have k0 : (cs.drop 0).take 1 = [.int .i64 i0] := k0
  have k1 : (cs.drop 1).take 1 = [.int .i64 i1] := k1
  have k2 : (cs.drop 2).take 1 = [.int .i64 i2] := k2
  have k3 : (cs.drop 3).take 3 = b3.cells := k3
  have k4 : (cs.drop 6).take 3 = b4.cells := k4
  have k5 : (cs.drop 9).take 3 = b5.cells := k5
  have k6 : (cs.drop 12).take 3 = b6.cells := k6
  have k7 : (cs.drop 15).take 1 = [.int .i64 i7] := k7
  rw [e, k0, k1, k2, k3, k4, k5, k6, k7]
  rfl
theorem one_bulk {K : Type} (d : DataW K) : 1 ≤ Rows.uptoBulk d := by
  cases d with
  | lit l => cases l <;> simp [Rows.uptoBulk]
  | _ => simp [Rows.uptoBulk]
theorem len_bulk {K : Type} : ∀ l : List (DataW K), l.length ≤ Rows.uptoBulkAll l
  | [] => by simp [Rows.uptoBulkAll]
  | d :: l => by
    have := len_bulk l
    have := one_bulk d
    simp only [Rows.uptoBulkAll, List.length_cons]; omega
/-- a slice of things of m cells each -/
theorem op_slice {t e m fuel : Nat} {cs : List Value} {x : DataW H × List MemPlace} {α : Type} {cl : α → List Value} {Q : α → Prop} (ht : Tryz.prog.underlying t = some (.slice e)) (hc : Tryz.prog.cellsOf e = m) (hm : 0 < m)
    (ho : ∀ {fuel : Nat} {cs : List Value} {x : DataW H × List MemPlace}, DataW.trod enc Tryz.prog W base sp hd fuel e cs = some x → ∃ y : α, cs = cl y ∧ Q y)
    (h : DataW.trod enc Tryz.prog W base sp hd fuel t cs = some x) : ∃ (l : List α) (a : Option Addr) (c : Nat), cs = [.slice a l.length c] ∧ Elts W a m (l.map cl) ∧ (∀ y ∈ l, Q y) ∧ l.length ≤ Rows.uptoBulk x.1 := by
  rcases Go.Deep.open_slice ht h with ⟨h1, _⟩ | ⟨a, len, cap, k, n, D, Pl, h1, _, h2, h3, h4, hx, h5⟩
  · exact ⟨[], none, 0, h1, fun i l hl => by simp at hl, by simp, by simp⟩
  · have hlk : len ≤ k := by rw [h4]; split <;> omega
    obtain ⟨l, hl, hq⟩ := exists_list (α := α) (n := len) (Q := fun i y => ((cl y).length = m ∧ ∀ j v, (cl y)[j]? = some v → W.cell? (a.add (i * m + j)) = some v) ∧ Q y) (fun i hi => by
      obtain ⟨cs', g1, g2⟩ := h5 i (by omega)
      obtain ⟨y, rfl, hy⟩ := ho g2
      obtain ⟨_, g3, g4⟩ := World.cells?_some g1
      rw [hc] at g3 g4
      refine ⟨y, ⟨g3, fun j v hv => ?_⟩, hy⟩
      have hj := (List.getElem?_eq_some_iff.1 hv).1
      rw [← Go.Deep.add_add, g4 j (by omega), hv])
    refine ⟨l, some a, cap, by rw [hl]; exact h1, elts_of ?_ ?_, fun y hy => ?_, by rw [hl, hx]; have := len_bulk ((List.range len).map D); rw [List.length_map, List.length_range] at this; simp only [Rows.uptoBulk]; omega⟩
    · intro c hc'
      obtain ⟨y, hy, rfl⟩ := List.mem_map.1 hc'
      obtain ⟨i, hi⟩ := List.getElem?_of_mem hy
      have := (hq i y hi).1.1
      intro e; rw [e] at this; simp at this; omega
    · intro i c hc' j v hv
      rw [List.getElem?_map] at hc'
      obtain ⟨y, hy, rfl⟩ := Option.map_eq_some_iff.1 hc'
      exact (hq i y hy).1.2 j v hv
    · obtain ⟨i, hi⟩ := List.getElem?_of_mem hy
      exact (hq i y hi).2
theorem op_rows {v : Value} {d : DataW H} {p : List MemPlace} (h : DataW.Trod enc Tryz.prog W base sp hd 22 v d p) (hv : ∃ a len cap, v = .slice a len cap) : ∃ (ls : List Al) (a : Option Addr) (c : Nat), v = .slice a ls.length c ∧ Elts W a 16 (ls.map Al.cells) ∧ ls.length ≤ Rows.uptoBulk d := by
  obtain ⟨a, len, cap, rfl⟩ := hv
  obtain ⟨n, hn⟩ := h
  obtain ⟨l, a', c, h1, h2, _, h3⟩ := op_slice (cl := Al.cells) (Q := fun _ => True) Tryz.underlying22 c36 (by decide) (fun h => by obtain ⟨m, q1⟩ := op_al h; exact ⟨m, q1, trivial⟩) hn
  exact ⟨l, a', c, by simpa [Value.cells] using h1, h2, h3⟩
theorem op_num {v : Value} {d : DataW H} {p : List MemPlace} (h : DataW.Trod enc Tryz.prog W base sp hd 3 v d p) (hv : ∃ n, v = .int .i64 n) : ∃ n : Int, v = .int .i64 n ∧ -9223372036854775808 ≤ n ∧ n ≤ 9223372036854775807 := by
  obtain ⟨n, rfl⟩ := hv
  obtain ⟨k, hk⟩ := h
  obtain ⟨i, h1, h2⟩ := op_int Tryz.underlying3 hk
  have : n = i := by simpa [Value.cells] using h1
  subst this
  exact ⟨n, rfl, h2⟩
end
end Go.Proofs.YtpjacndlbjeehaaGreatDoor
