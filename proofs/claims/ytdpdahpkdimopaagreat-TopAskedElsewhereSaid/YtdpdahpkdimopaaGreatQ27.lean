/-
  A part of the proof of TopAskedElsewhere: walks of single functions.
-/
import Derived.Test.YtdpdahpkdimopaaGreatQf
import Derived.Test.YtdpdahpkdimopaaGreatB
import Derived.Test.YtdpdahpkdimopaaGreatQ9
import Derived.Test.YtdpdahpkdimopaaGreatQ10
import Derived.Test.YtdpdahpkdimopaaGreatQ12
import Derived.Test.YtdpdahpkdimopaaGreatQ13
import Derived.Test.YtdpdahpkdimopaaGreatQ18
import Derived.Test.YtdpdahpkdimopaaGreatQ20
import Derived.Test.YtdpdahpkdimopaaGreatQ22
import Derived.Test.YtdpdahpkdimopaaGreatQ26
import Derived.KernelRfl
set_option linter.unusedVariables false
set_option linter.unusedSimpArgs false
set_option maxRecDepth 100000
namespace Go.Proofs.YtdpdahpkdimopaaGreat
open Go Go.Px Sg
open Go.Px Sg
theorem below_rng {x n : Int} (hn : 0 < n) : 0 ≤ below x n ∧ below x n < n := by
  have t1 := Int.tmod_lt_of_pos x hn
  have t2 := Int.lt_tmod_of_pos x hn
  unfold below
  rw [if_neg (by simp only [decide_eq_true_eq]; omega)]
  split
  · rename_i h; simp only [decide_eq_true_eq] at h; omega
  · rename_i h; simp only [decide_eq_true_eq] at h; omega
theorem scan_ok {l : List Row} {q : Sg.Ask} (h : (!decide (scanErr l q = 0)) = false) : rowsErr l = 0 ∧ askErr q = 0 := by
  have h : scanErr l q = 0 := by simpa using h
  unfold scanErr at h
  by_cases h1 : rowsErr l = 0
  · refine ⟨h1, ?_⟩
    rw [if_neg (by simp [h1])] at h
    by_cases h2 : askErr q = 0
    · exact h2
    · rw [if_pos (by simpa using h2)] at h; exact h
  · rw [if_pos (by simpa using h1)] at h; exact absurd h h1
theorem clone7c (q : Sg.Ask) (ca : Option Addr) (cc : Nat) (hn : q.cones.length ≤ 1000000) (w : World) (hI : Elts w ca 4 (q.cones.map Cone.cells)) : Calls Tryz.prog 7 #[.slice ca q.cones.length cc] w fun e w' => ∃ x : Vec, e = .returned x.val ∧ Gr w w' ∧ VIn w x w' ∧ (VecOK 4 39 x ∧ x.es = q.cones.map Cone.cells) := by
  have := clone7 (q.cones.map Cone.cells) ca cc (fun l hl => by obtain ⟨c, _, rfl⟩ := List.mem_map.1 hl; rfl) (fun l hl => by obtain ⟨c, _, rfl⟩ := List.mem_map.1 hl; rfl) (by simpa using hn) w hI
  rwa [List.length_map] at this
def moveM (id t : Int) (ax : Nat) (m : MRow) : MRow := ⟨moveR id t ax m.row, m.fa, m.fc⟩
theorem rows_moved (id t : Int) (ax : Nat) (ms : List MRow) : rowsOf (ms.map (moveM id t ax)) = (rowsOf ms).map (moveR id t ax) := by simp [rowsOf, moveM]
theorem later_no {t : Int} {b : Bd} (h : (!b.u) = true) : laterB t b = ⟨b.lo + t, b.hi + t, b.u⟩ := if_neg (by simpa using h)
theorem later_yes {t : Int} {b : Bd} (h : (!b.u) = false) : laterB t b = ⟨b.lo, b.hi, b.u⟩ := if_pos (by simpa using h)
theorem row_later {A : List (World × List Nat)} {L : List Px.Loc} {w : World} {b : Nat} {id t : Int} {r : Row} {z : Bd} {fa : Option Addr} {fn fc : Nat} (hu : laterB t r.when_ = z) (h : Cls A ((b, blk (rowCells ⟨r.id + id, r.box, r.flux, z, r.frames, r.marks⟩ fa fn fc) 52) :: L) w) :
    Cls A ((b, blk (rowCells (moveR id t 0 r) fa fn fc) 52) :: L) w := by subst hu; exact h
theorem mid_get {cs : List Cone} {k n ax : Nat} {c : Cone} {l : List Cone} (hk : k ≤ cs.length) : (((cs.take k).map (rotCN ax) ++ rotCN n c :: l).map Cone.cells)[k]? = some (rotCN n c).cells := by
  rw [List.getElem?_map, List.getElem?_append_right (by simp; omega)]
  simp [Nat.min_eq_left hk]
theorem mid_set {cs : List Cone} {k n ax : Nat} {c : Cone} {l : List Cone} (hk : k ≤ cs.length) : (((cs.take k).map (rotCN ax) ++ rotCN n c :: l).map Cone.cells).set k (rotCN (n + 1) c).cells = ((cs.take k).map (rotCN ax) ++ rotCN (n + 1) c :: l).map Cone.cells := by
  rw [← List.map_set, List.set_append_right _ _ (by simp; omega)]
  simp [Nat.min_eq_left hk]
/-- the questions and rows of one's own -/
theorem scan5z (rs : List MRow) (q : Sg.Ask) (mv cv : Vec) (hm : VecOK 18 52 mv) (he : mv.es = rs.map MRow.cells) (hc : VecOK 4 39 cv) (hce : cv.es = q.cones.map Cone.cells) (hl : q.cones.length < 9223372036854775808) (hr : rowsErr (rowsOf rs) = 0) (ha : askErr q = 0) (w : World)
    (ho1 : ∀ p ∈ mv.own, w.heap[p.1]? = some p.2) (ho2 : ∀ p ∈ cv.own, w.heap[p.1]? = some p.2) (hfr : ∀ m ∈ rs, Ints w m.fa m.row.frames ∧ m.row.frames.length < 9223372036854775808) :
    Calls Tryz.prog 5 #[mv.val, .agg #[cv.val, .int .i64 q.from_, .int .i64 q.to_, .int .i64 q.least, .int .i64 q.ban]] w fun e w' => ∃ x : Vec, e = .returned (.tuple #[x.val, .int .i64 0]) ∧ Gr w w' ∧ VIn w x w' ∧ (VecOK 2 60 x ∧ x.es = (ansV (rowsOf rs) q).map ansCells) := by
  obtain ⟨a, c, e1, e2, _⟩ := elts_vec hm ho1
  obtain ⟨a2, c2, e3, e4, _⟩ := elts_vec hc ho2
  rw [he] at e1 e2
  rw [hce] at e3 e4
  rw [List.length_map] at e1 e3
  rw [e1, e3]
  have h := scan5 rs a c q a2 c2 hl w ⟨e2, hfr⟩ e4
  have h0 := scan_c (l := rowsOf rs) (q := q) (by rw [hr]; rfl) (by rw [ha]; rfl)
  rw [h0.1, h0.2] at h
  exact h
theorem new9v (rs : List MRow) (level : Int) (mv : Vec) (hm : VecOK 18 52 mv) (he : mv.es = rs.map MRow.cells) (hz : rowsErr (rowsOf rs) = 0) (hl : 0 ≤ level ∧ level ≤ 12) (w : World) (ho1 : ∀ p ∈ mv.own, w.heap[p.1]? = some p.2) (hfr : ∀ m ∈ rs, Ints w m.fa m.row.frames ∧ m.row.frames.length < 9223372036854775808) (hF : ∀ m ∈ rs, m.row.frames.length ≤ 1000000) :
    TurnsL Tryz.prog 9 [mv.val, .int .i64 level] w [] (fun x : Nat × Vec × Vec × Vec × List Nat × List Nd => .tuple #[ptrV x.1, .int .i64 0]) (fun x => idxOwn x.1 level x.2.1 x.2.2.1 x.2.2.2.1 x.2.2.2.2.2) (fun x => IdxOK (rowsOf rs) x.2.1 x.2.2.1 x.2.2.2.1 x.2.2.2.2.1 x.2.2.2.2.2) := by
  obtain ⟨a, c, e1, e2, _⟩ := elts_vec hm ho1
  rw [he] at e1 e2
  rw [List.length_map] at e1
  rw [e1]
  exact new9 rs a c level hz hl w ⟨e2, hfr⟩ hF
theorem run10v (rs : List Row) (q : Sg.Ask) (ib : Nat) (level : Int) (x1 rtv lv cv : Vec) (li : List Nat) (roots : List Nd) (hi : IdxOK rs x1 rtv lv li roots) (hc : VecOK 4 39 cv) (hce : cv.es = q.cones.map Cone.cells) (hr : rowsErr rs = 0) (ha : askErr q = 0) (hcl : q.cones.length < 9223372036854775808) (w : World)
    (hX : ∀ p ∈ idxOwn ib level x1 rtv lv roots, w.heap[p.1]? = some p.2) (ho2 : ∀ p ∈ cv.own, w.heap[p.1]? = some p.2) :
    Calls Tryz.prog 10 #[ptrV ib, .agg #[cv.val, .int .i64 q.from_, .int .i64 q.to_, .int .i64 q.least, .int .i64 q.ban]] w fun e w' => ∃ x : Vec × Int, e = .returned (.tuple #[x.1.val, .int .i64 x.2, .int .i64 0]) ∧ Gr w w' ∧ VIn w x.1 w' ∧ (VecOK 2 60 x.1 ∧ x.1.es = (ansV rs q).map ansCells) := by
  obtain ⟨a2, c2, e3, e4, _⟩ := elts_vec hc ho2
  rw [hce] at e3 e4
  rw [List.length_map] at e3
  rw [e3]
  exact run10 rs q ib level x1 rtv lv li roots hi a2 c2 hr ha hcl w hX e4
theorem equal11v (xs ys : List (Int × Int)) (a b : Vec) (ha : VecOK 2 60 a) (hae : a.es = xs.map ansCells) (hb : VecOK 2 60 b) (hbe : b.es = ys.map ansCells) (hn : xs.length < 1000000) (w : World) (ho1 : ∀ p ∈ a.own, w.heap[p.1]? = some p.2) (ho2 : ∀ p ∈ b.own, w.heap[p.1]? = some p.2) :
    Calls Tryz.prog 11 #[a.val, b.val] w fun e w' => e = .returned (.bool (decide (xs = ys))) ∧ Gr w w' := by
  obtain ⟨a1, c1, e1, e2, _⟩ := elts_vec ha ho1
  obtain ⟨a2, c2, e3, e4, _⟩ := elts_vec hb ho2
  rw [hae] at e1 e2
  rw [hbe] at e3 e4
  rw [List.length_map] at e1 e3
  rw [e1, e3]
  exact equal11 xs ys a1 a2 c1 c2 hn w e2 e4
theorem equalf12v (xs ys : List (Int × Int)) (a b : Vec) (id_ : Int) (pid : Nat) (ha : VecOK 2 60 a) (hae : a.es = xs.map ansCells) (hb : VecOK 2 60 b) (hbe : b.es = ys.map ansCells) (hn : xs.length < 1000000) (hr : ∀ x ∈ xs, -9223372036854775808 ≤ x.1 + id_ ∧ x.1 + id_ ≤ 9223372036854775807) (w : World)
    (ho1 : ∀ p ∈ a.own, w.heap[p.1]? = some p.2) (ho2 : ∀ p ∈ b.own, w.heap[p.1]? = some p.2) (hid : w.heap[pid]? = some (blk [.int .i64 id_] 3)) :
    Calls Tryz.prog 12 #[a.val, b.val, .func (.func 13) #[] #[.pointer (some ⟨pid, 0, none⟩)]] w fun e w' => e = .returned (.bool (decide (xs.map (fun x => (x.1 + id_, x.2)) = ys))) ∧ Gr w w' := by
  obtain ⟨a1, c1, e1, e2, _⟩ := elts_vec ha ho1
  obtain ⟨a2, c2, e3, e4, _⟩ := elts_vec hb ho2
  rw [hae] at e1 e2
  rw [hbe] at e3 e4
  rw [List.length_map] at e1 e3
  rw [e1, e3]
  exact equalf12 xs ys a1 a2 c1 c2 id_ pid hn hr w e2 e4 hid
theorem ansV_id {rs : List Row} {q : Sg.Ask} (hr : rowsErr rs = 0) : ∀ a ∈ ansV rs q, 1 ≤ a.1 ∧ a.1 ≤ 2147483647 := fun a ha => by
  obtain ⟨r, hr', hra⟩ := List.mem_filterMap.1 ha
  have hg := (rowsErr_zero.1 hr).2.1 r hr'
  unfold ansOf at hra
  split at hra
  · simp at hra; subst hra; exact ⟨hg.id1, hg.id2⟩
  · simp at hra
set_option maxHeartbeats 4000000 in
theorem top3 (ms : List MRow) (ra : Option Addr) (rc : Nat) (q : Sg.Ask) (ca : Option Addr) (cc : Nat) (id_ later axes level : Int) (hcl : q.cones.length < 9223372036854775808) (hid1 : -9223372036854775808 ≤ id_ ∧ id_ ≤ 9223372036854775807) (hid2 : -9223372036854775808 ≤ later ∧ later ≤ 9223372036854775807) (hid3 : -9223372036854775808 ≤ axes ∧ axes ≤ 9223372036854775807) (hid4 : -9223372036854775808 ≤ level ∧ level ≤ 9223372036854775807) (w : World) (hR : RowsAt w ra ms) (hI : Elts w ca 4 (q.cones.map Cone.cells)) : Calls Tryz.prog 3 #[.slice ra ms.length rc, .agg #[.slice ca q.cones.length cc, .int .i64 q.from_, .int .i64 q.to_, .int .i64 q.least, .int .i64 q.ban], .int .i64 id_, .int .i64 later, .int .i64 axes, .int .i64 level] w fun e w' => e = .returned (.bool true) ∧ Gr w w' := by
  have hib := below_rng (x := id_) (n := 1000) (by decide)
  have htb := below_rng (x := later) (n := 8796093022208) (by decide)
  have hab := below_rng (x := axes) (n := 3) (by decide)
  have hlb := below_rng (x := level) (n := 9) (by decide)
  refine enter Tryz.func3 rfl rfl rfl rfl (Cls.start w) ?_
  refine c_seq ?_
  refine c_text ?_
  refine l_n rfl (n_box rfl .a rfl) (fun b0 _ => ?_)
  refine l_n rfl (n_box rfl (.o rfl) rfl) (fun b1 _ => ?_)
  refine l_y (Cls.gs _ _) (y_assign rfl) rfl ?_
  refine l_nil ?_
  refine e_then ?_
  refine CJ.weak (.c (t := 0) rfl (.c (t := 3) rfl (.c (t := 4) rfl (.c (t := 5) rfl (.c (t := 7) rfl (.c (t := 8) rfl .n)))))) (fun _ h => h) ?_
  refine c_seq ?_
  refine c_seq ?_
  refine c_text ?_
  refine l_y (Cls.gs _ _) (y_call ent4 .n (fun w _ => c4_0 w)) rfl ?_
  refine l_y (Cls.gs _ _) ((y_not rfl).lit (by kernel_rfl : _ = Value.bool false)) rfl ?_
  refine l_nil ?_
  refine e_then ?_
  refine CJ.weak (.c (t := 0) rfl (.c (t := 3) rfl (.c (t := 4) rfl (.c (t := 5) rfl (.c (t := 7) rfl (.c (t := 8) rfl (.c (t := 28) rfl .n))))))) (fun _ h => h) ?_
  refine c_false (by kernel_rfl) ?_
  refine c_skip ?_
  refine e_then ?_
  refine CJ.weak (.c (t := 0) rfl (.c (t := 3) rfl (.c (t := 4) rfl (.c (t := 5) rfl (.c (t := 7) rfl (.c (t := 8) rfl .n)))))) (fun _ h => h) ?_
  refine c_seq ?_
  refine c_text ?_
  refine l_y (Cls.gs _ _) (y_move rfl) rfl ?_
  refine l_y (Cls.gs _ _) (y_load rfl (LoadAt.aggL (.s .z) ty27 (.t (.t (.t (.t (.t .d))))))) rfl ?_
  refine l_n rfl (n_callV ent5 (.c (.c .z)) (.c rfl (.c rfl .n)) (fun w' hw' => scan5 ms ra rc q ca cc hcl w' (hR.gr (hw'.gr .z)) (hI.gr (hw'.gr .z))) rfl) (fun va hva => ?_)
  refine l_y (Cls.gs _ _) (y_move rfl) rfl ?_
  refine l_y (Cls.gs _ _) (y_extract rfl .z) rfl ?_
  refine l_y (Cls.gs _ _) (y_extract rfl (.s .z)) rfl ?_
  refine l_y (Cls.gs _ _) (y_assign rfl) rfl ?_
  refine l_y (Cls.gs _ _) (y_assign rfl) rfl ?_
  refine l_nil ?_
  refine e_then ?_
  refine CJ.weak (.c (t := 0) rfl (.c (t := 3) rfl (.c (t := 4) rfl (.c (t := 5) rfl (.c (t := 7) rfl (.c (t := 8) rfl (.c (t := 13) rfl (.c (t := 14) rfl .n)))))))) (fun _ h => h) ?_
  refine c_seq ?_
  refine c_seq ?_
  refine c_text ?_
  refine l_y (Cls.gs _ _) (y_move rfl) rfl ?_
  refine l_y (Cls.gs _ _) (y_neq rfl rfl) rfl ?_
  refine l_nil ?_
  refine e_then ?_
  refine CJ.weak (.c (t := 0) rfl (.c (t := 3) rfl (.c (t := 4) rfl (.c (t := 5) rfl (.c (t := 7) rfl (.c (t := 8) rfl (.c (t := 13) rfl (.c (t := 36) rfl .n)))))))) (fun _ h => h) ?_
  refine c_cond rfl (fun h0 => ?_) (fun h0 => ?_)
  ·
    refine c_seq ?_
    refine c_text ?_
    refine l_y (Cls.gs _ _) (y_assign rfl) rfl ?_
    refine l_nil ?_
    refine e_then ?_
    refine CJ.weak (.c (t := 12) rfl .n) (fun _ h => h) ?_
    refine c_ret ?_
    refine e_then_ret ?_
    refine e_ret rfl (.t rfl .n) (fun wF hw => ?_)
    exact ⟨rfl, (hw.anc (w, []) (by simp)).below⟩
  · have hz := scan_ok h0
    have hms : ms.length ≤ 200 := by have := (rowsErr_zero.1 hz.1).1; simpa [rowsOf] using this
    have hgood : ∀ m ∈ ms, RowGood m.row := fun m hm => (rowsErr_zero.1 hz.1).2.1 m.row (List.mem_map.2 ⟨m, hm, rfl⟩)
    have hask := askErr_zero.1 hz.2
    have hql := hask.1
    refine c_skip ?_
    refine e_then ?_
    refine CJ.weak (.c (t := 0) rfl (.c (t := 3) rfl (.c (t := 4) rfl (.c (t := 5) rfl (.c (t := 7) rfl (.c (t := 8) rfl (.c (t := 13) rfl .n))))))) (fun _ h => h) ?_
    refine c_seq ?_
    refine c_text ?_
    refine l_y (Cls.gs _ _) (y_load rfl (LoadAt.oneL .z ty3 .z)) rfl ?_
    refine l_y (Cls.gs _ _) (y_call ent6 (.c rfl (.c rfl .n)) (fun w _ => below6 id_ 1000 hid1.1 hid1.2 (by decide) (by decide) w)) rfl ?_
    refine l_y (Cls.gs _ _) (y_move rfl) rfl ?_
    refine l_y (Cls.gs _ _) (y_call ent6 (.c rfl (.c rfl .n)) (fun w _ => below6 axes 3 hid3.1 hid3.2 (by decide) (by decide) w)) rfl ?_
    refine l_y (Cls.gs _ _) (y_move rfl) rfl ?_
    refine l_y (Cls.gs _ _) (y_call ent6 (.c rfl (.c rfl .n)) (fun w _ => below6 level 9 hid4.1 hid4.2 (by decide) (by decide) w)) rfl ?_
    refine l_n rfl (n_store rfl rfl ty3 (.o rfl) rfl rfl .z (.t .d)) (fun _ _ => ?_)
    refine l_y (Cls.gs _ _) (y_assign rfl) rfl ?_
    refine l_y (Cls.gs _ _) (y_assign rfl) rfl ?_
    refine l_nil ?_
    refine e_then ?_
    refine CJ.weak (.c (t := 0) rfl (.c (t := 3) rfl (.c (t := 4) rfl (.c (t := 5) rfl (.c (t := 7) rfl (.c (t := 8) rfl (.c (t := 13) rfl .n))))))) (fun _ h => h) ?_
    refine c_seq ?_
    refine c_text ?_
    refine l_y (Cls.gs _ _) (y_move rfl) rfl ?_
    refine l_y (Cls.gs _ _) (y_call ent6 (.c rfl (.c rfl .n)) (fun w _ => below6 later 8796093022208 hid2.1 hid2.2 (by decide) (by decide) w)) rfl ?_
    refine l_y (Cls.gs _ _) (y_assign rfl) rfl ?_
    refine l_nil ?_
    refine e_then ?_
    refine CJ.weak (.c (t := 0) rfl (.c (t := 4) rfl (.c (t := 5) rfl (.c (t := 7) rfl (.c (t := 8) rfl (.c (t := 13) rfl (.c (t := 15) rfl .n))))))) (fun _ h => h) ?_
    refine c_seq ?_
    refine c_text ?_
    refine l_y (Cls.gs _ _) (y_load rfl (LoadAt.aggL (.s .z) ty27 (.t (.t (.t (.t (.t .d))))))) rfl ?_
    refine l_n rfl (n_alloc ty27 .a rfl) (fun b2 _ => ?_)
    refine l_n rfl (n_store rfl rfl ty27 .a rfl rfl .z (.t (.t (.t (.t (.t .d)))))) (fun _ _ => ?_)
    refine l_nil ?_
    refine e_then ?_
    refine CJ.weak (.c (t := 0) rfl (.c (t := 4) rfl (.c (t := 5) rfl (.c (t := 7) rfl (.c (t := 8) rfl (.c (t := 13) rfl (.c (t := 15) rfl (.c (t := 16) rfl .n)))))))) (fun _ h => h) ?_
    refine c_seq ?_
    refine c_text ?_
    refine l_y (Cls.gs _ _) (y_fieldAddr rfl fa27_0) rfl ?_
    refine l_y (Cls.gs _ _) (y_load rfl (LoadAt.oneL (.s (.s .z)) ty23 .z)) rfl ?_
    refine l_n rfl (n_callV ent7 (.c (.c (.c .e))) (.c rfl .n) (fun w' hw' => clone7c q ca cc (by omega) w' (hI.gr (hw'.gr .z))) rfl) (fun kl hkl => ?_)
    refine l_y (Cls.gs _ _) (y_fieldAddr rfl fa27_0) rfl ?_
    refine l_n rfl (n_store rfl rfl ty23 (.o hkl.1.sc) rfl hkl.1.sc1 .z (.t .d)) (fun _ _ => ?_)
    refine l_nil ?_
    refine e_then ?_
    refine CJ.weak (.c (t := 0) rfl (.c (t := 4) rfl (.c (t := 5) rfl (.c (t := 7) rfl (.c (t := 8) rfl (.c (t := 13) rfl (.c (t := 15) rfl (.c (t := 16) rfl .n)))))))) (fun _ h => h) ?_
    refine c_seq ?_
    refine c_text ?_
    refine l_y (Cls.gs _ _) (y_fieldAddr rfl fa27_0) rfl ?_
    refine l_y (Cls.gs _ _) (y_load rfl (LoadAt.oneL .z ty23 .z)) rfl ?_
    refine l_n rfl (n_callTV (v := kl) ent8 (.c (.c (.c .h))) (.c rfl .n) (fun w' hw' => rev8 q.cones (by omega) kl hkl.1 hkl.2 w' (Cls.ownV hkl.1 hw' (.c (.c (.c .h))))) rfl) (fun rv hrv => ?_)
    rw [← hrv.2.2]
    refine l_nil ?_
    refine e_then ?_
    refine CJ.weak (.c (t := 0) rfl (.c (t := 4) rfl (.c (t := 5) rfl (.c (t := 7) rfl (.c (t := 8) rfl (.c (t := 13) rfl (.c (t := 15) rfl (.c (t := 16) rfl .n)))))))) (fun _ h => h) ?_
    refine c_cut (fun x : Vec × List Cone => VecOK 4 39 x.1 ∧ x.1.es = x.2.map Cone.cells ∧ (∀ c, c ∈ x.2 ↔ c ∈ q.cones) ∧ x.2.length ≤ 4) (fun x => [(0, .slice ra ms.length rc), (4, .int .i64 (below axes 3)), (5, .int .i64 (below level 9)), (7, ptrV b0), (8, ptrV b1), (13, va.val), (15, .int .i64 (below later 8796093022208)), (16, ptrV b2)]) (fun x => Cls [(w, [])] ((b2, blk [x.1.val, .int .i64 q.from_, .int .i64 q.to_, .int .i64 q.least, .int .i64 q.ban] 27) :: (b1, blk [.int .i64 (below id_ 1000)] 3) :: (b0, blk [.slice ca q.cones.length cc, .int .i64 q.from_, .int .i64 q.to_, .int .i64 q.least, .int .i64 q.ban] 27) :: (x.1.own ++ va.own))) ?_ ?_
    ·
      refine c_seq ?_
      refine c_text ?_
      refine l_y (Cls.gs _ _) (y_fieldAddr rfl fa27_0) rfl ?_
      refine l_y (Cls.gs _ _) (y_load rfl (LoadAt.oneL .z ty23 .z)) rfl ?_
      refine l_y (Cls.gs _ _) (y_lenV Tryz.underlying23 hrv.1 rfl rfl) rfl ?_
      refine l_y (Cls.gs _ _) (y_assign rfl) rfl ?_
      refine l_nil ?_
      refine e_then ?_
      refine CJ.weak (.c (t := 0) rfl (.c (t := 4) rfl (.c (t := 5) rfl (.c (t := 7) rfl (.c (t := 8) rfl (.c (t := 13) rfl (.c (t := 15) rfl (.c (t := 16) rfl (.c (t := 17) rfl .n))))))))) (fun _ h => h) ?_
      refine c_seq ?_
      refine c_text ?_
      refine l_y (Cls.gs _ _) (y_move rfl) rfl ?_
      refine l_y (Cls.gs _ _) (y_gtr rfl rfl) rfl ?_
      refine l_y (Cls.gs _ _) (y_move rfl) rfl ?_
      refine l_g (s := 58) (Cls.gs _ _) (by kernel_rfl) rfl (beq_t _) (fun hg => y_move rfl) rfl ?_
      refine l_g (s := 58) (Cls.gs _ _) (by kernel_rfl) rfl (beq_t _) (fun hg => y_lss (gvt hg rfl) rfl) rfl ?_
      refine l_y (Cls.gs _ _) (y_and rfl rfl rfl) rfl ?_
      refine l_nil ?_
      refine e_then ?_
      refine CJ.weak (.c (t := 0) rfl (.c (t := 4) rfl (.c (t := 5) rfl (.c (t := 7) rfl (.c (t := 8) rfl (.c (t := 13) rfl (.c (t := 15) rfl (.c (t := 16) rfl (.c (t := 61) rfl .n))))))))) (fun _ h => h) ?_
      refine c_cond rfl (fun h1 => ?_) (fun h1 => ?_)
      · have hrl : rv.es.length = q.cones.length := by rw [hrv.2.1]; simp
        have h1' := h1
        simp only [Bool.and_eq_true, decide_eq_true_eq] at h1'
        obtain ⟨c0, hc0⟩ : ∃ c0, q.cones.reverse[0]? = some c0 := ⟨_, List.getElem?_eq_getElem (by rw [List.length_reverse]; omega)⟩
        have he0 : rv.es[0]? = some c0.cells := by rw [hrv.2.1, List.getElem?_map, hc0]; rfl
        refine c_draw (m := 10) (S0 := fun _ => True) (fun i => Nat.beq i 7 || Nat.beq i 9) (fun _ _ => trivial) hmix (Cls.gs _ _) rfl ?_
        refine a_yM (i := 0) (Cls.gs _ _) (by kernel_rfl) rfl (by kernel_rfl) (by kernel_rfl) (y_fieldAddr rfl fa27_0) rfl ?_
        refine a_y (i := 1) (Cls.gs _ _) (by kernel_rfl) rfl (by kernel_rfl) (by kernel_rfl) (y_load rfl (LoadAt.oneL .z ty23 .z)) rfl ?_
        refine a_yM (i := 2) (Cls.gs _ _) (by kernel_rfl) rfl (by kernel_rfl) (by kernel_rfl) (y_fieldAddr rfl fa27_0) rfl ?_
        refine a_n (i := 3) rfl rfl (by kernel_rfl) (fun _ => Cls.gs _ _) (.inr fun _ _ h => h) (NO.ofY (Cls.gs _ _) (y_load rfl (LoadAt.oneL .z ty23 .z)) rfl) (fun _ _ => ?_)
        refine a_yM (i := 4) (Cls.gs _ _) (by kernel_rfl) rfl (by kernel_rfl) (by kernel_rfl) (y_idxVec Tryz.underlying23 ty39 hrv.1 rfl rfl rfl (by decide) (by omega)) rfl ?_
        refine a_n (i := 5) rfl rfl (by kernel_rfl) (fun _ => Cls.gs _ _) (.inr fun _ _ h => h) (NO.ofY (Cls.gs _ _) (y_load rfl (LoadAt.aggV hrv.1 rfl (.c (.c (.c .h))) ty39 he0 (.t (.t (.t (.t .d)))) (by simp))) rfl) (fun _ _ => ?_)
        refine a_n (i := 6) rfl rfl (by kernel_rfl) (fun _ => Cls.gs _ _) (.inr fun _ _ h => h.tail) (n_buildSlice (l := [.int .i64 0, .int .i64 0, .int .i64 0, .int .i64 0]) Tryz.underlying23 ty39 .a rfl (by simp) (by kernel_rfl) (.c rfl .n) (.c rfl .a rfl rfl (.t (.t (.t (.t .d)))) .d) rfl) (fun b3 _ => ?_)
        refine a_n (i := 7) rfl rfl (by kernel_rfl) (fun _ => Cls.gs _ _) (.inl ⟨rfl, fun _ _ _ => trivial⟩) (n_append1 (v := rv) 140000 Tryz.underlying23 ti39 hrv.1 (.c (.c (.c (.c .h)))) rfl rfl .z rfl rfl (by omega) rfl rfl) (fun ap hap => ?_)
        refine a_y (i := 8) (Cls.gs _ _) (by kernel_rfl) rfl (by kernel_rfl) (by kernel_rfl) (y_fieldAddr rfl fa27_0) rfl ?_
        refine a_n (i := 9) rfl rfl (by kernel_rfl) (fun _ => Cls.gs _ _) (.inl ⟨rfl, fun _ _ _ => trivial⟩) (n_store rfl rfl ty23 (.o hap.1.sc) rfl hap.1.sc1 (.s .z) (.t .d)) (fun _ _ => ?_)
        refine a_done (by kernel_rfl) ?_
        refine e_mid (ap, q.cones.reverse ++ [c0]) (⟨hap.1, by rw [hap.2, hrv.2.1]; simp [Cone.cells], fun c => by
                                                                                have := List.mem_of_getElem? hc0; simp only [List.mem_append, List.mem_reverse, List.mem_singleton]; constructor; (rintro (h | rfl); exact h; simpa using this); exact .inl, by have e1 := congrArg List.length hrv.2.1; simp only [List.length_map, List.length_reverse] at e1; simp only [List.length_append, List.length_reverse, List.length_singleton]; simp only [Bool.and_eq_true, decide_eq_true_eq] at h1; omega⟩) (.c (t := 0) rfl (.c (t := 4) rfl (.c (t := 5) rfl (.c (t := 7) rfl (.c (t := 8) rfl (.c (t := 13) rfl (.c (t := 15) rfl (.c (t := 16) rfl .n)))))))) (fun _ h => h.thin (.d .r))
      ·
        refine c_skip ?_
        refine e_mid (rv, q.cones.reverse) (⟨hrv.1, hrv.2.1, fun c => by simp, by simpa using hql⟩) (.c (t := 0) rfl (.c (t := 4) rfl (.c (t := 5) rfl (.c (t := 7) rfl (.c (t := 8) rfl (.c (t := 13) rfl (.c (t := 15) rfl (.c (t := 16) rfl .n)))))))) (fun _ h => h)
    · rintro ⟨cv, cs⟩ hc; dsimp only at hc
      refine c_seq ?_
      refine c_text ?_
      refine l_y (Cls.gs _ _) (y_assign rfl) rfl ?_
      refine l_nil ?_
      refine e_then ?_
      refine c_seq ?_
      refine c_seq ?_
      refine c_text ?_
      refine l_y (Cls.gs _ _) (y_move rfl) rfl ?_
      refine l_y (Cls.gs _ _) (y_lenS Tryz.underlying22 rfl rfl) rfl ?_
      refine l_y (Cls.gs _ _) (y_move rfl) rfl ?_
      refine l_nil ?_
      refine e_then ?_
      refine CJ.weak (.c (t := 4) rfl (.c (t := 5) rfl (.c (t := 7) rfl (.c (t := 8) rfl (.c (t := 13) rfl (.c (t := 15) rfl (.c (t := 16) rfl (.c (t := 18) rfl (.c (t := 71) rfl (.c (t := 72) rfl (.c (t := 73) rfl .n))))))))))) (fun _ h => h) ?_
      refine c_block ?_
      refine CJ.weak (.c (t := 18) rfl (.c (t := 73) rfl (.c (t := 4) rfl (.c (t := 5) rfl (.c (t := 7) rfl (.c (t := 8) rfl (.c (t := 13) rfl (.c (t := 15) rfl (.c (t := 16) rfl (.c (t := 71) rfl (.c (t := 72) rfl .n))))))))))) (fun _ h => h) ?_
      refine c_loopV (fun x : Vec × Nat => VecOK 18 52 x.1 ∧ x.1.es = ((ms.take x.2).map (moveM (below id_ 1000) (below later 8796093022208) (below axes 3).toNat)).map MRow.cells ∧ x.2 ≤ ms.length ∧ ∀ m ∈ ms.take x.2, m.row.id + (below id_ 1000) ≤ 2147483647 ∧ (laterB (below later 8796093022208) m.row.when_).hi ≤ 17592186044416) (fun x => [(18, x.1.val), (73, .int .i64 (x.2 : Int))]) (fun x => (b2, blk [cv.val, .int .i64 q.from_, .int .i64 q.to_, .int .i64 q.least, .int .i64 q.ban] 27) :: (b1, blk [.int .i64 (below id_ 1000)] 3) :: (b0, blk [.slice ca q.cones.length cc, .int .i64 q.from_, .int .i64 q.to_, .int .i64 q.least, .int .i64 q.ban] 27) :: (x.1.own ++ (cv.own ++ va.own))) (fun x => ms.length - x.2) ((Vec.nil, 0)) (⟨.nil, rfl, Nat.zero_le _, by simp⟩) .z ?_
      rintro ⟨mv, k⟩ hk
      dsimp only at hk
      refine c_seq ?_
      refine c_text ?_
      refine l_y (Cls.gs _ _) (y_lss rfl rfl) rfl ?_
      refine l_nil ?_
      refine e_then ?_
      refine c_seq ?_
      refine c_cond rfl (fun h2 => ?_) (fun h2 => ?_)
      · have hlt : k < ms.length := by have := of_decide_eq_true h2; (try dsimp only at this); omega
        obtain ⟨m, hm⟩ : ∃ m, ms[k]? = some m := ⟨_, List.getElem?_eq_getElem hlt⟩
        obtain ⟨b, o, ha, he⟩ := hR.els k m.cells (by simp [hm])
        replace he := elt_load he
        have hg := hgood m (List.mem_of_getElem? hm)
        have hg1 := hg.id1
        have hg2 := hg.id2
        have hg3 := (endsErr_zero.1 hg.when_).2
        have hg4 := (bdErr_zero.1 (endsErr_zero.1 hg.when_).1).2
        refine c_skip ?_
        refine e_then ?_
        refine CJ.weak (.c (t := 4) rfl (.c (t := 5) rfl (.c (t := 7) rfl (.c (t := 8) rfl (.c (t := 13) rfl (.c (t := 15) rfl (.c (t := 16) rfl (.c (t := 18) rfl (.c (t := 71) rfl (.c (t := 72) rfl (.c (t := 73) rfl .n))))))))))) (fun _ h => h) ?_
        refine c_seq ?_
        refine c_block ?_
        refine c_seq ?_
        refine c_text ?_
        refine l_y (Cls.gs _ _) (y_indexAddrF Tryz.underlying22 ty52 rfl rfl ha (by (try dsimp only); omega) (by (try dsimp only); omega)) rfl ?_
        refine l_y (Cls.gs _ _) (y_load rfl (LoadAt.aggF (l := [.int .i64 m.row.id, .int .i64 m.row.box.x.lo, .int .i64 m.row.box.x.hi, .bool m.row.box.x.u, .int .i64 m.row.box.y.lo, .int .i64 m.row.box.y.hi, .bool m.row.box.y.u, .int .i64 m.row.box.z.lo, .int .i64 m.row.box.z.hi, .bool m.row.box.z.u, .int .i64 m.row.flux.lo, .int .i64 m.row.flux.hi, .bool m.row.flux.u, .int .i64 m.row.when_.lo, .int .i64 m.row.when_.hi, .bool m.row.when_.u, .slice m.fa m.row.frames.length m.fc, .int .i64 m.row.marks]) .z ty52 rfl he)) rfl ?_
        refine l_n rfl (n_alloc ty52 .a rfl) (fun b4 _ => ?_)
        refine l_n rfl (n_store rfl rfl ty52 .a rfl rfl .z (.t (.t (.t (.t (.t (.t (.t (.t (.t (.t (.t (.t (.t (.t (.t (.t (.t (.t .d))))))))))))))))))) (fun _ _ => ?_)
        refine l_nil ?_
        refine e_then ?_
        refine CJ.weak (.c (t := 4) rfl (.c (t := 5) rfl (.c (t := 7) rfl (.c (t := 8) rfl (.c (t := 13) rfl (.c (t := 15) rfl (.c (t := 16) rfl (.c (t := 18) rfl (.c (t := 20) rfl (.c (t := 71) rfl (.c (t := 72) rfl (.c (t := 73) rfl .n)))))))))))) (fun _ h => h) ?_
        refine c_seq ?_
        refine c_text ?_
        refine l_y (Cls.gs _ _) (y_fieldAddr rfl fa52_0) rfl ?_
        refine l_y (Cls.gs _ _) (y_load rfl (LoadAt.oneL .z ty3 .z)) rfl ?_
        refine l_y (Cls.gs _ _) (y_load rfl (LoadAt.oneL (.s (.s .z)) ty3 .z)) rfl ?_
        refine l_y (Cls.gs _ _) (y_add64 m.row.id (below id_ 1000) rfl rfl (by omega) (by omega)) rfl ?_
        refine l_y (Cls.gs _ _) (y_fieldAddr rfl fa52_0) rfl ?_
        refine l_n rfl (n_store rfl rfl ty3 (.o rfl) rfl rfl .z (.t .d)) (fun _ _ => ?_)
        refine l_nil ?_
        refine e_then ?_
        refine CJ.weak (.c (t := 4) rfl (.c (t := 5) rfl (.c (t := 7) rfl (.c (t := 8) rfl (.c (t := 13) rfl (.c (t := 15) rfl (.c (t := 16) rfl (.c (t := 18) rfl (.c (t := 20) rfl (.c (t := 71) rfl (.c (t := 72) rfl (.c (t := 73) rfl .n)))))))))))) (fun _ h => h) ?_
        refine c_cut (fun _ : Unit => True) (fun x => [(4, .int .i64 (below axes 3)), (5, .int .i64 (below level 9)), (7, ptrV b0), (8, ptrV b1), (13, va.val), (15, .int .i64 (below later 8796093022208)), (16, ptrV b2), (18, mv.val), (20, ptrV b4), (71, .slice ra ms.length rc), (72, .int .i64 (ms.length : Int)), (73, .int .i64 (k : Int))]) (fun _ => Cls [(w, [])] ((b4, blk (rowCells (moveR (below id_ 1000) (below later 8796093022208) 0 m.row) m.fa m.row.frames.length m.fc) 52) :: (b2, blk [cv.val, .int .i64 q.from_, .int .i64 q.to_, .int .i64 q.least, .int .i64 q.ban] 27) :: (b1, blk [.int .i64 (below id_ 1000)] 3) :: (b0, blk [.slice ca q.cones.length cc, .int .i64 q.from_, .int .i64 q.to_, .int .i64 q.least, .int .i64 q.ban] 27) :: (mv.own ++ (cv.own ++ va.own)))) ?_ ?_
        ·
          refine c_seq ?_
          refine c_text ?_
          refine l_y (Cls.gs _ _) (y_fieldAddr rfl fa52_3) rfl ?_
          refine l_y (Cls.gs _ _) (y_fieldAddr rfl fa49_2) rfl ?_
          refine l_y (Cls.gs _ _) (y_load rfl (LoadAt.oneL .z ty4 (.s (.s (.s (.s (.s (.s (.s (.s (.s (.s (.s (.s (.s (.s (.s .z))))))))))))))))) rfl ?_
          refine l_y (Cls.gs _ _) (y_not rfl) rfl ?_
          refine l_nil ?_
          refine e_then ?_
          refine CJ.weak (.c (t := 4) rfl (.c (t := 5) rfl (.c (t := 7) rfl (.c (t := 8) rfl (.c (t := 13) rfl (.c (t := 15) rfl (.c (t := 16) rfl (.c (t := 18) rfl (.c (t := 20) rfl (.c (t := 71) rfl (.c (t := 72) rfl (.c (t := 73) rfl (.c (t := 85) rfl .n))))))))))))) (fun _ h => h) ?_
          refine c_cond rfl (fun h3 => ?_) (fun h3 => ?_)
          ·
            refine c_text ?_
            refine l_y (Cls.gs _ _) (y_fieldAddr rfl fa52_3) rfl ?_
            refine l_y (Cls.gs _ _) (y_fieldAddr rfl fa49_0) rfl ?_
            refine l_y (Cls.gs _ _) (y_load rfl (LoadAt.oneL .z ty24 (.s (.s (.s (.s (.s (.s (.s (.s (.s (.s (.s (.s (.s .z))))))))))))))) rfl ?_
            refine l_y (Cls.gs _ _) (y_move rfl) rfl ?_
            refine l_y (Cls.gs _ _) (y_add64 m.row.when_.lo (below later 8796093022208) rfl rfl (by omega) (by omega)) rfl ?_
            refine l_y (Cls.gs _ _) (y_fieldAddr rfl fa52_3) rfl ?_
            refine l_y (Cls.gs _ _) (y_fieldAddr rfl fa49_1) rfl ?_
            refine l_y (Cls.gs _ _) (y_load rfl (LoadAt.oneL .z ty24 (.s (.s (.s (.s (.s (.s (.s (.s (.s (.s (.s (.s (.s (.s .z)))))))))))))))) rfl ?_
            refine l_y (Cls.gs _ _) (y_move rfl) rfl ?_
            refine l_y (Cls.gs _ _) (y_add64 m.row.when_.hi (below later 8796093022208) rfl rfl (by omega) (by omega)) rfl ?_
            refine l_y (Cls.gs _ _) (y_fieldAddr rfl fa52_3) rfl ?_
            refine l_y (Cls.gs _ _) (y_fieldAddr rfl fa49_0) rfl ?_
            refine l_n rfl (n_store rfl rfl ty24 (.o rfl) rfl rfl .z (.s (.s (.s (.s (.s (.s (.s (.s (.s (.s (.s (.s (.s (.t .d))))))))))))))) (fun _ _ => ?_)
            refine l_y (Cls.gs _ _) (y_fieldAddr rfl fa52_3) rfl ?_
            refine l_y (Cls.gs _ _) (y_fieldAddr rfl fa49_1) rfl ?_
            refine l_n rfl (n_store rfl rfl ty24 (.o rfl) rfl rfl .z (.s (.s (.s (.s (.s (.s (.s (.s (.s (.s (.s (.s (.s (.s (.t .d)))))))))))))))) (fun _ _ => ?_)
            refine l_nil ?_
            refine e_mid () trivial (.c (t := 4) rfl (.c (t := 5) rfl (.c (t := 7) rfl (.c (t := 8) rfl (.c (t := 13) rfl (.c (t := 15) rfl (.c (t := 16) rfl (.c (t := 18) rfl (.c (t := 20) rfl (.c (t := 71) rfl (.c (t := 72) rfl (.c (t := 73) rfl .n)))))))))))) (fun _ h => row_later (later_no h3) h)
          ·
            refine c_skip ?_
            refine e_mid () trivial (.c (t := 4) rfl (.c (t := 5) rfl (.c (t := 7) rfl (.c (t := 8) rfl (.c (t := 13) rfl (.c (t := 15) rfl (.c (t := 16) rfl (.c (t := 18) rfl (.c (t := 20) rfl (.c (t := 71) rfl (.c (t := 72) rfl (.c (t := 73) rfl .n)))))))))))) (fun _ h => row_later (later_yes h3) h)
        · rintro _ _
          refine c_seq ?_
          refine c_seq ?_
          refine c_text ?_
          refine l_y (Cls.gs _ _) (y_move rfl) rfl ?_
          refine l_y (Cls.gs _ _) (y_move rfl) rfl ?_
          refine l_nil ?_
          refine e_then ?_
          refine c_block ?_
          refine CJ.weak (.c (t := 101) rfl (.c (t := 4) rfl (.c (t := 5) rfl (.c (t := 7) rfl (.c (t := 8) rfl (.c (t := 13) rfl (.c (t := 15) rfl (.c (t := 16) rfl (.c (t := 18) rfl (.c (t := 20) rfl (.c (t := 71) rfl (.c (t := 72) rfl (.c (t := 73) rfl (.c (t := 100) rfl .n)))))))))))))) (fun _ h => h) ?_
          refine c_loopV (fun y : Nat => y ≤ (below axes 3).toNat) (fun y => [(101, .int .i64 (y : Int))]) (fun y => (b4, blk (rowCells (moveR (below id_ 1000) (below later 8796093022208) y m.row) m.fa m.row.frames.length m.fc) 52) :: (b2, blk [cv.val, .int .i64 q.from_, .int .i64 q.to_, .int .i64 q.least, .int .i64 q.ban] 27) :: (b1, blk [.int .i64 (below id_ 1000)] 3) :: (b0, blk [.slice ca q.cones.length cc, .int .i64 q.from_, .int .i64 q.to_, .int .i64 q.least, .int .i64 q.ban] 27) :: (mv.own ++ (cv.own ++ va.own))) (fun y => (below axes 3).toNat - y) (0) (Nat.zero_le _) .z ?_
          rintro n hn
          refine c_seq ?_
          refine c_text ?_
          refine l_y (Cls.gs _ _) (y_lss rfl rfl) rfl ?_
          refine l_nil ?_
          refine e_then ?_
          refine c_seq ?_
          refine c_cond rfl (fun h4 => ?_) (fun h4 => ?_)
          ·
            refine c_skip ?_
            refine e_then ?_
            refine CJ.weak (.c (t := 4) rfl (.c (t := 5) rfl (.c (t := 7) rfl (.c (t := 8) rfl (.c (t := 13) rfl (.c (t := 15) rfl (.c (t := 16) rfl (.c (t := 18) rfl (.c (t := 20) rfl (.c (t := 71) rfl (.c (t := 72) rfl (.c (t := 73) rfl (.c (t := 100) rfl (.c (t := 101) rfl .n)))))))))))))) (fun _ h => h) ?_
            refine c_seq ?_
            refine c_block ?_
            refine c_text ?_
            refine l_y (Cls.gs _ _) (y_fieldAddr rfl fa52_1) rfl ?_
            refine l_y (Cls.gs _ _) (y_fieldAddr rfl fa45_1) rfl ?_
            refine l_y (Cls.gs _ _) (y_load rfl (LoadAt.aggL .z ty43 (.s (.s (.s (.s (.t (.t (.t .d))))))))) rfl ?_
            refine l_y (Cls.gs _ _) (y_fieldAddr rfl fa52_1) rfl ?_
            refine l_y (Cls.gs _ _) (y_fieldAddr rfl fa45_2) rfl ?_
            refine l_y (Cls.gs _ _) (y_load rfl (LoadAt.aggL .z ty43 (.s (.s (.s (.s (.s (.s (.s (.t (.t (.t .d)))))))))))) rfl ?_
            refine l_y (Cls.gs _ _) (y_fieldAddr rfl fa52_1) rfl ?_
            refine l_y (Cls.gs _ _) (y_fieldAddr rfl fa45_0) rfl ?_
            refine l_y (Cls.gs _ _) (y_load rfl (LoadAt.aggL .z ty43 (.s (.t (.t (.t .d)))))) rfl ?_
            refine l_y (Cls.gs _ _) (y_build pl45 ty45 .a (.c rfl (.c rfl (.c rfl .n))) (.c rfl .a rfl rfl (.t (.t (.t .d))) (.c rfl .a rfl rfl (.s (.s (.s (.t (.t (.t .d)))))) (.c rfl .a rfl rfl (.s (.s (.s (.s (.s (.s (.t (.t (.t .d))))))))) .d)))) rfl ?_
            refine l_y (Cls.gs _ _) (y_fieldAddr rfl fa52_1) rfl ?_
            refine l_n rfl (n_store rfl rfl ty45 .a rfl rfl .z (.s (.t (.t (.t (.t (.t (.t (.t (.t (.t .d))))))))))) (fun _ _ => ?_)
            refine l_nil ?_
            refine e_block ?_
            refine e_then ?_
            refine CJ.weak (.c (t := 4) rfl (.c (t := 5) rfl (.c (t := 7) rfl (.c (t := 8) rfl (.c (t := 13) rfl (.c (t := 15) rfl (.c (t := 16) rfl (.c (t := 18) rfl (.c (t := 20) rfl (.c (t := 71) rfl (.c (t := 72) rfl (.c (t := 73) rfl (.c (t := 100) rfl (.c (t := 101) rfl .n)))))))))))))) (fun _ h => h) ?_
            refine c_text ?_
            refine l_y (Cls.gs _ _) ((y_add rfl rfl).lit (succ64 (by (try dsimp only); omega))) rfl ?_
            refine l_y (Cls.gs _ _) (y_move rfl) rfl ?_
            refine l_nil ?_
            refine e_again (n + 1) (by have := of_decide_eq_true h4; (try dsimp only at this ⊢); omega) (by have := of_decide_eq_true h4; (try dsimp only at this ⊢); omega) (.c (t := 101) rfl (.c (t := 4) rfl (.c (t := 5) rfl (.c (t := 7) rfl (.c (t := 8) rfl (.c (t := 13) rfl (.c (t := 15) rfl (.c (t := 16) rfl (.c (t := 18) rfl (.c (t := 20) rfl (.c (t := 71) rfl (.c (t := 72) rfl (.c (t := 73) rfl (.c (t := 100) rfl .n)))))))))))))) (fun _ h => h)
          · obtain rfl : n = (below axes 3).toNat := by have := of_decide_eq_false h4; (try dsimp only at this); omega
            refine c_exit ?_
            refine e_then_exit ?_
            refine e_then_exit ?_
            refine e_block_hit ?_
            refine e_then ?_
            refine CJ.weak (.c (t := 4) rfl (.c (t := 5) rfl (.c (t := 7) rfl (.c (t := 8) rfl (.c (t := 13) rfl (.c (t := 15) rfl (.c (t := 16) rfl (.c (t := 18) rfl (.c (t := 20) rfl (.c (t := 71) rfl (.c (t := 72) rfl (.c (t := 73) rfl .n)))))))))))) (fun _ h => h) ?_
            refine c_seq ?_
            refine c_seq ?_
            refine c_text ?_
            refine l_y (Cls.gs _ _) (y_fieldAddr rfl fa52_0) rfl ?_
            refine l_y (Cls.gs _ _) (y_load rfl (LoadAt.oneL .z ty3 .z)) rfl ?_
            refine l_y (Cls.gs _ _) (y_gtr rfl rfl) rfl ?_
            refine l_y (Cls.gs _ _) (y_move rfl) rfl ?_
            refine l_g (s := 118) (Cls.gs _ _) (by kernel_rfl) rfl (beq_f _) (fun hg => y_fieldAddr rfl fa52_3) rfl ?_
            refine l_g (s := 118) (Cls.gs _ _) (by kernel_rfl) rfl (beq_f _) (fun hg => y_fieldAddr (gvt hg rfl) fa49_1) rfl ?_
            refine l_g (s := 118) (Cls.gs _ _) (by kernel_rfl) rfl (beq_f _) (fun hg => y_load (gvt hg rfl) (LoadAt.oneL .z ty24 (.s (.s (.s (.s (.s (.s (.s (.s (.s (.s (.s (.s (.s (.s .z)))))))))))))))) rfl ?_
            refine l_g (s := 118) (Cls.gs _ _) (by kernel_rfl) rfl (beq_f _) (fun hg => y_gtr (gvt hg rfl) rfl) rfl ?_
            refine l_y (Cls.gs _ _) (y_or rfl rfl rfl) rfl ?_
            refine l_nil ?_
            refine e_then ?_
            refine CJ.weak (.c (t := 4) rfl (.c (t := 5) rfl (.c (t := 7) rfl (.c (t := 8) rfl (.c (t := 13) rfl (.c (t := 15) rfl (.c (t := 16) rfl (.c (t := 18) rfl (.c (t := 20) rfl (.c (t := 71) rfl (.c (t := 72) rfl (.c (t := 73) rfl (.c (t := 123) rfl .n))))))))))))) (fun _ h => h) ?_
            refine c_cond rfl (fun h5 => ?_) (fun h5 => ?_)
            ·
              refine c_seq ?_
              refine c_text ?_
              refine l_y (Cls.gs _ _) (y_assign rfl) rfl ?_
              refine l_nil ?_
              refine e_then ?_
              refine CJ.weak (.c (t := 12) rfl .n) (fun _ h => h) ?_
              refine c_ret ?_
              refine e_then_ret ?_
              refine e_block_ret ?_
              refine e_then_ret ?_
              refine e_then_ret ?_
              refine e_block_ret ?_
              refine e_then_ret ?_
              refine e_ret rfl (.t rfl .n) (fun wF hw => ?_)
              exact ⟨rfl, (hw.anc (w, []) (by simp)).below⟩
            · have h5b : m.row.id + (below id_ 1000) ≤ 2147483647 ∧ (laterB (below later 8796093022208) m.row.when_).hi ≤ 17592186044416 := by
                simp only [Bool.or_eq_false_iff, decide_eq_false_iff_not] at h5
                exact ⟨Int.not_lt.1 h5.1, Int.not_lt.1 h5.2⟩
              refine c_skip ?_
              refine e_then ?_
              refine CJ.weak (.c (t := 4) rfl (.c (t := 5) rfl (.c (t := 7) rfl (.c (t := 8) rfl (.c (t := 13) rfl (.c (t := 15) rfl (.c (t := 16) rfl (.c (t := 18) rfl (.c (t := 20) rfl (.c (t := 71) rfl (.c (t := 72) rfl (.c (t := 73) rfl .n)))))))))))) (fun _ h => h) ?_
              refine c_text ?_
              refine l_y (Cls.gs _ _) (y_move rfl) rfl ?_
              refine l_y (Cls.gs _ _) (y_load rfl (LoadAt.aggL .z ty52 (.t (.t (.t (.t (.t (.t (.t (.t (.t (.t (.t (.t (.t (.t (.t (.t (.t (.t .d)))))))))))))))))))) rfl ?_
              refine l_n rfl (n_buildSlice (l := [.int .i64 0, .int .i64 0, .int .i64 0, .bool false, .int .i64 0, .int .i64 0, .bool false, .int .i64 0, .int .i64 0, .bool false, .int .i64 0, .int .i64 0, .bool false, .int .i64 0, .int .i64 0, .bool false, .slice none 0 0, .int .i64 0]) Tryz.underlying22 ty52 .a rfl (by simp) (by kernel_rfl) (.c rfl .n) (.c rfl .a rfl rfl (.t (.t (.t (.t (.t (.t (.t (.t (.t (.t (.t (.t (.t (.t (.t (.t (.t (.t .d)))))))))))))))))) .d) rfl) (fun b5 _ => ?_)
              refine l_n rfl (n_append1 (v := mv) 140000 Tryz.underlying22 ti52 hk.1 (.c (.c (.c (.c (.c .h))))) rfl rfl .z rfl rfl (by have e := congrArg List.length hk.2.1; simp only [List.length_map, List.length_take] at e; show mv.es.length < 1000000000; omega) rfl rfl) (fun mv1 hmv1 => ?_)
              refine l_y (Cls.gs _ _) (y_assign rfl) rfl ?_
              refine l_nil ?_
              refine e_block ?_
              refine e_then ?_
              refine CJ.weak (.c (t := 4) rfl (.c (t := 5) rfl (.c (t := 7) rfl (.c (t := 8) rfl (.c (t := 13) rfl (.c (t := 15) rfl (.c (t := 16) rfl (.c (t := 18) rfl (.c (t := 71) rfl (.c (t := 72) rfl (.c (t := 73) rfl .n))))))))))) (fun _ h => h) ?_
              refine c_text ?_
              refine l_y (Cls.gs _ _) ((y_add rfl rfl).lit (succ64 (by (try dsimp only); omega))) rfl ?_
              refine l_y (Cls.gs _ _) (y_move rfl) rfl ?_
              refine l_nil ?_
              refine e_again ((mv1, k + 1)) (⟨hmv1.1, by dsimp only; rw [hmv1.2, hk.2.1, List.take_add_one, hm, Option.toList_some, List.map_append, List.map_append, List.map_cons, List.map_nil, List.map_cons, List.map_nil]; rfl, by (try dsimp only); omega, fun x hx => (List.mem_append.1 (by have hx : x ∈ ms.take (k + 1) := hx; rw [List.take_add_one, hm] at hx; exact hx : x ∈ ms.take k ++ [m])).elim (hk.2.2.2 x) (fun h => by obtain rfl := List.mem_singleton.1 h; exact h5b)⟩) (by (try dsimp only); omega) (.c (t := 18) rfl (.c (t := 73) rfl (.c (t := 4) rfl (.c (t := 5) rfl (.c (t := 7) rfl (.c (t := 8) rfl (.c (t := 13) rfl (.c (t := 15) rfl (.c (t := 16) rfl (.c (t := 71) rfl (.c (t := 72) rfl .n))))))))))) (fun _ h => h.thin (.d (.d .r)))
      · have hkm : k = ms.length := by have := of_decide_eq_false h2; (try dsimp only at this); omega
        subst hkm
        obtain ⟨hmv, hme, _, hmb⟩ := hk
        rw [List.take_length] at hme hmb
        refine c_exit ?_
        refine e_then_exit ?_
        refine e_then_exit ?_
        refine e_block_hit ?_
        refine e_then ?_
        refine CJ.weak (.c (t := 4) rfl (.c (t := 5) rfl (.c (t := 7) rfl (.c (t := 8) rfl (.c (t := 13) rfl (.c (t := 15) rfl (.c (t := 16) rfl (.c (t := 18) rfl .n)))))))) (fun _ h => h) ?_
        refine c_seq ?_
        refine c_seq ?_
        refine c_text ?_
        refine l_y (Cls.gs _ _) (y_fieldAddr rfl fa27_0) rfl ?_
        refine l_y (Cls.gs _ _) (y_load rfl (LoadAt.oneL .z ty23 .z)) rfl ?_
        refine l_y (Cls.gs _ _) (y_lenV Tryz.underlying23 hc.1 rfl rfl) rfl ?_
        refine l_y (Cls.gs _ _) (y_move rfl) rfl ?_
        refine l_nil ?_
        refine e_then ?_
        refine CJ.weak (.c (t := 4) rfl (.c (t := 5) rfl (.c (t := 7) rfl (.c (t := 8) rfl (.c (t := 13) rfl (.c (t := 15) rfl (.c (t := 16) rfl (.c (t := 18) rfl (.c (t := 131) rfl (.c (t := 132) rfl .n)))))))))) (fun _ h => h) ?_
        refine c_block ?_
        refine CJ.weak (.c (t := 132) rfl (.c (t := 4) rfl (.c (t := 5) rfl (.c (t := 7) rfl (.c (t := 8) rfl (.c (t := 13) rfl (.c (t := 15) rfl (.c (t := 16) rfl (.c (t := 18) rfl (.c (t := 131) rfl .n)))))))))) (fun _ h => h) ?_
        refine c_loopV (fun x : Vec × Nat => VecOK 4 39 x.1 ∧ x.1.val = cv.val ∧ x.1.es = ((cs.take x.2).map (rotCN (below axes 3).toNat) ++ cs.drop x.2).map Cone.cells ∧ x.2 ≤ cs.length) (fun x => [(132, .int .i64 (x.2 : Int))]) (fun x => (b2, blk [cv.val, .int .i64 q.from_, .int .i64 q.to_, .int .i64 q.least, .int .i64 q.ban] 27) :: (b1, blk [.int .i64 (below id_ 1000)] 3) :: (b0, blk [.slice ca q.cones.length cc, .int .i64 q.from_, .int .i64 q.to_, .int .i64 q.least, .int .i64 q.ban] 27) :: (mv.own ++ (x.1.own ++ va.own))) (fun x => cs.length - x.2) ((cv, 0)) (⟨hc.1, rfl, by simp [hc.2.1], Nat.zero_le _⟩) .z ?_
        rintro ⟨cu, k⟩ hu
        dsimp only at hu
        refine c_seq ?_
        refine c_text ?_
        refine l_y (Cls.gs _ _) (y_lss rfl rfl) rfl ?_
        refine l_nil ?_
        refine e_then ?_
        refine c_seq ?_
        refine c_cond rfl (fun h6 => ?_) (fun h6 => ?_)
        · have hlt : k < cs.length := by have := of_decide_eq_true h6; have e := congrArg List.length hc.2.1; rw [List.length_map] at e; (try dsimp only at this); omega
          obtain ⟨c, hcc⟩ : ∃ c, cs[k]? = some c := ⟨_, List.getElem?_eq_getElem hlt⟩
          have hdc : cs.drop k = c :: cs.drop (k + 1) := by obtain ⟨h1, h2⟩ := List.getElem?_eq_some_iff.1 hcc; rw [List.drop_eq_getElem_cons h1, h2]
          refine c_skip ?_
          refine e_then ?_
          refine CJ.weak (.c (t := 4) rfl (.c (t := 5) rfl (.c (t := 7) rfl (.c (t := 8) rfl (.c (t := 13) rfl (.c (t := 15) rfl (.c (t := 16) rfl (.c (t := 18) rfl (.c (t := 131) rfl (.c (t := 132) rfl .n)))))))))) (fun _ h => h) ?_
          refine c_seq ?_
          refine c_block ?_
          refine c_seq ?_
          refine c_text ?_
          refine l_y (Cls.gs _ _) (y_move rfl) rfl ?_
          refine l_y (Cls.gs _ _) (y_assign rfl) rfl ?_
          refine l_nil ?_
          refine e_then ?_
          refine CJ.weak (.c (t := 4) rfl (.c (t := 5) rfl (.c (t := 7) rfl (.c (t := 8) rfl (.c (t := 13) rfl (.c (t := 15) rfl (.c (t := 16) rfl (.c (t := 18) rfl (.c (t := 21) rfl (.c (t := 131) rfl (.c (t := 132) rfl .n))))))))))) (fun _ h => h) ?_
          refine c_seq ?_
          refine c_text ?_
          refine l_y (Cls.gs _ _) (y_move rfl) rfl ?_
          refine l_y (Cls.gs _ _) (y_move rfl) rfl ?_
          refine l_nil ?_
          refine e_then ?_
          refine c_block ?_
          refine CJ.weak (.c (t := 136) rfl (.c (t := 4) rfl (.c (t := 5) rfl (.c (t := 7) rfl (.c (t := 8) rfl (.c (t := 13) rfl (.c (t := 15) rfl (.c (t := 16) rfl (.c (t := 18) rfl (.c (t := 21) rfl (.c (t := 131) rfl (.c (t := 132) rfl (.c (t := 135) rfl .n))))))))))))) (fun _ h => h) ?_
          refine c_loopV (fun x : Vec × Nat => VecOK 4 39 x.1 ∧ x.1.val = cv.val ∧ x.1.es = ((cs.take k).map (rotCN (below axes 3).toNat) ++ rotCN x.2 c :: cs.drop (k + 1)).map Cone.cells ∧ x.2 ≤ (below axes 3).toNat) (fun x => [(136, .int .i64 (x.2 : Int))]) (fun x => (b2, blk [cv.val, .int .i64 q.from_, .int .i64 q.to_, .int .i64 q.least, .int .i64 q.ban] 27) :: (b1, blk [.int .i64 (below id_ 1000)] 3) :: (b0, blk [.slice ca q.cones.length cc, .int .i64 q.from_, .int .i64 q.to_, .int .i64 q.least, .int .i64 q.ban] 27) :: (mv.own ++ (x.1.own ++ va.own))) (fun x => (below axes 3).toNat - x.2) ((cu, 0)) (⟨hu.1, hu.2.1, by dsimp only; rw [hu.2.2.1, hdc]; rfl, Nat.zero_le _⟩) .z ?_
          rintro ⟨cw, n⟩ hn
          dsimp only at hn
          refine c_seq ?_
          refine c_text ?_
          refine l_y (Cls.gs _ _) (y_lss rfl rfl) rfl ?_
          refine l_nil ?_
          refine e_then ?_
          refine c_seq ?_
          refine c_cond rfl (fun h7 => ?_) (fun h7 => ?_)
          · have hel : cw.es[k]? = some (rotCN n c).cells := by rw [hn.2.2.1]; exact mid_get hu.2.2.2
            have hkl := (List.getElem?_eq_some_iff.1 hel).1
            refine c_skip ?_
            refine e_then ?_
            refine CJ.weak (.c (t := 4) rfl (.c (t := 5) rfl (.c (t := 7) rfl (.c (t := 8) rfl (.c (t := 13) rfl (.c (t := 15) rfl (.c (t := 16) rfl (.c (t := 18) rfl (.c (t := 21) rfl (.c (t := 131) rfl (.c (t := 132) rfl (.c (t := 135) rfl (.c (t := 136) rfl .n))))))))))))) (fun _ h => h) ?_
            refine c_seq ?_
            refine c_block ?_
            refine c_draw (m := 28) (S0 := fun _ => True) (fun i => Nat.beq i 27) (fun _ _ => trivial) hmix (Cls.gs _ _) rfl ?_
            refine a_y (i := 0) (Cls.gs _ _) (by kernel_rfl) rfl (by kernel_rfl) (by kernel_rfl) (y_fieldAddr rfl fa27_0) rfl ?_
            refine a_y (i := 1) (Cls.gs _ _) (by kernel_rfl) rfl (by kernel_rfl) (by kernel_rfl) (y_load rfl (LoadAt.oneL .z ty23 .z)) rfl ?_
            refine a_y (i := 2) (Cls.gs _ _) (by kernel_rfl) rfl (by kernel_rfl) (by kernel_rfl) (y_move rfl) rfl ?_
            refine a_y (i := 3) (Cls.gs _ _) (by kernel_rfl) rfl (by kernel_rfl) (by kernel_rfl) (y_fieldAddr rfl fa27_0) rfl ?_
            refine a_y (i := 4) (Cls.gs _ _) (by kernel_rfl) rfl (by kernel_rfl) (by kernel_rfl) (y_load rfl (LoadAt.oneL .z ty23 .z)) rfl ?_
            refine a_y (i := 5) (Cls.gs _ _) (by kernel_rfl) rfl (by kernel_rfl) (by kernel_rfl) (y_move rfl) rfl ?_
            refine a_y (i := 6) (Cls.gs _ _) (by kernel_rfl) rfl (by kernel_rfl) (by kernel_rfl) (y_idxVec Tryz.underlying23 ty39 hn.1 hn.2.1 rfl rfl (by omega) (by omega)) rfl ?_
            refine a_y (i := 7) (Cls.gs _ _) (by kernel_rfl) rfl (by kernel_rfl) (by kernel_rfl) (y_fieldAddr rfl fa39_0) rfl ?_
            refine a_y (i := 8) (Cls.gs _ _) (by kernel_rfl) rfl (by kernel_rfl) (by kernel_rfl) (y_fieldAddr rfl fa36_1) rfl ?_
            refine a_y (i := 9) (Cls.gs _ _) (by kernel_rfl) rfl (by kernel_rfl) (by kernel_rfl) (y_load rfl (LoadAt.oneV hn.1 rfl (.c (.c (.c (.k .h)))) ty2 hel (.s .z) (by simp))) rfl ?_
            refine a_y (i := 10) (Cls.gs _ _) (by kernel_rfl) rfl (by kernel_rfl) (by kernel_rfl) (y_fieldAddr rfl fa27_0) rfl ?_
            refine a_y (i := 11) (Cls.gs _ _) (by kernel_rfl) rfl (by kernel_rfl) (by kernel_rfl) (y_load rfl (LoadAt.oneL .z ty23 .z)) rfl ?_
            refine a_y (i := 12) (Cls.gs _ _) (by kernel_rfl) rfl (by kernel_rfl) (by kernel_rfl) (y_move rfl) rfl ?_
            refine a_y (i := 13) (Cls.gs _ _) (by kernel_rfl) rfl (by kernel_rfl) (by kernel_rfl) (y_idxVec Tryz.underlying23 ty39 hn.1 hn.2.1 rfl rfl (by omega) (by omega)) rfl ?_
            refine a_y (i := 14) (Cls.gs _ _) (by kernel_rfl) rfl (by kernel_rfl) (by kernel_rfl) (y_fieldAddr rfl fa39_0) rfl ?_
            refine a_y (i := 15) (Cls.gs _ _) (by kernel_rfl) rfl (by kernel_rfl) (by kernel_rfl) (y_fieldAddr rfl fa36_2) rfl ?_
            refine a_y (i := 16) (Cls.gs _ _) (by kernel_rfl) rfl (by kernel_rfl) (by kernel_rfl) (y_load rfl (LoadAt.oneV hn.1 rfl (.c (.c (.c (.k .h)))) ty2 hel (.s (.s .z)) (by simp))) rfl ?_
            refine a_y (i := 17) (Cls.gs _ _) (by kernel_rfl) rfl (by kernel_rfl) (by kernel_rfl) (y_fieldAddr rfl fa27_0) rfl ?_
            refine a_y (i := 18) (Cls.gs _ _) (by kernel_rfl) rfl (by kernel_rfl) (by kernel_rfl) (y_load rfl (LoadAt.oneL .z ty23 .z)) rfl ?_
            refine a_y (i := 19) (Cls.gs _ _) (by kernel_rfl) rfl (by kernel_rfl) (by kernel_rfl) (y_move rfl) rfl ?_
            refine a_y (i := 20) (Cls.gs _ _) (by kernel_rfl) rfl (by kernel_rfl) (by kernel_rfl) (y_idxVec Tryz.underlying23 ty39 hn.1 hn.2.1 rfl rfl (by omega) (by omega)) rfl ?_
            refine a_y (i := 21) (Cls.gs _ _) (by kernel_rfl) rfl (by kernel_rfl) (by kernel_rfl) (y_fieldAddr rfl fa39_0) rfl ?_
            refine a_y (i := 22) (Cls.gs _ _) (by kernel_rfl) rfl (by kernel_rfl) (by kernel_rfl) (y_fieldAddr rfl fa36_0) rfl ?_
            refine a_y (i := 23) (Cls.gs _ _) (by kernel_rfl) rfl (by kernel_rfl) (by kernel_rfl) (y_load rfl (LoadAt.oneV hn.1 rfl (.c (.c (.c (.k .h)))) ty2 hel .z (by simp))) rfl ?_
            refine a_y (i := 24) (Cls.gs _ _) (by kernel_rfl) rfl (by kernel_rfl) (by kernel_rfl) (y_build pl36 ty36 .a (.c rfl (.c rfl (.c rfl .n))) (.c rfl (.o rfl) rfl rfl (.t .d) (.c rfl (.o rfl) rfl rfl (.s (.t .d)) (.c rfl (.o rfl) rfl rfl (.s (.s (.t .d))) .d)))) rfl ?_
            refine a_yM (i := 25) (Cls.gs _ _) (by kernel_rfl) rfl (by kernel_rfl) (by kernel_rfl) (y_idxVec Tryz.underlying23 ty39 hn.1 hn.2.1 rfl rfl (by omega) (by omega)) rfl ?_
            refine a_y (i := 26) (Cls.gs _ _) (by kernel_rfl) rfl (by kernel_rfl) (by kernel_rfl) (y_fieldAddr rfl fa39_0) rfl ?_
            refine a_n (i := 27) rfl rfl (by kernel_rfl) (fun _ => Cls.gs _ _) (.inl ⟨rfl, fun _ _ _ => trivial⟩) (n_storeV (k := k) hn.1 rfl (.c (.c (.c (.k .h)))) rfl rfl ty36 .a rfl rfl hel (by simp) (.t (.t (.t .d)))) (fun cw1 hcw1 => ?_)
            refine a_done (by kernel_rfl) ?_
            refine e_block ?_
            refine e_then ?_
            refine CJ.weak (.c (t := 4) rfl (.c (t := 5) rfl (.c (t := 7) rfl (.c (t := 8) rfl (.c (t := 13) rfl (.c (t := 15) rfl (.c (t := 16) rfl (.c (t := 18) rfl (.c (t := 21) rfl (.c (t := 131) rfl (.c (t := 132) rfl (.c (t := 135) rfl (.c (t := 136) rfl .n))))))))))))) (fun _ h => h) ?_
            refine c_text ?_
            refine l_y (Cls.gs _ _) ((y_add rfl rfl).lit (succ64 (by (try dsimp only); omega))) rfl ?_
            refine l_y (Cls.gs _ _) (y_move rfl) rfl ?_
            refine l_nil ?_
            refine e_again ((cw1, n + 1)) (⟨hcw1.1, (hcw1.2.2.1.trans hn.2.1), by dsimp only; rw [hcw1.2.1, hn.2.2.1]; exact mid_set hu.2.2.2, by have := of_decide_eq_true h7; (try dsimp only at this ⊢); omega⟩) (by have := of_decide_eq_true h7; (try dsimp only at this ⊢); omega) (.c (t := 136) rfl (.c (t := 4) rfl (.c (t := 5) rfl (.c (t := 7) rfl (.c (t := 8) rfl (.c (t := 13) rfl (.c (t := 15) rfl (.c (t := 16) rfl (.c (t := 18) rfl (.c (t := 21) rfl (.c (t := 131) rfl (.c (t := 132) rfl (.c (t := 135) rfl .n))))))))))))) (fun _ h => h.thin .r)
          ·
            refine c_exit ?_
            refine e_then_exit ?_
            refine e_then_exit ?_
            refine e_block_hit ?_
            refine e_block ?_
            refine e_then ?_
            refine CJ.weak (.c (t := 4) rfl (.c (t := 5) rfl (.c (t := 7) rfl (.c (t := 8) rfl (.c (t := 13) rfl (.c (t := 15) rfl (.c (t := 16) rfl (.c (t := 18) rfl (.c (t := 131) rfl (.c (t := 132) rfl .n)))))))))) (fun _ h => h) ?_
            refine c_text ?_
            refine l_y (Cls.gs _ _) ((y_add rfl rfl).lit (succ64 (by (try dsimp only); omega))) rfl ?_
            refine l_y (Cls.gs _ _) (y_move rfl) rfl ?_
            refine l_nil ?_
            refine e_again ((cw, k + 1)) (⟨hn.1, hn.2.1, by have hn2 : n = (below axes 3).toNat := (by have := of_decide_eq_false h7; (try dsimp only at this); omega); dsimp only; rw [hn.2.2.1, hn2, List.take_add_one, hcc]; simp, by (try dsimp only); omega⟩) (by (try dsimp only); omega) (.c (t := 132) rfl (.c (t := 4) rfl (.c (t := 5) rfl (.c (t := 7) rfl (.c (t := 8) rfl (.c (t := 13) rfl (.c (t := 15) rfl (.c (t := 16) rfl (.c (t := 18) rfl (.c (t := 131) rfl .n)))))))))) (fun _ h => h.thin .r)
        · have hk2 : k = cs.length := by have := of_decide_eq_false h6; have e := congrArg List.length hc.2.1; rw [List.length_map] at e; (try dsimp only at this); omega
          subst hk2
          have hcue : cu.es = (cs.map (rotCN (below axes 3).toNat)).map Cone.cells := by rw [hu.2.2.1]; simp
          have hmo : Moved q (⟨cs.map (rotCN (below axes 3).toNat), q.from_ + (below later 8796093022208), q.to_ + (below later 8796093022208), q.least, q.ban⟩ : Sg.Ask) (below later 8796093022208) (below axes 3).toNat := ⟨fun c => by
            simp only [List.mem_map]
            constructor
            · rintro ⟨d, hd, rfl⟩; exact ⟨d, (hc.2.2.1 d).1 hd, rfl⟩
            · rintro ⟨d, hd, rfl⟩; exact ⟨d, (hc.2.2.1 d).2 hd, rfl⟩, rfl, rfl, rfl, rfl⟩
          have hq2l : (cs.map (rotCN (below axes 3).toNat)).length ≤ 4 := by simpa using hc.2.2.2
          have hz2 : rowsErr (rowsOf (ms.map (moveM (below id_ 1000) (below later 8796093022208) (below axes 3).toNat))) = 0 := by rw [rows_moved]; exact rowsErr_moved hz.1 hib.1 htb.1 (fun r hr => by obtain ⟨m, hm, rfl⟩ := List.mem_map.1 hr; exact hmb m hm)
          have hF2 : ∀ m ∈ (ms.map (moveM (below id_ 1000) (below later 8796093022208) (below axes 3).toNat)), m.row.frames.length ≤ 1000000 := fun m hm => by obtain ⟨x, hx, rfl⟩ := List.mem_map.1 hm; have := (hgood x hx).fl; show x.row.frames.length ≤ 1000000; omega
          rw [← hu.2.1]
          refine c_exit ?_
          refine e_then_exit ?_
          refine e_then_exit ?_
          refine e_block_hit ?_
          refine e_then ?_
          refine CJ.weak (.c (t := 5) rfl (.c (t := 7) rfl (.c (t := 8) rfl (.c (t := 13) rfl (.c (t := 15) rfl (.c (t := 16) rfl (.c (t := 18) rfl .n))))))) (fun _ h => h) ?_
          refine c_seq ?_
          refine c_seq ?_
          refine c_draw (m := 12) (fun i => Nat.beq i 9 || Nat.beq i 11) (fun _ h => h.thin (.d (.k (.k .n)))) hmix (Cls.gs _ _) rfl ?_
          refine a_y (i := 0) (Cls.gs _ _) (by kernel_rfl) rfl (by kernel_rfl) (by kernel_rfl) (y_fieldAddr rfl fa27_1) rfl ?_
          refine a_y (i := 1) (Cls.gs _ _) (by kernel_rfl) rfl (by kernel_rfl) (by kernel_rfl) (y_load rfl (LoadAt.oneL (.s (.s .z)) ty24 (.s .z))) rfl ?_
          refine a_y (i := 2) (Cls.gs _ _) (by kernel_rfl) rfl (by kernel_rfl) (by kernel_rfl) (y_move rfl) rfl ?_
          refine a_y (i := 3) (Cls.gs _ _) (by kernel_rfl) rfl (by kernel_rfl) (by kernel_rfl) (y_add64 q.from_ (below later 8796093022208) rfl rfl (by omega) (by omega)) rfl ?_
          refine a_y (i := 8) (Cls.gs _ _) (by kernel_rfl) rfl (by kernel_rfl) (by kernel_rfl) (y_fieldAddr rfl fa27_1) rfl ?_
          refine a_yM (i := 4) (Cls.gs _ _) (by kernel_rfl) rfl (by kernel_rfl) (by kernel_rfl) (y_fieldAddr rfl fa27_2) rfl ?_
          refine a_yM (i := 5) (Cls.gs _ _) (by kernel_rfl) rfl (by kernel_rfl) (by kernel_rfl) (y_load rfl (LoadAt.oneL (.s .z) ty24 (.s (.s .z)))) rfl ?_
          refine a_yM (i := 6) (Cls.gs _ _) (by kernel_rfl) rfl (by kernel_rfl) (by kernel_rfl) (y_move rfl) rfl ?_
          refine a_yM (i := 7) (Cls.gs _ _) (by kernel_rfl) rfl (by kernel_rfl) (by kernel_rfl) (y_add64 q.to_ (below later 8796093022208) rfl rfl (by omega) (by omega)) rfl ?_
          refine a_n (i := 9) rfl rfl (by kernel_rfl) (fun _ => Cls.gs _ _) (.inl ⟨rfl, fun _ _ h => h.thin (.d (.k (.k .n)))⟩) (n_store rfl rfl ty24 (.o rfl) rfl rfl .z (.s (.t .d))) (fun _ _ => ?_)
          refine a_y (i := 10) (Cls.gs _ _) (by kernel_rfl) rfl (by kernel_rfl) (by kernel_rfl) (y_fieldAddr rfl fa27_2) rfl ?_
          refine a_n (i := 11) rfl rfl (by kernel_rfl) (fun _ => Cls.gs _ _) (.inl ⟨rfl, fun _ _ h => h.thin (.d (.k (.k .n)))⟩) (n_store rfl rfl ty24 (.o rfl) rfl rfl .z (.s (.s (.t .d)))) (fun _ _ => ?_)
          refine a_done (by kernel_rfl) ?_
          refine e_then ?_
          refine CJ.weak (.c (t := 5) rfl (.c (t := 8) rfl (.c (t := 13) rfl (.c (t := 16) rfl (.c (t := 18) rfl .n))))) (fun _ h => h) ?_
          refine c_seq ?_
          refine c_text ?_
          refine l_y (Cls.gs _ _) (y_fieldAddr rfl fa27_2) rfl ?_
          refine l_y (Cls.gs _ _) (y_load rfl (LoadAt.oneL .z ty24 (.s (.s .z)))) rfl ?_
          refine l_y (Cls.gs _ _) (y_gtr rfl rfl) rfl ?_
          refine l_nil ?_
          refine e_then ?_
          refine CJ.weak (.c (t := 5) rfl (.c (t := 8) rfl (.c (t := 13) rfl (.c (t := 16) rfl (.c (t := 18) rfl (.c (t := 179) rfl .n)))))) (fun _ h => h) ?_
          refine c_cond rfl (fun h8 => ?_) (fun h8 => ?_)
          ·
            refine c_seq ?_
            refine c_text ?_
            refine l_y (Cls.gs _ _) (y_assign rfl) rfl ?_
            refine l_nil ?_
            refine e_then ?_
            refine CJ.weak (.c (t := 12) rfl .n) (fun _ h => h) ?_
            refine c_ret ?_
            refine e_then_ret ?_
            refine e_ret rfl (.t rfl .n) (fun wF hw => ?_)
            exact ⟨rfl, (hw.anc (w, []) (by simp)).below⟩
          · have ha2 : askErr (⟨cs.map (rotCN (below axes 3).toNat), q.from_ + (below later 8796093022208), q.to_ + (below later 8796093022208), q.least, q.ban⟩ : Sg.Ask) = 0 := askErr_moved hz.2 hmo htb.1 hq2l (by have := of_decide_eq_false h8; dsimp only; omega)
            refine c_skip ?_
            refine e_then ?_
            refine CJ.weak (.c (t := 5) rfl (.c (t := 8) rfl (.c (t := 13) rfl (.c (t := 16) rfl (.c (t := 18) rfl .n))))) (fun _ h => h) ?_
            refine c_seq ?_
            refine c_text ?_
            refine l_y (Cls.gs _ _) (y_move rfl) rfl ?_
            refine l_y (Cls.gs _ _) (y_move rfl) rfl ?_
            refine l_n rfl (n_callTL ent9 rfl (.c (.c (.c .e))) (.c rfl (.c rfl .n)) (fun w' hw' => new9v (ms.map (moveM (below id_ 1000) (below later 8796093022208) (below axes 3).toNat)) (below level 9) mv hmv (by rw [hme]) hz2 ⟨hlb.1, by omega⟩ w' (Cls.ownV hmv hw' (.c (.c (.c .h)))) (fun m hm => by obtain ⟨x, hx, rfl⟩ := List.mem_map.1 hm; exact ⟨(hR.fr x hx).1.gr (hw'.gr .z), (hR.fr x hx).2⟩) hF2) rfl) (fun ix hix => ?_)
            refine l_y (Cls.gs _ _) (y_move rfl) rfl ?_
            refine l_y (Cls.gs _ _) (y_extract rfl .z) rfl ?_
            refine l_y (Cls.gs _ _) (y_extract rfl (.s .z)) rfl ?_
            refine l_y (Cls.gs _ _) (y_assign rfl) rfl ?_
            refine l_y (Cls.gs _ _) (y_assign rfl) rfl ?_
            refine l_nil ?_
            refine e_then ?_
            refine CJ.weak (.c (t := 8) rfl (.c (t := 13) rfl (.c (t := 14) rfl (.c (t := 16) rfl (.c (t := 18) rfl (.c (t := 22) rfl .n)))))) (fun _ h => h) ?_
            refine c_seq ?_
            refine c_seq ?_
            refine c_text ?_
            refine l_y (Cls.gs _ _) (y_move rfl) rfl ?_
            refine l_y (Cls.gs _ _) ((y_neq rfl rfl).lit (by kernel_rfl : _ = Value.bool false)) rfl ?_
            refine l_y (Cls.gs _ _) (y_move rfl) rfl ?_
            refine l_g (s := 188) (Cls.gs _ _) (by kernel_rfl) rfl (beq_f _) (fun hg => y_move rfl) rfl ?_
            refine l_g (s := 188) (Cls.gs _ _) (by kernel_rfl) rfl (beq_f _) (fun hg => y_eqPtrNil (by kernel_rfl) (gvt hg rfl) rfl) rfl ?_
            refine l_y (Cls.gs _ _) (y_or rfl rfl rfl) rfl ?_
            refine l_nil ?_
            refine e_then ?_
            refine CJ.weak (.c (t := 8) rfl (.c (t := 13) rfl (.c (t := 16) rfl (.c (t := 18) rfl (.c (t := 22) rfl (.c (t := 191) rfl .n)))))) (fun _ h => h) ?_
            refine c_cond rfl (fun h9 => ?_) (fun h9 => ?_)
            · simp at h9
            ·
              refine c_skip ?_
              refine e_then ?_
              refine CJ.weak (.c (t := 8) rfl (.c (t := 13) rfl (.c (t := 16) rfl (.c (t := 18) rfl (.c (t := 22) rfl .n))))) (fun _ h => h) ?_
              refine c_seq ?_
              refine c_text ?_
              refine l_y (Cls.gs _ _) (y_move rfl) rfl ?_
              refine l_y (Cls.gs _ _) (y_load rfl (LoadAt.aggL .z ty27 (.t (.t (.t (.t (.t .d))))))) rfl ?_
              refine l_n rfl (n_callV ent10 (.c (.c (.c .e))) (.c rfl (.c rfl .n)) (fun w' hw' => run10v (rowsOf (ms.map (moveM (below id_ 1000) (below later 8796093022208) (below axes 3).toNat))) (⟨cs.map (rotCN (below axes 3).toNat), q.from_ + (below later 8796093022208), q.to_ + (below later 8796093022208), q.least, q.ban⟩ : Sg.Ask) ix.1 (below level 9) ix.2.1 ix.2.2.1 ix.2.2.2.1 cu ix.2.2.2.2.1 ix.2.2.2.2.2 hix hu.1 hcue hz2 ha2 (by (try dsimp only); omega) w' (fun p hp => hw'.loc p (.tail _ (.tail _ (.tail _ (List.mem_append_left _ hp))))) (Cls.ownV hu.1 hw' (.c (.c (.c (.k (.k .h))))))) rfl) (fun rb hrb => ?_)
              refine l_y (Cls.gs _ _) (y_move rfl) rfl ?_
              refine l_y (Cls.gs _ _) (y_extract rfl .z) rfl ?_
              refine l_y (Cls.gs _ _) (y_extract rfl (.s .z)) rfl ?_
              refine l_y (Cls.gs _ _) (y_extract rfl (.s (.s .z))) rfl ?_
              refine l_y (Cls.gs _ _) (y_assign rfl) rfl ?_
              refine l_y (Cls.gs _ _) (y_assign rfl) rfl ?_
              refine l_y (Cls.gs _ _) (y_assign rfl) rfl ?_
              refine l_nil ?_
              refine e_then ?_
              refine CJ.weak (.c (t := 8) rfl (.c (t := 13) rfl (.c (t := 14) rfl (.c (t := 16) rfl (.c (t := 18) rfl (.c (t := 23) rfl .n)))))) (fun _ h => h) ?_
              refine c_seq ?_
              refine c_text ?_
              refine l_y (Cls.gs _ _) (y_move rfl) rfl ?_
              refine l_y (Cls.gs _ _) (y_load rfl (LoadAt.aggL .z ty27 (.t (.t (.t (.t (.t .d))))))) rfl ?_
              refine l_n rfl (n_callV ent5 (.c (.c (.c .e))) (.c rfl (.c rfl .n)) (fun w' hw' => scan5z (ms.map (moveM (below id_ 1000) (below later 8796093022208) (below axes 3).toNat)) (⟨cs.map (rotCN (below axes 3).toNat), q.from_ + (below later 8796093022208), q.to_ + (below later 8796093022208), q.least, q.ban⟩ : Sg.Ask) mv cu hmv (by rw [hme]) hu.1 hcue (by (try dsimp only); omega) hz2 ha2 w' (Cls.ownV hmv hw' (.c (.c (.c (.k (.k .h)))))) (Cls.ownV hu.1 hw' (.c (.c (.c (.k (.k (.k .h))))))) (fun m hm => by obtain ⟨x, hx, rfl⟩ := List.mem_map.1 hm; exact ⟨(hR.fr x hx).1.gr (hw'.gr .z), (hR.fr x hx).2⟩)) rfl) (fun vc hvc => ?_)
              refine l_y (Cls.gs _ _) (y_move rfl) rfl ?_
              refine l_y (Cls.gs _ _) (y_extract rfl .z) rfl ?_
              refine l_y (Cls.gs _ _) (y_extract rfl (.s .z)) rfl ?_
              refine l_y (Cls.gs _ _) (y_assign rfl) rfl ?_
              refine l_y (Cls.gs _ _) (y_assign rfl) rfl ?_
              refine l_nil ?_
              refine e_then ?_
              refine CJ.weak (.c (t := 8) rfl (.c (t := 13) rfl (.c (t := 14) rfl (.c (t := 23) rfl (.c (t := 25) rfl (.c (t := 26) rfl .n)))))) (fun _ h => h) ?_
              refine c_seq ?_
              have hva2 : va.es = (ansV (rowsOf ms) q).map ansCells := by rw [hva.2, (scan_c (by rw [hz.1]; rfl) (by rw [hz.2]; rfl)).2]
              have hlen1 : (ansV (rowsOf ms) q).length < 1000000 := by have := ansV_len (rowsOf ms) q; simp only [rowsOf, List.length_map] at this ⊢; omega
              have hlen2 : (ansV (rowsOf (ms.map (moveM (below id_ 1000) (below later 8796093022208) (below axes 3).toNat))) (⟨cs.map (rotCN (below axes 3).toNat), q.from_ + (below later 8796093022208), q.to_ + (below later 8796093022208), q.least, q.ban⟩ : Sg.Ask)).length < 1000000 := by have := ansV_len (rowsOf (ms.map (moveM (below id_ 1000) (below later 8796093022208) (below axes 3).toNat))) (⟨cs.map (rotCN (below axes 3).toNat), q.from_ + (below later 8796093022208), q.to_ + (below later 8796093022208), q.least, q.ban⟩ : Sg.Ask); simp only [rowsOf, List.length_map] at this ⊢; omega
              have hids : ∀ x ∈ ansV (rowsOf ms) q, -9223372036854775808 ≤ x.1 + (below id_ 1000) ∧ x.1 + (below id_ 1000) ≤ 9223372036854775807 := fun x hx => by have := ansV_id hz.1 x hx; omega
              have hans : ansV (rowsOf (ms.map (moveM (below id_ 1000) (below later 8796093022208) (below axes 3).toNat))) (⟨cs.map (rotCN (below axes 3).toNat), q.from_ + (below later 8796093022208), q.to_ + (below later 8796093022208), q.least, q.ban⟩ : Sg.Ask) = (ansV (rowsOf ms) q).map fun a => (a.1 + (below id_ 1000), a.2) := by rw [rows_moved]; exact ans_moved hmo (rowsOf ms)
              refine c_text ?_
              refine l_y (Cls.gs _ _) (y_move rfl) rfl ?_
              refine l_y (Cls.gs _ _) ((y_eql rfl rfl).lit (by kernel_rfl : _ = Value.bool true)) rfl ?_
              refine l_y (Cls.gs _ _) (y_move rfl) rfl ?_
              refine l_g (s := 207) (Cls.gs _ _) (by kernel_rfl) rfl (beq_t _) (fun hg => y_move rfl) rfl ?_
              refine l_g (s := 207) (Cls.gs _ _) (by kernel_rfl) rfl (beq_t _) (fun hg => (y_eql (gvt hg rfl) rfl).lit (by kernel_rfl : _ = Value.bool true)) rfl ?_
              refine l_y (Cls.gs _ _) ((y_and rfl rfl rfl).lit (by kernel_rfl : _ = Value.bool true)) rfl ?_
              refine l_y (Cls.gs _ _) (y_move rfl) rfl ?_
              refine l_g (s := 211) (Cls.gs _ _) (by kernel_rfl) rfl (beq_t _) (fun hg => y_move rfl) rfl ?_
              refine l_g (s := 211) (Cls.gs _ _) (by kernel_rfl) rfl (beq_t _) (fun hg => y_move rfl) rfl ?_
              refine l_g (s := 211) (Cls.gs _ _) (by kernel_rfl) rfl (beq_t _) (fun hg => y_call ent11 (.c (gvt hg rfl) (.c (gvt hg rfl) .n)) (fun w' hw' => equal11v (ansV (rowsOf (ms.map (moveM (below id_ 1000) (below later 8796093022208) (below axes 3).toNat))) (⟨cs.map (rotCN (below axes 3).toNat), q.from_ + (below later 8796093022208), q.to_ + (below later 8796093022208), q.least, q.ban⟩ : Sg.Ask)) (ansV (rowsOf (ms.map (moveM (below id_ 1000) (below later 8796093022208) (below axes 3).toNat))) (⟨cs.map (rotCN (below axes 3).toNat), q.from_ + (below later 8796093022208), q.to_ + (below later 8796093022208), q.least, q.ban⟩ : Sg.Ask)) rb.1 vc hrb.1 hrb.2 hvc.1 hvc.2 hlen2 w' (Cls.ownV hrb.1 hw' (.c (.c (.c (.k .h))))) (Cls.ownV hvc.1 hw' (.c (.c (.c .h)))))) rfl ?_
              refine l_y (Cls.gs _ _) (y_and rfl rfl rfl) rfl ?_
              refine l_y (Cls.gs _ _) (y_move rfl) rfl ?_
              refine l_g (s := 216) (Cls.gs _ _) (by kernel_rfl) rfl (beq_t _) (fun hg => y_move rfl) rfl ?_
              refine l_g (s := 216) (Cls.gs _ _) (by kernel_rfl) rfl (beq_t _) (fun hg => y_move rfl) rfl ?_
              refine l_g (s := 216) (Cls.gs _ _) (by kernel_rfl) rfl (beq_t _) (fun hg => y_makeFunc .n (.c rfl .n)) rfl ?_
              refine l_g (s := 216) (Cls.gs _ _) (by kernel_rfl) rfl (beq_t _) (fun hg => y_call ent12 (.c (gvt hg rfl) (.c (gvt hg rfl) (.c (gvt hg rfl) .n))) (fun w' hw' => equalf12v (ansV (rowsOf ms) q) (ansV (rowsOf (ms.map (moveM (below id_ 1000) (below later 8796093022208) (below axes 3).toNat))) (⟨cs.map (rotCN (below axes 3).toNat), q.from_ + (below later 8796093022208), q.to_ + (below later 8796093022208), q.least, q.ban⟩ : Sg.Ask)) va rb.1 (below id_ 1000) b1 hva.1 hva2 hrb.1 hrb.2 hlen1 hids w' (Cls.ownV hva.1 hw' (.c (.c (.c (.k (.k (.k (.k (.k .z))))))))) (Cls.ownV hrb.1 hw' (.c (.c (.c (.k .h))))) (hw'.locM (.s .z)))) rfl ?_
              refine l_y (Cls.gs _ _) (y_and rfl rfl rfl) rfl ?_
              refine l_y (Cls.gs _ _) (y_assign rfl) rfl ?_
              refine l_nil ?_
              refine e_then ?_
              refine CJ.weak (.c (t := 12) rfl .n) (fun _ h => h) ?_
              refine c_ret ?_
              refine e_ret rfl (.t rfl .n) (fun wF hw => ?_)
              exact ⟨by simp only [outOf]; rw [hans]; simp, (hw.anc (w, []) (by simp)).below⟩

end Go.Proofs.YtdpdahpkdimopaaGreat
