/-
  A part of the proof of TopAskedElsewhere: walks of single functions.
-/
import Derived.Test.YtdpdahpkdimopaaGreatQf
import Derived.Test.YtdpdahpkdimopaaGreatB
import Derived.Test.YtdpdahpkdimopaaGreatQ7
import Derived.Test.YtdpdahpkdimopaaGreatQ25
import Derived.Test.YtdpdahpkdimopaaGreatQ19
import Derived.KernelRfl
set_option linter.unusedVariables false
set_option linter.unusedSimpArgs false
set_option maxRecDepth 100000
namespace Go.Proofs.YtdpdahpkdimopaaGreat
open Go Go.Px Sg
open Go.Px Sg
/-- what Run's closures read, from what stands at the start and what Run owns -/
theorem RunCtx.of {W : World} {rs : List Row} {q : Sg.Ask} {p1 p2 p3 ib : Nat} {v : Vec} {es : List (List Value)} {xa ca : Option Addr} {xc cc : Nat} {lv rv lo : Value} {A : List (World × List Nat)} {w : World}
    (hw : Cls A ((p2, blk [.slice ca q.cones.length cc, .int .i64 q.from_, .int .i64 q.to_, .int .i64 q.least, .int .i64 q.ban] 27) :: (p1, blk [ptrV ib] 53) :: (p3, blk [v.val] 29) :: v.own) w) (hA : Mem A (W, [])) (hib : W.heap[ib]? = some (blk [.slice xa es.length xc, lv, rv, lo] 80)) (hE : Elts W xa 18 es) (hl : Like es rs) (hC : Elts W ca 4 (q.cones.map Cone.cells)) (hcl : q.cones.length < 9223372036854775808) :
    RunCtx w (((p3, blk [v.val] 29) :: v.own : List Px.Loc).map (·.1)) rs q p1 p2 ib := by
  have hk := hw.kp hA
  have hnew : ∀ i ∈ (((p3, blk [v.val] 29) :: v.own : List Px.Loc).map (·.1)), W.heap.size ≤ i := fun i hi => by
    have := own_of hw hA i (by simp only [List.map_cons, List.mem_cons] at hi ⊢; exact .inr (.inr hi))
    simpa using this
  have hlt := (Array.getElem?_eq_some_iff.1 hib).1
  have hnd := hw.nd
  simp only [List.map_cons] at hnd
  rw [List.nodup_cons, List.nodup_cons] at hnd
  refine ⟨⟨es, xa, ca, xc, cc, lv, rv, lo, hw.locM (.s .z), (hk.block _ hlt (by simp)).trans hib, hw.locM .z, hE.gr (hw.gr hA), hl, hC.gr (hw.gr hA), fun a ha hn hi => ?_, fun a ha hn hi => ?_⟩, hcl, ?_, ?_, ?_⟩
  · subst ha
    obtain ⟨x, l, rfl⟩ := List.exists_cons_of_ne_nil hn
    obtain ⟨y, z, rfl⟩ := Like.cells hl x (by simp)
    have := Elts.lt hE (i := 0) (j := 0) rfl rfl
    have := hnew _ hi; omega
  · subst ha
    obtain ⟨x, l, hx⟩ := List.exists_cons_of_ne_nil hn
    have := Elts.lt hC (i := 0) (j := 0) (l := x.cells) (by rw [hx]; rfl) rfl
    have := hnew _ hi; omega
  · exact hnd.2.1
  · exact fun h => hnd.1 (List.mem_cons_of_mem _ h)
  · exact fun h => by have := hnew _ h; omega
theorem WalkHyp.of {W : World} {rs : List Row} {q : Sg.Ask} {p1 p2 ib : Nat} {la : Option Addr} {kids : List Nd} {X : List Nat} {w : World} (hk : Keeps W [] w) (hg : Gr W w) (hX : ∀ i ∈ X, W.heap.size ≤ i) (hc : RunCtx w X rs q p1 p2 ib) (he : Elts W la 1 (kids.map fun k => [ptrV k.b])) (hn : ∀ k ∈ kids, NdAt rs.length W [] k) (hl : kids.length < 1000000) : WalkHyp w X rs q p1 p2 ib la kids := by
  refine ⟨hc, he.gr hg, fun a ha hn' hi => ?_, fun k hk' => (hn k hk').keeps hk (fun i hi => .inr (hX i hi)), hl⟩
  subst ha
  obtain ⟨x, l, rfl⟩ := List.exists_cons_of_ne_nil hn'
  have := Elts.lt he (i := 0) (j := 0) rfl rfl
  have := hX _ hi; omega
theorem add24d {w : World} {rs : List Row} {q : Sg.Ask} {p1 p2 p3 ib i : Nat} {r : Row} {v : Vec} (hc : RunCtx w (((p3, blk [v.val] 29) :: v.own : List Px.Loc).map (·.1)) rs q p1 p2 ib) (hown : ∀ p ∈ ((p3, blk [v.val] 29) :: v.own : List Px.Loc), w.heap[p.1]? = some p.2) (hnd : (((p3, blk [v.val] 29) :: v.own : List Px.Loc).map (·.1)).Nodup)
    (hV : VecOK 2 60 v) (hvl : v.es.length < 1000000) (hr : rs[i]? = some r) : TurnsL Tryz.prog 24 [.int .i64 i, ptrV p1, ptrV p2, ptrV p3] w ((p3, blk [v.val] 29) :: v.own) (fun _ : Vec => .tuple #[]) (fun x => (p3, blk [x.val] 29) :: x.own) (fun x => VecOK 2 60 x ∧ x.es = v.es ++ ((ansOf q r).toList.map ansCells)) :=
  add24c hc (Cls.startL hown hnd) .z hV hvl hr
theorem ans_ids {q : Sg.Ask} {rs : List Row} (hr : rowsErr rs = 0) (l : List Nat) : ∀ a ∈ l.flatMap (ansAt q rs), 0 ≤ a.1 ∧ a.1 ≤ 4294967296 := fun a ha => by
  obtain ⟨i, _, hi⟩ := List.mem_flatMap.1 ha
  unfold ansAt at hi
  cases hri : rs[i]? with
  | none => rw [hri] at hi; simp at hi
  | some r =>
    rw [hri] at hi
    have hg := (rowsErr_zero.1 hr).2.1 r (List.mem_of_getElem? hri)
    simp only [ansOf] at hi
    split at hi
    · simp at hi; subst hi; have h1 := hg.id1; have h2 := hg.id2; dsimp only; omega
    · simp at hi
theorem ansAt_le (q : Sg.Ask) (rs : List Row) (i : Nat) : (ansAt q rs i).length ≤ 1 := by
  unfold ansAt
  cases rs[i]? with
  | none => simp
  | some r => simp only [ansOf]; split <;> simp
theorem flat_le (q : Sg.Ask) (rs : List Row) : ∀ l : List Nat, (l.flatMap (ansAt q rs)).length ≤ l.length
  | [] => by simp
  | i :: l => by
    rw [List.flatMap_cons, List.length_append, List.length_cons]
    have := ansAt_le q rs i
    have := flat_le q rs l
    omega
theorem run10 (rs : List Row) (q : Sg.Ask) (ib : Nat) (level : Int) (x1 rtv lv : Vec) (li : List Nat) (roots : List Nd) (hi : IdxOK rs x1 rtv lv li roots) (ca : Option Addr) (cc : Nat) (hr : rowsErr rs = 0) (ha : askErr q = 0) (hcl : q.cones.length < 9223372036854775808) (w : World) (hX : ∀ p ∈ idxOwn ib level x1 rtv lv roots, w.heap[p.1]? = some p.2) (hI : Elts w ca 4 (q.cones.map Cone.cells)) : Calls Tryz.prog 10 #[ptrV ib, .agg #[.slice ca q.cones.length cc, .int .i64 q.from_, .int .i64 q.to_, .int .i64 q.least, .int .i64 q.ban]] w fun e w' => ∃ x : Vec × Int, e = .returned (.tuple #[x.1.val, .int .i64 x.2, .int .i64 0]) ∧ Gr w w' ∧ VIn w x.1 w' ∧ (VecOK 2 60 x.1 ∧ x.1.es = (ansV rs q).map ansCells) := by
  have hrs : rs.length ≤ 200 := (rowsErr_zero.1 hr).1
  have hlen := hi.perm.length_eq
  rw [List.length_append, List.length_range] at hlen
  have hib := hX _ (List.mem_cons_self ..)
  obtain ⟨xa, xc, ex1, ex2, ex3⟩ := elts_vec hi.vx (w := w) (fun p hp => hX p (by simp [idxOwn, hp]))
  obtain ⟨ra, rc, er1, er2, er3⟩ := elts_vec hi.vr (w := w) (fun p hp => hX p (by simp [idxOwn, hp]))
  obtain ⟨la, lc, el1, el2, el3⟩ := elts_vec hi.vl (w := w) (fun p hp => hX p (by simp [idxOwn, hp]))
  have hnds : ∀ k ∈ roots, NdAt rs.length w [] k := fun k hk => NdAt.of (hi.nds k hk) fun p hp => ⟨hX p (by have := mem_kidsOwn hp hk; simp [idxOwn, this]), by simp⟩
  rw [hi.rte, List.length_map] at er1
  rw [hi.lve, List.length_map] at el1
  rw [hi.rte] at er2
  rw [hi.lve] at el2
  dsimp only at hib
  rw [ex1, er1, el1] at hib
  have hal : (kidsAns q rs roots).length ≤ (roots.map Nd.all).flatten.length := by rw [(kidsAns_perm q rs roots hi.good).length_eq]; exact flat_le q rs _
  have hll := flat_le q rs li
  refine enter Tryz.func10 rfl rfl rfl rfl (Cls.start w) ?_
  refine c_seq ?_
  refine c_text ?_
  refine l_n rfl (n_box rfl (.o rfl) rfl) (fun b0 _ => ?_)
  refine l_n rfl (n_box rfl .a rfl) (fun b1 _ => ?_)
  refine l_y (Cls.gs _ _) (y_assign rfl) rfl ?_
  refine l_y (Cls.gs _ _) (y_assign rfl) rfl ?_
  refine l_y (Cls.gs _ _) (y_assign rfl) rfl ?_
  refine l_nil ?_
  refine e_then ?_
  refine CJ.weak (.c (t := 2) rfl (.c (t := 3) rfl .n)) (fun _ h => h) ?_
  refine c_seq ?_
  refine c_seq ?_
  refine c_text ?_
  refine l_y (Cls.gs _ _) (y_load rfl (LoadAt.aggL .z ty27 (.t (.t (.t (.t (.t .d))))))) rfl ?_
  refine l_y (Cls.gs _ _) (y_call ent17 (.c rfl .n) (fun w' hw' => ask17 q ca cc hcl w' (hI.gr (hw'.gr .z)))) rfl ?_
  refine l_y (Cls.gs _ _) (y_assign rfl) rfl ?_
  refine l_nil ?_
  refine e_then ?_
  refine CJ.weak (.c (t := 2) rfl (.c (t := 3) rfl (.c (t := 7) rfl .n))) (fun _ h => h) ?_
  refine c_seq ?_
  refine c_text ?_
  refine l_y (Cls.gs _ _) (y_move rfl) rfl ?_
  refine l_y (Cls.gs _ _) (y_neq rfl rfl) rfl ?_
  refine l_nil ?_
  refine e_then ?_
  refine CJ.weak (.c (t := 2) rfl (.c (t := 3) rfl (.c (t := 7) rfl (.c (t := 16) rfl .n)))) (fun _ h => h) ?_
  refine c_cond rfl (fun h0 => ?_) (fun h0 => ?_)
  · rw [ha] at h0; simp at h0
  ·
    refine c_skip ?_
    refine e_then ?_
    refine CJ.weak (.c (t := 2) rfl (.c (t := 3) rfl .n)) (fun _ h => h) ?_
    refine c_seq ?_
    refine c_text ?_
    refine l_n rfl (n_alloc ty29 (.o rfl) rfl) (fun b2 _ => ?_)
    refine l_nil ?_
    refine e_then ?_
    refine c_seq ?_
    refine c_text ?_
    refine l_y (Cls.gs _ _) (y_makeFunc .n (.c rfl (.c rfl (.c rfl .n)))) rfl ?_
    refine l_y (Cls.gs _ _) (y_assign rfl) rfl ?_
    refine l_nil ?_
    refine e_then ?_
    refine CJ.weak (.c (t := 2) rfl (.c (t := 3) rfl (.c (t := 8) rfl (.c (t := 9) rfl .n)))) (fun _ h => h) ?_
    refine c_seq ?_
    refine c_seq ?_
    refine CJ.swap .z (show List.Perm _ [_, _, _] from List.perm_append_comm (l₁ := [_]) (l₂ := [_, _])) ?_
    refine c_text ?_
    refine l_y (Cls.gs _ _) (y_load rfl (LoadAt.oneL (.s .z) ty53 .z)) rfl ?_
    refine l_y (Cls.gs _ _) (y_nilCheck rfl) rfl ?_
    refine l_y (Cls.gs _ _) (y_fieldAddr rfl fa80_3) rfl ?_
    refine l_y (Cls.gs _ _) (y_load rfl (LoadAt.oneB .z hib ty50 (.s (.s (.s .z))))) rfl ?_
    refine l_y (Cls.gs _ _) (y_lenS Tryz.underlying50 rfl rfl) rfl ?_
    refine l_y (Cls.gs _ _) (y_move rfl) rfl ?_
    refine l_nil ?_
    refine e_then ?_
    refine CJ.weak (.c (t := 2) rfl (.c (t := 3) rfl (.c (t := 8) rfl (.c (t := 9) rfl (.c (t := 22) rfl (.c (t := 23) rfl (.c (t := 24) rfl .n))))))) (fun _ h => h) ?_
    refine c_block ?_
    refine CJ.weak (.c (t := 24) rfl (.c (t := 2) rfl (.c (t := 3) rfl (.c (t := 8) rfl (.c (t := 9) rfl (.c (t := 22) rfl (.c (t := 23) rfl .n))))))) (fun _ h => h) ?_
    refine c_loopV (fun x : Vec × Nat => VecOK 2 60 x.1 ∧ x.2 ≤ li.length ∧ x.1.es ++ ((li.drop x.2).flatMap (ansAt q rs)).map ansCells = (li.flatMap (ansAt q rs)).map ansCells) (fun x => [(24, .int .i64 (x.2 : Int))]) (fun x => (b1, blk [.slice ca q.cones.length cc, .int .i64 q.from_, .int .i64 q.to_, .int .i64 q.least, .int .i64 q.ban] 27) :: (b0, blk [ptrV ib] 53) :: (b2, blk [x.1.val] 29) :: x.1.own) (fun x => li.length - x.2) ((Vec.nil, 0)) (⟨.nil, Nat.zero_le _, rfl⟩) .z ?_
    rintro ⟨v0, k⟩ hk
    dsimp only at hk
    refine c_seq ?_
    refine c_text ?_
    refine l_y (Cls.gs _ _) (y_lss rfl rfl) rfl ?_
    refine l_nil ?_
    refine e_then ?_
    refine c_seq ?_
    refine c_cond rfl (fun h1 => ?_) (fun h1 => ?_)
    · have hlt : k < li.length := by have := of_decide_eq_true h1; dsimp only at this; omega
      obtain ⟨i, hlk⟩ : ∃ i, li[k]? = some i := ⟨_, List.getElem?_eq_getElem hlt⟩
      have hil : i < rs.length := by have := hi.perm.mem_iff.1 (List.mem_append_left _ (List.mem_of_getElem? hlk)); simpa using this
      obtain ⟨r, hir⟩ : ∃ r, rs[i]? = some r := ⟨_, List.getElem?_eq_getElem hil⟩
      obtain ⟨rb, ro, hla, hle⟩ := el2 k (idx i) (by rw [List.getElem?_map, hlk]; rfl)
      have hle := hle 0 _ rfl
      refine c_skip ?_
      refine e_then ?_
      refine CJ.weak (.c (t := 2) rfl (.c (t := 3) rfl (.c (t := 8) rfl (.c (t := 9) rfl (.c (t := 22) rfl (.c (t := 23) rfl (.c (t := 24) rfl .n))))))) (fun _ h => h) ?_
      refine c_seq ?_
      refine c_block ?_
      refine c_seq ?_
      refine c_text ?_
      refine l_y (Cls.gs _ _) (y_indexAddrF Tryz.underlying50 ty3 rfl rfl hla (by dsimp only; omega) (by dsimp only; omega)) rfl ?_
      refine l_y (Cls.gs _ _) (y_load rfl (LoadAt.oneF .z ty3 hle)) rfl ?_
      refine l_y (Cls.gs _ _) (y_assign rfl) rfl ?_
      refine l_nil ?_
      refine e_then ?_
      refine CJ.weak (.c (t := 2) rfl (.c (t := 3) rfl (.c (t := 8) rfl (.c (t := 9) rfl (.c (t := 11) rfl (.c (t := 22) rfl (.c (t := 23) rfl (.c (t := 24) rfl .n)))))))) (fun _ h => h) ?_
      refine c_text ?_
      refine l_y (Cls.gs _ _) (y_move rfl) rfl ?_
      refine l_y (Cls.gs _ _) (y_move rfl) rfl ?_
      refine l_n rfl (n_callTL ent24 rfl (.c (.c .z)) (.c rfl .n) (fun w' hw' => add24d (RunCtx.of hw' .z hib ex2 hi.like hI hcl) (fun p hp => hw'.loc p (.tail _ (.tail _ hp))) (List.nodup_cons.1 (List.nodup_cons.1 hw'.nd).2).2 hk.1 (by have := congrArg List.length hk.2.2; simp only [List.length_append, List.length_map] at this; show v0.es.length < 1000000; omega) hir) rfl) (fun x2 hx2 => ?_)
      refine l_nil ?_
      refine e_block ?_
      refine e_then ?_
      refine CJ.weak (.c (t := 2) rfl (.c (t := 3) rfl (.c (t := 8) rfl (.c (t := 9) rfl (.c (t := 22) rfl (.c (t := 23) rfl (.c (t := 24) rfl .n))))))) (fun _ h => h) ?_
      refine c_text ?_
      refine l_y (Cls.gs _ _) ((y_add rfl rfl).lit (succ64 (by dsimp only; omega))) rfl ?_
      refine l_y (Cls.gs _ _) (y_move rfl) rfl ?_
      refine l_nil ?_
      refine e_again ((x2, k + 1)) (⟨hx2.1, by dsimp only; omega, by dsimp only; rw [← hk.2.2, rA hlk hir, hx2.2]; simp only [List.map_append, List.append_assoc]⟩) (by dsimp only; omega) (.c (t := 24) rfl (.c (t := 2) rfl (.c (t := 3) rfl (.c (t := 8) rfl (.c (t := 9) rfl (.c (t := 22) rfl (.c (t := 23) rfl .n))))))) (fun _ h => h.thin .r)
    · have hv0 : v0.es = (li.flatMap (ansAt q rs)).map ansCells := by have := hk.2.2; rw [show li.drop k = [] from List.drop_of_length_le (by have := of_decide_eq_false h1; dsimp only at this; omega)] at this; simpa using this
      have hrl : roots.length < 1000000 := by have := hi.rl; omega
      have hids : ∀ a ∈ li.flatMap (ansAt q rs) ++ kidsAns q rs roots, 0 ≤ a.1 ∧ a.1 ≤ 4294967296 := fun a ha => by
        rcases List.mem_append.1 ha with ha | ha
        · exact ans_ids hr _ a ha
        · exact ans_ids hr _ a ((kidsAns_perm q rs roots hi.good).mem_iff.1 ha)
      refine c_exit ?_
      refine e_then_exit ?_
      refine e_then_exit ?_
      refine e_block_hit ?_
      refine e_then ?_
      refine CJ.weak (.c (t := 2) rfl (.c (t := 3) rfl (.c (t := 8) rfl (.c (t := 9) rfl .n)))) (fun _ h => h) ?_
      refine c_seq ?_
      refine c_draw (m := 14) (fun i => Nat.beq i 11) (fun _ h => h.thin (.k (.k (.d .n)))) hmix (Cls.gs _ _) rfl ?_
      refine a_y (i := 9) (Cls.gs _ _) (by kernel_rfl) rfl (by kernel_rfl) (by kernel_rfl) (y_makeFunc .n (.c rfl .n)) rfl ?_
      refine a_y (i := 10) (Cls.gs _ _) (by kernel_rfl) rfl (by kernel_rfl) (by kernel_rfl) (y_move rfl) rfl ?_
      refine a_yM (i := 0) (Cls.gs _ _) (by kernel_rfl) rfl (by kernel_rfl) (by kernel_rfl) (y_load rfl (LoadAt.oneL (.s .z) ty53 .z)) rfl ?_
      refine a_yM (i := 1) (Cls.gs _ _) (by kernel_rfl) rfl (by kernel_rfl) (by kernel_rfl) (y_nilCheck rfl) rfl ?_
      refine a_yM (i := 2) (Cls.gs _ _) (by kernel_rfl) rfl (by kernel_rfl) (by kernel_rfl) (y_fieldAddr rfl fa80_3) rfl ?_
      refine a_yM (i := 3) (Cls.gs _ _) (by kernel_rfl) rfl (by kernel_rfl) (by kernel_rfl) (y_load rfl (LoadAt.oneB .z hib ty50 (.s (.s (.s .z))))) rfl ?_
      refine a_yM (i := 4) (Cls.gs _ _) (by kernel_rfl) rfl (by kernel_rfl) (by kernel_rfl) (y_lenS Tryz.underlying50 rfl rfl) rfl ?_
      refine a_yM (i := 5) (Cls.gs _ _) (by kernel_rfl) rfl (by kernel_rfl) (by kernel_rfl) (y_load rfl (LoadAt.oneL (.s .z) ty53 .z)) rfl ?_
      refine a_yM (i := 6) (Cls.gs _ _) (by kernel_rfl) rfl (by kernel_rfl) (by kernel_rfl) (y_nilCheck rfl) rfl ?_
      refine a_yM (i := 7) (Cls.gs _ _) (by kernel_rfl) rfl (by kernel_rfl) (by kernel_rfl) (y_fieldAddr rfl fa80_2) rfl ?_
      refine a_y (i := 8) (Cls.gs _ _) (by kernel_rfl) rfl (by kernel_rfl) (by kernel_rfl) (y_load rfl (LoadAt.oneB .z hib ty78 (.s (.s .z)))) rfl ?_
      refine a_n (i := 11) rfl rfl (by kernel_rfl) (fun _ => Cls.gs _ _) (.inl ⟨rfl, fun _ _ h => h.thin (by exact (.k (.k (.d .n))))⟩) (n_callTL ent25 rfl (.c (.c .z)) (.c rfl (.c rfl (.c rfl .n))) (fun w' hw' => walk25 rs q b0 b1 b2 ib _ roots v0 ra rc w' (Nat.lt_succ_self _) (WalkHyp.of (hw'.kp .z) (hw'.gr .z) (fun i hi => by have := own_of hw' .z i (by simp only [List.map_cons, List.mem_cons] at hi ⊢; exact .inr (.inr hi)); simpa using this) (RunCtx.of hw' .z hib ex2 hi.like hI hcl) er2 hnds hrl) hk.1 (by have := congrArg List.length hv0; simp only [List.length_append, List.length_map] at this; show v0.es.length + _ < 1000000; omega) (fun p hp => hw'.loc p (.tail _ (.tail _ hp))) (List.nodup_cons.1 (List.nodup_cons.1 hw'.nd).2).2) rfl) (fun x3 hx3 => ?_)
      refine a_y (i := 12) (Cls.gs _ _) (by kernel_rfl) rfl (by kernel_rfl) (by kernel_rfl) (y_add rfl rfl) rfl ?_
      refine a_y (i := 13) (Cls.gs _ _) (by kernel_rfl) rfl (by kernel_rfl) (by kernel_rfl) (y_assign rfl) rfl ?_
      refine a_done (by kernel_rfl) ?_
      refine e_then ?_
      refine CJ.weak (.c (t := 8) rfl (.c (t := 12) rfl .n)) (fun _ h => h) ?_
      refine c_seq ?_
      refine c_text ?_
      refine l_y (Cls.gs _ _) (y_load rfl (LoadAt.oneL (.s (.s .z)) ty29 .z)) rfl ?_
      refine l_n rfl (n_callTV (v := x3.1) ent30 (.c (.c (.c .z))) (.c rfl (.c rfl .n)) (fun w' hw' => sort30 x3.1 hx3.1 (li.flatMap (ansAt q rs) ++ kidsAns q rs roots) (by rw [hx3.2, hv0, List.map_append]) hids (by rw [List.length_append]; omega) w' (Cls.ownV hx3.1 hw' (.c (.c (.c .z))))) rfl) (fun xs hxs => ?_)
      refine l_nil ?_
      refine e_then ?_
      refine CJ.weak (.c (t := 8) rfl (.c (t := 12) rfl .n)) (fun _ h => h) ?_
      refine c_seq ?_
      refine c_text ?_
      refine l_y (Cls.gs _ _) (y_load rfl (LoadAt.oneL (.s (.s .z)) ty29 .z)) rfl ?_
      refine l_y (Cls.gs _ _) (y_move rfl) rfl ?_
      refine l_y (Cls.gs _ _) (y_assign rfl) rfl ?_
      refine l_y (Cls.gs _ _) (y_assign rfl) rfl ?_
      refine l_y (Cls.gs _ _) (y_assign rfl) rfl ?_
      refine l_nil ?_
      refine e_then ?_
      refine CJ.weak (.c (t := 4) rfl (.c (t := 5) rfl (.c (t := 6) rfl .n))) (fun _ h => h) ?_
      refine c_ret ?_
      refine e_ret rfl (.t rfl (.t rfl (.t rfl .n))) (fun wF hw => ?_)
      obtain ⟨hx1, hx2, ls, hl1, hl2, hl3⟩ := hxs
      have he := run_eq hr hi.perm hi.good hl2 hl3
      exact ⟨(xs, _), congrArg (fun v => Ending.returned (.tuple #[v, _, _])) hx2.symm, (hw.anc (w, []) (by simp)).below, Cls.vin hx1 hw (.c (.c (.c .z))) .z, hx1, by rw [hl1, he]⟩

end Go.Proofs.YtdpdahpkdimopaaGreat
