/-
  A part of the proof of TopAskedElsewhere: walks of single functions.
-/
import Derived.Test.YtdpdahpkdimopaaGreatQf
import Derived.Test.YtdpdahpkdimopaaGreatB
import Derived.Test.YtdpdahpkdimopaaGreatQ23
import Derived.Test.YtdpdahpkdimopaaGreatQ24
import Derived.KernelRfl
set_option linter.unusedVariables false
set_option linter.unusedSimpArgs false
set_option maxRecDepth 100000
namespace Go.Proofs.YtdpdahpkdimopaaGreat
open Go Go.Px Sg
open Go.Px Sg
/-- a call of use -/
theorem use26c {W : World} {X : List Nat} {rs : List Row} {q : Sg.Ask} {p1 p2 ib b : Nat} {box : Bx} {wh : Bd} {kv rv : Value} (hc : RunCtx W X rs q p1 p2 ib) (hb : W.heap[b]? = some (blk (nodeL box wh kv rv) 87)) (hbX : b ∉ X)
    {A : List (World × List Nat)} {L : List Px.Loc} {w : World} (hw : Cls A L w) (hA : Mem A (W, X)) : Calls Tryz.prog 26 #[ptrV b, ptrV p2] w fun e w' => e = .returned (.bool (useV q box wh)) ∧ Gr w w' := by
  have hlt := (Array.getElem?_eq_some_iff.1 hb).1
  obtain ⟨⟨es, xa, ca, xc, cc, lv, rv', lo, h1, h2, h3, h4, h5, h6, h7, h8⟩, hcl, n1, n2, n3⟩ := hc.at hw hA
  exact use26 box wh kv rv q b p2 ca cc hcl w (((hw.kp hA).block b hlt hbX).trans hb) h3 h6
/-- a call of add -/
theorem add24c {W : World} {X : List Nat} {rs : List Row} {q : Sg.Ask} {p1 p2 p3 ib i : Nat} {r : Row} {v : Vec} (hc : RunCtx W X rs q p1 p2 ib) {A : List (World × List Nat)} {w : World} (hw : Cls A ((p3, blk [v.val] 29) :: v.own) w) (hA : Mem A (W, X))
    (hV : VecOK 2 60 v) (hvl : v.es.length < 1000000) (hr : rs[i]? = some r) : TurnsL Tryz.prog 24 [.int .i64 i, ptrV p1, ptrV p2, ptrV p3] w ((p3, blk [v.val] 29) :: v.own) (fun _ : Vec => .tuple #[]) (fun x => (p3, blk [x.val] 29) :: x.own) (fun x => VecOK 2 60 x ∧ x.es = v.es ++ ((ansOf q r).toList.map ansCells)) := by
  obtain ⟨⟨es, xa, ca, xc, cc, lv, rv', lo, h1, h2, h3, h4, h5, h6, h7, h8⟩, hcl, n1, n2, n3⟩ := hc.at hw hA
  have hes : es ≠ [] := fun e => by
    have hl := h5.1
    rw [e] at hl
    have := (List.getElem?_eq_some_iff.1 hr).1
    simp at hl; omega
  exact add24 rs es q i r v p1 p2 p3 ib xa ca xc cc lv rv' lo hcl w hV hvl hw.loc hw.nd (fun b hb => by
    rcases hb with rfl | rfl | rfl | ⟨a, ha, rfl⟩ | ⟨a, ha, hn, rfl⟩
    · exact n1
    · exact n2
    · exact n3
    · exact h7 a ha hes
    · exact h8 a ha hn) h1 h2 h3 h4 h5 h6 hr
structure WalkHyp (W : World) (X : List Nat) (rs : List Row) (q : Sg.Ask) (p1 p2 ib : Nat) (la : Option Addr) (kids : List Nd) : Prop where
  ctx : RunCtx W X rs q p1 p2 ib
  el : Elts W la 1 (kids.map fun k => [ptrV k.b])
  elX : ∀ a, la = some a → kids ≠ [] → a.block ∉ X
  nds : ∀ k ∈ kids, NdAt rs.length W X k
  len : kids.length < 1000000
theorem WalkHyp.at {W : World} {X : List Nat} {rs : List Row} {q : Sg.Ask} {p1 p2 ib : Nat} {la : Option Addr} {kids : List Nd} (h : WalkHyp W X rs q p1 p2 ib la kids) {A : List (World × List Nat)} {L : List Px.Loc} {w : World} (hw : Cls A L w) (hA : Mem A (W, X)) : WalkHyp w (L.map (·.1)) rs q p1 p2 ib la kids := by
  have := Elts.at h.el (fun a ha hn => h.elX a ha (fun e => hn (by simp [e]))) (fun l hl => by obtain ⟨k, _, rfl⟩ := List.mem_map.1 hl; exact ⟨_, _, rfl⟩) hw hA
  exact ⟨h.ctx.at hw hA, this.1, fun a ha hn => this.2 a ha (by simpa using hn), fun k hk => (h.nds k hk).at hw hA, h.len⟩
def WalkP (rs : List Row) (q : Sg.Ask) (p1 p2 p3 ib N : Nat) : Prop := ∀ (kids : List Nd) (v : Vec) (la : Option Addr) (lc : Nat) (w : World), SizeOf.sizeOf kids < N → WalkHyp w (((p3, blk [v.val] 29) :: v.own : List Px.Loc).map (·.1)) rs q p1 p2 ib la kids → VecOK 2 60 v →
  v.es.length + (kidsAns q rs kids).length < 1000000 → (∀ p ∈ ((p3, blk [v.val] 29) :: v.own : List Px.Loc), w.heap[p.1]? = some p.2) → (((p3, blk [v.val] 29) :: v.own : List Px.Loc).map (·.1)).Nodup →
  TurnsL Tryz.prog 25 [.slice la kids.length lc, .func (.func 26) #[] #[ptrV p2], .func (.func 24) #[] #[ptrV p1, ptrV p2, ptrV p3]] w ((p3, blk [v.val] 29) :: v.own) (fun x : Vec × Int => .int .i64 x.2) (fun x => (p3, blk [x.1.val] 29) :: x.1.own)
    (fun x => VecOK 2 60 x.1 ∧ x.1.es = v.es ++ (kidsAns q rs kids).map ansCells)
theorem kA {q : Sg.Ask} {rs : List Row} {kids : List Nd} {k b : Nat} {box : Bx} {wh : Bd} {kv rv : Vec} {ck : List Nd} {cr : List Nat} (h : kids[k]? = some (.mk b box wh kv rv ck cr)) :
    kidsAns q rs (kids.drop k) = (if useV q box wh = true then kidsAns q rs ck ++ cr.flatMap (ansAt q rs) else []) ++ kidsAns q rs (kids.drop (k + 1)) := by
  obtain ⟨hl, he⟩ := List.getElem?_eq_some_iff.1 h
  rw [List.drop_eq_getElem_cons hl, he, kidsAns, Nd.ans]
theorem rA {q : Sg.Ask} {rs : List Row} {cr : List Nat} {j i : Nat} {r : Row} (h : cr[j]? = some i) (hr : rs[i]? = some r) : (cr.drop j).flatMap (ansAt q rs) = (ansOf q r).toList ++ (cr.drop (j + 1)).flatMap (ansAt q rs) := by
  obtain ⟨hl, he⟩ := List.getElem?_eq_some_iff.1 h
  rw [List.drop_eq_getElem_cons hl, he, List.flatMap_cons, ansAt, hr]
theorem kids_size {kids : List Nd} {k b : Nat} {box : Bx} {wh : Bd} {kv rv : Vec} {ck : List Nd} {cr : List Nat} (h : kids[k]? = some (.mk b box wh kv rv ck cr)) : SizeOf.sizeOf ck < SizeOf.sizeOf kids := by
  have h1 := List.sizeOf_lt_of_mem (List.mem_of_getElem? h)
  have h2 : SizeOf.sizeOf ck < SizeOf.sizeOf (Nd.mk b box wh kv rv ck cr) := by rw [Nd.mk.sizeOf_spec]; omega
  omega
theorem walk25_step (rs : List Row) (q : Sg.Ask) (p1 p2 p3 ib N : Nat) (ih : WalkP rs q p1 p2 p3 ib N) (kids : List Nd) (v : Vec) (la : Option Addr) (lc : Nat) (w : World) (hs : SizeOf.sizeOf kids < N + 1) (hH : WalkHyp w (((p3, blk [v.val] 29) :: v.own : List Px.Loc).map (·.1)) rs q p1 p2 ib la kids) (hV : VecOK 2 60 v) (hvl : v.es.length + (kidsAns q rs kids).length < 1000000) (hown : ∀ p ∈ ((p3, blk [v.val] 29) :: v.own : List Px.Loc), w.heap[p.1]? = some p.2) (hnd : (((p3, blk [v.val] 29) :: v.own : List Px.Loc).map (·.1)).Nodup) : TurnsL Tryz.prog 25 [.slice la kids.length lc, .func (.func 26) #[] #[ptrV p2], .func (.func 24) #[] #[ptrV p1, ptrV p2, ptrV p3]] w ((p3, blk [v.val] 29) :: v.own) (fun x : Vec × Int => .int .i64 x.2) (fun x => (p3, blk [x.1.val] 29) :: x.1.own)
    (fun x => VecOK 2 60 x.1 ∧ x.1.es = v.es ++ (kidsAns q rs kids).map ansCells) := by
  have hkl := hH.len
  refine enter Tryz.func25 rfl rfl rfl rfl (Cls.startL hown hnd) ?_
  refine c_seq ?_
  refine c_text ?_
  refine l_y (Cls.gs _ _) (y_assign rfl) rfl ?_
  refine l_nil ?_
  refine e_then ?_
  refine CJ.weak (.c (t := 0) rfl (.c (t := 1) rfl (.c (t := 2) rfl .n))) (fun _ h => h) ?_
  refine c_seq ?_
  refine c_text ?_
  refine l_y (Cls.gs _ _) (y_move rfl) rfl ?_
  refine l_y (Cls.gs _ _) (y_lenS Tryz.underlying78 rfl rfl) rfl ?_
  refine l_y (Cls.gs _ _) (y_assign rfl) rfl ?_
  refine l_nil ?_
  refine e_then ?_
  refine CJ.weak (.c (t := 0) rfl (.c (t := 1) rfl (.c (t := 2) rfl (.c (t := 7) rfl .n)))) (fun _ h => h) ?_
  refine c_seq ?_
  refine c_seq ?_
  refine c_text ?_
  refine l_y (Cls.gs _ _) (y_move rfl) rfl ?_
  refine l_y (Cls.gs _ _) (y_lenS Tryz.underlying78 rfl rfl) rfl ?_
  refine l_y (Cls.gs _ _) (y_move rfl) rfl ?_
  refine l_nil ?_
  refine e_then ?_
  refine CJ.weak (.c (t := 1) rfl (.c (t := 2) rfl (.c (t := 7) rfl (.c (t := 14) rfl (.c (t := 15) rfl (.c (t := 16) rfl .n)))))) (fun _ h => h) ?_
  refine c_block ?_
  refine CJ.weak (.c (t := 7) rfl (.c (t := 16) rfl (.c (t := 1) rfl (.c (t := 2) rfl (.c (t := 14) rfl (.c (t := 15) rfl .n)))))) (fun _ h => h) ?_
  refine c_loopV (fun x : Vec × Int × Nat => VecOK 2 60 x.1 ∧ x.2.2 ≤ kids.length ∧ x.1.es ++ (kidsAns q rs (kids.drop x.2.2)).map ansCells = v.es ++ (kidsAns q rs kids).map ansCells) (fun x => [(7, .int .i64 x.2.1), (16, .int .i64 (x.2.2 : Int))]) (fun x => (p3, blk [x.1.val] 29) :: x.1.own) (fun x => kids.length - x.2.2) ((v, _, 0)) (⟨hV, Nat.zero_le _, rfl⟩) .z ?_
  rintro ⟨v0, c, k⟩ hk
  dsimp only at hk
  refine c_seq ?_
  refine c_text ?_
  refine l_y (Cls.gs _ _) (y_lss rfl rfl) rfl ?_
  refine l_nil ?_
  refine e_then ?_
  refine c_seq ?_
  refine c_cond rfl (fun h0 => ?_) (fun h0 => ?_)
  · have hlt : k < kids.length := by have := of_decide_eq_true h0; dsimp only at this; omega
    obtain ⟨kd, hkd⟩ : ∃ kd, kids[k]? = some kd := ⟨_, List.getElem?_eq_getElem hlt⟩
    have hat := hH.nds kd (List.mem_of_getElem? hkd)
    obtain ⟨lb, lo, hla, hle⟩ := hH.el k [ptrV kd.b] (by rw [List.getElem?_map, hkd]; rfl)
    have hlX := hH.elX _ hla (by intro e; rw [e] at hlt; simp at hlt)
    rcases hat with @⟨b, box, wh, kv, rv, ck, cr, ka, ra, kc, rc, hb, hbX, hkv, hrv, hke, hre, hkX, hrX, hks, hkl', hrl, hrr⟩
    rw [hkv, hrv] at hb
    have hle := hle 0 _ rfl
    refine c_skip ?_
    refine e_then ?_
    refine CJ.weak (.c (t := 1) rfl (.c (t := 2) rfl (.c (t := 7) rfl (.c (t := 14) rfl (.c (t := 15) rfl (.c (t := 16) rfl .n)))))) (fun _ h => h) ?_
    refine c_seq ?_
    refine c_block ?_
    refine c_seq ?_
    refine c_text ?_
    refine l_y (Cls.gs _ _) (y_indexAddrF Tryz.underlying78 ty84 rfl rfl hla (by dsimp only; omega) (by dsimp only; omega)) rfl ?_
    refine l_y (Cls.gs _ _) (y_load rfl (LoadAt.oneFX .z hlX ty84 hle)) rfl ?_
    refine l_y (Cls.gs _ _) (y_assign rfl) rfl ?_
    refine l_nil ?_
    refine e_then ?_
    refine CJ.weak (.c (t := 1) rfl (.c (t := 2) rfl (.c (t := 7) rfl (.c (t := 9) rfl (.c (t := 14) rfl (.c (t := 15) rfl (.c (t := 16) rfl .n))))))) (fun _ h => h) ?_
    refine c_seq ?_
    refine c_seq ?_
    refine c_text ?_
    refine l_y (Cls.gs _ _) (y_move rfl) rfl ?_
    refine l_y (Cls.gs _ _) (y_move rfl) rfl ?_
    refine l_y (Cls.gs _ _) (y_callv ent26 rfl (.c rfl .n) (fun w' hw' => use26c hH.ctx hb hbX hw' .z)) rfl ?_
    refine l_y (Cls.gs _ _) (y_not rfl) rfl ?_
    refine l_nil ?_
    refine e_then ?_
    refine CJ.weak (.c (t := 1) rfl (.c (t := 2) rfl (.c (t := 7) rfl (.c (t := 9) rfl (.c (t := 14) rfl (.c (t := 15) rfl (.c (t := 16) rfl (.c (t := 23) rfl .n)))))))) (fun _ h => h) ?_
    refine c_cond rfl (fun h1 => ?_) (fun h1 => ?_)
    ·
      refine c_exit ?_
      refine e_then_exit ?_
      refine e_block_hit ?_
      refine e_then ?_
      refine CJ.weak (.c (t := 1) rfl (.c (t := 2) rfl (.c (t := 7) rfl (.c (t := 14) rfl (.c (t := 15) rfl (.c (t := 16) rfl .n)))))) (fun _ h => h) ?_
      refine c_text ?_
      refine l_y (Cls.gs _ _) ((y_add rfl rfl).lit (succ64 (by dsimp only; omega))) rfl ?_
      refine l_y (Cls.gs _ _) (y_move rfl) rfl ?_
      refine l_nil ?_
      refine e_again ((v0, c, k + 1)) (⟨hk.1, by dsimp only; omega, by dsimp only; rw [← hk.2.2, kA hkd, if_neg (by simpa using h1)]; rfl⟩) (by dsimp only; omega) (.c (t := 7) rfl (.c (t := 16) rfl (.c (t := 1) rfl (.c (t := 2) rfl (.c (t := 14) rfl (.c (t := 15) rfl .n)))))) (fun _ h => h.thin .r)
    ·
      refine c_skip ?_
      refine e_then ?_
      refine CJ.weak (.c (t := 1) rfl (.c (t := 2) rfl (.c (t := 7) rfl (.c (t := 9) rfl (.c (t := 14) rfl (.c (t := 15) rfl (.c (t := 16) rfl .n))))))) (fun _ h => h) ?_
      refine c_seq ?_
      refine c_draw (m := 16) (fun i => Nat.beq i 12) (fun _ h => h.thin (.d .n)) hmix (Cls.gs _ _) rfl ?_
      refine a_y (i := 10) (Cls.gs _ _) (by kernel_rfl) rfl (by kernel_rfl) (by kernel_rfl) (y_move rfl) rfl ?_
      refine a_y (i := 11) (Cls.gs _ _) (by kernel_rfl) rfl (by kernel_rfl) (by kernel_rfl) (y_move rfl) rfl ?_
      refine a_yM (i := 0) (Cls.gs _ _) (by kernel_rfl) rfl (by kernel_rfl) (by kernel_rfl) (y_move rfl) rfl ?_
      refine a_yM (i := 1) (Cls.gs _ _) (by kernel_rfl) rfl (by kernel_rfl) (by kernel_rfl) (y_move rfl) rfl ?_
      refine a_yM (i := 2) (Cls.gs _ _) (by kernel_rfl) rfl (by kernel_rfl) (by kernel_rfl) (y_nilCheck rfl) rfl ?_
      refine a_yM (i := 3) (Cls.gs _ _) (by kernel_rfl) rfl (by kernel_rfl) (by kernel_rfl) (y_fieldAddr rfl fa87_3) rfl ?_
      refine a_yM (i := 4) (Cls.gs _ _) (by kernel_rfl) rfl (by kernel_rfl) (by kernel_rfl) (y_load rfl (LoadAt.oneBX .z hbX hb ty50 (.s (.s (.s (.s (.s (.s (.s (.s (.s (.s (.s (.s (.s .z))))))))))))))) rfl ?_
      refine a_yM (i := 5) (Cls.gs _ _) (by kernel_rfl) rfl (by kernel_rfl) (by kernel_rfl) (y_lenS Tryz.underlying50 rfl rfl) rfl ?_
      refine a_yM (i := 6) (Cls.gs _ _) (by kernel_rfl) rfl (by kernel_rfl) (by kernel_rfl) (y_move rfl) rfl ?_
      refine a_yM (i := 7) (Cls.gs _ _) (by kernel_rfl) rfl (by kernel_rfl) (by kernel_rfl) (y_nilCheck rfl) rfl ?_
      refine a_yM (i := 8) (Cls.gs _ _) (by kernel_rfl) rfl (by kernel_rfl) (by kernel_rfl) (y_fieldAddr rfl fa87_2) rfl ?_
      refine a_y (i := 9) (Cls.gs _ _) (by kernel_rfl) rfl (by kernel_rfl) (by kernel_rfl) (y_load rfl (LoadAt.oneBX .z hbX hb ty78 (.s (.s (.s (.s (.s (.s (.s (.s (.s (.s (.s (.s .z)))))))))))))) rfl ?_
      refine a_n (i := 12) rfl rfl (by kernel_rfl) (fun _ => Cls.gs _ _) (.inl ⟨rfl, fun _ _ h => h.subl (List.nil_sublist _)⟩) (n_callTL ent25 rfl .z (.c rfl (.c rfl (.c rfl .n))) (fun w' hw' => ih ck v0 ka kc w' (by have := kids_size hkd; omega) (WalkHyp.at ⟨hH.ctx, hke, hkX, hks, hkl'⟩ hw' .z) hk.1 (by have := congrArg List.length hk.2.2; rw [kA hkd, if_pos (by simpa using h1)] at this; simp only [List.length_append, List.length_map] at this; show v0.es.length + _ < 1000000; omega) hw'.loc hw'.nd) rfl) (fun x1 hx1 => ?_)
      refine a_y (i := 13) (Cls.gs _ _) (by kernel_rfl) rfl (by kernel_rfl) (by kernel_rfl) (y_add rfl rfl) rfl ?_
      refine a_y (i := 14) (Cls.gs _ _) (by kernel_rfl) rfl (by kernel_rfl) (by kernel_rfl) (y_add rfl rfl) rfl ?_
      refine a_y (i := 15) (Cls.gs _ _) (by kernel_rfl) rfl (by kernel_rfl) (by kernel_rfl) (y_assign rfl) rfl ?_
      refine a_done (by kernel_rfl) ?_
      refine e_then ?_
      refine CJ.weak (.c (t := 1) rfl (.c (t := 2) rfl (.c (t := 7) rfl (.c (t := 9) rfl (.c (t := 14) rfl (.c (t := 15) rfl (.c (t := 16) rfl .n))))))) (fun _ h => h) ?_
      refine c_seq ?_
      refine c_text ?_
      refine l_y (Cls.gs _ _) (y_move rfl) rfl ?_
      refine l_y (Cls.gs _ _) (y_nilCheck rfl) rfl ?_
      refine l_y (Cls.gs _ _) (y_fieldAddr rfl fa87_3) rfl ?_
      refine l_y (Cls.gs _ _) (y_load rfl (LoadAt.oneBX .z hbX hb ty50 (.s (.s (.s (.s (.s (.s (.s (.s (.s (.s (.s (.s (.s .z))))))))))))))) rfl ?_
      refine l_y (Cls.gs _ _) (y_lenS Tryz.underlying50 rfl rfl) rfl ?_
      refine l_y (Cls.gs _ _) (y_move rfl) rfl ?_
      refine l_nil ?_
      refine e_then ?_
      refine CJ.weak (.c (t := 1) rfl (.c (t := 2) rfl (.c (t := 7) rfl (.c (t := 14) rfl (.c (t := 15) rfl (.c (t := 16) rfl (.c (t := 42) rfl (.c (t := 43) rfl (.c (t := 44) rfl .n))))))))) (fun _ h => h) ?_
      refine c_block ?_
      refine CJ.weak (.c (t := 44) rfl (.c (t := 1) rfl (.c (t := 2) rfl (.c (t := 7) rfl (.c (t := 14) rfl (.c (t := 15) rfl (.c (t := 16) rfl (.c (t := 42) rfl (.c (t := 43) rfl .n))))))))) (fun _ h => h) ?_
      refine c_loopV (fun y : Vec × Nat => VecOK 2 60 y.1 ∧ y.2 ≤ cr.length ∧ y.1.es ++ ((cr.drop y.2).flatMap (ansAt q rs) ++ kidsAns q rs (kids.drop (k + 1))).map ansCells = v.es ++ (kidsAns q rs kids).map ansCells) (fun y => [(44, .int .i64 (y.2 : Int))]) (fun y => (p3, blk [y.1.val] 29) :: y.1.own) (fun y => cr.length - y.2) ((x1.1, 0)) (⟨hx1.1, Nat.zero_le _, by dsimp only; rw [← hk.2.2, kA hkd, if_pos (by simpa using h1), hx1.2]; simp only [List.map_append, List.append_assoc, List.drop_zero]⟩) .z ?_
      rintro ⟨vj, j⟩ hj
      dsimp only at hj
      refine c_seq ?_
      refine c_text ?_
      refine l_y (Cls.gs _ _) (y_lss rfl rfl) rfl ?_
      refine l_nil ?_
      refine e_then ?_
      refine c_seq ?_
      refine c_cond rfl (fun h2 => ?_) (fun h2 => ?_)
      · have hlt' : j < cr.length := by have := of_decide_eq_true h2; dsimp only at this; omega
        obtain ⟨i, hji⟩ : ∃ i, cr[j]? = some i := ⟨_, List.getElem?_eq_getElem hlt'⟩
        have hil := hrr i (List.mem_of_getElem? hji)
        obtain ⟨r, hir⟩ : ∃ r, rs[i]? = some r := ⟨_, List.getElem?_eq_getElem hil⟩
        obtain ⟨rb, ro, hra, hre'⟩ := hre j (idx i) (by rw [List.getElem?_map, hji]; rfl)
        have hraX := hrX _ hra (by intro e; rw [e] at hlt'; simp at hlt')
        have hre' := hre' 0 _ rfl
        refine c_skip ?_
        refine e_then ?_
        refine CJ.weak (.c (t := 1) rfl (.c (t := 2) rfl (.c (t := 7) rfl (.c (t := 14) rfl (.c (t := 15) rfl (.c (t := 16) rfl (.c (t := 42) rfl (.c (t := 43) rfl (.c (t := 44) rfl .n))))))))) (fun _ h => h) ?_
        refine c_seq ?_
        refine c_block ?_
        refine c_seq ?_
        refine c_text ?_
        refine l_y (Cls.gs _ _) (y_indexAddrF Tryz.underlying50 ty3 rfl rfl hra (by dsimp only; omega) (by dsimp only; omega)) rfl ?_
        refine l_y (Cls.gs _ _) (y_load rfl (LoadAt.oneFX .z hraX ty3 hre')) rfl ?_
        refine l_y (Cls.gs _ _) (y_assign rfl) rfl ?_
        refine l_nil ?_
        refine e_then ?_
        refine CJ.weak (.c (t := 1) rfl (.c (t := 2) rfl (.c (t := 7) rfl (.c (t := 11) rfl (.c (t := 14) rfl (.c (t := 15) rfl (.c (t := 16) rfl (.c (t := 42) rfl (.c (t := 43) rfl (.c (t := 44) rfl .n)))))))))) (fun _ h => h) ?_
        refine c_text ?_
        refine l_y (Cls.gs _ _) (y_move rfl) rfl ?_
        refine l_y (Cls.gs _ _) (y_move rfl) rfl ?_
        refine l_n rfl (n_callTL ent24 rfl .z (.c rfl .n) (fun w' hw' => add24c hH.ctx hw' .z hj.1 (by have := congrArg List.length hj.2.2; simp only [List.length_append, List.length_map] at this; show vj.es.length < 1000000; omega) hir) rfl) (fun x2 hx2 => ?_)
        refine l_nil ?_
        refine e_block ?_
        refine e_then ?_
        refine CJ.weak (.c (t := 1) rfl (.c (t := 2) rfl (.c (t := 7) rfl (.c (t := 14) rfl (.c (t := 15) rfl (.c (t := 16) rfl (.c (t := 42) rfl (.c (t := 43) rfl (.c (t := 44) rfl .n))))))))) (fun _ h => h) ?_
        refine c_text ?_
        refine l_y (Cls.gs _ _) ((y_add rfl rfl).lit (succ64 (by dsimp only; omega))) rfl ?_
        refine l_y (Cls.gs _ _) (y_move rfl) rfl ?_
        refine l_nil ?_
        refine e_again ((x2, j + 1)) (⟨hx2.1, by dsimp only; omega, by dsimp only; rw [← hj.2.2, rA hji hir, hx2.2]; simp only [List.map_append, List.append_assoc]⟩) (by dsimp only; omega) (.c (t := 44) rfl (.c (t := 1) rfl (.c (t := 2) rfl (.c (t := 7) rfl (.c (t := 14) rfl (.c (t := 15) rfl (.c (t := 16) rfl (.c (t := 42) rfl (.c (t := 43) rfl .n))))))))) (fun _ h => h.thin .r)
      ·
        refine c_exit ?_
        refine e_then_exit ?_
        refine e_then_exit ?_
        refine e_block_hit ?_
        refine e_block ?_
        refine e_then ?_
        refine CJ.weak (.c (t := 1) rfl (.c (t := 2) rfl (.c (t := 7) rfl (.c (t := 14) rfl (.c (t := 15) rfl (.c (t := 16) rfl .n)))))) (fun _ h => h) ?_
        refine c_text ?_
        refine l_y (Cls.gs _ _) ((y_add rfl rfl).lit (succ64 (by dsimp only; omega))) rfl ?_
        refine l_y (Cls.gs _ _) (y_move rfl) rfl ?_
        refine l_nil ?_
        refine e_again ((vj, _, k + 1)) (⟨hj.1, by dsimp only; omega, by dsimp only; rw [← hj.2.2, show cr.drop j = [] from List.drop_of_length_le (by have := of_decide_eq_false h2; dsimp only at this; omega)]; rfl⟩) (by dsimp only; omega) (.c (t := 7) rfl (.c (t := 16) rfl (.c (t := 1) rfl (.c (t := 2) rfl (.c (t := 14) rfl (.c (t := 15) rfl .n)))))) (fun _ h => h.thin .r)
  ·
    refine c_exit ?_
    refine e_then_exit ?_
    refine e_then_exit ?_
    refine e_block_hit ?_
    refine e_then ?_
    refine CJ.weak (.c (t := 7) rfl .n) (fun _ h => h) ?_
    refine c_seq ?_
    refine c_text ?_
    refine l_y (Cls.gs _ _) (y_move rfl) rfl ?_
    refine l_y (Cls.gs _ _) (y_assign rfl) rfl ?_
    refine l_nil ?_
    refine e_then ?_
    refine CJ.weak (.c (t := 6) rfl .n) (fun _ h => h) ?_
    refine c_ret ?_
    refine e_ret rfl (.t rfl .n) (fun wF hw => ?_)
    have T := Cls.turnedL (r := (p3, blk [v.val] 29) :: v.own) (r' := (p3, blk [v0.val] 29) :: v0.own) hw .z .z
    exact ⟨(v0, _), rfl, T.1, T.2.1, T.2.2, hk.1, by rw [← hk.2.2, show kids.drop k = [] from List.drop_of_length_le (by have := of_decide_eq_false h0; dsimp only at this; omega)]; simp [kidsAns]⟩

theorem walk25 (rs : List Row) (q : Sg.Ask) (p1 p2 p3 ib : Nat) : ∀ N, WalkP rs q p1 p2 p3 ib N
  | 0 => fun kids v la lc w hs => absurd hs (Nat.not_lt_zero _)
  | N + 1 => fun kids v la lc w hs hH hV hvl hown hnd => walk25_step rs q p1 p2 p3 ib N (walk25 rs q p1 p2 p3 ib N) kids v la lc w hs hH hV hvl hown hnd

end Go.Proofs.YtdpdahpkdimopaaGreat
