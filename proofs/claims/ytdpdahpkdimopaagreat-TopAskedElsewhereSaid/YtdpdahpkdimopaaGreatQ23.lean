/-
  A part of the proof of TopAskedElsewhere: walks of single functions.
-/
import Derived.Test.YtdpdahpkdimopaaGreatQf
import Derived.Test.YtdpdahpkdimopaaGreatB
import Derived.Test.YtdpdahpkdimopaaGreatQ7
import Derived.KernelRfl
set_option linter.unusedVariables false
set_option linter.unusedSimpArgs false
set_option maxRecDepth 100000
namespace Go.Proofs.YtdpdahpkdimopaaGreat
open Go Go.Px Sg
open Go.Px Sg
theorem add24 (rs : List Row) (es : List (List Value)) (q : Sg.Ask) (i : Nat) (r : Row) (v : Vec) (p1 p2 p3 ib : Nat) (xa ca : Option Addr) (xc cc : Nat) (lv rv lo : Value) (hql : q.cones.length < 9223372036854775808) (w : World) (hV : VecOK 2 60 v) (hvl : v.es.length < 1000000) (hown : ∀ p ∈ ((p3, blk [v.val] 29) :: v.own : List Px.Loc), w.heap[p.1]? = some p.2) (hnd : (((p3, blk [v.val] 29) :: v.own : List Px.Loc).map (·.1)).Nodup) (hx : ∀ b, b = p1 ∨ b = p2 ∨ b = ib ∨ (∃ a, xa = some a ∧ b = a.block) ∨ (∃ a, ca = some a ∧ q.cones ≠ [] ∧ b = a.block) → b ∉ ((p3, blk [v.val] 29) :: v.own : List Px.Loc).map (·.1)) (hp1 : w.heap[p1]? = some (blk [ptrV ib] 53)) (hib : w.heap[ib]? = some (blk [.slice xa es.length xc, lv, rv, lo] 80)) (hp2 : w.heap[p2]? = some (blk [.slice ca q.cones.length cc, .int .i64 q.from_, .int .i64 q.to_, .int .i64 q.least, .int .i64 q.ban] 27)) (hE : Elts w xa 18 es) (hl : Like es rs) (hI : Elts w ca 4 (q.cones.map Cone.cells)) (hr : rs[i]? = some r) : TurnsL Tryz.prog 24 [.int .i64 i, ptrV p1, ptrV p2, ptrV p3] w ((p3, blk [v.val] 29) :: v.own) (fun _ : Vec => .tuple #[]) (fun x => (p3, blk [x.val] 29) :: x.own) (fun x => VecOK 2 60 x ∧ x.es = v.es ++ ((ansOf q r).toList.map ansCells)) := by
  obtain ⟨fa, fn, fc, hke⟩ := hl.2 i r hr
  have hil : i < es.length := (List.getElem?_eq_some_iff.1 hke).1
  obtain ⟨b, o, ha, he⟩ := hE i _ hke
  replace he := elt_load he
  have hxb := hx b (.inr (.inr (.inr (.inl ⟨_, ha, rfl⟩))))
  refine enter Tryz.func24 rfl rfl rfl rfl (Cls.startL hown hnd) ?_
  refine c_seq ?_
  refine c_draw (m := 10) (S0 := fun _ => True) (fun _ => false) (fun _ _ => trivial) hmix (Cls.gs _ _) rfl ?_
  refine a_y (i := 0) (Cls.gs _ _) (by kernel_rfl) rfl (by kernel_rfl) (by kernel_rfl) (y_load rfl (LoadAt.oneBX .z (hx _ (.inl rfl)) hp1 ty53 .z)) rfl ?_
  refine a_y (i := 1) (Cls.gs _ _) (by kernel_rfl) rfl (by kernel_rfl) (by kernel_rfl) (y_nilCheck rfl) rfl ?_
  refine a_y (i := 2) (Cls.gs _ _) (by kernel_rfl) rfl (by kernel_rfl) (by kernel_rfl) (y_fieldAddr rfl fa80_0) rfl ?_
  refine a_y (i := 3) (Cls.gs _ _) (by kernel_rfl) rfl (by kernel_rfl) (by kernel_rfl) (y_load rfl (LoadAt.oneBX .z (hx _ (.inr (.inr (.inl rfl)))) hib ty22 .z)) rfl ?_
  refine a_y (i := 4) (Cls.gs _ _) (by kernel_rfl) rfl (by kernel_rfl) (by kernel_rfl) (y_move rfl) rfl ?_
  refine a_y (i := 5) (Cls.gs _ _) (by kernel_rfl) rfl (by kernel_rfl) (by kernel_rfl) (y_indexAddrF Tryz.underlying22 ty52 rfl rfl ha (by omega) (by omega)) rfl ?_
  refine a_y (i := 6) (Cls.gs _ _) (by kernel_rfl) rfl (by kernel_rfl) (by kernel_rfl) (y_load rfl (LoadAt.aggFX .z hxb ty52 rfl he)) rfl ?_
  refine a_y (i := 7) (Cls.gs _ _) (by kernel_rfl) rfl (by kernel_rfl) (by kernel_rfl) (y_load rfl (LoadAt.aggBX .z (hx _ (.inr (.inl rfl))) hp2 ty27 (.t (.t (.t (.t (.t .d))))))) rfl ?_
  refine a_y (i := 8) (Cls.gs _ _) (by kernel_rfl) rfl (by kernel_rfl) (by kernel_rfl) (y_call ent18 (.c rfl (.c rfl .n)) (fun w' hw' => grade18 r q fa fn fc ca cc hql w' (Elts.keeps hI (fun a ha' hn => hx _ (.inr (.inr (.inr (.inr ⟨a, ha', (fun e => hn (by rw [e]; rfl)), rfl⟩))))) (hw'.kp .z)))) rfl ?_
  refine a_y (i := 9) (Cls.gs _ _) (by kernel_rfl) rfl (by kernel_rfl) (by kernel_rfl) (y_assign rfl) rfl ?_
  refine a_done (by kernel_rfl) ?_
  refine e_then ?_
  refine CJ.weak (.c (t := 0) rfl (.c (t := 1) rfl (.c (t := 3) rfl (.c (t := 5) rfl .n)))) (fun _ h => h) ?_
  refine c_seq ?_
  refine c_text ?_
  refine l_y (Cls.gs _ _) (y_move rfl) rfl ?_
  refine l_y (Cls.gs _ _) (y_neq rfl rfl) rfl ?_
  refine l_nil ?_
  refine e_then ?_
  refine CJ.weak (.c (t := 0) rfl (.c (t := 1) rfl (.c (t := 3) rfl (.c (t := 5) rfl (.c (t := 16) rfl .n))))) (fun _ h => h) ?_
  refine c_cond rfl (fun h0 => ?_) (fun h0 => ?_)
  ·
    refine c_draw (m := 14) (fun i => Nat.beq i 12 || Nat.beq i 13) (fun _ h => h.thin (.d .n)) hmix (Cls.gs _ _) rfl ?_
    refine a_y (i := 0) (Cls.gs _ _) (by kernel_rfl) rfl (by kernel_rfl) (by kernel_rfl) (y_load rfl (LoadAt.oneL .z ty29 .z)) rfl ?_
    refine a_yM (i := 1) (Cls.gs _ _) (by kernel_rfl) rfl (by kernel_rfl) (by kernel_rfl) (y_load rfl (LoadAt.oneBX .z (hx _ (.inl rfl)) hp1 ty53 .z)) rfl ?_
    refine a_yM (i := 2) (Cls.gs _ _) (by kernel_rfl) rfl (by kernel_rfl) (by kernel_rfl) (y_nilCheck rfl) rfl ?_
    refine a_yM (i := 3) (Cls.gs _ _) (by kernel_rfl) rfl (by kernel_rfl) (by kernel_rfl) (y_fieldAddr rfl fa80_0) rfl ?_
    refine a_yM (i := 4) (Cls.gs _ _) (by kernel_rfl) rfl (by kernel_rfl) (by kernel_rfl) (y_load rfl (LoadAt.oneBX .z (hx _ (.inr (.inr (.inl rfl)))) hib ty22 .z)) rfl ?_
    refine a_yM (i := 5) (Cls.gs _ _) (by kernel_rfl) rfl (by kernel_rfl) (by kernel_rfl) (y_move rfl) rfl ?_
    refine a_yM (i := 6) (Cls.gs _ _) (by kernel_rfl) rfl (by kernel_rfl) (by kernel_rfl) (y_indexAddrF Tryz.underlying22 ty52 rfl rfl ha (by omega) (by omega)) rfl ?_
    refine a_yM (i := 7) (Cls.gs _ _) (by kernel_rfl) rfl (by kernel_rfl) (by kernel_rfl) (y_fieldAddr rfl fa52_0) rfl ?_
    refine a_yM (i := 8) (Cls.gs _ _) (by kernel_rfl) rfl (by kernel_rfl) (by kernel_rfl) (y_load rfl (LoadAt.oneFX .z hxb ty3 (he 0 _ rfl))) rfl ?_
    refine a_yM (i := 9) (Cls.gs _ _) (by kernel_rfl) rfl (by kernel_rfl) (by kernel_rfl) (y_move rfl) rfl ?_
    refine a_yM (i := 10) (Cls.gs _ _) (by kernel_rfl) rfl (by kernel_rfl) (by kernel_rfl) (y_build pl60 ty60 .a (.c rfl (.c rfl .n)) (.c rfl (.o rfl) rfl rfl (.t .d) (.c rfl (.o rfl) rfl rfl (.s (.t .d)) .d))) rfl ?_
    refine a_n (i := 11) rfl rfl (by kernel_rfl) (fun _ => Cls.gs _ _) (.inr fun _ _ h => h.tail) (n_buildSlice (l := [.int .i64 0, .int .i64 0]) Tryz.underlying29 ty60 .a rfl (by simp) (by kernel_rfl) (.c rfl .n) (.c rfl .a rfl rfl (.t (.t .d)) .d) rfl) (fun b0 _ => ?_)
    refine a_n (i := 12) rfl rfl (by kernel_rfl) (fun _ => Cls.gs _ _) (.inl ⟨rfl, fun _ _ h => h.subl (List.nil_sublist _)⟩) (n_append1 (v := v) 140000 Tryz.underlying29 ti60 hV (.c (.c .z)) rfl rfl .z rfl rfl (by omega) rfl rfl) (fun v1 hv1 => ?_)
    refine a_n (i := 13) rfl rfl (by kernel_rfl) (fun _ => Cls.gs _ _) (.inl ⟨rfl, fun _ _ h => h.subl (List.nil_sublist _)⟩) (n_store rfl rfl ty29 (.o hv1.1.sc) rfl hv1.1.sc1 (.s .z) (.t .d)) (fun _ _ => ?_)
    refine a_done (by kernel_rfl) ?_
    refine e_end rfl .n (fun wF hw => ?_)
    have T := Cls.turnedL (r := (p3, blk [v.val] 29) :: v.own) (r' := (p3, blk [v1.val] 29) :: v1.own) hw (.c .z) .z
    exact ⟨v1, rfl, T.1, T.2.1, T.2.2, hv1.1, by rw [hv1.2, ansOf, if_pos h0]; rfl⟩
  ·
    refine c_skip ?_
    refine e_end rfl .n (fun wF hw => ?_)
    have T := Cls.turnedL (r := (p3, blk [v.val] 29) :: v.own) (r' := (p3, blk [v.val] 29) :: v.own) hw .z .z
    exact ⟨v, rfl, T.1, T.2.1, T.2.2, hV, by rw [ansOf, if_neg (ne_true_of_eq_false h0)]; simp⟩

end Go.Proofs.YtdpdahpkdimopaaGreat
