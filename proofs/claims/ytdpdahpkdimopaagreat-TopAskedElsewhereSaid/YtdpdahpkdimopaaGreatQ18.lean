/-
  A part of the proof of TopAskedElsewhere: walks of single functions.
-/
import Derived.Test.YtdpdahpkdimopaaGreatQf
import Derived.Test.YtdpdahpkdimopaaGreatB
import Derived.Test.YtdpdahpkdimopaaGreatQ8
import Derived.Test.YtdpdahpkdimopaaGreatQ11
import Derived.Test.YtdpdahpkdimopaaGreatQ14
import Derived.Test.YtdpdahpkdimopaaGreatQ16
import Derived.Test.YtdpdahpkdimopaaGreatQ17
import Derived.Test.YtdpdahpkdimopaaGreatQ21
import Derived.KernelRfl
set_option linter.unusedVariables false
set_option linter.unusedSimpArgs false
set_option maxRecDepth 100000
namespace Go.Proofs.YtdpdahpkdimopaaGreat
open Go Go.Px Sg
open Go.Px Sg
theorem entry3 {A : List (World × List Nat)} {w : World} {B x y : Px.Loc} {n k q : List Px.Loc} (h : Cls A (B :: x :: y :: (k ++ (n ++ q))) w) : Cls A (x :: y :: ([] ++ (n ++ (k ++ q)))) w := by
  have h := h.thin (.d .r)
  refine h.perm (List.Perm.cons _ (List.Perm.cons _ ?_))
  rw [List.nil_append, ← List.append_assoc, ← List.append_assoc]
  exact List.Perm.append_right _ List.perm_append_comm
theorem new9 (ms : List MRow) (ra : Option Addr) (rc : Nat) (level : Int) (hz : rowsErr (rowsOf ms) = 0) (hl : 0 ≤ level ∧ level ≤ 12) (w : World) (hR : RowsAt w ra ms) (hF : ∀ m ∈ ms, m.row.frames.length ≤ 1000000) : TurnsL Tryz.prog 9 [.slice ra ms.length rc, .int .i64 level] w [] (fun x : Nat × Vec × Vec × Vec × List Nat × List Nd => .tuple #[ptrV x.1, .int .i64 0]) (fun x => idxOwn x.1 level x.2.1 x.2.2.1 x.2.2.2.1 x.2.2.2.2.2) (fun x => IdxOK (rowsOf ms) x.2.1 x.2.2.1 x.2.2.2.1 x.2.2.2.2.1 x.2.2.2.2.2) := by
  have hsm : ms.length ≤ 200 := by have := rowsErr_len (l := rowsOf ms) (by rw [hz]; rfl); simpa [rowsOf] using this
  have hrl : (rowsOf ms).length = ms.length := by simp [rowsOf]
  refine enter Tryz.func9 rfl rfl rfl rfl (Cls.start w) ?_
  refine c_seq ?_
  refine c_text ?_
  refine l_y (Cls.gs _ _) (y_assign rfl) rfl ?_
  refine l_y (Cls.gs _ _) (y_assign rfl) rfl ?_
  refine l_nil ?_
  refine e_then ?_
  refine CJ.weak (.c (t := 0) rfl (.c (t := 1) rfl .n)) (fun _ h => h) ?_
  refine c_seq ?_
  refine c_seq ?_
  refine c_text ?_
  refine l_y (Cls.gs _ _) (y_move rfl) rfl ?_
  refine l_y (Cls.gs _ _) (y_call ent16 (.c rfl .n) (fun w' hw' => check16 ms ra rc w' (hR.gr (hw'.gr .z)))) rfl ?_
  refine l_y (Cls.gs _ _) (y_assign rfl) rfl ?_
  refine l_nil ?_
  refine e_then ?_
  refine CJ.weak (.c (t := 0) rfl (.c (t := 1) rfl (.c (t := 6) rfl .n))) (fun _ h => h) ?_
  refine c_seq ?_
  refine c_text ?_
  refine l_y (Cls.gs _ _) (y_move rfl) rfl ?_
  refine l_y (Cls.gs _ _) (y_neq rfl rfl) rfl ?_
  refine l_nil ?_
  refine e_then ?_
  refine CJ.weak (.c (t := 0) rfl (.c (t := 1) rfl (.c (t := 6) rfl (.c (t := 26) rfl .n)))) (fun _ h => h) ?_
  refine c_cond rfl (fun h0 => ?_) (fun h0 => ?_)
  · rw [hz] at h0; simp at h0
  ·
    refine c_skip ?_
    refine e_then ?_
    refine CJ.weak (.c (t := 0) rfl (.c (t := 1) rfl .n)) (fun _ h => h) ?_
    refine c_seq ?_
    refine c_seq ?_
    refine c_text ?_
    refine l_y (Cls.gs _ _) (y_move rfl) rfl ?_
    refine l_y (Cls.gs _ _) (y_lss rfl rfl) rfl ?_
    refine l_y (Cls.gs _ _) (y_move rfl) rfl ?_
    refine l_g (s := 30) (Cls.gs _ _) (by kernel_rfl) rfl (beq_f _) (fun hg => y_move rfl) rfl ?_
    refine l_g (s := 30) (Cls.gs _ _) (by kernel_rfl) rfl (beq_f _) (fun hg => y_gtr (gvt hg rfl) rfl) rfl ?_
    refine l_y (Cls.gs _ _) (y_or rfl rfl rfl) rfl ?_
    refine l_nil ?_
    refine e_then ?_
    refine CJ.weak (.c (t := 0) rfl (.c (t := 1) rfl (.c (t := 33) rfl .n))) (fun _ h => h) ?_
    refine c_cond rfl (fun h1 => ?_) (fun h1 => ?_)
    · simp only [Bool.or_eq_true, decide_eq_true_eq] at h1; omega
    ·
      refine c_skip ?_
      refine e_then ?_
      refine CJ.weak (.c (t := 0) rfl (.c (t := 1) rfl .n)) (fun _ h => h) ?_
      refine c_seq ?_
      refine c_text ?_
      refine l_y (Cls.gs _ _) (y_move rfl) rfl ?_
      refine l_n rfl (n_callV ent19 .z (.c rfl .n) (fun w' hw' => copy19 ms ra rc (by omega) w' (hR.gr (hw'.gr .z)) hF) rfl) (fun x1 hx1 => ?_)
      refine l_y (Cls.gs _ _) (y_move rfl) rfl ?_
      refine l_y (Cls.gs _ _) (y_build pl80 ty80 .a (.c rfl (.c rfl .n)) (.c rfl (.o hx1.1.sc) rfl rfl (.t .d) (.c rfl (.o rfl) rfl rfl (.s (.t .d)) .d))) rfl ?_
      refine l_n rfl (n_box rfl .a rfl) (fun b0 _ => ?_)
      refine l_y (Cls.gs _ _) (y_assign rfl) rfl ?_
      refine l_nil ?_
      refine e_then ?_
      refine CJ.weak (.c (t := 1) rfl (.c (t := 7) rfl .n)) (fun _ h => h) ?_
      refine c_seq ?_
      refine c_text ?_
      refine l_n rfl (n_makeMap rfl) (fun b1 _ => ?_)
      refine l_y (Cls.gs _ _) (y_assign rfl) rfl ?_
      refine l_nil ?_
      refine e_then ?_
      refine CJ.weak (.c (t := 1) rfl (.c (t := 7) rfl (.c (t := 8) rfl .n))) (fun _ h => h) ?_
      refine c_seq ?_
      refine c_seq ?_
      refine c_text ?_
      refine l_y (Cls.gs _ _) (y_move rfl) rfl ?_
      refine l_y (Cls.gs _ _) (y_nilCheck rfl) rfl ?_
      refine l_y (Cls.gs _ _) (y_fieldAddr rfl fa80_0) rfl ?_
      refine l_y (Cls.gs _ _) (y_load rfl (LoadAt.oneL (.s .z) ty22 .z)) rfl ?_
      refine l_y (Cls.gs _ _) (y_lenV Tryz.underlying22 hx1.1 rfl rfl) rfl ?_
      refine l_y (Cls.gs _ _) (y_move rfl) rfl ?_
      refine l_nil ?_
      refine e_then ?_
      refine CJ.weak (.c (t := 1) rfl (.c (t := 7) rfl (.c (t := 8) rfl (.c (t := 43) rfl (.c (t := 44) rfl (.c (t := 45) rfl .n)))))) (fun _ h => h) ?_
      refine c_block ?_
      refine CJ.weak (.c (t := 45) rfl (.c (t := 1) rfl (.c (t := 7) rfl (.c (t := 8) rfl (.c (t := 43) rfl (.c (t := 44) rfl .n)))))) (fun _ h => h) ?_
      refine c_loopV (fun x : Vec × List Nat × List Nod × Nat => VecOK 1 3 x.1 ∧ x.1.es = x.2.1.map idx ∧ Inv1 (rowsOf ms) x.2.1 x.2.2.1 x.2.2.2 ∧ x.2.2.2 ≤ ms.length) (fun x => [(45, .int .i64 (x.2.2.2 : Int))]) (fun x => (b1, mObj (kvsOf x.2.2.1)) :: (b0, blk [x1.val, .int .i64 level, .slice none 0 0, x.1.val] 80) :: (nodsOwn x.2.2.1 ++ (x.1.own ++ x1.own))) (fun x => ms.length - x.2.2.2) ((Vec.nil, [], [], 0)) (⟨.nil, rfl, Inv1.start _, Nat.zero_le _⟩) .z ?_
      rintro ⟨lv, li, ns, k⟩ hk
      dsimp only at hk
      refine c_seq ?_
      refine c_text ?_
      refine l_y (Cls.gs _ _) (y_lss rfl rfl) rfl ?_
      refine l_nil ?_
      refine e_then ?_
      refine c_seq ?_
      refine c_cond rfl (fun h2 => ?_) (fun h2 => ?_)
      · have hxl : x1.es.length = ms.length := by rw [hx1.2.1]; simp [rowsOf]
        have hlt : k < ms.length := by have := of_decide_eq_true h2; dsimp only at this; omega
        obtain ⟨m, hm⟩ : ∃ m, ms[k]? = some m := ⟨_, List.getElem?_eq_getElem hlt⟩
        have hr : (rowsOf ms)[k]? = some m.row := by simp [rowsOf, hm]
        obtain ⟨fa, fn, fc, hke⟩ := hx1.2.2 k m.row hr
        refine c_skip ?_
        refine e_then ?_
        refine CJ.weak (.c (t := 1) rfl (.c (t := 7) rfl (.c (t := 8) rfl (.c (t := 43) rfl (.c (t := 44) rfl (.c (t := 45) rfl .n)))))) (fun _ h => h) ?_
        refine c_seq ?_
        refine c_block ?_
        refine c_seq ?_
        refine c_text ?_
        refine l_y (Cls.gs _ _) (y_move rfl) rfl ?_
        refine l_y (Cls.gs _ _) (y_idxVec Tryz.underlying22 ty52 hx1.1 rfl rfl rfl (by dsimp only; omega) (by dsimp only; omega)) rfl ?_
        refine l_y (Cls.gs _ _) (y_load rfl (LoadAt.aggV hx1.1 rfl (.c (.c (.k (.k .z)))) ty52 hke (.t (.t (.t (.t (.t (.t (.t (.t (.t (.t (.t (.t (.t (.t (.t (.t (.t (.t .d)))))))))))))))))) (by simp))) rfl ?_
        refine l_n rfl (n_alloc ty52 .a rfl) (fun b2 _ => ?_)
        refine l_y (Cls.gs _ _) (y_assign rfl) rfl ?_
        refine l_n rfl (n_store rfl rfl ty52 .a rfl rfl .z (.t (.t (.t (.t (.t (.t (.t (.t (.t (.t (.t (.t (.t (.t (.t (.t (.t (.t .d))))))))))))))))))) (fun _ _ => ?_)
        refine l_nil ?_
        refine e_then ?_
        refine CJ.weak (.c (t := 1) rfl (.c (t := 7) rfl (.c (t := 8) rfl (.c (t := 9) rfl (.c (t := 10) rfl (.c (t := 43) rfl (.c (t := 44) rfl (.c (t := 45) rfl .n)))))))) (fun _ h => h) ?_
        refine c_seq ?_
        refine c_text ?_
        refine l_y (Cls.gs _ _) (y_fieldAddr rfl fa52_1) rfl ?_
        refine l_y (Cls.gs _ _) (y_load rfl (LoadAt.aggL .z ty45 (.s (.t (.t (.t (.t (.t (.t (.t (.t (.t .d)))))))))))) rfl ?_
        refine l_n rfl (n_callW ent20 (.c rfl .n) (fun w' _ => middle20 m.row.box w') rfl) (fun p hp => ?_)
        refine l_y (Cls.gs _ _) (y_move rfl) rfl ?_
        refine l_y (Cls.gs _ _) (y_extract rfl .z) rfl ?_
        refine l_y (Cls.gs _ _) (y_extract rfl (.s .z)) rfl ?_
        refine l_n rfl (n_alloc ty36 .a rfl) (fun b3 _ => ?_)
        refine l_n rfl (n_store rfl rfl ty36 .a rfl rfl .z (.t (.t (.t .d)))) (fun _ _ => ?_)
        refine l_y (Cls.gs _ _) (y_assign rfl) rfl ?_
        refine l_nil ?_
        refine e_then ?_
        refine CJ.weak (.c (t := 1) rfl (.c (t := 7) rfl (.c (t := 8) rfl (.c (t := 9) rfl (.c (t := 10) rfl (.c (t := 11) rfl (.c (t := 12) rfl (.c (t := 43) rfl (.c (t := 44) rfl (.c (t := 45) rfl .n)))))))))) (fun _ h => h) ?_
        refine c_seq ?_
        refine c_seq ?_
        refine c_text ?_
        refine l_y (Cls.gs _ _) (y_move rfl) rfl ?_
        refine l_y (Cls.gs _ _) (y_not rfl) rfl ?_
        refine l_y (Cls.gs _ _) (y_move rfl) rfl ?_
        refine l_g (s := 58) (Cls.gs _ _) (by kernel_rfl) rfl (beq_f _) (fun hg => y_fieldAddr rfl fa52_3) rfl ?_
        refine l_g (s := 58) (Cls.gs _ _) (by kernel_rfl) rfl (beq_f _) (fun hg => y_fieldAddr (gvt hg rfl) fa49_2) rfl ?_
        refine l_g (s := 58) (Cls.gs _ _) (by kernel_rfl) rfl (beq_f _) (fun hg => y_load (gvt hg rfl) (LoadAt.oneL (.s .z) ty4 (.s (.s (.s (.s (.s (.s (.s (.s (.s (.s (.s (.s (.s (.s (.s .z))))))))))))))))) rfl ?_
        refine l_y (Cls.gs _ _) (y_or rfl rfl rfl) rfl ?_
        refine l_nil ?_
        refine e_then ?_
        refine CJ.weak (.c (t := 1) rfl (.c (t := 7) rfl (.c (t := 8) rfl (.c (t := 9) rfl (.c (t := 10) rfl (.c (t := 11) rfl (.c (t := 43) rfl (.c (t := 44) rfl (.c (t := 45) rfl (.c (t := 62) rfl .n)))))))))) (fun _ h => h) ?_
        refine c_cond rfl (fun h3 => ?_) (fun h3 => ?_)
        ·
          refine c_seq ?_
          refine c_text ?_
          refine l_y (Cls.gs _ _) (y_move rfl) rfl ?_
          refine l_y (Cls.gs _ _) (y_move rfl) rfl ?_
          refine l_y (Cls.gs _ _) (y_nilCheck rfl) rfl ?_
          refine l_y (Cls.gs _ _) (y_fieldAddr rfl fa80_3) rfl ?_
          refine l_y (Cls.gs _ _) (y_load rfl (LoadAt.oneL (.s (.s (.s .z))) ty50 (.s (.s (.s .z))))) rfl ?_
          refine l_y (Cls.gs _ _) (y_move rfl) rfl ?_
          refine l_n rfl (n_buildSlice (l := [.int .i64 0]) Tryz.underlying50 ty3 (.o rfl) rfl (by simp) (by kernel_rfl) (.c rfl .n) (.c rfl (.o rfl) rfl rfl (.t .d) .d) rfl) (fun b4 _ => ?_)
          refine l_n rfl (n_append1 (v := lv) 140000 Tryz.underlying50 ti3 hk.1 (.c (.c (.c (.c (.c (.k .h)))))) rfl rfl .z rfl rfl (by have e1 := congrArg List.length hk.2.1; have e2 := hk.2.2.1.len.1; rw [List.length_map] at e1; omega) rfl rfl) (fun lv1 hlv1 => ?_)
          refine l_y (Cls.gs _ _) (y_nilCheck rfl) rfl ?_
          refine l_y (Cls.gs _ _) (y_fieldAddr rfl fa80_3) rfl ?_
          refine l_n rfl (n_store rfl rfl ty50 (.o hlv1.1.sc) rfl hlv1.1.sc1 (.s (.s (.s (.s .z)))) (.s (.s (.s (.t .d))))) (fun _ _ => ?_)
          refine l_nil ?_
          refine e_then ?_
          refine CJ.weak (.c (t := 1) rfl (.c (t := 7) rfl (.c (t := 8) rfl (.c (t := 43) rfl (.c (t := 44) rfl (.c (t := 45) rfl .n)))))) (fun _ h => h) ?_
          refine c_exit ?_
          refine e_then_exit ?_
          refine e_block_hit ?_
          refine e_then ?_
          refine c_text ?_
          refine l_y (Cls.gs _ _) ((y_add rfl rfl).lit (succ64 (by dsimp only; omega))) rfl ?_
          refine l_y (Cls.gs _ _) (y_move rfl) rfl ?_
          refine l_nil ?_
          refine e_again ((lv1, li ++ [k], ns, k + 1)) (⟨hlv1.1, by dsimp only; rw [hlv1.2, hk.2.1]; simp, hk.2.2.1.loose, by dsimp only; omega⟩) (by dsimp only; omega) (.c (t := 45) rfl (.c (t := 1) rfl (.c (t := 7) rfl (.c (t := 8) rfl (.c (t := 43) rfl (.c (t := 44) rfl .n)))))) (fun _ h => h.thin (.d (.d (.d .r))))
        · obtain ⟨hpt, hpu⟩ : p.2.2.2 = true ∧ m.row.when_.u = false := by simpa using h3
          obtain ⟨hok, hvz⟩ := hp hpt
          refine c_skip ?_
          refine e_then ?_
          refine CJ.weak (.c (t := 1) rfl (.c (t := 7) rfl (.c (t := 8) rfl (.c (t := 9) rfl (.c (t := 10) rfl (.c (t := 11) rfl (.c (t := 43) rfl (.c (t := 44) rfl (.c (t := 45) rfl .n))))))))) (fun _ h => h) ?_
          refine c_seq ?_
          refine c_text ?_
          refine l_y (Cls.gs _ _) (y_load rfl (LoadAt.aggL .z ty36 (.t (.t (.t .d))))) rfl ?_
          refine l_y (Cls.gs _ _) (y_move rfl) rfl ?_
          refine l_n rfl (n_callW ent15 (.c rfl (.c rfl .n)) (fun w' _ => of15 p.1 p.2.1 p.2.2.1 level hvz hl w') rfl) (fun tq htq => ?_)
          refine l_y (Cls.gs _ _) (y_move rfl) rfl ?_
          refine l_y (Cls.gs _ _) (y_extract rfl .z) rfl ?_
          refine l_y (Cls.gs _ _) (y_extract rfl (.s .z)) rfl ?_
          refine l_y (Cls.gs _ _) (y_assign rfl) rfl ?_
          refine l_y (Cls.gs _ _) (y_assign rfl) rfl ?_
          refine l_nil ?_
          refine e_then ?_
          refine CJ.weak (.c (t := 1) rfl (.c (t := 7) rfl (.c (t := 8) rfl (.c (t := 9) rfl (.c (t := 10) rfl (.c (t := 13) rfl (.c (t := 43) rfl (.c (t := 44) rfl (.c (t := 45) rfl .n))))))))) (fun _ h => h) ?_
          refine c_seq ?_
          refine c_text ?_
          refine l_y (Cls.gs _ _) (y_move rfl) rfl ?_
          refine l_y (Cls.gs _ _) (y_move rfl) rfl ?_
          refine l_n rfl (n_lookup Tryz.underlying81 Tryz.underlying71 ty84 (.s (.s .z)) rfl rfl rfl) (fun o ho => ?_)
          refine l_y (Cls.gs _ _) (y_assign rfl) rfl ?_
          refine l_nil ?_
          refine e_then ?_
          refine CJ.weak (.c (t := 1) rfl (.c (t := 7) rfl (.c (t := 8) rfl (.c (t := 9) rfl (.c (t := 10) rfl (.c (t := 13) rfl (.c (t := 15) rfl (.c (t := 43) rfl (.c (t := 44) rfl (.c (t := 45) rfl .n)))))))))) (fun _ h => h) ?_
          refine c_seq ?_
          refine c_text ?_
          refine l_y (Cls.gs _ _) (y_move rfl) rfl ?_
          refine l_y (Cls.gs _ _) (y_neqPtrNil (by kernel_rfl) rfl rfl) rfl ?_
          refine l_nil ?_
          refine e_then ?_
          refine CJ.weak (.c (t := 1) rfl (.c (t := 7) rfl (.c (t := 8) rfl (.c (t := 9) rfl (.c (t := 10) rfl (.c (t := 13) rfl (.c (t := 15) rfl (.c (t := 43) rfl (.c (t := 44) rfl (.c (t := 45) rfl (.c (t := 83) rfl .n))))))))))) (fun _ h => h) ?_
          refine c_cond rfl (fun h4 => ?_) (fun h4 => ?_)
          · rcases ho with ⟨rfl, _⟩ | ⟨p', q1, q2, rfl, hsp, hpt'⟩
            · simp at h4
            obtain ⟨l1, n, l2, rfl, rfl⟩ := kvs_split hsp
            obtain ⟨hn1, hn2, hn3⟩ := hk.2.2.1.ok n (by simp)
            refine CJ.swap (.c (.c (.c (.c .z)))) (nods_take n l1 l2 _) ?_
            refine c_seq ?_
            refine c_text ?_
            refine l_y (Cls.gs _ _) (y_move rfl) rfl ?_
            refine l_y (Cls.gs _ _) (y_fieldAddr rfl fa52_1) rfl ?_
            refine l_y (Cls.gs _ _) (y_load rfl (LoadAt.aggL (.s .z) ty45 (.s (.t (.t (.t (.t (.t (.t (.t (.t (.t .d)))))))))))) rfl ?_
            refine l_y (Cls.gs _ _) (y_fieldAddr rfl fa52_3) rfl ?_
            refine l_y (Cls.gs _ _) (y_load rfl (LoadAt.aggL (.s .z) ty49 (.s (.s (.s (.s (.s (.s (.s (.s (.s (.s (.s (.s (.s (.t (.t (.t .d)))))))))))))))))) rfl ?_
            refine l_n rfl (n_callB ent21 (.c rfl (.c rfl (.c rfl .n))) (.s (.s (.s (.s .z)))) (fun w' hw' => join21 n.b n.box m.row.box n.wh m.row.when_ n.kv.val n.rv.val w' (hw'.locM (.s (.s (.s (.s .z)))))) rfl) (fun _ _ => ?_)
            refine l_nil ?_
            refine e_then ?_
            refine CJ.weak (.c (t := 1) rfl (.c (t := 7) rfl (.c (t := 8) rfl (.c (t := 9) rfl (.c (t := 15) rfl (.c (t := 43) rfl (.c (t := 44) rfl (.c (t := 45) rfl .n)))))))) (fun _ h => h) ?_
            refine c_text ?_
            refine l_y (Cls.gs _ _) (y_move rfl) rfl ?_
            refine l_y (Cls.gs _ _) (y_move rfl) rfl ?_
            refine l_y (Cls.gs _ _) (y_nilCheck rfl) rfl ?_
            refine l_y (Cls.gs _ _) (y_fieldAddr rfl fa87_3) rfl ?_
            refine l_y (Cls.gs _ _) (y_load rfl (LoadAt.oneL (.s (.s (.s (.s .z)))) ty50 (.s (.s (.s (.s (.s (.s (.s (.s (.s (.s (.s (.s (.s .z))))))))))))))) rfl ?_
            refine l_y (Cls.gs _ _) (y_move rfl) rfl ?_
            refine l_n rfl (n_buildSlice (l := [.int .i64 0]) Tryz.underlying50 ty3 (.o rfl) rfl (by simp) (by kernel_rfl) (.c rfl .n) (.c rfl (.o rfl) rfl rfl (.t .d) .d) rfl) (fun b5 _ => ?_)
            refine l_n rfl (n_append1 (v := n.rv) 140000 Tryz.underlying50 ti3 hn1.rv (.c (.c (.c (.c (.c (.c .h)))))) rfl rfl .z rfl rfl (by have e1 := congrArg List.length hn1.re; have e2 := hk.2.2.1.len.2 n (by simp); rw [List.length_map] at e1; omega) rfl rfl) (fun rv1 hrv1 => ?_)
            refine l_y (Cls.gs _ _) (y_nilCheck rfl) rfl ?_
            refine l_y (Cls.gs _ _) (y_fieldAddr rfl fa87_3) rfl ?_
            refine l_n rfl (n_store rfl rfl ty50 (.o hrv1.1.sc) rfl hrv1.1.sc1 (.s (.s (.s (.s (.s .z))))) (.s (.s (.s (.s (.s (.s (.s (.s (.s (.s (.s (.s (.s (.t .d))))))))))))))) (fun _ _ => ?_)
            refine l_nil ?_
            refine e_block ?_
            refine e_then ?_
            refine CJ.weak (.c (t := 1) rfl (.c (t := 7) rfl (.c (t := 8) rfl (.c (t := 43) rfl (.c (t := 44) rfl (.c (t := 45) rfl .n)))))) (fun _ h => h) ?_
            refine c_text ?_
            refine l_y (Cls.gs _ _) ((y_add rfl rfl).lit (succ64 (by dsimp only; omega))) rfl ?_
            refine l_y (Cls.gs _ _) (y_move rfl) rfl ?_
            refine l_nil ?_
            refine e_again ((lv, li, l1 ++ { n with box := hullX n.box m.row.box, wh := hullB n.wh m.row.when_, rv := rv1, rows := n.rows ++ [k] } :: l2, k + 1)) (⟨hk.1, hk.2.1, hk.2.2.1.upd rfl rfl ⟨hn1.kv, hn1.ke, hrv1.1, by dsimp only; rw [hrv1.2, hn1.re]; simp, hn1.t1, hn1.t2⟩ hn2 (hn3.add hr hok hpu), by dsimp only; omega⟩) (by dsimp only; omega) (.c (t := 45) rfl (.c (t := 1) rfl (.c (t := 7) rfl (.c (t := 8) rfl (.c (t := 43) rfl (.c (t := 44) rfl .n)))))) (fun _ h => put_node (n := n) (n' := { n with box := hullX n.box m.row.box, wh := hullB n.wh m.row.when_, rv := rv1, rows := n.rows ++ [k] }) rfl rfl (h.thin (.d (.d (.d .r)))))
          · rcases ho with ⟨rfl, hno⟩ | ⟨p', q1, q2, rfl, _, _⟩
            rotate_left
            · simp at h4
            refine c_text ?_
            refine l_y (Cls.gs _ _) (y_move rfl) rfl ?_
            refine l_y (Cls.gs _ _) (y_move rfl) rfl ?_
            refine l_y (Cls.gs _ _) (y_fieldAddr rfl fa52_1) rfl ?_
            refine l_y (Cls.gs _ _) (y_load rfl (LoadAt.aggL (.s .z) ty45 (.s (.t (.t (.t (.t (.t (.t (.t (.t (.t .d)))))))))))) rfl ?_
            refine l_y (Cls.gs _ _) (y_fieldAddr rfl fa52_3) rfl ?_
            refine l_y (Cls.gs _ _) (y_load rfl (LoadAt.aggL (.s .z) ty49 (.s (.s (.s (.s (.s (.s (.s (.s (.s (.s (.s (.s (.s (.t (.t (.t .d)))))))))))))))))) rfl ?_
            refine l_y (Cls.gs _ _) (y_move rfl) rfl ?_
            refine l_n rfl (n_buildSlice (l := [.int .i64 0]) Tryz.underlying50 ty3 (.o rfl) rfl (by simp) (by kernel_rfl) (.c rfl .n) (.c rfl (.o rfl) rfl rfl (.t .d) .d) rfl) (fun b6 _ => ?_)
            refine l_y (Cls.gs _ _) (y_build pl87 ty87 .a (.c rfl (.c rfl (.c rfl .n))) (.c rfl .a rfl rfl (.t (.t (.t (.t (.t (.t (.t (.t (.t .d))))))))) (.c rfl .a rfl rfl (.s (.s (.s (.s (.s (.s (.s (.s (.s (.t (.t (.t .d)))))))))))) (.c rfl (.o rfl) rfl rfl (.s (.s (.s (.s (.s (.s (.s (.s (.s (.s (.s (.s (.s (.t .d)))))))))))))) .d)))) rfl ?_
            refine l_n rfl (n_box rfl .a rfl) (fun b7 _ => ?_)
            refine l_n rfl (n_mapNew Tryz.underlying81 Tryz.underlying71 rfl rfl rfl (hno) (.s (.s (.s (.s .z))))) (fun _ _ => ?_)
            refine l_nil ?_
            refine e_block ?_
            refine e_then ?_
            refine CJ.weak (.c (t := 1) rfl (.c (t := 7) rfl (.c (t := 8) rfl (.c (t := 43) rfl (.c (t := 44) rfl (.c (t := 45) rfl .n)))))) (fun _ h => h) ?_
            refine c_text ?_
            refine l_y (Cls.gs _ _) ((y_add rfl rfl).lit (succ64 (by dsimp only; omega))) rfl ?_
            refine l_y (Cls.gs _ _) (y_move rfl) rfl ?_
            refine l_nil ?_
            refine e_again ((lv, li, ns ++ [(⟨tq, b7, m.row.box, m.row.when_, Vec.nil, ⟨.slice (some ⟨b6, 0, none⟩) 1 1, [idx k], [(b6, blk (([idx k] : List (List Value)).flatten ++ []) 3)]⟩, [], [k]⟩ : Nod)], k + 1)) (⟨hk.1, hk.2.1, hk.2.2.1.new hno rfl ⟨.nil, rfl, .row (m := 1) (b := b6) (cap := 1) (es := [idx k]) (rest := []) (by simp) (by simp) (by simp [maxLen]) (by simp), rfl, htq.1, htq.2⟩ rfl (HoldL.one hr hok hpu), by dsimp only; omega⟩) (by dsimp only; omega) (.c (t := 45) rfl (.c (t := 1) rfl (.c (t := 7) rfl (.c (t := 8) rfl (.c (t := 43) rfl (.c (t := 44) rfl .n)))))) (fun _ h => put_new (n := (⟨tq, b7, m.row.box, m.row.when_, Vec.nil, ⟨.slice (some ⟨b6, 0, none⟩) 1 1, [idx k], [(b6, blk (([idx k] : List (List Value)).flatten ++ []) 3)]⟩, [], [k]⟩ : Nod)) rfl rfl rfl (h.thin (.k (.k (.d (.d .r))))))
      · have hxl : x1.es.length = ms.length := by rw [hx1.2.1]; simp [rowsOf]
        have hkm : k = ms.length := by have := of_decide_eq_false h2; dsimp only at this; omega
        subst hkm
        have hbag0 : Bag (rowsOf ms) li ns := Bag.of (by rw [hrl]; exact hk.2.2.1) (by omega)
        refine c_exit ?_
        refine e_then_exit ?_
        refine e_then_exit ?_
        refine e_block_hit ?_
        refine e_then ?_
        refine CJ.weak (.c (t := 1) rfl (.c (t := 7) rfl (.c (t := 8) rfl .n))) (fun _ h => h) ?_
        refine c_seq ?_
        refine c_seq ?_
        refine c_text ?_
        refine l_y (Cls.gs _ _) (y_move rfl) rfl ?_
        refine l_y (Cls.gs _ _) (y_move rfl) rfl ?_
        refine l_nil ?_
        refine e_then ?_
        refine CJ.weak (.c (t := 7) rfl (.c (t := 8) rfl (.c (t := 111) rfl (.c (t := 112) rfl .n)))) (fun _ h => h) ?_
        refine c_block ?_
        refine CJ.weak (.c (t := 8) rfl (.c (t := 112) rfl (.c (t := 7) rfl (.c (t := 111) rfl .n)))) (fun _ h => h) ?_
        refine c_loopV (fun x : Nat × List Nod × Nat => Bag (rowsOf ms) li x.2.1 ∧ (x.2.1.map (·.t)).Nodup) (fun x => [(8, .map (some x.1)), (112, .int .i64 (x.2.2 : Int))]) (fun x => (x.1, mObj (kvsOf x.2.1)) :: (b0, blk [x1.val, .int .i64 level, .slice none 0 0, lv.val] 80) :: (nodsOwn x.2.1 ++ (lv.own ++ x1.own))) (fun x => level.toNat - x.2.2) ((b1, ns, 0)) (⟨hbag0, hk.2.2.1.nd⟩) .z ?_
        rintro ⟨mb, ns, mm⟩ hm
        dsimp only at hm
        refine c_seq ?_
        refine c_text ?_
        refine l_y (Cls.gs _ _) (y_lss rfl rfl) rfl ?_
        refine l_nil ?_
        refine e_then ?_
        refine c_seq ?_
        refine c_cond rfl (fun h5 => ?_) (fun h5 => ?_)
        ·
          refine c_skip ?_
          refine e_then ?_
          refine CJ.weak (.c (t := 7) rfl (.c (t := 8) rfl (.c (t := 111) rfl (.c (t := 112) rfl .n)))) (fun _ h => h) ?_
          refine c_seq ?_
          refine c_block ?_
          refine c_seq ?_
          refine c_text ?_
          refine l_n rfl (n_makeMap rfl) (fun b8 _ => ?_)
          refine l_y (Cls.gs _ _) (y_assign rfl) rfl ?_
          refine l_nil ?_
          refine e_then ?_
          refine CJ.weak (.c (t := 7) rfl (.c (t := 8) rfl (.c (t := 16) rfl (.c (t := 111) rfl (.c (t := 112) rfl .n))))) (fun _ h => h) ?_
          refine c_seq ?_
          refine c_seq ?_
          refine c_text ?_
          refine l_y (Cls.gs _ _) (y_move rfl) rfl ?_
          refine l_n rfl (n_keys ent23 rfl rfl) (fun b9 _ => ?_)
          refine l_n rfl (n_callV ent22 (.c (.c (.c (.c .e)))) (.c rfl .n) (fun w' hw' => sorted22 (kvs := kvsOf ns) (⟨by rw [kvs_keys]; exact hm.2, fun p hp => by obtain ⟨n, hn, rfl⟩ := List.mem_map.1 hp; exact hm.1.t n hn, by have := hm.1.le; simp only [kvsOf, List.length_map]; omega⟩) mb b9 w' (hw'.locM .z) (hw'.locM (.s (.s .z)))) rfl) (fun ks hks => ?_)
          refine l_y (Cls.gs _ _) (y_lenV Tryz.underlying88 hks.1 rfl rfl) rfl ?_
          refine l_y (Cls.gs _ _) (y_move rfl) rfl ?_
          refine l_nil ?_
          refine e_then ?_
          refine CJ.weak (.c (t := 7) rfl (.c (t := 8) rfl (.c (t := 16) rfl (.c (t := 111) rfl (.c (t := 112) rfl (.c (t := 117) rfl (.c (t := 118) rfl (.c (t := 119) rfl .n)))))))) (fun _ h => h) ?_
          refine c_block ?_
          have hkl : ks.1.es.length = ks.2.length := by rw [hks.2.1, List.length_map]
          have hkn : ks.2.length = ns.length := by rw [hks.2.2.length_eq]; simp [kvsOf]
          have hnl : ns.length ≤ ms.length := by have := hm.1.le; rwa [hrl] at this
          obtain ⟨rem0, hp0, hq0⟩ := reorder_of (ns := ns) (l := ks.2) (by have := hks.2.2; rwa [kvs_keys] at this)
          refine CJ.weak (.c (t := 119) rfl (.c (t := 7) rfl (.c (t := 8) rfl (.c (t := 16) rfl (.c (t := 111) rfl (.c (t := 112) rfl (.c (t := 117) rfl (.c (t := 118) rfl .n)))))))) (fun _ h => entry_cls h hp0) ?_
          refine c_loopV (fun x : List Nod × List Nod × Nat => Lev (rowsOf ms) li ns ks.2 x.1 x.2.1 x.2.2) (fun x => [(119, .int .i64 (x.2.2 : Int))]) (fun x => (b8, mObj (kvsOf x.1)) :: (mb, mObj (kvsOf ns)) :: (b0, blk [x1.val, .int .i64 level, .slice none 0 0, lv.val] 80) :: (nodsOwn x.1 ++ (nodsOwn x.2.1 ++ (ks.1.own ++ (lv.own ++ x1.own))))) (fun x => ks.2.length - x.2.2) (([], rem0, 0)) (Lev.start hm.1 hp0 hq0) .z ?_
          rintro ⟨us, rem, j⟩ hv
          dsimp only at hv
          refine c_seq ?_
          refine c_text ?_
          refine l_y (Cls.gs _ _) (y_lss rfl rfl) rfl ?_
          refine l_nil ?_
          refine e_then ?_
          refine c_seq ?_
          refine c_cond rfl (fun h6 => ?_) (fun h6 => ?_)
          · have hjl : j < ks.2.length := by have := of_decide_eq_true h6; dsimp only at this; omega
            obtain ⟨n, rem, rfl, hkj, hdr⟩ := drop_nod hv.keys hjl
            have hke : ks.1.es[j]? = some [.int .i64 n.t] := by rw [hks.2.1, List.getElem?_map, hkj]; rfl
            refine CJ.swap .z (take_front _ _ _ us rem n _) ?_
            refine c_skip ?_
            refine e_then ?_
            refine CJ.weak (.c (t := 7) rfl (.c (t := 8) rfl (.c (t := 16) rfl (.c (t := 111) rfl (.c (t := 112) rfl (.c (t := 117) rfl (.c (t := 118) rfl (.c (t := 119) rfl .n)))))))) (fun _ h => h) ?_
            refine c_seq ?_
            refine c_block ?_
            refine c_seq ?_
            refine c_text ?_
            refine l_y (Cls.gs _ _) (y_idxVec Tryz.underlying88 ty71 hks.1 rfl rfl rfl (by dsimp only; omega) (by dsimp only; omega)) rfl ?_
            refine l_y (Cls.gs _ _) (y_load rfl (LoadAt.oneV hks.1 rfl (.c (.c (.c (.c (.k (.k (.k .h))))))) ty71 hke .z (by simp))) rfl ?_
            refine l_y (Cls.gs _ _) (y_assign rfl) rfl ?_
            refine l_nil ?_
            refine e_then ?_
            refine CJ.weak (.c (t := 7) rfl (.c (t := 8) rfl (.c (t := 16) rfl (.c (t := 18) rfl (.c (t := 111) rfl (.c (t := 112) rfl (.c (t := 117) rfl (.c (t := 118) rfl (.c (t := 119) rfl .n))))))))) (fun _ h => h) ?_
            refine c_seq ?_
            refine c_text ?_
            refine l_y (Cls.gs _ _) (y_move rfl) rfl ?_
            refine l_y (Cls.gs _ _) (y_move rfl) rfl ?_
            refine l_n rfl (n_lookup Tryz.underlying81 Tryz.underlying71 ty84 (.s (.s .z)) rfl rfl rfl) (fun o1 ho1 => ?_)
            obtain rfl := lookup_key hm.2 (hv.sub n (by simp)) ho1
            refine l_y (Cls.gs _ _) (y_assign rfl) rfl ?_
            refine l_nil ?_
            refine e_then ?_
            refine CJ.weak (.c (t := 7) rfl (.c (t := 8) rfl (.c (t := 16) rfl (.c (t := 18) rfl (.c (t := 19) rfl (.c (t := 111) rfl (.c (t := 112) rfl (.c (t := 117) rfl (.c (t := 118) rfl (.c (t := 119) rfl .n)))))))))) (fun _ h => h) ?_
            refine c_seq ?_
            refine c_text ?_
            refine l_y (Cls.gs _ _) (y_move rfl) rfl ?_
            refine l_y (Cls.gs _ _) (y_move rfl) rfl ?_
            refine l_y (Cls.gs _ _) (y_quo rfl rfl (by decide)) rfl ?_
            refine l_n rfl (n_lookup Tryz.underlying81 Tryz.underlying71 ty84 (.s .z) rfl rfl rfl) (fun o2 ho2 => ?_)
            refine l_y (Cls.gs _ _) (y_assign rfl) rfl ?_
            refine l_nil ?_
            refine e_then ?_
            refine CJ.weak (.c (t := 7) rfl (.c (t := 8) rfl (.c (t := 16) rfl (.c (t := 18) rfl (.c (t := 19) rfl (.c (t := 20) rfl (.c (t := 111) rfl (.c (t := 112) rfl (.c (t := 117) rfl (.c (t := 118) rfl (.c (t := 119) rfl .n))))))))))) (fun _ h => h) ?_
            refine c_seq ?_
            refine c_text ?_
            refine l_y (Cls.gs _ _) (y_move rfl) rfl ?_
            refine l_y (Cls.gs _ _) (y_neqPtrNil (by kernel_rfl) rfl rfl) rfl ?_
            refine l_nil ?_
            refine e_then ?_
            refine CJ.weak (.c (t := 7) rfl (.c (t := 8) rfl (.c (t := 16) rfl (.c (t := 18) rfl (.c (t := 19) rfl (.c (t := 20) rfl (.c (t := 111) rfl (.c (t := 112) rfl (.c (t := 117) rfl (.c (t := 118) rfl (.c (t := 119) rfl (.c (t := 131) rfl .n)))))))))))) (fun _ h => h) ?_
            refine c_cond rfl (fun h7 => ?_) (fun h7 => ?_)
            · rcases ho2 with ⟨rfl, _⟩ | ⟨p', q1, q2, rfl, hsp, hpt'⟩
              · simp at h7
              obtain ⟨l1, u, l2, rfl, rfl⟩ := kvs_split hsp
              have hu := NdW.kv (hv.bag.w u (by simp))
              have hul := hv.kl u (by simp)
              refine CJ.swap (.c (.c (.c (.c .z)))) (nods_takeK u l1 l2 _) ?_
              refine c_seq ?_
              refine c_draw (m := 10) (S0 := fun _ => True) (fun i => Nat.beq i 9) (fun _ _ => trivial) hmix (Cls.gs _ _) rfl ?_
              refine a_y (i := 0) (Cls.gs _ _) (by kernel_rfl) rfl (by kernel_rfl) (by kernel_rfl) (y_move rfl) rfl ?_
              refine a_yM (i := 1) (Cls.gs _ _) (by kernel_rfl) rfl (by kernel_rfl) (by kernel_rfl) (y_move rfl) rfl ?_
              refine a_yM (i := 2) (Cls.gs _ _) (by kernel_rfl) rfl (by kernel_rfl) (by kernel_rfl) (y_nilCheck rfl) rfl ?_
              refine a_yM (i := 3) (Cls.gs _ _) (by kernel_rfl) rfl (by kernel_rfl) (by kernel_rfl) (y_fieldAddr rfl fa87_0) rfl ?_
              refine a_y (i := 4) (Cls.gs _ _) (by kernel_rfl) rfl (by kernel_rfl) (by kernel_rfl) (y_load rfl (LoadAt.aggL .z ty45 (.t (.t (.t (.t (.t (.t (.t (.t (.t .d))))))))))) rfl ?_
              refine a_yM (i := 5) (Cls.gs _ _) (by kernel_rfl) rfl (by kernel_rfl) (by kernel_rfl) (y_move rfl) rfl ?_
              refine a_yM (i := 6) (Cls.gs _ _) (by kernel_rfl) rfl (by kernel_rfl) (by kernel_rfl) (y_nilCheck rfl) rfl ?_
              refine a_yM (i := 7) (Cls.gs _ _) (by kernel_rfl) rfl (by kernel_rfl) (by kernel_rfl) (y_fieldAddr rfl fa87_1) rfl ?_
              refine a_y (i := 8) (Cls.gs _ _) (by kernel_rfl) rfl (by kernel_rfl) (by kernel_rfl) (y_load rfl (LoadAt.aggL .z ty49 (.s (.s (.s (.s (.s (.s (.s (.s (.s (.t (.t (.t .d)))))))))))))) rfl ?_
              refine a_n (i := 9) rfl rfl (by kernel_rfl) (fun _ => Cls.gs _ _) (.inl ⟨rfl, fun _ _ _ => trivial⟩) (n_callB ent21 (.c rfl (.c rfl (.c rfl .n))) (.s (.s (.s (.s .z)))) (fun w' hw' => join21 u.b u.box n.box u.wh n.wh u.kv.val u.rv.val w' (hw'.locM (.s (.s (.s (.s .z)))))) rfl) (fun _ _ => ?_)
              refine a_done (by kernel_rfl) ?_
              refine e_then ?_
              refine CJ.weak (.c (t := 7) rfl (.c (t := 8) rfl (.c (t := 16) rfl (.c (t := 19) rfl (.c (t := 20) rfl (.c (t := 111) rfl (.c (t := 112) rfl (.c (t := 117) rfl (.c (t := 118) rfl (.c (t := 119) rfl .n)))))))))) (fun _ h => h) ?_
              refine c_text ?_
              refine l_y (Cls.gs _ _) (y_move rfl) rfl ?_
              refine l_y (Cls.gs _ _) (y_move rfl) rfl ?_
              refine l_y (Cls.gs _ _) (y_nilCheck rfl) rfl ?_
              refine l_y (Cls.gs _ _) (y_fieldAddr rfl fa87_2) rfl ?_
              refine l_y (Cls.gs _ _) (y_load rfl (LoadAt.oneL (.s (.s (.s (.s .z)))) ty78 (.s (.s (.s (.s (.s (.s (.s (.s (.s (.s (.s (.s .z)))))))))))))) rfl ?_
              refine l_y (Cls.gs _ _) (y_move rfl) rfl ?_
              refine l_n rfl (n_buildSlice (l := [.pointer none]) Tryz.underlying78 ty84 (.o rfl) rfl (by simp) (by kernel_rfl) (.c rfl .n) (.c rfl (.o rfl) rfl rfl (.t .d) .d) rfl) (fun b10 _ => ?_)
              refine l_n rfl (n_append1 (v := u.kv) 140000 Tryz.underlying78 ti84 hu.1 (.c (.c (.c (.c (.c (.c .h)))))) rfl rfl .z rfl rfl (by have e1 := congrArg List.length hu.2; rw [List.length_map] at e1; omega) rfl rfl) (fun kv1 hkv1 => ?_)
              refine l_y (Cls.gs _ _) (y_nilCheck rfl) rfl ?_
              refine l_y (Cls.gs _ _) (y_fieldAddr rfl fa87_2) rfl ?_
              refine l_n rfl (n_store rfl rfl ty78 (.o hkv1.1.sc) rfl hkv1.1.sc1 (.s (.s (.s (.s (.s .z))))) (.s (.s (.s (.s (.s (.s (.s (.s (.s (.s (.s (.s (.t .d)))))))))))))) (fun _ _ => ?_)
              refine l_nil ?_
              refine e_block ?_
              refine e_then ?_
              refine CJ.weak (.c (t := 7) rfl (.c (t := 8) rfl (.c (t := 16) rfl (.c (t := 111) rfl (.c (t := 112) rfl (.c (t := 117) rfl (.c (t := 118) rfl (.c (t := 119) rfl .n)))))))) (fun _ h => h) ?_
              refine c_text ?_
              refine l_y (Cls.gs _ _) ((y_add rfl rfl).lit (succ64 (by dsimp only; omega))) rfl ?_
              refine l_y (Cls.gs _ _) (y_move rfl) rfl ?_
              refine l_nil ?_
              refine e_again ((l1 ++ { u with box := hullX u.box n.box, wh := hullB u.wh n.wh, kv := kv1, kids := u.kids ++ [n.nd] } :: l2, rem, j + 1)) (hv.into (by omega) hjl hdr hkv1.1 hkv1.2) (by dsimp only; omega) (.c (t := 119) rfl (.c (t := 7) rfl (.c (t := 8) rfl (.c (t := 16) rfl (.c (t := 111) rfl (.c (t := 112) rfl (.c (t := 117) rfl (.c (t := 118) rfl .n)))))))) (fun _ h => put_kid (u := u) (n := n) h)
            · rcases ho2 with ⟨rfl, hno⟩ | ⟨p', q1, q2, rfl, _, _⟩
              rotate_left
              · simp at h7
              refine c_draw (m := 16) (S0 := fun _ => True) (fun i => Nat.beq i 15) (fun _ _ => trivial) hmix (Cls.gs _ _) rfl ?_
              refine a_y (i := 0) (Cls.gs _ _) (by kernel_rfl) rfl (by kernel_rfl) (by kernel_rfl) (y_move rfl) rfl ?_
              refine a_y (i := 1) (Cls.gs _ _) (by kernel_rfl) rfl (by kernel_rfl) (by kernel_rfl) (y_move rfl) rfl ?_
              refine a_y (i := 2) (Cls.gs _ _) (by kernel_rfl) rfl (by kernel_rfl) (by kernel_rfl) (y_quo rfl rfl (by decide)) rfl ?_
              refine a_y (i := 3) (Cls.gs _ _) (by kernel_rfl) rfl (by kernel_rfl) (by kernel_rfl) (y_move rfl) rfl ?_
              refine a_y (i := 4) (Cls.gs _ _) (by kernel_rfl) rfl (by kernel_rfl) (by kernel_rfl) (y_nilCheck rfl) rfl ?_
              refine a_y (i := 5) (Cls.gs _ _) (by kernel_rfl) rfl (by kernel_rfl) (by kernel_rfl) (y_fieldAddr rfl fa87_0) rfl ?_
              refine a_y (i := 6) (Cls.gs _ _) (by kernel_rfl) rfl (by kernel_rfl) (by kernel_rfl) (y_load rfl (LoadAt.aggL .z ty45 (.t (.t (.t (.t (.t (.t (.t (.t (.t .d))))))))))) rfl ?_
              refine a_y (i := 7) (Cls.gs _ _) (by kernel_rfl) rfl (by kernel_rfl) (by kernel_rfl) (y_move rfl) rfl ?_
              refine a_y (i := 8) (Cls.gs _ _) (by kernel_rfl) rfl (by kernel_rfl) (by kernel_rfl) (y_nilCheck rfl) rfl ?_
              refine a_y (i := 9) (Cls.gs _ _) (by kernel_rfl) rfl (by kernel_rfl) (by kernel_rfl) (y_fieldAddr rfl fa87_1) rfl ?_
              refine a_y (i := 10) (Cls.gs _ _) (by kernel_rfl) rfl (by kernel_rfl) (by kernel_rfl) (y_load rfl (LoadAt.aggL .z ty49 (.s (.s (.s (.s (.s (.s (.s (.s (.s (.t (.t (.t .d)))))))))))))) rfl ?_
              refine a_y (i := 11) (Cls.gs _ _) (by kernel_rfl) rfl (by kernel_rfl) (by kernel_rfl) (y_move rfl) rfl ?_
              refine a_n (i := 12) rfl rfl (by kernel_rfl) (fun _ => Cls.gs _ _) (.inr fun _ _ h => h.tail) (n_buildSlice (l := [.pointer none]) Tryz.underlying78 ty84 (.o rfl) rfl (by simp) (by kernel_rfl) (.c rfl .n) (.c rfl (.o rfl) rfl rfl (.t .d) .d) rfl) (fun b11 _ => ?_)
              refine a_y (i := 13) (Cls.gs _ _) (by kernel_rfl) rfl (by kernel_rfl) (by kernel_rfl) (y_build pl87 ty87 .a (.c rfl (.c rfl (.c rfl .n))) (.c rfl .a rfl rfl (.t (.t (.t (.t (.t (.t (.t (.t (.t .d))))))))) (.c rfl .a rfl rfl (.s (.s (.s (.s (.s (.s (.s (.s (.s (.t (.t (.t .d)))))))))))) (.c rfl (.o rfl) rfl rfl (.s (.s (.s (.s (.s (.s (.s (.s (.s (.s (.s (.s (.t .d))))))))))))) .d)))) rfl ?_
              refine a_n (i := 14) rfl rfl (by kernel_rfl) (fun _ => Cls.gs _ _) (.inr fun _ _ h => h.tail) (n_box rfl .a rfl) (fun b12 _ => ?_)
              refine a_n (i := 15) rfl rfl (by kernel_rfl) (fun _ => Cls.gs _ _) (.inl ⟨rfl, fun _ _ _ => trivial⟩) (n_mapNew Tryz.underlying81 Tryz.underlying71 rfl rfl rfl (hno) (.s (.s (.s .z)))) (fun _ _ => ?_)
              refine a_done (by kernel_rfl) ?_
              refine e_block ?_
              refine e_then ?_
              refine CJ.weak (.c (t := 7) rfl (.c (t := 8) rfl (.c (t := 16) rfl (.c (t := 111) rfl (.c (t := 112) rfl (.c (t := 117) rfl (.c (t := 118) rfl (.c (t := 119) rfl .n)))))))) (fun _ h => h) ?_
              refine c_text ?_
              refine l_y (Cls.gs _ _) ((y_add rfl rfl).lit (succ64 (by dsimp only; omega))) rfl ?_
              refine l_y (Cls.gs _ _) (y_move rfl) rfl ?_
              refine l_nil ?_
              refine e_again ((us ++ [(⟨(IntKind.i64.wrap (n.t.tdiv 4)), b12, n.box, n.wh, ⟨.slice (some ⟨b11, 0, none⟩) 1 1, [[ptrV n.b]], [(b11, blk ([[ptrV n.b]].flatten ++ []) 84)]⟩, Vec.nil, [n.nd], []⟩ : Nod)], rem, j + 1)) (hv.first hjl hdr (.row (m := 1) (b := b11) (cap := 1) (es := [[ptrV n.b]]) (rest := []) (by simp) (by simp) (by simp [maxLen]) (by simp)) rfl (wrap_in _) hno) (by dsimp only; omega) (.c (t := 119) rfl (.c (t := 7) rfl (.c (t := 8) rfl (.c (t := 16) rfl (.c (t := 111) rfl (.c (t := 112) rfl (.c (t := 117) rfl (.c (t := 118) rfl .n)))))))) (fun _ h => put_first (n := n) h)
          ·
            refine c_exit ?_
            refine e_then_exit ?_
            refine e_then_exit ?_
            refine e_block_hit ?_
            refine e_then ?_
            refine CJ.weak (.c (t := 7) rfl (.c (t := 16) rfl (.c (t := 111) rfl (.c (t := 112) rfl .n)))) (fun _ h => h) ?_
            refine c_text ?_
            refine l_y (Cls.gs _ _) (y_move rfl) rfl ?_
            refine l_y (Cls.gs _ _) (y_assign rfl) rfl ?_
            refine l_nil ?_
            refine e_block ?_
            refine e_then ?_
            refine CJ.weak (.c (t := 7) rfl (.c (t := 8) rfl (.c (t := 111) rfl (.c (t := 112) rfl .n)))) (fun _ h => h) ?_
            refine c_text ?_
            refine l_y (Cls.gs _ _) ((y_add rfl rfl).lit (succ64 (by have := of_decide_eq_true h5; dsimp only at this ⊢; omega))) rfl ?_
            refine l_y (Cls.gs _ _) (y_move rfl) rfl ?_
            refine l_nil ?_
            refine e_again ((b8, us, mm + 1)) (⟨(hv.done (by have := of_decide_eq_false h6; dsimp only at this; omega)).2, hv.nd⟩) (by have := of_decide_eq_true h5; dsimp only at this ⊢; omega) (.c (t := 8) rfl (.c (t := 112) rfl (.c (t := 7) rfl (.c (t := 111) rfl .n)))) (fun _ h => h.thin (.k (.d (.k (.ka (.a (.a .r)))))))
        ·
          refine c_exit ?_
          refine e_then_exit ?_
          refine e_then_exit ?_
          refine e_block_hit ?_
          refine e_then ?_
          refine CJ.weak (.c (t := 7) rfl (.c (t := 8) rfl .n)) (fun _ h => h) ?_
          refine c_seq ?_
          refine c_seq ?_
          refine c_text ?_
          refine l_y (Cls.gs _ _) (y_move rfl) rfl ?_
          refine l_n rfl (n_keys ent23 rfl rfl) (fun b13 _ => ?_)
          refine l_n rfl (n_callV ent22 (.c (.c (.c .e))) (.c rfl .n) (fun w' hw' => sorted22 (kvs := kvsOf ns) (⟨by rw [kvs_keys]; exact hm.2, fun p hp => by obtain ⟨n, hn, rfl⟩ := List.mem_map.1 hp; exact hm.1.t n hn, by have := hm.1.le; simp only [kvsOf, List.length_map]; omega⟩) mb b13 w' (hw'.locM .z) (hw'.locM (.s .z))) rfl) (fun ks hks => ?_)
          refine l_y (Cls.gs _ _) (y_lenV Tryz.underlying88 hks.1 rfl rfl) rfl ?_
          refine l_y (Cls.gs _ _) (y_move rfl) rfl ?_
          refine l_nil ?_
          refine e_then ?_
          refine CJ.weak (.c (t := 7) rfl (.c (t := 8) rfl (.c (t := 172) rfl (.c (t := 173) rfl (.c (t := 174) rfl .n))))) (fun _ h => h) ?_
          refine c_block ?_
          have hkl : ks.1.es.length = ks.2.length := by rw [hks.2.1, List.length_map]
          have hkn : ks.2.length = ns.length := by rw [hks.2.2.length_eq]; simp [kvsOf]
          have hnl : ns.length ≤ ms.length := by have := hm.1.le; rwa [hrl] at this
          obtain ⟨rem0, hp0, hq0⟩ := reorder_of (ns := ns) (l := ks.2) (by have := hks.2.2; rwa [kvs_keys] at this)
          have hrl0 : rem0.length = ks.2.length := by rw [← hq0, List.length_map]
          refine CJ.weak (.c (t := 174) rfl (.c (t := 7) rfl (.c (t := 8) rfl (.c (t := 172) rfl (.c (t := 173) rfl .n))))) (fun _ h => entry3 h) ?_
          refine c_loopV (fun x : Vec × Nat => VecOK 1 84 x.1 ∧ x.2 ≤ rem0.length ∧ x.1.es ++ (rem0.drop x.2).map (fun n => [ptrV n.b]) = rem0.map (fun n => [ptrV n.b])) (fun x => [(174, .int .i64 (x.2 : Int))]) (fun x => (mb, mObj (kvsOf ns)) :: (b0, blk [x1.val, .int .i64 level, x.1.val, lv.val] 80) :: (x.1.own ++ (nodsOwn ns ++ (ks.1.own ++ (lv.own ++ x1.own))))) (fun x => rem0.length - x.2) ((Vec.nil, 0)) (⟨.nil, Nat.zero_le _, rfl⟩) .z ?_
          rintro ⟨rt, j⟩ hr3
          dsimp only at hr3
          refine c_seq ?_
          refine c_text ?_
          refine l_y (Cls.gs _ _) (y_lss rfl rfl) rfl ?_
          refine l_nil ?_
          refine e_then ?_
          refine c_seq ?_
          refine c_cond rfl (fun h8 => ?_) (fun h8 => ?_)
          · have hj3 : j < rem0.length := by have := of_decide_eq_true h8; dsimp only at this; omega
            obtain ⟨n, hnj⟩ : ∃ n, rem0[j] = n := ⟨_, rfl⟩
            have hnm : n ∈ ns := hp0.mem_iff.1 (by rw [← hnj]; exact List.getElem_mem _)
            have hke : ks.1.es[j]? = some [.int .i64 n.t] := by rw [hks.2.1, List.getElem?_map, ← hq0, List.getElem?_map, List.getElem?_eq_getElem hj3, hnj]; rfl
            refine c_skip ?_
            refine e_then ?_
            refine CJ.weak (.c (t := 7) rfl (.c (t := 8) rfl (.c (t := 172) rfl (.c (t := 173) rfl (.c (t := 174) rfl .n))))) (fun _ h => h) ?_
            refine c_seq ?_
            refine c_block ?_
            refine c_seq ?_
            refine c_text ?_
            refine l_y (Cls.gs _ _) (y_idxVec Tryz.underlying88 ty71 hks.1 rfl rfl rfl (by dsimp only; omega) (by dsimp only; omega)) rfl ?_
            refine l_y (Cls.gs _ _) (y_load rfl (LoadAt.oneV hks.1 rfl (.c (.c (.k (.k .h)))) ty71 hke .z (by simp))) rfl ?_
            refine l_y (Cls.gs _ _) (y_assign rfl) rfl ?_
            refine l_nil ?_
            refine e_then ?_
            refine CJ.weak (.c (t := 7) rfl (.c (t := 8) rfl (.c (t := 22) rfl (.c (t := 172) rfl (.c (t := 173) rfl (.c (t := 174) rfl .n)))))) (fun _ h => h) ?_
            refine c_draw (m := 13) (S0 := fun _ => True) (fun i => Nat.beq i 9 || Nat.beq i 12) (fun _ _ => trivial) hmix (Cls.gs _ _) rfl ?_
            refine a_yM (i := 0) (Cls.gs _ _) (by kernel_rfl) rfl (by kernel_rfl) (by kernel_rfl) (y_move rfl) rfl ?_
            refine a_yM (i := 1) (Cls.gs _ _) (by kernel_rfl) rfl (by kernel_rfl) (by kernel_rfl) (y_move rfl) rfl ?_
            refine a_yM (i := 2) (Cls.gs _ _) (by kernel_rfl) rfl (by kernel_rfl) (by kernel_rfl) (y_nilCheck rfl) rfl ?_
            refine a_yM (i := 3) (Cls.gs _ _) (by kernel_rfl) rfl (by kernel_rfl) (by kernel_rfl) (y_fieldAddr rfl fa80_2) rfl ?_
            refine a_y (i := 4) (Cls.gs _ _) (by kernel_rfl) rfl (by kernel_rfl) (by kernel_rfl) (y_load rfl (LoadAt.oneL (.s .z) ty78 (.s (.s .z)))) rfl ?_
            refine a_yM (i := 5) (Cls.gs _ _) (by kernel_rfl) rfl (by kernel_rfl) (by kernel_rfl) (y_move rfl) rfl ?_
            refine a_yM (i := 6) (Cls.gs _ _) (by kernel_rfl) rfl (by kernel_rfl) (by kernel_rfl) (y_move rfl) rfl ?_
            refine a_n (i := 7) rfl rfl (by kernel_rfl) (fun _ => Cls.gs _ _) (.inr fun _ _ h => h) (n_lookup Tryz.underlying81 Tryz.underlying71 ty84 .z rfl rfl rfl) (fun o1 ho1 => ?_)
            obtain rfl := lookup_key hm.2 hnm ho1
            refine a_n (i := 8) rfl rfl (by kernel_rfl) (fun _ => Cls.gs _ _) (.inr fun _ _ h => h.tail) (n_buildSlice (l := [.pointer none]) Tryz.underlying78 ty84 (.o rfl) rfl (by simp) (by kernel_rfl) (.c rfl .n) (.c rfl (.o rfl) rfl rfl (.t .d) .d) rfl) (fun b14 _ => ?_)
            refine a_n (i := 9) rfl rfl (by kernel_rfl) (fun _ => Cls.gs _ _) (.inl ⟨rfl, fun _ _ _ => trivial⟩) (n_append1 (v := rt) 140000 Tryz.underlying78 ti84 hr3.1 (.c (.c (.c .h))) rfl rfl .z rfl rfl (by have := congrArg List.length hr3.2.2; simp only [List.length_append, List.length_map] at this; have := hm.1.le; show rt.es.length < 1000000000; omega) rfl rfl) (fun rt1 hrt1 => ?_)
            refine a_yM (i := 10) (Cls.gs _ _) (by kernel_rfl) rfl (by kernel_rfl) (by kernel_rfl) (y_nilCheck rfl) rfl ?_
            refine a_y (i := 11) (Cls.gs _ _) (by kernel_rfl) rfl (by kernel_rfl) (by kernel_rfl) (y_fieldAddr rfl fa80_2) rfl ?_
            refine a_n (i := 12) rfl rfl (by kernel_rfl) (fun _ => Cls.gs _ _) (.inl ⟨rfl, fun _ _ _ => trivial⟩) (n_store rfl rfl ty78 (.o hrt1.1.sc) rfl hrt1.1.sc1 (.s (.s .z)) (.s (.s (.t .d)))) (fun _ _ => ?_)
            refine a_done (by kernel_rfl) ?_
            refine e_block ?_
            refine e_then ?_
            refine CJ.weak (.c (t := 7) rfl (.c (t := 8) rfl (.c (t := 172) rfl (.c (t := 173) rfl (.c (t := 174) rfl .n))))) (fun _ h => h) ?_
            refine c_text ?_
            refine l_y (Cls.gs _ _) ((y_add rfl rfl).lit (succ64 (by dsimp only; omega))) rfl ?_
            refine l_y (Cls.gs _ _) (y_move rfl) rfl ?_
            refine l_nil ?_
            refine e_again ((rt1, j + 1)) (⟨hrt1.1, by dsimp only; omega, by dsimp only; rw [← hr3.2.2, List.drop_eq_getElem_cons hj3, hnj, hrt1.2]; simp⟩) (by dsimp only; omega) (.c (t := 174) rfl (.c (t := 7) rfl (.c (t := 8) rfl (.c (t := 172) rfl (.c (t := 173) rfl .n))))) (fun _ h => h.thin (.d .r))
          ·
            refine c_exit ?_
            refine e_then_exit ?_
            refine e_then_exit ?_
            refine e_block_hit ?_
            refine e_then ?_
            refine CJ.weak (.c (t := 7) rfl .n) (fun _ h => h) ?_
            refine c_seq ?_
            refine c_text ?_
            refine l_y (Cls.gs _ _) (y_move rfl) rfl ?_
            refine l_y (Cls.gs _ _) (y_assign rfl) rfl ?_
            refine l_y (Cls.gs _ _) (y_assign rfl) rfl ?_
            refine l_nil ?_
            refine e_then ?_
            refine CJ.weak (.c (t := 4) rfl (.c (t := 5) rfl .n)) (fun _ h => h) ?_
            refine c_ret ?_
            refine e_ret rfl (.t rfl (.t rfl .n)) (fun wF hw => ?_)
            have hw := final_cls hw hp0
            have T := Cls.turnedL (r := []) (r' := idxOwn b0 level x1 rt lv (rem0.map Nod.nd)) hw .z .z
            exact ⟨(b0, x1, rt, lv, li, rem0.map Nod.nd), rfl, T.1, T.2.1, T.2.2, IdxOK.of hm.1 hp0 hx1.1 hx1.2 hr3.1 (by have := hr3.2.2; rw [show rem0.drop j = [] from List.drop_of_length_le (by have := of_decide_eq_false h8; dsimp only at this; omega)] at this; simpa using this) hk.1 hk.2.1⟩

end Go.Proofs.YtdpdahpkdimopaaGreat
