/-
  A part of the proof of TopMailbox: walks of single functions, and plain facts.
-/
import Derived.Test.YtpjacndlbjeehaaGreatDoorPf
import Derived.Test.YtpjacndlbjeehaaGreatDoorW12a
import Derived.KernelRfl
set_option linter.unusedVariables false
set_option linter.unusedSimpArgs false
set_option maxRecDepth 100000
namespace Go.Proofs.YtpjacndlbjeehaaGreatDoor
open Go Go.Px Mb
theorem below14e (x n : Int) (hx : -9223372036854775808 ≤ x) (hx2 : x ≤ 9223372036854775807) (hn : 0 < n) (hn2 : n ≤ 9223372036854775807) (w : World) : Calls Tryz.prog 14 #[.int .i64 x, .int .i64 n] w fun e w' => e = .returned (.int .i64 (x % n)) ∧ Gr w w' := by
  have t1 := Int.tmod_lt_of_pos x hn
  have t2 := Int.lt_tmod_of_pos x hn
  refine enter Tryz.func14 rfl rfl rfl rfl (Cls.start w) ?_
  refine c_seq ?_
  refine c_text ?_
  refine l_y (Cls.gs _ _) (y_assign rfl) rfl ?_
  refine l_nil ?_
  refine e_then ?_
  refine CJ.weak (.c (t := 0) rfl (.c (t := 1) rfl .n)) (fun _ h => h) ?_
  refine c_seq ?_
  refine c_seq ?_
  refine c_text ?_
  refine l_y (Cls.gs _ _) (y_move rfl) rfl ?_
  refine l_y (Cls.gs _ _) (y_lss rfl rfl) rfl ?_
  refine l_nil ?_
  refine e_then ?_
  refine CJ.weak (.c (t := 0) rfl (.c (t := 1) rfl (.c (t := 6) rfl .n))) (fun _ h => h) ?_
  refine c_cond rfl (fun h0 => ?_) (fun h0 => ?_)
  · have := of_decide_eq_true h0; omega
  ·
    refine c_skip ?_
    refine e_then ?_
    refine CJ.weak (.c (t := 0) rfl (.c (t := 1) rfl .n)) (fun _ h => h) ?_
    refine c_seq ?_
    refine c_text ?_
    refine l_y (Cls.gs _ _) (y_move rfl) rfl ?_
    refine l_y (Cls.gs _ _) (y_move rfl) rfl ?_
    refine l_y (Cls.gs _ _) (y_rem rfl rfl (by omega)) rfl ?_
    refine l_y (Cls.gs _ _) (y_assign rfl) rfl ?_
    refine l_nil ?_
    refine e_then ?_
    refine CJ.weak (.c (t := 0) rfl (.c (t := 1) rfl .n)) (fun _ h => h) ?_
    refine c_seq ?_
    refine c_seq ?_
    refine c_text ?_
    refine l_y (Cls.gs _ _) (y_move rfl) rfl ?_
    refine l_y (Cls.gs _ _) (y_lss (m := x.tmod n) rfl rfl) rfl ?_
    refine l_nil ?_
    refine e_then ?_
    refine CJ.weak (.c (t := 0) rfl (.c (t := 1) rfl (.c (t := 11) rfl .n))) (fun _ h => h) ?_
    refine c_cond rfl (fun h1 => ?_) (fun h1 => ?_)
    ·
      refine c_text ?_
      refine l_y (Cls.gs _ _) (y_move rfl) rfl ?_
      refine l_y (Cls.gs _ _) (y_move rfl) rfl ?_
      refine l_y (Cls.gs _ _) (y_add64 (x.tmod n) n rfl rfl (by have := of_decide_eq_true h1; omega) (by have := of_decide_eq_true h1; omega)) rfl ?_
      refine l_y (Cls.gs _ _) (y_assign rfl) rfl ?_
      refine l_nil ?_
      refine e_then ?_
      refine CJ.weak (.c (t := 0) rfl .n) (fun _ h => h) ?_
      refine c_seq ?_
      refine c_text ?_
      refine l_y (Cls.gs _ _) (y_move rfl) rfl ?_
      refine l_y (Cls.gs _ _) (y_assign rfl) rfl ?_
      refine l_nil ?_
      refine e_then ?_
      refine CJ.weak (.c (t := 4) rfl .n) (fun _ h => h) ?_
      refine c_ret ?_
      refine e_ret rfl (.t rfl .n) (fun wF hw => ?_)
      have := of_decide_eq_true h1
      exact ⟨by rw [emod_of hn, if_pos this]; rfl, (hw.anc (w, []) (by simp)).below⟩
    ·
      refine c_skip ?_
      refine e_then ?_
      refine CJ.weak (.c (t := 0) rfl .n) (fun _ h => h) ?_
      refine c_seq ?_
      refine c_text ?_
      refine l_y (Cls.gs _ _) (y_move rfl) rfl ?_
      refine l_y (Cls.gs _ _) (y_assign rfl) rfl ?_
      refine l_nil ?_
      refine e_then ?_
      refine CJ.weak (.c (t := 4) rfl .n) (fun _ h => h) ?_
      refine c_ret ?_
      refine e_ret rfl (.t rfl .n) (fun wF hw => ?_)
      have := of_decide_eq_false h1
      exact ⟨by rw [emod_of hn, if_neg this]; rfl, (hw.anc (w, []) (by simp)).below⟩

theorem top3 (ls : List Al) (x : Int) (la : Option Addr) (lc : Nat) (hn : ls.length ≤ 1048576) (hx1 : -9223372036854775808 ≤ x) (hx2 : x ≤ 9223372036854775807) (w : World) (hI : Elts w la 16 (ls.map Al.cells)) (hE : Env0 w) : Calls Tryz.prog 3 #[.slice la ls.length lc, .int .i64 x] w fun e w' => e = .returned (.bool true) ∧ Gr w w' := by
  refine enter Tryz.func3 rfl rfl rfl rfl (Cls.start w) ?_
  refine c_seq ?_
  refine c_text ?_
  refine l_y (Cls.gs _ _) (y_assign rfl) rfl ?_
  refine l_nil ?_
  refine e_then ?_
  refine CJ.weak (.c (t := 0) rfl (.c (t := 1) rfl .n)) (fun _ h => h) ?_
  refine c_seq ?_
  refine c_text ?_
  refine l_n rfl (n_callTL ent4 rfl .z .n (fun w' _ => new4 w') rfl) (fun ia hia => ?_)
  refine l_n rfl (n_callTL ent4 rfl .e .n (fun w' _ => new4 w') rfl) (fun ic hic => ?_)
  refine l_y (Cls.gs _ _) (y_assign rfl) rfl ?_
  refine l_y (Cls.gs _ _) (y_assign rfl) rfl ?_
  refine l_nil ?_
  refine e_then ?_
  refine CJ.weak (.c (t := 0) rfl (.c (t := 1) rfl (.c (t := 5) rfl (.c (t := 6) rfl .n)))) (fun _ h => h) ?_
  refine c_seq ?_
  refine c_seq ?_
  refine c_text ?_
  refine l_y (Cls.gs _ _) (y_call ent5 .n (fun w _ => c5_0 w)) rfl ?_
  refine l_y (Cls.gs _ _) ((y_not rfl).lit (by kernel_rfl : _ = Value.bool false)) rfl ?_
  refine l_y (Cls.gs _ _) (y_move rfl) rfl ?_
  refine l_g (s := 27) (Cls.gs _ _) (by kernel_rfl) rfl (beq_f _) (fun hg => y_move rfl) rfl ?_
  refine l_g (s := 27) (Cls.gs _ _) (by kernel_rfl) rfl (beq_f _) (fun hg => (y_eqPtrNil (by kernel_rfl) (gvt hg rfl) rfl).lit (rfl)) rfl ?_
  refine l_y (Cls.gs _ _) ((y_or rfl rfl rfl).lit (by kernel_rfl : _ = Value.bool false)) rfl ?_
  refine l_y (Cls.gs _ _) (y_move rfl) rfl ?_
  refine l_g (s := 31) (Cls.gs _ _) (by kernel_rfl) rfl (beq_f _) (fun hg => y_move rfl) rfl ?_
  refine l_g (s := 31) (Cls.gs _ _) (by kernel_rfl) rfl (beq_f _) (fun hg => (y_eqPtrNil (by kernel_rfl) (gvt hg rfl) rfl).lit (rfl)) rfl ?_
  refine l_y (Cls.gs _ _) ((y_or rfl rfl rfl).lit (by kernel_rfl : _ = Value.bool false)) rfl ?_
  refine l_nil ?_
  refine e_then ?_
  refine CJ.weak (.c (t := 0) rfl (.c (t := 1) rfl (.c (t := 5) rfl (.c (t := 6) rfl (.c (t := 34) rfl .n))))) (fun _ h => h) ?_
  refine c_false (by kernel_rfl) ?_
  refine c_skip ?_
  refine e_then ?_
  refine CJ.weak (.c (t := 0) rfl (.c (t := 1) rfl (.c (t := 5) rfl (.c (t := 6) rfl .n)))) (fun _ h => h) ?_
  refine c_seq ?_
  refine c_text ?_
  refine l_y (Cls.gs _ _) (y_assign rfl) rfl ?_
  refine l_nil ?_
  refine e_then ?_
  refine c_seq ?_
  refine c_seq ?_
  refine c_text ?_
  refine l_y (Cls.gs _ _) (y_move rfl) rfl ?_
  refine l_y (Cls.gs _ _) (y_lenS Tryz.underlying22 rfl rfl) rfl ?_
  refine l_y (Cls.gs _ _) (y_move rfl) rfl ?_
  refine l_nil ?_
  refine e_then ?_
  refine CJ.weak (.c (t := 1) rfl (.c (t := 5) rfl (.c (t := 6) rfl (.c (t := 7) rfl (.c (t := 35) rfl (.c (t := 36) rfl (.c (t := 37) rfl .n))))))) (fun _ h => h) ?_
  refine c_block ?_
  refine CJ.weak (.c (t := 7) rfl (.c (t := 37) rfl (.c (t := 1) rfl (.c (t := 5) rfl (.c (t := 6) rfl (.c (t := 35) rfl (.c (t := 36) rfl .n))))))) (fun _ h => h) ?_
  refine c_loopV (fun y : Nat × Vec × List Al => y.1 ≤ ls.length ∧ VecOK 16 36 y.2.1 ∧ y.2.1.es = y.2.2.map Al.cells ∧ (∀ a ∈ y.2.2, AlOK a) ∧ y.2.2.length ≤ y.1) (fun y => [(7, y.2.1.val), (37, .int .i64 (y.1 : Int))]) (fun y => y.2.1.own) (fun y => ls.length - y.1) ((0, Vec.nil, [])) (⟨Nat.zero_le _, .nil, rfl, by simp, Nat.le_refl _⟩) .e ?_
  rintro ⟨k, kv, fl⟩ hk
  dsimp only at hk
  refine c_seq ?_
  refine c_text ?_
  refine l_y (Cls.gs _ _) (y_lss rfl rfl) rfl ?_
  refine l_nil ?_
  refine e_then ?_
  refine c_seq ?_
  refine c_cond rfl (fun h0 => ?_) (fun h0 => ?_)
  · have hlt : k < ls.length := by have := of_decide_eq_true h0; omega
    obtain ⟨a, ha⟩ : ∃ a, ls[k]? = some a := ⟨_, List.getElem?_eq_getElem hlt⟩
    obtain ⟨bb, o, hao, he⟩ := hI k a.cells (by simp [ha])
    replace he := elt_load he
    refine c_skip ?_
    refine e_then ?_
    refine CJ.weak (.c (t := 1) rfl (.c (t := 5) rfl (.c (t := 6) rfl (.c (t := 7) rfl (.c (t := 35) rfl (.c (t := 36) rfl (.c (t := 37) rfl .n))))))) (fun _ h => h) ?_
    refine c_seq ?_
    refine c_block ?_
    refine c_seq ?_
    refine c_text ?_
    refine l_y (Cls.gs _ _) (y_indexAddrF Tryz.underlying22 ty36 rfl rfl hao (by omega) (by omega)) rfl ?_
    refine l_y (Cls.gs _ _) (y_load rfl (LoadAt.aggF (l := [.int .i64 a.id, .int .i64 a.kind, .int .i64 a.object, .int .i64 a.at_.lo, .int .i64 a.at_.hi, .bool a.at_.u, .int .i64 a.ra.lo, .int .i64 a.ra.hi, .bool a.ra.u, .int .i64 a.dec.lo, .int .i64 a.dec.hi, .bool a.dec.u, .int .i64 a.flux.lo, .int .i64 a.flux.hi, .bool a.flux.u, .int .i64 a.of_]) .z ty36 rfl he)) rfl ?_
    refine l_n rfl (n_alloc ty36 .a rfl) (fun b0 _ => ?_)
    refine l_n rfl (n_store rfl rfl ty36 .a rfl rfl .z (.t (.t (.t (.t (.t (.t (.t (.t (.t (.t (.t (.t (.t (.t (.t (.t .d))))))))))))))))) (fun _ _ => ?_)
    refine l_nil ?_
    refine e_then ?_
    refine CJ.weak (.c (t := 1) rfl (.c (t := 5) rfl (.c (t := 6) rfl (.c (t := 7) rfl (.c (t := 9) rfl (.c (t := 35) rfl (.c (t := 36) rfl (.c (t := 37) rfl .n)))))))) (fun _ h => h) ?_
    refine c_seq ?_
    refine c_seq ?_
    refine c_text ?_
    refine l_y (Cls.gs _ _) (y_load rfl (LoadAt.aggL .z ty36 (.t (.t (.t (.t (.t (.t (.t (.t (.t (.t (.t (.t (.t (.t (.t (.t .d)))))))))))))))))) rfl ?_
    refine l_n rfl (n_callW ent6 (.c rfl .n) (fun w' _ => alertErr6 a w') rfl) (fun e1 he1 => ?_)
    refine l_y (Cls.gs _ _) (y_neq rfl rfl) rfl ?_
    refine l_nil ?_
    refine e_then ?_
    refine CJ.weak (.c (t := 1) rfl (.c (t := 5) rfl (.c (t := 6) rfl (.c (t := 7) rfl (.c (t := 9) rfl (.c (t := 35) rfl (.c (t := 36) rfl (.c (t := 37) rfl (.c (t := 43) rfl .n))))))))) (fun _ h => h) ?_
    refine c_cond rfl (fun h1 => ?_) (fun h1 => ?_)
    ·
      refine c_exit ?_
      refine e_then_exit ?_
      refine e_block_hit ?_
      refine e_then ?_
      refine CJ.weak (.c (t := 1) rfl (.c (t := 5) rfl (.c (t := 6) rfl (.c (t := 7) rfl (.c (t := 35) rfl (.c (t := 36) rfl (.c (t := 37) rfl .n))))))) (fun _ h => h) ?_
      refine c_text ?_
      refine l_y (Cls.gs _ _) ((y_add rfl rfl).lit (succ64 (by omega))) rfl ?_
      refine l_y (Cls.gs _ _) (y_move rfl) rfl ?_
      refine l_nil ?_
      refine e_again ((k + 1, kv, fl)) (⟨by dsimp only; omega, hk.2.1, hk.2.2.1, hk.2.2.2.1, by dsimp only; omega⟩) (by dsimp only; omega) (.c (t := 7) rfl (.c (t := 37) rfl (.c (t := 1) rfl (.c (t := 5) rfl (.c (t := 6) rfl (.c (t := 35) rfl (.c (t := 36) rfl .n))))))) (fun _ h => h.thin (.d .r))
    · have hA : AlOK a := he1 (by simpa using h1)
      refine c_skip ?_
      refine e_then ?_
      refine CJ.weak (.c (t := 1) rfl (.c (t := 5) rfl (.c (t := 6) rfl (.c (t := 7) rfl (.c (t := 9) rfl (.c (t := 35) rfl (.c (t := 36) rfl (.c (t := 37) rfl .n)))))))) (fun _ h => h) ?_
      refine c_seq ?_
      refine c_text ?_
      refine l_y (Cls.gs _ _) (y_move rfl) rfl ?_
      refine l_y (Cls.gs _ _) (y_makeFunc .n (.c rfl .n)) rfl ?_
      refine l_n rfl (n_callW ent7 (.c rfl (.c rfl .n)) (fun w' hw' => cf7v fl a b0 kv hk.2.1 hk.2.2.1 (by omega) w' (Cls.ownV hk.2.1 hw' (.c .h)) (hw'.locM .z)) rfl) (fun _f h_f => ?_)
      refine l_y (Cls.gs _ _) (y_not rfl) rfl ?_
      refine l_nil ?_
      refine e_then ?_
      refine CJ.weak (.c (t := 1) rfl (.c (t := 5) rfl (.c (t := 6) rfl (.c (t := 7) rfl (.c (t := 9) rfl (.c (t := 35) rfl (.c (t := 36) rfl (.c (t := 37) rfl (.c (t := 47) rfl .n))))))))) (fun _ h => h) ?_
      refine c_cond rfl (fun h2 => ?_) (fun h2 => ?_)
      ·
        refine c_text ?_
        refine l_y (Cls.gs _ _) (y_move rfl) rfl ?_
        refine l_y (Cls.gs _ _) (y_load rfl (LoadAt.aggL .z ty36 (.t (.t (.t (.t (.t (.t (.t (.t (.t (.t (.t (.t (.t (.t (.t (.t .d)))))))))))))))))) rfl ?_
        refine l_n rfl (n_buildSlice (l := [.int .i64 0, .int .i64 0, .int .i64 0, .int .i64 0, .int .i64 0, .bool false, .int .i64 0, .int .i64 0, .bool false, .int .i64 0, .int .i64 0, .bool false, .int .i64 0, .int .i64 0, .bool false, .int .i64 0]) Tryz.underlying22 ty36 .a rfl (by simp) (by kernel_rfl) (.c rfl .n) (.c rfl .a rfl rfl (.t (.t (.t (.t (.t (.t (.t (.t (.t (.t (.t (.t (.t (.t (.t (.t .d)))))))))))))))) .d) rfl) (fun b1 _ => ?_)
        refine l_n rfl (n_append1 (v := kv) 140000 Tryz.underlying22 ti36 hk.2.1 (.c (.c .h)) rfl rfl .z rfl rfl (by rw [hk.2.2.1, List.length_map]; omega) rfl rfl) (fun kv2 hkv2 => ?_)
        refine l_y (Cls.gs _ _) (y_assign rfl) rfl ?_
        refine l_nil ?_
        refine e_block ?_
        refine e_then ?_
        refine CJ.weak (.c (t := 1) rfl (.c (t := 5) rfl (.c (t := 6) rfl (.c (t := 7) rfl (.c (t := 35) rfl (.c (t := 36) rfl (.c (t := 37) rfl .n))))))) (fun _ h => h) ?_
        refine c_text ?_
        refine l_y (Cls.gs _ _) ((y_add rfl rfl).lit (succ64 (by omega))) rfl ?_
        refine l_y (Cls.gs _ _) (y_move rfl) rfl ?_
        refine l_nil ?_
        refine e_again ((k + 1, kv2, fl ++ [a])) (⟨by dsimp only; omega, hkv2.1, by dsimp only; rw [hkv2.2, hk.2.2.1]; simp, fun b hb => by rcases List.mem_append.1 hb with hb | hb; exact hk.2.2.2.1 b hb; obtain rfl := List.mem_singleton.1 hb; exact hA, by simp only [List.length_append, List.length_singleton]; omega⟩) (by dsimp only; omega) (.c (t := 7) rfl (.c (t := 37) rfl (.c (t := 1) rfl (.c (t := 5) rfl (.c (t := 6) rfl (.c (t := 35) rfl (.c (t := 36) rfl .n))))))) (fun _ h => h.thin (.d (.d .r)))
      ·
        refine c_skip ?_
        refine e_block ?_
        refine e_then ?_
        refine CJ.weak (.c (t := 1) rfl (.c (t := 5) rfl (.c (t := 6) rfl (.c (t := 7) rfl (.c (t := 35) rfl (.c (t := 36) rfl (.c (t := 37) rfl .n))))))) (fun _ h => h) ?_
        refine c_text ?_
        refine l_y (Cls.gs _ _) ((y_add rfl rfl).lit (succ64 (by omega))) rfl ?_
        refine l_y (Cls.gs _ _) (y_move rfl) rfl ?_
        refine l_nil ?_
        refine e_again ((k + 1, kv, fl)) (⟨by dsimp only; omega, hk.2.1, hk.2.2.1, hk.2.2.2.1, by dsimp only; omega⟩) (by dsimp only; omega) (.c (t := 7) rfl (.c (t := 37) rfl (.c (t := 1) rfl (.c (t := 5) rfl (.c (t := 6) rfl (.c (t := 35) rfl (.c (t := 36) rfl .n))))))) (fun _ h => h.thin (.d .r))
  · have hkl : kv.es.length = fl.length := by rw [hk.2.2.1, List.length_map]
    refine c_exit ?_
    refine e_then_exit ?_
    refine e_then_exit ?_
    refine e_block_hit ?_
    refine e_then ?_
    refine CJ.weak (.c (t := 1) rfl (.c (t := 5) rfl (.c (t := 6) rfl (.c (t := 7) rfl .n)))) (fun _ h => h) ?_
    refine c_seq ?_
    refine c_seq ?_
    refine c_text ?_
    refine l_y (Cls.gs _ _) (y_move rfl) rfl ?_
    refine l_y (Cls.gs _ _) ((y_lenV Tryz.underlying22 hk.2.1 rfl rfl).lit (show Value.int .i64 ((kv.es.length : Nat) : Int) = Value.int .i64 ((fl.length : Nat) : Int) by rw [hkl])) rfl ?_
    refine l_y (Cls.gs _ _) (y_move rfl) rfl ?_
    refine l_nil ?_
    refine e_then ?_
    refine c_block ?_
    refine CJ.weak (.c (t := 55) rfl (.c (t := 1) rfl (.c (t := 5) rfl (.c (t := 6) rfl (.c (t := 7) rfl (.c (t := 53) rfl (.c (t := 54) rfl .n))))))) (fun _ h => h) ?_
    refine c_loopV (fun y : Nat × IB => y.1 ≤ fl.length ∧ IBOK y.2 ∧ Same y.2 (takes ((fl.take y.1).map evOf)) ∧ y.2.1.1.length ≤ y.1) (fun y => [(55, .int .i64 (y.1 : Int))]) (fun y => ibOwn ia.1 ia.2.1 ia.2.2 y.2) (fun y => fl.length - y.1) ((0, (([], 0), ([], 0)))) (⟨Nat.zero_le _, ⟨.nil, .nil⟩, same_nil, Nat.le_refl _⟩) (.k (.k .z)) ?_
    rintro ⟨k1, s1⟩ hj
    dsimp only at hj
    refine c_seq ?_
    refine c_text ?_
    refine l_y (Cls.gs _ _) (y_lss rfl rfl) rfl ?_
    refine l_nil ?_
    refine e_then ?_
    refine c_seq ?_
    refine c_cond rfl (fun h3 => ?_) (fun h3 => ?_)
    · have hlt1 : k1 < fl.length := by have := of_decide_eq_true h3; omega
      obtain ⟨a, ha⟩ : ∃ a, fl[k1]? = some a := ⟨_, List.getElem?_eq_getElem hlt1⟩
      have hA := hk.2.2.2.1 a (List.mem_of_getElem? ha)
      refine c_skip ?_
      refine e_then ?_
      refine CJ.weak (.c (t := 1) rfl (.c (t := 5) rfl (.c (t := 6) rfl (.c (t := 7) rfl (.c (t := 53) rfl (.c (t := 54) rfl (.c (t := 55) rfl .n))))))) (fun _ h => h) ?_
      refine c_seq ?_
      refine c_block ?_
      refine c_seq ?_
      refine c_text ?_
      refine l_y (Cls.gs _ _) (y_idxVec Tryz.underlying22 ty36 hk.2.1 rfl rfl rfl (by omega) (by rw [hkl]; omega)) rfl ?_
      refine l_y (Cls.gs _ _) (y_load rfl (LoadAt.aggV hk.2.1 rfl .h ty36 (show kv.es[k1]? = some [.int .i64 a.id, .int .i64 a.kind, .int .i64 a.object, .int .i64 a.at_.lo, .int .i64 a.at_.hi, .bool a.at_.u, .int .i64 a.ra.lo, .int .i64 a.ra.hi, .bool a.ra.u, .int .i64 a.dec.lo, .int .i64 a.dec.hi, .bool a.dec.u, .int .i64 a.flux.lo, .int .i64 a.flux.hi, .bool a.flux.u, .int .i64 a.of_] by rw [hk.2.2.1, List.getElem?_map, ha]; rfl) (.t (.t (.t (.t (.t (.t (.t (.t (.t (.t (.t (.t (.t (.t (.t (.t .d)))))))))))))))) (by first | (simp; done) | (rw [Int.toNat_natCast]; simp)))) rfl ?_
      refine l_n rfl (n_alloc ty36 .a rfl) (fun b2 _ => ?_)
      refine l_n rfl (n_store rfl rfl ty36 .a rfl rfl .z (.t (.t (.t (.t (.t (.t (.t (.t (.t (.t (.t (.t (.t (.t (.t (.t .d))))))))))))))))) (fun _ _ => ?_)
      refine l_nil ?_
      refine e_then ?_
      refine CJ.weak (.c (t := 1) rfl (.c (t := 5) rfl (.c (t := 6) rfl (.c (t := 7) rfl (.c (t := 11) rfl (.c (t := 53) rfl (.c (t := 54) rfl (.c (t := 55) rfl .n)))))))) (fun _ h => h) ?_
      refine c_seq ?_
      refine c_text ?_
      refine l_y (Cls.gs _ _) (y_load rfl (LoadAt.aggL .z ty36 (.t (.t (.t (.t (.t (.t (.t (.t (.t (.t (.t (.t (.t (.t (.t (.t .d)))))))))))))))))) rfl ?_
      refine l_n rfl (n_callV ent9 (.c .e) (.c rfl .n) (fun w' _ => pack9 a hA w') rfl) (fun pk hpk => ?_)
      refine l_y (Cls.gs _ _) (y_move rfl) rfl ?_
      refine l_y (Cls.gs _ _) (y_extract rfl .z) rfl ?_
      refine l_y (Cls.gs _ _) (y_extract rfl (.s .z)) rfl ?_
      refine l_y (Cls.gs _ _) (y_assign rfl) rfl ?_
      refine l_y (Cls.gs _ _) (y_assign rfl) rfl ?_
      refine l_nil ?_
      refine e_then ?_
      refine CJ.weak (.c (t := 1) rfl (.c (t := 5) rfl (.c (t := 6) rfl (.c (t := 7) rfl (.c (t := 12) rfl (.c (t := 13) rfl (.c (t := 53) rfl (.c (t := 54) rfl (.c (t := 55) rfl .n))))))))) (fun _ h => h) ?_
      refine c_seq ?_
      refine c_text ?_
      refine l_y (Cls.gs _ _) (y_move rfl) rfl ?_
      refine l_y (Cls.gs _ _) (y_call ent10 (.c rfl .n) (fun w' hw' => unpack10v a hA pk hpk.1 hpk.2 w' (Cls.ownV hpk.1 hw' (.c .h)))) rfl ?_
      refine l_y (Cls.gs _ _) (y_move rfl) rfl ?_
      refine l_y (Cls.gs _ _) (y_extract rfl .z) rfl ?_
      refine l_y (Cls.gs _ _) (y_extract rfl (.s .z)) rfl ?_
      refine l_y (Cls.gs _ _) (y_extract rfl (.s (.s .z))) rfl ?_
      refine l_n rfl (n_alloc ty36 .a rfl) (fun b3 _ => ?_)
      refine l_n rfl (n_store rfl rfl ty36 .a rfl rfl .z (.t (.t (.t (.t (.t (.t (.t (.t (.t (.t (.t (.t (.t (.t (.t (.t .d))))))))))))))))) (fun _ _ => ?_)
      refine l_y (Cls.gs _ _) (y_assign rfl) rfl ?_
      refine l_y (Cls.gs _ _) (y_assign rfl) rfl ?_
      refine l_nil ?_
      refine e_then ?_
      refine CJ.weak (.c (t := 1) rfl (.c (t := 5) rfl (.c (t := 6) rfl (.c (t := 7) rfl (.c (t := 12) rfl (.c (t := 13) rfl (.c (t := 14) rfl (.c (t := 15) rfl (.c (t := 16) rfl (.c (t := 53) rfl (.c (t := 54) rfl (.c (t := 55) rfl .n)))))))))))) (fun _ h => h) ?_
      refine c_seq ?_
      refine c_text ?_
      refine l_y (Cls.gs _ _) (y_load rfl (LoadAt.aggL .z ty36 (.t (.t (.t (.t (.t (.t (.t (.t (.t (.t (.t (.t (.t (.t (.t (.t .d)))))))))))))))))) rfl ?_
      refine l_y (Cls.gs _ _) (y_call ent11 (.c rfl .n) (fun w' hw' => text11 a hA w' (hE.gr (hw'.gr .z)))) rfl ?_
      refine l_y (Cls.gs _ _) (y_move rfl) rfl ?_
      refine l_y (Cls.gs _ _) (y_extract rfl .z) rfl ?_
      refine l_y (Cls.gs _ _) (y_extract rfl (.s .z)) rfl ?_
      refine l_y (Cls.gs _ _) (y_assign rfl) rfl ?_
      refine l_y (Cls.gs _ _) (y_assign rfl) rfl ?_
      refine l_nil ?_
      refine e_then ?_
      refine CJ.weak (.c (t := 1) rfl (.c (t := 5) rfl (.c (t := 6) rfl (.c (t := 7) rfl (.c (t := 12) rfl (.c (t := 13) rfl (.c (t := 15) rfl (.c (t := 16) rfl (.c (t := 17) rfl (.c (t := 18) rfl (.c (t := 53) rfl (.c (t := 54) rfl (.c (t := 55) rfl .n))))))))))))) (fun _ h => h) ?_
      refine c_seq ?_
      refine c_text ?_
      refine l_y (Cls.gs _ _) (y_move rfl) rfl ?_
      refine l_y (Cls.gs _ _) (y_call ent12 (.c rfl .n) (fun w' hw' => read12 a hA w' (hE.gr (hw'.gr .z)))) rfl ?_
      refine l_y (Cls.gs _ _) (y_move rfl) rfl ?_
      refine l_y (Cls.gs _ _) (y_extract rfl .z) rfl ?_
      refine l_y (Cls.gs _ _) (y_extract rfl (.s .z)) rfl ?_
      refine l_n rfl (n_alloc ty36 .a rfl) (fun b4 _ => ?_)
      refine l_n rfl (n_store rfl rfl ty36 .a rfl rfl .z (.t (.t (.t (.t (.t (.t (.t (.t (.t (.t (.t (.t (.t (.t (.t (.t .d))))))))))))))))) (fun _ _ => ?_)
      refine l_y (Cls.gs _ _) (y_assign rfl) rfl ?_
      refine l_nil ?_
      refine e_then ?_
      refine CJ.weak (.c (t := 1) rfl (.c (t := 5) rfl (.c (t := 6) rfl (.c (t := 7) rfl (.c (t := 12) rfl (.c (t := 13) rfl (.c (t := 15) rfl (.c (t := 16) rfl (.c (t := 18) rfl (.c (t := 19) rfl (.c (t := 20) rfl (.c (t := 53) rfl (.c (t := 54) rfl (.c (t := 55) rfl .n)))))))))))))) (fun _ h => h) ?_
      refine c_seq ?_
      refine c_seq ?_
      refine c_text ?_
      refine l_y (Cls.gs _ _) (y_move rfl) rfl ?_
      refine l_y (Cls.gs _ _) ((y_neq rfl rfl).lit (by kernel_rfl : _ = Value.bool false)) rfl ?_
      refine l_y (Cls.gs _ _) (y_move rfl) rfl ?_
      refine l_g (s := 82) (Cls.gs _ _) (by kernel_rfl) rfl (beq_f _) (fun hg => y_move rfl) rfl ?_
      refine l_g (s := 82) (Cls.gs _ _) (by kernel_rfl) rfl (beq_f _) (fun hg => (y_neq (gvt hg rfl) rfl).lit (by kernel_rfl : _ = Value.bool false)) rfl ?_
      refine l_y (Cls.gs _ _) ((y_or rfl rfl rfl).lit (by kernel_rfl : _ = Value.bool false)) rfl ?_
      refine l_y (Cls.gs _ _) (y_move rfl) rfl ?_
      refine l_g (s := 86) (Cls.gs _ _) (by kernel_rfl) rfl (beq_f _) (fun hg => y_move rfl) rfl ?_
      refine l_g (s := 86) (Cls.gs _ _) (by kernel_rfl) rfl (beq_f _) (fun hg => (y_neq (gvt hg rfl) rfl).lit (by kernel_rfl : _ = Value.bool false)) rfl ?_
      refine l_y (Cls.gs _ _) ((y_or rfl rfl rfl).lit (by kernel_rfl : _ = Value.bool false)) rfl ?_
      refine l_y (Cls.gs _ _) (y_move rfl) rfl ?_
      refine l_g (s := 90) (Cls.gs _ _) (by kernel_rfl) rfl (beq_f _) (fun hg => y_move rfl) rfl ?_
      refine l_g (s := 90) (Cls.gs _ _) (by kernel_rfl) rfl (beq_f _) (fun hg => (y_neq (gvt hg rfl) rfl).lit (by kernel_rfl : _ = Value.bool false)) rfl ?_
      refine l_y (Cls.gs _ _) ((y_or rfl rfl rfl).lit (by kernel_rfl : _ = Value.bool false)) rfl ?_
      refine l_y (Cls.gs _ _) (y_move rfl) rfl ?_
      refine l_g (s := 94) (Cls.gs _ _) (by kernel_rfl) rfl (beq_f _) (fun hg => y_move rfl) rfl ?_
      refine l_g (s := 94) (Cls.gs _ _) (by kernel_rfl) rfl (beq_f _) (fun hg => y_move rfl) rfl ?_
      refine l_g (s := 94) (Cls.gs _ _) (by kernel_rfl) rfl (beq_f _) (fun hg => y_lenV Tryz.underlying41 hpk.1 (gvt hg rfl) rfl) rfl ?_
      refine l_g (s := 94) (Cls.gs _ _) (by kernel_rfl) rfl (beq_f _) (fun hg => (y_neq (gvt hg rfl) (gvt hg rfl)).lit (neqC (by rw [hpk.2, List.length_map]))) rfl ?_
      refine l_y (Cls.gs _ _) ((y_or rfl rfl rfl).lit (by kernel_rfl : _ = Value.bool false)) rfl ?_
      refine l_nil ?_
      refine e_then ?_
      refine CJ.weak (.c (t := 1) rfl (.c (t := 5) rfl (.c (t := 6) rfl (.c (t := 7) rfl (.c (t := 19) rfl (.c (t := 53) rfl (.c (t := 54) rfl (.c (t := 55) rfl (.c (t := 99) rfl .n))))))))) (fun _ h => h) ?_
      refine c_false (by kernel_rfl) ?_
      refine c_skip ?_
      refine e_then ?_
      refine CJ.weak (.c (t := 1) rfl (.c (t := 5) rfl (.c (t := 6) rfl (.c (t := 7) rfl (.c (t := 19) rfl (.c (t := 53) rfl (.c (t := 54) rfl (.c (t := 55) rfl .n)))))))) (fun _ h => h) ?_
      refine c_text ?_
      refine l_y (Cls.gs _ _) (y_move rfl) rfl ?_
      refine l_y (Cls.gs _ _) (y_load rfl (LoadAt.aggL .z ty36 (.t (.t (.t (.t (.t (.t (.t (.t (.t (.t (.t (.t (.t (.t (.t (.t .d)))))))))))))))))) rfl ?_
      refine l_n rfl (n_callTL ent13 rfl (.c (.c (.c (.k (.k (.k .z)))))) (.c rfl (.c rfl .n)) (fun w' hw' => take13 ia.1 ia.2.1 ia.2.2 s1 a hA hj.2.1 w' (cls_hole hw' (.c (.c (.c (.k (.k (.k .z))))))).1 (cls_hole hw' (.c (.c (.c (.k (.k (.k .z))))))).2) rfl) (fun _r h_r => ?_)
      refine l_nil ?_
      refine e_block ?_
      refine e_then ?_
      refine CJ.weak (.c (t := 1) rfl (.c (t := 5) rfl (.c (t := 6) rfl (.c (t := 7) rfl (.c (t := 53) rfl (.c (t := 54) rfl (.c (t := 55) rfl .n))))))) (fun _ h => h) ?_
      refine c_text ?_
      refine l_y (Cls.gs _ _) ((y_add rfl rfl).lit (succ64 (by omega))) rfl ?_
      refine l_y (Cls.gs _ _) (y_move rfl) rfl ?_
      refine l_nil ?_
      refine e_again ((k1 + 1, takeI s1 a)) (⟨by dsimp only; omega, takeI_ok hj.2.1 a, by dsimp only; rw [take_snoc ha]; exact same_snoc hj.2.2.1, by dsimp only; have := takeI_len s1 a; omega⟩) (by dsimp only; omega) (.c (t := 55) rfl (.c (t := 1) rfl (.c (t := 5) rfl (.c (t := 6) rfl (.c (t := 7) rfl (.c (t := 53) rfl (.c (t := 54) rfl .n))))))) (fun _ h => h.thin (.d (.d (.d (.a .r)))))
    · have hk1 : k1 = fl.length := by have := of_decide_eq_false h3; omega
      have hS1 := hj.2.2.1
      rw [hk1, List.take_length] at hS1
      refine c_exit ?_
      refine e_then_exit ?_
      refine e_then_exit ?_
      refine e_block_hit ?_
      refine e_then ?_
      refine CJ.weak (.c (t := 1) rfl (.c (t := 5) rfl (.c (t := 6) rfl (.c (t := 7) rfl .n)))) (fun _ h => h) ?_
      refine c_seq ?_
      refine c_seq ?_
      refine c_text ?_
      refine l_y (Cls.gs _ _) (y_move rfl) rfl ?_
      refine l_y (Cls.gs _ _) ((y_lenV Tryz.underlying22 hk.2.1 rfl rfl).lit (show Value.int .i64 ((kv.es.length : Nat) : Int) = Value.int .i64 ((fl.length : Nat) : Int) by rw [hkl])) rfl ?_
      refine l_y (Cls.gs _ _) (y_move rfl) rfl ?_
      refine l_nil ?_
      refine e_then ?_
      refine CJ.weak (.c (t := 1) rfl (.c (t := 5) rfl (.c (t := 6) rfl (.c (t := 7) rfl (.c (t := 105) rfl (.c (t := 106) rfl .n)))))) (fun _ h => h) ?_
      refine c_block ?_
      refine CJ.weak (.c (t := 106) rfl (.c (t := 1) rfl (.c (t := 5) rfl (.c (t := 6) rfl (.c (t := 7) rfl (.c (t := 105) rfl .n)))))) (fun _ h => h) ?_
      refine c_loopV (fun y : Nat × IB => y.1 ≤ fl.length ∧ IBOK y.2 ∧ Same y.2 (takes (ev2 fl (decide (x.tmod 2 = 0)) (decide (x.tmod 3 = 0)) (x % (fl.length : Int)).toNat y.1)) ∧ y.2.1.1.length ≤ 2 * y.1) (fun y => [(106, .int .i64 (y.1 : Int))]) (fun y => ibOwn ic.1 ic.2.1 ic.2.2 y.2) (fun y => fl.length - y.1) ((0, (([], 0), ([], 0)))) (⟨Nat.zero_le _, ⟨.nil, .nil⟩, same_nil, Nat.le_refl _⟩) (.k .h) ?_
      rintro ⟨k2, s2⟩ hm
      dsimp only at hm
      refine c_seq ?_
      refine c_text ?_
      refine l_y (Cls.gs _ _) (y_lss rfl rfl) rfl ?_
      refine l_nil ?_
      refine e_then ?_
      refine c_seq ?_
      refine c_cond rfl (fun h4 => ?_) (fun h4 => ?_)
      · have hlt2 : k2 < fl.length := by have := of_decide_eq_true h4; omega
        have hb0 := Int.emod_nonneg x (show (fl.length : Int) ≠ 0 by omega)
        have hb1 := Int.emod_lt_of_pos x (show (0 : Int) < fl.length by omega)
        obtain ⟨a, ha⟩ : ∃ a, fl[k2]? = some a := ⟨_, List.getElem?_eq_getElem hlt2⟩
        have hA := hk.2.2.2.1 a (List.mem_of_getElem? ha)
        obtain ⟨c, hc⟩ : ∃ c, fl[sg (decide (x.tmod 2 = 0)) fl.length (x % (fl.length : Int)).toNat k2]? = some c := ⟨_, List.getElem?_eq_getElem (sg_lt hlt2)⟩
        have hC := hk.2.2.2.1 c (List.mem_of_getElem? hc)
        have hmod := Nat.mod_lt (k2 + (x % (fl.length : Int)).toNat) (show 0 < fl.length by omega)
        refine c_skip ?_
        refine e_then ?_
        refine CJ.weak (.c (t := 1) rfl (.c (t := 5) rfl (.c (t := 6) rfl (.c (t := 7) rfl (.c (t := 105) rfl (.c (t := 106) rfl .n)))))) (fun _ h => h) ?_
        refine c_seq ?_
        refine c_block ?_
        refine c_seq ?_
        refine c_text ?_
        refine l_y (Cls.gs _ _) (y_move rfl) rfl ?_
        refine l_y (Cls.gs _ _) (y_assign rfl) rfl ?_
        refine l_nil ?_
        refine e_then ?_
        refine CJ.weak (.c (t := 1) rfl (.c (t := 5) rfl (.c (t := 6) rfl (.c (t := 7) rfl (.c (t := 21) rfl (.c (t := 105) rfl (.c (t := 106) rfl .n))))))) (fun _ h => h) ?_
        refine c_seq ?_
        refine c_text ?_
        refine l_y (Cls.gs _ _) (y_move rfl) rfl ?_
        refine l_y (Cls.gs _ _) (y_move rfl) rfl ?_
        refine l_y (Cls.gs _ _) (y_move rfl) rfl ?_
        refine l_y (Cls.gs _ _) ((y_lenV Tryz.underlying22 hk.2.1 rfl rfl).lit (show Value.int .i64 ((kv.es.length : Nat) : Int) = Value.int .i64 ((fl.length : Nat) : Int) by rw [hkl])) rfl ?_
        refine l_y (Cls.gs _ _) (y_call ent14 (.c rfl (.c rfl .n)) (fun w' _ => below14e x fl.length hx1 hx2 (by omega) (by omega) w')) rfl ?_
        refine l_y (Cls.gs _ _) ((y_add rfl rfl).lit (sgAdd hlt2 hb0 hb1 (by omega))) rfl ?_
        refine l_y (Cls.gs _ _) (y_move rfl) rfl ?_
        refine l_y (Cls.gs _ _) ((y_lenV Tryz.underlying22 hk.2.1 rfl rfl).lit (show Value.int .i64 ((kv.es.length : Nat) : Int) = Value.int .i64 ((fl.length : Nat) : Int) by rw [hkl])) rfl ?_
        refine l_y (Cls.gs _ _) ((y_rem rfl rfl (by omega)).lit (sgRem)) rfl ?_
        refine l_y (Cls.gs _ _) (y_assign rfl) rfl ?_
        refine l_nil ?_
        refine e_then ?_
        refine CJ.weak (.c (t := 1) rfl (.c (t := 5) rfl (.c (t := 6) rfl (.c (t := 7) rfl (.c (t := 21) rfl (.c (t := 22) rfl (.c (t := 105) rfl (.c (t := 106) rfl .n)))))))) (fun _ h => h) ?_
        refine c_seq ?_
        refine c_seq ?_
        refine c_text ?_
        refine l_y (Cls.gs _ _) (y_move rfl) rfl ?_
        refine l_y (Cls.gs _ _) (y_rem rfl rfl (by decide)) rfl ?_
        refine l_y (Cls.gs _ _) (y_eql rfl rfl) rfl ?_
        refine l_nil ?_
        refine e_then ?_
        refine CJ.weak (.c (t := 1) rfl (.c (t := 5) rfl (.c (t := 6) rfl (.c (t := 7) rfl (.c (t := 21) rfl (.c (t := 22) rfl (.c (t := 105) rfl (.c (t := 106) rfl (.c (t := 120) rfl .n))))))))) (fun _ h => h) ?_
        refine c_cond rfl (fun h5 => ?_) (fun h5 => ?_)
        · have hsg : sg (decide (x.tmod 2 = 0)) fl.length (x % (fl.length : Int)).toNat k2 = fl.length - 1 - (k2 + (x % (fl.length : Int)).toNat) % fl.length := by unfold sg; rw [if_pos h5]
          have hc2 := hc
          rw [hsg] at hc2
          refine c_text ?_
          refine l_y (Cls.gs _ _) (y_move rfl) rfl ?_
          refine l_y (Cls.gs _ _) ((y_lenV Tryz.underlying22 hk.2.1 rfl rfl).lit (show Value.int .i64 ((kv.es.length : Nat) : Int) = Value.int .i64 ((fl.length : Nat) : Int) by rw [hkl])) rfl ?_
          refine l_y (Cls.gs _ _) ((y_sub rfl rfl).lit (sgSub1 (by omega) (by omega))) rfl ?_
          refine l_y (Cls.gs _ _) (y_move rfl) rfl ?_
          refine l_y (Cls.gs _ _) ((y_sub rfl rfl).lit (sgSub hmod (by omega))) rfl ?_
          refine l_y (Cls.gs _ _) (y_assign rfl) rfl ?_
          refine l_nil ?_
          refine e_then ?_
          refine CJ.weak (.c (t := 1) rfl (.c (t := 5) rfl (.c (t := 6) rfl (.c (t := 7) rfl (.c (t := 21) rfl (.c (t := 22) rfl (.c (t := 105) rfl (.c (t := 106) rfl .n)))))))) (fun _ h => h) ?_
          refine c_seq ?_
          refine c_text ?_
          refine l_y (Cls.gs _ _) (y_move rfl) rfl ?_
          refine l_y (Cls.gs _ _) (y_move rfl) rfl ?_
          refine l_y (Cls.gs _ _) (y_move rfl) rfl ?_
          refine l_y (Cls.gs _ _) (y_idxVec Tryz.underlying22 ty36 hk.2.1 rfl rfl rfl (by omega) (by rw [hkl]; omega)) rfl ?_
          refine l_y (Cls.gs _ _) (y_load rfl (LoadAt.aggV hk.2.1 rfl .h ty36 (show kv.es[fl.length - 1 - (k2 + (x % (fl.length : Int)).toNat) % fl.length]? = some [.int .i64 c.id, .int .i64 c.kind, .int .i64 c.object, .int .i64 c.at_.lo, .int .i64 c.at_.hi, .bool c.at_.u, .int .i64 c.ra.lo, .int .i64 c.ra.hi, .bool c.ra.u, .int .i64 c.dec.lo, .int .i64 c.dec.hi, .bool c.dec.u, .int .i64 c.flux.lo, .int .i64 c.flux.hi, .bool c.flux.u, .int .i64 c.of_] by rw [hk.2.2.1, List.getElem?_map, hc2]; rfl) (.t (.t (.t (.t (.t (.t (.t (.t (.t (.t (.t (.t (.t (.t (.t (.t .d)))))))))))))))) (by first | (simp; done) | (rw [Int.toNat_natCast]; simp)))) rfl ?_
          refine l_n rfl (n_callTL ent13 rfl (.k .h) (.c rfl (.c rfl .n)) (fun w' hw' => take13 ic.1 ic.2.1 ic.2.2 s2 c hC hm.2.1 w' (cls_hole hw' (.k .h)).1 (cls_hole hw' (.k .h)).2) rfl) (fun _r h_r => ?_)
          refine l_nil ?_
          refine e_then ?_
          refine CJ.weak (.c (t := 1) rfl (.c (t := 5) rfl (.c (t := 6) rfl (.c (t := 7) rfl (.c (t := 21) rfl (.c (t := 105) rfl (.c (t := 106) rfl .n))))))) (fun _ h => h) ?_
          refine c_seq ?_
          refine c_text ?_
          refine l_y (Cls.gs _ _) (y_move rfl) rfl ?_
          refine l_y (Cls.gs _ _) (y_rem rfl rfl (by decide)) rfl ?_
          refine l_y (Cls.gs _ _) (y_eql rfl rfl) rfl ?_
          refine l_nil ?_
          refine e_then ?_
          refine CJ.weak (.c (t := 1) rfl (.c (t := 5) rfl (.c (t := 6) rfl (.c (t := 7) rfl (.c (t := 21) rfl (.c (t := 105) rfl (.c (t := 106) rfl (.c (t := 134) rfl .n)))))))) (fun _ h => h) ?_
          refine c_cond rfl (fun h6 => ?_) (fun h6 => ?_)
          ·
            refine c_text ?_
            refine l_y (Cls.gs _ _) (y_move rfl) rfl ?_
            refine l_y (Cls.gs _ _) (y_move rfl) rfl ?_
            refine l_y (Cls.gs _ _) (y_move rfl) rfl ?_
            refine l_y (Cls.gs _ _) (y_idxVec Tryz.underlying22 ty36 hk.2.1 rfl rfl rfl (by omega) (by rw [hkl]; omega)) rfl ?_
            refine l_y (Cls.gs _ _) (y_load rfl (LoadAt.aggV hk.2.1 rfl .h ty36 (show kv.es[k2]? = some [.int .i64 a.id, .int .i64 a.kind, .int .i64 a.object, .int .i64 a.at_.lo, .int .i64 a.at_.hi, .bool a.at_.u, .int .i64 a.ra.lo, .int .i64 a.ra.hi, .bool a.ra.u, .int .i64 a.dec.lo, .int .i64 a.dec.hi, .bool a.dec.u, .int .i64 a.flux.lo, .int .i64 a.flux.hi, .bool a.flux.u, .int .i64 a.of_] by rw [hk.2.2.1, List.getElem?_map, ha]; rfl) (.t (.t (.t (.t (.t (.t (.t (.t (.t (.t (.t (.t (.t (.t (.t (.t .d)))))))))))))))) (by first | (simp; done) | (rw [Int.toNat_natCast]; simp)))) rfl ?_
            refine l_n rfl (n_callTL ent13 rfl (.k .h) (.c rfl (.c rfl .n)) (fun w' hw' => take13 ic.1 ic.2.1 ic.2.2 (takeI s2 c) a hA (takeI_ok hm.2.1 c) w' (cls_hole hw' (.k .h)).1 (cls_hole hw' (.k .h)).2) rfl) (fun _r h_r => ?_)
            refine l_nil ?_
            refine e_block ?_
            refine e_then ?_
            refine CJ.weak (.c (t := 1) rfl (.c (t := 5) rfl (.c (t := 6) rfl (.c (t := 7) rfl (.c (t := 105) rfl (.c (t := 106) rfl .n)))))) (fun _ h => h) ?_
            refine c_text ?_
            refine l_y (Cls.gs _ _) ((y_add rfl rfl).lit (succ64 (by omega))) rfl ?_
            refine l_y (Cls.gs _ _) (y_move rfl) rfl ?_
            refine l_nil ?_
            refine e_again ((k2 + 1, takeI (takeI s2 c) a)) (⟨by dsimp only; omega, takeI_ok (takeI_ok hm.2.1 c) a, by dsimp only; rw [ev2, evA_at hc, if_pos h6, evA_at ha, ← List.append_assoc]; exact same_snoc (same_snoc hm.2.2.1), by dsimp only; have := takeI_len s2 c; have := takeI_len (takeI s2 c) a; omega⟩) (by dsimp only; omega) (.c (t := 106) rfl (.c (t := 1) rfl (.c (t := 5) rfl (.c (t := 6) rfl (.c (t := 7) rfl (.c (t := 105) rfl .n)))))) (fun _ h => h.thin .r)
          ·
            refine c_skip ?_
            refine e_block ?_
            refine e_then ?_
            refine CJ.weak (.c (t := 1) rfl (.c (t := 5) rfl (.c (t := 6) rfl (.c (t := 7) rfl (.c (t := 105) rfl (.c (t := 106) rfl .n)))))) (fun _ h => h) ?_
            refine c_text ?_
            refine l_y (Cls.gs _ _) ((y_add rfl rfl).lit (succ64 (by omega))) rfl ?_
            refine l_y (Cls.gs _ _) (y_move rfl) rfl ?_
            refine l_nil ?_
            refine e_again ((k2 + 1, takeI s2 c)) (⟨by dsimp only; omega, takeI_ok hm.2.1 c, by dsimp only; rw [ev2, evA_at hc, if_neg (ne_true_of_eq_false h6), List.append_nil]; exact same_snoc hm.2.2.1, by dsimp only; have := takeI_len s2 c; omega⟩) (by dsimp only; omega) (.c (t := 106) rfl (.c (t := 1) rfl (.c (t := 5) rfl (.c (t := 6) rfl (.c (t := 7) rfl (.c (t := 105) rfl .n)))))) (fun _ h => h.thin .r)
        · have hsg : sg (decide (x.tmod 2 = 0)) fl.length (x % (fl.length : Int)).toNat k2 = (k2 + (x % (fl.length : Int)).toNat) % fl.length := by unfold sg; rw [if_neg (ne_true_of_eq_false h5)]
          have hc2 := hc
          rw [hsg] at hc2
          refine c_skip ?_
          refine e_then ?_
          refine CJ.weak (.c (t := 1) rfl (.c (t := 5) rfl (.c (t := 6) rfl (.c (t := 7) rfl (.c (t := 21) rfl (.c (t := 22) rfl (.c (t := 105) rfl (.c (t := 106) rfl .n)))))))) (fun _ h => h) ?_
          refine c_seq ?_
          refine c_text ?_
          refine l_y (Cls.gs _ _) (y_move rfl) rfl ?_
          refine l_y (Cls.gs _ _) (y_move rfl) rfl ?_
          refine l_y (Cls.gs _ _) (y_move rfl) rfl ?_
          refine l_y (Cls.gs _ _) (y_idxVec Tryz.underlying22 ty36 hk.2.1 rfl rfl rfl (by omega) (by rw [hkl]; omega)) rfl ?_
          refine l_y (Cls.gs _ _) (y_load rfl (LoadAt.aggV hk.2.1 rfl .h ty36 (show kv.es[(k2 + (x % (fl.length : Int)).toNat) % fl.length]? = some [.int .i64 c.id, .int .i64 c.kind, .int .i64 c.object, .int .i64 c.at_.lo, .int .i64 c.at_.hi, .bool c.at_.u, .int .i64 c.ra.lo, .int .i64 c.ra.hi, .bool c.ra.u, .int .i64 c.dec.lo, .int .i64 c.dec.hi, .bool c.dec.u, .int .i64 c.flux.lo, .int .i64 c.flux.hi, .bool c.flux.u, .int .i64 c.of_] by rw [hk.2.2.1, List.getElem?_map, hc2]; rfl) (.t (.t (.t (.t (.t (.t (.t (.t (.t (.t (.t (.t (.t (.t (.t (.t .d)))))))))))))))) (by first | (simp; done) | (rw [Int.toNat_natCast]; simp)))) rfl ?_
          refine l_n rfl (n_callTL ent13 rfl (.k .h) (.c rfl (.c rfl .n)) (fun w' hw' => take13 ic.1 ic.2.1 ic.2.2 s2 c hC hm.2.1 w' (cls_hole hw' (.k .h)).1 (cls_hole hw' (.k .h)).2) rfl) (fun _r h_r => ?_)
          refine l_nil ?_
          refine e_then ?_
          refine CJ.weak (.c (t := 1) rfl (.c (t := 5) rfl (.c (t := 6) rfl (.c (t := 7) rfl (.c (t := 21) rfl (.c (t := 105) rfl (.c (t := 106) rfl .n))))))) (fun _ h => h) ?_
          refine c_seq ?_
          refine c_text ?_
          refine l_y (Cls.gs _ _) (y_move rfl) rfl ?_
          refine l_y (Cls.gs _ _) (y_rem rfl rfl (by decide)) rfl ?_
          refine l_y (Cls.gs _ _) (y_eql rfl rfl) rfl ?_
          refine l_nil ?_
          refine e_then ?_
          refine CJ.weak (.c (t := 1) rfl (.c (t := 5) rfl (.c (t := 6) rfl (.c (t := 7) rfl (.c (t := 21) rfl (.c (t := 105) rfl (.c (t := 106) rfl (.c (t := 134) rfl .n)))))))) (fun _ h => h) ?_
          refine c_cond rfl (fun h7 => ?_) (fun h7 => ?_)
          ·
            refine c_text ?_
            refine l_y (Cls.gs _ _) (y_move rfl) rfl ?_
            refine l_y (Cls.gs _ _) (y_move rfl) rfl ?_
            refine l_y (Cls.gs _ _) (y_move rfl) rfl ?_
            refine l_y (Cls.gs _ _) (y_idxVec Tryz.underlying22 ty36 hk.2.1 rfl rfl rfl (by omega) (by rw [hkl]; omega)) rfl ?_
            refine l_y (Cls.gs _ _) (y_load rfl (LoadAt.aggV hk.2.1 rfl .h ty36 (show kv.es[k2]? = some [.int .i64 a.id, .int .i64 a.kind, .int .i64 a.object, .int .i64 a.at_.lo, .int .i64 a.at_.hi, .bool a.at_.u, .int .i64 a.ra.lo, .int .i64 a.ra.hi, .bool a.ra.u, .int .i64 a.dec.lo, .int .i64 a.dec.hi, .bool a.dec.u, .int .i64 a.flux.lo, .int .i64 a.flux.hi, .bool a.flux.u, .int .i64 a.of_] by rw [hk.2.2.1, List.getElem?_map, ha]; rfl) (.t (.t (.t (.t (.t (.t (.t (.t (.t (.t (.t (.t (.t (.t (.t (.t .d)))))))))))))))) (by first | (simp; done) | (rw [Int.toNat_natCast]; simp)))) rfl ?_
            refine l_n rfl (n_callTL ent13 rfl (.k .h) (.c rfl (.c rfl .n)) (fun w' hw' => take13 ic.1 ic.2.1 ic.2.2 (takeI s2 c) a hA (takeI_ok hm.2.1 c) w' (cls_hole hw' (.k .h)).1 (cls_hole hw' (.k .h)).2) rfl) (fun _r h_r => ?_)
            refine l_nil ?_
            refine e_block ?_
            refine e_then ?_
            refine CJ.weak (.c (t := 1) rfl (.c (t := 5) rfl (.c (t := 6) rfl (.c (t := 7) rfl (.c (t := 105) rfl (.c (t := 106) rfl .n)))))) (fun _ h => h) ?_
            refine c_text ?_
            refine l_y (Cls.gs _ _) ((y_add rfl rfl).lit (succ64 (by omega))) rfl ?_
            refine l_y (Cls.gs _ _) (y_move rfl) rfl ?_
            refine l_nil ?_
            refine e_again ((k2 + 1, takeI (takeI s2 c) a)) (⟨by dsimp only; omega, takeI_ok (takeI_ok hm.2.1 c) a, by dsimp only; rw [ev2, evA_at hc, if_pos h7, evA_at ha, ← List.append_assoc]; exact same_snoc (same_snoc hm.2.2.1), by dsimp only; have := takeI_len s2 c; have := takeI_len (takeI s2 c) a; omega⟩) (by dsimp only; omega) (.c (t := 106) rfl (.c (t := 1) rfl (.c (t := 5) rfl (.c (t := 6) rfl (.c (t := 7) rfl (.c (t := 105) rfl .n)))))) (fun _ h => h.thin .r)
          ·
            refine c_skip ?_
            refine e_block ?_
            refine e_then ?_
            refine CJ.weak (.c (t := 1) rfl (.c (t := 5) rfl (.c (t := 6) rfl (.c (t := 7) rfl (.c (t := 105) rfl (.c (t := 106) rfl .n)))))) (fun _ h => h) ?_
            refine c_text ?_
            refine l_y (Cls.gs _ _) ((y_add rfl rfl).lit (succ64 (by omega))) rfl ?_
            refine l_y (Cls.gs _ _) (y_move rfl) rfl ?_
            refine l_nil ?_
            refine e_again ((k2 + 1, takeI s2 c)) (⟨by dsimp only; omega, takeI_ok hm.2.1 c, by dsimp only; rw [ev2, evA_at hc, if_neg (ne_true_of_eq_false h7), List.append_nil]; exact same_snoc hm.2.2.1, by dsimp only; have := takeI_len s2 c; omega⟩) (by dsimp only; omega) (.c (t := 106) rfl (.c (t := 1) rfl (.c (t := 5) rfl (.c (t := 6) rfl (.c (t := 7) rfl (.c (t := 105) rfl .n)))))) (fun _ h => h.thin .r)
      · have hk2 : k2 = fl.length := by have := of_decide_eq_false h4; omega
        have hS2 := hm.2.2.1
        rw [hk2] at hS2
        refine c_exit ?_
        refine e_then_exit ?_
        refine e_then_exit ?_
        refine e_block_hit ?_
        refine e_then ?_
        refine CJ.weak (.c (t := 5) rfl (.c (t := 6) rfl .n)) (fun _ h => h) ?_
        refine c_seq ?_
        refine c_text ?_
        refine l_y (Cls.gs _ _) (y_move rfl) rfl ?_
        refine l_n rfl (n_callTL ent16 rfl (.k (.k .z)) (.c rfl .n) (fun w' hw' => valid16 ia.1 ia.2.1 ia.2.2 s1 hj.2.1 (by omega) w' (cls_hole hw' (.k (.k .z))).1 (cls_hole hw' (.k (.k .z))).2) rfl) (fun xs hxs => ?_)
        refine l_y (Cls.gs _ _) (y_move rfl) rfl ?_
        refine l_n rfl (n_callTL ent16 rfl (.k .h) (.c rfl .n) (fun w' hw' => valid16 ic.1 ic.2.1 ic.2.2 s2 hm.2.1 (by omega) w' (cls_hole hw' (.k .h)).1 (cls_hole hw' (.k .h)).2) rfl) (fun ys hys => ?_)
        refine l_y (Cls.gs _ _) (y_call ent15 (.c rfl (.c rfl .n)) (fun w' hw' => equal15v xs.2 xs.1 ys.1 hxs.1 hys.1 hxs.2.1 (by rw [hys.2.1, same_lists hj.2.1 hm.2.1 hS1 hS2 (mem_ev2' (fun hne => by have := List.length_pos_iff.2 hne; have := Int.emod_nonneg x (show (fl.length : Int) ≠ 0 by omega); have := Int.emod_lt_of_pos x (show (0 : Int) < fl.length by omega); omega)) hxs.2.2.1 hys.2.2.1 hxs.2.2.2 hys.2.2.2]) (by rw [hxs.2.2.2.length_eq, List.length_map]; omega) w' (fun p hp => hw'.loc p (by simp [hp])) (fun p hp => hw'.loc p (by simp [hp])))) rfl ?_
        refine l_y (Cls.gs _ _) (y_assign rfl) rfl ?_
        refine l_nil ?_
        refine e_then ?_
        refine CJ.weak (.c (t := 4) rfl .n) (fun _ h => h) ?_
        refine c_ret ?_
        refine e_ret rfl (.t rfl .n) (fun wF hw => ?_)
        exact ⟨rfl, (hw.anc (w, []) (by simp)).below⟩

end Go.Proofs.YtpjacndlbjeehaaGreatDoor
