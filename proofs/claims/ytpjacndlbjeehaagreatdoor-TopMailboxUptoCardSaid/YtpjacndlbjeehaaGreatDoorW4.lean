/-
  A part of the proof of TopMailbox: walks of single functions, and plain facts.
-/
import Derived.Test.YtpjacndlbjeehaaGreatDoorPf
import Derived.Test.YtpjacndlbjeehaaGreatDoorMK
import Derived.Test.YtpjacndlbjeehaaGreatDoorW3
import Derived.KernelRfl
set_option linter.unusedVariables false
set_option linter.unusedSimpArgs false
set_option maxRecDepth 100000
namespace Go.Proofs.YtpjacndlbjeehaaGreatDoor
open Go Go.Px Mb
theorem nodup_le {α : Type} {l ls : List α} (hn : l.Nodup) (h : ∀ x ∈ l, x ∈ ls) : l.length ≤ ls.length := by
  induction l generalizing ls with
  | nil => simp
  | cons x l ih =>
    obtain ⟨a, b, rfl⟩ := List.append_of_mem (h x (by simp))
    rw [List.nodup_cons] at hn
    have := ih (ls := a ++ b) hn.2 fun y hy => by
      have h1 := h y (by simp [hy])
      have h2 : y ≠ x := fun e => hn.1 (e ▸ hy)
      simp only [List.mem_append, List.mem_cons] at h1 ⊢
      rcases h1 with h1 | h1 | h1
      · exact .inl h1
      · exact absurd h1 h2
      · exact .inr h1
    simp only [List.length_append, List.length_cons] at this ⊢
    omega
theorem perm_of_nodup {α : Type} {l l' : List α} (h1 : l.Nodup) (h2 : l'.Nodup) (h : ∀ x, x ∈ l ↔ x ∈ l') : l.Perm l' := by
  classical
  exact (List.perm_ext_iff_of_nodup h1 h2).2 h
theorem nodup_of_map {α β : Type} {f : α → β} {l : List α} (h : (l.map f).Nodup) : l.Nodup := by
  induction l with
  | nil => simp
  | cons x l ih =>
    rw [List.map_cons, List.nodup_cons] at h
    rw [List.nodup_cons]
    exact ⟨fun hx => h.1 (List.mem_map.2 ⟨x, hx, rfl⟩), ih h.2⟩
theorem valid16 (xb vb gb : Nat) (s : IB) (hs : IBOK s) (hl : s.1.1.length < 1000000000) (w : World) (hown : ∀ p ∈ ibOwn xb vb gb s, w.heap[p.1]? = some p.2) (hnd : ((ibOwn xb vb gb s).map (·.1)).Nodup) : TurnsL Tryz.prog 16 [ptrV xb] w (ibOwn xb vb gb s) (fun x : Vec × List Int => x.1.val) (fun x => ibOwn xb vb gb s ++ x.1.own) (fun x => VecOK 1 3 x.1 ∧ x.1.es = x.2.map idx ∧ x.2.Pairwise (· ≤ ·) ∧ x.2.Perm (s.1.1.map (·.1))) := by
  refine enter Tryz.func16 rfl rfl rfl rfl (Cls.startL hown hnd) ?_
  refine c_seq ?_
  refine c_text ?_
  refine l_y (Cls.gs _ _) (y_assign rfl) rfl ?_
  refine l_nil ?_
  refine e_then ?_
  refine CJ.weak (.c (t := 0) rfl .n) (fun _ h => h) ?_
  refine c_seq ?_
  refine c_text ?_
  refine l_y (Cls.gs _ _) (y_assign rfl) rfl ?_
  refine l_nil ?_
  refine e_then ?_
  refine c_seq ?_
  refine c_seq ?_
  refine c_text ?_
  refine l_y (Cls.gs _ _) (y_move rfl) rfl ?_
  refine l_y (Cls.gs _ _) (y_nilCheck rfl) rfl ?_
  refine l_y (Cls.gs _ _) (y_fieldAddr rfl fa57_0) rfl ?_
  refine l_y (Cls.gs _ _) (y_load rfl (LoadAt.oneL .z ty55 .z)) rfl ?_
  refine l_n rfl (n_rangeT Tryz.underlying55 (.s .z) rfl rfl) (fun it _ => ?_)
  refine l_nil ?_
  refine e_then ?_
  refine CJ.weak (.c (t := 3) rfl (.c (t := 9) rfl .n)) (fun _ h => h) ?_
  refine c_block ?_
  refine CJ.weak (.c (t := 3) rfl (.c (t := 9) rfl .n)) (fun _ h => h) ?_
  refine c_loopV (fun y : Vec × List KB => VecOK 1 3 y.1 ∧ y.1.es = (y.2.map (·.1)).map idx ∧ y.2.Nodup ∧ ∀ p ∈ y.2, p ∈ s.1.1) (fun y => [(3, y.1.val)]) (fun y => (it, itT vb s.1.2 y.2) :: (xb, blk [.map (some vb), .map (some gb)] 57) :: (vb, mObjT s.1.1 s.1.2) :: (gb, mObjT s.2.1 s.2.2) :: y.1.own) (fun y => s.1.1.length - y.2.length) ((Vec.nil, [])) (⟨.nil, rfl, by simp, by simp⟩) .z ?_
  rintro ⟨l, vis⟩ hk
  dsimp only at hk
  refine c_seq ?_
  refine c_text ?_
  refine l_n rfl (n_nextT hs.v hk.2.2.2 (.s (.s .z)) (fun _ => .z) rfl rfl) (fun o ho => ?_)
  refine l_y (Cls.gs _ _) (y_nextOk rfl) rfl ?_
  refine l_nil ?_
  refine e_then ?_
  refine CJ.weak (.c (t := 3) rfl (.c (t := 9) rfl (.c (t := 11) rfl .n))) (fun _ h => h) ?_
  refine c_seq ?_
  refine c_cond rfl (fun h0 => ?_) (fun h0 => ?_)
  · rcases ho with ⟨rfl, _⟩ | ⟨p, rfl, hp, hpv⟩
    · simp at h0
    have hnd2 : (vis ++ [p]).Nodup := by rw [List.nodup_append]; exact ⟨hk.2.2.1, by simp, fun a ha b hb => by simp at hb; subst hb; exact fun e => hpv (e ▸ ha)⟩
    refine c_skip ?_
    refine e_then ?_
    refine CJ.weak (.c (t := 3) rfl (.c (t := 9) rfl .n)) (fun _ h => h) ?_
    refine c_block ?_
    refine c_seq ?_
    refine c_text ?_
    refine l_y (Cls.gs _ _) (y_entryT (vis := vis) hs.v hp (.s (.s .z)) .z rfl) rfl ?_
    refine l_y (Cls.gs _ _) (y_extract rfl .z) rfl ?_
    refine l_y (Cls.gs _ _) (y_assign rfl) rfl ?_
    refine l_nil ?_
    refine e_then ?_
    refine CJ.weak (.c (t := 3) rfl (.c (t := 4) rfl (.c (t := 9) rfl .n))) (fun _ h => h) ?_
    refine c_text ?_
    refine l_y (Cls.gs _ _) (y_move rfl) rfl ?_
    refine l_y (Cls.gs _ _) (y_move rfl) rfl ?_
    refine l_n rfl (n_buildSlice (l := [.int .i64 0]) Tryz.underlying52 ty3 (.o rfl) rfl (by simp) (by kernel_rfl) (.c rfl .n) (.c rfl (.o rfl) rfl rfl (.t .d) .d) rfl) (fun b0 _ => ?_)
    refine l_n rfl (n_append1 (v := l) 140000 Tryz.underlying52 ti3 hk.1 (.c (.c (.c (.c (.c .z))))) rfl rfl .z rfl rfl (by have e := congrArg List.length hk.2.1; have := nodup_le hk.2.2.1 hk.2.2.2; simp only [List.length_map] at e; show l.es.length < 1000000000; omega) rfl rfl) (fun l1 hl1 => ?_)
    refine l_y (Cls.gs _ _) (y_assign rfl) rfl ?_
    refine l_nil ?_
    refine e_block ?_
    refine e_again ((l1, vis ++ [p])) (⟨hl1.1, by dsimp only; rw [hl1.2, hk.2.1]; simp, hnd2, fun q hq => by rcases List.mem_append.1 hq with hq | hq; exact hk.2.2.2 q hq; obtain rfl := List.mem_singleton.1 hq; exact hp⟩) (by have := nodup_le hnd2 (ls := s.1.1) (fun q hq => by rcases List.mem_append.1 hq with hq | hq; exact hk.2.2.2 q hq; obtain rfl := List.mem_singleton.1 hq; exact hp); simp only [List.length_append, List.length_singleton] at this ⊢; omega) (.c (t := 3) rfl (.c (t := 9) rfl .n)) (fun _ h => h.thin (.d .r))
  · rcases ho with ⟨rfl, hall⟩ | ⟨p, rfl, _, _⟩
    rotate_left
    · simp at h0
    have hvl := nodup_le hk.2.2.1 hk.2.2.2
    refine c_exit ?_
    refine e_then_exit ?_
    refine e_then_exit ?_
    refine e_block_hit ?_
    refine e_then ?_
    refine CJ.weak (.c (t := 3) rfl .n) (fun _ h => h) ?_
    refine c_seq ?_
    refine c_text ?_
    refine l_y (Cls.gs _ _) (y_move rfl) rfl ?_
    refine l_n rfl (n_callTV (v := l) ent48 (.c (.c (.c (.c .z)))) (.c rfl .n) (fun w' hw' => sort48 (vis.map (·.1)) l hk.1 hk.2.1 (by rw [List.length_map]; omega) w' (Cls.ownV hk.1 hw' (.c (.c (.c (.c .z)))))) rfl) (fun xs hxs => ?_)
    refine l_nil ?_
    refine e_then ?_
    refine CJ.weak (.c (t := 3) rfl .n) (fun _ h => h) ?_
    refine c_seq ?_
    refine c_text ?_
    refine l_y (Cls.gs _ _) (y_move rfl) rfl ?_
    refine l_y (Cls.gs _ _) (y_assign rfl) rfl ?_
    refine l_nil ?_
    refine e_then ?_
    refine CJ.weak (.c (t := 2) rfl .n) (fun _ h => h) ?_
    refine c_ret ?_
    refine e_ret rfl (.t rfl .n) (fun wF hw => ?_)
    have hw := hw.thin (.d .r)
    have T := Cls.turnedL (r := ibOwn xb vb gb s) (r' := ibOwn xb vb gb s ++ xs.own) (F := fun r => r) (L := ibOwn xb vb gb s ++ xs.own) hw .z .z
    refine ⟨(xs, (vis.map (·.1)).mergeSort fun x y => decide (x ≤ y)), congrArg (fun v => Ending.returned v) hxs.2.1.symm, T.1, T.2.1, T.2.2, hxs.1, hxs.2.2, ?_, ?_⟩
    · have := List.pairwise_mergeSort (le := fun x y : Int => decide (x ≤ y)) (fun a b c h1 h2 => by simp at *; omega) (fun a b => by simp; omega) (vis.map (·.1))
      exact this.imp (fun h => by simpa using h)
    · exact (List.mergeSort_perm _ _).trans (List.Perm.map _ (perm_of_nodup hk.2.2.1 (nodup_of_map hs.v.nk) fun p => ⟨hk.2.2.2 p, hall p⟩))

end Go.Proofs.YtpjacndlbjeehaaGreatDoor
