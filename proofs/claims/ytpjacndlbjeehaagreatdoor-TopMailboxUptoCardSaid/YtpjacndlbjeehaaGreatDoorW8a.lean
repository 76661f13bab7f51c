/-
  The closure that Unpack defers turns nothing where Unpack returns.
-/
import Derived.Test.YtpjacndlbjeehaaGreatDoorPf
import Derived.Test.YtpjacndlbjeehaaGreatDoorM4
import Derived.Test.YtpjacndlbjeehaaGreatDoorW7
import Derived.Tactics
set_option linter.unusedVariables false
set_option linter.unusedSimpArgs false
namespace Go.Proofs.YtpjacndlbjeehaaGreatDoor
open Go Go.Px Mb
set_option maxRecDepth 100000
theorem idle30 (p q r : Value) : Idle Tryz.prog 30 [p, q, r] := by
  refine fun w => callsD_of_wpS Tryz.func30 rfl fun c₀ cs hu => ?_
  apply wpS_seq
  apply wpS_region
  simp [wpOpsS, go_sem, recoverD, hu, Exit.thenS]
  refine wpS_of_wp ?_
  refine (?_ : CJ Tryz.prog _ _ 14 [] [(6, .nilIface)] (Cls [(w, [])] [])) _ w ⟨by simp, rfl, fun t v ht => ?_⟩ (Cls.start w)
  · refine c_block ?_
    refine c_seq ?_
    refine c_text ?_
    refine l_y (Cls.gs _ _) (y_bin (r := .bool true) rfl rfl (fun w => by rw [eqGuard_nil_constR]; rfl) fun w => by kernel_rfl) rfl ?_
    refine l_nil ?_
    refine e_then ?_
    refine c_true rfl ?_
    refine c_text ?_
    refine l_y (Cls.gs _ _) (y_assign rfl) rfl ?_
    refine l_nil ?_
    refine e_block ?_
    intro a w' ha hw
    exact ⟨ha.dfs, .returning, by cases c₀; simp_all, _, results_run (rs := []) (vs := []) rfl ha hw .n, ⟨_, rfl⟩, rfl, (hw.anc (w, []) (by simp)).below⟩
  · have ht : (bif Nat.beq 6 t then some Value.nilIface else none) = some v := ht
    cases hb : Nat.beq 6 t with
    | true =>
      have : 6 = t := Nat.eq_of_beq_eq_true hb
      subst this
      have ht : some Value.nilIface = some v := ht
      cases ht
      rfl
    | false => rw [hb] at ht; exact absurd ht (by simp)
end Go.Proofs.YtpjacndlbjeehaaGreatDoor
