/-
  TopAskedElsewhere: for every input that can be read the law returns true, and each argument reads afterwards as it read before. No condition.
-/
import Derived.Test.YtdpdahpkdimopaaGreatRows
import Derived.Test.YtdpdahpkdimopaaGreatQ0
import Derived.Test.YtdpdahpkdimopaaGreatQ27
import Derived.Test.YtdpdahpkdimopaaGreatQ28
import Derived.WalkKit
import Derived.ProofKit
import Derived.OpenShut
namespace Go.Proofs.YtdpdahpkdimopaaGreat
open Go Go.ChangeShapes Go.WideShapes Go.ChangeAt Go.RowKit Go.Px Sg
set_option linter.unusedVariables false
set_option maxRecDepth 100000 in
theorem lifted (os : Os) (started : os.Started) (H : Type) (enc : TypeId × Value → H) :
    ReturnsInHanded {} Tryz.checked os 3 .any (Rows.topAskedElsewhereSpec.pre6 enc Tryz.prog Tryz.f3 Rows.topAskedElsewhereRow.domain false) (Rows.topAskedElsewhereSpec.post enc Tryz.prog Tryz.f3 false true false false) := by
  refine returnsInHanded_of_change (C := Tryz.checked) ownT started (by kernel_rfl) Tryz.func3
    (ChangeSpec.witness6 (enc := enc) (C := Tryz.checked) false ⟨#[], #[.slice none 0 0, .agg #[.slice none 0 0, .int .i64 0, .int .i64 0, .int .i64 0, .int .i64 0], .int .i64 0, .int .i64 0, .int .i64 0, .int .i64 0], []⟩ 8 (by kernel_rfl) (by kernel_rfl) (by kernel_rfl) (by kernel_rfl)) ?_
  intro W base args ds gs before hval0 hW hcnd _
  have hval : ∀ (j : Nat) t v, Tryz.f3.params[j]? = some t → args[j]? = some v → Value.okWide Tryz.prog W .any base t v := hval0
  have hW' := hW
  have hlt := hW.lt
  obtain ⟨p, q, hA0, hV, rfl, hfz, hnd⟩ := hW
  have hA : DataW.TrodAll enc Tryz.prog W 0 (fun _ => true) true Tryz.f3.params.toList args.toList ds p := hA0
  have hAg := hA
  rw [Tryz.params3] at hA hval
  obtain ⟨v0, vs0, d0, ds0, p0, q0, hargs, rfl, rfl, h0, r0⟩ := trodAll_cons hA
  obtain ⟨v1, vs1, d1, ds1, p1, q1, rfl, rfl, rfl, h1, r1⟩ := trodAll_cons r0
  obtain ⟨v2, vs2, d2, ds2, p2, q2, rfl, rfl, rfl, h2, r2⟩ := trodAll_cons r1
  obtain ⟨v3, vs3, d3, ds3, p3, q3, rfl, rfl, rfl, h3, r3⟩ := trodAll_cons r2
  obtain ⟨v4, vs4, d4, ds4, p4, q4, rfl, rfl, rfl, h4, r4⟩ := trodAll_cons r3
  obtain ⟨v5, vs5, d5, ds5, p5, q5, rfl, rfl, rfl, h5, r5⟩ := trodAll_cons r4
  obtain ⟨rfl, rfl, rfl⟩ := trodAll_nil r5
  obtain rfl : args = #[v0, v1, v2, v3, v4, v5] := by cases args; simp_all
  obtain ⟨rfl, rfl⟩ := trodVars_none hV
  clear hA0 hval0
  obtain ⟨ms, ra, rc, rfl, hR⟩ := op_rows h0 (okWide_slice Tryz.underlying22 (hval 0 22 v0 rfl rfl))
  obtain ⟨qq, ca, cc, rfl, hI, hcl⟩ := op_ask h1 (okWide_struct Tryz.underlying27 (hval 1 27 v1 rfl rfl))
  obtain ⟨i2, rfl, w2⟩ := op_num h2 (okWide_int Tryz.underlying3 (hval 2 3 v2 rfl rfl))
  obtain ⟨i3, rfl, w3⟩ := op_num h3 (okWide_int Tryz.underlying3 (hval 3 3 v3 rfl rfl))
  obtain ⟨i4, rfl, w4⟩ := op_num h4 (okWide_int Tryz.underlying3 (hval 4 3 v4 rfl rfl))
  obtain ⟨i5, rfl, w5⟩ := op_num h5 (okWide_int Tryz.underlying3 (hval 5 3 v5 rfl rfl))
  refine (top3 ms ra rc qq ca cc i2 i3 i4 i5 hcl w2 w3 w4 w5 W hR hI).mono fun e W' ⟨he, hg⟩ => ?_
  subst he
  refine ⟨_, rfl, _, _, _, [], _, _, hW', trodAll_cons_mk (shut_bool Tryz.underlying4 _) trodAll_mk0, trodAll_again (enc := enc) hg hAg (by decide +kernel) (fun x hx => hlt x (by simpa using hx)), rfl, kept_of_gr hg _, fun h => by cases h⟩
theorem over : Rows.topAskedElsewhereRow.holds Tryz.pinned (OpenSpec.ofChange Rows.topAskedElsewhereSpec) :=
  OpenClaim.holds_of_wide 3 Tryz.f3 rfl rfl rfl rfl rfl rfl rfl ⟨rfl, rfl, rfl, rfl, rfl⟩ rfl rfl rfl rfl rfl (by kernel_rfl) Tryz.func3 (by kernel_rfl)
    (of_decide_eq_true (by kernel_rfl)) (by unfold Func.isWrapper; first | (rw [if_pos (by decide +kernel)]; kernel_rfl) | (rw [if_neg (by decide +kernel)]; exact ⟨rfl, rfl⟩))
    (fun os started H enc _ => lifted os started H enc)
theorem topAskedElsewhere_holds : Rows.TopAskedElsewhereSaid := over
#print axioms topAskedElsewhere_holds
end Go.Proofs.YtdpdahpkdimopaaGreat
