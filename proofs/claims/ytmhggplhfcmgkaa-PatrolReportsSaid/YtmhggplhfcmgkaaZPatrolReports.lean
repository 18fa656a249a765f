/- The law PatrolReports is true of the program: for every input it returns true, and the input reads afterwards as it did. No condition. -/
import Derived.Test.YtmhggplhfcmgkaaRows
import Derived.Test.YtmhggplhfcmgkaaMPatrolReports20
import Derived.Test.YtmhggplhfcmgkaaM2
import Derived.Test.YtmhggplhfcmgkaaMPatrolReports19
import Derived.WalkKit
import Derived.ProofKit
import Derived.OpenShut
import Derived.ShutString
import Derived.ChangeOld
import Derived.Below
import Derived.SizedLaws
import Derived.Lib.SmallJoins
import Derived.Deep.Slices
namespace Go.Proofs.Ytmhggplhfcmgkaa.patrolReports
open Go.ChangeShapes Go.WideShapes Go.ChangeAt Go.RowKit Go.Proofs.YtmhggplhfcmgkaaW.PrintWords Go.Proofs.Ytmhggplhfcmgkaa.Q
open Go.ChangeMaps (open_string shut_string)
set_option linter.unusedVariables false
theorem own : ownKnob Try.prog.godebug = none := by kernel_rfl
theorem laidOut : laidOutB Try.prog = true := by kernel_rfl
set_option maxRecDepth 100000 in
theorem lifted (os : Os) (started : os.Started) (H : Type) (enc : TypeId × Value → H) :
    ReturnsInHanded {} Try.checked os 13 .any (Rows.patrolReportsSpec.pre6 enc Try.prog Try.f13 Rows.patrolReportsRow.domain false) (Rows.patrolReportsSpec.post enc Try.prog Try.f13 false true false false) := by
  refine returnsInHanded_of_change_sized (C := Try.checked) own started (by kernel_rfl) Try.func13
    (ChangeSpec.witness6 (enc := enc) (C := Try.checked) false ⟨#[], #[.agg #[.slice none 0 0, .slice none 0 0], .agg #[.int .i64 0, .int .i64 0, .int .i64 0], .int .i64 0], []⟩ 8 (by kernel_rfl) (by kernel_rfl) (by kernel_rfl) (by kernel_rfl)) ?_
  intro W base args ds gs before hval0 hW hcnd hsz0 _
  have hval : ∀ (j : Nat) t v, Try.f13.params[j]? = some t → args[j]? = some v → Value.okWide Try.prog W .any base t v := hval0
  have hW' := hW
  obtain ⟨p, q, hA0, hV, rfl, hfz, hnd⟩ := hW
  have hA : DataW.TrodAll enc Try.prog W 0 (fun _ => true) true Try.f13.params.toList args.toList ds p := hA0
  rw [Try.params13] at hA hval
  obtain ⟨v0, vs0, d0, ds0, p0, q0, hargs, rfl, rfl, h0, r0⟩ := trodAll_cons hA
  obtain ⟨v1, vs1, d1, ds1, p1, q1, rfl, rfl, rfl, h1, r1⟩ := trodAll_cons r0
  obtain ⟨v2, vs2, d2, ds2, p2, q2, rfl, rfl, rfl, h2, r2⟩ := trodAll_cons r1
  obtain ⟨rfl, rfl, rfl⟩ := trodAll_nil r2
  obtain rfl : args = #[v0, v1, v2] := by cases args; simp_all
  obtain ⟨rfl, rfl⟩ := trodVars_none hV
  have k0 := h0
  have lt0 : ∀ x ∈ p0, x.block < W.heap.size := by obtain ⟨m, hm⟩ := k0; exact DataW.trod_lt m _ _ _ hm
  obtain ⟨c0_0, c0_1, y0_0, y0_1, m0, rfl, _, _, g0_0, g0_1⟩ := Go.Joins.open_agg2 Try.underlying48 (by kernel_rfl) (by kernel_rfl) (hval 0 48 v0 rfl rfl) h0
  obtain ⟨A0_0, cc0_0, l0_0, e0_0, hc0_0, hr0_0, w0_0⟩ := opn_val opnLists g0_0
  subst e0_0
  obtain ⟨A0_1, cc0_1, l0_1, e0_1, hc0_1, hr0_1, w0_1⟩ := opn_val opnHaz g0_1
  subst e0_1
  have k1 := h1
  have lt1 : ∀ x ∈ p1, x.block < W.heap.size := by obtain ⟨m, hm⟩ := k1; exact DataW.trod_lt m _ _ _ hm
  obtain ⟨c1_0, c1_1, c1_2, y1_0, y1_1, y1_2, m1, rfl, _, _, g1_0, g1_1, g1_2⟩ := Go.Joins.open_agg3 Try.underlying56 (by kernel_rfl) (by kernel_rfl) (hval 1 56 v1 rfl rfl) h1
  obtain ⟨a1_0, ek1_0, w1_0⟩ := (opn_int Try.underlying3) g1_0
  obtain rfl : c1_0 = .int .i64 a1_0 := by simpa using (show [c1_0] = [Value.int .i64 a1_0] from ek1_0)
  clear ek1_0
  obtain ⟨a1_1, ek1_1, w1_1⟩ := (opn_int Try.underlying3) g1_1
  obtain rfl : c1_1 = .int .i64 a1_1 := by simpa using (show [c1_1] = [Value.int .i64 a1_1] from ek1_1)
  clear ek1_1
  obtain ⟨a1_2, ek1_2, w1_2⟩ := (opn_int Try.underlying3) g1_2
  obtain rfl : c1_2 = .int .i64 a1_2 := by simpa using (show [c1_2] = [Value.int .i64 a1_2] from ek1_2)
  clear ek1_2
  obtain ⟨a2, rfl, rfl, rfl, w2⟩ := open_int Try.underlying3 (hval 2 3 v2 rfl rfl) h2
  obtain ⟨k, hk⟩ := Go.Proofs.Ytmhggplhfcmgkaa.Q.PatrolReports_pure l0_0 l0_1 a1_0 a1_1 a1_2 a2 w0_0 w0_1 w1_0 w1_1 w1_2 w2
  clear hA0 hval0 hsz0
  refine (skiarealaw53_PatrolReports.calls k _ _ l0_0 _ _ l0_1 a1_0 a1_1 a1_2 a2 W hr0_0 hc0_0 hr0_1 hc0_1 hk).mono fun e W' ⟨he, bel⟩ => ?_
  subst he
  exact ⟨_, rfl, _, _, _, [], _, [], hW', trodAll_mk1 (shut_bool Try.underlying4 _), (trodAll_cons_mk (Below.trod laidOut (by kernel_rfl) (of_decide_eq_true (by kernel_rfl)) k0 bel lt0) (trodAll_cons_mk (Below.trod laidOut (by kernel_rfl) (of_decide_eq_true (by kernel_rfl)) k1 bel lt1) (trodAll_cons_mk (shut_int Try.underlying3 w2) trodAll_mk0))), rfl, bel.frame _, fun h => by cases h⟩
theorem over : Rows.patrolReportsRow.holds Try.pinned (OpenSpec.ofChange Rows.patrolReportsSpec) :=
  OpenClaim.holds_of_wide 13 Try.f13 rfl rfl rfl rfl rfl rfl rfl ⟨rfl, rfl, rfl, rfl, rfl⟩ rfl rfl rfl rfl rfl (by kernel_rfl) Try.func13 (by kernel_rfl)
    (of_decide_eq_true (by kernel_rfl)) (by unfold Func.isWrapper; first | (rw [if_pos (by decide +kernel)]; kernel_rfl) | (rw [if_neg (by decide +kernel)]; exact ⟨rfl, rfl⟩))
    (fun os started H enc _ => lifted os started H enc)
theorem proved : Rows.PatrolReportsSaid := over
#print axioms proved
end Go.Proofs.Ytmhggplhfcmgkaa.patrolReports
namespace Go.Proofs.Ytmhggplhfcmgkaa
/-- The row, under a short name, for the claim. -/
theorem patrolReports_holds : Rows.PatrolReportsSaid := patrolReports.proved
end Go.Proofs.Ytmhggplhfcmgkaa

