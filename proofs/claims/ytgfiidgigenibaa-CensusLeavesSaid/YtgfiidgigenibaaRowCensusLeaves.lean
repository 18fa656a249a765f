/- The law CensusLeaves is true of the program: for every input it returns true, and the input reads afterwards as it did. No condition. -/
import Derived.Test.YtgfiidgigenibaaRows
import Derived.Test.YtgfiidgigenibaaPCensusLeaves
import Derived.Test.YtgfiidgigenibaaOpn
import Derived.Test.YtgfiidgigenibaaA7
import Derived.WalkKit
import Derived.ProofKit
import Derived.OpenShut
import Derived.ShutString
import Derived.ChangeOld
import Derived.Below
import Derived.SizedLaws
import Derived.Lib.SmallJoins
import Derived.Deep.Slices
namespace Go.Proofs.Ytgfiidgigenibaa.censusLeaves
open Go.ChangeShapes Go.WideShapes Go.ChangeAt Go.RowKit Go.Proofs.YtgfiidgigenibaaW.PrintWords Go.Proofs.Ytgfiidgigenibaa.Q
open Go.ChangeMaps (open_string shut_string)
set_option linter.unusedVariables false
theorem own : ownKnob Try.prog.godebug = none := by kernel_rfl
theorem laidOut : laidOutB Try.prog = true := by kernel_rfl
set_option maxRecDepth 100000 in
theorem lifted (os : Os) (started : os.Started) (H : Type) (enc : TypeId × Value → H) :
    ReturnsInHanded {} Try.checked os 7 .any (Rows.censusLeavesSpec.pre6 enc Try.prog Try.f7 Rows.censusLeavesRow.domain false) (Rows.censusLeavesSpec.post enc Try.prog Try.f7 false true false false) := by
  refine returnsInHanded_of_change_sized (C := Try.checked) own started (by kernel_rfl) Try.func7
    (ChangeSpec.witness6 (enc := enc) (C := Try.checked) false ⟨#[], #[.agg #[.slice none 0 0, .slice none 0 0, .slice none 0 0, .slice none 0 0], .slice none 0 0, .agg #[.int .i64 0, .int .i64 0]], []⟩ 8 (by kernel_rfl) (by kernel_rfl) (by kernel_rfl) (by kernel_rfl)) ?_
  intro W base args ds gs before hval0 hW hcnd hsz0 _
  have hval : ∀ (j : Nat) t v, Try.f7.params[j]? = some t → args[j]? = some v → Value.okWide Try.prog W .any base t v := hval0
  have hW' := hW
  obtain ⟨p, q, hA0, hV, rfl, hfz, hnd⟩ := hW
  have hA : DataW.TrodAll enc Try.prog W 0 (fun _ => true) true Try.f7.params.toList args.toList ds p := hA0
  rw [Try.params7] at hA hval
  obtain ⟨v0, vs0, d0, ds0, p0, q0, hargs, rfl, rfl, h0, r0⟩ := trodAll_cons hA
  obtain ⟨v1, vs1, d1, ds1, p1, q1, rfl, rfl, rfl, h1, r1⟩ := trodAll_cons r0
  obtain ⟨v2, vs2, d2, ds2, p2, q2, rfl, rfl, rfl, h2, r2⟩ := trodAll_cons r1
  obtain ⟨rfl, rfl, rfl⟩ := trodAll_nil r2
  obtain rfl : args = #[v0, v1, v2] := by cases args; simp_all
  obtain ⟨rfl, rfl⟩ := trodVars_none hV
  have k0 := h0
  have lt0 : ∀ x ∈ p0, x.block < W.heap.size := by obtain ⟨m, hm⟩ := k0; exact DataW.trod_lt m _ _ _ hm
  obtain ⟨c0_0, c0_1, c0_2, c0_3, y0_0, y0_1, y0_2, y0_3, m0, rfl, _, _, g0_0, g0_1, g0_2, g0_3⟩ := Go.Joins.open_agg4 Try.underlying38 (by kernel_rfl) (by kernel_rfl) (hval 0 38 v0 rfl rfl) h0
  obtain ⟨A0_0, cc0_0, l0_0, e0_0, hc0_0, hr0_0, w0_0⟩ := opn_val opnNodes g0_0
  subst e0_0
  obtain ⟨A0_1, cc0_1, l0_1, e0_1, hc0_1, hr0_1, w0_1⟩ := opn_val opnLifts g0_1
  subst e0_1
  obtain ⟨A0_2, cc0_2, l0_2, e0_2, hc0_2, hr0_2, w0_2⟩ := opn_val opnRuns g0_2
  subst e0_2
  obtain ⟨A0_3, cc0_3, l0_3, e0_3, hc0_3, hr0_3, w0_3⟩ := opn_val opnInts g0_3
  subst e0_3
  have k1 := h1
  have lt1 : ∀ x ∈ p1, x.block < W.heap.size := by obtain ⟨m, hm⟩ := k1; exact DataW.trod_lt m _ _ _ hm
  obtain ⟨ad1, ln1, cp1, rfl⟩ := okWide_slice Try.underlying36 (hval 1 36 v1 rfl rfl)
  obtain ⟨fu1, g1⟩ := h1
  have g1' : DataW.trod enc Try.prog W 0 (fun _ => true) true fu1 36 [Value.slice ad1 ln1 cp1] = some (d1, p1) := by simpa [Value.cells] using g1
  obtain ⟨A1, cc1, l1, e1, hc1, hr1, w1⟩ := opn_val opnInts g1'
  injection e1 with qa1 qb1 qc1
  subst qa1 qb1 qc1
  have k2 := h2
  have lt2 : ∀ x ∈ p2, x.block < W.heap.size := by obtain ⟨m, hm⟩ := k2; exact DataW.trod_lt m _ _ _ hm
  obtain ⟨a2_0, a2_1, rfl, w2_0, w2_1⟩ := open_arr2 Try.underlying53 Try.underlying3 (by kernel_rfl) (by kernel_rfl) (hval 2 53 v2 rfl rfl) h2
  obtain ⟨k, hk⟩ := Go.Proofs.Ytgfiidgigenibaa.Q.CensusLeaves_pure l0_0 l0_1 l0_2 l0_3 l1 a2_0 a2_1 w0_0 w0_1 w0_2 w0_3 w1 w2_0 w2_1
  clear hA0 hval0 hsz0
  refine (skiarealaw55_CensusLeaves.calls k _ _ l0_0 _ _ l0_1 _ _ l0_2 _ _ l0_3 _ _ l1 a2_0 a2_1 W hr0_0 hc0_0 hr0_1 hc0_1 hr0_2 hc0_2 hr0_3 hc0_3 hr1 hc1 hk).mono fun e W' ⟨he, bel⟩ => ?_
  subst he
  exact ⟨_, rfl, _, _, _, [], _, [], hW', trodAll_mk1 (shut_bool Try.underlying4 _), (trodAll_cons_mk (Below.trod laidOut (by kernel_rfl) (of_decide_eq_true (by kernel_rfl)) k0 bel lt0) (trodAll_cons_mk (Below.trod laidOut (by kernel_rfl) (of_decide_eq_true (by kernel_rfl)) k1 bel lt1) (trodAll_cons_mk (Below.trod laidOut (by kernel_rfl) (of_decide_eq_true (by kernel_rfl)) k2 bel lt2) trodAll_mk0))), rfl, bel.frame _, fun h => by cases h⟩
theorem over : Rows.censusLeavesRow.holds Try.pinned (OpenSpec.ofChange Rows.censusLeavesSpec) :=
  OpenClaim.holds_of_wide 7 Try.f7 rfl rfl rfl rfl rfl rfl rfl ⟨rfl, rfl, rfl, rfl, rfl⟩ rfl rfl rfl rfl rfl (by kernel_rfl) Try.func7 (by kernel_rfl)
    (of_decide_eq_true (by kernel_rfl)) (by unfold Func.isWrapper; first | (rw [if_pos (by decide +kernel)]; kernel_rfl) | (rw [if_neg (by decide +kernel)]; exact ⟨rfl, rfl⟩))
    (fun os started H enc _ => lifted os started H enc)
theorem proved : Rows.CensusLeavesSaid := over
#print axioms proved
end Go.Proofs.Ytgfiidgigenibaa.censusLeaves
namespace Go.Proofs.Ytgfiidgigenibaa
/-- The row, under a short name, for the claim. -/
theorem censusLeaves_holds : Rows.CensusLeavesSaid := censusLeaves.proved
end Go.Proofs.Ytgfiidgigenibaa

