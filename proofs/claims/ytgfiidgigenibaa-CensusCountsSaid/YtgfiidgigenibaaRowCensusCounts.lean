/- The law CensusCounts is true of the program: for every input it returns true, and the input reads afterwards as it did. No condition. -/
import Derived.Test.YtgfiidgigenibaaRows
import Derived.Test.YtgfiidgigenibaaPCensusCounts
import Derived.Test.YtgfiidgigenibaaOpn
import Derived.Test.YtgfiidgigenibaaA6
import Derived.WalkKit
import Derived.ProofKit
import Derived.OpenShut
import Derived.ShutString
import Derived.ChangeOld
import Derived.Below
import Derived.SizedLaws
import Derived.Lib.SmallJoins
import Derived.Deep.Slices
namespace Go.Proofs.Ytgfiidgigenibaa.censusCounts
open Go.ChangeShapes Go.WideShapes Go.ChangeAt Go.RowKit Go.Proofs.YtgfiidgigenibaaW.PrintWords Go.Proofs.Ytgfiidgigenibaa.Q
open Go.ChangeMaps (open_string shut_string)
set_option linter.unusedVariables false
theorem own : ownKnob Try.prog.godebug = none := by kernel_rfl
theorem laidOut : laidOutB Try.prog = true := by kernel_rfl
set_option maxRecDepth 100000 in
theorem lifted (os : Os) (started : os.Started) (H : Type) (enc : TypeId × Value → H) :
    ReturnsInHanded {} Try.checked os 6 .any (Rows.censusCountsSpec.pre6 enc Try.prog Try.f6 Rows.censusCountsRow.domain false) (Rows.censusCountsSpec.post enc Try.prog Try.f6 false true false false) := by
  refine returnsInHanded_of_change_sized (C := Try.checked) own started (by kernel_rfl) Try.func6
    (ChangeSpec.witness6 (enc := enc) (C := Try.checked) false ⟨#[], #[.slice none 0 0, .agg #[.int .i64 0, .int .i64 0, .int .i64 0], .agg #[.int .i64 0, .int .i64 0]], []⟩ 8 (by kernel_rfl) (by kernel_rfl) (by kernel_rfl) (by kernel_rfl)) ?_
  intro W base args ds gs before hval0 hW hcnd hsz0 _
  have hval : ∀ (j : Nat) t v, Try.f6.params[j]? = some t → args[j]? = some v → Value.okWide Try.prog W .any base t v := hval0
  have hW' := hW
  obtain ⟨p, q, hA0, hV, rfl, hfz, hnd⟩ := hW
  have hA : DataW.TrodAll enc Try.prog W 0 (fun _ => true) true Try.f6.params.toList args.toList ds p := hA0
  rw [Try.params6] at hA hval
  obtain ⟨v0, vs0, d0, ds0, p0, q0, hargs, rfl, rfl, h0, r0⟩ := trodAll_cons hA
  obtain ⟨v1, vs1, d1, ds1, p1, q1, rfl, rfl, rfl, h1, r1⟩ := trodAll_cons r0
  obtain ⟨v2, vs2, d2, ds2, p2, q2, rfl, rfl, rfl, h2, r2⟩ := trodAll_cons r1
  obtain ⟨rfl, rfl, rfl⟩ := trodAll_nil r2
  obtain rfl : args = #[v0, v1, v2] := by cases args; simp_all
  obtain ⟨rfl, rfl⟩ := trodVars_none hV
  have k0 := h0
  have lt0 : ∀ x ∈ p0, x.block < W.heap.size := by obtain ⟨m, hm⟩ := k0; exact DataW.trod_lt m _ _ _ hm
  obtain ⟨ad0, ln0, cp0, rfl⟩ := okWide_slice Try.underlying22 (hval 0 22 v0 rfl rfl)
  obtain ⟨fu0, g0⟩ := h0
  have g0' : DataW.trod enc Try.prog W 0 (fun _ => true) true fu0 22 [Value.slice ad0 ln0 cp0] = some (d0, p0) := by simpa [Value.cells] using g0
  obtain ⟨A0, cc0, l0, e0, hc0, hr0, w0⟩ := opn_val opnCross g0'
  injection e0 with qa0 qb0 qc0
  subst qa0 qb0 qc0
  have k1 := h1
  have lt1 : ∀ x ∈ p1, x.block < W.heap.size := by obtain ⟨m, hm⟩ := k1; exact DataW.trod_lt m _ _ _ hm
  obtain ⟨a1_0, a1_1, a1_2, rfl, w1_0, w1_1, w1_2⟩ := open_arr3 Try.underlying50 Try.underlying3 (by kernel_rfl) (by kernel_rfl) (hval 1 50 v1 rfl rfl) h1
  have k2 := h2
  have lt2 : ∀ x ∈ p2, x.block < W.heap.size := by obtain ⟨m, hm⟩ := k2; exact DataW.trod_lt m _ _ _ hm
  obtain ⟨c2_0, c2_1, y2_0, y2_1, m2, rfl, _, _, g2_0, g2_1⟩ := Go.Joins.open_agg2 Try.underlying31 (by kernel_rfl) (by kernel_rfl) (hval 2 31 v2 rfl rfl) h2
  obtain ⟨a2_0, ek2_0, w2_0⟩ := (opn_int Try.underlying3) g2_0
  obtain rfl : c2_0 = .int .i64 a2_0 := by simpa using (show [c2_0] = [Value.int .i64 a2_0] from ek2_0)
  clear ek2_0
  obtain ⟨a2_1, ek2_1, w2_1⟩ := (opn_int Try.underlying3) g2_1
  obtain rfl : c2_1 = .int .i64 a2_1 := by simpa using (show [c2_1] = [Value.int .i64 a2_1] from ek2_1)
  clear ek2_1
  obtain ⟨k, hk⟩ := Go.Proofs.Ytgfiidgigenibaa.Q.CensusCounts_pure l0 a1_0 a1_1 a1_2 a2_0 a2_1 w0 w1_0 w1_1 w1_2 w2_0 w2_1
  clear hA0 hval0 hsz0
  refine (skiarealaw55_CensusCounts.calls k _ _ l0 a1_0 a1_1 a1_2 a2_0 a2_1 W hr0 hc0 hk).mono fun e W' ⟨he, bel⟩ => ?_
  subst he
  exact ⟨_, rfl, _, _, _, [], _, [], hW', trodAll_mk1 (shut_bool Try.underlying4 _), (trodAll_cons_mk (Below.trod laidOut (by kernel_rfl) (of_decide_eq_true (by kernel_rfl)) k0 bel lt0) (trodAll_cons_mk (Below.trod laidOut (by kernel_rfl) (of_decide_eq_true (by kernel_rfl)) k1 bel lt1) (trodAll_cons_mk (Below.trod laidOut (by kernel_rfl) (of_decide_eq_true (by kernel_rfl)) k2 bel lt2) trodAll_mk0))), rfl, bel.frame _, fun h => by cases h⟩
theorem over : Rows.censusCountsRow.holds Try.pinned (OpenSpec.ofChange Rows.censusCountsSpec) :=
  OpenClaim.holds_of_wide 6 Try.f6 rfl rfl rfl rfl rfl rfl rfl ⟨rfl, rfl, rfl, rfl, rfl⟩ rfl rfl rfl rfl rfl (by kernel_rfl) Try.func6 (by kernel_rfl)
    (of_decide_eq_true (by kernel_rfl)) (by unfold Func.isWrapper; first | (rw [if_pos (by decide +kernel)]; kernel_rfl) | (rw [if_neg (by decide +kernel)]; exact ⟨rfl, rfl⟩))
    (fun os started H enc _ => lifted os started H enc)
theorem proved : Rows.CensusCountsSaid := over
#print axioms proved
end Go.Proofs.Ytgfiidgigenibaa.censusCounts
namespace Go.Proofs.Ytgfiidgigenibaa
/-- The row, under a short name, for the claim. -/
theorem censusCounts_holds : Rows.CensusCountsSaid := censusCounts.proved
end Go.Proofs.Ytgfiidgigenibaa

