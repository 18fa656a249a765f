/- Plain laws and readings for the seat's proofs (this session's). -/
import Derived.RangeFuncNested
import Derived.Shelf.Abstract
import Derived.Deep.Slices
import Derived.ProofKit
import Derived.OpenShut
import Derived.ChangeOld
import Derived.Lib.SmallJoins
import Derived.WalkSpells
import Derived.Test.YtmhggplhfcmgkaaC19
import Derived.Test.YtmhggplhfcmgkaaS19
import Derived.Test.YtmhggplhfcmgkaaQ27
namespace Go.Proofs.Ytmhggplhfcmgkaa.Q
open Go.RowKit Go.Proofs.YtmhggplhfcmgkaaW.PrintWords Go.Proofs.YtmhggplhfcmgkaaW.PrintLast Go.Proofs.YtmhggplhfcmgkaaW.PrintMore
set_option linter.unusedVariables false
set_option linter.unusedSimpArgs false
theorem InspectSigns_pure (l0_0 : List Int) (a0_1 : Int) (l0_2 : List S35) (a1 a2 a3 : Int) (w0 : WInts l0_0) (w1 : W64 a0_1) (w2 : WSigns l0_2) (wa1 : W64 a1) (wa2 : W64 a2) (wa3 : W64 a3) : ∃ k, skiarealaw19_InspectSigns.f k l0_0 a0_1 l0_2 a1 a2 a3 = some true := by
  refine Ev.rounds (g := fun k => skiarealaw19_InspectSigns.f k l0_0 a0_1 l0_2 a1 a2 a3) (r := true) ?_
  unfold skiarealaw19_InspectSigns.f
  refine guarded w0 w2 (fun ok => ?_)
  have hi := ok.ni
  have hl := ok.ns
  have h1 : Ev (fun k => inspect_Sign.f k l0_0 a0_1 l0_2 a1 a2 a3) (signF l0_0 a0_1 (dropI a1 l0_2 ++ [⟨a1, a2, a3⟩])) := by
    refine Ev.congr (fun k => by rw [inspect_Sign.f, slices_Clone_int_int.f, if_pos (by omega), Option.bind_some]) ?_
    have := sign_ev l0_0 a0_1 l0_2 a1 a2 a3 hi hl l0_2.length 0 [] (by omega) (by omega) (by simp)
    simpa using this
  have h2 : Ev (fun k => skiarearef19_Sign.f k l0_0 a0_1 l0_2 a1 a2 a3) (signF l0_0 a0_1 (dropI a1 l0_2 ++ [⟨a1, a2, a3⟩])) := by
    have := refsign_ev l0_0 a0_1 l0_2 a1 a2 a3 hi hl l0_0.length 0 (by omega) (by omega)
    exact Ev.congr (fun k => by rw [skiarearef19_Sign.f]; rfl) this
  have h3 : (dropI a1 l0_2).length ≤ 200 := Nat.le_trans (List.length_filter_le _ _) hl
  generalize hr : signF l0_0 a0_1 (dropI a1 l0_2 ++ [⟨a1, a2, a3⟩]) = r at h1 h2
  have h4 : r.1.length ≤ 9223372036854775807 ∧ r.2.2.1.length ≤ 9223372036854775807 := by
    rw [← hr]; unfold signF
    split
    · refine ⟨?_, ?_⟩
      · show l0_0.length ≤ _; omega
      · show (dropI a1 l0_2 ++ [_]).length ≤ _; rw [List.length_append, List.length_singleton]; omega
    · exact ⟨by simp, by simp⟩
  refine Ev.bind (f := fun k bt260 => ((skiarearef19_Sign.f k l0_0 a0_1 l0_2 a1 a2 a3).bind fun bt269 => ((skiarearef19_Same.f k bt260.1 bt260.2.1 bt260.2.2.1 bt269.1 bt269.2.1 bt269.2.2.1).bind fun t278 => (if t278 = true then (some (bt260.2.2.2 == bt269.2.2.2)) else (some false))))) h1 ?_
  refine Ev.bind (f := fun k bt269 => ((skiarearef19_Same.f k r.1 r.2.1 r.2.2.1 bt269.1 bt269.2.1 bt269.2.2.1).bind fun t278 => (if t278 = true then (some (r.2.2.2 == bt269.2.2.2)) else (some false)))) h2 ?_
  refine Ev.bind (f := fun k t278 => (if t278 = true then (some (r.2.2.2 == r.2.2.2)) else (some false))) (same_refl r.1 r.2.1 r.2.2.1 h4.1 h4.2) ?_
  refine Ev.pos rfl ?_
  rw [beq_self_eq_true]
  exact Ev.now _
end Go.Proofs.Ytmhggplhfcmgkaa.Q
