/- Plain laws and readings for the seat's proofs (this session's). -/
import Derived.RangeFuncNested
import Derived.Shelf.Abstract
import Derived.Deep.Slices
import Derived.ProofKit
import Derived.OpenShut
import Derived.ChangeOld
import Derived.Lib.SmallJoins
import Derived.WalkSpells
import Derived.Test.YtmhggplhfcmgkaaR19
import Derived.Test.YtmhggplhfcmgkaaQ10
namespace Go.Proofs.Ytmhggplhfcmgkaa.Q
open Go.RowKit Go.Proofs.YtmhggplhfcmgkaaW.PrintWords Go.Proofs.YtmhggplhfcmgkaaW.PrintLast Go.Proofs.YtmhggplhfcmgkaaW.PrintMore
set_option linter.unusedVariables false
set_option linter.unusedSimpArgs false
theorem InspectChecks_pure (l0_0 : List Int) (a0_1 : Int) (l0_2 : List S35) (w0 : WInts l0_0) (w1 : W64 a0_1) (w2 : WSigns l0_2) : ∃ k, skiarealaw19_InspectChecks.f k l0_0 a0_1 l0_2 = some true := by
  refine Ev.rounds (g := fun k => skiarealaw19_InspectChecks.f k l0_0 a0_1 l0_2) (r := true) ?_
  have h0 : l0_0.length ≤ 9223372036854775807 := by have := w0.1; simpa [maxLen] using this
  have h2 : l0_2.length ≤ 9223372036854775807 := by have := w2.1; simpa [maxLen] using this
  unfold skiarealaw19_InspectChecks.f skiarealaw19_alive.f
  simp only [Option.bind_some, if_true]
  by_cases c : (l0_0.length : Int) > 80
  · exact Ev.pos c (Ev.now _)
  · refine Ev.neg c ?_
    by_cases c2 : (l0_2.length : Int) > 220
    · exact Ev.pos c2 (Ev.now _)
    · refine Ev.neg c2 ?_
      refine Ev.bind (f := fun k t239 => (skiarearef19_Right.f k l0_0 a0_1 l0_2).bind fun t240 => (some (t239 == t240))) (right_ev l0_0 a0_1 l0_2 h0 h2) ?_
      refine Ev.bind (f := fun k t240 => (some (rightS l0_0 a0_1 l0_2 == t240))) (refright_ev l0_0 a0_1 l0_2 h0 h2) ?_
      simp only [beq_self_eq_true]
      exact Ev.now _
end Go.Proofs.Ytmhggplhfcmgkaa.Q
