/- Plain laws and readings for the seat's proofs (this session's). -/
import Derived.RangeFuncNested
import Derived.Shelf.Abstract
import Derived.Deep.Slices
import Derived.ProofKit
import Derived.OpenShut
import Derived.ChangeOld
import Derived.Lib.SmallJoins
import Derived.WalkSpells
import Derived.Test.YtmhggplhfcmgkaaRR53
import Derived.Test.YtmhggplhfcmgkaaOpn53
import Derived.Test.YtmhggplhfcmgkaaQ59
import Derived.Test.YtmhggplhfcmgkaaQ63
namespace Go.Proofs.Ytmhggplhfcmgkaa.Q
open Go.RowKit Go.Proofs.YtmhggplhfcmgkaaW.PrintWords Go.Proofs.YtmhggplhfcmgkaaW.PrintLast Go.Proofs.YtmhggplhfcmgkaaW.PrintMore
set_option linter.unusedVariables false
set_option linter.unusedSimpArgs false
theorem PatrolRight_pure (l0_0 : List S63) (l0_1 : List S56) (w0 : WLists l0_0) (w1 : WHaz l0_1) : ∃ k, skiarealaw53_PatrolRight.f k l0_0 l0_1 = some true := by
  refine Ev.rounds (g := fun k => skiarealaw53_PatrolRight.f k l0_0 l0_1) (r := true) ?_
  unfold skiarealaw53_PatrolRight.f skiarealaw53_alive.f
  simp only [Option.bind_some, if_true]
  obtain ⟨b, hb, hB⟩ := small_ev l0_0 l0_1
  refine Ev.bind (f := fun k t542 => (if t542 = true then ((patrol_Right.f k l0_0 l0_1).bind fun t543 => ((skiarearef53_Right.f k l0_0 l0_1).bind fun t544 => (some (t543 == t544)))) else (some true))) hb ?_
  cases b with
  | false => exact Ev.neg (by simp) (Ev.now _)
  | true =>
    refine Ev.pos rfl ?_
    refine Ev.bind (f := fun k t543 => ((skiarearef53_Right.f k l0_0 l0_1).bind fun t544 => (some (t543 == t544)))) (patrolright_ev l0_0 l0_1 (hB rfl)) ?_
    refine Ev.bind (f := fun k t544 => (some (right53 l0_0 l0_1 == t544))) (refright53_ev l0_0 l0_1 (hB rfl)) ?_
    rw [beq_self_eq_true]
    exact Ev.now _
end Go.Proofs.Ytmhggplhfcmgkaa.Q
