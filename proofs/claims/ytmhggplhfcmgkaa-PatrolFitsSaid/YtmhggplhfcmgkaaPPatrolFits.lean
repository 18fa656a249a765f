/- Plain laws and readings for the seat's proofs (this session's). -/
import Derived.RangeFuncNested
import Derived.Shelf.Abstract
import Derived.Deep.Slices
import Derived.ProofKit
import Derived.OpenShut
import Derived.ChangeOld
import Derived.Lib.SmallJoins
import Derived.WalkSpells
import Derived.Test.YtmhggplhfcmgkaaRRD53
import Derived.Test.YtmhggplhfcmgkaaOpn53
import Derived.Test.YtmhggplhfcmgkaaQ59
import Derived.Test.YtmhggplhfcmgkaaQ74
namespace Go.Proofs.Ytmhggplhfcmgkaa.Q
open Go.RowKit Go.Proofs.YtmhggplhfcmgkaaW.PrintWords Go.Proofs.YtmhggplhfcmgkaaW.PrintLast Go.Proofs.YtmhggplhfcmgkaaW.PrintMore
set_option linter.unusedVariables false
set_option linter.unusedSimpArgs false
theorem PatrolFits_pure (l0_0 : List S63) (l0_1 : List S56) (a1 a2 : Int) (w0 : WLists l0_0) (w1 : WHaz l0_1) (wa1 : W64 a1) (wa2 : W64 a2) : ∃ k, skiarealaw53_PatrolFits.f k l0_0 l0_1 a1 a2 = some true := by
  refine Ev.rounds (g := fun k => skiarealaw53_PatrolFits.f k l0_0 l0_1 a1 a2) (r := true) ?_
  unfold skiarealaw53_PatrolFits.f skiarealaw53_alive.f
  simp only [Option.bind_some, if_true]
  obtain ⟨b, hb, hB⟩ := accepted_ev l0_0 l0_1
  refine Ev.bind (f := fun k t679 => (if t679 = true then ((patrol_Ready.f l0_0 l0_1 a1 a2).bind fun t680 => ((skiarearef53_Ready.f k l0_0 l0_1 a1 a2).bind fun t681 => (if (t680 == t681) = true then ((patrol_Open.f k l0_0 l0_1 a2).bind fun t682 => ((skiarearef53_Open.f k l0_0 l0_1 a2).bind fun t685 => ((skiarearef53_SameInts.f k t682 t685).bind fun t688 => (some t688)))) else (some false)))) else (some true))) hb ?_
  cases b with
  | false => exact Ev.neg (by simp) (Ev.now _)
  | true =>
    obtain ⟨S, F⟩ := hB rfl
    refine Ev.pos rfl ?_
    refine Ev.congr (fun k => by rw [patrolready_eq F, Option.bind_some]) ?_
    refine Ev.bind (f := fun k t681 => (if (readyB l0_0 l0_1 a1 a2 == t681) = true then ((patrol_Open.f k l0_0 l0_1 a2).bind fun t682 => ((skiarearef53_Open.f k l0_0 l0_1 a2).bind fun t685 => ((skiarearef53_SameInts.f k t682 t685).bind fun t688 => (some t688)))) else (some false))) (refready_ev F a1 a2) ?_
    refine Ev.pos (by simp) ?_
    refine Ev.bind (f := fun k t682 => ((skiarearef53_Open.f k l0_0 l0_1 a2).bind fun t685 => ((skiarearef53_SameInts.f k t682 t685).bind fun t688 => (some t688)))) (patrolopenf_ev F a2) ?_
    have ho : Ev (fun k => skiarearef53_Open.f k l0_0 l0_1 a2) (openRuns l0_0 l0_1 a2 l0_0) := by
      have := refopen53_ev F a2 l0_0.length 0 [] (by omega) (by omega) (by simp)
      exact Ev.congr (fun k => by rw [skiarearef53_Open.f]) (by simpa using this)
    refine Ev.bind (f := fun k t685 => ((skiarearef53_SameInts.f k (openRuns l0_0 l0_1 a2 l0_0) t685).bind fun t688 => (some t688))) ho ?_
    have hlen : (openRuns l0_0 l0_1 a2 l0_0).length ≤ 64 := Nat.le_trans (openRuns_len _ _ _ _) F.nl
    refine Ev.bind (f := fun k t688 => (some t688)) (a := true) ?_ (Ev.now _)
    exact Ev.congr (fun k => by rw [skiarearef53_SameInts.f, if_pos rfl]) (same53_ev _ (by omega) (openRuns l0_0 l0_1 a2 l0_0).length 0 (by omega) (by omega))
end Go.Proofs.Ytmhggplhfcmgkaa.Q
