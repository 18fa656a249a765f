/- Plain laws and readings for the seat's proofs (this session's). -/
import Derived.RangeFuncNested
import Derived.Shelf.Abstract
import Derived.Deep.Slices
import Derived.ProofKit
import Derived.OpenShut
import Derived.ChangeOld
import Derived.Lib.SmallJoins
import Derived.WalkSpells
import Derived.Test.YtmhggplhfcmgkaaO19
import Derived.Test.YtmhggplhfcmgkaaQ36
namespace Go.Proofs.Ytmhggplhfcmgkaa.Q
open Go.RowKit Go.Proofs.YtmhggplhfcmgkaaW.PrintWords Go.Proofs.YtmhggplhfcmgkaaW.PrintLast Go.Proofs.YtmhggplhfcmgkaaW.PrintMore
set_option linter.unusedVariables false
set_option linter.unusedSimpArgs false
theorem InspectUntil_pure (l0_0 : List Int) (a0_1 : Int) (l0_2 : List S35) (a1 a2 : Int) (w0 : WInts l0_0) (w1 : W64 a0_1) (w2 : WSigns l0_2) (wa1 : W64 a1) (wa2 : W64 a2) : ∃ k, skiarealaw19_InspectUntil.f k l0_0 a0_1 l0_2 a1 a2 = some true := by
  refine Ev.rounds (g := fun k => skiarealaw19_InspectUntil.f k l0_0 a0_1 l0_2 a1 a2) (r := true) ?_
  unfold skiarealaw19_InspectUntil.f skiarealaw19_alive.f
  simp only [Option.bind_some, if_true]
  have skip : Ev (fun k => skiarealaw19_InspectUntil.j0 k a1 a2 true l0_0 a0_1 l0_2) true := Ev.step (f := fun _ => some true) (fun k => by rw [skiarealaw19_InspectUntil.j0, if_pos rfl]) (Ev.now _)
  by_cases b1 : (l0_0.length : Int) > 80
  · exact Ev.pos b1 skip
  refine Ev.neg b1 ?_
  by_cases b2 : (l0_2.length : Int) > 220
  · exact Ev.pos b2 skip
  refine Ev.neg b2 ?_
  refine Ev.bind (f := fun k t337 => (if t337 = 0 then (skiarealaw19_InspectUntil.j0 k a1 a2 (decide (a1 > 20000000)) l0_0 a0_1 l0_2) else (skiarealaw19_InspectUntil.j0 k a1 a2 true l0_0 a0_1 l0_2))) (right_ev l0_0 a0_1 l0_2 (by omega) (by omega)) ?_
  by_cases b3 : rightS l0_0 a0_1 l0_2 = 0
  case neg => (exact Ev.neg b3 skip)
  refine Ev.pos b3 ?_
  have ok := right_okay b3
  have hi := ok.ni
  by_cases b4 : a1 > 20000000
  · rw [decide_eq_true b4]; exact skip
  rw [decide_eq_false b4]
  obtain ⟨r, hr, h1, h2⟩ := until_ev ok.tame hi a1
  refine Ev.step (fun k => by rw [skiarealaw19_InspectUntil.j0, if_neg (by simp)]) ?_
  refine Ev.bind (f := fun k t338 => ((inspect_Done.f l0_0 a0_1 l0_2 a1).bind fun t339 => (if t339 = true then (if t338 ≤ a1 then (if t338 < 20000000 then (some false) else (if t338 > 20000000 then (some false) else (if a2 < a1 then (some true) else (if a2 ≥ t338 then (some true) else ((inspect_Done.f l0_0 a0_1 l0_2 a2).bind fun t340 => (some t340)))))) else (if t338 > 20000000 then (some false) else (if t338 < 20000000 then ((inspect_Done.f l0_0 a0_1 l0_2 t338).bind fun t341 => (if t341 = true then (some false) else (if a2 < a1 then (some true) else (if a2 ≥ t338 then (some true) else ((inspect_Done.f l0_0 a0_1 l0_2 a2).bind fun t342 => (some t342)))))) else (if a2 < a1 then (some true) else (if a2 ≥ t338 then (some true) else ((inspect_Done.f l0_0 a0_1 l0_2 a2).bind fun t343 => (some t343))))))) else (some (t338 == a1))))) hr ?_
  simp only [done_some _ _ _ _ hi, Option.bind_some]
  by_cases c : ∀ it ∈ l0_0, cov a0_1 l0_2 it a1 = true
  · have hU := h1 c
    refine Ev.pos ((done_iff _ _ _ _).2 c) ?_
    have tail : Ev (fun _ : Nat => (if a2 < a1 then (some true) else (if a2 ≥ r then (some true) else (some (((openL l0_0 a0_1 l0_2 a2).length : Int) == 0))))) true := by
      by_cases c1 : a2 < a1
      · exact Ev.pos c1 (Ev.now _)
      refine Ev.neg c1 ?_
      by_cases c2 : a2 ≥ r
      · exact Ev.pos c2 (Ev.now _)
      refine Ev.neg c2 ?_
      rw [(done_iff l0_0 a0_1 l0_2 a2).2 (fun it hm => hU.shut it hm a2 (by omega) (by omega))]
      exact Ev.now _
    have ht := hU.top
    by_cases c3 : r ≤ a1
    · refine Ev.pos c3 (Ev.neg ?_ (Ev.neg (by omega) tail))
      intro c4
      rcases hU.opn with e | ⟨e1, it, hm, hc⟩
      · omega
      · rw [show r = a1 by omega, c it hm] at hc
        exact absurd hc (by simp)
    · refine Ev.neg c3 (Ev.neg (by omega) ?_)
      by_cases c4 : r < 20000000
      · refine Ev.pos c4 (Ev.neg ?_ tail)
        intro hd
        rcases hU.opn with e | ⟨e1, it, hm, hc⟩
        · omega
        · rw [(done_iff _ _ _ _).1 hd it hm] at hc
          exact absurd hc (by simp)
      · exact Ev.neg c4 tail
  · refine Ev.neg (fun g => c ((done_iff _ _ _ _).1 g)) ?_
    rw [h2 c, beq_self_eq_true]
    exact Ev.now _
end Go.Proofs.Ytmhggplhfcmgkaa.Q
