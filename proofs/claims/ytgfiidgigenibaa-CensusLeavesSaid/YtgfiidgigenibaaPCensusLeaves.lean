/- Plain laws and readings for the seat's proofs (this session's). -/
import Derived.RangeFuncNested
import Derived.Shelf.Abstract
import Derived.Deep.Slices
import Derived.ProofKit
import Derived.OpenShut
import Derived.ChangeOld
import Derived.Lib.SmallJoins
import Derived.WalkSpells
import Derived.Test.YtgfiidgigenibaaL
import Derived.Test.YtgfiidgigenibaaOpnM
import Derived.Test.YtgfiidgigenibaaA7
namespace Go.Proofs.Ytgfiidgigenibaa.Q
open Go.RowKit Go.Proofs.YtgfiidgigenibaaW.PrintWords Go.Proofs.YtgfiidgigenibaaW.PrintLast Go.Proofs.YtgfiidgigenibaaW.PrintMore
set_option linter.unusedVariables false
set_option linter.unusedSimpArgs false
theorem CensusLeaves_pure (a : List S62) (b : List S82) (c : List S44) (d e : List Int) (x0 x1 : Int) (w0 : WNodes a) (w1 : WLifts b) (w2 : WRuns c) (w3 : WInts d) (w4 : WInts e) (w5 : W64 x0) (w6 : W64 x1) : ∃ k, skiarealaw55_CensusLeaves.f k a b c d e x0 x1 = some true := by
  refine Ev.rounds (g := fun k => skiarealaw55_CensusLeaves.f k a b c d e x0 x1) (r := true) ?_
  unfold skiarealaw55_CensusLeaves.f skiarealaw55_alive.f
  simp only [Option.bind_some, if_true]
  have ha : a.length ≤ big := Nat.le_trans w0.1 (by simp only [maxLen, big]; omega)
  obtain ⟨s, hs, hok⟩ := small_ev a b c d e ha (Nat.le_trans w1.1 (by simp only [maxLen, big]; omega)) (Nat.le_trans w2.1 (by simp only [maxLen, big]; omega))
  refine Ev.bind hs ?_
  by_cases c1 : s = true
  case neg => exact Ev.neg c1 (Ev.now _)
  refine Ev.pos c1 ?_
  obtain ⟨hm, h1, h2, h3, h4⟩ := hok c1
  have hE := egress_both b hm ha (by omega) e (by simp only [big]; omega) x0
  obtain ⟨u, u1, u2⟩ := empty_both b e x0 x1 hE
  obtain ⟨v, v1, v2⟩ := hE
  refine Ev.bind v1 (Ev.bind v2 (Ev.bind u1 (Ev.bind u2 ?_)))
  rw [decide_eq_true ⟨rfl, rfl⟩]
  exact Ev.now _
end Go.Proofs.Ytgfiidgigenibaa.Q
