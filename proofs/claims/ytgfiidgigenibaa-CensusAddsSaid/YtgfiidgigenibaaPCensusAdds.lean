/- Plain laws and readings for the seat's proofs (this session's). -/
import Derived.RangeFuncNested
import Derived.Shelf.Abstract
import Derived.Deep.Slices
import Derived.ProofKit
import Derived.OpenShut
import Derived.ChangeOld
import Derived.Lib.SmallJoins
import Derived.WalkSpells
import Derived.Test.YtgfiidgigenibaaRR55
import Derived.Test.YtgfiidgigenibaaOpn
import Derived.Test.YtgfiidgigenibaaQ19
import Derived.Test.YtgfiidgigenibaaQ20
import Derived.Test.YtgfiidgigenibaaQ24
import Derived.Test.YtgfiidgigenibaaQ47
import Derived.Test.YtgfiidgigenibaaQ48
import Derived.Test.YtgfiidgigenibaaQ49
namespace Go.Proofs.Ytgfiidgigenibaa.Q
open Go.RowKit Go.Proofs.YtgfiidgigenibaaW.PrintWords Go.Proofs.YtgfiidgigenibaaW.PrintLast Go.Proofs.YtgfiidgigenibaaW.PrintMore
set_option linter.unusedVariables false
set_option linter.unusedSimpArgs false
theorem same_ev (l : List S28) (hl : l.length ≤ 9223372036854775807) : Ev (fun k => skiarearef55_Same.f k l l) true := by
  have main : ∀ (d : Nat) (i : Int), 0 ≤ i → i + d = l.length → Ev (fun k => skiarearef55_Same.l0 k l l i) true := by
    intro d
    induction d with
    | zero =>
      intro i h0 hd
      exact Ev.step (f := fun _ => some true) (fun k => by rw [skiarearef55_Same.l0, if_neg (by omega)]) (Ev.now _)
    | succ d ih =>
      intro i h0 hd
      have h1 : i < (l.length : Int) := by omega
      refine Ev.step (fun k => by rw [skiarearef55_Same.l0, if_pos h1, if_pos h0, if_pos h1, if_neg (by simp), wrap_inc h0 h1 hl]) (ih (i + 1) (by omega) (by omega))
  unfold skiarearef55_Same.f
  exact Ev.pos rfl (main l.length 0 (by omega) (by omega))
def addF (l : List S28) : List S28 × Int := if rightF l = 0 then (l, 0) else (([] : List S28), rightF l)
theorem CensusAdds_pure (l0 : List S28) (a1_0 a1_1 a1_2 a1_3 : Int) (w0 : WCross l0) (w1 : W64 a1_0) (w2 : W64 a1_1) (w3 : W64 a1_2) (w4 : W64 a1_3) : ∃ k, skiarealaw55_CensusAdds.f k l0 a1_0 a1_1 a1_2 a1_3 = some true := by
  refine Ev.rounds (g := fun k => skiarealaw55_CensusAdds.f k l0 a1_0 a1_1 a1_2 a1_3) (r := true) ?_
  unfold skiarealaw55_CensusAdds.f skiarealaw55_alive.f
  simp only [Option.bind_some, if_true]
  by_cases b1 : (l0.length : Int) > 100
  · exact Ev.pos b1 (Ev.now _)
  refine Ev.neg b1 ?_
  have hlen : (l0 ++ [(⟨a1_0, a1_1, a1_2, a1_3⟩ : S28)]).length ≤ 101 := by simp; omega
  have ha : Ev (fun k => census_Add.f k l0 a1_0 a1_1 a1_2 a1_3) (addF (l0 ++ [⟨a1_0, a1_1, a1_2, a1_3⟩])) := by
    refine Ev.congr (fun k => by rw [census_Add.f, api_Crossing.f, if_pos (by omega), Option.bind_some, Option.bind_some, if_pos (by simp; omega), Option.bind_some]) ?_
    refine Ev.bind (f := fun k t128 => (if t128 = 0 then (some (l0 ++ [(⟨a1_0, a1_1, a1_2, a1_3⟩ : S28)], 0)) else (some (([] : List (S28)), t128)))) (right_ev (l0 ++ [⟨a1_0, a1_1, a1_2, a1_3⟩]) (by omega)) ?_
    unfold addF
    by_cases c : rightF (l0 ++ [(⟨a1_0, a1_1, a1_2, a1_3⟩ : S28)]) = 0
    · refine Ev.pos c ?_; rw [if_pos c]; exact Ev.now _
    · refine Ev.neg c ?_; rw [if_neg c]; exact Ev.now _
  have hr : Ev (fun k => skiarearef55_Add.f k l0 a1_0 a1_1 a1_2 a1_3) (addF (l0 ++ [⟨a1_0, a1_1, a1_2, a1_3⟩])) := by
    refine Ev.congr (fun k => by rw [skiarearef55_Add.f, Option.bind_some, if_pos (by simp; omega), Option.bind_some, Option.bind_some, if_pos (by simp; omega), Option.bind_some, List.nil_append]) ?_
    refine Ev.bind (f := fun k t128 => (if t128 = 0 then (some (l0 ++ [(⟨a1_0, a1_1, a1_2, a1_3⟩ : S28)], 0)) else (some (([] : List (S28)), t128)))) (rright_ev (l0 ++ [⟨a1_0, a1_1, a1_2, a1_3⟩]) (by omega)) ?_
    unfold addF
    by_cases c : rightF (l0 ++ [(⟨a1_0, a1_1, a1_2, a1_3⟩ : S28)]) = 0
    · refine Ev.pos c ?_; rw [if_pos c]; exact Ev.now _
    · refine Ev.neg c ?_; rw [if_neg c]; exact Ev.now _
  have hsz : (addF (l0 ++ [(⟨a1_0, a1_1, a1_2, a1_3⟩ : S28)])).1.length ≤ 101 := by
    unfold addF; split
    · exact hlen
    · simp
  generalize addF (l0 ++ [(⟨a1_0, a1_1, a1_2, a1_3⟩ : S28)]) = r at ha hr hsz
  refine Ev.bind (f := fun k bt371 => ((skiarearef55_Add.f k l0 a1_0 a1_1 a1_2 a1_3).bind fun bt375 => ((census_Right.f k l0).bind fun t379 => ((skiarearef55_Right.f k l0).bind fun t380 => (if t379 = t380 then (if bt371.2 = bt375.2 then ((skiarearef55_Same.f k bt371.1 bt375.1).bind fun t381 => (some t381)) else (some false)) else (some false)))))) ha ?_
  refine Ev.bind (f := fun k bt375 => ((census_Right.f k l0).bind fun t379 => ((skiarearef55_Right.f k l0).bind fun t380 => (if t379 = t380 then (if r.2 = bt375.2 then ((skiarearef55_Same.f k r.1 bt375.1).bind fun t381 => (some t381)) else (some false)) else (some false))))) hr ?_
  refine Ev.bind (f := fun k t379 => ((skiarearef55_Right.f k l0).bind fun t380 => (if t379 = t380 then (if r.2 = r.2 then ((skiarearef55_Same.f k r.1 r.1).bind fun t381 => (some t381)) else (some false)) else (some false)))) (right_ev l0 (by omega)) ?_
  refine Ev.bind (f := fun k t380 => (if rightF l0 = t380 then (if r.2 = r.2 then ((skiarearef55_Same.f k r.1 r.1).bind fun t381 => (some t381)) else (some false)) else (some false))) (rright_ev l0 (by omega)) ?_
  refine Ev.pos rfl (Ev.pos rfl ?_)
  exact Ev.bind (f := fun _ t381 => some t381) (same_ev r.1 (by omega)) (Ev.now _)
end Go.Proofs.Ytgfiidgigenibaa.Q
