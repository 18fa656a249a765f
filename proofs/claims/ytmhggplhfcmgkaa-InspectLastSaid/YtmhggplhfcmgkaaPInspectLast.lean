/- Plain laws and readings for the seat's proofs (this session's). -/
import Derived.RangeFuncNested
import Derived.Shelf.Abstract
import Derived.Deep.Slices
import Derived.ProofKit
import Derived.OpenShut
import Derived.ChangeOld
import Derived.Lib.SmallJoins
import Derived.WalkSpells
import Derived.Test.YtmhggplhfcmgkaaC19
import Derived.Test.YtmhggplhfcmgkaaQ12
namespace Go.Proofs.Ytmhggplhfcmgkaa.Q
open Go.RowKit Go.Proofs.YtmhggplhfcmgkaaW.PrintWords Go.Proofs.YtmhggplhfcmgkaaW.PrintLast Go.Proofs.YtmhggplhfcmgkaaW.PrintMore
set_option linter.unusedVariables false
set_option linter.unusedSimpArgs false
theorem take35_at (l : List S35) (d : Nat) (h : d < l.length) : l.take (d + 1) = l.take d ++ [rd_T35 l d] := by
  rw [List.take_succ_eq_append_getElem h]
  simp [rd_T35, List.getD_eq_getElem?_getD, List.getElem?_eq_getElem h]
theorem reflast_ev (items : List Int) (every : Int) (l : List S35) (item t : Int) (hl : l.length ≤ 9223372036854775807) (d : Nat) : d ≤ l.length →
    Ev (fun k => skiarearef19_Last.l0 k item t ((d : Int) - 1) items every l) (lastR (l.take d) item t) := by
  induction d with
  | zero =>
    intro _
    refine Ev.step (f := fun _ => some (0, 0, 0, false)) (fun k => ?_) (Ev.now _)
    rw [skiarearef19_Last.l0, if_neg (by omega)]
  | succ d ih =>
    intro hd
    have e : ((d + 1 : Nat) : Int) - 1 = (d : Int) := by omega
    rw [e]
    have hw : wrap64 ((d : Int) - 1) = (d : Int) - 1 := by unfold wrap64; omega
    have ht : lastR (l.take (d + 1)) item t = if lastT item t (rd_T35 l d) = true then ((rd_T35 l d).f0, (rd_T35 l d).f1, (rd_T35 l d).f2, true) else lastR (l.take d) item t := by
      unfold lastR
      rw [take35_at l d (by omega), List.reverse_append, List.reverse_singleton, List.singleton_append, List.find?_cons]
      cases h : lastT item t (rd_T35 l d) <;> simp
    rw [ht]
    refine Ev.step (fun k => by rw [skiarearef19_Last.l0, if_pos (by omega), if_pos (by omega), if_pos (by omega), hw]) ?_
    by_cases c1 : (rd_T35 l d).f0 = item
    · refine Ev.pos c1 ?_
      by_cases c2 : (rd_T35 l d).f2 ≤ t
      · rw [if_pos (by simp [lastT, c1, c2])]
        exact Ev.pos c2 (Ev.now _)
      · rw [if_neg (by simp [lastT, c2])]
        exact Ev.neg c2 (ih (by omega))
    · rw [if_neg (by simp [lastT, c1])]
      exact Ev.neg c1 (ih (by omega))
theorem InspectLast_pure (l0_0 : List Int) (a0_1 : Int) (l0_2 : List S35) (a1 a2 : Int) (w0 : WInts l0_0) (w1 : W64 a0_1) (w2 : WSigns l0_2) (wa1 : W64 a1) (wa2 : W64 a2) : ∃ k, skiarealaw19_InspectLast.f k l0_0 a0_1 l0_2 a1 a2 = some true := by
  refine Ev.rounds (g := fun k => skiarealaw19_InspectLast.f k l0_0 a0_1 l0_2 a1 a2) (r := true) ?_
  unfold skiarealaw19_InspectLast.f
  refine guarded w0 w2 (fun ok => ?_)
  unfold inspect_Last.f
  simp only [Option.bind_some]
  have hl : l0_2.length ≤ 9223372036854775807 := by have := ok.ns; omega
  have h := reflast_ev l0_0 a0_1 l0_2 a1 a2 hl l0_2.length (Nat.le_refl _)
  rw [List.take_length] at h
  refine Ev.bind (f := fun k bt292 => (if ((lastR l0_2 a1 a2).1 == bt292.1 && ((lastR l0_2 a1 a2).2.1 == bt292.2.1 && ((lastR l0_2 a1 a2).2.2.1 == bt292.2.2.1))) = true then (some ((lastR l0_2 a1 a2).2.2.2 == bt292.2.2.2)) else (some false))) (a := lastR l0_2 a1 a2) ?_ ?_
  · refine Ev.congr (fun k => ?_) h
    rw [skiarearef19_Last.f, show wrap64 ((l0_2.length : Int) - 1) = (l0_2.length : Int) - 1 by unfold wrap64; omega]
  · refine Ev.pos (by simp) ?_
    rw [beq_self_eq_true]
    exact Ev.now _
end Go.Proofs.Ytmhggplhfcmgkaa.Q
