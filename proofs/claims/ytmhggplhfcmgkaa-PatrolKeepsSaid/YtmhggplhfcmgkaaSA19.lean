/- Plain laws and readings for the seat's proofs (this session's). -/
import Derived.RangeFuncNested
import Derived.Shelf.Abstract
import Derived.Deep.Slices
import Derived.ProofKit
import Derived.OpenShut
import Derived.ChangeOld
import Derived.Lib.SmallJoins
import Derived.WalkSpells
import Derived.Test.YtmhggplhfcmgkaaRP19
import Derived.Test.YtmhggplhfcmgkaaQ11
namespace Go.Proofs.Ytmhggplhfcmgkaa.Q
open Go.RowKit Go.Proofs.YtmhggplhfcmgkaaW.PrintWords Go.Proofs.YtmhggplhfcmgkaaW.PrintLast Go.Proofs.YtmhggplhfcmgkaaW.PrintMore
set_option linter.unusedVariables false
set_option linter.unusedSimpArgs false
/-! ### Same of the same -/
theorem sameints_ev (l : List Int) (hl : l.length ≤ 9223372036854775807) (d : Nat) : ∀ (i : Int), 0 ≤ i → i + d = l.length → Ev (fun k => skiarearef19_SameInts.l0 k l l i) true := by
  induction d with
  | zero =>
    intro i h0 hd
    exact Ev.step (f := fun _ => some true) (fun k => by rw [skiarearef19_SameInts.l0, if_neg (by omega)]) (Ev.now _)
  | succ d ih =>
    intro i h0 hd
    have h1 : i < (l.length : Int) := by omega
    exact Ev.step (fun k => by rw [skiarearef19_SameInts.l0, if_pos h1, if_pos h0, if_pos h1, if_pos rfl, wrap_inc h0 h1 hl]) (ih (i + 1) (by omega) (by omega))
theorem same_ev (items : List Int) (every : Int) (l : List S35) (hl : l.length ≤ 9223372036854775807) (d : Nat) : ∀ (i : Int), 0 ≤ i → i + d = l.length → Ev (fun k => skiarearef19_Same.l0 k i items every l items every l) true := by
  induction d with
  | zero =>
    intro i h0 hd
    exact Ev.step (f := fun _ => some true) (fun k => by rw [skiarearef19_Same.l0, if_neg (by omega)]) (Ev.now _)
  | succ d ih =>
    intro i h0 hd
    have h1 : i < (l.length : Int) := by omega
    exact Ev.step (fun k => by rw [skiarearef19_Same.l0, if_pos h1, if_pos h0, if_pos h1, if_neg (by simp), wrap_inc h0 h1 hl]) (ih (i + 1) (by omega) (by omega))
theorem same_refl (items : List Int) (every : Int) (l : List S35) (hi : items.length ≤ 9223372036854775807) (hl : l.length ≤ 9223372036854775807) : Ev (fun k => skiarearef19_Same.f k items every l items every l) true := by
  refine Ev.congr (fun k => by rw [skiarearef19_Same.f, if_pos rfl, if_pos rfl]) ?_
  refine Ev.bind (f := fun k t130 => skiarearef19_Same.j0 k (!t130) items every l items every l) (a := true) ?_ ?_
  · exact Ev.congr (fun k => by rw [skiarearef19_SameInts.f, if_pos rfl]) (sameints_ev items hi items.length 0 (by omega) (by omega))
  · exact Ev.step (fun k => by rw [skiarearef19_Same.j0, if_neg (by simp)]) (same_ev items every l hl l.length 0 (by omega) (by omega))
end Go.Proofs.Ytmhggplhfcmgkaa.Q
