/- Plain laws and readings for the seat's proofs (this session's). -/
import Derived.RangeFuncNested
import Derived.Shelf.Abstract
import Derived.Deep.Slices
import Derived.ProofKit
import Derived.OpenShut
import Derived.ChangeOld
import Derived.Lib.SmallJoins
import Derived.WalkSpells
import Derived.Test.YtmhggplhfcmgkaaOR19
import Derived.Test.YtmhggplhfcmgkaaQ33
namespace Go.Proofs.Ytmhggplhfcmgkaa.Q
open Go.RowKit Go.Proofs.YtmhggplhfcmgkaaW.PrintWords Go.Proofs.YtmhggplhfcmgkaaW.PrintLast Go.Proofs.YtmhggplhfcmgkaaW.PrintMore
set_option linter.unusedVariables false
set_option linter.unusedSimpArgs false
theorem sameints_ev' (l : List Int) (hl : l.length ≤ 9223372036854775807) (d : Nat) : ∀ (i : Int), 0 ≤ i → i + d = l.length → Ev (fun k => skiarearef19_SameInts.l0 k l l i) true := by
  induction d with
  | zero =>
    intro i h0 hd
    exact Ev.step (f := fun _ => some true) (fun k => by rw [skiarearef19_SameInts.l0, if_neg (by omega)]) (Ev.now _)
  | succ d ih =>
    intro i h0 hd
    have h1 : i < (l.length : Int) := by omega
    exact Ev.step (fun k => by rw [skiarearef19_SameInts.l0, if_pos h1, if_pos h0, if_pos h1, if_pos rfl, wrap_inc h0 h1 hl]) (ih (i + 1) (by omega) (by omega))
theorem InspectOpen_pure (l0_0 : List Int) (a0_1 : Int) (l0_2 : List S35) (a1 : Int) (w0 : WInts l0_0) (w1 : W64 a0_1) (w2 : WSigns l0_2) (wa1 : W64 a1) : ∃ k, skiarealaw19_InspectOpen.f k l0_0 a0_1 l0_2 a1 = some true := by
  refine Ev.rounds (g := fun k => skiarealaw19_InspectOpen.f k l0_0 a0_1 l0_2 a1) (r := true) ?_
  unfold skiarealaw19_InspectOpen.f
  refine guarded w0 w2 (fun ok => ?_)
  have hi := ok.ni
  have hl := ok.ns
  refine Ev.congr (fun k => by rw [open_some _ _ _ _ hi, Option.bind_some]) ?_
  refine Ev.bind (f := fun k t317 => ((skiarearef19_SameInts.f k (openL l0_0 a0_1 l0_2 a1) t317).bind fun t320 => (if t320 = true then ((inspect_Done.f l0_0 a0_1 l0_2 a1).bind fun t321 => ((skiarearef19_Done.f k l0_0 a0_1 l0_2 a1).bind fun t322 => (some (t321 == t322)))) else (some false)))) (refopenf_ev l0_0 l0_2 ok.tame hi hl a1) ?_
  have hlen : (openL l0_0 a0_1 l0_2 a1).length ≤ 64 := Nat.le_trans (List.length_filter_le _ _) hi
  refine Ev.bind (f := fun k t320 => (if t320 = true then ((inspect_Done.f l0_0 a0_1 l0_2 a1).bind fun t321 => ((skiarearef19_Done.f k l0_0 a0_1 l0_2 a1).bind fun t322 => (some (t321 == t322)))) else (some false))) (a := true) ?_ ?_
  · exact Ev.congr (fun k => by rw [skiarearef19_SameInts.f, if_pos rfl]) (sameints_ev' _ (by omega) (openL l0_0 a0_1 l0_2 a1).length 0 (by omega) (by omega))
  · refine Ev.pos rfl ?_
    refine Ev.congr (fun k => by rw [done_some _ _ _ _ hi, Option.bind_some]) ?_
    refine Ev.bind (f := fun k t322 => (some ((((openL l0_0 a0_1 l0_2 a1).length : Int) == 0) == t322))) (refdone_ev l0_0 l0_2 ok.tame hi hl a1) ?_
    rw [beq_self_eq_true]
    exact Ev.now _
end Go.Proofs.Ytmhggplhfcmgkaa.Q
