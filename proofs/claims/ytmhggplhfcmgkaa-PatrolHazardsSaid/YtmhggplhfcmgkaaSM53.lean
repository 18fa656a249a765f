/- Plain laws and readings for the seat's proofs (this session's). -/
import Derived.RangeFuncNested
import Derived.Shelf.Abstract
import Derived.Deep.Slices
import Derived.ProofKit
import Derived.OpenShut
import Derived.ChangeOld
import Derived.Lib.SmallJoins
import Derived.WalkSpells
import Derived.Test.YtmhggplhfcmgkaaRD53
import Derived.Test.YtmhggplhfcmgkaaSA19
import Derived.Test.YtmhggplhfcmgkaaQ67
namespace Go.Proofs.Ytmhggplhfcmgkaa.Q
open Go.RowKit Go.Proofs.YtmhggplhfcmgkaaW.PrintWords Go.Proofs.YtmhggplhfcmgkaaW.PrintLast Go.Proofs.YtmhggplhfcmgkaaW.PrintMore
set_option linter.unusedVariables false
set_option linter.unusedSimpArgs false
theorem same53h_ev (ls : List S63) (hs : List S56) (hn : hs.length ≤ 9223372036854775807) (d : Nat) : ∀ i : Int, 0 ≤ i → i + d = hs.length → Ev (fun k => skiarearef53_Same.l1 k i ls hs ls hs) true := by
  induction d with
  | zero =>
    intro i h0 hd
    exact Ev.step (f := fun _ => some true) (fun k => by rw [skiarearef53_Same.l1, if_neg (by omega)]) (Ev.now _)
  | succ d ih =>
    intro i h0 hd
    have h1 : i < (hs.length : Int) := by omega
    exact Ev.step (fun k => by rw [skiarearef53_Same.l1, if_pos h1, if_pos h0, if_pos h1, if_neg (by simp), wrap_inc h0 h1 hn]) (ih (i + 1) (by omega) (by omega))
theorem same53l_ev (ls : List S63) (hs : List S56) (S : Small ls hs) (d : Nat) : ∀ i : Int, 0 ≤ i → i + d = ls.length → Ev (fun k => skiarearef53_Same.l0 k i ls hs ls hs) true := by
  have hn := S.nl
  induction d with
  | zero =>
    intro i h0 hd
    exact Ev.step (fun k => by rw [skiarearef53_Same.l0, if_neg (by omega)]) (same53h_ev ls hs (by have := S.nh; omega) hs.length 0 (by omega) (by omega))
  | succ d ih =>
    intro i h0 hd
    have h1 : i < (ls.length : Int) := by omega
    have hw : wrap64 (i + 1) = i + 1 := by unfold wrap64; omega
    have hf := S.fit _ (rd63_mem ls i h0 h1)
    refine Ev.step (fun k => by rw [skiarearef53_Same.l0, if_pos h1, if_pos h0, if_pos h1, if_pos rfl, hw]) ?_
    refine Ev.bind (f := fun k t575 => (if t575 = true then (skiarearef53_Same.l0 k (i + 1) ls hs ls hs) else (some false))) (same_refl _ _ _ (by have := hf.1; omega) (by have := hf.2; omega)) ?_
    exact Ev.pos rfl (ih (i + 1) (by omega) (by omega))
theorem same53_refl (ls : List S63) (hs : List S56) (S : Small ls hs) : Ev (fun k => skiarearef53_Same.f k ls hs ls hs) true := by
  refine Ev.congr (fun k => by rw [skiarearef53_Same.f, if_pos rfl, show ((hs.length : Int) != (hs.length : Int)) = false by simp]) ?_
  exact Ev.step (fun k => by rw [skiarearef53_Same.j0, if_neg (by simp)]) (same53l_ev ls hs S ls.length 0 (by omega) (by omega))
end Go.Proofs.Ytmhggplhfcmgkaa.Q
