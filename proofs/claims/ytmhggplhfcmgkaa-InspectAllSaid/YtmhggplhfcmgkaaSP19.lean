/- Plain laws and readings for the seat's proofs (this session's). -/
import Derived.RangeFuncNested
import Derived.Shelf.Abstract
import Derived.Deep.Slices
import Derived.ProofKit
import Derived.OpenShut
import Derived.ChangeOld
import Derived.Lib.SmallJoins
import Derived.WalkSpells
import Derived.Test.YtmhggplhfcmgkaaRP19
import Derived.Test.YtmhggplhfcmgkaaQ9
namespace Go.Proofs.Ytmhggplhfcmgkaa.Q
open Go.RowKit Go.Proofs.YtmhggplhfcmgkaaW.PrintWords Go.Proofs.YtmhggplhfcmgkaaW.PrintLast Go.Proofs.YtmhggplhfcmgkaaW.PrintMore
set_option linter.unusedVariables false
set_option linter.unusedSimpArgs false
/-! ### Sign: one plain function for both -/
def signF (items : List Int) (every : Int) (l : List S35) : List Int × Int × List S35 × Int :=
  if rightS items every l = 0 then (items, every, l, 0) else (([] : List Int), 0, ([] : List S35), rightS items every l)
def dropI (item : Int) (l : List S35) : List S35 := l.filter (fun s => !decide (s.f0 = item))
theorem dropI_eq {item : Int} {s : S35} {l : List S35} (h : s.f0 = item) : dropI item (s :: l) = dropI item l := by simp [dropI, h]
theorem dropI_ne {item : Int} {s : S35} {l : List S35} (h : ¬ s.f0 = item) : dropI item (s :: l) = s :: dropI item l := by simp [dropI, h]
theorem sign_ev (items : List Int) (every : Int) (l : List S35) (a1 a2 a3 : Int) (hi : items.length ≤ 64) (hl : l.length ≤ 200) (d : Nat) : ∀ (i : Int) (acc : List S35), 0 ≤ i → i + d = l.length → (acc.length : Int) ≤ i →
    Ev (fun k => inspect_Sign.l0 k a1 a2 a3 l (l.length : Int) i items every acc) (signF items every (acc ++ dropI a1 (l.drop i.toNat) ++ [⟨a1, a2, a3⟩])) := by
  induction d with
  | zero =>
    intro i acc h0 hd ha
    refine Ev.step (fun k => by rw [inspect_Sign.l0, if_neg (by omega), if_pos (by omega), Option.bind_some]) ?_
    rw [List.drop_eq_nil_of_le (by omega), show dropI a1 [] = [] from rfl, List.append_nil]
    refine Ev.bind (f := fun k t125 => (if t125 = 0 then (some (items, every, acc ++ [⟨a1, a2, a3⟩], 0)) else (some (([] : List Int), 0, ([] : List (S35)), t125)))) (right_ev items every (acc ++ [⟨a1, a2, a3⟩]) (by omega) (by simp; omega)) ?_
    unfold signF
    by_cases c : rightS items every (acc ++ [⟨a1, a2, a3⟩]) = 0
    · refine Ev.pos c ?_; rw [if_pos c]; exact Ev.now _
    · refine Ev.neg c ?_; rw [if_neg c]; exact Ev.now _
  | succ d ih =>
    intro i acc h0 hd ha
    have h1 : i < (l.length : Int) := by omega
    rw [rd35_at l i h0 h1]
    have hw := wrap_inc h0 h1 (by omega)
    refine Ev.step (fun k => by rw [inspect_Sign.l0, if_pos h1, if_pos h0, if_pos h1, hw]) ?_
    by_cases c : (rd_T35 l i).f0 = a1
    · rw [dropI_eq c]
      exact Ev.pos c (ih (i + 1) acc (by omega) (by omega) (by omega))
    · rw [dropI_ne c]
      refine Ev.neg c (Ev.pos (by omega) ?_)
      have := ih (i + 1) (acc ++ [rd_T35 l i]) (by omega) (by omega) (by simp; omega)
      rw [List.append_assoc acc [rd_T35 l i], List.singleton_append] at this
      exact this
end Go.Proofs.Ytmhggplhfcmgkaa.Q
