/- Plain laws and readings for the seat's proofs (this session's). -/
import Derived.RangeFuncNested
import Derived.Shelf.Abstract
import Derived.Deep.Slices
import Derived.ProofKit
import Derived.OpenShut
import Derived.ChangeOld
import Derived.Lib.SmallJoins
import Derived.WalkSpells
import Derived.Test.YtmhggplhfcmgkaaR19
import Derived.Test.YtmhggplhfcmgkaaQ9
import Derived.Test.YtmhggplhfcmgkaaQ11
import Derived.Test.YtmhggplhfcmgkaaQ26
namespace Go.Proofs.Ytmhggplhfcmgkaa.Q
open Go.RowKit Go.Proofs.YtmhggplhfcmgkaaW.PrintWords Go.Proofs.YtmhggplhfcmgkaaW.PrintLast Go.Proofs.YtmhggplhfcmgkaaW.PrintMore
set_option linter.unusedVariables false
set_option linter.unusedSimpArgs false
/-! ### Sign: one plain function for both -/
def signF (items : List Int) (every : Int) (l : List S35) : List Int × Int × List S35 × Int :=
  if rightS items every l = 0 then (items, every, l, 0) else (([] : List Int), 0, ([] : List S35), rightS items every l)
def dropI (item : Int) (l : List S35) : List S35 := l.filter (fun s => !decide (s.f0 = item))
theorem dropI_eq {item : Int} {s : S35} {l : List S35} (h : s.f0 = item) : dropI item (s :: l) = dropI item l := by simp [dropI, h]
theorem dropI_ne {item : Int} {s : S35} {l : List S35} (h : ¬ s.f0 = item) : dropI item (s :: l) = s :: dropI item l := by simp [dropI, h]
theorem sign_ev (items : List Int) (every : Int) (l : List S35) (a1 a2 a3 : Int) (hi : items.length ≤ 64) (hl : l.length ≤ 200) (d : Nat) : ∀ (i : Int) (acc : List S35), 0 ≤ i → i + d = l.length → (acc.length : Int) ≤ i →
    Ev (fun k => inspect_Sign.l0 k a1 a2 a3 l (l.length : Int) i items every acc) (signF items every (acc ++ dropI a1 (l.drop i.toNat) ++ [⟨a1, a2, a3⟩])) := by
  induction d with
  | zero =>
    intro i acc h0 hd ha
    refine Ev.step (fun k => by rw [inspect_Sign.l0, if_neg (by omega), if_pos (by omega), Option.bind_some]) ?_
    rw [List.drop_eq_nil_of_le (by omega), show dropI a1 [] = [] from rfl, List.append_nil]
    refine Ev.bind (f := fun k t125 => (if t125 = 0 then (some (items, every, acc ++ [⟨a1, a2, a3⟩], 0)) else (some (([] : List Int), 0, ([] : List (S35)), t125)))) (right_ev items every (acc ++ [⟨a1, a2, a3⟩]) (by omega) (by simp; omega)) ?_
    unfold signF
    by_cases c : rightS items every (acc ++ [⟨a1, a2, a3⟩]) = 0
    · refine Ev.pos c ?_; rw [if_pos c]; exact Ev.now _
    · refine Ev.neg c ?_; rw [if_neg c]; exact Ev.now _
  | succ d ih =>
    intro i acc h0 hd ha
    have h1 : i < (l.length : Int) := by omega
    rw [rd35_at l i h0 h1]
    have hw := wrap_inc h0 h1 (by omega)
    refine Ev.step (fun k => by rw [inspect_Sign.l0, if_pos h1, if_pos h0, if_pos h1, hw]) ?_
    by_cases c : (rd_T35 l i).f0 = a1
    · rw [dropI_eq c]
      exact Ev.pos c (ih (i + 1) acc (by omega) (by omega) (by omega))
    · rw [dropI_ne c]
      refine Ev.neg c (Ev.pos (by omega) ?_)
      have := ih (i + 1) (acc ++ [rd_T35 l i]) (by omega) (by omega) (by simp; omega)
      rw [List.append_assoc acc [rd_T35 l i], List.singleton_append] at this
      exact this
theorem refsign1_ev (items its : List Int) (every ev : Int) (l : List S35) (a1 a2 a3 : Int) (hi : items.length ≤ 64) (hl : l.length ≤ 200) (d : Nat) : ∀ (i : Int) (acc : List S35), 0 ≤ i → i + d = l.length → (acc.length : Int) ≤ i →
    Ev (fun k => skiarearef19_Sign.l1 k a1 a2 a3 i its ev l items every acc) (signF items every (acc ++ dropI a1 (l.drop i.toNat) ++ [⟨a1, a2, a3⟩])) := by
  induction d with
  | zero =>
    intro i acc h0 hd ha
    refine Ev.step (fun k => by rw [skiarearef19_Sign.l1, if_neg (by omega), if_pos (by omega), Option.bind_some]) ?_
    rw [List.drop_eq_nil_of_le (by omega), show dropI a1 [] = [] from rfl, List.append_nil]
    refine Ev.bind (f := fun k t125 => (if t125 = 0 then (some (items, every, acc ++ [⟨a1, a2, a3⟩], 0)) else (some (([] : List Int), 0, ([] : List (S35)), t125)))) (refright_ev items every (acc ++ [⟨a1, a2, a3⟩]) (by omega) (by simp; omega)) ?_
    unfold signF
    by_cases c : rightS items every (acc ++ [⟨a1, a2, a3⟩]) = 0
    · refine Ev.pos c ?_; rw [if_pos c]; exact Ev.now _
    · refine Ev.neg c ?_; rw [if_neg c]; exact Ev.now _
  | succ d ih =>
    intro i acc h0 hd ha
    have h1 : i < (l.length : Int) := by omega
    rw [rd35_at l i h0 h1]
    have hw := wrap_inc h0 h1 (by omega)
    refine Ev.step (fun k => by rw [skiarearef19_Sign.l1, if_pos h1, if_pos h0, hw]) ?_
    by_cases c : (rd_T35 l i).f0 = a1
    · rw [dropI_eq c]
      exact Ev.pos c (ih (i + 1) acc (by omega) (by omega) (by omega))
    · rw [dropI_ne c]
      refine Ev.neg c (Ev.pos (by omega) ?_)
      have := ih (i + 1) (acc ++ [rd_T35 l i]) (by omega) (by omega) (by simp; omega)
      rw [List.append_assoc acc [rd_T35 l i], List.singleton_append] at this
      exact this
theorem refsign_ev (items : List Int) (every : Int) (l : List S35) (a1 a2 a3 : Int) (hi : items.length ≤ 64) (hl : l.length ≤ 200) (d : Nat) : ∀ (i : Int), 0 ≤ i → i + d = items.length →
    Ev (fun k => skiarearef19_Sign.l0 k a1 a2 a3 i items every l (items.take i.toNat) every) (signF items every (dropI a1 l ++ [⟨a1, a2, a3⟩])) := by
  induction d with
  | zero =>
    intro i h0 hd
    refine Ev.step (fun k => by rw [skiarearef19_Sign.l0, if_neg (by omega)]) ?_
    rw [List.take_of_length_le (by omega)]
    have := refsign1_ev items items every every l a1 a2 a3 hi hl l.length 0 [] (by omega) (by omega) (by simp)
    simpa using this
  | succ d ih =>
    intro i h0 hd
    have h1 : i < (items.length : Int) := by omega
    have hw := wrap_inc h0 h1 (by omega)
    refine Ev.step (fun k => by rw [skiarearef19_Sign.l0, if_pos h1, if_pos h0, if_pos (by rw [List.length_take]; omega), hw, ← take_at items i h0 h1]) ?_
    exact ih (i + 1) (by omega) (by omega)
/-! ### Same of the same -/
theorem sameints_ev (l : List Int) (hl : l.length ≤ 9223372036854775807) (d : Nat) : ∀ (i : Int), 0 ≤ i → i + d = l.length → Ev (fun k => skiarearef19_SameInts.l0 k l l i) true := by
  induction d with
  | zero =>
    intro i h0 hd
    exact Ev.step (f := fun _ => some true) (fun k => by rw [skiarearef19_SameInts.l0, if_neg (by omega)]) (Ev.now _)
  | succ d ih =>
    intro i h0 hd
    have h1 : i < (l.length : Int) := by omega
    exact Ev.step (fun k => by rw [skiarearef19_SameInts.l0, if_pos h1, if_pos h0, if_pos h1, if_pos rfl, wrap_inc h0 h1 hl]) (ih (i + 1) (by omega) (by omega))
theorem same_ev (items : List Int) (every : Int) (l : List S35) (hl : l.length ≤ 9223372036854775807) (d : Nat) : ∀ (i : Int), 0 ≤ i → i + d = l.length → Ev (fun k => skiarearef19_Same.l0 k i items every l items every l) true := by
  induction d with
  | zero =>
    intro i h0 hd
    exact Ev.step (f := fun _ => some true) (fun k => by rw [skiarearef19_Same.l0, if_neg (by omega)]) (Ev.now _)
  | succ d ih =>
    intro i h0 hd
    have h1 : i < (l.length : Int) := by omega
    exact Ev.step (fun k => by rw [skiarearef19_Same.l0, if_pos h1, if_pos h0, if_pos h1, if_neg (by simp), wrap_inc h0 h1 hl]) (ih (i + 1) (by omega) (by omega))
theorem same_refl (items : List Int) (every : Int) (l : List S35) (hi : items.length ≤ 9223372036854775807) (hl : l.length ≤ 9223372036854775807) : Ev (fun k => skiarearef19_Same.f k items every l items every l) true := by
  refine Ev.congr (fun k => by rw [skiarearef19_Same.f, if_pos rfl, if_pos rfl]) ?_
  refine Ev.bind (f := fun k t130 => skiarearef19_Same.j0 k (!t130) items every l items every l) (a := true) ?_ ?_
  · exact Ev.congr (fun k => by rw [skiarearef19_SameInts.f, if_pos rfl]) (sameints_ev items hi items.length 0 (by omega) (by omega))
  · exact Ev.step (fun k => by rw [skiarearef19_Same.j0, if_neg (by simp)]) (same_ev items every l hl l.length 0 (by omega) (by omega))
end Go.Proofs.Ytmhggplhfcmgkaa.Q
