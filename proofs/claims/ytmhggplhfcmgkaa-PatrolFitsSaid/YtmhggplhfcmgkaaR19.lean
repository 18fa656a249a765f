/- Plain laws and readings for the seat's proofs (this session's). -/
import Derived.RangeFuncNested
import Derived.Shelf.Abstract
import Derived.Deep.Slices
import Derived.ProofKit
import Derived.OpenShut
import Derived.ChangeOld
import Derived.Lib.SmallJoins
import Derived.WalkSpells
import Derived.Test.YtmhggplhfcmgkaaRP19
import Derived.Test.YtmhggplhfcmgkaaQ22
import Derived.Test.YtmhggplhfcmgkaaQ23
import Derived.Test.YtmhggplhfcmgkaaQ24
namespace Go.Proofs.Ytmhggplhfcmgkaa.Q
open Go.RowKit Go.Proofs.YtmhggplhfcmgkaaW.PrintWords Go.Proofs.YtmhggplhfcmgkaaW.PrintLast Go.Proofs.YtmhggplhfcmgkaaW.PrintMore
set_option linter.unusedVariables false
set_option linter.unusedSimpArgs false
theorem has19_ev (l : List Int) (n : Int) (hl : l.length ≤ 9223372036854775807) (d : Nat) : ∀ i : Int, 0 ≤ i → i + d = l.length →
    Ev (fun k => skiarearef19_Has.l0 k l n i) (decide (n ∈ l.drop i.toNat)) := by
  induction d with
  | zero =>
    intro i h0 hd
    refine Ev.step (f := fun _ => some (decide (n ∈ l.drop i.toNat))) (fun k => ?_) (Ev.now _)
    rw [skiarearef19_Has.l0, if_neg (by omega), List.drop_eq_nil_of_le (by omega)]; simp
  | succ d ih =>
    intro i h0 hd
    have h1 : i < (l.length : Int) := by omega
    rw [rd_at l i h0 h1]
    by_cases c : rd l i = n
    · refine Ev.step (f := fun _ => some true) (fun k => ?_) ?_
      · rw [skiarearef19_Has.l0, if_pos h1, if_pos h0, if_pos c]
      · simp only [c, List.mem_cons, true_or, decide_true]; exact Ev.now _
    · refine Ev.step (f := fun k => skiarearef19_Has.l0 k l n (i + 1)) (fun k => ?_) ?_
      · rw [skiarearef19_Has.l0, if_pos h1, if_pos h0, if_neg c, wrap_inc h0 h1 hl]
      · have := ih (i + 1) (by omega) (by omega)
        rw [show decide (n ∈ rd l i :: l.drop (i + 1).toNat) = decide (n ∈ l.drop (i + 1).toNat) by rw [decide_eq_decide]; simp only [List.mem_cons]; exact ⟨fun h => h.elim (fun h => absurd h.symm c) id, .inr⟩]
        exact this
theorem refhas_ev (l : List Int) (n : Int) (hl : l.length ≤ 9223372036854775807) : Ev (fun k => skiarearef19_Has.f k l n) (decide (n ∈ l)) := has19_ev l n hl l.length 0 (by omega) (by omega)
theorem in19 (a b c : Int) : skiarearef19_in.f a b c = some (decide (b ≤ a ∧ a ≤ c)) := by
  unfold skiarearef19_in.f
  by_cases h : a ≥ b
  · rw [if_pos h]; congr 1; rw [decide_eq_decide]; omega
  · rw [if_neg h]; congr 1; symm; rw [decide_eq_false_iff_not]; omega
theorem refsigns_ev (items : List Int) (every : Int) (l : List S35) (hi : items.length ≤ 9223372036854775807) (hl : l.length ≤ 9223372036854775807) (d : Nat) : ∀ (i : Int) (latest : Int), 0 ≤ i → i + d = l.length → (i = 0 → latest = 0) → (0 < i → latest = (rd_T35 l (i - 1)).f2) →
    Ev (fun k => skiarearef19_Right.l1 k i items every l) (signsE items latest (l.drop i.toNat)) := by
  induction d with
  | zero =>
    intro i latest h0 hd _ _
    refine Ev.step (f := fun _ => some 0) (fun k => ?_) ?_
    · rw [skiarearef19_Right.l1, if_neg (by omega)]
    · rw [List.drop_eq_nil_of_le (by omega)]; exact Ev.now _
  | succ d ih =>
    intro i latest h0 hd hz hp
    have h1 : i < (l.length : Int) := by omega
    rw [rd35_at l i h0 h1, signsE]
    have hw : 0 < i → wrap64 (i - 1) = i - 1 := fun h => by unfold wrap64; omega
    refine Ev.step (fun k => by rw [skiarearef19_Right.l1, if_pos h1, if_pos h0]) ?_
    refine Ev.bind (f := fun k t233 => (if t233 = true then ((skiarearef19_in.f ((rd_T35 l i).f1) 1 9999).bind fun t234 => (if t234 = true then ((skiarearef19_in.f ((rd_T35 l i).f2) 0 20000000).bind fun t235 => (if t235 = true then (if i > 0 then (if 0 ≤ (wrap64 (i - 1)) then (if (wrap64 (i - 1)) < (l.length : Int) then (if ((rd_T35 l i).f2) < ((rd_T35 l (wrap64 (i - 1))).f2) then (some 11) else (skiarearef19_Right.l1 k (wrap64 (i + 1)) items every l)) else (none)) else (none)) else (skiarearef19_Right.l1 k (wrap64 (i + 1)) items every l)) else (some 2))) else (some 17))) else (some 8))) (refhas_ev items _ hi) ?_
    by_cases m : (rd_T35 l i).f0 ∈ items
    · rw [if_neg (by simpa using m)]
      refine Ev.pos (by simpa using m) ?_
      by_cases c : (rd_T35 l i).f1 < 1 ∨ (rd_T35 l i).f1 > 9999
      · rw [if_pos c]
        refine Ev.congr (f := fun _ => some 17) (fun k => ?_) (Ev.now _)
        rw [in19, Option.bind_some, if_neg (by simp; omega)]
      · rw [if_neg c]
        refine Ev.congr (fun k => by rw [in19, Option.bind_some, if_pos (by simp; omega), in19, Option.bind_some]) ?_
        by_cases c2 : (rd_T35 l i).f2 < 0 ∨ (rd_T35 l i).f2 > 20000000
        · rw [if_pos c2]
          exact Ev.neg (by simp; omega) (Ev.now _)
        · rw [if_neg c2]
          refine Ev.pos (by simp; omega) ?_
          rw [wrap_inc h0 h1 hl]
          by_cases c4 : i > 0
          · rw [hw c4]
            refine Ev.pos c4 (Ev.pos (by omega) (Ev.pos (by omega) ?_))
            rw [← hp c4]
            by_cases c3 : (rd_T35 l i).f2 < latest
            · rw [if_pos c3]; exact Ev.pos c3 (Ev.now _)
            · rw [if_neg c3]
              exact Ev.neg c3 (ih (i + 1) _ (by omega) (by omega) (by omega) (fun _ => by rw [show i + 1 - 1 = i by omega]))
          · refine Ev.neg c4 ?_
            rw [if_neg (by rw [hz (by omega)]; omega)]
            exact ih (i + 1) _ (by omega) (by omega) (by omega) (fun _ => by rw [show i + 1 - 1 = i by omega])
    · rw [if_pos (by simpa using m)]
      exact Ev.neg (by simpa using m) (Ev.now _)
theorem refitems_ev (items : List Int) (every : Int) (l : List S35) (hi : items.length ≤ 9223372036854775807) (hl : l.length ≤ 9223372036854775807) (d : Nat) : ∀ (i : Int), 0 ≤ i → i + d = items.length →
    Ev (fun k => skiarearef19_Right.l0 k i items every l) (if itemsE (items.take i.toNat) (items.drop i.toNat) ≠ 0 then itemsE (items.take i.toNat) (items.drop i.toNat) else signsE items 0 l) := by
  induction d with
  | zero =>
    intro i h0 hd
    refine Ev.step (fun k => by rw [skiarearef19_Right.l0, if_neg (by omega)]) ?_
    rw [List.drop_eq_nil_of_le (by omega), if_neg (by simp [itemsE])]
    exact refsigns_ev items every l hi hl l.length 0 0 (by omega) (by omega) (fun _ => rfl) (fun h => by omega)
  | succ d ih =>
    intro i h0 hd
    have h1 : i < (items.length : Int) := by omega
    rw [rd_at items i h0 h1, itemsE]
    refine Ev.step (fun k => by rw [skiarearef19_Right.l0, if_pos h1, if_pos h0, in19, Option.bind_some]) ?_
    by_cases c : rd items i < 1 ∨ rd items i > 9999
    · rw [if_pos c, if_pos (by decide)]
      exact Ev.neg (by simp; omega) (Ev.now _)
    · rw [if_neg c]
      refine Ev.pos (by simp; omega) (Ev.pos (by omega) ?_)
      refine Ev.bind (f := fun k t230 => (if t230 = true then (some 7) else (skiarearef19_Right.l0 k (wrap64 (i + 1)) items every l))) (refhas_ev (items.take i.toNat) (rd items i) (by rw [List.length_take]; omega)) ?_
      by_cases m : rd items i ∈ items.take i.toNat
      · rw [if_pos m, if_pos (by decide)]
        exact Ev.pos (by simpa using m) (Ev.now _)
      · rw [if_neg m]
        refine Ev.neg (by simpa using m) ?_
        rw [wrap_inc h0 h1 hi, ← take_at items i h0 h1]
        exact ih (i + 1) (by omega) (by omega)
theorem refright_ev (items : List Int) (every : Int) (signs : List S35) (hi : items.length ≤ 9223372036854775807) (hl : signs.length ≤ 9223372036854775807) :
    Ev (fun k => skiarearef19_Right.f k items every signs) (rightS items every signs) := by
  unfold rightS
  by_cases c : items.length > 64 ∨ signs.length > 200
  · rw [if_pos c]
    refine Ev.congr (f := fun k => skiarearef19_Right.j0 k true items every signs) (fun k => ?_) ?_
    · unfold skiarearef19_Right.f
      by_cases c1 : (items.length : Int) > 64
      · rw [if_pos c1]
      · rw [if_neg c1, decide_eq_true (by omega)]
    · exact Ev.step (f := fun _ => some 4) (fun k => by rw [skiarearef19_Right.j0, if_pos rfl]) (Ev.now _)
  · rw [if_neg c]
    refine Ev.congr (f := fun k => skiarearef19_Right.j0 k false items every signs) (fun k => by unfold skiarearef19_Right.f; rw [if_neg (by omega), decide_eq_false (by omega)]) ?_
    refine Ev.step (fun k => by rw [skiarearef19_Right.j0, if_neg (by simp), in19, Option.bind_some]) ?_
    by_cases c1 : every < 1 ∨ every > 604800
    · rw [if_pos c1]; exact Ev.neg (by simp; omega) (Ev.now _)
    · rw [if_neg c1]
      exact Ev.pos (by simp; omega) (refitems_ev items every signs hi hl items.length 0 (by omega) (by omega))
end Go.Proofs.Ytmhggplhfcmgkaa.Q
