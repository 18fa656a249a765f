/- Plain laws and readings for the seat's proofs (this session's). -/
import Derived.RangeFuncNested
import Derived.Shelf.Abstract
import Derived.Deep.Slices
import Derived.ProofKit
import Derived.OpenShut
import Derived.ChangeOld
import Derived.Lib.SmallJoins
import Derived.WalkSpells
import Derived.Test.YtmhggplhfcmgkaaO19
import Derived.Test.YtmhggplhfcmgkaaS19
import Derived.Test.YtmhggplhfcmgkaaQ38
namespace Go.Proofs.Ytmhggplhfcmgkaa.Q
open Go.RowKit Go.Proofs.YtmhggplhfcmgkaaW.PrintWords Go.Proofs.YtmhggplhfcmgkaaW.PrintLast Go.Proofs.YtmhggplhfcmgkaaW.PrintMore
set_option linter.unusedVariables false
set_option linter.unusedSimpArgs false
theorem has_ev (l : List Int) (n : Int) (hl : l.length ≤ 9223372036854775807) : Ev (fun k => skiarealaw19_has.f k l n) (decide (n ∈ l)) := by
  have : ∀ (d : Nat) (i : Int), 0 ≤ i → i + d = l.length → Ev (fun k => skiarealaw19_has.l0 k l n i) (decide (n ∈ l.drop i.toNat)) := by
    intro d
    induction d with
    | zero =>
      intro i h0 hd
      refine Ev.step (f := fun _ => some (decide (n ∈ l.drop i.toNat))) (fun k => ?_) (Ev.now _)
      rw [skiarealaw19_has.l0, if_neg (by omega), List.drop_eq_nil_of_le (by omega)]; simp
    | succ d ih =>
      intro i h0 hd
      have h1 : i < (l.length : Int) := by omega
      rw [rd_at l i h0 h1]
      by_cases c : rd l i = n
      · refine Ev.step (f := fun _ => some true) (fun k => ?_) ?_
        · rw [skiarealaw19_has.l0, if_pos h1, if_pos h0, if_pos c]
        · simp only [c, List.mem_cons, true_or, decide_true]; exact Ev.now _
      · refine Ev.step (f := fun k => skiarealaw19_has.l0 k l n (i + 1)) (fun k => ?_) ?_
        · rw [skiarealaw19_has.l0, if_pos h1, if_pos h0, if_neg c, wrap_inc h0 h1 hl]
        · have := ih (i + 1) (by omega) (by omega)
          rw [show decide (n ∈ rd l i :: l.drop (i + 1).toNat) = decide (n ∈ l.drop (i + 1).toNat) by rw [decide_eq_decide]; simp only [List.mem_cons]; exact ⟨fun h => h.elim (fun h => absurd h.symm c) id, .inr⟩]
          exact this
  exact this l.length 0 (by omega) (by omega)
theorem signed_l0 (items : List Int) (every : Int) (l : List S35) (a1 : Int) (o1 o2 : List Int) (hi : items.length ≤ 64) (ho1 : o1.length ≤ 64) (ho2 : o2.length ≤ 64)
    (h : ∀ it ∈ items, it ≠ a1 → (it ∈ o1 ↔ it ∈ o2)) (d : Nat) : ∀ (i : Int), 0 ≤ i → i + d = items.length → Ev (fun k => skiarealaw19_InspectSigned.l0 k a1 o1 o2 i items every l) true := by
  induction d with
  | zero =>
    intro i h0 hd
    exact Ev.step (f := fun _ => some true) (fun k => by rw [skiarealaw19_InspectSigned.l0, if_neg (by omega)]) (Ev.now _)
  | succ d ih =>
    intro i h0 hd
    have h1 : i < (items.length : Int) := by omega
    have hw := wrap_inc h0 h1 (by omega)
    have hm : rd items i ∈ items := List.mem_of_mem_drop (by rw [rd_at items i h0 h1]; exact List.mem_cons_self ..)
    refine Ev.step (fun k => by rw [skiarealaw19_InspectSigned.l0, if_pos h1, if_pos h0, hw]) ?_
    by_cases c : rd items i = a1
    · exact Ev.pos c (ih (i + 1) (by omega) (by omega))
    · refine Ev.neg c ?_
      refine Ev.bind (f := fun k t377 => ((skiarealaw19_has.f k o2 (rd items i)).bind fun t378 => (if (t377 != t378) = true then (some false) else (skiarealaw19_InspectSigned.l0 k a1 o1 o2 (i + 1) items every l)))) (has_ev o1 (rd items i) (by omega)) ?_
      refine Ev.bind (f := fun k t378 => (if (decide (rd items i ∈ o1) != t378) = true then (some false) else (skiarealaw19_InspectSigned.l0 k a1 o1 o2 (i + 1) items every l))) (has_ev o2 (rd items i) (by omega)) ?_
      refine Ev.neg ?_ (ih (i + 1) (by omega) (by omega))
      have := h _ hm c
      simp [this]
theorem signsE_app (items : List Int) : ∀ (l : List S35) (s : S35) (latest : Int), signsE items latest (l ++ [s]) = 0 → s.f0 ∈ items ∧ 0 ≤ s.f2 ∧ s.f2 ≤ 20000000 :=
  fun l s latest h => by
    have := (signsE_ok items (l ++ [s]) latest h).1 s (by simp)
    exact ⟨this.1, this.2.1, this.2.2.1⟩
theorem InspectSigned_pure (l0_0 : List Int) (a0_1 : Int) (l0_2 : List S35) (a1 a2 a3 a4 : Int) (w0 : WInts l0_0) (w1 : W64 a0_1) (w2 : WSigns l0_2) (wa1 : W64 a1) (wa2 : W64 a2) (wa3 : W64 a3) (wa4 : W64 a4) : ∃ k, skiarealaw19_InspectSigned.f k l0_0 a0_1 l0_2 a1 a2 a3 a4 = some true := by
  refine Ev.rounds (g := fun k => skiarealaw19_InspectSigned.f k l0_0 a0_1 l0_2 a1 a2 a3 a4) (r := true) ?_
  unfold skiarealaw19_InspectSigned.f skiarealaw19_alive.f
  simp only [Option.bind_some, if_true]
  have skip : Ev (fun k => skiarealaw19_InspectSigned.j0 k a1 a2 a3 a4 true l0_0 a0_1 l0_2) true := Ev.step (f := fun _ => some true) (fun k => by rw [skiarealaw19_InspectSigned.j0, if_pos rfl]) (Ev.now _)
  by_cases b1 : (l0_0.length : Int) > 80
  · exact Ev.pos b1 skip
  refine Ev.neg b1 ?_
  by_cases b2 : (l0_2.length : Int) > 220
  · exact Ev.pos b2 skip
  refine Ev.neg b2 ?_
  refine Ev.bind (f := fun k t347 => (skiarealaw19_InspectSigned.j0 k a1 a2 a3 a4 (t347 != 0) l0_0 a0_1 l0_2)) (right_ev l0_0 a0_1 l0_2 (by omega) (by omega)) ?_
  by_cases b3 : rightS l0_0 a0_1 l0_2 = 0
  case neg => (rw [show (rightS l0_0 a0_1 l0_2 != 0) = true by simpa using b3]; exact skip)
  rw [b3, show ((0 : Int) != 0) = false from rfl]
  have ok := right_okay b3
  have hi := ok.ni
  have hl := ok.ns
  have ht := ok.tame
  refine Ev.step (fun k => by rw [skiarealaw19_InspectSigned.j0, if_neg (by simp)]) ?_
  have hs : Ev (fun k => inspect_Sign.f k l0_0 a0_1 l0_2 a1 a2 a3) (signF l0_0 a0_1 (dropI a1 l0_2 ++ [⟨a1, a2, a3⟩])) := by
    refine Ev.congr (fun k => by rw [inspect_Sign.f, slices_Clone_int_int.f, if_pos (by omega), Option.bind_some]) ?_
    have := sign_ev l0_0 a0_1 l0_2 a1 a2 a3 hi hl l0_2.length 0 [] (by omega) (by omega) (by simp)
    simpa using this
  refine Ev.bind (f := fun k bt348 => (if bt348.2.2.2 = 0 then ((inspect_Right.f k bt348.1 bt348.2.1 bt348.2.2.1).bind fun t357 => (if t357 = 0 then ((inspect_Open.f bt348.1 bt348.2.1 bt348.2.2.1 a3).bind fun t358 => ((skiarealaw19_has.f k t358 a1).bind fun t361 => (if t361 = true then (skiarealaw19_InspectSigned.j1 k a1 a3 a4 true l0_0 a0_1 l0_2 bt348.1 bt348.2.1 bt348.2.2.1) else ((inspect_Open.f bt348.1 bt348.2.1 bt348.2.2.1 (wrap64 (a3 + a0_1))).bind fun t362 => ((skiarealaw19_has.f k t362 a1).bind fun t365 => (skiarealaw19_InspectSigned.j1 k a1 a3 a4 (!t365) l0_0 a0_1 l0_2 bt348.1 bt348.2.1 bt348.2.2.1)))))) else (skiarealaw19_InspectSigned.j1 k a1 a3 a4 true l0_0 a0_1 l0_2 bt348.1 bt348.2.1 bt348.2.2.1))) else (if (bt348.1.length : Int) = 0 then (some ((bt348.2.2.1.length : Int) == 0)) else (some false)))) hs ?_
  have hlen : (dropI a1 l0_2 ++ [(⟨a1, a2, a3⟩ : S35)]).length ≤ 9223372036854775807 := by
    have h3 : (dropI a1 l0_2).length ≤ 200 := Nat.le_trans (List.length_filter_le _ _) hl
    rw [List.length_append, List.length_singleton]; omega
  have hcov0 : ∀ it t, it ≠ a1 → cov a0_1 (dropI a1 l0_2 ++ [(⟨a1, a2, a3⟩ : S35)]) it t = cov a0_1 l0_2 it t := by
    intro it t hne
    unfold cov dropI
    rw [List.any_append, List.any_filter]
    have e1 : ∀ x : S35, ((!decide (x.f0 = a1)) && cntB it t a0_1 x) = cntB it t a0_1 x := by
      intro x
      by_cases e : x.f0 = a1
      · have : cntB it t a0_1 x = false := by unfold cntB; rw [decide_eq_false (by rw [e]; exact fun h => hne h.symm)]; rfl
        rw [this, Bool.and_false]
      · simp [e]
    simp only [e1]
    have e2 : cntB it t a0_1 ⟨a1, a2, a3⟩ = false := by unfold cntB; rw [decide_eq_false (fun h => hne h.symm)]; rfl
    simp [e2]
  have hcov1 : ∀ t, cov a0_1 (dropI a1 l0_2 ++ [(⟨a1, a2, a3⟩ : S35)]) a1 t = cntB a1 t a0_1 ⟨a1, a2, a3⟩ := by
    intro t
    unfold cov dropI
    rw [List.any_append, List.any_filter]
    have e1 : ∀ x : S35, ((!decide (x.f0 = a1)) && cntB a1 t a0_1 x) = false := by
      intro x
      by_cases e : x.f0 = a1
      · simp [e]
      · simp [cntB, e]
    simp only [e1]
    simp
  generalize hL : dropI a1 l0_2 ++ [(⟨a1, a2, a3⟩ : S35)] = L at hlen hcov0 hcov1 ⊢
  unfold signF
  by_cases c : rightS l0_0 a0_1 L = 0
  case neg => (rw [if_neg c] ; exact Ev.neg c (Ev.pos rfl (Ev.now _)))
  rw [if_pos c]
  have okL := right_okay c
  have hin := signsE_app l0_0 (dropI a1 l0_2) ⟨a1, a2, a3⟩ 0 (by rw [hL]; exact okL.sg)
  have cnt : ∀ t, cntB a1 t a0_1 (⟨a1, a2, a3⟩ : S35) = true ↔ a3 ≤ t ∧ t < a3 + a0_1 := fun t => by
    have := cnt_iff (s := (⟨a1, a2, a3⟩ : S35)) ht.1 ht.2.1 hin.2.1 hin.2.2 a1 t
    simpa using this
  have mem : ∀ t, a1 ∈ openL l0_0 a0_1 L t ↔ ¬ (a3 ≤ t ∧ t < a3 + a0_1) := fun t => by
    rw [openL_mem, hcov1 t, ← cnt t]
    simp [hin.1]
  have olen : ∀ m t, (openL l0_0 a0_1 m t).length ≤ 64 := fun m t => Nat.le_trans (List.length_filter_le _ _) hi
  have e1 := ht.1
  have e2 := ht.2.1
  have e3 := hin.2.1
  have e4 := hin.2.2
  simp only at e3 e4
  refine Ev.pos rfl ?_
  refine Ev.bind (f := fun k t357 => (if t357 = 0 then ((inspect_Open.f l0_0 a0_1 L a3).bind fun t358 => ((skiarealaw19_has.f k t358 a1).bind fun t361 => (if t361 = true then (skiarealaw19_InspectSigned.j1 k a1 a3 a4 true l0_0 a0_1 l0_2 l0_0 a0_1 L) else ((inspect_Open.f l0_0 a0_1 L (wrap64 (a3 + a0_1))).bind fun t362 => ((skiarealaw19_has.f k t362 a1).bind fun t365 => (skiarealaw19_InspectSigned.j1 k a1 a3 a4 (!t365) l0_0 a0_1 l0_2 l0_0 a0_1 L)))))) else (skiarealaw19_InspectSigned.j1 k a1 a3 a4 true l0_0 a0_1 l0_2 l0_0 a0_1 L))) (right_ev l0_0 a0_1 L (by omega) hlen) ?_
  refine Ev.pos c ?_
  refine Ev.congr (fun k => by rw [open_some _ _ _ _ hi, Option.bind_some]) ?_
  refine Ev.bind (f := fun k t361 => (if t361 = true then (skiarealaw19_InspectSigned.j1 k a1 a3 a4 true l0_0 a0_1 l0_2 l0_0 a0_1 L) else ((inspect_Open.f l0_0 a0_1 L (wrap64 (a3 + a0_1))).bind fun t362 => ((skiarealaw19_has.f k t362 a1).bind fun t365 => (skiarealaw19_InspectSigned.j1 k a1 a3 a4 (!t365) l0_0 a0_1 l0_2 l0_0 a0_1 L))))) (has_ev (openL l0_0 a0_1 L a3) a1 (by have := olen L a3; omega)) ?_
  refine Ev.neg (by rw [decide_eq_true_iff, mem]; omega) ?_
  refine Ev.congr (fun k => by rw [open_some _ _ _ _ hi, Option.bind_some, show wrap64 (a3 + a0_1) = a3 + a0_1 by unfold wrap64; omega]) ?_
  refine Ev.bind (f := fun k t365 => (skiarealaw19_InspectSigned.j1 k a1 a3 a4 (!t365) l0_0 a0_1 l0_2 l0_0 a0_1 L)) (has_ev (openL l0_0 a0_1 L (a3 + a0_1)) a1 (by have := olen L (a3 + a0_1); omega)) ?_
  rw [decide_eq_true (by rw [mem]; omega)]
  have j2 : Ev (fun k => skiarealaw19_InspectSigned.j2 k a1 a4 false l0_0 a0_1 l0_2 l0_0 a0_1 L) true := by
    refine Ev.step (fun k => by rw [skiarealaw19_InspectSigned.j2, if_neg (by simp), open_some _ _ _ _ hi, Option.bind_some, open_some _ _ _ _ hi, Option.bind_some]) ?_
    refine signed_l0 l0_0 a0_1 l0_2 a1 _ _ hi (olen _ _) (olen _ _) (fun it hm hne => ?_) l0_0.length 0 (by omega) (by omega)
    rw [openL_mem, openL_mem, hcov0 it a4 hne]
  refine Ev.step (fun k => by rw [skiarealaw19_InspectSigned.j1, if_neg (by simp)]) ?_
  by_cases c4 : a4 ≥ a3
  · refine Ev.pos c4 ?_
    have hw : wrap64 (a4 - a3) = a4 - a3 := by
      have := wa4.hi
      unfold wrap64; omega
    rw [hw]
    by_cases c5 : a4 - a3 < a0_1
    · refine Ev.pos c5 ?_
      refine Ev.congr (fun k => by rw [open_some _ _ _ _ hi, Option.bind_some]) ?_
      refine Ev.bind (f := fun k t369 => (skiarealaw19_InspectSigned.j2 k a1 a4 t369 l0_0 a0_1 l0_2 l0_0 a0_1 L)) (has_ev (openL l0_0 a0_1 L a4) a1 (by have := olen L a4; omega)) ?_
      rw [decide_eq_false (by rw [mem]; omega)]
      exact j2
    · exact Ev.neg c5 j2
  · exact Ev.neg c4 j2
end Go.Proofs.Ytmhggplhfcmgkaa.Q
