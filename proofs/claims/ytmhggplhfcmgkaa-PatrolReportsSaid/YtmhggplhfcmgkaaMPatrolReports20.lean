/- Walks and plain laws that this claim bears (this session's). -/
import Derived.RangeFuncNested
import Derived.Shelf.Abstract
import Derived.Deep.Slices
import Derived.ProofKit
import Derived.OpenShut
import Derived.ChangeOld
import Derived.Lib.SmallJoins
import Derived.WalkSpells
import Derived.Test.YtmhggplhfcmgkaaM2
import Derived.Test.YtmhggplhfcmgkaaMPatrolReports19
namespace Go.Proofs.Ytmhggplhfcmgkaa.Q
open Go.RowKit Go.Proofs.YtmhggplhfcmgkaaW.PrintWords Go.Proofs.YtmhggplhfcmgkaaW.PrintLast Go.Proofs.YtmhggplhfcmgkaaW.PrintMore
set_option linter.unusedVariables false
set_option linter.unusedSimpArgs false
theorem hazE_ids (ls : List S63) : ∀ (l pre : List S56), hazE ls pre l = 0 → (∀ x ∈ l, ∀ y ∈ pre, y.f0 ≠ x.f0) ∧ l.Pairwise (fun a b => a.f0 ≠ b.f0)
  | [], _, _ => ⟨by simp, List.Pairwise.nil⟩
  | y :: l, pre, e => by
    rw [hazE] at e
    by_cases c1 : y.f0 < 1 ∨ y.f0 > 9999 ∨ y.f2 < 0 ∨ y.f2 > 20000000
    · rw [if_pos c1] at e; exact absurd e (by decide)
    rw [if_neg c1] at e
    by_cases c2 : pre.any (idP y.f0) = true
    · rw [if_pos c2] at e; exact absurd e (by decide)
    rw [if_neg c2] at e
    by_cases c3 : ls.any (runP y.f1) = false
    · rw [if_pos c3] at e; exact absurd e (by decide)
    rw [if_neg c3] at e
    obtain ⟨h1, h2⟩ := hazE_ids ls l (pre ++ [y]) e
    refine ⟨fun x hx z hz he => ?_, List.Pairwise.cons (fun x hx => h1 x hx y (by simp)) h2⟩
    rcases List.mem_cons.1 hx with rfl | hx
    · exact c2 (List.any_eq_true.2 ⟨z, hz, by simp [idP, he]⟩)
    · exact h1 x hx z (by simp [hz]) he
def dropH (id : Int) (l : List S56) : List S56 := l.filter (fun h => !decide (h.f0 = id))
theorem rem_eq (id : Int) : ∀ (l : List S56) (n : Nat), l.Pairwise (fun a b => a.f0 ≠ b.f0) →
    (idxFrom (fun h : S56 => decide (h.f0 = id)) l n < 0 ∧ dropH id l = l) ∨ (∃ j : Nat, idxFrom (fun h : S56 => decide (h.f0 = id)) l n = (n : Int) + j ∧ j < l.length ∧ dropH id l = l.eraseIdx j)
  | [], n, _ => .inl ⟨by rw [idxFrom]; omega, rfl⟩
  | x :: l, n, hp => by
    rw [List.pairwise_cons] at hp
    rw [idxFrom]
    by_cases c : x.f0 = id
    · refine .inr ⟨0, by rw [if_pos (by simpa using c)]; omega, by simp, ?_⟩
      have : dropH id l = l := by
        unfold dropH
        rw [List.filter_eq_self]
        intro y hy
        have := hp.1 y hy
        simp; omega
      rw [List.eraseIdx_cons_zero]
      show dropH id (x :: l) = l
      rw [show dropH id (x :: l) = dropH id l by simp [dropH, c], this]
    · rw [if_neg (by simpa using c)]
      have e : dropH id (x :: l) = x :: dropH id l := by simp [dropH, c]
      rcases rem_eq id l (n + 1) hp.2 with ⟨h1, h2⟩ | ⟨j, h1, h2, h3⟩
      · exact .inl ⟨h1, by rw [e, h2]⟩
      · exact .inr ⟨j + 1, by rw [h1]; omega, by simp; omega, by rw [e, h3, List.eraseIdx_cons_succ]⟩
def remF (ls : List S63) (hs r : List S56) : List S63 × List S56 × Int := if (r.length : Int) = hs.length then (([] : List S63), ([] : List S56), 8) else (ls, r, 0)
theorem refrem_l0 (ls : List S63) (hs : List S56) (S : Small ls hs) (id : Int) (d : Nat) : ∀ (i : Int) (acc : List S56), 0 ≤ i → i + d = hs.length → (acc.length : Int) ≤ i →
    Ev (fun k => skiarearef53_Remove.l0 k id i ls hs ls acc) (remF ls hs (acc ++ dropH id (hs.drop i.toNat))) := by
  have hn := S.nh
  induction d with
  | zero =>
    intro i acc h0 hd ha
    rw [List.drop_eq_nil_of_le (by omega), show dropH id [] = [] from rfl, List.append_nil]
    refine Ev.step (fun k => by rw [skiarearef53_Remove.l0, if_neg (by omega)]) ?_
    unfold remF
    by_cases c : (acc.length : Int) = (hs.length : Int)
    · refine Ev.pos c ?_; rw [if_pos c]; exact Ev.now _
    · refine Ev.neg c ?_; rw [if_neg c]; exact Ev.now _
  | succ d ih =>
    intro i acc h0 hd ha
    have h1 : i < (hs.length : Int) := by omega
    have hw : wrap64 (i + 1) = i + 1 := by unfold wrap64; omega
    rw [rd56_at hs i h0 h1]
    refine Ev.step (fun k => by rw [skiarearef53_Remove.l0, if_pos h1, if_pos h0, hw]) ?_
    by_cases c : (rd_T56 hs i).f0 = id
    · rw [show dropH id (rd_T56 hs i :: hs.drop (i + 1).toNat) = dropH id (hs.drop (i + 1).toNat) by simp [dropH, c]]
      exact Ev.pos c (ih (i + 1) acc (by omega) (by omega) (by omega))
    · rw [show dropH id (rd_T56 hs i :: hs.drop (i + 1).toNat) = rd_T56 hs i :: dropH id (hs.drop (i + 1).toNat) by simp [dropH, c]]
      refine Ev.neg c (Ev.pos (by omega) ?_)
      have := ih (i + 1) (acc ++ [rd_T56 hs i]) (by omega) (by omega) (by simp; omega)
      rw [List.append_assoc, List.singleton_append] at this
      exact this
theorem prem_eq {ls : List S63} {hs : List S56} (S : Small ls hs) (F : Fine ls hs) (id : Int) : patrol_Remove.f ls hs id = some (remF ls hs (dropH id hs)) := by
  rw [patrol_Remove.f, patrol_hazard.f, Option.bind_some]
  unfold remF
  rcases rem_eq id hs 0 (hazE_ids ls hs [] F.he).2 with ⟨h1, h2⟩ | ⟨j, h1, h2, h3⟩
  · rw [if_pos h1, h2, if_pos rfl]
  · have hl : (hs.eraseIdx j).length = hs.length - 1 := List.length_eraseIdx_of_lt h2
    rw [h1, h3, if_neg (by omega), copied_some S.nl S.nh S.fit, Option.bind_some, if_pos ⟨by omega, by omega⟩, if_neg (by omega), show (((0 : Nat) : Int) + (j : Int)).toNat = j by omega]
theorem PatrolReports_pure (l0_0 : List S63) (l0_1 : List S56) (b0 b1 b2 a2 : Int) (w0 : WLists l0_0) (w1 : WHaz l0_1) (wb0 : W64 b0) (wb1 : W64 b1) (wb2 : W64 b2) (wa2 : W64 a2) : ∃ k, skiarealaw53_PatrolReports.f k l0_0 l0_1 b0 b1 b2 a2 = some true := by
  refine Ev.rounds (g := fun k => skiarealaw53_PatrolReports.f k l0_0 l0_1 b0 b1 b2 a2) (r := true) ?_
  unfold skiarealaw53_PatrolReports.f skiarealaw53_alive.f
  simp only [Option.bind_some, if_true]
  obtain ⟨b, hb, hB⟩ := accepted_ev l0_0 l0_1
  refine Ev.bind (f := fun k t647 => (if t647 = true then ((patrol_Report.f k l0_0 l0_1 b0 b1 b2).bind fun bt648 => ((skiarearef53_Report.f k l0_0 l0_1 b0 b1 b2).bind fun bt656 => ((patrol_Remove.f l0_0 l0_1 a2).bind fun bt664 => ((skiarearef53_Remove.f k l0_0 l0_1 a2).bind fun bt672 => ((skiarearef53_Same.f k bt648.1 bt648.2.1 bt656.1 bt656.2.1).bind fun t680 => (if t680 = true then (if bt648.2.2 = bt656.2.2 then ((skiarearef53_Same.f k bt664.1 bt664.2.1 bt672.1 bt672.2.1).bind fun t681 => (if t681 = true then (some (bt664.2.2 == bt672.2.2)) else (some false))) else (some false)) else (some false))))))) else (some true))) hb ?_
  cases b with
  | false => exact Ev.neg (by simp) (Ev.now _)
  | true =>
    obtain ⟨S, F⟩ := hB rfl
    have hnh := F.nh
    refine Ev.pos rfl ?_
    have S2 : Small l0_0 (l0_1 ++ [(⟨b0, b1, b2⟩ : S56)]) := ⟨S.nl, by rw [List.length_append, List.length_singleton]; omega, S.fit⟩
    have nil : Small ([] : List S63) ([] : List S56) := ⟨by simp, by simp, by simp⟩
    obtain ⟨r, hr1, hr2, hrS⟩ : ∃ r : List S63 × List S56 × Int, Ev (fun k => patrol_Report.f k l0_0 l0_1 b0 b1 b2) r ∧ Ev (fun k => skiarearef53_Report.f k l0_0 l0_1 b0 b1 b2) r ∧ Small r.1 r.2.1 := by
      by_cases e : right53 l0_0 (l0_1 ++ [(⟨b0, b1, b2⟩ : S56)]) = 0
      · refine ⟨(l0_0, l0_1 ++ [(⟨b0, b1, b2⟩ : S56)], 0), ?_, ?_, S2⟩
        · refine Ev.congr (fun k => by rw [patrol_Report.f, copied_some S.nl S.nh S.fit, Option.bind_some, if_pos (by show l0_1.length < _; omega), Option.bind_some]) ?_
          exact Ev.bind (f := fun k t437 => (if t437 = 0 then (some (l0_0, l0_1 ++ [(⟨b0, b1, b2⟩ : S56)], 0)) else (some (([] : List (S63)), ([] : List (S56)), t437)))) (patrolright_ev _ _ S2) (Ev.pos e (Ev.now _))
        · refine Ev.congr (fun k => by rw [skiarearef53_Report.f]) ?_
          refine Ev.bind (f := fun k bt619 => (if bt619.2.length < 5864062014805 then ((some (bt619.2 ++ [(⟨b0, b1, b2⟩ : S56)] : List (S56))).bind fun y626 => ((skiarearef53_Right.f k bt619.1 y626).bind fun t629 => (if t629 = 0 then (some (bt619.1, y626, 0)) else (some (([] : List (S63)), ([] : List (S56)), t629))))) else (none))) (own_ev _ _ S) ?_
          refine Ev.pos (by show l0_1.length < _; omega) ?_
          exact Ev.bind (f := fun k t629 => (if t629 = 0 then (some (l0_0, l0_1 ++ [(⟨b0, b1, b2⟩ : S56)], 0)) else (some (([] : List (S63)), ([] : List (S56)), t629)))) (refright53_ev _ _ S2) (Ev.pos e (Ev.now _))
      · refine ⟨(([] : List S63), ([] : List S56), right53 l0_0 (l0_1 ++ [(⟨b0, b1, b2⟩ : S56)])), ?_, ?_, nil⟩
        · refine Ev.congr (fun k => by rw [patrol_Report.f, copied_some S.nl S.nh S.fit, Option.bind_some, if_pos (by show l0_1.length < _; omega), Option.bind_some]) ?_
          exact Ev.bind (f := fun k t437 => (if t437 = 0 then (some (l0_0, l0_1 ++ [(⟨b0, b1, b2⟩ : S56)], 0)) else (some (([] : List (S63)), ([] : List (S56)), t437)))) (patrolright_ev _ _ S2) (Ev.neg e (Ev.now _))
        · refine Ev.congr (fun k => by rw [skiarearef53_Report.f]) ?_
          refine Ev.bind (f := fun k bt619 => (if bt619.2.length < 5864062014805 then ((some (bt619.2 ++ [(⟨b0, b1, b2⟩ : S56)] : List (S56))).bind fun y626 => ((skiarearef53_Right.f k bt619.1 y626).bind fun t629 => (if t629 = 0 then (some (bt619.1, y626, 0)) else (some (([] : List (S63)), ([] : List (S56)), t629))))) else (none))) (own_ev _ _ S) ?_
          refine Ev.pos (by show l0_1.length < _; omega) ?_
          exact Ev.bind (f := fun k t629 => (if t629 = 0 then (some (l0_0, l0_1 ++ [(⟨b0, b1, b2⟩ : S56)], 0)) else (some (([] : List (S63)), ([] : List (S56)), t629)))) (refright53_ev _ _ S2) (Ev.neg e (Ev.now _))
    have hq2 : Ev (fun k => skiarearef53_Remove.f k l0_0 l0_1 a2) (remF l0_0 l0_1 (dropH a2 l0_1)) := by
      refine Ev.congr (fun k => by rw [skiarearef53_Remove.f]) ?_
      refine Ev.bind (f := fun k bt632 => (skiarearef53_Remove.l0 k a2 0 l0_0 l0_1 bt632.1 ([] : List (S56)))) (own_ev _ _ S) ?_
      have := refrem_l0 l0_0 l0_1 S a2 l0_1.length 0 [] (by omega) (by omega) (by simp)
      simpa using this
    have hqS : Small (remF l0_0 l0_1 (dropH a2 l0_1)).1 (remF l0_0 l0_1 (dropH a2 l0_1)).2.1 := by
      unfold remF
      split
      · exact nil
      · exact ⟨S.nl, Nat.le_trans (List.length_filter_le _ _) S.nh, S.fit⟩
    generalize hq : remF l0_0 l0_1 (dropH a2 l0_1) = q at hq2 hqS
    have hq1 : patrol_Remove.f l0_0 l0_1 a2 = some q := by rw [← hq]; exact prem_eq S F a2
    refine Ev.bind (f := fun k bt648 => ((skiarearef53_Report.f k l0_0 l0_1 b0 b1 b2).bind fun bt656 => ((patrol_Remove.f l0_0 l0_1 a2).bind fun bt664 => ((skiarearef53_Remove.f k l0_0 l0_1 a2).bind fun bt672 => ((skiarearef53_Same.f k bt648.1 bt648.2.1 bt656.1 bt656.2.1).bind fun t680 => (if t680 = true then (if bt648.2.2 = bt656.2.2 then ((skiarearef53_Same.f k bt664.1 bt664.2.1 bt672.1 bt672.2.1).bind fun t681 => (if t681 = true then (some (bt664.2.2 == bt672.2.2)) else (some false))) else (some false)) else (some false))))))) hr1 ?_
    refine Ev.bind (f := fun k bt656 => ((patrol_Remove.f l0_0 l0_1 a2).bind fun bt664 => ((skiarearef53_Remove.f k l0_0 l0_1 a2).bind fun bt672 => ((skiarearef53_Same.f k r.1 r.2.1 bt656.1 bt656.2.1).bind fun t680 => (if t680 = true then (if r.2.2 = bt656.2.2 then ((skiarearef53_Same.f k bt664.1 bt664.2.1 bt672.1 bt672.2.1).bind fun t681 => (if t681 = true then (some (bt664.2.2 == bt672.2.2)) else (some false))) else (some false)) else (some false)))))) hr2 ?_
    refine Ev.congr (fun k => by rw [hq1, Option.bind_some]) ?_
    refine Ev.bind (f := fun k bt672 => ((skiarearef53_Same.f k r.1 r.2.1 r.1 r.2.1).bind fun t680 => (if t680 = true then (if r.2.2 = r.2.2 then ((skiarearef53_Same.f k q.1 q.2.1 bt672.1 bt672.2.1).bind fun t681 => (if t681 = true then (some (q.2.2 == bt672.2.2)) else (some false))) else (some false)) else (some false)))) hq2 ?_
    refine Ev.bind (f := fun k t680 => (if t680 = true then (if r.2.2 = r.2.2 then ((skiarearef53_Same.f k q.1 q.2.1 q.1 q.2.1).bind fun t681 => (if t681 = true then (some (q.2.2 == q.2.2)) else (some false))) else (some false)) else (some false))) (same53_refl r.1 r.2.1 hrS) ?_
    refine Ev.pos rfl (Ev.pos rfl ?_)
    refine Ev.bind (f := fun k t681 => (if t681 = true then (some (q.2.2 == q.2.2)) else (some false))) (same53_refl q.1 q.2.1 hqS) ?_
    refine Ev.pos rfl ?_
    rw [beq_self_eq_true]
    exact Ev.now _
end Go.Proofs.Ytmhggplhfcmgkaa.Q
