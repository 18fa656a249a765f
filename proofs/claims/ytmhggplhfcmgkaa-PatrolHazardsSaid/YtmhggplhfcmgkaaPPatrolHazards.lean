/- Plain laws and readings for the seat's proofs (this session's). -/
import Derived.RangeFuncNested
import Derived.Shelf.Abstract
import Derived.Deep.Slices
import Derived.ProofKit
import Derived.OpenShut
import Derived.ChangeOld
import Derived.Lib.SmallJoins
import Derived.WalkSpells
import Derived.Test.YtmhggplhfcmgkaaSM53
import Derived.Test.YtmhggplhfcmgkaaCP53
import Derived.Test.YtmhggplhfcmgkaaOpn53
import Derived.Test.YtmhggplhfcmgkaaQ51
import Derived.Test.YtmhggplhfcmgkaaQ53
import Derived.Test.YtmhggplhfcmgkaaQ59
import Derived.Test.YtmhggplhfcmgkaaQ77
namespace Go.Proofs.Ytmhggplhfcmgkaa.Q
open Go.RowKit Go.Proofs.YtmhggplhfcmgkaaW.PrintWords Go.Proofs.YtmhggplhfcmgkaaW.PrintLast Go.Proofs.YtmhggplhfcmgkaaW.PrintMore
set_option linter.unusedVariables false
set_option linter.unusedSimpArgs false
theorem hazE_last (ls : List S63) (h : S56) : ∀ (l pre : List S56), hazE ls pre (l ++ [h]) = 0 → (∀ x ∈ pre ++ l, x.f0 ≠ h.f0) ∧ hazE ls pre l = 0
  | [], pre, e => by
    rw [List.nil_append, hazE] at e
    by_cases c1 : h.f0 < 1 ∨ h.f0 > 9999 ∨ h.f2 < 0 ∨ h.f2 > 20000000
    · rw [if_pos c1] at e; exact absurd e (by decide)
    rw [if_neg c1] at e
    by_cases c2 : pre.any (idP h.f0) = true
    · rw [if_pos c2] at e; exact absurd e (by decide)
    refine ⟨fun x hx => ?_, rfl⟩
    rw [List.append_nil] at hx
    intro he
    exact c2 (List.any_eq_true.2 ⟨x, hx, by simp [idP, he]⟩)
  | y :: l, pre, e => by
    rw [List.cons_append, hazE] at e
    by_cases c1 : y.f0 < 1 ∨ y.f0 > 9999 ∨ y.f2 < 0 ∨ y.f2 > 20000000
    · rw [if_pos c1] at e; exact absurd e (by decide)
    rw [if_neg c1] at e
    by_cases c2 : pre.any (idP y.f0) = true
    · rw [if_pos c2] at e; exact absurd e (by decide)
    rw [if_neg c2] at e
    by_cases c3 : ls.any (runP y.f1) = false
    · rw [if_pos c3] at e; exact absurd e (by decide)
    rw [if_neg c3] at e
    obtain ⟨h1, h2⟩ := hazE_last ls h l (pre ++ [y]) e
    refine ⟨fun x hx => h1 x (by simpa using hx), ?_⟩
    rw [hazE, if_neg c1, if_neg c2, if_neg c3]
    exact h2
theorem idx_app {α : Type} (p : α → Bool) (y : α) (hy : p y = true) : ∀ (l : List α) (n : Nat), (∀ x ∈ l, p x = false) → idxFrom p (l ++ [y]) n = (n : Int) + l.length
  | [], n, _ => by simp [idxFrom, hy]
  | x :: l, n, h => by
    rw [List.cons_append, idxFrom, if_neg (by rw [h x (List.mem_cons_self ..)]; simp), idx_app p y hy l (n + 1) (fun z hz => h z (List.mem_cons_of_mem _ hz))]
    simp only [List.length_cons]; omega
theorem PatrolHazards_pure (l0_0 : List S63) (l0_1 : List S56) (b0 b1 b2 a2 a3 : Int) (w0 : WLists l0_0) (w1 : WHaz l0_1) (wb0 : W64 b0) (wb1 : W64 b1) (wb2 : W64 b2) (wa2 : W64 a2) (wa3 : W64 a3) : ∃ k, skiarealaw53_PatrolHazards.f k l0_0 l0_1 b0 b1 b2 a2 a3 = some true := by
  refine Ev.rounds (g := fun k => skiarealaw53_PatrolHazards.f k l0_0 l0_1 b0 b1 b2 a2 a3) (r := true) ?_
  unfold skiarealaw53_PatrolHazards.f skiarealaw53_alive.f
  simp only [Option.bind_some, if_true]
  have skip : Ev (fun k => skiarealaw53_PatrolHazards.j0 k a2 a3 true l0_0 l0_1 b0 b1 b2) true := Ev.step (f := fun _ => some true) (fun k => by rw [skiarealaw53_PatrolHazards.j0, if_pos rfl]) (Ev.now _)
  obtain ⟨b, hb, hB⟩ := small_ev l0_0 l0_1
  refine Ev.bind (f := fun k t708 => (if t708 = true then ((patrol_Right.f k l0_0 l0_1).bind fun t709 => (skiarealaw53_PatrolHazards.j0 k a2 a3 (t709 != 0) l0_0 l0_1 b0 b1 b2)) else (skiarealaw53_PatrolHazards.j0 k a2 a3 true l0_0 l0_1 b0 b1 b2))) hb ?_
  cases b with
  | false => exact Ev.neg (by simp) skip
  | true =>
    have S := hB rfl
    refine Ev.pos rfl ?_
    refine Ev.bind (f := fun k t709 => (skiarealaw53_PatrolHazards.j0 k a2 a3 (t709 != 0) l0_0 l0_1 b0 b1 b2)) (patrolright_ev l0_0 l0_1 S) ?_
    by_cases c : right53 l0_0 l0_1 = 0
    case neg => (rw [show (right53 l0_0 l0_1 != 0) = true by simpa using c]; exact skip)
    have F := fine_of c
    have hnh := F.nh
    rw [c, show ((0 : Int) != 0) = false from rfl]
    have S2 : Small l0_0 (l0_1 ++ [(⟨b0, b1, b2⟩ : S56)]) := ⟨S.nl, by rw [List.length_append, List.length_singleton]; omega, S.fit⟩
    have hrep : Ev (fun k => patrol_Report.f k l0_0 l0_1 b0 b1 b2) (if right53 l0_0 (l0_1 ++ [(⟨b0, b1, b2⟩ : S56)]) = 0 then (l0_0, l0_1 ++ [(⟨b0, b1, b2⟩ : S56)], 0) else (([] : List S63), ([] : List S56), right53 l0_0 (l0_1 ++ [(⟨b0, b1, b2⟩ : S56)]))) := by
      refine Ev.congr (fun k => by rw [patrol_Report.f, copied_some S.nl S.nh S.fit, Option.bind_some, if_pos (by show l0_1.length < _; omega), Option.bind_some]) ?_
      refine Ev.bind (f := fun k t437 => (if t437 = 0 then (some (l0_0, l0_1 ++ [(⟨b0, b1, b2⟩ : S56)], 0)) else (some (([] : List (S63)), ([] : List (S56)), t437)))) (patrolright_ev _ _ S2) ?_
      by_cases e : right53 l0_0 (l0_1 ++ [(⟨b0, b1, b2⟩ : S56)]) = 0
      · refine Ev.pos e ?_; rw [if_pos e]; exact Ev.now _
      · refine Ev.neg e ?_; rw [if_neg e]; exact Ev.now _
    refine Ev.step (fun k => by rw [skiarealaw53_PatrolHazards.j0, if_neg (by simp)]) ?_
    refine Ev.bind (f := fun k bt710 => (if bt710.2.2 = 0 then ((patrol_Remove.f bt710.1 bt710.2.1 b0).bind fun bt718 => ((patrol_Ready.f bt710.1 bt710.2.1 b1 a3).bind fun t726 => (if t726 = true then (some false) else (if a2 = b1 then (if bt718.2.2 = 0 then ((skiarearef53_Same.f k bt718.1 bt718.2.1 l0_0 l0_1).bind fun t727 => (if t727 = true then (some ((bt710.2.1.length : Int) == (wrap64 ((l0_1.length : Int) + 1)))) else (some false))) else (some false)) else ((patrol_Ready.f bt710.1 bt710.2.1 a2 a3).bind fun t728 => ((patrol_Ready.f l0_0 l0_1 a2 a3).bind fun t729 => (if (t728 == t729) = true then (if bt718.2.2 = 0 then ((skiarearef53_Same.f k bt718.1 bt718.2.1 l0_0 l0_1).bind fun t730 => (if t730 = true then (some ((bt710.2.1.length : Int) == (wrap64 ((l0_1.length : Int) + 1)))) else (some false))) else (some false)) else (some false)))))))) else (if (bt710.1.length : Int) = 0 then (some ((bt710.2.1.length : Int) == 0)) else (some false)))) hrep ?_
    by_cases e : right53 l0_0 (l0_1 ++ [(⟨b0, b1, b2⟩ : S56)]) = 0
    case neg => (rw [if_neg e]; exact Ev.neg e (Ev.pos rfl (Ev.now _)))
    rw [if_pos e]
    have F2 := fine_of e
    obtain ⟨hids, _⟩ := hazE_last l0_0 ⟨b0, b1, b2⟩ l0_1 [] F2.he
    rw [List.nil_append] at hids
    have hrm : patrol_Remove.f l0_0 (l0_1 ++ [(⟨b0, b1, b2⟩ : S56)]) b0 = some (l0_0, l0_1, 0) := by
      have hi : idxFrom (fun h : S56 => decide (h.f0 = b0)) (l0_1 ++ [(⟨b0, b1, b2⟩ : S56)]) 0 = (l0_1.length : Int) := by
        have := idx_app (fun h : S56 => decide (h.f0 = b0)) ⟨b0, b1, b2⟩ (by simp) l0_1 0 (fun x hx => by simpa using hids x hx)
        rw [this]; omega
      rw [patrol_Remove.f, patrol_hazard.f, Option.bind_some, hi, if_neg (by omega), copied_some S2.nl S2.nh S2.fit, Option.bind_some, if_pos ⟨by omega, by rw [List.length_append, List.length_singleton]; omega⟩]
      rw [show ((l0_1.length : Int)).toNat = l0_1.length by omega, List.eraseIdx_append_of_length_le (Nat.le_refl _), Nat.sub_self]
      simp
    have hz : hazR (l0_1 ++ [(⟨b0, b1, b2⟩ : S56)]) b1 = true := by simp [hazR]
    have hr1 : readyB l0_0 (l0_1 ++ [(⟨b0, b1, b2⟩ : S56)]) b1 a3 = false := by unfold readyB; rw [hz]; simp
    refine Ev.pos rfl ?_
    refine Ev.congr (fun k => by rw [hrm, Option.bind_some, patrolready_eq F2, Option.bind_some, hr1]) ?_
    refine Ev.neg (by simp) ?_
    have tail : Ev (fun k => (if (0 : Int) = 0 then ((skiarearef53_Same.f k l0_0 l0_1 l0_0 l0_1).bind fun t727 => (if t727 = true then (some (((l0_1 ++ [(⟨b0, b1, b2⟩ : S56)]).length : Int) == (wrap64 ((l0_1.length : Int) + 1)))) else (some false))) else (some false))) true := by
      refine Ev.pos rfl ?_
      refine Ev.bind (f := fun k t727 => (if t727 = true then (some (((l0_1 ++ [(⟨b0, b1, b2⟩ : S56)]).length : Int) == (wrap64 ((l0_1.length : Int) + 1)))) else (some false))) (same53_refl l0_0 l0_1 S) ?_
      refine Ev.pos rfl ?_
      rw [show (((l0_1 ++ [(⟨b0, b1, b2⟩ : S56)]).length : Int) == (wrap64 ((l0_1.length : Int) + 1))) = true by rw [beq_iff_eq, List.length_append, List.length_singleton, show wrap64 ((l0_1.length : Int) + 1) = (l0_1.length : Int) + 1 by unfold wrap64; omega]; omega]
      exact Ev.now _
    by_cases c2 : a2 = b1
    · exact Ev.pos c2 tail
    · refine Ev.neg c2 ?_
      have hz2 : hazR (l0_1 ++ [(⟨b0, b1, b2⟩ : S56)]) a2 = hazR l0_1 a2 := by simp [hazR, Ne.symm c2]
      have hr2 : readyB l0_0 (l0_1 ++ [(⟨b0, b1, b2⟩ : S56)]) a2 a3 = readyB l0_0 l0_1 a2 a3 := by unfold readyB; rw [hz2]
      refine Ev.congr (fun k => by rw [patrolready_eq F2, Option.bind_some, patrolready_eq F, Option.bind_some, hr2]) ?_
      exact Ev.pos (by simp) tail
end Go.Proofs.Ytmhggplhfcmgkaa.Q
