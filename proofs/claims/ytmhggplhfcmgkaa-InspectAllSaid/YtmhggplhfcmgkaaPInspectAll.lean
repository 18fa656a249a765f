/- Plain laws and readings for the seat's proofs (this session's). -/
import Derived.RangeFuncNested
import Derived.Shelf.Abstract
import Derived.Deep.Slices
import Derived.ProofKit
import Derived.OpenShut
import Derived.ChangeOld
import Derived.Lib.SmallJoins
import Derived.WalkSpells
import Derived.Test.YtmhggplhfcmgkaaO19
import Derived.Test.YtmhggplhfcmgkaaSP19
import Derived.Test.YtmhggplhfcmgkaaA10
namespace Go.Proofs.Ytmhggplhfcmgkaa.Q
open Go.RowKit Go.Proofs.YtmhggplhfcmgkaaW.PrintWords Go.Proofs.YtmhggplhfcmgkaaW.PrintLast Go.Proofs.YtmhggplhfcmgkaaW.PrintMore
set_option linter.unusedVariables false
set_option linter.unusedSimpArgs false
theorem signsE_good (items : List Int) : ∀ (l : List S35) (latest : Int), signsE items latest l = 0 ↔ (∀ s ∈ l, s.f0 ∈ items ∧ 1 ≤ s.f1 ∧ s.f1 ≤ 9999 ∧ 0 ≤ s.f2 ∧ s.f2 ≤ 20000000 ∧ latest ≤ s.f2) ∧ l.Pairwise (fun a b => a.f2 ≤ b.f2)
  | [], _ => by simp [signsE]
  | s :: l, latest => by
    rw [signsE]
    by_cases c1 : s.f0 ∉ items
    · rw [if_pos c1]; simp [c1]
    rw [if_neg c1]
    have c1' : s.f0 ∈ items := by simpa using c1
    by_cases c2 : s.f1 < 1 ∨ s.f1 > 9999
    · rw [if_pos c2]; refine ⟨fun h => absurd h (by decide), fun h => ?_⟩
      have := h.1 s (List.mem_cons_self ..); omega
    rw [if_neg c2]
    by_cases c3 : s.f2 < 0 ∨ s.f2 > 20000000
    · rw [if_pos c3]; refine ⟨fun h => absurd h (by decide), fun h => ?_⟩
      have := h.1 s (List.mem_cons_self ..); omega
    rw [if_neg c3]
    by_cases c4 : s.f2 < latest
    · rw [if_pos c4]; refine ⟨fun h => absurd h (by decide), fun h => ?_⟩
      have := h.1 s (List.mem_cons_self ..); omega
    rw [if_neg c4, signsE_good items l s.f2, List.pairwise_cons]
    constructor
    · rintro ⟨h1, h2⟩
      refine ⟨fun x hx => ?_, fun x hx => (h1 x hx).2.2.2.2.2, h2⟩
      rcases List.mem_cons.1 hx with rfl | hx
      · exact ⟨c1', by omega, by omega, by omega, by omega, by omega⟩
      · obtain ⟨a, b, c, d, e, f⟩ := h1 x hx
        exact ⟨a, b, c, d, e, by omega⟩
    · rintro ⟨h1, h2, h3⟩
      refine ⟨fun x hx => ?_, h3⟩
      obtain ⟨a, b, c, d, e, f⟩ := h1 x (List.mem_cons_of_mem _ hx)
      exact ⟨a, b, c, d, e, h2 x hx⟩
theorem covAll0 {every o b t : Int} {l : List S35} (it : Int) (v : Int) (hne : it ≠ o) : cov every (dropI o l ++ [(⟨o, b, t⟩ : S35)]) it v = cov every l it v := by
  unfold cov dropI
  rw [List.any_append, List.any_filter]
  have e1 : ∀ x : S35, ((!decide (x.f0 = o)) && cntB it v every x) = cntB it v every x := by
    intro x
    by_cases e : x.f0 = o
    · have : cntB it v every x = false := by unfold cntB; rw [decide_eq_false (by rw [e]; exact fun h => hne h.symm)]; rfl
      rw [this, Bool.and_false]
    · simp [e]
  simp only [e1]
  have e2 : cntB it v every ⟨o, b, t⟩ = false := by unfold cntB; rw [decide_eq_false (fun h => hne h.symm)]; rfl
  simp [e2]
theorem covAll1 {every o b t : Int} {l : List S35} (h1 : 1 ≤ every) (h2 : every ≤ 604800) (h3 : 0 ≤ t) (h4 : t ≤ 20000000) : cov every (dropI o l ++ [(⟨o, b, t⟩ : S35)]) o t = true := by
  unfold cov
  rw [List.any_append]
  have : cntB o t every (⟨o, b, t⟩ : S35) = true := (cnt_iff (s := (⟨o, b, t⟩ : S35)) h1 h2 h3 h4 o t).2 ⟨rfl, by simp only; omega, by simp only; omega⟩
  simp [this]
/-- Behind all signatures that are still to come, the checklist is done. -/
theorem goA_ev (items : List Int) (every b t : Int) (hb1 : 1 ≤ b) (hb2 : b ≤ 9999) (ht1 : 0 ≤ t) (ht2 : t ≤ 20000000) : ∀ (os : List Int) (l : List S35), Okay items every l → (∀ s ∈ l, s.f2 ≤ t) → (∀ o ∈ os, o ∈ items) → (∀ it ∈ items, cov every l it t = true ∨ it ∈ os) →
    Ev (fun k => goA k b t os items every l) true
  | [], l, ok, hl, _, hc => by
    have hi := ok.ni
    obtain ⟨r, hr, h1, h2⟩ := until_ev ok.tame hi t
    have call : ∀ it ∈ items, cov every l it t = true := fun it hm => (hc it hm).resolve_right (by simp)
    refine Ev.congr (fun k => by rw [goA, done_some _ _ _ _ hi, Option.bind_some, if_pos ((done_iff _ _ _ _).2 call)]) ?_
    refine Ev.bind (f := fun _ u => some (decide (u > t) == decide (t < 20000000))) hr ?_
    have hU := h1 call
    have htop := hU.top
    have : (decide (r > t) == decide (t < 20000000)) = true := by
      by_cases c : t < 20000000
      · have hgt : r > t := by
          rcases hU.opn with e | ⟨e1, it, hm, hcv⟩
          · omega
          · rcases Int.lt_or_eq_of_le e1 with e | e
            · exact e
            · rw [← e, call it hm] at hcv
              exact absurd hcv (by simp)
        rw [decide_eq_true hgt, decide_eq_true c]; rfl
      · rw [decide_eq_false c, decide_eq_false (by omega)]; rfl
    rw [this]
    exact Ev.now _
  | o :: os, l, ok, hl, ho, hc => by
    have hi := ok.ni
    have hn := ok.ns
    have hs : Ev (fun k => inspect_Sign.f k items every l o b t) (signF items every (dropI o l ++ [⟨o, b, t⟩])) := by
      refine Ev.congr (fun k => by rw [inspect_Sign.f, slices_Clone_int_int.f, if_pos (by omega), Option.bind_some]) ?_
      have := sign_ev items every l o b t hi hn l.length 0 [] (by omega) (by omega) (by simp)
      simpa using this
    refine Ev.congr (fun k => by rw [goA]) ?_
    refine Ev.bind (f := fun k x => if x.2.2.2 = 4 then some true else if x.2.2.2 = 0 then goA k b t os x.1 x.2.1 x.2.2.1 else some false) hs ?_
    by_cases c : (dropI o l ++ [(⟨o, b, t⟩ : S35)]).length > 200
    · have e : rightS items every (dropI o l ++ [(⟨o, b, t⟩ : S35)]) = 4 := by unfold rightS; rw [if_pos (Or.inr c)]
      unfold signF
      rw [e, if_neg (by decide)]
      exact Ev.pos rfl (Ev.now _)
    · have g := (signsE_good items l 0).1 ok.sg
      have gd : signsE items 0 (dropI o l ++ [(⟨o, b, t⟩ : S35)]) = 0 := by
        rw [signsE_good]
        refine ⟨fun s hs => ?_, ?_⟩
        · rcases List.mem_append.1 hs with hs | hs
          · exact g.1 s ((List.mem_filter.1 hs).1)
          · obtain rfl := List.mem_singleton.1 hs
            exact ⟨ho o (List.mem_cons_self ..), hb1, hb2, ht1, ht2, ht1⟩
        · rw [List.pairwise_append]
          refine ⟨g.2.filter _, List.pairwise_singleton _ _, fun a ha s hs => ?_⟩
          obtain rfl := List.mem_singleton.1 hs
          exact hl a ((List.mem_filter.1 ha).1)
      have ok2 : Okay items every (dropI o l ++ [(⟨o, b, t⟩ : S35)]) := ⟨hi, by omega, ok.e1, ok.e2, ok.it, gd⟩
      have ih := goA_ev items every b t hb1 hb2 ht1 ht2 os _ ok2 (fun s hs => by
          rcases List.mem_append.1 hs with hs | hs
          · exact hl s ((List.mem_filter.1 hs).1)
          · obtain rfl := List.mem_singleton.1 hs
            exact Int.le_refl _) (fun x hx => ho x (List.mem_cons_of_mem _ hx)) (fun it hm => by
          by_cases e : it = o
          · subst e; exact Or.inl (covAll1 ok.e1 ok.e2 ht1 ht2)
          · rw [covAll0 it t e]
            rcases hc it hm with h | h
            · exact Or.inl h
            · exact Or.inr ((List.mem_cons.1 h).resolve_left e))
      unfold signF
      rw [if_pos (okay_right ok2)]
      exact Ev.neg (show ¬ ((0 : Int) = 4) by decide) (Ev.pos rfl ih)
theorem InspectAll_pure (l0_0 : List Int) (a0_1 : Int) (l0_2 : List S35) (a1 a2 : Int) (w0 : WInts l0_0) (w1 : W64 a0_1) (w2 : WSigns l0_2) (wa1 : W64 a1) (wa2 : W64 a2) : ∃ k, skiarealaw19_InspectAll.f k l0_0 a0_1 l0_2 a1 a2 = some true := by
  refine Ev.rounds (g := fun k => skiarealaw19_InspectAll.f k l0_0 a0_1 l0_2 a1 a2) (r := true) ?_
  unfold skiarealaw19_InspectAll.f skiarealaw19_alive.f
  simp only [Option.bind_some, if_true]
  by_cases b1 : (l0_0.length : Int) > 80
  · exact Ev.pos b1 (Ev.now _)
  refine Ev.neg b1 ?_
  by_cases b2 : (l0_2.length : Int) > 220
  · exact Ev.pos b2 (Ev.now _)
  refine Ev.neg b2 ?_
  refine Ev.bind (f := fun k e => if e ≠ 0 then some true else if a1 < 1 then some true else if a1 > 9999 then some true else if a2 < 0 then some true else if a2 > 20000000 then some true else if l0_2.any (fun s => decide (s.f2 > a2)) = true then some true else (inspect_Open.f l0_0 a0_1 l0_2 a2).bind fun op => goA k a1 a2 op l0_0 a0_1 l0_2) (right_ev l0_0 a0_1 l0_2 (by omega) (by omega)) ?_
  by_cases b3 : rightS l0_0 a0_1 l0_2 = 0
  case neg => (exact Ev.pos b3 (Ev.now _))
  refine Ev.neg (by simpa using b3) ?_
  have ok := right_okay b3
  by_cases b4 : a1 < 1
  · exact Ev.pos b4 (Ev.now _)
  refine Ev.neg b4 ?_
  by_cases b5 : a1 > 9999
  · exact Ev.pos b5 (Ev.now _)
  refine Ev.neg b5 ?_
  by_cases b6 : a2 < 0
  · exact Ev.pos b6 (Ev.now _)
  refine Ev.neg b6 ?_
  by_cases b7 : a2 > 20000000
  · exact Ev.pos b7 (Ev.now _)
  refine Ev.neg b7 ?_
  by_cases b8 : l0_2.any (fun s => decide (s.f2 > a2)) = true
  · exact Ev.pos b8 (Ev.now _)
  refine Ev.neg b8 ?_
  refine Ev.congr (fun k => by rw [open_some _ _ _ _ ok.ni, Option.bind_some]) ?_
  refine goA_ev l0_0 a0_1 a1 a2 (by omega) (by omega) (by omega) (by omega) _ l0_2 ok (fun s hs => ?_) (fun o ho => ((openL_mem _ _ _ _ _).1 ho).1) (fun it hm => ?_)
  · have h8 : ∀ x ∈ l0_2, x.f2 ≤ a2 := by simpa using b8
    exact h8 s hs
  · by_cases c : cov a0_1 l0_2 it a2 = true
    · exact Or.inl c
    · exact Or.inr ((openL_mem _ _ _ _ _).2 ⟨hm, by simpa using c⟩)
end Go.Proofs.Ytmhggplhfcmgkaa.Q
