/- Plain laws and readings for the seat's proofs (this session's). -/
import Derived.RangeFuncNested
import Derived.Shelf.Abstract
import Derived.Deep.Slices
import Derived.ProofKit
import Derived.OpenShut
import Derived.ChangeOld
import Derived.Lib.SmallJoins
import Derived.WalkSpells
import Derived.Test.YtmhggplhfcmgkaaOR19
import Derived.Test.YtmhggplhfcmgkaaQ35
namespace Go.Proofs.Ytmhggplhfcmgkaa.Q
open Go.RowKit Go.Proofs.YtmhggplhfcmgkaaW.PrintWords Go.Proofs.YtmhggplhfcmgkaaW.PrintLast Go.Proofs.YtmhggplhfcmgkaaW.PrintMore
set_option linter.unusedVariables false
set_option linter.unusedSimpArgs false
theorem refu1_ev {every : Int} (items : List Int) (l : List S35) (h : Tame every l) (hi : items.length ≤ 64) (hl : l.length ≤ 200) (t : Int) (d : Nat) : ∀ (i x : Int), 0 ≤ i → i + d = items.length →
    ∃ y, (∀ r, Ev (fun k => skiarearef19_Until.l0 k y items every l) r → Ev (fun k => skiarearef19_Until.l1 k t x i items every l) r) ∧ y ≤ x ∧
      (∀ it ∈ items.drop i.toNat, ∃ e, EndIs every l it t e ∧ y ≤ e) ∧ (y = x ∨ ∃ it ∈ items.drop i.toNat, EndIs every l it t y) := by
  induction d with
  | zero =>
    intro i x h0 hd
    refine ⟨x, fun r hr => Ev.step (fun k => by rw [skiarearef19_Until.l1, if_neg (by omega)]) hr, Int.le_refl _, ?_, .inl rfl⟩
    rw [List.drop_eq_nil_of_le (by omega)]
    simp
  | succ d ih =>
    intro i x h0 hd
    have h1 : i < (items.length : Int) := by omega
    have hw := wrap_inc h0 h1 (by omega)
    obtain ⟨e, he, hE⟩ := refend_ev items l h hl (rd items i) t
    obtain ⟨y, h2, h3, h4, h5⟩ := ih (i + 1) (mn x e) (by omega) (by omega)
    rw [mn_eq] at h3 h5
    rw [rd_at items i h0 h1]
    refine ⟨y, fun r hr => ?_, by omega, fun it hm => ?_, ?_⟩
    · refine Ev.step (fun k => by rw [skiarearef19_Until.l1, if_pos h1, if_pos h0, hw]) ?_
      exact Ev.bind (f := fun k t329 => skiarearef19_Until.l1 k t (mn x t329) (i + 1) items every l) he (h2 r hr)
    · rcases List.mem_cons.1 hm with rfl | hm
      · exact ⟨e, hE, by omega⟩
      · exact h4 it hm
    · rcases h5 with h5 | ⟨it, hm, h6⟩
      · by_cases c : x ≤ e
        · exact .inl (by omega)
        · exact .inr ⟨rd items i, List.mem_cons_self .., by rw [show y = e by omega]; exact hE⟩
      · exact .inr ⟨it, List.mem_cons_of_mem _ hm, h6⟩
theorem refu0_ev {every : Int} (items : List Int) (l : List S35) (h : Tame every l) (hi : items.length ≤ 64) (h0i : 0 < items.length) (hl : l.length ≤ 200) (t : Int) (d : Nat) : ∀ (x : Int), 20604800 - x ≤ d → t ≤ x →
    (∀ it ∈ items, ∀ u, t ≤ u → u < x → cov every l it u = true) → ∃ r, Ev (fun k => skiarearef19_Until.l0 k x items every l) r ∧ UntilIs items every l t r := by
  have fin : ∀ x : Int, t ≤ x → (∀ it ∈ items, ∀ u, t ≤ u → u < x → cov every l it u = true) → ¬ (∀ it ∈ items, cov every l it x = true) → ∃ r, Ev (fun k => skiarearef19_Until.l0 k x items every l) r ∧ UntilIs items every l t r := by
    intro x hx hs c
    refine ⟨mn x 20000000, ?_, ?_⟩
    · refine Ev.step (fun k => by rw [skiarearef19_Until.l0]) ?_
      refine Ev.bind (f := fun k t325 => (if t325 = true then (if 0 < (items.length : Int) then ((skiarearef19_end.f k items every l (rd items 0) x).bind fun t327 => (skiarearef19_Until.l1 k x t327 1 items every l)) else (none)) else (some (mn x 20000000)))) (refdone_ev items l h hi hl x) ?_
      exact Ev.neg (fun g => c ((done_iff items every l x).1 g)) (Ev.now _)
    · rw [mn_eq]
      refine ⟨by omega, fun it hm u h1 h2 => hs it hm u h1 (by omega), ?_⟩
      by_cases c2 : 20000000 ≤ x
      · exact .inl (by omega)
      · refine .inr ⟨by omega, ?_⟩
        rw [show min x 20000000 = x by omega]
        apply Classical.byContradiction
        intro hn
        refine c (fun it hm => ?_)
        cases hc : cov every l it x with
        | true => rfl
        | false => exact absurd ⟨it, hm, hc⟩ hn
  induction d with
  | zero =>
    intro x hd hx hs
    refine fin x hx hs (fun c => ?_)
    obtain ⟨it, hm⟩ := List.exists_mem_of_length_pos h0i
    obtain ⟨s, hs2, hc⟩ := (cov_iff h it x).1 (c it hm)
    have := h.2.2 s hs2
    have := h.2.1
    omega
  | succ d ih =>
    intro x hd hx hs
    by_cases c : ∀ it ∈ items, cov every l it x = true
    · obtain ⟨e, he, hE⟩ := refend_ev items l h hl (rd items 0) x
      obtain ⟨y, h2, h3, h4, h5⟩ := refu1_ev items l h hi hl x (items.length - 1) 1 e (by omega) (by omega)
      have hr0 : items = rd items 0 :: items.drop 1 := by have := rd_at items 0 (by omega) (by omega); simpa using this
      have hm0 : rd items 0 ∈ items := by rw [hr0]; simp [rd]
      have hy : ∀ it ∈ items, ∃ e, EndIs every l it x e ∧ y ≤ e := by
        intro it hm
        rw [hr0] at hm
        rcases List.mem_cons.1 hm with hm | hm
        · exact ⟨e, by rw [hm]; exact hE, h3⟩
        · exact h4 it hm
      have hlt : x < y := by
        rcases h5 with h5 | ⟨it, hm, h6⟩
        · rw [h5]; exact hE.lt (c _ hm0)
        · exact h6.lt (c it (List.mem_of_mem_drop hm))
      obtain ⟨r, hr, hU⟩ := ih y (by omega) (by omega) (fun it hm u h6 h7 => by
        by_cases c2 : u < x
        · exact hs it hm u h6 c2
        · obtain ⟨e2, hE2, h8⟩ := hy it hm
          exact hE2.cv u (by omega) (by omega))
      refine ⟨r, ?_, hU⟩
      refine Ev.step (fun k => by rw [skiarearef19_Until.l0]) ?_
      refine Ev.bind (f := fun k t325 => (if t325 = true then (if 0 < (items.length : Int) then ((skiarearef19_end.f k items every l (rd items 0) x).bind fun t327 => (skiarearef19_Until.l1 k x t327 1 items every l)) else (none)) else (some (mn x 20000000)))) (refdone_ev items l h hi hl x) ?_
      refine Ev.pos ((done_iff items every l x).2 c) (Ev.pos (by omega) ?_)
      exact Ev.bind (f := fun k t327 => skiarearef19_Until.l1 k x t327 1 items every l) he (h2 r hr)
    · exact fin x hx hs c
theorem refuntil_ev {items : List Int} {every : Int} {l : List S35} (h : Tame every l) (hi : items.length ≤ 64) (hl : l.length ≤ 200) (t : Int) :
    ∃ r, Ev (fun k => skiarearef19_Until.f k items every l t) r ∧ ((∀ it ∈ items, cov every l it t = true) → UntilIs items every l t r) ∧ (¬ (∀ it ∈ items, cov every l it t = true) → r = t) := by
  by_cases c0 : items.length = 0
  · refine ⟨20000000, Ev.congr (fun k => by rw [skiarearef19_Until.f, if_pos (by omega)]) (Ev.now _), fun _ => ⟨by omega, ?_, .inl rfl⟩, fun hn => ?_⟩
    · rw [List.length_eq_zero_iff] at c0; rw [c0]; simp
    · rw [List.length_eq_zero_iff] at c0; rw [c0] at hn; simp at hn
  · have hg : ∀ r, Ev (fun k => (if ((((openL items every l t).length : Int) == 0)) = true then (skiarearef19_Until.l0 k t items every l) else (some t))) r → Ev (fun k => skiarearef19_Until.f k items every l t) r := fun r hr => by
      refine Ev.congr (fun k => by rw [skiarearef19_Until.f, if_neg (by omega)]) ?_
      exact Ev.bind (f := fun k t324 => (if t324 = true then (skiarearef19_Until.l0 k t items every l) else (some t))) (refdone_ev items l h hi hl t) hr
    by_cases c : ∀ it ∈ items, cov every l it t = true
    · obtain ⟨r, hr, hU⟩ := refu0_ev items l h hi (by omega) hl t (20604800 - t).toNat t (by omega) (Int.le_refl _) (fun it hm u h1 h2 => by omega)
      exact ⟨r, hg r (Ev.pos ((done_iff items every l t).2 c) hr), fun _ => hU, fun hn => absurd c hn⟩
    · exact ⟨t, hg t (Ev.neg (fun g => c ((done_iff items every l t).1 g)) (Ev.now _)), fun hn => absurd hn c, fun _ => rfl⟩
theorem InspectUntils_pure (l0_0 : List Int) (a0_1 : Int) (l0_2 : List S35) (a1 : Int) (w0 : WInts l0_0) (w1 : W64 a0_1) (w2 : WSigns l0_2) (wa1 : W64 a1) : ∃ k, skiarealaw19_InspectUntils.f k l0_0 a0_1 l0_2 a1 = some true := by
  refine Ev.rounds (g := fun k => skiarealaw19_InspectUntils.f k l0_0 a0_1 l0_2 a1) (r := true) ?_
  unfold skiarealaw19_InspectUntils.f
  refine guarded w0 w2 (fun ok => ?_)
  have hi := ok.ni
  have hl := ok.ns
  obtain ⟨r, hr, h1, h2⟩ := until_ev ok.tame hi a1
  obtain ⟨s, hs, g1, g2⟩ := refuntil_ev ok.tame hi hl a1
  have e : r = s := by
    by_cases c : ∀ it ∈ l0_0, cov a0_1 l0_2 it a1 = true
    · exact (h1 c).eq (g1 c)
    · rw [h2 c, g2 c]
  subst e
  refine Ev.bind (f := fun k t333 => ((skiarearef19_Until.f k l0_0 a0_1 l0_2 a1).bind fun t334 => (some (t333 == t334)))) hr ?_
  refine Ev.bind (f := fun k t334 => (some (r == t334))) hs ?_
  rw [beq_self_eq_true]
  exact Ev.now _
end Go.Proofs.Ytmhggplhfcmgkaa.Q
