/- Plain laws and readings for the seat's proofs (this session's). -/
import Derived.RangeFuncNested
import Derived.Shelf.Abstract
import Derived.Deep.Slices
import Derived.ProofKit
import Derived.OpenShut
import Derived.ChangeOld
import Derived.Lib.SmallJoins
import Derived.WalkSpells
import Derived.Test.YtmhggplhfcmgkaaO19
import Derived.Test.YtmhggplhfcmgkaaQ32
namespace Go.Proofs.Ytmhggplhfcmgkaa.Q
open Go.RowKit Go.Proofs.YtmhggplhfcmgkaaW.PrintWords Go.Proofs.YtmhggplhfcmgkaaW.PrintLast Go.Proofs.YtmhggplhfcmgkaaW.PrintMore
set_option linter.unusedVariables false
set_option linter.unusedSimpArgs false
/-! ### the reference's end, Open, Done, Until -/
theorem mx_eq (a b : Int) : mx a b = max a b := by unfold mx; omega
theorem mn_eq (a b : Int) : mn a b = min a b := by unfold mn; omega
theorem end_ev {every : Int} (items : List Int) (l : List S35) (h : Tame every l) (hl : l.length ≤ 200) (item t : Int) (d : Nat) : ∀ (i x : Int), 0 ≤ i → i + d = l.length → t ≤ x →
    ∃ r, Ev (fun k => skiarearef19_end.l0 k item t x i items every l) r ∧ x ≤ r ∧ (cov every (l.drop i.toNat) item t = true → t < r) ∧ (r = x ∨ ∃ s ∈ l, cntB item t every s = true ∧ r = s.f2 + every) := by
  induction d with
  | zero =>
    intro i x h0 hd hx
    refine ⟨x, Ev.step (f := fun _ => some x) (fun k => by rw [skiarearef19_end.l0, if_neg (by omega)]) (Ev.now _), Int.le_refl _, fun hc => ?_, .inl rfl⟩
    rw [List.drop_eq_nil_of_le (by omega)] at hc
    exact absurd hc (by simp [cov])
  | succ d ih =>
    intro i x h0 hd hx
    have h1 : i < (l.length : Int) := by omega
    have hw := wrap_inc h0 h1 (by omega)
    have hm : rd_T35 l i ∈ l := List.mem_of_mem_drop (by rw [rd35_at l i h0 h1]; exact List.mem_cons_self ..)
    have hwr := h.wrap hm
    rw [rd35_at l i h0 h1]
    by_cases c : cntB item t every (rd_T35 l i) = true
    · have hc := (h.cnt hm item t).1 c
      obtain ⟨r, hr, h2, h3, h4⟩ := ih (i + 1) (mx x ((rd_T35 l i).f2 + every)) (by omega) (by omega) (by rw [mx_eq]; omega)
      rw [mx_eq] at h2 h4
      refine ⟨r, Ev.step (fun k => by rw [skiarearef19_end.l0, if_pos h1, if_pos h0, if_pos hc.1, if_pos hc.2.1, hwr, if_pos hc.2.2, hw]) hr, by omega, fun _ => by omega, ?_⟩
      rcases h4 with h4 | h4
      · by_cases c2 : x ≤ (rd_T35 l i).f2 + every
        · exact .inr ⟨_, hm, c, by omega⟩
        · exact .inl (by omega)
      · exact .inr h4
    · obtain ⟨r, hr, h2, h3, h4⟩ := ih (i + 1) x (by omega) (by omega) hx
      refine ⟨r, Ev.step (f := fun k => skiarearef19_end.l0 k item t x (i + 1) items every l) (fun k => ?_) hr, h2, fun hc => h3 ?_, h4⟩
      · rw [skiarearef19_end.l0, if_pos h1, if_pos h0, hw, hwr]
        have hn := fun g => c ((h.cnt hm item t).2 g)
        by_cases c1 : (rd_T35 l i).f0 = item
        · rw [if_pos c1]
          by_cases c2 : (rd_T35 l i).f2 ≤ t
          · rw [if_pos c2, if_neg (fun c3 => hn ⟨c1, c2, c3⟩)]
          · rw [if_neg c2]
        · rw [if_neg c1]
      · unfold cov at hc ⊢
        rw [List.any_cons] at hc
        simpa [c] using hc
/-- What end says. -/
structure EndIs (every : Int) (l : List S35) (item t r : Int) : Prop where
  le : t ≤ r
  lt : cov every l item t = true → t < r
  eq : cov every l item t = false → r = t
  cv : ∀ u, t ≤ u → u < r → cov every l item u = true
theorem refend_ev {every : Int} (items : List Int) (l : List S35) (h : Tame every l) (hl : l.length ≤ 200) (item t : Int) : ∃ r, Ev (fun k => skiarearef19_end.f k items every l item t) r ∧ EndIs every l item t r := by
  obtain ⟨r, hr, h2, h3, h4⟩ := end_ev items l h hl item t l.length 0 t (by omega) (by omega) (Int.le_refl _)
  refine ⟨r, hr, h2, h3, fun hc => ?_, fun u h5 h6 => ?_⟩
  · rcases h4 with h4 | ⟨s, hs, hc2, _⟩
    · exact h4
    · unfold cov at hc
      rw [List.any_eq_false] at hc
      exact absurd hc2 (hc s hs)
  · rcases h4 with h4 | ⟨s, hs, hc2, h7⟩
    · omega
    · have := (h.cnt hs item t).1 hc2
      exact (cov_iff h item u).2 ⟨s, hs, this.1, by omega, by omega⟩
theorem refopen_ev {every : Int} (items : List Int) (l : List S35) (h : Tame every l) (hi : items.length ≤ 64) (hl : l.length ≤ 200) (t : Int) (d : Nat) : ∀ (i : Int) (acc : List Int), 0 ≤ i → i + d = items.length → (acc.length : Int) ≤ i →
    Ev (fun k => skiarearef19_Open.l0 k t acc i items every l) (acc ++ openL (items.drop i.toNat) every l t) := by
  induction d with
  | zero =>
    intro i acc h0 hd ha
    refine Ev.step (f := fun _ => some acc) (fun k => by rw [skiarearef19_Open.l0, if_neg (by omega)]) ?_
    rw [List.drop_eq_nil_of_le (by omega), show openL [] every l t = [] from rfl, List.append_nil]
    exact Ev.now _
  | succ d ih =>
    intro i acc h0 hd ha
    have h1 : i < (items.length : Int) := by omega
    have hw := wrap_inc h0 h1 (by omega)
    rw [rd_at items i h0 h1]
    obtain ⟨r, hr, he⟩ := refend_ev items l h hl (rd items i) t
    refine Ev.step (fun k => by rw [skiarearef19_Open.l0, if_pos h1, if_pos h0, hw]) ?_
    refine Ev.bind (f := fun k t302 => (if t302 = t then (if acc.length < 17592186044416 then (skiarearef19_Open.l0 k t (acc ++ [rd items i]) (i + 1) items every l) else (none)) else (skiarearef19_Open.l0 k t acc (i + 1) items every l))) hr ?_
    cases c : cov every l (rd items i) t with
    | true =>
      have := he.lt c
      refine Ev.neg (by omega) ?_
      rw [show openL (rd items i :: items.drop (i + 1).toNat) every l t = openL (items.drop (i + 1).toNat) every l t by unfold openL; unfold cov at c; simp [c]]
      exact ih (i + 1) acc (by omega) (by omega) (by omega)
    | false =>
      refine Ev.pos (he.eq c) (Ev.pos (by omega) ?_)
      rw [show openL (rd items i :: items.drop (i + 1).toNat) every l t = rd items i :: openL (items.drop (i + 1).toNat) every l t by unfold openL; unfold cov at c; simp [c]]
      have := ih (i + 1) (acc ++ [rd items i]) (by omega) (by omega) (by simp; omega)
      rw [List.append_assoc, List.singleton_append] at this
      exact this
theorem refopenf_ev {every : Int} (items : List Int) (l : List S35) (h : Tame every l) (hi : items.length ≤ 64) (hl : l.length ≤ 200) (t : Int) : Ev (fun k => skiarearef19_Open.f k items every l t) (openL items every l t) := by
  have := refopen_ev items l h hi hl t items.length 0 [] (by omega) (by omega) (by simp)
  exact Ev.congr (fun k => by rw [skiarearef19_Open.f]) (by simpa using this)
theorem refdone_ev {every : Int} (items : List Int) (l : List S35) (h : Tame every l) (hi : items.length ≤ 64) (hl : l.length ≤ 200) (t : Int) : Ev (fun k => skiarearef19_Done.f k items every l t) (((openL items every l t).length : Int) == 0) :=
  Ev.congr (fun k => by rw [skiarearef19_Done.f]) (Ev.bind (f := fun _ t308 => some ((t308.length : Int) == 0)) (refopenf_ev items l h hi hl t) (Ev.now _))
end Go.Proofs.Ytmhggplhfcmgkaa.Q
