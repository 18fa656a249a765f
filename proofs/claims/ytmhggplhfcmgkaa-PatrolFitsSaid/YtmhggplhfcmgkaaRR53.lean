/- Plain laws and readings for the seat's proofs (this session's). -/
import Derived.RangeFuncNested
import Derived.Shelf.Abstract
import Derived.Deep.Slices
import Derived.ProofKit
import Derived.OpenShut
import Derived.ChangeOld
import Derived.Lib.SmallJoins
import Derived.WalkSpells
import Derived.Test.YtmhggplhfcmgkaaR53
import Derived.Test.YtmhggplhfcmgkaaR19
import Derived.Test.YtmhggplhfcmgkaaQ61
import Derived.Test.YtmhggplhfcmgkaaQ62
namespace Go.Proofs.Ytmhggplhfcmgkaa.Q
open Go.RowKit Go.Proofs.YtmhggplhfcmgkaaW.PrintWords Go.Proofs.YtmhggplhfcmgkaaW.PrintLast Go.Proofs.YtmhggplhfcmgkaaW.PrintMore
set_option linter.unusedVariables false
set_option linter.unusedSimpArgs false
theorem at_ev (ls : List S63) (hs : List S56) (run : Int) (hl : ls.length ≤ 9223372036854775807) (d : Nat) : ∀ i : Int, 0 ≤ i → i + d = ls.length →
    Ev (fun k => skiarearef53_at.l0 k run i ls hs) (idxFrom (fun h : S63 => decide (h.f0 = run)) (ls.drop i.toNat) i.toNat) := by
  induction d with
  | zero =>
    intro i h0 hd
    rw [List.drop_eq_nil_of_le (by omega), idxFrom]
    exact Ev.step (f := fun _ => some (-1)) (fun k => by rw [skiarearef53_at.l0, if_neg (by omega)]) (Ev.now _)
  | succ d ih =>
    intro i h0 hd
    have h1 : i < (ls.length : Int) := by omega
    have hw := wrap_inc h0 h1 hl
    rw [rd63_at ls i h0 h1, idxFrom]
    refine Ev.step (fun k => by rw [skiarearef53_at.l0, if_pos h1, if_pos h0, hw]) ?_
    by_cases c : (rd_T63 ls i).f0 = run
    · rw [if_pos (by simpa using c), show ((i.toNat : Nat) : Int) = i by omega]
      exact Ev.pos c (Ev.now _)
    · rw [if_neg (by simpa using c)]
      have := ih (i + 1) (by omega) (by omega)
      rw [show (i + 1).toNat = i.toNat + 1 by omega] at this
      rw [show (i + 1).toNat = i.toNat + 1 by omega]
      exact Ev.neg c this
theorem refat_ev (ls : List S63) (hs : List S56) (run : Int) (hl : ls.length ≤ 9223372036854775807) : Ev (fun k => skiarearef53_at.f k ls hs run) (idxFrom (fun h : S63 => decide (h.f0 = run)) ls 0) := by
  have := at_ev ls hs run hl ls.length 0 (by omega) (by omega)
  exact Ev.congr (fun k => by rw [skiarearef53_at.f]) (by simpa using this)
theorem refhazk_ev (ls : List S63) (hs : List S56) (S : Small ls hs) (i : Int) (h0 : 0 ≤ i) (h1 : i < hs.length) (h : S56) (r : Int)
    (hr : Ev (fun k => (skiarearef53_at.f k ls hs h.f1).bind fun t539 => (if t539 < 0 then (some 8) else (skiarearef53_Right.l1 k (wrap64 (i + 1)) ls hs))) r) (d : Nat) : ∀ j : Int, 0 ≤ j → j + d = i →
    Ev (fun k => skiarearef53_Right.l2 k i j ls hs h.f0 h.f1 h.f2) (if ((hs.take i.toNat).drop j.toNat).any (idP h.f0) = true then 7 else r) := by
  have hn := S.nh
  induction d with
  | zero =>
    intro j hj hd
    rw [List.drop_eq_nil_of_le (by rw [List.length_take]; omega), if_neg (by simp)]
    exact Ev.step (fun k => by rw [skiarearef53_Right.l2, if_neg (by omega)]) hr
  | succ d ih =>
    intro j hj hd
    have hj1 : j < (hs.length : Int) := by omega
    have hw : wrap64 (j + 1) = j + 1 := by unfold wrap64; omega
    have e : (hs.take i.toNat).drop j.toNat = rd_T56 hs j :: (hs.take i.toNat).drop (j + 1).toNat := by
      rw [List.drop_take, List.drop_take, rd56_at hs j hj hj1, show i.toNat - j.toNat = (i.toNat - (j + 1).toNat) + 1 by omega, List.take_succ_cons]
    rw [e, List.any_cons]
    refine Ev.step (fun k => by rw [skiarearef53_Right.l2, if_pos (by omega), if_pos hj, if_pos hj1, hw]) ?_
    by_cases c : (rd_T56 hs j).f0 = h.f0
    · rw [if_pos (by simp [idP, c])]
      exact Ev.pos c (Ev.now _)
    · rw [show (idP h.f0 (rd_T56 hs j) || ((hs.take i.toNat).drop (j + 1).toNat).any (idP h.f0)) = ((hs.take i.toNat).drop (j + 1).toNat).any (idP h.f0) by simp [idP, c]]
      exact Ev.neg c (ih (j + 1) (by omega) (by omega))
theorem refhaz_ev (ls : List S63) (hs : List S56) (S : Small ls hs) (d : Nat) : ∀ i : Int, 0 ≤ i → i + d = hs.length →
    Ev (fun k => skiarearef53_Right.l1 k i ls hs) (hazE ls (hs.take i.toNat) (hs.drop i.toNat)) := by
  induction d with
  | zero =>
    intro i h0 hd
    rw [List.drop_eq_nil_of_le (by omega), hazE]
    exact Ev.step (f := fun _ => some 0) (fun k => by rw [skiarearef53_Right.l1, if_neg (by omega)]) (Ev.now _)
  | succ d ih =>
    intro i h0 hd
    have h1 : i < (hs.length : Int) := by omega
    have hn := S.nh
    have hw : wrap64 (i + 1) = i + 1 := by unfold wrap64; omega
    rw [rd56_at hs i h0 h1, hazE]
    have bad : Ev (fun k => skiarearef53_Right.j5 k i true ls hs ((rd_T56 hs i).f0) ((rd_T56 hs i).f1) ((rd_T56 hs i).f2)) 2 := Ev.step (f := fun _ => some 2) (fun k => by rw [skiarearef53_Right.j5, if_pos rfl]) (Ev.now _)
    refine Ev.step (fun k => by rw [skiarearef53_Right.l1, if_pos h1, if_pos h0]) ?_
    by_cases c1 : (rd_T56 hs i).f0 < 1
    · rw [if_pos (by omega)]; exact Ev.pos c1 bad
    refine Ev.neg c1 ?_
    by_cases c2 : (rd_T56 hs i).f0 > 9999
    · rw [if_pos (by omega)]; exact Ev.pos c2 bad
    refine Ev.neg c2 ?_
    by_cases c3 : (rd_T56 hs i).f2 < 0
    · rw [if_pos (by omega)]; exact Ev.pos c3 bad
    refine Ev.neg c3 ?_
    by_cases c4 : (rd_T56 hs i).f2 > 20000000
    · rw [if_pos (by omega), decide_eq_true c4]; exact bad
    rw [if_neg (by omega), decide_eq_false c4]
    refine Ev.step (fun k => by rw [skiarearef53_Right.j5, if_neg (by simp)]) ?_
    have := refhazk_ev ls hs S i h0 h1 (rd_T56 hs i) (if ls.any (runP (rd_T56 hs i).f1) = false then 8 else hazE ls (hs.take (i + 1).toNat) (hs.drop (i + 1).toNat)) ?_ i.toNat 0 (by omega) (by omega)
    · rw [take56_at hs i h0 h1] at this
      simpa using this
    · rw [hw]
      refine Ev.bind (f := fun k t539 => (if t539 < 0 then (some 8) else (skiarearef53_Right.l1 k (i + 1) ls hs))) (refat_ev ls hs _ (by have := S.nl; omega)) ?_
      by_cases c5 : ls.any (runP (rd_T56 hs i).f1) = false
      · rw [if_pos c5]
        exact Ev.pos ((list_iff _ _).2 c5) (Ev.now _)
      · rw [if_neg c5]
        exact Ev.neg (fun g => c5 ((list_iff _ _).1 g)) (ih (i + 1) (by omega) (by omega))
theorem reflists_ev (ls : List S63) (hs : List S56) (S : Small ls hs) (d : Nat) : ∀ (i prev : Int), 0 ≤ i → i + d = ls.length → (i = 0 → prev = 0) → (0 < i → (rd_T63 ls (i - 1)).f0 = prev) →
    Ev (fun k => skiarearef53_Right.l0 k i ls hs) (if listsE prev (ls.drop i.toNat) ≠ 0 then listsE prev (ls.drop i.toNat) else hazE ls [] hs) := by
  induction d with
  | zero =>
    intro i prev h0 hd _ _
    rw [List.drop_eq_nil_of_le (by omega), if_neg (by simp [listsE])]
    refine Ev.step (fun k => by rw [skiarearef53_Right.l0, if_neg (by omega)]) ?_
    exact refhaz_ev ls hs S hs.length 0 (by omega) (by omega)
  | succ d ih =>
    intro i prev h0 hd hz hp
    have h1 : i < (ls.length : Int) := by omega
    have hn := S.nl
    have hw : wrap64 (i + 1) = i + 1 := by unfold wrap64; omega
    have hw1 : 0 < i → wrap64 (i - 1) = i - 1 := fun h => by unfold wrap64; omega
    have hfit := S.fit _ (rd63_mem ls i h0 h1)
    rw [rd63_at ls i h0 h1, listsE]
    refine Ev.step (fun k => by rw [skiarearef53_Right.l0, if_pos h1, if_pos h0]) ?_
    have bad : Ev (fun k => skiarearef53_Right.j2 k i true ls hs) 2 := Ev.step (f := fun _ => some 2) (fun k => by rw [skiarearef53_Right.j2, if_pos rfl]) (Ev.now _)
    by_cases c1 : (rd_T63 ls i).f0 < 1
    · rw [if_pos (show (rd_T63 ls i).f0 < 1 ∨ (rd_T63 ls i).f0 > 9999 by omega), if_pos (by decide)]; exact Ev.pos c1 bad
    refine Ev.neg c1 ?_
    by_cases c2 : (rd_T63 ls i).f0 > 9999
    · rw [if_pos (show (rd_T63 ls i).f0 < 1 ∨ (rd_T63 ls i).f0 > 9999 by omega), if_pos (by decide), decide_eq_true c2]; exact bad
    rw [if_neg (show ¬ ((rd_T63 ls i).f0 < 1 ∨ (rd_T63 ls i).f0 > 9999) by omega), decide_eq_false c2]
    refine Ev.step (fun k => by rw [skiarearef53_Right.j2, if_neg (by simp)]) ?_
    have go : ∀ b : Bool, (b = true ↔ (rd_T63 ls i).f0 ≤ prev) → Ev (fun k => skiarearef53_Right.j3 k i b ls hs)
        (if (if (rd_T63 ls i).f0 ≤ prev then 11 else if rightS (rd_T63 ls i).f1.f0 (rd_T63 ls i).f1.f1 (rd_T63 ls i).f1.f2 ≠ 0 then rightS (rd_T63 ls i).f1.f0 (rd_T63 ls i).f1.f1 (rd_T63 ls i).f1.f2 else listsE (rd_T63 ls i).f0 (ls.drop (i + 1).toNat)) ≠ 0 then (if (rd_T63 ls i).f0 ≤ prev then 11 else if rightS (rd_T63 ls i).f1.f0 (rd_T63 ls i).f1.f1 (rd_T63 ls i).f1.f2 ≠ 0 then rightS (rd_T63 ls i).f1.f0 (rd_T63 ls i).f1.f1 (rd_T63 ls i).f1.f2 else listsE (rd_T63 ls i).f0 (ls.drop (i + 1).toNat)) else hazE ls [] hs) := by
      intro b hb
      cases b with
      | true =>
        rw [if_pos (hb.1 rfl), if_pos (by decide)]
        exact Ev.step (f := fun _ => some 11) (fun k => by rw [skiarearef53_Right.j3, if_pos rfl]) (Ev.now _)
      | false =>
        have hb' : ¬ (rd_T63 ls i).f0 ≤ prev := fun h => by have := hb.2 h; cases this
        rw [if_neg hb']
        refine Ev.step (fun k => by rw [skiarearef53_Right.j3, if_neg (by simp), if_pos h0, if_pos h1, hw]) ?_
        refine Ev.bind (f := fun k t535 => (if t535 = 0 then (skiarearef53_Right.l0 k (i + 1) ls hs) else (some t535))) (refright_ev _ _ _ (by have := hfit.1; omega) (by have := hfit.2; omega)) ?_
        by_cases e : rightS (rd_T63 ls i).f1.f0 (rd_T63 ls i).f1.f1 (rd_T63 ls i).f1.f2 = 0
        · rw [if_neg (show ¬ rightS (rd_T63 ls i).f1.f0 (rd_T63 ls i).f1.f1 (rd_T63 ls i).f1.f2 ≠ 0 by simpa using e)]
          exact Ev.pos e (ih (i + 1) _ (by omega) (by omega) (by omega) (fun _ => by rw [show i + 1 - 1 = i by omega]))
        · rw [if_pos e, if_pos e]
          exact Ev.neg e (Ev.now _)
    by_cases c4 : i > 0
    · rw [hw1 c4]
      refine Ev.pos c4 (Ev.pos h0 (Ev.pos h1 (Ev.pos (by omega) (Ev.pos (by omega) (go _ ?_)))))
      rw [hp c4, decide_eq_true_iff]
    · refine Ev.neg c4 (go false ?_)
      have := hz (by omega)
      simp; omega
theorem refright53_ev (ls : List S63) (hs : List S56) (S : Small ls hs) : Ev (fun k => skiarearef53_Right.f k ls hs) (right53 ls hs) := by
  unfold right53
  by_cases c : ls.length > 64 ∨ hs.length > 200
  · rw [if_pos c]
    refine Ev.congr (f := fun k => skiarearef53_Right.j0 k true ls hs) (fun k => ?_) ?_
    · rw [skiarearef53_Right.f]
      by_cases c1 : (ls.length : Int) > 64
      · rw [if_pos c1]
      · rw [if_neg c1, decide_eq_true (by omega)]
    · exact Ev.step (f := fun _ => some 4) (fun k => by rw [skiarearef53_Right.j0, if_pos rfl]) (Ev.now _)
  · rw [if_neg c]
    refine Ev.congr (f := fun k => skiarearef53_Right.j0 k false ls hs) (fun k => by rw [skiarearef53_Right.f, if_neg (by omega), decide_eq_false (by omega)]) ?_
    refine Ev.step (fun k => by rw [skiarearef53_Right.j0, if_neg (by simp)]) ?_
    exact reflists_ev ls hs S ls.length 0 0 (by omega) (by omega) (fun _ => rfl) (fun h => by omega)
end Go.Proofs.Ytmhggplhfcmgkaa.Q
