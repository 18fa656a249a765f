/- Plain laws and readings for the seat's proofs (this session's). -/
import Derived.RangeFuncNested
import Derived.Shelf.Abstract
import Derived.Deep.Slices
import Derived.ProofKit
import Derived.OpenShut
import Derived.ChangeOld
import Derived.Lib.SmallJoins
import Derived.WalkSpells
import Derived.Test.YtmhggplhfcmgkaaRP19
import Derived.Test.YtmhggplhfcmgkaaQ40
import Derived.Test.YtmhggplhfcmgkaaQ42
import Derived.Test.YtmhggplhfcmgkaaQ44
import Derived.Test.YtmhggplhfcmgkaaQ45
import Derived.Test.YtmhggplhfcmgkaaQ60
namespace Go.Proofs.Ytmhggplhfcmgkaa.Q
open Go.RowKit Go.Proofs.YtmhggplhfcmgkaaW.PrintWords Go.Proofs.YtmhggplhfcmgkaaW.PrintLast Go.Proofs.YtmhggplhfcmgkaaW.PrintMore
set_option linter.unusedVariables false
set_option linter.unusedSimpArgs false
/-! ### small -/
theorem rd63_at (l : List S63) (i : Int) (h0 : 0 ≤ i) (h1 : i < l.length) : l.drop i.toNat = rd_T63 l i :: l.drop (i + 1).toNat := by
  rw [List.drop_eq_getElem_cons (by omega), show (i + 1).toNat = i.toNat + 1 by omega]
  simp [rd_T63, List.getD_eq_getElem?_getD, List.getElem?_eq_getElem (show i.toNat < l.length by omega)]
theorem rd56_at (l : List S56) (i : Int) (h0 : 0 ≤ i) (h1 : i < l.length) : l.drop i.toNat = rd_T56 l i :: l.drop (i + 1).toNat := by
  rw [List.drop_eq_getElem_cons (by omega), show (i + 1).toNat = i.toNat + 1 by omega]
  simp [rd_T56, List.getD_eq_getElem?_getD, List.getElem?_eq_getElem (show i.toNat < l.length by omega)]
theorem take56_at (l : List S56) (i : Int) (h0 : 0 ≤ i) (h1 : i < l.length) : l.take (i + 1).toNat = l.take i.toNat ++ [rd_T56 l i] := by
  rw [show (i + 1).toNat = i.toNat + 1 by omega, List.take_succ_eq_append_getElem (by omega)]
  simp [rd_T56, List.getD_eq_getElem?_getD, List.getElem?_eq_getElem (show i.toNat < l.length by omega)]
theorem rd63_mem (l : List S63) (i : Int) (h0 : 0 ≤ i) (h1 : i < l.length) : rd_T63 l i ∈ l := List.mem_of_mem_drop (by rw [rd63_at l i h0 h1]; exact List.mem_cons_self ..)
theorem rd56_mem (l : List S56) (i : Int) (h0 : 0 ≤ i) (h1 : i < l.length) : rd_T56 l i ∈ l := List.mem_of_mem_drop (by rw [rd56_at l i h0 h1]; exact List.mem_cons_self ..)
def Fit63 (x : S63) : Prop := x.f1.f0.length ≤ 70 ∧ x.f1.f2.length ≤ 210
structure Small (ls : List S63) (hs : List S56) : Prop where
  nl : ls.length ≤ 70
  nh : hs.length ≤ 210
  fit : ∀ x ∈ ls, Fit63 x
theorem small_l0 (ls : List S63) (hs : List S56) (d : Nat) : ∀ i : Int, 0 ≤ i → i + d = ls.length →
    ∃ b, Ev (fun k => skiarealaw53_small.l0 k i ls hs) b ∧ (b = true → ls.length ≤ 70 ∧ hs.length ≤ 210 ∧ ∀ x ∈ ls.drop i.toNat, Fit63 x) := by
  have fin : ∀ i, Ev (fun k => skiarealaw53_small.j1 k i false ls hs) (decide (ls.length ≤ 70 ∧ hs.length ≤ 210)) := fun i => by
    refine Ev.step (fun k => by rw [skiarealaw53_small.j1, if_neg (by simp)]) ?_
    by_cases c : (ls.length : Int) ≤ 70
    · refine Ev.pos c ?_
      rw [show decide (ls.length ≤ 70 ∧ hs.length ≤ 210) = decide ((hs.length : Int) ≤ 210) by rw [decide_eq_decide]; omega]
      exact Ev.now _
    · refine Ev.neg c ?_
      rw [show decide (ls.length ≤ 70 ∧ hs.length ≤ 210) = false by rw [decide_eq_false_iff_not]; omega]
      exact Ev.now _
  induction d with
  | zero =>
    intro i h0 hd
    refine ⟨_, Ev.step (fun k => by rw [skiarealaw53_small.l0, if_neg (by omega)]) (fin i), fun h => ?_⟩
    have := of_decide_eq_true h
    rw [List.drop_eq_nil_of_le (by omega)]
    exact ⟨this.1, this.2, by simp⟩
  | succ d ih =>
    intro i h0 hd
    have h1 : i < (ls.length : Int) := by omega
    by_cases c : i < 71
    · obtain ⟨b, hb, hB⟩ := ih (i + 1) (by omega) (by omega)
      have hw : wrap64 (i + 1) = i + 1 := by unfold wrap64; omega
      have st : ∀ r, Ev (fun k => (if (((rd_T63 ls i).f1.f0).length : Int) > 70 then (some false) else (if (((rd_T63 ls i).f1.f2).length : Int) > 210 then (some false) else (skiarealaw53_small.l0 k (i + 1) ls hs)))) r → Ev (fun k => skiarealaw53_small.l0 k i ls hs) r := fun r hr => by
        refine Ev.step (fun k => by rw [skiarealaw53_small.l0, if_pos h1, decide_eq_true c]) ?_
        exact Ev.step (fun k => by rw [skiarealaw53_small.j1, if_pos rfl, if_pos h0, if_pos h1, hw]) hr
      by_cases c1 : (((rd_T63 ls i).f1.f0).length : Int) > 70
      · exact ⟨false, st _ (Ev.pos c1 (Ev.now _)), fun h => by simp at h⟩
      by_cases c2 : (((rd_T63 ls i).f1.f2).length : Int) > 210
      · exact ⟨false, st _ (Ev.neg c1 (Ev.pos c2 (Ev.now _))), fun h => by simp at h⟩
      refine ⟨b, st _ (Ev.neg c1 (Ev.neg c2 hb)), fun h => ?_⟩
      obtain ⟨g1, g2, g3⟩ := hB h
      refine ⟨g1, g2, fun x hx => ?_⟩
      rw [rd63_at ls i h0 h1] at hx
      rcases List.mem_cons.1 hx with rfl | hx
      · exact ⟨by omega, by omega⟩
      · exact g3 x hx
    · refine ⟨_, Ev.step (fun k => by rw [skiarealaw53_small.l0, if_pos h1, decide_eq_false c]) (fin i), fun h => ?_⟩
      have := of_decide_eq_true h
      omega
theorem small_ev (ls : List S63) (hs : List S56) : ∃ b, Ev (fun k => skiarealaw53_small.f k ls hs) b ∧ (b = true → Small ls hs) := by
  obtain ⟨b, hb, hB⟩ := small_l0 ls hs ls.length 0 (by omega) (by omega)
  exact ⟨b, Ev.congr (fun k => by rw [skiarealaw53_small.f]) hb, fun h => ⟨(hB h).1, (hB h).2.1, by have := (hB h).2.2; simpa using this⟩⟩
/-! ### Right: one plain function for both -/
def runP (run : Int) (x : S63) : Bool := decide (x.f0 = run)
def idP (id : Int) (h : S56) : Bool := decide (h.f0 = id)
def listsE : Int → List S63 → Int
  | _, [] => 0
  | prev, x :: r => if x.f0 < 1 ∨ x.f0 > 9999 then 2 else if x.f0 ≤ prev then 11 else if rightS x.f1.f0 x.f1.f1 x.f1.f2 ≠ 0 then rightS x.f1.f0 x.f1.f1 x.f1.f2 else listsE x.f0 r
def hazE (ls : List S63) : List S56 → List S56 → Int
  | _, [] => 0
  | pre, h :: r => if h.f0 < 1 ∨ h.f0 > 9999 ∨ h.f2 < 0 ∨ h.f2 > 20000000 then 2 else if pre.any (idP h.f0) = true then 7 else if ls.any (runP h.f1) = false then 8 else hazE ls (pre ++ [h]) r
def right53 (ls : List S63) (hs : List S56) : Int := if ls.length > 64 ∨ hs.length > 200 then 4 else if listsE 0 ls ≠ 0 then listsE 0 ls else hazE ls [] hs
theorem list_iff (ls : List S63) (run : Int) : (idxFrom (fun h : S63 => decide (h.f0 = run)) ls 0 < 0) ↔ ls.any (runP run) = false := by
  have := idxFrom_any (fun h : S63 => decide (h.f0 = run)) ls 0
  unfold runP
  rw [← this, decide_eq_false_iff_not]; omega
theorem haz_iff (hs : List S56) (id : Int) : (idxFrom (fun h : S56 => decide (h.f0 = id)) hs 0 ≥ 0) ↔ hs.any (idP id) = true := by
  have := idxFrom_any (fun h : S56 => decide (h.f0 = id)) hs 0
  unfold idP
  rw [← this, decide_eq_true_iff]
theorem within_eq (a b c : Int) : patrol_within.f a b c = some (decide (b ≤ a ∧ a ≤ c)) := by
  unfold patrol_within.f
  by_cases h : a ≥ b
  · rw [if_pos h]; congr 1; rw [decide_eq_decide]; omega
  · rw [if_neg h]; congr 1; symm; rw [decide_eq_false_iff_not]; omega
theorem phaz_ev (ls : List S63) (hs : List S56) (S : Small ls hs) (d : Nat) : ∀ i : Int, 0 ≤ i → i + d = hs.length →
    Ev (fun k => patrol_Right.l1 k hs (hs.length : Int) i ls hs) (hazE ls (hs.take i.toNat) (hs.drop i.toNat)) := by
  induction d with
  | zero =>
    intro i h0 hd
    rw [List.drop_eq_nil_of_le (by omega), hazE]
    exact Ev.step (f := fun _ => some 0) (fun k => by rw [patrol_Right.l1, if_neg (by omega)]) (Ev.now _)
  | succ d ih =>
    intro i h0 hd
    have h1 : i < (hs.length : Int) := by omega
    have hn := S.nh
    have hw : wrap64 (i + 1) = i + 1 := by unfold wrap64; omega
    rw [rd56_at hs i h0 h1, hazE]
    refine Ev.step (fun k => by rw [patrol_Right.l1, if_pos h1, if_pos h0, if_pos h1, within_eq, Option.bind_some, within_eq, Option.bind_some]) ?_
    by_cases c : (rd_T56 hs i).f0 < 1 ∨ (rd_T56 hs i).f0 > 9999 ∨ (rd_T56 hs i).f2 < 0 ∨ (rd_T56 hs i).f2 > 20000000
    · rw [if_pos c]
      have bad : Ev (fun k => patrol_Right.j4 k i hs (hs.length : Int) i true ls hs ((rd_T56 hs i).f0) ((rd_T56 hs i).f1) ((rd_T56 hs i).f2)) 2 := Ev.step (f := fun _ => some 2) (fun k => by rw [patrol_Right.j4, if_pos rfl]) (Ev.now _)
      by_cases c1 : 1 ≤ (rd_T56 hs i).f0 ∧ (rd_T56 hs i).f0 ≤ 9999
      · refine Ev.pos (decide_eq_true c1) ?_
        rw [show decide (0 ≤ (rd_T56 hs i).f2 ∧ (rd_T56 hs i).f2 ≤ 20000000) = false by rw [decide_eq_false_iff_not]; omega]
        exact bad
      · exact Ev.neg (by rw [decide_eq_true_iff]; exact c1) bad
    · rw [if_neg c]
      refine Ev.pos (decide_eq_true (by omega)) ?_
      rw [show decide (0 ≤ (rd_T56 hs i).f2 ∧ (rd_T56 hs i).f2 ≤ 20000000) = true by rw [decide_eq_true_iff]; omega]
      refine Ev.step (fun k => by rw [patrol_Right.j4, if_neg (by simp), if_pos h0, if_pos (by omega), patrol_hazard.f, Option.bind_some, patrol_list.f, Option.bind_some, hw]) ?_
      by_cases c2 : (hs.take i.toNat).any (idP (rd_T56 hs i).f0) = true
      · rw [if_pos c2]
        exact Ev.pos ((haz_iff _ _).2 c2) (Ev.now _)
      · rw [if_neg c2]
        refine Ev.neg (fun g => c2 ((haz_iff _ _).1 g)) ?_
        by_cases c3 : ls.any (runP (rd_T56 hs i).f1) = false
        · rw [if_pos c3]
          exact Ev.pos ((list_iff _ _).2 c3) (Ev.now _)
        · rw [if_neg c3]
          refine Ev.neg (fun g => c3 ((list_iff _ _).1 g)) ?_
          rw [← take56_at hs i h0 h1]
          exact ih (i + 1) (by omega) (by omega)
theorem plists_ev (ls : List S63) (hs : List S56) (S : Small ls hs) (d : Nat) : ∀ (i prev : Int), 0 ≤ i → i + d = ls.length → (i = 0 → prev = 0) → (0 < i → (rd_T63 ls (i - 1)).f0 = prev) →
    Ev (fun k => patrol_Right.l0 k ls (ls.length : Int) i ls hs) (if listsE prev (ls.drop i.toNat) ≠ 0 then listsE prev (ls.drop i.toNat) else hazE ls [] hs) := by
  induction d with
  | zero =>
    intro i prev h0 hd _ _
    rw [List.drop_eq_nil_of_le (by omega), if_neg (by simp [listsE])]
    refine Ev.step (fun k => by rw [patrol_Right.l0, if_neg (by omega)]) ?_
    exact phaz_ev ls hs S hs.length 0 (by omega) (by omega)
  | succ d ih =>
    intro i prev h0 hd hz hp
    have h1 : i < (ls.length : Int) := by omega
    have hn := S.nl
    have hw : wrap64 (i + 1) = i + 1 := by unfold wrap64; omega
    have hw1 : 0 < i → wrap64 (i - 1) = i - 1 := fun h => by unfold wrap64; omega
    have hfit := S.fit _ (rd63_mem ls i h0 h1)
    rw [rd63_at ls i h0 h1, listsE]
    refine Ev.step (fun k => by rw [patrol_Right.l0, if_pos h1, if_pos h0, if_pos h1, within_eq, Option.bind_some]) ?_
    by_cases c : (rd_T63 ls i).f0 < 1 ∨ (rd_T63 ls i).f0 > 9999
    · rw [if_pos c, if_pos (by decide)]
      exact Ev.neg (by rw [decide_eq_true_iff]; omega) (Ev.now _)
    rw [if_neg c]
    refine Ev.pos (decide_eq_true (by omega)) ?_
    have go : ∀ b : Bool, (b = true ↔ (rd_T63 ls i).f0 ≤ prev) → Ev (fun k => patrol_Right.j2 k ls (ls.length : Int) i b ls hs ((rd_T63 ls i).f0) ((rd_T63 ls i).f1.f0) ((rd_T63 ls i).f1.f1) ((rd_T63 ls i).f1.f2))
        (if (if (rd_T63 ls i).f0 ≤ prev then 11 else if rightS (rd_T63 ls i).f1.f0 (rd_T63 ls i).f1.f1 (rd_T63 ls i).f1.f2 ≠ 0 then rightS (rd_T63 ls i).f1.f0 (rd_T63 ls i).f1.f1 (rd_T63 ls i).f1.f2 else listsE (rd_T63 ls i).f0 (ls.drop (i + 1).toNat)) ≠ 0 then (if (rd_T63 ls i).f0 ≤ prev then 11 else if rightS (rd_T63 ls i).f1.f0 (rd_T63 ls i).f1.f1 (rd_T63 ls i).f1.f2 ≠ 0 then rightS (rd_T63 ls i).f1.f0 (rd_T63 ls i).f1.f1 (rd_T63 ls i).f1.f2 else listsE (rd_T63 ls i).f0 (ls.drop (i + 1).toNat)) else hazE ls [] hs) := by
      intro b hb
      cases b with
      | true =>
        rw [if_pos (hb.1 rfl), if_pos (by decide)]
        exact Ev.step (f := fun _ => some 11) (fun k => by rw [patrol_Right.j2, if_pos rfl]) (Ev.now _)
      | false =>
        have hb' : ¬ (rd_T63 ls i).f0 ≤ prev := fun h => by have := hb.2 h; cases this
        rw [if_neg hb']
        refine Ev.step (fun k => by rw [patrol_Right.j2, if_neg (by simp), hw]) ?_
        refine Ev.bind (f := fun k t392 => (if t392 = 0 then (patrol_Right.l0 k ls (ls.length : Int) (i + 1) ls hs) else (some t392))) (right_ev _ _ _ (by have := hfit.1; omega) (by have := hfit.2; omega)) ?_
        by_cases e : rightS (rd_T63 ls i).f1.f0 (rd_T63 ls i).f1.f1 (rd_T63 ls i).f1.f2 = 0
        · rw [if_neg (show ¬ rightS (rd_T63 ls i).f1.f0 (rd_T63 ls i).f1.f1 (rd_T63 ls i).f1.f2 ≠ 0 by simpa using e)]
          exact Ev.pos e (ih (i + 1) _ (by omega) (by omega) (by omega) (fun _ => by rw [show i + 1 - 1 = i by omega]))
        · rw [if_pos e, if_pos e]
          exact Ev.neg e (Ev.now _)
    by_cases c4 : i > 0
    · rw [hw1 c4]
      refine Ev.pos c4 (Ev.pos (by omega) (Ev.pos (by omega) (go _ ?_)))
      rw [hp c4, decide_eq_true_iff]
    · refine Ev.neg c4 (go false ?_)
      have := hz (by omega)
      simp; omega
theorem patrolright_ev (ls : List S63) (hs : List S56) (S : Small ls hs) : Ev (fun k => patrol_Right.f k ls hs) (right53 ls hs) := by
  unfold right53
  by_cases c : ls.length > 64 ∨ hs.length > 200
  · rw [if_pos c]
    refine Ev.congr (f := fun k => patrol_Right.j0 k true ls hs) (fun k => ?_) ?_
    · rw [patrol_Right.f]
      by_cases c1 : (ls.length : Int) > 64
      · rw [if_pos c1]
      · rw [if_neg c1, decide_eq_true (by omega)]
    · exact Ev.step (f := fun _ => some 4) (fun k => by rw [patrol_Right.j0, if_pos rfl]) (Ev.now _)
  · rw [if_neg c]
    refine Ev.congr (f := fun k => patrol_Right.j0 k false ls hs) (fun k => by rw [patrol_Right.f, if_neg (by omega), decide_eq_false (by omega)]) ?_
    refine Ev.step (fun k => by rw [patrol_Right.j0, if_neg (by simp)]) ?_
    exact plists_ev ls hs S ls.length 0 0 (by omega) (by omega) (fun _ => rfl) (fun h => by omega)
end Go.Proofs.Ytmhggplhfcmgkaa.Q
