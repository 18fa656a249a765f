/- Plain laws and readings for the seat's proofs (this session's). -/
import Derived.RangeFuncNested
import Derived.Shelf.Abstract
import Derived.Deep.Slices
import Derived.ProofKit
import Derived.OpenShut
import Derived.ChangeOld
import Derived.Lib.SmallJoins
import Derived.WalkSpells
import Derived.Test.YtmhggplhfcmgkaaRD53
import Derived.Test.YtmhggplhfcmgkaaOpn53
import Derived.Test.YtmhggplhfcmgkaaQ59
import Derived.Test.YtmhggplhfcmgkaaQ75
import Derived.Test.YtmhggplhfcmgkaaQ76
namespace Go.Proofs.Ytmhggplhfcmgkaa.Q
open Go.RowKit Go.Proofs.YtmhggplhfcmgkaaW.PrintWords Go.Proofs.YtmhggplhfcmgkaaW.PrintLast Go.Proofs.YtmhggplhfcmgkaaW.PrintMore
set_option linter.unusedVariables false
set_option linter.unusedSimpArgs false
/-! ### the runs are told apart -/
theorem idx_here {ls : List S63} (hp : ls.Pairwise (fun a b => a.f0 < b.f0)) : ∀ (i : Int), 0 ≤ i → i < ls.length → idxR ls (rd_T63 ls i).f0 = i := by
  have gen : ∀ (l : List S63) (n : Nat), l.Pairwise (fun a b => a.f0 < b.f0) → ∀ j : Nat, j < l.length → idxFrom (fun x : S63 => decide (x.f0 = (l.getD j z63).f0)) l n = (n : Int) + j := by
    intro l
    induction l with
    | nil => intro n _ j hj; simp at hj
    | cons x l ih =>
      intro n hp j hj
      rw [List.pairwise_cons] at hp
      cases j with
      | zero => simp [idxFrom]
      | succ j =>
        have hj' : j < l.length := by simpa using hj
        have hm : l.getD j z63 ∈ l := by rw [List.getD_eq_getElem?_getD, List.getElem?_eq_getElem hj', Option.getD_some]; exact List.getElem_mem _
        have hlt := hp.1 _ hm
        have e : (x :: l).getD (j + 1) z63 = l.getD j z63 := by simp
        rw [idxFrom, e, if_neg (by intro h; have := of_decide_eq_true h; omega), ih (n + 1) hp.2 j hj']
        omega
  intro i h0 h1
  have := gen ls 0 hp i.toNat (by omega)
  unfold idxR rd_T63
  rw [this]; omega
theorem idx_none {ls : List S63} {run : Int} (h : ∀ x ∈ ls, x.f0 ≠ run) : idxR ls run < 0 := by
  unfold idxR
  rw [list_iff, List.any_eq_false]
  intro x hx
  simpa [runP] using h x hx
theorem hazards_ev (ls : List S63) (hs : List S56) (run : Int) (hn : hs.length ≤ 200) (d : Nat) : ∀ (i c : Int), 0 ≤ i → i + d = hs.length → 0 ≤ c → c ≤ i →
    ∃ r, Ev (fun k => skiarealaw53_hazards.l0 k run c i ls hs) r ∧ (r = 0 ↔ c = 0 ∧ hazR (hs.drop i.toNat) run = false) ∧ 0 ≤ r := by
  induction d with
  | zero =>
    intro i c h0 hd hc _
    refine ⟨c, Ev.step (f := fun _ => some c) (fun k => by rw [skiarealaw53_hazards.l0, if_neg (by omega)]) (Ev.now _), ?_, hc⟩
    rw [List.drop_eq_nil_of_le (by omega)]
    simp [hazR]
  | succ d ih =>
    intro i c h0 hd hc hci
    have h1 : i < (hs.length : Int) := by omega
    have hw : wrap64 (i + 1) = i + 1 := by unfold wrap64; omega
    have hw2 : wrap64 (c + 1) = c + 1 := by unfold wrap64; omega
    rw [rd56_at hs i h0 h1]
    by_cases e : (rd_T56 hs i).f1 = run
    · obtain ⟨r, hr, h2, h3⟩ := ih (i + 1) (c + 1) (by omega) (by omega) (by omega) (by omega)
      refine ⟨r, Ev.step (fun k => by rw [skiarealaw53_hazards.l0, if_pos h1, if_pos h0, if_pos e, hw, hw2]) hr, ?_, h3⟩
      rw [h2, show hazR (rd_T56 hs i :: hs.drop (i + 1).toNat) run = true by simp [hazR, e]]
      constructor
      · intro g; omega
      · intro g; cases g.2
    · obtain ⟨r, hr, h2, h3⟩ := ih (i + 1) c (by omega) (by omega) hc (by omega)
      refine ⟨r, Ev.step (fun k => by rw [skiarealaw53_hazards.l0, if_pos h1, if_pos h0, if_neg e, hw]) hr, ?_, h3⟩
      rw [h2, show hazR (rd_T56 hs i :: hs.drop (i + 1).toNat) run = hazR (hs.drop (i + 1).toNat) run by simp [hazR, e]]
theorem ready_l0 {ls : List S63} {hs : List S56} (F : Fine ls hs) (run t : Int) (d : Nat) : ∀ (i x8 : Int) (x9 : Bool), 0 ≤ i → i + d = ls.length →
    x8 = (openRuns ls hs t (ls.take i.toNat)).length → (x9 = true ∨ ∀ x ∈ ls.take i.toNat, x.f0 ≠ run) →
    Ev (fun k => skiarealaw53_PatrolReady.l0 k run t (openRuns ls hs t ls) x8 x9 i ls hs) true := by
  have hn := F.nl
  induction d with
  | zero =>
    intro i x8 x9 h0 hd h8 h9
    rw [List.take_of_length_le (by omega)] at h8 h9
    refine Ev.step (fun k => by rw [skiarealaw53_PatrolReady.l0, if_neg (by omega), if_pos h8, patrolready_eq F, Option.bind_some]) ?_
    cases x9 with
    | true => exact Ev.pos rfl (Ev.now _)
    | false =>
      have := idx_none (run := run) (h9.resolve_left (by simp))
      refine Ev.neg (by simp) ?_
      rw [show readyB ls hs run t = false by unfold readyB; rw [if_neg (by omega)]]
      exact Ev.now _
  | succ d ih =>
    intro i x8 x9 h0 hd h8 h9
    have h1 : i < (ls.length : Int) := by omega
    have hw : wrap64 (i + 1) = i + 1 := by unfold wrap64; omega
    have ok := F.ok _ (rd63_mem ls i h0 h1)
    have hi := idx_here F.inc i h0 h1
    have htk : ls.take (i + 1).toNat = ls.take i.toNat ++ [rd_T63 ls i] := by
      rw [show (i + 1).toNat = i.toNat + 1 by omega, List.take_succ_eq_append_getElem (by omega)]
      simp [rd_T63, List.getD_eq_getElem?_getD, List.getElem?_eq_getElem (show i.toNat < ls.length by omega)]
    have happ : ∀ a b, openRuns ls hs t (a ++ b) = openRuns ls hs t a ++ openRuns ls hs t b := fun a b => by unfold openRuns; rw [List.filter_append, List.map_append]
    have hall : openRuns ls hs t ls = openRuns ls hs t (ls.take i.toNat) ++ openRuns ls hs t (rd_T63 ls i :: ls.drop (i + 1).toNat) := by
      rw [← happ, ← rd63_at ls i h0 h1, List.take_append_drop]
    have hr : readyB ls hs (rd_T63 ls i).f0 t = (doneB (rd_T63 ls i) t && !(hazR hs (rd_T63 ls i).f0)) := by
      unfold readyB; rw [hi, if_pos h0]
    have hlen := openRuns_len ls hs t ls
    -- behind the two bools
    have j3 : ∀ b9 : Bool, (b9 = true ∨ ∀ x ∈ ls.take (i + 1).toNat, x.f0 ≠ run) → Ev (fun k => skiarealaw53_PatrolReady.j3 k run t (openRuns ls hs t ls) x8 b9 i (readyB ls hs (rd_T63 ls i).f0 t) ls hs ((rd_T63 ls i).f0) ((rd_T63 ls i).f1.f0) ((rd_T63 ls i).f1.f1) ((rd_T63 ls i).f1.f2)) true := by
      intro b9 hb9
      refine Ev.step (fun k => by rw [skiarealaw53_PatrolReady.j3, patrolready_eq F, Option.bind_some, hw]) ?_
      refine Ev.neg (by simp) ?_
      cases c : readyB ls hs (rd_T63 ls i).f0 t with
      | true =>
        refine Ev.pos rfl (ih (i + 1) x8 b9 (by omega) (by omega) ?_ hb9)
        rw [htk, happ, openRuns_yes c, show openRuns ls hs t [] = [] from rfl, List.append_nil]
        exact h8
      | false =>
        rw [openRuns_no c] at hall
        have hl2 : x8 < ((openRuns ls hs t ls).length : Int) := by rw [hall, List.length_append, List.length_cons]; omega
        have hw8 : wrap64 (x8 + 1) = x8 + 1 := by unfold wrap64; omega
        have hrd : rd (openRuns ls hs t ls) x8 = (rd_T63 ls i).f0 := by
          rw [hall]
          unfold rd
          rw [h8, show (((openRuns ls hs t (ls.take i.toNat)).length : Int)).toNat = (openRuns ls hs t (ls.take i.toNat)).length by omega]
          simp [List.getD_eq_getElem?_getD]
        refine Ev.neg (by simp) (Ev.neg (by omega) (Ev.pos (by omega) (Ev.pos hl2 (Ev.pos hrd ?_))))
        rw [hw8]
        refine ih (i + 1) (x8 + 1) b9 (by omega) (by omega) ?_ hb9
        rw [htk, happ, openRuns_no c, List.length_append, h8]
        simp [openRuns]
    have j2 : Ev (fun k => skiarealaw53_PatrolReady.j2 k run t (openRuns ls hs t ls) x8 x9 i (readyB ls hs (rd_T63 ls i).f0 t) ls hs ((rd_T63 ls i).f0) ((rd_T63 ls i).f1.f0) ((rd_T63 ls i).f1.f1) ((rd_T63 ls i).f1.f2)) true := by
      refine Ev.step (fun k => by rw [skiarealaw53_PatrolReady.j2]) ?_
      cases x9 with
      | true => exact Ev.pos rfl (j3 true (.inl rfl))
      | false =>
        refine Ev.neg (by simp) (j3 _ ?_)
        by_cases e : (rd_T63 ls i).f0 = run
        · exact .inl (by simp [e])
        · refine .inr (fun x hx => ?_)
          rw [htk] at hx
          rcases List.mem_append.1 hx with hx | hx
          · exact (h9.resolve_left (by simp)) x hx
          · rw [List.mem_singleton.1 hx]; exact e
    refine Ev.step (fun k => by rw [skiarealaw53_PatrolReady.l0, if_pos h1, if_pos h0, done_some _ _ _ _ ok.ni, Option.bind_some]) ?_
    change Ev (fun k => (if doneB (rd_T63 ls i) t = true then _ else _)) true
    rw [hr] at j2
    cases c : doneB (rd_T63 ls i) t with
    | true =>
      obtain ⟨r, hr1, hr2, _⟩ := hazards_ev ls hs (rd_T63 ls i).f0 F.nh hs.length 0 0 (by omega) (by omega) (by omega) (by omega)
      refine Ev.pos rfl ?_
      refine Ev.bind (f := fun k t702 => (skiarealaw53_PatrolReady.j2 k run t (openRuns ls hs t ls) x8 x9 i (t702 == 0) ls hs ((rd_T63 ls i).f0) ((rd_T63 ls i).f1.f0) ((rd_T63 ls i).f1.f1) ((rd_T63 ls i).f1.f2))) (a := r) (Ev.congr (fun k => by rw [skiarealaw53_hazards.f]) hr1) ?_
      rw [c, Bool.true_and] at j2
      have e : (r == 0) = !(hazR hs (rd_T63 ls i).f0) := by
        have hr3 : (r = 0 ↔ hazR hs (rd_T63 ls i).f0 = false) := by simpa using hr2
        cases hz : hazR hs (rd_T63 ls i).f0 with
        | true => rw [hz] at hr3; simp at hr3; simpa using hr3
        | false => rw [hz] at hr3; simp at hr3; simpa using hr3
      rw [e]
      exact j2
    | false =>
      rw [c, Bool.false_and] at j2
      exact Ev.neg (by simp) j2
theorem PatrolReady_pure (l0_0 : List S63) (l0_1 : List S56) (a1 a2 : Int) (w0 : WLists l0_0) (w1 : WHaz l0_1) (wa1 : W64 a1) (wa2 : W64 a2) : ∃ k, skiarealaw53_PatrolReady.f k l0_0 l0_1 a1 a2 = some true := by
  refine Ev.rounds (g := fun k => skiarealaw53_PatrolReady.f k l0_0 l0_1 a1 a2) (r := true) ?_
  unfold skiarealaw53_PatrolReady.f skiarealaw53_alive.f
  simp only [Option.bind_some, if_true]
  have skip : Ev (fun k => skiarealaw53_PatrolReady.j0 k a1 a2 true l0_0 l0_1) true := Ev.step (f := fun _ => some true) (fun k => by rw [skiarealaw53_PatrolReady.j0, if_pos rfl]) (Ev.now _)
  obtain ⟨b, hb, hB⟩ := small_ev l0_0 l0_1
  refine Ev.bind (f := fun k t693 => (if t693 = true then ((patrol_Right.f k l0_0 l0_1).bind fun t694 => (skiarealaw53_PatrolReady.j0 k a1 a2 (t694 != 0) l0_0 l0_1)) else (skiarealaw53_PatrolReady.j0 k a1 a2 true l0_0 l0_1))) hb ?_
  cases b with
  | false => exact Ev.neg (by simp) skip
  | true =>
    refine Ev.pos rfl ?_
    refine Ev.bind (f := fun k t694 => (skiarealaw53_PatrolReady.j0 k a1 a2 (t694 != 0) l0_0 l0_1)) (patrolright_ev l0_0 l0_1 (hB rfl)) ?_
    by_cases c : right53 l0_0 l0_1 = 0
    · have F := fine_of c
      rw [c, show ((0 : Int) != 0) = false from rfl]
      refine Ev.step (fun k => by rw [skiarealaw53_PatrolReady.j0, if_neg (by simp)]) ?_
      refine Ev.bind (f := fun k t695 => (skiarealaw53_PatrolReady.l0 k a1 a2 t695 0 false 0 l0_0 l0_1)) (patrolopenf_ev F a2) ?_
      exact ready_l0 F a1 a2 l0_0.length 0 0 false (by omega) (by omega) (by simp [openRuns]) (.inr (by simp))
    · rw [show (right53 l0_0 l0_1 != 0) = true by simpa using c]
      exact skip
end Go.Proofs.Ytmhggplhfcmgkaa.Q
