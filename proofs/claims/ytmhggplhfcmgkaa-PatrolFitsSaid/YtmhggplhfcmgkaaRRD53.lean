/- Plain laws and readings for the seat's proofs (this session's). -/
import Derived.RangeFuncNested
import Derived.Shelf.Abstract
import Derived.Deep.Slices
import Derived.ProofKit
import Derived.OpenShut
import Derived.ChangeOld
import Derived.Lib.SmallJoins
import Derived.WalkSpells
import Derived.Test.YtmhggplhfcmgkaaRD53
import Derived.Test.YtmhggplhfcmgkaaRR53
import Derived.Test.YtmhggplhfcmgkaaOR19
import Derived.Test.YtmhggplhfcmgkaaQ56
import Derived.Test.YtmhggplhfcmgkaaQ64
import Derived.Test.YtmhggplhfcmgkaaQ72
import Derived.Test.YtmhggplhfcmgkaaQ73
namespace Go.Proofs.Ytmhggplhfcmgkaa.Q
open Go.RowKit Go.Proofs.YtmhggplhfcmgkaaW.PrintWords Go.Proofs.YtmhggplhfcmgkaaW.PrintLast Go.Proofs.YtmhggplhfcmgkaaW.PrintMore
set_option linter.unusedVariables false
set_option linter.unusedSimpArgs false
theorem refhazl_ev (ls : List S63) (hs : List S56) (run : Int) (hn : hs.length ≤ 9223372036854775807) (d : Nat) : ∀ i : Int, 0 ≤ i → i + d = hs.length →
    Ev (fun k => skiarearef53_Ready.l0 k run i ls hs) (!(hazR (hs.drop i.toNat) run)) := by
  induction d with
  | zero =>
    intro i h0 hd
    rw [List.drop_eq_nil_of_le (by omega)]
    exact Ev.step (f := fun _ => some true) (fun k => by rw [skiarearef53_Ready.l0, if_neg (by omega)]) (Ev.now _)
  | succ d ih =>
    intro i h0 hd
    have h1 : i < (hs.length : Int) := by omega
    have hw := wrap_inc h0 h1 hn
    rw [rd56_at hs i h0 h1]
    refine Ev.step (fun k => by rw [skiarearef53_Ready.l0, if_pos h1, if_pos h0, hw]) ?_
    by_cases c : (rd_T56 hs i).f1 = run
    · rw [show hazR (rd_T56 hs i :: hs.drop (i + 1).toNat) run = true by simp [hazR, c]]
      exact Ev.pos c (Ev.now _)
    · rw [show hazR (rd_T56 hs i :: hs.drop (i + 1).toNat) run = hazR (hs.drop (i + 1).toNat) run by simp [hazR, c]]
      exact Ev.neg c (ih (i + 1) (by omega) (by omega))
theorem refready_ev {ls : List S63} {hs : List S56} (F : Fine ls hs) (run t : Int) : Ev (fun k => skiarearef53_Ready.f k ls hs run t) (readyB ls hs run t) := by
  have bad : Ev (fun k => skiarearef53_Ready.j0 k run true ls hs) false := Ev.step (f := fun _ => some false) (fun k => by rw [skiarearef53_Ready.j0, if_pos rfl]) (Ev.now _)
  refine Ev.congr (fun k => by rw [skiarearef53_Ready.f]) ?_
  refine Ev.bind (f := fun k t666 => (if t666 < 0 then (skiarearef53_Ready.j0 k run true ls hs) else (if 0 ≤ t666 then (if t666 < (ls.length : Int) then ((skiarearef19_Done.f k ((rd_T63 ls t666).f1.f0) ((rd_T63 ls t666).f1.f1) ((rd_T63 ls t666).f1.f2) t).bind fun t668 => (skiarearef53_Ready.j0 k run (!t668) ls hs)) else (none)) else (none)))) (refat_ev ls hs run (by have := F.nl; omega)) ?_
  change Ev (fun k => (if idxR ls run < 0 then (skiarearef53_Ready.j0 k run true ls hs) else (if 0 ≤ idxR ls run then (if idxR ls run < (ls.length : Int) then ((skiarearef19_Done.f k ((rd_T63 ls (idxR ls run)).f1.f0) ((rd_T63 ls (idxR ls run)).f1.f1) ((rd_T63 ls (idxR ls run)).f1.f2) t).bind fun t668 => (skiarearef53_Ready.j0 k run (!t668) ls hs)) else (none)) else (none)))) (readyB ls hs run t)
  unfold readyB
  by_cases c : 0 ≤ idxR ls run
  · rw [if_pos c]
    have ok := F.ok _ (rd63_mem ls (idxR ls run) c (idxR_lt ls run))
    refine Ev.neg (by omega) (Ev.pos c (Ev.pos (idxR_lt ls run) ?_))
    refine Ev.bind (f := fun k t668 => (skiarearef53_Ready.j0 k run (!t668) ls hs)) (refdone_ev (rd_T63 ls (idxR ls run)).f1.f0 (rd_T63 ls (idxR ls run)).f1.f2 ok.tame ok.ni ok.ns t) ?_
    change Ev (fun k => skiarearef53_Ready.j0 k run (!(doneB (rd_T63 ls (idxR ls run)) t)) ls hs) _
    cases doneB (rd_T63 ls (idxR ls run)) t with
    | false => exact bad
    | true =>
      have := refhazl_ev ls hs run (by have := F.nh; omega) hs.length 0 (by omega) (by omega)
      exact Ev.step (fun k => by rw [skiarearef53_Ready.j0, if_neg (by simp)]) (by simpa using this)
  · rw [if_neg c]
    exact Ev.pos (by omega) bad
theorem refopen53_ev {ls : List S63} {hs : List S56} (F : Fine ls hs) (t : Int) (d : Nat) : ∀ (i : Int) (acc : List Int), 0 ≤ i → i + d = ls.length → (acc.length : Int) ≤ i →
    Ev (fun k => skiarearef53_Open.l0 k t acc i ls hs) (acc ++ openRuns ls hs t (ls.drop i.toNat)) := by
  have hn := F.nl
  induction d with
  | zero =>
    intro i acc h0 hd ha
    rw [List.drop_eq_nil_of_le (by omega), show openRuns ls hs t [] = [] from rfl, List.append_nil]
    exact Ev.step (f := fun _ => some acc) (fun k => by rw [skiarearef53_Open.l0, if_neg (by omega)]) (Ev.now _)
  | succ d ih =>
    intro i acc h0 hd ha
    have h1 : i < (ls.length : Int) := by omega
    have hw : wrap64 (i + 1) = i + 1 := by unfold wrap64; omega
    rw [rd63_at ls i h0 h1]
    refine Ev.step (fun k => by rw [skiarearef53_Open.l0, if_pos h1, if_pos h0, hw]) ?_
    refine Ev.bind (f := fun k t672 => (if t672 = true then (skiarearef53_Open.l0 k t acc (i + 1) ls hs) else (if acc.length < 17592186044416 then (skiarearef53_Open.l0 k t (acc ++ [(rd_T63 ls i).f0]) (i + 1) ls hs) else (none)))) (refready_ev F (rd_T63 ls i).f0 t) ?_
    cases c : readyB ls hs (rd_T63 ls i).f0 t with
    | true =>
      rw [openRuns_yes c]
      exact Ev.pos rfl (ih (i + 1) acc (by omega) (by omega) (by omega))
    | false =>
      rw [openRuns_no c]
      refine Ev.neg (by simp) (Ev.pos (by omega) ?_)
      have := ih (i + 1) (acc ++ [(rd_T63 ls i).f0]) (by omega) (by omega) (by simp; omega)
      rw [List.append_assoc, List.singleton_append] at this
      exact this
theorem same53_ev (l : List Int) (hl : l.length ≤ 9223372036854775807) (d : Nat) : ∀ (i : Int), 0 ≤ i → i + d = l.length → Ev (fun k => skiarearef53_SameInts.l0 k l l i) true := by
  induction d with
  | zero =>
    intro i h0 hd
    exact Ev.step (f := fun _ => some true) (fun k => by rw [skiarearef53_SameInts.l0, if_neg (by omega)]) (Ev.now _)
  | succ d ih =>
    intro i h0 hd
    have h1 : i < (l.length : Int) := by omega
    exact Ev.step (fun k => by rw [skiarearef53_SameInts.l0, if_pos h1, if_pos h0, if_pos h1, if_pos rfl, wrap_inc h0 h1 hl]) (ih (i + 1) (by omega) (by omega))
theorem accepted_ev (ls : List S63) (hs : List S56) : ∃ b, Ev (fun k => skiarealaw53_accepted.f k ls hs) b ∧ (b = true → Small ls hs ∧ Fine ls hs) := by
  obtain ⟨b, hb, hB⟩ := small_ev ls hs
  cases b with
  | false => exact ⟨false, Ev.congr (fun k => by rw [skiarealaw53_accepted.f]) (Ev.bind (f := fun k t546 => (if t546 = true then ((skiarearef53_Right.f k ls hs).bind fun t547 => (some (t547 == 0))) else (some false))) hb (Ev.neg (by simp) (Ev.now _))), fun h => by cases h⟩
  | true =>
    refine ⟨right53 ls hs == 0, Ev.congr (fun k => by rw [skiarealaw53_accepted.f]) (Ev.bind (f := fun k t546 => (if t546 = true then ((skiarearef53_Right.f k ls hs).bind fun t547 => (some (t547 == 0))) else (some false))) hb (Ev.pos rfl ?_)), fun h => ⟨hB rfl, fine_of (by simpa using h)⟩⟩
    exact Ev.bind (f := fun k t547 => (some (t547 == 0))) (refright53_ev ls hs (hB rfl)) (Ev.now _)
end Go.Proofs.Ytmhggplhfcmgkaa.Q
