/- Plain laws and readings for the seat's proofs (this session's). -/
import Derived.RangeFuncNested
import Derived.Shelf.Abstract
import Derived.Deep.Slices
import Derived.ProofKit
import Derived.OpenShut
import Derived.ChangeOld
import Derived.Lib.SmallJoins
import Derived.WalkSpells
import Derived.Test.YtmhggplhfcmgkaaR53
import Derived.Test.YtmhggplhfcmgkaaK19
import Derived.Test.YtmhggplhfcmgkaaO19
import Derived.Test.YtmhggplhfcmgkaaQ55
import Derived.Test.YtmhggplhfcmgkaaQ57
namespace Go.Proofs.Ytmhggplhfcmgkaa.Q
open Go.RowKit Go.Proofs.YtmhggplhfcmgkaaW.PrintWords Go.Proofs.YtmhggplhfcmgkaaW.PrintLast Go.Proofs.YtmhggplhfcmgkaaW.PrintMore
set_option linter.unusedVariables false
set_option linter.unusedSimpArgs false
/-! ### what Right = OK says of a patrol -/
theorem listsE_ok : ∀ (l : List S63) (prev : Int), listsE prev l = 0 → (∀ x ∈ l, prev < x.f0 ∧ 1 ≤ x.f0 ∧ x.f0 ≤ 9999 ∧ rightS x.f1.f0 x.f1.f1 x.f1.f2 = 0) ∧ l.Pairwise (fun a b => a.f0 < b.f0)
  | [], _, _ => ⟨by simp, List.Pairwise.nil⟩
  | x :: l, prev, h => by
    rw [listsE] at h
    by_cases c1 : x.f0 < 1 ∨ x.f0 > 9999
    · rw [if_pos c1] at h; exact absurd h (by decide)
    rw [if_neg c1] at h
    by_cases c2 : x.f0 ≤ prev
    · rw [if_pos c2] at h; exact absurd h (by decide)
    rw [if_neg c2] at h
    by_cases c3 : rightS x.f1.f0 x.f1.f1 x.f1.f2 ≠ 0
    · rw [if_pos c3] at h; exact absurd h c3
    rw [if_neg c3] at h
    obtain ⟨h1, h2⟩ := listsE_ok l x.f0 h
    refine ⟨fun y hy => ?_, List.Pairwise.cons (fun y hy => (h1 y hy).1) h2⟩
    rcases List.mem_cons.1 hy with rfl | hy
    · exact ⟨by omega, by omega, by omega, by simpa using c3⟩
    · obtain ⟨a, b, c, d⟩ := h1 y hy
      exact ⟨by omega, b, c, d⟩
structure Fine (ls : List S63) (hs : List S56) : Prop where
  nl : ls.length ≤ 64
  nh : hs.length ≤ 200
  ok : ∀ x ∈ ls, Okay x.f1.f0 x.f1.f1 x.f1.f2
  inc : ls.Pairwise (fun a b => a.f0 < b.f0)
  le : listsE 0 ls = 0
  he : hazE ls [] hs = 0
theorem fine_of {ls : List S63} {hs : List S56} (h : right53 ls hs = 0) : Fine ls hs := by
  unfold right53 at h
  by_cases c : ls.length > 64 ∨ hs.length > 200
  · rw [if_pos c] at h; exact absurd h (by decide)
  rw [if_neg c] at h
  by_cases c1 : listsE 0 ls ≠ 0
  · rw [if_pos c1] at h; exact absurd h c1
  rw [if_neg c1] at h
  have c2 : listsE 0 ls = 0 := by simpa using c1
  have := listsE_ok ls 0 c2
  exact ⟨by omega, by omega, fun x hx => right_okay (this.1 x hx).2.2.2, this.2, c2, h⟩
theorem Fine.right {ls : List S63} {hs : List S56} (h : Fine ls hs) : right53 ls hs = 0 := by
  unfold right53
  rw [if_neg (by have := h.nl; have := h.nh; omega), if_neg (by simp [h.le])]
  exact h.he
/-! ### Ready and Open -/
def idxR (ls : List S63) (run : Int) : Int := idxFrom (fun x : S63 => decide (x.f0 = run)) ls 0
def doneB (x : S63) (t : Int) : Bool := ((openL x.f1.f0 x.f1.f1 x.f1.f2 t).length : Int) == 0
def hazR (hs : List S56) (run : Int) : Bool := hs.any fun h : S56 => decide (h.f1 = run)
def readyB (ls : List S63) (hs : List S56) (run t : Int) : Bool := if 0 ≤ idxR ls run then (doneB (rd_T63 ls (idxR ls run)) t && !(hazR hs run)) else false
theorem idxR_lt (ls : List S63) (run : Int) : idxR ls run < ls.length := by
  have := idxFrom_lt (fun x : S63 => decide (x.f0 = run)) ls 0
  unfold idxR; omega
theorem patrolready_eq {ls : List S63} {hs : List S56} (F : Fine ls hs) (run t : Int) : patrol_Ready.f ls hs run t = some (readyB ls hs run t) := by
  unfold patrol_Ready.f readyB
  change (if 0 ≤ idxR ls run then _ else _) = _
  by_cases c : 0 ≤ idxR ls run
  · rw [if_pos c, if_pos c]
    have ok := F.ok _ (rd63_mem ls (idxR ls run) c (idxR_lt ls run))
    change (inspect_Done.f (rd_T63 ls (idxR ls run)).f1.f0 (rd_T63 ls (idxR ls run)).f1.f1 (rd_T63 ls (idxR ls run)).f1.f2 t).bind _ = _
    rw [done_some _ _ _ _ ok.ni, Option.bind_some]
    change (if doneB (rd_T63 ls (idxR ls run)) t = true then some (!(hazR hs run)) else some false) = _
    cases doneB (rd_T63 ls (idxR ls run)) t <;> simp
  · rw [if_neg c, if_neg c]
def openRuns (ls : List S63) (hs : List S56) (t : Int) (l : List S63) : List Int := (l.filter fun x => !(readyB ls hs x.f0 t)).map (·.f0)
theorem openRuns_len (ls : List S63) (hs : List S56) (t : Int) (l : List S63) : (openRuns ls hs t l).length ≤ l.length := by
  unfold openRuns; rw [List.length_map]; exact List.length_filter_le _ _
theorem openRuns_yes {ls : List S63} {hs : List S56} {t : Int} {x : S63} {l : List S63} (h : readyB ls hs x.f0 t = true) : openRuns ls hs t (x :: l) = openRuns ls hs t l := by unfold openRuns; simp [h]
theorem openRuns_no {ls : List S63} {hs : List S56} {t : Int} {x : S63} {l : List S63} (h : readyB ls hs x.f0 t = false) : openRuns ls hs t (x :: l) = x.f0 :: openRuns ls hs t l := by unfold openRuns; simp [h]
theorem patrolopen_ev {ls : List S63} {hs : List S56} (F : Fine ls hs) (t : Int) (d : Nat) : ∀ (i : Int) (acc : List Int), 0 ≤ i → i + d = ls.length → (acc.length : Int) ≤ i →
    Ev (fun k => patrol_Open.l0 k t acc ls (ls.length : Int) i ls hs) (acc ++ openRuns ls hs t (ls.drop i.toNat)) := by
  have hn := F.nl
  induction d with
  | zero =>
    intro i acc h0 hd ha
    rw [List.drop_eq_nil_of_le (by omega), show openRuns ls hs t [] = [] from rfl, List.append_nil]
    exact Ev.step (f := fun _ => some acc) (fun k => by rw [patrol_Open.l0, if_neg (by omega)]) (Ev.now _)
  | succ d ih =>
    intro i acc h0 hd ha
    have h1 : i < (ls.length : Int) := by omega
    have hw : wrap64 (i + 1) = i + 1 := by unfold wrap64; omega
    rw [rd63_at ls i h0 h1]
    refine Ev.step (fun k => by rw [patrol_Open.l0, if_pos h1, if_pos h0, if_pos h1, patrolready_eq F, Option.bind_some, hw]) ?_
    cases c : readyB ls hs (rd_T63 ls i).f0 t with
    | true =>
      rw [openRuns_yes c]
      exact Ev.pos rfl (ih (i + 1) acc (by omega) (by omega) (by omega))
    | false =>
      rw [openRuns_no c]
      refine Ev.neg (by simp) (Ev.pos (by omega) ?_)
      have := ih (i + 1) (acc ++ [(rd_T63 ls i).f0]) (by omega) (by omega) (by simp; omega)
      rw [List.append_assoc, List.singleton_append] at this
      exact this
theorem patrolopenf_ev {ls : List S63} {hs : List S56} (F : Fine ls hs) (t : Int) : Ev (fun k => patrol_Open.f k ls hs t) (openRuns ls hs t ls) := by
  have := patrolopen_ev F t ls.length 0 [] (by omega) (by omega) (by simp)
  exact Ev.congr (fun k => by rw [patrol_Open.f]) (by simpa using this)
end Go.Proofs.Ytmhggplhfcmgkaa.Q
