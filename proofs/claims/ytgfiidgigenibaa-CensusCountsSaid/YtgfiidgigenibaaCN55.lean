/- Plain laws and readings for the seat's proofs (this session's). -/
import Derived.RangeFuncNested
import Derived.Shelf.Abstract
import Derived.Deep.Slices
import Derived.ProofKit
import Derived.OpenShut
import Derived.ChangeOld
import Derived.Lib.SmallJoins
import Derived.WalkSpells
import Derived.Test.YtgfiidgigenibaaB55
import Derived.Test.YtgfiidgigenibaaQ5
namespace Go.Proofs.Ytgfiidgigenibaa.Q
open Go.RowKit Go.Proofs.YtgfiidgigenibaaW.PrintWords Go.Proofs.YtgfiidgigenibaaW.PrintLast Go.Proofs.YtgfiidgigenibaaW.PrintMore
set_option linter.unusedVariables false
set_option linter.unusedSimpArgs false
def cntS (kind place a b : Int) : List S28 → Int
  | [] => 0
  | c :: l => (if c.f0 = kind ∧ c.f1 = place ∧ a ≤ c.f3 ∧ c.f3 < b then c.f2 else 0) + cntS kind place a b l
theorem cntS_app (kind place a b : Int) (c : S28) : ∀ l, cntS kind place a b (l ++ [c]) = cntS kind place a b l + (if c.f0 = kind ∧ c.f1 = place ∧ a ≤ c.f3 ∧ c.f3 < b then c.f2 else 0)
  | [] => by simp [cntS]
  | d :: l => by rw [List.cons_append, cntS, cntS_app kind place a b c l, cntS]; omega
theorem cntS_bd (kind place a b : Int) : ∀ l : List S28, (∀ c ∈ l, inRange c) → 0 ≤ cntS kind place a b l ∧ cntS kind place a b l ≤ 1000 * l.length
  | [], _ => by simp [cntS]
  | c :: l, h => by
    have ih := cntS_bd kind place a b l (fun x hx => h x (List.mem_cons_of_mem _ hx))
    have hc := h c (List.mem_cons_self ..)
    unfold inRange at hc
    simp only [cntS, List.length_cons]
    split <;> omega
theorem count_ev (l : List S28) (hl : l.length ≤ 100) (h : ∀ c ∈ l, inRange c) (kind place a b : Int) : Ev (fun k => census_Count.f k l kind place a b) (cntS kind place a b l) := by
  have main : ∀ (d : Nat) (i : Int), 0 ≤ i → i + d = l.length → Ev (fun k => census_Count.l0 k kind place (cntS kind place a b (l.take i.toNat)) l (l.length : Int) i a b) (cntS kind place a b l) := by
    intro d
    induction d with
    | zero =>
      intro i h0 hd
      rw [List.take_of_length_le (by omega)]
      exact Ev.step (f := fun _ => some (cntS kind place a b l)) (fun k => by rw [census_Count.l0, if_neg (by omega)]) (Ev.now _)
    | succ d ih =>
      intro i h0 hd
      have h1 : i < (l.length : Int) := by omega
      have ih' := ih (i + 1) (by omega) (by omega)
      rw [take28_at l i h0 h1, cntS_app] at ih'
      have hm : rd_T28 l i ∈ l := List.mem_of_mem_drop (by rw [rd28_at l i h0 h1]; exact List.mem_cons_self ..)
      have ic := h _ hm
      have bd := cntS_bd kind place a b (l.take i.toNat) (fun c hc => h c (List.mem_of_mem_take hc))
      rw [List.length_take] at bd
      generalize hU : cntS kind place a b (l.take i.toNat) = U at ih' bd ⊢
      generalize hcc : rd_T28 l i = c at ih' ic
      unfold inRange at ic
      refine Ev.step (fun k => by rw [census_Count.l0, if_pos h1, if_pos h0, if_pos h1, wrap_inc h0 h1 (by omega), hcc]) ?_
      have stay : ¬ (c.f0 = kind ∧ c.f1 = place ∧ a ≤ c.f3 ∧ c.f3 < b) → Ev (fun k => census_Count.l0 k kind place U l (l.length : Int) (i + 1) a b) (cntS kind place a b l) := fun hn => by rw [if_neg hn, Int.add_zero] at ih'; exact ih'
      by_cases c1 : c.f0 = kind
      case neg => exact Ev.neg c1 (stay (fun hh => c1 hh.1))
      refine Ev.pos c1 ?_
      by_cases c2 : c.f1 = place
      case neg => exact Ev.neg c2 (stay (fun hh => c2 hh.2.1))
      refine Ev.pos c2 ?_
      by_cases c3 : c.f3 ≥ a
      case neg => exact Ev.neg c3 (stay (fun hh => c3 hh.2.2.1))
      refine Ev.pos c3 ?_
      by_cases c4 : c.f3 < b
      case neg => exact Ev.neg c4 (stay (fun hh => c4 hh.2.2.2))
      refine Ev.pos c4 ?_
      rw [if_pos ⟨c1, c2, c3, c4⟩] at ih'
      rw [show wrap64 (U + c.f2) = U + c.f2 by unfold wrap64; omega]
      exact ih'
  exact main l.length 0 (by omega) (by omega)
end Go.Proofs.Ytgfiidgigenibaa.Q
