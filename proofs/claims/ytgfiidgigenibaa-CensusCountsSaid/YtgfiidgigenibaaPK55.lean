/- Plain laws and readings for the seat's proofs (this session's). -/
import Derived.RangeFuncNested
import Derived.Shelf.Abstract
import Derived.Deep.Slices
import Derived.ProofKit
import Derived.OpenShut
import Derived.ChangeOld
import Derived.Lib.SmallJoins
import Derived.WalkSpells
import Derived.Test.YtgfiidgigenibaaB55
import Derived.Test.YtgfiidgigenibaaQ21
namespace Go.Proofs.Ytgfiidgigenibaa.Q
open Go.RowKit Go.Proofs.YtgfiidgigenibaaW.PrintWords Go.Proofs.YtgfiidgigenibaaW.PrintLast Go.Proofs.YtgfiidgigenibaaW.PrintMore
set_option linter.unusedVariables false
set_option linter.unusedSimpArgs false
def peakF : Int → Int → List S28 → Int
  | _, m, [] => m
  | n, m, [c] => mx m (wrap64 (n + chg c))
  | n, m, c :: d :: l => peakF (wrap64 (n + chg c)) (if d.f3 = c.f3 then m else mx m (wrap64 (n + chg c))) (d :: l)
theorem peak_ev (l : List S28) (hl : l.length ≤ 1000000) : Ev (fun k => census_Peak.f k l) (peakF 0 0 l) := by
  have main : ∀ (d : Nat) (i n m : Int), 0 ≤ i → i + d = l.length → Ev (fun k => census_Peak.l0 k l n m l (l.length : Int) i) (peakF n m (l.drop i.toNat)) := by
    intro d
    induction d with
    | zero =>
      intro i n m h0 hd
      rw [drop28_nil l i (by omega), peakF]
      exact Ev.step (f := fun _ => some m) (fun k => by rw [census_Peak.l0, if_neg (by omega)]) (Ev.now _)
    | succ d ih =>
      intro i n m h0 hd
      have h1 : i < (l.length : Int) := by omega
      have hw1 : wrap64 ((l.length : Int) - 1) = l.length - 1 := by unfold wrap64; omega
      refine Ev.step (fun k => by rw [census_Peak.l0, if_pos h1, if_pos h0, if_pos h1, change_eq, Option.bind_some, wrap_inc h0 h1 (by omega), hw1]) ?_
      rw [rd28_at l i h0 h1]
      by_cases c : i = (l.length : Int) - 1
      · refine Ev.pos c ?_
        have e : l.drop (i + 1).toNat = [] := List.drop_eq_nil_of_le (by omega)
        have := ih (i + 1) (wrap64 (n + chg (rd_T28 l i))) (mx m (wrap64 (n + chg (rd_T28 l i)))) (by omega) (by omega)
        rw [e] at this ⊢
        exact this
      · refine Ev.neg c (Ev.pos (by omega) (Ev.pos (by omega) ?_))
        have e := rd28_at l (i + 1) (by omega) (by omega)
        have ih1 := fun m' => ih (i + 1) (wrap64 (n + chg (rd_T28 l i))) m' (by omega) (by omega)
        rw [e] at ih1 ⊢
        rw [peakF]
        by_cases c2 : (rd_T28 l (i + 1)).f3 = (rd_T28 l i).f3
        · rw [if_pos c2]; exact Ev.pos c2 (ih1 _)
        · rw [if_neg c2]; exact Ev.neg c2 (ih1 _)
  exact main l.length 0 0 0 (by omega) (by omega)
theorem mx_le1 (a b : Int) : a ≤ mx a b := by unfold mx; split <;> omega
theorem mx_le2 (a b : Int) : b ≤ mx a b := by unfold mx; split <;> omega
theorem peakF_m : ∀ (l : List S28) (n m : Int), m ≤ peakF n m l
  | [], n, m => by rw [peakF]; omega
  | [c], n, m => by rw [peakF]; exact mx_le1 _ _
  | c :: d :: l, n, m => by
    rw [peakF]
    refine Int.le_trans ?_ (peakF_m (d :: l) _ _)
    split
    · exact Int.le_refl _
    · exact mx_le1 _ _
theorem sumTo_none (t : Int) : ∀ m : List S28, (∀ x ∈ m, t < x.f3) → sumTo t m = 0
  | [], _ => rfl
  | y :: m, hm => by rw [sumTo, if_neg (by have := hm y (List.mem_cons_self ..); omega), sumTo_none t m (fun x hx => hm x (List.mem_cons_of_mem _ hx))]; omega
theorem peakF_sum (t : Int) : ∀ (l : List S28) (n m : Int), (∀ c ∈ l, inRange c) → l.Pairwise (fun a b => a.f3 ≤ b.f3) → -9000000000000000000 ≤ n - 1000 * l.length → n + 1000 * l.length ≤ 9000000000000000000 → (∃ c ∈ l, c.f3 ≤ t) → n + sumTo t l ≤ peakF n m l
  | [], n, m, _, _, _, _, h => by obtain ⟨c, hc, _⟩ := h; simp at hc
  | [c], n, m, hr, _, h1, h2, h => by
    obtain ⟨x, hx, hxt⟩ := h
    obtain rfl := List.mem_singleton.1 hx
    have hc := chg_bd (hr x (List.mem_cons_self ..))
    rw [peakF, sumTo, if_pos hxt, sumTo]
    have := mx_le2 m (wrap64 (n + chg x))
    simp only [List.length_singleton] at h1 h2
    rw [show wrap64 (n + chg x) = n + chg x by unfold wrap64; omega] at this ⊢
    omega
  | c :: d :: l, n, m, hr, hs, h1, h2, h => by
    have hc := chg_bd (hr c (List.mem_cons_self ..))
    have hr' : ∀ x ∈ d :: l, inRange x := fun x hx => hr x (List.mem_cons_of_mem _ hx)
    rw [List.pairwise_cons] at hs
    have hw : wrap64 (n + chg c) = n + chg c := by simp only [List.length_cons] at h1 h2; unfold wrap64; omega
    have hct : c.f3 ≤ t := by
      obtain ⟨x, hx, hxt⟩ := h
      rcases List.mem_cons.1 hx with rfl | hx
      · exact hxt
      · exact Int.le_trans (hs.1 x hx) hxt
    rw [peakF, sumTo, if_pos hct, hw]
    by_cases c2 : d.f3 ≤ t
    · have := peakF_sum t (d :: l) (n + chg c) (if d.f3 = c.f3 then m else mx m (n + chg c)) hr' hs.2 (by simp only [List.length_cons] at h1 ⊢; omega) (by simp only [List.length_cons] at h2 ⊢; omega) ⟨d, List.mem_cons_self .., c2⟩
      omega
    · have hz : sumTo t (d :: l) = 0 := sumTo_none t (d :: l) (fun x hx => by
        rcases List.mem_cons.1 hx with rfl | hx
        · omega
        · have := (List.pairwise_cons.1 hs.2).1 x hx; omega)
      rw [hz, if_neg (by omega)]
      have h3 := peakF_m (d :: l) (n + chg c) (mx m (n + chg c))
      have h4 := mx_le2 m (n + chg c)
      omega
theorem peak_sum {l : List S28} (hl : l.length ≤ 100) (g : Good (-1) 0 l) (t : Int) : sumTo t l ≤ peakF 0 0 l := by
  by_cases h : ∃ c ∈ l, c.f3 ≤ t
  · have := peakF_sum t l 0 0 g.rng g.srt (by omega) (by omega) h; omega
  · rw [sumTo_none t l (fun x hx => by
      by_cases hh : x.f3 ≤ t
      · exact absurd ⟨x, hx, hh⟩ h
      · omega)]
    exact peakF_m l 0 0
end Go.Proofs.Ytgfiidgigenibaa.Q
