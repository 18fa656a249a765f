/- Plain laws and readings for the seat's proofs (this session's). -/
import Derived.RangeFuncNested
import Derived.Shelf.Abstract
import Derived.Deep.Slices
import Derived.ProofKit
import Derived.OpenShut
import Derived.ChangeOld
import Derived.Lib.SmallJoins
import Derived.WalkSpells
import Derived.Test.YtgfiidgigenibaaCN55
import Derived.Test.YtgfiidgigenibaaPK55
import Derived.Test.YtgfiidgigenibaaRR55
import Derived.Test.YtgfiidgigenibaaOpn
import Derived.Test.YtgfiidgigenibaaA6
import Derived.Test.YtgfiidgigenibaaQ24
import Derived.Test.YtgfiidgigenibaaQ50
import Derived.Test.YtgfiidgigenibaaQ51
import Derived.Test.YtgfiidgigenibaaQ52
namespace Go.Proofs.Ytgfiidgigenibaa.Q
open Go.RowKit Go.Proofs.YtgfiidgigenibaaW.PrintWords Go.Proofs.YtgfiidgigenibaaW.PrintLast Go.Proofs.YtgfiidgigenibaaW.PrintMore
set_option linter.unusedVariables false
set_option linter.unusedSimpArgs false
theorem ron_ev (l : List S28) (t : Int) (hl : l.length ≤ 9223372036854775807) : Ev (fun k => skiarearef55_On.f k l t) (onF t 0 l) := by
  have : ∀ (d : Nat) (i n : Int), 0 ≤ i → i + d = l.length → Ev (fun k => skiarearef55_On.l0 k l t n i) (onF t n (l.drop i.toNat)) := by
    intro d
    induction d with
    | zero =>
      intro i n h0 hd
      rw [drop28_nil l i (by omega)]
      exact Ev.step (f := fun _ => some n) (fun k => by rw [skiarearef55_On.l0, if_neg (by omega)]) (Ev.now _)
    | succ d ih =>
      intro i n h0 hd
      have h1 : i < (l.length : Int) := by omega
      rw [rd28_at l i h0 h1, onF]
      refine Ev.step (fun k => by rw [skiarearef55_On.l0, if_pos h1, if_pos h0, rchange_eq, Option.bind_some, wrap_inc h0 h1 hl]) ?_
      by_cases c : (rd_T28 l i).f3 ≤ t
      · rw [if_pos c]; exact Ev.pos c (ih _ _ (by omega) (by omega))
      · rw [if_neg c]; exact Ev.neg c (ih _ _ (by omega) (by omega))
  exact this l.length 0 0 (by omega) (by omega)
theorem rcount_ev (l : List S28) (hl : l.length ≤ 100) (h : ∀ c ∈ l, inRange c) (kind place a b : Int) : Ev (fun k => skiarearef55_Count.f k l kind place a b) (cntS kind place a b l) := by
  have main : ∀ (d : Nat) (i : Int), 0 ≤ i → i + d = l.length → Ev (fun k => skiarearef55_Count.l0 k l kind place (cntS kind place a b (l.take i.toNat)) i a b) (cntS kind place a b l) := by
    intro d
    induction d with
    | zero =>
      intro i h0 hd
      rw [List.take_of_length_le (by omega)]
      exact Ev.step (f := fun _ => some (cntS kind place a b l)) (fun k => by rw [skiarearef55_Count.l0, if_neg (by omega)]) (Ev.now _)
    | succ d ih =>
      intro i h0 hd
      have h1 : i < (l.length : Int) := by omega
      have ih' := ih (i + 1) (by omega) (by omega)
      rw [take28_at l i h0 h1, cntS_app] at ih'
      have hm : rd_T28 l i ∈ l := List.mem_of_mem_drop (by rw [rd28_at l i h0 h1]; exact List.mem_cons_self ..)
      have ic := h _ hm
      have bd := cntS_bd kind place a b (l.take i.toNat) (fun c hc => h c (List.mem_of_mem_take hc))
      rw [List.length_take] at bd
      generalize hU : cntS kind place a b (l.take i.toNat) = U at ih' bd ⊢
      generalize hcc : rd_T28 l i = c at ih' ic
      unfold inRange at ic
      refine Ev.step (fun k => by rw [skiarearef55_Count.l0, if_pos h1, if_pos h0, wrap_inc h0 h1 (by omega), hcc]) ?_
      have stay : ¬ (c.f0 = kind ∧ c.f1 = place ∧ a ≤ c.f3 ∧ c.f3 < b) → Ev (fun k => skiarearef55_Count.l0 k l kind place U (i + 1) a b) (cntS kind place a b l) := fun hn => by rw [if_neg hn, Int.add_zero] at ih'; exact ih'
      by_cases c1 : c.f0 = kind
      case neg => exact Ev.neg c1 (stay (fun hh => c1 hh.1))
      refine Ev.pos c1 ?_
      by_cases c2 : c.f1 = place
      case neg => exact Ev.neg c2 (stay (fun hh => c2 hh.2.1))
      refine Ev.pos c2 ?_
      by_cases c3 : a ≤ c.f3
      case neg => exact Ev.neg c3 (stay (fun hh => c3 hh.2.2.1))
      refine Ev.pos c3 ?_
      by_cases c4 : c.f3 < b
      case neg => exact Ev.neg c4 (stay (fun hh => c4 hh.2.2.2))
      refine Ev.pos c4 ?_
      rw [if_pos ⟨c1, c2, c3, c4⟩] at ih'
      rw [show wrap64 (U + c.f2) = U + c.f2 by unfold wrap64; omega]
      exact ih'
  exact main l.length 0 (by omega) (by omega)
def rpk (l : List S28) : Int → List S28 → Int
  | m, [] => m
  | m, c :: r => rpk l (if sumTo c.f3 l > m then sumTo c.f3 l else m) r
theorem rpeak_ev (l : List S28) (hl : l.length ≤ 100) (h : ∀ c ∈ l, inRange c) : Ev (fun k => skiarearef55_Peak.f k l) (rpk l 0 l) := by
  have main : ∀ (d : Nat) (i m : Int), 0 ≤ i → i + d = l.length → Ev (fun k => skiarearef55_Peak.l0 k l m i) (rpk l m (l.drop i.toNat)) := by
    intro d
    induction d with
    | zero =>
      intro i m h0 hd
      rw [drop28_nil l i (by omega), rpk]
      exact Ev.step (f := fun _ => some m) (fun k => by rw [skiarearef55_Peak.l0, if_neg (by omega)]) (Ev.now _)
    | succ d ih =>
      intro i m h0 hd
      have h1 : i < (l.length : Int) := by omega
      rw [rd28_at l i h0 h1, rpk]
      refine Ev.step (fun k => by rw [skiarearef55_Peak.l0, if_pos h1, if_pos h0, wrap_inc h0 h1 (by omega)]) ?_
      refine Ev.bind (f := fun k t386 => (if t386 > m then (skiarearef55_Peak.l0 k l t386 (i + 1)) else (skiarearef55_Peak.l0 k l m (i + 1)))) (ron_ev l (rd_T28 l i).f3 (by omega)) ?_
      rw [on_sum hl h]
      by_cases c : sumTo (rd_T28 l i).f3 l > m
      · rw [if_pos c]; exact Ev.pos c (ih _ _ (by omega) (by omega))
      · rw [if_neg c]; exact Ev.neg c (ih _ _ (by omega) (by omega))
  exact main l.length 0 0 (by omega) (by omega)
theorem rpk_ge (l : List S28) : ∀ (r : List S28) (m : Int), m ≤ rpk l m r ∧ ∀ c ∈ r, sumTo c.f3 l ≤ rpk l m r
  | [], m => ⟨by rw [rpk]; omega, fun c h => by simp at h⟩
  | c :: r, m => by
    have ih := rpk_ge l r (if sumTo c.f3 l > m then sumTo c.f3 l else m)
    rw [rpk]
    refine ⟨Int.le_trans ?_ ih.1, fun x hx => ?_⟩
    · split <;> omega
    · rcases List.mem_cons.1 hx with rfl | hx
      · refine Int.le_trans ?_ ih.1; split <;> omega
      · exact ih.2 x hx
theorem rpk_le (l : List S28) (M : Int) : ∀ (r : List S28) (m : Int), m ≤ M → (∀ c ∈ r, sumTo c.f3 l ≤ M) → rpk l m r ≤ M
  | [], m, h, _ => by rw [rpk]; exact h
  | c :: r, m, h, hr => by
    rw [rpk]
    refine rpk_le l M r _ ?_ (fun x hx => hr x (List.mem_cons_of_mem _ hx))
    have := hr c (List.mem_cons_self ..)
    split <;> omega
theorem mx_le (a b M : Int) (ha : a ≤ M) (hb : b ≤ M) : mx a b ≤ M := by unfold mx; split <;> omega
theorem peakF_le (M : Int) : ∀ (l : List S28) (n m : Int), (∀ c ∈ l, inRange c) → l.Pairwise (fun a b => a.f3 ≤ b.f3) → -9000000000000000000 ≤ n - 1000 * l.length → n + 1000 * l.length ≤ 9000000000000000000 → m ≤ M → (∀ c ∈ l, n + sumTo c.f3 l ≤ M) → peakF n m l ≤ M
  | [], n, m, _, _, _, _, h, _ => by rw [peakF]; exact h
  | [c], n, m, hr, _, h1, h2, hm, h => by
    have hc := chg_bd (hr c (List.mem_cons_self ..))
    have := h c (List.mem_cons_self ..)
    simp only [List.length_singleton] at h1 h2
    rw [sumTo, if_pos (Int.le_refl _), sumTo] at this
    rw [peakF, show wrap64 (n + chg c) = n + chg c by unfold wrap64; omega]
    exact mx_le _ _ _ hm (by omega)
  | c :: d :: l, n, m, hr, hs, h1, h2, hm, h => by
    have hc := chg_bd (hr c (List.mem_cons_self ..))
    have hr' : ∀ x ∈ d :: l, inRange x := fun x hx => hr x (List.mem_cons_of_mem _ hx)
    rw [List.pairwise_cons] at hs
    have hw : wrap64 (n + chg c) = n + chg c := by simp only [List.length_cons] at h1 h2; unfold wrap64; omega
    rw [peakF, hw]
    refine peakF_le M (d :: l) (n + chg c) _ hr' hs.2 (by simp only [List.length_cons] at h1 ⊢; omega) (by simp only [List.length_cons] at h2 ⊢; omega) ?_ (fun x hx => ?_)
    · by_cases e : d.f3 = c.f3
      · rw [if_pos e]; exact hm
      · rw [if_neg e]
        have hcd := hs.1 d (List.mem_cons_self ..)
        have hz : sumTo c.f3 (d :: l) = 0 := sumTo_none c.f3 (d :: l) (fun x hx => by
          rcases List.mem_cons.1 hx with rfl | hx
          · omega
          · have := (List.pairwise_cons.1 hs.2).1 x hx; omega)
        have := h c (List.mem_cons_self ..)
        rw [sumTo, if_pos (Int.le_refl _), hz] at this
        exact mx_le _ _ _ hm (by omega)
    · have := h x (List.mem_cons_of_mem _ hx)
      rw [sumTo, if_pos (hs.1 x hx)] at this
      omega
theorem peak_eq {l : List S28} (hl : l.length ≤ 100) (g : Good (-1) 0 l) : peakF 0 0 l = rpk l 0 l := by
  refine Int.le_antisymm ?_ ?_
  · have h := rpk_ge l l 0
    exact peakF_le _ l 0 0 g.rng g.srt (by omega) (by omega) h.1 (fun c hc => by have := h.2 c hc; omega)
  · exact rpk_le l _ l 0 (peakF_m l 0 0) (fun c hc => peak_sum hl g c.f3)
theorem CensusCounts_pure (l : List S28) (x0 x1 x2 s0 s1 : Int) (w0 : WCross l) (w1 : W64 x0) (w2 : W64 x1) (w3 : W64 x2) (w4 : W64 s0) (w5 : W64 s1) : ∃ k, skiarealaw55_CensusCounts.f k l x0 x1 x2 s0 s1 = some true := by
  refine Ev.rounds (g := fun k => skiarealaw55_CensusCounts.f k l x0 x1 x2 s0 s1) (r := true) ?_
  unfold skiarealaw55_CensusCounts.f skiarealaw55_alive.f
  simp only [Option.bind_some, if_true]
  by_cases b1 : (l.length : Int) > 100
  · exact Ev.pos b1 (Ev.now _)
  refine Ev.neg b1 ?_
  have hl : l.length ≤ 100 := by omega
  refine Ev.bind (f := fun k e => if e ≠ 0 then some true else (census_On.f k l x0).bind fun a => (skiarearef55_On.f k l x0).bind fun a' => (census_Peak.f k l).bind fun b => (skiarearef55_Peak.f k l).bind fun b' => (census_Count.f k l x1 x2 s0 s1).bind fun c => (skiarearef55_Count.f k l x1 x2 s0 s1).bind fun c' => some (decide (a = a' ∧ b = b' ∧ c = c'))) (rright_ev l (by omega)) ?_
  by_cases b2 : rightF l = 0
  case neg => exact Ev.pos b2 (Ev.now _)
  refine Ev.neg (by simpa using b2) ?_
  have g := good_of_right hl b2
  refine Ev.bind (f := fun k a => (skiarearef55_On.f k l x0).bind fun a' => (census_Peak.f k l).bind fun b => (skiarearef55_Peak.f k l).bind fun b' => (census_Count.f k l x1 x2 s0 s1).bind fun c => (skiarearef55_Count.f k l x1 x2 s0 s1).bind fun c' => some (decide (a = a' ∧ b = b' ∧ c = c'))) (on_ev l x0 (by omega)) ?_
  refine Ev.bind (f := fun k a' => (census_Peak.f k l).bind fun b => (skiarearef55_Peak.f k l).bind fun b' => (census_Count.f k l x1 x2 s0 s1).bind fun c => (skiarearef55_Count.f k l x1 x2 s0 s1).bind fun c' => some (decide (onF x0 0 l = a' ∧ b = b' ∧ c = c'))) (ron_ev l x0 (by omega)) ?_
  refine Ev.bind (f := fun k b => (skiarearef55_Peak.f k l).bind fun b' => (census_Count.f k l x1 x2 s0 s1).bind fun c => (skiarearef55_Count.f k l x1 x2 s0 s1).bind fun c' => some (decide (onF x0 0 l = onF x0 0 l ∧ b = b' ∧ c = c'))) (peak_ev l (by omega)) ?_
  refine Ev.bind (f := fun k b' => (census_Count.f k l x1 x2 s0 s1).bind fun c => (skiarearef55_Count.f k l x1 x2 s0 s1).bind fun c' => some (decide (onF x0 0 l = onF x0 0 l ∧ peakF 0 0 l = b' ∧ c = c'))) (rpeak_ev l hl g.rng) ?_
  refine Ev.bind (f := fun k c => (skiarearef55_Count.f k l x1 x2 s0 s1).bind fun c' => some (decide (onF x0 0 l = onF x0 0 l ∧ peakF 0 0 l = rpk l 0 l ∧ c = c'))) (count_ev l hl g.rng x1 x2 s0 s1) ?_
  refine Ev.bind (f := fun _ c' => some (decide (onF x0 0 l = onF x0 0 l ∧ peakF 0 0 l = rpk l 0 l ∧ cntS x1 x2 s0 s1 l = c'))) (rcount_ev l hl g.rng x1 x2 s0 s1) ?_
  rw [decide_eq_true ⟨rfl, peak_eq hl g, rfl⟩]
  exact Ev.now _
end Go.Proofs.Ytgfiidgigenibaa.Q
