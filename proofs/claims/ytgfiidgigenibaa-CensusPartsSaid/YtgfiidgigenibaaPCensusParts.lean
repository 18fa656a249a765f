/- Plain laws and readings for the seat's proofs (this session's). -/
import Derived.RangeFuncNested
import Derived.Shelf.Abstract
import Derived.Deep.Slices
import Derived.ProofKit
import Derived.OpenShut
import Derived.ChangeOld
import Derived.Lib.SmallJoins
import Derived.WalkSpells
import Derived.Test.YtgfiidgigenibaaCN55
import Derived.Test.YtgfiidgigenibaaOpn
import Derived.Test.YtgfiidgigenibaaQ24
import Derived.Test.YtgfiidgigenibaaQ25
namespace Go.Proofs.Ytgfiidgigenibaa.Q
open Go.RowKit Go.Proofs.YtgfiidgigenibaaW.PrintWords Go.Proofs.YtgfiidgigenibaaW.PrintLast Go.Proofs.YtgfiidgigenibaaW.PrintMore
set_option linter.unusedVariables false
set_option linter.unusedSimpArgs false
def hasKey (s : List S28) (c : S28) : Bool := s.any fun d => decide (d.f0 = c.f0) && decide (d.f1 = c.f1)
/-- What the crossings whose key was seen change behind a, up to b. -/
def part (a b : Int) (s : List S28) : List S28 → Int
  | [] => 0
  | c :: l => (if hasKey s c = true ∧ a < c.f3 ∧ c.f3 ≤ b then chg c else 0) + part a b s l
theorem part_bd (a b : Int) (s : List S28) : ∀ l : List S28, (∀ c ∈ l, inRange c) → -(1000 * l.length : Int) ≤ part a b s l ∧ part a b s l ≤ 1000 * l.length
  | [], _ => by simp [part]
  | c :: l, h => by
    have ih := part_bd a b s l (fun x hx => h x (List.mem_cons_of_mem _ hx))
    have hc := chg_bd (h c (List.mem_cons_self ..))
    simp only [part, List.length_cons]
    split <;> omega
theorem part_nil (a b : Int) : ∀ l : List S28, part a b [] l = 0
  | [] => rfl
  | c :: l => by rw [part, if_neg (by simp [hasKey]), part_nil a b l]; omega
theorem part_all (a b : Int) (s : List S28) (hab : a ≤ b) : ∀ l : List S28, (∀ c ∈ l, hasKey s c = true) → sumTo a l + part a b s l = sumTo b l
  | [], _ => by simp [part, sumTo]
  | c :: l, h => by
    have ih := part_all a b s hab l (fun x hx => h x (List.mem_cons_of_mem _ hx))
    have hc := h c (List.mem_cons_self ..)
    rw [sumTo, sumTo, part]
    by_cases c1 : c.f3 ≤ a
    · rw [if_pos c1, if_neg (by omega), if_pos (by omega)]; omega
    · by_cases c2 : c.f3 ≤ b
      · rw [if_neg c1, if_pos ⟨hc, by omega, c2⟩, if_pos c2]; omega
      · rw [if_neg c1, if_neg (by omega), if_neg c2]; omega
theorem part_new (a b : Int) (s : List S28) (x : S28) (hx : hasKey s x = false) : ∀ l : List S28, (∀ c ∈ l, inRange c) → part a b (s ++ [x]) l = part a b s l + (if x.f0 = 1 then cntS x.f0 x.f1 (a + 1) (b + 1) l else - cntS x.f0 x.f1 (a + 1) (b + 1) l)
  | [], _ => by simp [part, cntS]
  | c :: l, h => by
    have ih := part_new a b s x hx l (fun y hy => h y (List.mem_cons_of_mem _ hy))
    have hc := h c (List.mem_cons_self ..)
    have hv := chg_val hc
    have hk : hasKey (s ++ [x]) c = (hasKey s c || (decide (x.f0 = c.f0) && decide (x.f1 = c.f1))) := by unfold hasKey; rw [List.any_append]; simp
    rw [part, part, cntS, ih, hk]
    by_cases c1 : x.f0 = c.f0 ∧ x.f1 = c.f1
    · have hs : hasKey s c = false := by
        rw [← hx]; unfold hasKey; rw [c1.1, c1.2]
      rw [hs, decide_eq_true c1.1, decide_eq_true c1.2, if_neg (show ¬ (false = true ∧ a < c.f3 ∧ c.f3 ≤ b) by simp)]
      simp only [Bool.false_or, Bool.and_self, true_and]
      by_cases c2 : a < c.f3 ∧ c.f3 ≤ b
      · have hv' : chg c = if x.f0 = 1 then c.f2 else -c.f2 := by rw [c1.1]; exact hv
        rw [if_pos c2, if_pos (show c.f0 = x.f0 ∧ c.f1 = x.f1 ∧ a + 1 ≤ c.f3 ∧ c.f3 < b + 1 from ⟨c1.1.symm, c1.2.symm, by omega, by omega⟩), hv']
        by_cases c3 : x.f0 = 1
        · simp only [if_pos c3]; omega
        · simp only [if_neg c3]; omega
      · rw [if_neg c2, if_neg (show ¬ (c.f0 = x.f0 ∧ c.f1 = x.f1 ∧ a + 1 ≤ c.f3 ∧ c.f3 < b + 1) from fun hh => c2 ⟨by omega, by omega⟩)]
        split <;> omega
    · have hd : (decide (x.f0 = c.f0) && decide (x.f1 = c.f1)) = false := by
        by_cases e : x.f0 = c.f0
        · have : ¬ x.f1 = c.f1 := fun e2 => c1 ⟨e, e2⟩
          simp [this]
        · simp [e]
      rw [hd, Bool.or_false, if_neg (show ¬ (c.f0 = x.f0 ∧ c.f1 = x.f1 ∧ a + 1 ≤ c.f3 ∧ c.f3 < b + 1) from fun hh => c1 ⟨hh.1.symm, hh.2.1.symm⟩)]
      split <;> split <;> omega
theorem parts_inner (l : List S28) (a1 a2 n : Int) (seen : List S28) (i : Int) (h0 : 0 ≤ i) (h1 : i < l.length) (hs : seen.length ≤ 100) (d : Nat) : ∀ (j : Int) (known : Bool), 0 ≤ j → j + d = seen.length →
    Ev (fun k => skiarealaw55_CensusParts.l1 k l a1 a2 n seen i (known || hasKey (seen.drop j.toNat) (rd_T28 l i)) (seen.length : Int)) true → Ev (fun k => skiarealaw55_CensusParts.l1 k l a1 a2 n seen i known j) true := by
  induction d with
  | zero =>
    intro j known hj hd hE
    rw [drop28_nil seen j (by omega), show hasKey [] (rd_T28 l i) = false from rfl, Bool.or_false, show (seen.length : Int) = j by omega] at hE
    exact hE
  | succ d ih =>
    intro j known hj hd hE
    have h2 : j < (seen.length : Int) := by omega
    rw [rd28_at seen j hj h2] at hE
    refine Ev.step (fun k => by rw [skiarealaw55_CensusParts.l1, if_pos h2, wrap_inc hj h2 (by omega)]) ?_
    have hk : hasKey (rd_T28 seen j :: seen.drop (j + 1).toNat) (rd_T28 l i) = ((decide ((rd_T28 seen j).f0 = (rd_T28 l i).f0) && decide ((rd_T28 seen j).f1 = (rd_T28 l i).f1)) || hasKey (seen.drop (j + 1).toNat) (rd_T28 l i)) := by unfold hasKey; rw [List.any_cons]
    rw [hk] at hE
    cases known with
    | true => exact Ev.pos rfl (ih (j + 1) true (by omega) (by omega) (by simpa using hE))
    | false =>
      refine Ev.neg (by simp) (Ev.pos hj (Ev.pos h0 (Ev.pos h1 ?_)))
      by_cases c : (rd_T28 seen j).f0 = (rd_T28 l i).f0
      · refine Ev.pos c (ih (j + 1) _ (by omega) (by omega) ?_)
        rw [decide_eq_true c, Bool.true_and, Bool.false_or] at hE
        rw [show ((rd_T28 seen j).f1 == (rd_T28 l i).f1) = decide ((rd_T28 seen j).f1 = (rd_T28 l i).f1) from rfl]
        exact hE
      · refine Ev.neg c (ih (j + 1) false (by omega) (by omega) ?_)
        rw [decide_eq_false c, Bool.false_and, Bool.false_or] at hE
        rw [Bool.false_or]
        exact hE
theorem CensusParts_pure (l0 : List S28) (a1 a2 : Int) (w0 : WCross l0) (w1 : W64 a1) (w2 : W64 a2) : ∃ k, skiarealaw55_CensusParts.f k l0 a1 a2 = some true := by
  refine Ev.rounds (g := fun k => skiarealaw55_CensusParts.f k l0 a1 a2) (r := true) ?_
  unfold skiarealaw55_CensusParts.f skiarealaw55_alive.f
  simp only [Option.bind_some, if_true]
  have skip : Ev (fun k => skiarealaw55_CensusParts.j0 k l0 a1 a2 true) true := Ev.step (f := fun _ => some true) (fun k => by rw [skiarealaw55_CensusParts.j0, if_pos rfl]) (Ev.now _)
  by_cases b1 : (l0.length : Int) > 100
  · exact Ev.pos b1 skip
  refine Ev.neg b1 ?_
  have hl : l0.length ≤ 100 := by omega
  refine Ev.bind (f := fun k t190 => (if t190 = 0 then (if a1 < 0 then (skiarealaw55_CensusParts.j0 k l0 a1 a2 true) else (if a2 < a1 then (skiarealaw55_CensusParts.j0 k l0 a1 a2 true) else (skiarealaw55_CensusParts.j0 k l0 a1 a2 (decide (a2 > 20000000))))) else (skiarealaw55_CensusParts.j0 k l0 a1 a2 true))) (right_ev l0 (by omega)) ?_
  by_cases b2 : rightF l0 = 0
  case neg => exact Ev.neg b2 skip
  refine Ev.pos b2 ?_
  have g := good_of_right hl b2
  by_cases b3 : a1 < 0
  · exact Ev.pos b3 skip
  refine Ev.neg b3 ?_
  by_cases b4 : a2 < a1
  · exact Ev.pos b4 skip
  refine Ev.neg b4 ?_
  by_cases b5 : a2 > 20000000
  · rw [decide_eq_true b5]; exact skip
  rw [decide_eq_false b5]
  refine Ev.step (fun k => by rw [skiarealaw55_CensusParts.j0, if_neg (by simp)]) ?_
  refine Ev.bind (f := fun k t191 => (skiarealaw55_CensusParts.l0 k l0 a1 a2 t191 (([] : List (S28))) 0)) (on_ev l0 a1 (by omega)) ?_
  rw [on_sum hl g.rng]
  have hw1 : wrap64 (a1 + 1) = a1 + 1 := by unfold wrap64; omega
  have hw2 : wrap64 (a2 + 1) = a2 + 1 := by unfold wrap64; omega
  have main : ∀ (d : Nat) (i : Int) (seen : List S28), 0 ≤ i → i + d = l0.length → (seen.length : Int) ≤ i → (∀ c ∈ l0.take i.toNat, hasKey seen c = true) →
      Ev (fun k => skiarealaw55_CensusParts.l0 k l0 a1 a2 (sumTo a1 l0 + part a1 a2 seen l0) seen i) true := by
    intro d
    induction d with
    | zero =>
      intro i seen h0 hd hs hk
      rw [List.take_of_length_le (by omega)] at hk
      refine Ev.step (fun k => by rw [skiarealaw55_CensusParts.l0, if_neg (by omega)]) ?_
      refine Ev.bind (f := fun _ t195 => (some ((sumTo a1 l0 + part a1 a2 seen l0) == t195))) (on_ev l0 a2 (by omega)) ?_
      rw [on_sum hl g.rng, part_all a1 a2 seen (by omega) l0 hk, beq_self_eq_true]
      exact Ev.now _
    | succ d ih =>
      intro i seen h0 hd hs hk
      have h1 : i < (l0.length : Int) := by omega
      have hm : rd_T28 l0 i ∈ l0 := List.mem_of_mem_drop (by rw [rd28_at l0 i h0 h1]; exact List.mem_cons_self ..)
      refine Ev.step (fun k => by rw [skiarealaw55_CensusParts.l0, if_pos h1]) ?_
      refine parts_inner l0 a1 a2 _ seen i h0 h1 (by omega) seen.length 0 false (by omega) (by omega) ?_
      simp only [Int.toNat_zero, List.drop_zero, Bool.false_or]
      refine Ev.step (fun k => by rw [skiarealaw55_CensusParts.l1, if_neg (by omega), wrap_inc h0 h1 (by omega), hw1, hw2]) ?_
      cases hkey : hasKey seen (rd_T28 l0 i) with
      | true =>
        refine Ev.pos rfl (ih (i + 1) seen (by omega) (by omega) (by omega) (fun c hc => ?_))
        rw [take28_at l0 i h0 h1] at hc
        rcases List.mem_append.1 hc with hc | hc
        · exact hk c hc
        · obtain rfl := List.mem_singleton.1 hc; exact hkey
      | false =>
        refine Ev.neg (by simp) (Ev.pos h0 (Ev.pos h1 (Ev.pos (by omega) ?_)))
        have hk' : ∀ c ∈ l0.take (i + 1).toNat, hasKey (seen ++ [rd_T28 l0 i]) c = true := fun c hc => by
          rw [take28_at l0 i h0 h1] at hc
          unfold hasKey
          rw [List.any_append]
          rcases List.mem_append.1 hc with hc | hc
          · have := hk c hc; unfold hasKey at this; rw [this]; rfl
          · obtain rfl := List.mem_singleton.1 hc; simp
        have ih' := ih (i + 1) (seen ++ [rd_T28 l0 i]) (by omega) (by omega) (by simp; omega) hk'
        rw [part_new a1 a2 seen (rd_T28 l0 i) hkey l0 g.rng] at ih'
        have pb := part_bd a1 a2 seen l0 g.rng
        have sb := sumTo_bd a1 l0 g.rng
        have cb := cntS_bd (rd_T28 l0 i).f0 (rd_T28 l0 i).f1 (a1 + 1) (a2 + 1) l0 g.rng
        refine Ev.congr (fun k => by rw [Option.bind_some]) ?_
        refine Ev.bind (f := fun k t206 => (if ((rd_T28 l0 i).f0) = 1 then (skiarealaw55_CensusParts.l0 k l0 a1 a2 (wrap64 (sumTo a1 l0 + part a1 a2 seen l0 + t206)) (seen ++ [rd_T28 l0 i]) (i + 1)) else (skiarealaw55_CensusParts.l0 k l0 a1 a2 (wrap64 (sumTo a1 l0 + part a1 a2 seen l0 - t206)) (seen ++ [rd_T28 l0 i]) (i + 1)))) (count_ev l0 hl g.rng (rd_T28 l0 i).f0 (rd_T28 l0 i).f1 (a1 + 1) (a2 + 1)) ?_
        by_cases c1 : (rd_T28 l0 i).f0 = 1
        · refine Ev.pos c1 ?_
          rw [if_pos c1, ← Int.add_assoc] at ih'
          rw [show ∀ z : Int, 0 ≤ z → z ≤ 1000 * l0.length → wrap64 (sumTo a1 l0 + part a1 a2 seen l0 + z) = sumTo a1 l0 + part a1 a2 seen l0 + z from fun z z1 z2 => by unfold wrap64; omega]
          · exact ih'
          · exact cb.1
          · exact cb.2
        · refine Ev.neg c1 ?_
          rw [if_neg c1, ← Int.add_assoc, ← Int.sub_eq_add_neg] at ih'
          rw [show ∀ z : Int, 0 ≤ z → z ≤ 1000 * l0.length → wrap64 (sumTo a1 l0 + part a1 a2 seen l0 - z) = sumTo a1 l0 + part a1 a2 seen l0 - z from fun z z1 z2 => by unfold wrap64; omega]
          · exact ih'
          · exact cb.1
          · exact cb.2
  have := main l0.length 0 [] (by omega) (by omega) (by simp) (by simp)
  rw [part_nil, Int.add_zero] at this
  exact this
end Go.Proofs.Ytgfiidgigenibaa.Q
