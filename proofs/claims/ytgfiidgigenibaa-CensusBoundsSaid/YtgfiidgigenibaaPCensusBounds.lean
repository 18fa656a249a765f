/- Plain laws and readings for the seat's proofs (this session's). -/
import Derived.RangeFuncNested
import Derived.Shelf.Abstract
import Derived.Deep.Slices
import Derived.ProofKit
import Derived.OpenShut
import Derived.ChangeOld
import Derived.Lib.SmallJoins
import Derived.WalkSpells
import Derived.Test.YtgfiidgigenibaaPK55
import Derived.Test.YtgfiidgigenibaaOpn
import Derived.Test.YtgfiidgigenibaaQ24
import Derived.Test.YtgfiidgigenibaaQ64
namespace Go.Proofs.Ytgfiidgigenibaa.Q
open Go.RowKit Go.Proofs.YtgfiidgigenibaaW.PrintWords Go.Proofs.YtgfiidgigenibaaW.PrintLast Go.Proofs.YtgfiidgigenibaaW.PrintMore
set_option linter.unusedVariables false
set_option linter.unusedSimpArgs false
def upTo (t : Int) : List S28 → Int
  | [] => 0
  | c :: l => (if c.f3 ≤ t ∧ c.f0 = 1 then c.f2 else 0) + upTo t l
def goneTo (t : Int) : List S28 → Int
  | [] => 0
  | c :: l => (if c.f3 ≤ t ∧ ¬ c.f0 = 1 then c.f2 else 0) + goneTo t l
theorem upTo_app (t : Int) (c : S28) : ∀ l, upTo t (l ++ [c]) = upTo t l + (if c.f3 ≤ t ∧ c.f0 = 1 then c.f2 else 0)
  | [] => by simp [upTo]
  | d :: l => by rw [List.cons_append, upTo, upTo_app t c l, upTo]; omega
theorem goneTo_app (t : Int) (c : S28) : ∀ l, goneTo t (l ++ [c]) = goneTo t l + (if c.f3 ≤ t ∧ ¬ c.f0 = 1 then c.f2 else 0)
  | [] => by simp [goneTo]
  | d :: l => by rw [List.cons_append, goneTo, goneTo_app t c l, goneTo]; omega
theorem upgone_bd (t : Int) : ∀ l : List S28, (∀ c ∈ l, inRange c) → 0 ≤ upTo t l ∧ upTo t l ≤ 1000 * l.length ∧ 0 ≤ goneTo t l ∧ goneTo t l ≤ 1000 * l.length ∧ sumTo t l = upTo t l - goneTo t l
  | [], _ => by simp [upTo, goneTo, sumTo]
  | c :: l, h => by
    have ih := upgone_bd t l (fun x hx => h x (List.mem_cons_of_mem _ hx))
    have hc := h c (List.mem_cons_self ..)
    have hv := chg_val hc
    unfold inRange at hc
    simp only [upTo, goneTo, sumTo, List.length_cons]
    by_cases c1 : c.f3 ≤ t
    · by_cases c2 : c.f0 = 1
      · rw [if_pos c2] at hv
        rw [if_pos ⟨c1, c2⟩, if_neg (by omega), if_pos c1]; omega
      · rw [if_neg c2] at hv
        rw [if_neg (by omega), if_pos ⟨c1, c2⟩, if_pos c1]; omega
    · rw [if_neg (by omega), if_neg (by omega), if_neg c1]; omega
theorem sumTo_pred (t : Int) : ∀ l : List S28, (∀ c ∈ l, c.f3 ≠ t) → sumTo (t - 1) l = sumTo t l
  | [], _ => rfl
  | c :: l, h => by
    have hc := h c (List.mem_cons_self ..)
    rw [sumTo, sumTo, sumTo_pred t l (fun x hx => h x (List.mem_cons_of_mem _ hx))]
    by_cases c1 : c.f3 ≤ t
    · rw [if_pos c1, if_pos (by omega)]
    · rw [if_neg c1, if_neg (by omega)]
theorem CensusBounds_pure (l0 : List S28) (a1 : Int) (w0 : WCross l0) (w1 : W64 a1) : ∃ k, skiarealaw55_CensusBounds.f k l0 a1 = some true := by
  refine Ev.rounds (g := fun k => skiarealaw55_CensusBounds.f k l0 a1) (r := true) ?_
  unfold skiarealaw55_CensusBounds.f skiarealaw55_alive.f
  simp only [Option.bind_some, if_true]
  have skip : Ev (fun k => skiarealaw55_CensusBounds.j0 k l0 a1 true) true := Ev.step (f := fun _ => some true) (fun k => by rw [skiarealaw55_CensusBounds.j0, if_pos rfl]) (Ev.now _)
  by_cases b1 : (l0.length : Int) > 100
  · exact Ev.pos b1 skip
  refine Ev.neg b1 ?_
  have hl : l0.length ≤ 100 := by omega
  refine Ev.bind (f := fun k t480 => (skiarealaw55_CensusBounds.j0 k l0 a1 (t480 != 0))) (right_ev l0 (by omega)) ?_
  by_cases b2 : rightF l0 = 0
  case neg => (rw [show (rightF l0 != 0) = true by simpa using b2]; exact skip)
  rw [b2, show ((0 : Int) != 0) = false from rfl]
  have g := good_of_right hl b2
  have ug := upgone_bd a1 l0 g.rng
  have hnn : 0 ≤ sumTo a1 l0 := by
    obtain ⟨j, hj, hs, _⟩ := sumTo_prefix a1 l0 g.srt
    have := g.pos j hj
    omega
  refine Ev.step (fun k => by rw [skiarealaw55_CensusBounds.j0, if_neg (by simp)]) ?_
  have main : ∀ (d : Nat) (i : Int), 0 ≤ i → i + d = l0.length → Ev (fun k => skiarealaw55_CensusBounds.l0 k l0 a1 (upTo a1 (l0.take i.toNat)) (goneTo a1 (l0.take i.toNat)) ((l0.take i.toNat).any fun c => c.f3 == a1) i) true := by
    intro d
    induction d with
    | zero =>
      intro i h0 hd
      rw [List.take_of_length_le (by omega)]
      refine Ev.step (fun k => by rw [skiarealaw55_CensusBounds.l0, if_neg (by omega)]) ?_
      refine Ev.bind (f := fun k t489 => (if t489 < 0 then (some false) else (if t489 = (wrap64 (upTo a1 l0 - goneTo a1 l0)) then (if t489 > upTo a1 l0 then (some false) else ((census_Peak.f k l0).bind fun t490 => (if t489 > t490 then (some false) else (if (l0.any fun c => c.f3 == a1) = true then (some true) else (if a1 < 1 then (some true) else ((census_On.f k l0 (wrap64 (a1 - 1))).bind fun t491 => (some (t491 == t489)))))))) else (some false)))) (on_ev l0 a1 (by omega)) ?_
      rw [on_sum hl g.rng]
      have hp := peak_sum hl g a1
      refine Ev.neg (by omega) (Ev.pos (by unfold wrap64; omega) (Ev.neg (by omega) ?_))
      refine Ev.bind (f := fun k t490 => (if sumTo a1 l0 > t490 then (some false) else (if (l0.any fun c => c.f3 == a1) = true then (some true) else (if a1 < 1 then (some true) else ((census_On.f k l0 (wrap64 (a1 - 1))).bind fun t491 => (some (t491 == sumTo a1 l0))))))) (peak_ev l0 (by omega)) ?_
      refine Ev.neg (by omega) ?_
      by_cases c1 : (l0.any fun c => c.f3 == a1) = true
      · exact Ev.pos c1 (Ev.now _)
      refine Ev.neg c1 ?_
      by_cases c2 : a1 < 1
      · exact Ev.pos c2 (Ev.now _)
      refine Ev.neg c2 ?_
      have hi := w1.hi
      rw [show wrap64 (a1 - 1) = a1 - 1 by unfold wrap64; omega]
      refine Ev.bind (f := fun _ t491 => (some (t491 == sumTo a1 l0))) (on_ev l0 (a1 - 1) (by omega)) ?_
      rw [on_sum hl g.rng, sumTo_pred a1 l0 (fun c hc he => c1 (List.any_eq_true.2 ⟨c, hc, by simpa using he⟩)), beq_self_eq_true]
      exact Ev.now _
    | succ d ih =>
      intro i h0 hd
      have h1 : i < (l0.length : Int) := by omega
      have ih' := ih (i + 1) (by omega) (by omega)
      rw [take28_at l0 i h0 h1, upTo_app, goneTo_app, List.any_append] at ih'
      have hm : rd_T28 l0 i ∈ l0 := List.mem_of_mem_drop (by rw [rd28_at l0 i h0 h1]; exact List.mem_cons_self ..)
      have hc := g.rng _ hm
      have ubd := upgone_bd a1 (l0.take i.toNat) (fun c hc => g.rng c (List.mem_of_mem_take hc))
      have hlt : (l0.take i.toNat).length ≤ 100 := by rw [List.length_take]; omega
      generalize hcc : rd_T28 l0 i = c at ih' hc
      refine Ev.step (fun k => by rw [skiarealaw55_CensusBounds.l0, if_pos h1, if_pos h0, wrap_inc h0 h1 (by omega), hcc]) ?_
      have ic := hc
      unfold inRange at ic
      simp only [List.length_take] at hlt ubd
      generalize hU : upTo a1 (l0.take i.toNat) = U at ih' ubd ⊢
      generalize hG : goneTo a1 (l0.take i.toNat) = G at ih' ubd ⊢
      generalize hA : ((l0.take i.toNat).any fun c => c.f3 == a1) = A at ih' ⊢
      simp only [List.any_cons, List.any_nil, Bool.or_false] at ih'
      by_cases c1 : c.f3 > a1
      · rw [if_neg (by omega), if_neg (by omega), show (c.f3 == a1) = false by simp; omega, Bool.or_false, Int.add_zero, Int.add_zero] at ih'
        exact Ev.pos c1 ih'
      refine Ev.neg c1 ?_
      have hw1 : wrap64 (U + c.f2) = U + c.f2 := by unfold wrap64; omega
      have hw2 : wrap64 (G + c.f2) = G + c.f2 := by unfold wrap64; omega
      rw [hw1, hw2]
      by_cases c2 : c.f0 = 1
      · rw [if_pos ⟨by omega, c2⟩, if_neg (by omega), Int.add_zero] at ih'
        cases A with
        | true => exact Ev.pos rfl (Ev.pos c2 (by simpa using ih'))
        | false => exact Ev.neg (by simp) (Ev.pos c2 (by simpa using ih'))
      · rw [if_neg (by omega), if_pos ⟨by omega, c2⟩, Int.add_zero] at ih'
        cases A with
        | true => exact Ev.pos rfl (Ev.neg c2 (by simpa using ih'))
        | false => exact Ev.neg (by simp) (Ev.neg c2 (by simpa using ih'))
  have := main l0.length 0 (by omega) (by omega)
  exact this
end Go.Proofs.Ytgfiidgigenibaa.Q
