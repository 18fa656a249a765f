/- Plain laws and readings for the seat's proofs (this session's). -/
import Derived.RangeFuncNested
import Derived.Shelf.Abstract
import Derived.Deep.Slices
import Derived.ProofKit
import Derived.OpenShut
import Derived.ChangeOld
import Derived.Lib.SmallJoins
import Derived.WalkSpells
import Derived.Test.YtgfiidgigenibaaQ4
import Derived.Test.YtgfiidgigenibaaQ17
import Derived.Test.YtgfiidgigenibaaQ18
import Derived.Test.YtgfiidgigenibaaQ3
namespace Go.Proofs.Ytgfiidgigenibaa.Q
open Go.RowKit Go.Proofs.YtgfiidgigenibaaW.PrintWords Go.Proofs.YtgfiidgigenibaaW.PrintLast Go.Proofs.YtgfiidgigenibaaW.PrintMore
set_option linter.unusedVariables false
set_option linter.unusedSimpArgs false
/-! ### rounds -/
theorem Ev.pos {α : Type} {c : Prop} [Decidable c] {f g : Nat → Option α} {r : α} (h : c) (hf : Ev f r) : Ev (fun k => if c then f k else g k) r := Ev.congr (fun k => if_pos h) hf
theorem Ev.neg {α : Type} {c : Prop} [Decidable c] {f g : Nat → Option α} {r : α} (h : ¬ c) (hf : Ev g r) : Ev (fun k => if c then f k else g k) r := Ev.congr (fun k => if_neg h) hf
theorem wrap_inc {i : Int} {n : Nat} (h0 : 0 ≤ i) (h : i < (n : Int)) (hn : n ≤ 9223372036854775807) : wrap64 (i + 1) = i + 1 := by unfold wrap64; omega
theorem rd28_at (l : List S28) (i : Int) (h0 : 0 ≤ i) (h1 : i < l.length) : l.drop i.toNat = rd_T28 l i :: l.drop (i + 1).toNat := by
  rw [List.drop_eq_getElem_cons (by omega), show (i + 1).toNat = i.toNat + 1 by omega]
  simp [rd_T28, List.getD_eq_getElem?_getD, List.getElem?_eq_getElem (show i.toNat < l.length by omega)]
theorem take28_at (l : List S28) (i : Int) (h0 : 0 ≤ i) (h1 : i < l.length) : l.take (i + 1).toNat = l.take i.toNat ++ [rd_T28 l i] := by
  rw [show (i + 1).toNat = i.toNat + 1 by omega, List.take_succ_eq_append_getElem (by omega)]
  simp [rd_T28, List.getD_eq_getElem?_getD, List.getElem?_eq_getElem (show i.toNat < l.length by omega)]
theorem drop28_nil (l : List S28) (i : Int) (h : i = l.length) : l.drop i.toNat = [] := List.drop_eq_nil_of_le (by omega)
/-- By how much a crossing changes the number of persons. -/
def chg (c : S28) : Int := if c.f0 = 1 then c.f2 else wrap64 (-c.f2)
theorem change_eq (c : S28) : census_change.f c.f0 c.f1 c.f2 c.f3 = some (chg c) := by unfold census_change.f chg; split <;> rfl
def onF (t : Int) : Int → List S28 → Int
  | n, [] => n
  | n, c :: l => onF t (if c.f3 ≤ t then wrap64 (n + chg c) else n) l
theorem on_ev (l : List S28) (t : Int) (hl : l.length ≤ 9223372036854775807) : Ev (fun k => census_On.f k l t) (onF t 0 l) := by
  have : ∀ (d : Nat) (i n : Int), 0 ≤ i → i + d = l.length → Ev (fun k => census_On.l0 k t n l (l.length : Int) i) (onF t n (l.drop i.toNat)) := by
    intro d
    induction d with
    | zero =>
      intro i n h0 hd
      rw [drop28_nil l i (by omega)]
      exact Ev.step (f := fun _ => some n) (fun k => by rw [census_On.l0, if_neg (by omega)]) (Ev.now _)
    | succ d ih =>
      intro i n h0 hd
      have h1 : i < (l.length : Int) := by omega
      rw [rd28_at l i h0 h1, onF]
      refine Ev.step (fun k => by rw [census_On.l0, if_pos h1, if_pos h0, if_pos h1, change_eq, Option.bind_some, wrap_inc h0 h1 hl]) ?_
      by_cases c : (rd_T28 l i).f3 ≤ t
      · rw [if_pos c]; exact Ev.pos c (ih _ _ (by omega) (by omega))
      · rw [if_neg c]; exact Ev.neg c (ih _ _ (by omega) (by omega))
  exact this l.length 0 0 (by omega) (by omega)
def inRange (c : S28) : Prop := 1 ≤ c.f0 ∧ c.f0 ≤ 3 ∧ 1 ≤ c.f1 ∧ c.f1 ≤ 9999 ∧ 1 ≤ c.f2 ∧ c.f2 ≤ 1000 ∧ 0 ≤ c.f3 ∧ c.f3 ≤ 20000000
instance (c : S28) : Decidable (inRange c) := by unfold inRange; exact inferInstance
def early : Option Int → Int → Bool
  | some q, x => decide (x < q)
  | none, _ => false
/-- The first error of the crossings behind one at the time p; n persons are there. -/
def rightE : Option Int → Int → List S28 → Int
  | _, _, [] => 0
  | p, n, c :: l => if ¬ inRange c then 2 else if early p c.f3 = true then 11 else if wrap64 (n + chg c) < 0 then 10 else rightE (some c.f3) (wrap64 (n + chg c)) l
def prevOf (l : List S28) (i : Int) : Option Int := if 0 < i then some (rd_T28 l (i - 1)).f3 else none
def rightF (l : List S28) : Int := if l.length > 2000 then 4 else rightE none 0 l
theorem within_eq (a b c : Int) : census_within.f a b c = some (decide (b ≤ a ∧ a ≤ c)) := by
  unfold census_within.f
  by_cases h : a ≥ b
  · rw [if_pos h]; by_cases h2 : a ≤ c <;> simp [h, h2] <;> omega
  · rw [if_neg h]; simp; omega
theorem prevOf_succ (l : List S28) (i : Int) (h0 : 0 ≤ i) : prevOf l (i + 1) = some (rd_T28 l i).f3 := by
  unfold prevOf
  rw [if_pos (by omega), show i + 1 - 1 = i by omega]
theorem right_ev (l : List S28) (hl : l.length ≤ 9223372036854775807) : Ev (fun k => census_Right.f k l) (rightF l) := by
  have main : ∀ (d : Nat) (i n : Int), 0 ≤ i → i + d = l.length → Ev (fun k => census_Right.l0 k l n l (l.length : Int) i) (rightE (prevOf l i) n (l.drop i.toNat)) := by
    intro d
    induction d with
    | zero =>
      intro i n h0 hd
      rw [drop28_nil l i (by omega), rightE]
      exact Ev.step (f := fun _ => some 0) (fun k => by rw [census_Right.l0, if_neg (by omega)]) (Ev.now _)
    | succ d ih =>
      intro i n h0 hd
      have h1 : i < (l.length : Int) := by omega
      rw [rd28_at l i h0 h1, rightE]
      have ih' := ih (i + 1) (wrap64 (n + chg (rd_T28 l i))) (by omega) (by omega)
      rw [prevOf_succ l i h0] at ih'
      generalize hc : rd_T28 l i = c at ih' ⊢
      have bad : Ev (fun k => census_Right.j1 k l n i l (l.length : Int) i true c.f0 c.f1 c.f2 c.f3) 2 := Ev.step (f := fun _ => some 2) (fun k => by rw [census_Right.j1, if_pos rfl]) (Ev.now _)
      refine Ev.step (fun k => by rw [census_Right.l0, if_pos h1, if_pos h0, if_pos h1, hc, within_eq, Option.bind_some]) ?_
      by_cases c1 : 1 ≤ c.f0 ∧ c.f0 ≤ 3
      case neg => (rw [if_pos (by unfold inRange; omega)]; exact Ev.neg (by simp only [decide_eq_true_eq]; exact c1) bad)
      refine Ev.pos (by simp only [decide_eq_true_eq]; exact c1) ?_
      refine Ev.congr (fun k => by rw [within_eq, Option.bind_some]) ?_
      by_cases c2 : 1 ≤ c.f1 ∧ c.f1 ≤ 9999
      case neg => (rw [if_pos (by unfold inRange; omega)]; exact Ev.neg (by simp only [decide_eq_true_eq]; exact c2) bad)
      refine Ev.pos (by simp only [decide_eq_true_eq]; exact c2) ?_
      refine Ev.congr (fun k => by rw [within_eq, Option.bind_some]) ?_
      by_cases c3 : 1 ≤ c.f2 ∧ c.f2 ≤ 1000
      case neg => (rw [if_pos (by unfold inRange; omega)]; exact Ev.neg (by simp only [decide_eq_true_eq]; exact c3) bad)
      refine Ev.pos (by simp only [decide_eq_true_eq]; exact c3) ?_
      refine Ev.congr (fun k => by rw [within_eq, Option.bind_some]) ?_
      by_cases c4 : 0 ≤ c.f3 ∧ c.f3 ≤ 20000000
      case neg => (rw [if_pos (by unfold inRange; omega), decide_eq_false c4]; exact bad)
      rw [if_neg (by unfold inRange; omega), decide_eq_true c4]
      refine Ev.step (fun k => by rw [census_Right.j1, if_neg (by simp)]) ?_
      have tail : ∀ b : Bool, b = early (prevOf l i) c.f3 → Ev (fun k => census_Right.j2 k l n l (l.length : Int) i b c.f0 c.f1 c.f2 c.f3) (if early (prevOf l i) c.f3 = true then 11 else if wrap64 (n + chg c) < 0 then 10 else rightE (some c.f3) (wrap64 (n + chg c)) (l.drop (i + 1).toNat)) := by
        intro b hb
        rw [← hb]
        cases b with
        | true => rw [if_pos rfl]; exact Ev.step (f := fun _ => some 11) (fun k => by rw [census_Right.j2, if_pos rfl]) (Ev.now _)
        | false =>
          rw [if_neg (by simp)]
          refine Ev.step (fun k => by rw [census_Right.j2, if_neg (by simp), change_eq, Option.bind_some, wrap_inc h0 h1 hl]) ?_
          by_cases c5 : wrap64 (n + chg c) < 0
          · rw [if_pos c5]; exact Ev.pos c5 (Ev.now _)
          · rw [if_neg c5]; exact Ev.neg c5 ih'
      by_cases hi : i > 0
      · have hw : wrap64 (i - 1) = i - 1 := by unfold wrap64; omega
        refine Ev.pos hi ?_
        rw [hw]
        refine Ev.pos (by omega) (Ev.pos (by omega) (tail _ ?_))
        unfold prevOf early; rw [if_pos (by omega)]
      · refine Ev.neg hi (tail _ ?_)
        unfold prevOf early; rw [if_neg (by omega)]
  unfold rightF
  by_cases h : (l.length : Int) > 2000
  · rw [if_pos (by omega)]; unfold census_Right.f; exact Ev.pos h (Ev.now _)
  · rw [if_neg (by omega)]; unfold census_Right.f
    refine Ev.neg h ?_
    have := main l.length 0 0 (by omega) (by omega)
    exact this
end Go.Proofs.Ytgfiidgigenibaa.Q
