/- Plain laws and readings for the seat's proofs (this session's). -/
import Derived.RangeFuncNested
import Derived.Shelf.Abstract
import Derived.Deep.Slices
import Derived.ProofKit
import Derived.OpenShut
import Derived.ChangeOld
import Derived.Lib.SmallJoins
import Derived.WalkSpells
import Derived.Test.YtgfiidgigenibaaC55
import Derived.Test.YtgfiidgigenibaaQ45
import Derived.Test.YtgfiidgigenibaaQ46
namespace Go.Proofs.Ytgfiidgigenibaa.Q
open Go.RowKit Go.Proofs.YtgfiidgigenibaaW.PrintWords Go.Proofs.YtgfiidgigenibaaW.PrintLast Go.Proofs.YtgfiidgigenibaaW.PrintMore
set_option linter.unusedVariables false
set_option linter.unusedSimpArgs false
theorem rchange_eq (c : S28) : skiarearef55_change.f c.f0 c.f1 c.f2 c.f3 = some (chg c) := by unfold skiarearef55_change.f chg; split <;> rfl
theorem rright_ev (l : List S28) (hl : l.length ≤ 9223372036854775807) : Ev (fun k => skiarearef55_Right.f k l) (rightF l) := by
  have main : ∀ (d : Nat) (i n : Int), 0 ≤ i → i + d = l.length → Ev (fun k => skiarearef55_Right.l0 k l n i) (rightE (prevOf l i) n (l.drop i.toNat)) := by
    intro d
    induction d with
    | zero =>
      intro i n h0 hd
      rw [drop28_nil l i (by omega), rightE]
      exact Ev.step (f := fun _ => some 0) (fun k => by rw [skiarearef55_Right.l0, if_neg (by omega)]) (Ev.now _)
    | succ d ih =>
      intro i n h0 hd
      have h1 : i < (l.length : Int) := by omega
      rw [rd28_at l i h0 h1, rightE]
      have ih' := ih (i + 1) (wrap64 (n + chg (rd_T28 l i))) (by omega) (by omega)
      rw [prevOf_succ l i h0] at ih'
      generalize hc : rd_T28 l i = c at ih' ⊢
      have bad : Ev (fun k => skiarearef55_Right.j1 k l n i true c.f0 c.f1 c.f2 c.f3) 2 := Ev.step (f := fun _ => some 2) (fun k => by rw [skiarearef55_Right.j1, if_pos rfl]) (Ev.now _)
      refine Ev.step (fun k => by rw [skiarearef55_Right.l0, if_pos h1, if_pos h0, hc]) ?_
      by_cases c1 : c.f0 < 1
      · rw [if_pos (by unfold inRange; omega)]; exact Ev.pos c1 bad
      refine Ev.neg c1 ?_
      by_cases c2 : c.f0 > 3
      · rw [if_pos (by unfold inRange; omega)]; exact Ev.pos c2 bad
      refine Ev.neg c2 ?_
      by_cases c3 : c.f1 < 1
      · rw [if_pos (by unfold inRange; omega)]; exact Ev.pos c3 bad
      refine Ev.neg c3 ?_
      by_cases c4 : c.f1 > 9999
      · rw [if_pos (by unfold inRange; omega)]; exact Ev.pos c4 bad
      refine Ev.neg c4 ?_
      by_cases c5 : c.f2 < 1
      · rw [if_pos (by unfold inRange; omega)]; exact Ev.pos c5 bad
      refine Ev.neg c5 ?_
      by_cases c6 : c.f2 > 1000
      · rw [if_pos (by unfold inRange; omega)]; exact Ev.pos c6 bad
      refine Ev.neg c6 ?_
      by_cases c7 : c.f3 < 0
      · rw [if_pos (by unfold inRange; omega)]; exact Ev.pos c7 bad
      refine Ev.neg c7 ?_
      by_cases c8 : c.f3 > 20000000
      · rw [if_pos (by unfold inRange; omega), decide_eq_true c8]; exact bad
      rw [if_neg (by unfold inRange; omega), decide_eq_false c8]
      refine Ev.step (fun k => by rw [skiarearef55_Right.j1, if_neg (by simp)]) ?_
      have tail : ∀ b : Bool, b = early (prevOf l i) c.f3 → Ev (fun k => skiarearef55_Right.j2 k l n i b c.f0 c.f1 c.f2 c.f3) (if early (prevOf l i) c.f3 = true then 11 else if wrap64 (n + chg c) < 0 then 10 else rightE (some c.f3) (wrap64 (n + chg c)) (l.drop (i + 1).toNat)) := by
        intro b hb
        rw [← hb]
        cases b with
        | true => rw [if_pos rfl]; exact Ev.step (f := fun _ => some 11) (fun k => by rw [skiarearef55_Right.j2, if_pos rfl]) (Ev.now _)
        | false =>
          rw [if_neg (by simp)]
          refine Ev.step (fun k => by rw [skiarearef55_Right.j2, if_neg (by simp), rchange_eq, Option.bind_some, wrap_inc h0 h1 hl]) ?_
          by_cases c5 : wrap64 (n + chg c) < 0
          · rw [if_pos c5]; exact Ev.pos c5 (Ev.now _)
          · rw [if_neg c5]; exact Ev.neg c5 ih'
      by_cases hi : i > 0
      · have hw : wrap64 (i - 1) = i - 1 := by unfold wrap64; omega
        refine Ev.pos hi ?_
        rw [hw]
        refine Ev.pos (by omega) (Ev.pos (by omega) (tail _ ?_))
        unfold prevOf early; rw [if_pos (by omega)]
      · refine Ev.neg hi (tail _ ?_)
        unfold prevOf early; rw [if_neg (by omega)]
  unfold rightF
  by_cases h : (l.length : Int) > 2000
  · rw [if_pos (by omega)]; unfold skiarearef55_Right.f; exact Ev.pos h (Ev.now _)
  · rw [if_neg (by omega)]; unfold skiarearef55_Right.f
    exact Ev.neg h (main l.length 0 0 (by omega) (by omega))
end Go.Proofs.Ytgfiidgigenibaa.Q
