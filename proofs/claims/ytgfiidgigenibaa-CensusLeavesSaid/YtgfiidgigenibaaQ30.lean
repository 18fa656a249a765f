-- written by wip/drive.py (this session's program) over the kit's print words
import Derived.Test.YtgfiidgigenibaaQ0
import Derived.Test.YtgfiidgigenibaaQ26
namespace Go.Proofs.Ytgfiidgigenibaa.Q
open Go.RowKit Go.Proofs.YtgfiidgigenibaaW.PrintWords Go.Proofs.YtgfiidgigenibaaW.PrintLast Go.Proofs.YtgfiidgigenibaaW.PrintMore
attribute [local go_sem] max2_int min2_int max_two min_two max_three min_three max_four min_four   -- for this text's walks alone
set_option linter.unusedVariables false
set_option linter.unusedSimpArgs false

/-! ### skiarearef10_carriers: function 58 -/
def skiarearef10_carriers.f (a0_0 : Int) (a0_1 : Int) (a0_2 : Int) (a0_3 : Int) (a0_4 : Int) (a0_5 : Int) (a0_6 : Int) (a0_7 : Int) : Option (Bool) := if a0_7 = 0 then (none) else (if (Int.tmod (wrap64 (2 * a0_4)) a0_7) = 0 then ((skiarearef10_in.f (wrap64 (Int.tdiv (wrap64 (2 * a0_4)) a0_7)) 1 200).bind fun t228 => (some t228)) else (some false))
set_option maxHeartbeats 8000000 in
set_option maxRecDepth 100000 in
theorem skiarearef10_carriers.calls (a0_0 : Int) (a0_1 : Int) (a0_2 : Int) (a0_3 : Int) (a0_4 : Int) (a0_5 : Int) (a0_6 : Int) (a0_7 : Int) (r : Bool) (w : World) (h : skiarearef10_carriers.f a0_0 a0_1 a0_2 a0_3 a0_4 a0_5 a0_6 a0_7 = some r) :
  Calls Try.prog 58 #[.agg #[.int .i64 a0_0, .int .i64 a0_1, .int .i64 a0_2, .int .i64 a0_3, .int .i64 a0_4, .int .i64 a0_5, .int .i64 a0_6, .int .i64 a0_7]] w fun e w' => e = .returned (.bool r) ∧ Below w.heap.size w w' := by
 have hu82 := Try.underlying82
 have HB := a_ (Below.refl w.heap.size w)
 have H : (if a0_7 = 0 then (none) else (if (Int.tmod (wrap64 (2 * a0_4)) a0_7) = 0 then ((skiarearef10_in.f (wrap64 (Int.tdiv (wrap64 (2 * a0_4)) a0_7)) 1 200).bind fun t228 => (some t228)) else (some false))) = some r := h
 clear h
 by_cases c2 : a0_7 = 0
 ·rw [if_pos c2] at H
  exact absurd H (by simp)
 ·rw [if_neg c2] at H
  have c2b0 : (a0_7 == 0) = false := beq_eq_false_iff_ne.mpr c2
  have c2b1 : (a0_7 != 0) = true := bne_iff_ne.mpr c2
  by_cases c3 : (Int.tmod (wrap64 (2 * a0_4)) a0_7) = 0
  ·rw [if_pos c3] at H
   have c3b0 : ((Int.tmod (wrap64 (2 * a0_4)) a0_7) == 0) = true := beq_iff_eq.mpr c3
   have c3b1 : ((Int.tmod (wrap64 (2 * a0_4)) a0_7) != 0) = false := bne_eq_false_iff_eq.mpr c3
   clear c3
   replace H := Option.bind_eq_some_iff.mp H
   obtain ⟨t228, A40, H⟩ := H
   replace H : (some t228) = some r := H
   have A4 := a_ A40
   clear A40
   obtain rfl := Option.some.inj H
   go_enter Try.func58, Try.ntmps58
   go_wp2_with (first | ((with_reducible refine gate_dst (N := 1) rfl ?_); refine box_event ?hg (N := 1) ?hd (cs := #[.int .i64 a0_0, .int .i64 a0_1, .int .i64 a0_2, .int .i64 a0_3, .int .i64 a0_4, .int .i64 a0_5, .int .i64 a0_6, .int .i64 a0_7]) (t := 82) ?hr ?_; (case hd => rfl); (case hg => rfl); (case hr => first | (go_simp; done) | (go_simp; rfl)); intro gb227 hg w5 hbox hb; have n0_ := a_ (below_step bel_ hb); have n1_ := a_ (hbox); have n2_ := a_ (bz_ hg : w.heap.size ≤ gb227); have n3_ := a_ (bz_ hg : w.heap.size ≤ gb227); clear HB; have HB := n0_; have BK227 := n1_; have GW227 := n2_; have GE227 := n3_; clear n0_ n1_ n2_ n3_; clear hb hbox hg; have hcz6_0 := cz_ BK227 0; have hcz6_1 := cz_ BK227 1; have hcz6_2 := cz_ BK227 2; have hcz6_3 := cz_ BK227 3; have hcz6_4 := cz_ BK227 4; have hcz6_5 := cz_ BK227 5; have hcz6_6 := cz_ BK227 6; have hcz6_7 := cz_ BK227 7; have hfz6_0 := fz_ BK227 0; have hfz6_1 := fz_ BK227 1; have hfz6_2 := fz_ BK227 2; have hfz6_3 := fz_ BK227 3; have hfz6_4 := fz_ BK227 4; have hfz6_5 := fz_ BK227 5; have hfz6_6 := fz_ BK227 6; have hfz6_7 := fz_ BK227 7) | (go_at_call 56; (with_reducible refine (skiarearef10_in.calls (wrap64 (Int.tdiv (wrap64 (2 * a0_4)) a0_7)) 1 200 t228 _ A4.out).mono ?_); rintro e w' ⟨rfl, ⟨nd, rfl⟩⟩))
   go_ret
   exact ⟨by first | rfl | (simp [errW_none, errW_some] <;> rfl) | (simp [*, errW_none, errW_some] <;> rfl), by repeat (first | (with_reducible first | exact HB.out | apply below_alloc | apply pw_below_drewN | apply below_drew1 | refine below_set ?_ GE227.out) | exact HB.out)⟩
  ·rw [if_neg c3] at H
   have c3b0 : ((Int.tmod (wrap64 (2 * a0_4)) a0_7) == 0) = false := beq_eq_false_iff_ne.mpr c3
   have c3b1 : ((Int.tmod (wrap64 (2 * a0_4)) a0_7) != 0) = true := bne_iff_ne.mpr c3
   obtain rfl := Option.some.inj H
   go_enter Try.func58, Try.ntmps58
   go_wp2_with (first | ((with_reducible refine gate_dst (N := 1) rfl ?_); refine box_event ?hg (N := 1) ?hd (cs := #[.int .i64 a0_0, .int .i64 a0_1, .int .i64 a0_2, .int .i64 a0_3, .int .i64 a0_4, .int .i64 a0_5, .int .i64 a0_6, .int .i64 a0_7]) (t := 82) ?hr ?_; (case hd => rfl); (case hg => rfl); (case hr => first | (go_simp; done) | (go_simp; rfl)); intro gb227 hg w7 hbox hb; have n0_ := a_ (below_step bel_ hb); have n1_ := a_ (hbox); have n2_ := a_ (bz_ hg : w.heap.size ≤ gb227); have n3_ := a_ (bz_ hg : w.heap.size ≤ gb227); clear HB; have HB := n0_; have BK227 := n1_; have GW227 := n2_; have GE227 := n3_; clear n0_ n1_ n2_ n3_; clear hb hbox hg; have hcz8_0 := cz_ BK227 0; have hcz8_1 := cz_ BK227 1; have hcz8_2 := cz_ BK227 2; have hcz8_3 := cz_ BK227 3; have hcz8_4 := cz_ BK227 4; have hcz8_5 := cz_ BK227 5; have hcz8_6 := cz_ BK227 6; have hcz8_7 := cz_ BK227 7; have hfz8_0 := fz_ BK227 0; have hfz8_1 := fz_ BK227 1; have hfz8_2 := fz_ BK227 2; have hfz8_3 := fz_ BK227 3; have hfz8_4 := fz_ BK227 4; have hfz8_5 := fz_ BK227 5; have hfz8_6 := fz_ BK227 6; have hfz8_7 := fz_ BK227 7))
   go_ret
   exact ⟨by first | rfl | (simp [errW_none, errW_some] <;> rfl) | (simp [*, errW_none, errW_some] <;> rfl), by repeat (first | (with_reducible first | exact HB.out | apply below_alloc | apply pw_below_drewN | apply below_drew1 | refine below_set ?_ GE227.out) | exact HB.out)⟩

end Go.Proofs.Ytgfiidgigenibaa.Q
