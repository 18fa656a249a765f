-- written by wip/drive.py (this session's program) over the kit's print words
import Derived.Test.YtgfiidgigenibaaQ0
namespace Go.Proofs.Ytgfiidgigenibaa.Q
open Go.RowKit Go.Proofs.YtgfiidgigenibaaW.PrintWords Go.Proofs.YtgfiidgigenibaaW.PrintLast Go.Proofs.YtgfiidgigenibaaW.PrintMore
attribute [local go_sem] max2_int min2_int max_two min_two max_three min_three max_four min_four   -- for this text's walks alone
set_option linter.unusedVariables false
set_option linter.unusedSimpArgs false

/-! ### skiarearef55_Count: function 24 -/
def skiarearef55_Count.l0 : Nat → List (S28) → Int → Int → Int → Int → Int → Int → Option (Int)
 | 0, _, _, _, _, _, _, _ => none
 | k + 1, x0, x1, x2, x9, x10, x388000, x388001 => if x10 < (x0.length : Int) then (if 0 ≤ x10 then (if ((rd_T28 x0 x10).f0) = x1 then (if ((rd_T28 x0 x10).f1) = x2 then (if x388000 ≤ ((rd_T28 x0 x10).f3) then (if ((rd_T28 x0 x10).f3) < x388001 then (skiarearef55_Count.l0 k x0 x1 x2 (wrap64 (x9 + ((rd_T28 x0 x10).f2))) (wrap64 (x10 + 1)) x388000 x388001) else (skiarearef55_Count.l0 k x0 x1 x2 x9 (wrap64 (x10 + 1)) x388000 x388001)) else (skiarearef55_Count.l0 k x0 x1 x2 x9 (wrap64 (x10 + 1)) x388000 x388001)) else (skiarearef55_Count.l0 k x0 x1 x2 x9 (wrap64 (x10 + 1)) x388000 x388001)) else (skiarearef55_Count.l0 k x0 x1 x2 x9 (wrap64 (x10 + 1)) x388000 x388001)) else (none)) else (some x9)
def skiarearef55_Count.f (k : Nat) (l0 : List (S28)) (a1 : Int) (a2 : Int) (a3_0 : Int) (a3_1 : Int) : Option (Int) := skiarearef55_Count.l0 k l0 a1 a2 0 0 a3_0 a3_1
theorem skiarearef55_Count.mono_l : ∀ k, (∀ y0 y1 y2 y3 y4 y5 y6, LeO (skiarearef55_Count.l0 k y0 y1 y2 y3 y4 y5 y6) (skiarearef55_Count.l0 (k + 1) y0 y1 y2 y3 y4 y5 y6))
 | 0 => fun _ _ _ _ _ _ _ r h => by simp [skiarearef55_Count.l0] at h
 | k + 1 => by
  have ih0 := skiarearef55_Count.mono_l k
  ·intro y0 y1 y2 y3 y4 y5 y6
   unfold skiarearef55_Count.l0
   repeat' first
   | (with_reducible exact ih0 _ _ _ _ _ _ _)
   | (with_reducible exact LeO.refl _)
   | (with_reducible exact LeO.none _)
   | (with_reducible refine LeO.ite ?_ ?_)
   | (with_reducible refine LeO.bind ?_ (fun _ => ?_))
   | exact ih0 _ _ _ _ _ _ _
   | exact LeO.none _
   | refine LeO.ite ?_ ?_
   | refine LeO.bind ?_ (fun _ => ?_)
theorem skiarearef55_Count.mono : ∀ a0 a1 a2 a3 a4 k, LeO (skiarearef55_Count.f k a0 a1 a2 a3 a4) (skiarearef55_Count.f (k + 1) a0 a1 a2 a3 a4) := by
 intro a0 a1 a2 a3 a4 k
 have ih0 := skiarearef55_Count.mono_l k
 unfold skiarearef55_Count.f
 repeat' first
   | (with_reducible exact ih0 _ _ _ _ _ _ _)
   | (with_reducible exact LeO.refl _)
   | (with_reducible exact LeO.none _)
   | (with_reducible refine LeO.ite ?_ ?_)
   | (with_reducible refine LeO.bind ?_ (fun _ => ?_))
   | exact ih0 _ _ _ _ _ _ _
   | exact LeO.none _
   | refine LeO.ite ?_ ?_
   | refine LeO.bind ?_ (fun _ => ?_)
set_option maxHeartbeats 8000000 in
set_option maxRecDepth 100000 in
theorem skiarearef55_Count.calls (k : Nat) (A0 : Option Addr) (c0 : Nat) (l0 : List (S28)) (a1 : Int) (a2 : Int) (a3_0 : Int) (a3_1 : Int) (r : Int) (w : World) (hr0 : Kd.C k28 w A0 l0.length l0) (hc0 : l0.length ≤ c0) (h : skiarearef55_Count.f k l0 a1 a2 a3_0 a3_1 = some r) :
  Calls Try.prog 24 #[.slice A0 l0.length c0, .int .i64 a1, .int .i64 a2, .agg #[.int .i64 a3_0, .int .i64 a3_1]] w fun e w' => e = .returned (.int .i64 r) ∧ Below w.heap.size w w' := by
 have hu31 := Try.underlying31
 have HR0 := a_ hr0
 have HC0 := a_ hc0
 clear hr0 hc0
 have HB := a_ (Below.refl w.heap.size w)
 have H : (skiarearef55_Count.l0 k l0 a1 a2 0 0 a3_0 a3_1) = some r := h
 clear h
 have H' := a_ H
 clear H
 go_enter Try.func24, Try.ntmps24
 go_wp2_with (first | ((with_reducible refine gate_dst (N := 7) rfl ?_); refine box_event ?hg (N := 7) ?hd (cs := #[.int .i64 a3_0, .int .i64 a3_1]) (t := 31) ?hr ?_; (case hd => rfl); (case hg => rfl); (case hr => first | (go_simp; done) | (go_simp; rfl)); intro gb387 hg w5 hbox hb; have n0_ := a_ (below_step bel_ hb); have n1_ := a_ (hbox); have n2_ := a_ (bz_ hg : w.heap.size ≤ gb387); have n3_ := a_ (bz_ hg : w.heap.size ≤ gb387); clear HB; have HB := n0_; have BK387 := n1_; have GW387 := n2_; have GE387 := n3_; clear n0_ n1_ n2_ n3_; clear hb hbox hg))
 repeat (go_quiet (fail); try go_wp2_with (first | ((with_reducible refine gate_dst (N := 7) rfl ?_); refine box_event ?hg (N := 7) ?hd (cs := #[.int .i64 a3_0, .int .i64 a3_1]) (t := 31) ?hr ?_; (case hd => rfl); (case hg => rfl); (case hr => first | (go_simp; done) | (go_simp; rfl)); intro gb387 hg w5 hbox hb; have n0_ := a_ (below_step bel_ hb); have n1_ := a_ (hbox); have n2_ := a_ (bz_ hg : w.heap.size ≤ gb387); have n3_ := a_ (bz_ hg : w.heap.size ≤ gb387); clear HB; have HB := n0_; have BK387 := n1_; have GW387 := n2_; have GE387 := n3_; clear n0_ n1_ n2_ n3_; clear hb hbox hg)))
 go_loopg [9, 10] k (fun kq v9 v10 w' => ∃ (x9_1 : Int) (x10_1 : Int), v9 = .int .i64 x9_1 ∧ v10 = .int .i64 x10_1 ∧ Aside0 (skiarearef55_Count.l0 kq l0 a1 a2 x9_1 x10_1 a3_0 a3_1 = some r) ∧ Aside0 (kq ≤ k) ∧ Aside0 (w'.heap[gb387]? = some (.cells #[.int .i64 a3_0, .int .i64 a3_1] 31 (0, 0))) ∧ Aside0 (Below w.heap.size w w'))
 case atStart => exact ⟨(0), (0), (by first | rfl | (simp; done) | (simp [*]; done)), (by first | rfl | (simp; done) | (simp [*]; done)), H', ⟨Nat.le_refl _⟩, ⟨by exact BK387.out⟩, ⟨by repeat (first | (with_reducible first | exact HB.out | apply below_alloc | apply pw_below_drewN | apply below_drew1 | refine below_set ?_ GE387.out) | exact HB.out)⟩⟩
 case round =>
  clear H'
  try clear c2
  try clear p2
  obtain ⟨x9_1, x10_1, rfl, rfl, HA, HK1, BK387, HB⟩ := hrel
  cases gk with
  | zero => exact absurd HA.out (by simp [skiarearef55_Count.l0])
  | succ k1 =>
   have H := HA.out
   clear HA
   simp only [skiarearef55_Count.l0] at H
   by_cases c6 : x10_1 < (l0.length : Int)
   ·rw [if_pos c6] at H
    have c6b0 : decide (x10_1 < (l0.length : Int)) = true := decide_eq_true c6
    clear c6
    by_cases c7 : 0 ≤ x10_1
    ·rw [if_pos c7] at H
     have c7b0 : decide (0 ≤ x10_1) = true := decide_eq_true c7
     clear c7
     by_cases c8 : ((rd_T28 l0 x10_1).f0) = a1
     ·rw [if_pos c8] at H
      have c8b0 : (((rd_T28 l0 x10_1).f0) == a1) = true := beq_iff_eq.mpr c8
      have c8b1 : (((rd_T28 l0 x10_1).f0) != a1) = false := bne_eq_false_iff_eq.mpr c8
      clear c8
      by_cases c9 : ((rd_T28 l0 x10_1).f1) = a2
      ·rw [if_pos c9] at H
       have c9b0 : (((rd_T28 l0 x10_1).f1) == a2) = true := beq_iff_eq.mpr c9
       have c9b1 : (((rd_T28 l0 x10_1).f1) != a2) = false := bne_eq_false_iff_eq.mpr c9
       clear c9
       by_cases c10 : a3_0 ≤ ((rd_T28 l0 x10_1).f3)
       ·rw [if_pos c10] at H
        have c10b0 : decide (a3_0 ≤ ((rd_T28 l0 x10_1).f3)) = true := decide_eq_true c10
        clear c10
        by_cases c11 : ((rd_T28 l0 x10_1).f3) < a3_1
        ·rw [if_pos c11] at H
         have c11b0 : decide (((rd_T28 l0 x10_1).f3) < a3_1) = true := decide_eq_true c11
         clear c11
         have H' := a_ H
         clear H
         have p388 : 0 ≤ (x10_1 : Int) := od_
         have q388 : x10_1 < (l0.length : Int) := od_
         obtain ⟨ad388, e388, hx388_0, hx388_1, hx388_2, hx388_3⟩ := at_T28 HR0.out x10_1 p388 q388
         cases e388
         replace hx388_0 := pc_ hx388_0
         replace hx388_1 := pc_ hx388_1
         replace hx388_2 := pc_ hx388_2
         replace hx388_3 := pc_ hx388_3
         replace p388 := eq_true p388
         replace q388 := eq_true q388
         have p389 : 0 ≤ (x10_1 : Int) := od_
         have q389 : x10_1 < (l0.length : Int) := od_
         obtain ⟨ad389, e389, hx389_0, hx389_1, hx389_2, hx389_3⟩ := at_T28 HR0.out x10_1 p389 q389
         obtain rfl : ad388 = ad389 := (by injection e389)
         replace hx389_0 := pc_ hx389_0
         replace hx389_1 := pc_ hx389_1
         replace hx389_2 := pc_ hx389_2
         replace hx389_3 := pc_ hx389_3
         replace p389 := eq_true p389
         replace q389 := eq_true q389
         have hcz12_0 := cz_ BK387 0
         have hcz12_1 := cz_ BK387 1
         have hfz12_0 := fz_ BK387 0
         have hfz12_1 := fz_ BK387 1
         have p390 : 0 ≤ (x10_1 : Int) := od_
         have q390 : x10_1 < (l0.length : Int) := od_
         obtain ⟨ad390, e390, hx390_0, hx390_1, hx390_2, hx390_3⟩ := at_T28 HR0.out x10_1 p390 q390
         obtain rfl : ad388 = ad390 := (by injection e390)
         replace hx390_0 := pc_ hx390_0
         replace hx390_1 := pc_ hx390_1
         replace hx390_2 := pc_ hx390_2
         replace hx390_3 := pc_ hx390_3
         replace p390 := eq_true p390
         replace q390 := eq_true q390
         have p391 : 0 ≤ (x10_1 : Int) := od_
         have q391 : x10_1 < (l0.length : Int) := od_
         obtain ⟨ad391, e391, hx391_0, hx391_1, hx391_2, hx391_3⟩ := at_T28 HR0.out x10_1 p391 q391
         obtain rfl : ad388 = ad391 := (by injection e391)
         replace hx391_0 := pc_ hx391_0
         replace hx391_1 := pc_ hx391_1
         replace hx391_2 := pc_ hx391_2
         replace hx391_3 := pc_ hx391_3
         replace p391 := eq_true p391
         replace q391 := eq_true q391
         have p392 : 0 ≤ (x10_1 : Int) := od_
         have q392 : x10_1 < (l0.length : Int) := od_
         obtain ⟨ad392, e392, hx392_0, hx392_1, hx392_2, hx392_3⟩ := at_T28 HR0.out x10_1 p392 q392
         obtain rfl : ad388 = ad392 := (by injection e392)
         replace hx392_0 := pc_ hx392_0
         replace hx392_1 := pc_ hx392_1
         replace hx392_2 := pc_ hx392_2
         replace hx392_3 := pc_ hx392_3
         replace p392 := eq_true p392
         replace q392 := eq_true q392
         go_wp2
         repeat (go_quiet (fail); try go_wp2)
         go_roundg k1
         case measure => have := HK1.out; omega
         case rel => exact ⟨(wrap64 (x9_1 + ((rd_T28 l0 x10_1).f2))), (wrap64 (x10_1 + 1)), (by first | rfl | (simp; done) | (simp [*]; done)), (by first | rfl | (simp; done) | (simp [*]; done)), H', ⟨by have := HK1.out; omega⟩, ⟨by exact BK387.out⟩, ⟨by repeat (first | (with_reducible first | exact HB.out | apply below_alloc | apply pw_below_drewN | apply below_drew1 | refine below_set ?_ GE387.out) | exact HB.out)⟩⟩
        ·rw [if_neg c11] at H
         have c11b0 : decide (((rd_T28 l0 x10_1).f3) < a3_1) = false := decide_eq_false c11
         clear c11
         have H' := a_ H
         clear H
         have p388 : 0 ≤ (x10_1 : Int) := od_
         have q388 : x10_1 < (l0.length : Int) := od_
         obtain ⟨ad388, e388, hx388_0, hx388_1, hx388_2, hx388_3⟩ := at_T28 HR0.out x10_1 p388 q388
         cases e388
         replace hx388_0 := pc_ hx388_0
         replace hx388_1 := pc_ hx388_1
         replace hx388_2 := pc_ hx388_2
         replace hx388_3 := pc_ hx388_3
         replace p388 := eq_true p388
         replace q388 := eq_true q388
         have p389 : 0 ≤ (x10_1 : Int) := od_
         have q389 : x10_1 < (l0.length : Int) := od_
         obtain ⟨ad389, e389, hx389_0, hx389_1, hx389_2, hx389_3⟩ := at_T28 HR0.out x10_1 p389 q389
         obtain rfl : ad388 = ad389 := (by injection e389)
         replace hx389_0 := pc_ hx389_0
         replace hx389_1 := pc_ hx389_1
         replace hx389_2 := pc_ hx389_2
         replace hx389_3 := pc_ hx389_3
         replace p389 := eq_true p389
         replace q389 := eq_true q389
         have hcz13_0 := cz_ BK387 0
         have hcz13_1 := cz_ BK387 1
         have hfz13_0 := fz_ BK387 0
         have hfz13_1 := fz_ BK387 1
         have p390 : 0 ≤ (x10_1 : Int) := od_
         have q390 : x10_1 < (l0.length : Int) := od_
         obtain ⟨ad390, e390, hx390_0, hx390_1, hx390_2, hx390_3⟩ := at_T28 HR0.out x10_1 p390 q390
         obtain rfl : ad388 = ad390 := (by injection e390)
         replace hx390_0 := pc_ hx390_0
         replace hx390_1 := pc_ hx390_1
         replace hx390_2 := pc_ hx390_2
         replace hx390_3 := pc_ hx390_3
         replace p390 := eq_true p390
         replace q390 := eq_true q390
         have p391 : 0 ≤ (x10_1 : Int) := od_
         have q391 : x10_1 < (l0.length : Int) := od_
         obtain ⟨ad391, e391, hx391_0, hx391_1, hx391_2, hx391_3⟩ := at_T28 HR0.out x10_1 p391 q391
         obtain rfl : ad388 = ad391 := (by injection e391)
         replace hx391_0 := pc_ hx391_0
         replace hx391_1 := pc_ hx391_1
         replace hx391_2 := pc_ hx391_2
         replace hx391_3 := pc_ hx391_3
         replace p391 := eq_true p391
         replace q391 := eq_true q391
         go_wp2
         repeat (go_quiet (fail); try go_wp2)
         go_roundg k1
         case measure => have := HK1.out; omega
         case rel => exact ⟨(x9_1), (wrap64 (x10_1 + 1)), (by first | rfl | (simp; done) | (simp [*]; done)), (by first | rfl | (simp; done) | (simp [*]; done)), H', ⟨by have := HK1.out; omega⟩, ⟨by exact BK387.out⟩, ⟨by repeat (first | (with_reducible first | exact HB.out | apply below_alloc | apply pw_below_drewN | apply below_drew1 | refine below_set ?_ GE387.out) | exact HB.out)⟩⟩
       ·rw [if_neg c10] at H
        have c10b0 : decide (a3_0 ≤ ((rd_T28 l0 x10_1).f3)) = false := decide_eq_false c10
        clear c10
        have H' := a_ H
        clear H
        have p388 : 0 ≤ (x10_1 : Int) := od_
        have q388 : x10_1 < (l0.length : Int) := od_
        obtain ⟨ad388, e388, hx388_0, hx388_1, hx388_2, hx388_3⟩ := at_T28 HR0.out x10_1 p388 q388
        cases e388
        replace hx388_0 := pc_ hx388_0
        replace hx388_1 := pc_ hx388_1
        replace hx388_2 := pc_ hx388_2
        replace hx388_3 := pc_ hx388_3
        replace p388 := eq_true p388
        replace q388 := eq_true q388
        have p389 : 0 ≤ (x10_1 : Int) := od_
        have q389 : x10_1 < (l0.length : Int) := od_
        obtain ⟨ad389, e389, hx389_0, hx389_1, hx389_2, hx389_3⟩ := at_T28 HR0.out x10_1 p389 q389
        obtain rfl : ad388 = ad389 := (by injection e389)
        replace hx389_0 := pc_ hx389_0
        replace hx389_1 := pc_ hx389_1
        replace hx389_2 := pc_ hx389_2
        replace hx389_3 := pc_ hx389_3
        replace p389 := eq_true p389
        replace q389 := eq_true q389
        have hcz14_0 := cz_ BK387 0
        have hcz14_1 := cz_ BK387 1
        have hfz14_0 := fz_ BK387 0
        have hfz14_1 := fz_ BK387 1
        have p390 : 0 ≤ (x10_1 : Int) := od_
        have q390 : x10_1 < (l0.length : Int) := od_
        obtain ⟨ad390, e390, hx390_0, hx390_1, hx390_2, hx390_3⟩ := at_T28 HR0.out x10_1 p390 q390
        obtain rfl : ad388 = ad390 := (by injection e390)
        replace hx390_0 := pc_ hx390_0
        replace hx390_1 := pc_ hx390_1
        replace hx390_2 := pc_ hx390_2
        replace hx390_3 := pc_ hx390_3
        replace p390 := eq_true p390
        replace q390 := eq_true q390
        go_wp2
        repeat (go_quiet (fail); try go_wp2)
        go_roundg k1
        case measure => have := HK1.out; omega
        case rel => exact ⟨(x9_1), (wrap64 (x10_1 + 1)), (by first | rfl | (simp; done) | (simp [*]; done)), (by first | rfl | (simp; done) | (simp [*]; done)), H', ⟨by have := HK1.out; omega⟩, ⟨by exact BK387.out⟩, ⟨by repeat (first | (with_reducible first | exact HB.out | apply below_alloc | apply pw_below_drewN | apply below_drew1 | refine below_set ?_ GE387.out) | exact HB.out)⟩⟩
      ·rw [if_neg c9] at H
       have c9b0 : (((rd_T28 l0 x10_1).f1) == a2) = false := beq_eq_false_iff_ne.mpr c9
       have c9b1 : (((rd_T28 l0 x10_1).f1) != a2) = true := bne_iff_ne.mpr c9
       have H' := a_ H
       clear H
       have p388 : 0 ≤ (x10_1 : Int) := od_
       have q388 : x10_1 < (l0.length : Int) := od_
       obtain ⟨ad388, e388, hx388_0, hx388_1, hx388_2, hx388_3⟩ := at_T28 HR0.out x10_1 p388 q388
       cases e388
       replace hx388_0 := pc_ hx388_0
       replace hx388_1 := pc_ hx388_1
       replace hx388_2 := pc_ hx388_2
       replace hx388_3 := pc_ hx388_3
       replace p388 := eq_true p388
       replace q388 := eq_true q388
       have p389 : 0 ≤ (x10_1 : Int) := od_
       have q389 : x10_1 < (l0.length : Int) := od_
       obtain ⟨ad389, e389, hx389_0, hx389_1, hx389_2, hx389_3⟩ := at_T28 HR0.out x10_1 p389 q389
       obtain rfl : ad388 = ad389 := (by injection e389)
       replace hx389_0 := pc_ hx389_0
       replace hx389_1 := pc_ hx389_1
       replace hx389_2 := pc_ hx389_2
       replace hx389_3 := pc_ hx389_3
       replace p389 := eq_true p389
       replace q389 := eq_true q389
       go_wp2
       repeat (go_quiet (fail); try go_wp2)
       go_roundg k1
       case measure => have := HK1.out; omega
       case rel => exact ⟨(x9_1), (wrap64 (x10_1 + 1)), (by first | rfl | (simp; done) | (simp [*]; done)), (by first | rfl | (simp; done) | (simp [*]; done)), H', ⟨by have := HK1.out; omega⟩, ⟨by exact BK387.out⟩, ⟨by repeat (first | (with_reducible first | exact HB.out | apply below_alloc | apply pw_below_drewN | apply below_drew1 | refine below_set ?_ GE387.out) | exact HB.out)⟩⟩
     ·rw [if_neg c8] at H
      have c8b0 : (((rd_T28 l0 x10_1).f0) == a1) = false := beq_eq_false_iff_ne.mpr c8
      have c8b1 : (((rd_T28 l0 x10_1).f0) != a1) = true := bne_iff_ne.mpr c8
      have H' := a_ H
      clear H
      have p388 : 0 ≤ (x10_1 : Int) := od_
      have q388 : x10_1 < (l0.length : Int) := od_
      obtain ⟨ad388, e388, hx388_0, hx388_1, hx388_2, hx388_3⟩ := at_T28 HR0.out x10_1 p388 q388
      cases e388
      replace hx388_0 := pc_ hx388_0
      replace hx388_1 := pc_ hx388_1
      replace hx388_2 := pc_ hx388_2
      replace hx388_3 := pc_ hx388_3
      replace p388 := eq_true p388
      replace q388 := eq_true q388
      go_wp2
      repeat (go_quiet (fail); try go_wp2)
      go_roundg k1
      case measure => have := HK1.out; omega
      case rel => exact ⟨(x9_1), (wrap64 (x10_1 + 1)), (by first | rfl | (simp; done) | (simp [*]; done)), (by first | rfl | (simp; done) | (simp [*]; done)), H', ⟨by have := HK1.out; omega⟩, ⟨by exact BK387.out⟩, ⟨by repeat (first | (with_reducible first | exact HB.out | apply below_alloc | apply pw_below_drewN | apply below_drew1 | refine below_set ?_ GE387.out) | exact HB.out)⟩⟩
    ·rw [if_neg c7] at H
     exact absurd H (by simp)
   ·rw [if_neg c6] at H
    have c6b0 : decide (x10_1 < (l0.length : Int)) = false := decide_eq_false c6
    clear c6
    obtain rfl := Option.some.inj H
    go_wp2
    repeat (go_quiet (fail); try go_wp2)
    go_ret
    exact ⟨by first | rfl | (simp [errW_none, errW_some] <;> rfl) | (simp [*, errW_none, errW_some] <;> rfl), by repeat (first | (with_reducible first | exact HB.out | apply below_alloc | apply pw_below_drewN | apply below_drew1 | refine below_set ?_ GE387.out) | exact HB.out)⟩

end Go.Proofs.Ytgfiidgigenibaa.Q
