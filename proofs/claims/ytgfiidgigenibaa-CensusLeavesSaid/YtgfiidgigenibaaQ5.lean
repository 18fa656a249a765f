-- written by wip/drive.py (this session's program) over the kit's print words
import Derived.Test.YtgfiidgigenibaaQ0
namespace Go.Proofs.Ytgfiidgigenibaa.Q
open Go.RowKit Go.Proofs.YtgfiidgigenibaaW.PrintWords Go.Proofs.YtgfiidgigenibaaW.PrintLast Go.Proofs.YtgfiidgigenibaaW.PrintMore
attribute [local go_sem] max2_int min2_int max_two min_two max_three min_three max_four min_four   -- for this text's walks alone
set_option linter.unusedVariables false
set_option linter.unusedSimpArgs false

/-! ### census_Count: function 12 -/
def census_Count.l0 : Nat → Int → Int → Int → List (S28) → Int → Int → Int → Int → Option (Int)
 | 0, _, _, _, _, _, _, _, _ => none
 | k + 1, x1, x2, x9, x12, x13, x14, x106000, x106001 => if x14 < x13 then (if 0 ≤ x14 then (if x14 < (x12.length : Int) then (if ((rd_T28 x12 x14).f0) = x1 then (if ((rd_T28 x12 x14).f1) = x2 then (if ((rd_T28 x12 x14).f3) ≥ x106000 then (if ((rd_T28 x12 x14).f3) < x106001 then (census_Count.l0 k x1 x2 (wrap64 (x9 + ((rd_T28 x12 x14).f2))) x12 x13 (wrap64 (x14 + 1)) x106000 x106001) else (census_Count.l0 k x1 x2 x9 x12 x13 (wrap64 (x14 + 1)) x106000 x106001)) else (census_Count.l0 k x1 x2 x9 x12 x13 (wrap64 (x14 + 1)) x106000 x106001)) else (census_Count.l0 k x1 x2 x9 x12 x13 (wrap64 (x14 + 1)) x106000 x106001)) else (census_Count.l0 k x1 x2 x9 x12 x13 (wrap64 (x14 + 1)) x106000 x106001)) else (none)) else (none)) else (some x9)
def census_Count.f (k : Nat) (l0 : List (S28)) (a1 : Int) (a2 : Int) (a3_0 : Int) (a3_1 : Int) : Option (Int) := census_Count.l0 k a1 a2 0 l0 (l0.length : Int) 0 a3_0 a3_1
theorem census_Count.mono_l : ∀ k, (∀ y0 y1 y2 y3 y4 y5 y6 y7, LeO (census_Count.l0 k y0 y1 y2 y3 y4 y5 y6 y7) (census_Count.l0 (k + 1) y0 y1 y2 y3 y4 y5 y6 y7))
 | 0 => fun _ _ _ _ _ _ _ _ r h => by simp [census_Count.l0] at h
 | k + 1 => by
  have ih0 := census_Count.mono_l k
  ·intro y0 y1 y2 y3 y4 y5 y6 y7
   unfold census_Count.l0
   repeat' first
   | (with_reducible exact ih0 _ _ _ _ _ _ _ _)
   | (with_reducible exact LeO.refl _)
   | (with_reducible exact LeO.none _)
   | (with_reducible refine LeO.ite ?_ ?_)
   | (with_reducible refine LeO.bind ?_ (fun _ => ?_))
   | exact ih0 _ _ _ _ _ _ _ _
   | exact LeO.none _
   | refine LeO.ite ?_ ?_
   | refine LeO.bind ?_ (fun _ => ?_)
theorem census_Count.mono : ∀ a0 a1 a2 a3 a4 k, LeO (census_Count.f k a0 a1 a2 a3 a4) (census_Count.f (k + 1) a0 a1 a2 a3 a4) := by
 intro a0 a1 a2 a3 a4 k
 have ih0 := census_Count.mono_l k
 unfold census_Count.f
 repeat' first
   | (with_reducible exact ih0 _ _ _ _ _ _ _ _)
   | (with_reducible exact LeO.refl _)
   | (with_reducible exact LeO.none _)
   | (with_reducible refine LeO.ite ?_ ?_)
   | (with_reducible refine LeO.bind ?_ (fun _ => ?_))
   | exact ih0 _ _ _ _ _ _ _ _
   | exact LeO.none _
   | refine LeO.ite ?_ ?_
   | refine LeO.bind ?_ (fun _ => ?_)
set_option maxHeartbeats 8000000 in
set_option maxRecDepth 100000 in
theorem census_Count.calls (k : Nat) (A0 : Option Addr) (c0 : Nat) (l0 : List (S28)) (a1 : Int) (a2 : Int) (a3_0 : Int) (a3_1 : Int) (r : Int) (w : World) (hr0 : Kd.C k28 w A0 l0.length l0) (hc0 : l0.length ≤ c0) (h : census_Count.f k l0 a1 a2 a3_0 a3_1 = some r) :
  Calls Try.prog 12 #[.slice A0 l0.length c0, .int .i64 a1, .int .i64 a2, .agg #[.int .i64 a3_0, .int .i64 a3_1]] w fun e w' => e = .returned (.int .i64 r) ∧ Below w.heap.size w w' := by
 have hu31 := Try.underlying31
 have hu28 := Try.underlying28
 have HR0 := a_ hr0
 have HC0 := a_ hc0
 clear hr0 hc0
 have HB := a_ (Below.refl w.heap.size w)
 have H : (census_Count.l0 k a1 a2 0 l0 (l0.length : Int) 0 a3_0 a3_1) = some r := h
 clear h
 have H' := a_ H
 clear H
 go_enter Try.func12, Try.ntmps12
 go_wp2_with (first | ((with_reducible refine gate_dst (N := 7) rfl ?_); refine box_event ?hg (N := 7) ?hd (cs := #[.int .i64 a3_0, .int .i64 a3_1]) (t := 31) ?hr ?_; (case hd => rfl); (case hg => rfl); (case hr => first | (go_simp; done) | (go_simp; rfl)); intro gb105 hg w5 hbox hb; have n0_ := a_ (below_step bel_ hb); have n1_ := a_ (hbox); have n2_ := a_ (bz_ hg : w.heap.size ≤ gb105); have n3_ := a_ (bz_ hg : w.heap.size ≤ gb105); clear HB; have HB := n0_; have BK105 := n1_; have GW105 := n2_; have GE105 := n3_; clear n0_ n1_ n2_ n3_; clear hb hbox hg))
 go_loopg [9, 14] k (fun kq v9 v14 w' => ∃ (x9_1 : Int) (x14_1 : Int), v9 = .int .i64 x9_1 ∧ v14 = .int .i64 x14_1 ∧ Aside0 (census_Count.l0 kq a1 a2 x9_1 l0 (l0.length : Int) x14_1 a3_0 a3_1 = some r) ∧ Aside0 (kq ≤ k) ∧ Aside0 (w'.heap[gb105]? = some (.cells #[.int .i64 a3_0, .int .i64 a3_1] 31 (0, 0))) ∧ Aside0 (Below w.heap.size w w'))
 case atStart => exact ⟨(0), (0), (by first | rfl | (simp; done) | (simp [*]; done)), (by first | rfl | (simp; done) | (simp [*]; done)), H', ⟨Nat.le_refl _⟩, ⟨by exact BK105.out⟩, ⟨by repeat (first | (with_reducible first | exact HB.out | apply below_alloc | apply pw_below_drewN | apply below_drew1 | refine below_set ?_ GE105.out) | exact HB.out)⟩⟩
 case round =>
  clear H'
  try clear c1
  try clear p2
  obtain ⟨x9_1, x14_1, rfl, rfl, HA, HK1, BK105, HB⟩ := hrel
  cases gk with
  | zero => exact absurd HA.out (by simp [census_Count.l0])
  | succ k1 =>
   have H := HA.out
   clear HA
   simp only [census_Count.l0] at H
   by_cases c6 : x14_1 < (l0.length : Int)
   ·rw [if_pos c6] at H
    have c6b0 : decide (x14_1 < (l0.length : Int)) = true := decide_eq_true c6
    clear c6
    by_cases c7 : 0 ≤ x14_1
    ·rw [if_pos c7] at H
     have c7b0 : decide (0 ≤ x14_1) = true := decide_eq_true c7
     clear c7
     by_cases c8 : x14_1 < (l0.length : Int)
     ·rw [if_pos c8] at H
      have c8b0 : decide (x14_1 < (l0.length : Int)) = true := decide_eq_true c8
      clear c8
      by_cases c9 : ((rd_T28 l0 x14_1).f0) = a1
      ·rw [if_pos c9] at H
       have c9b0 : (((rd_T28 l0 x14_1).f0) == a1) = true := beq_iff_eq.mpr c9
       have c9b1 : (((rd_T28 l0 x14_1).f0) != a1) = false := bne_eq_false_iff_eq.mpr c9
       clear c9
       by_cases c10 : ((rd_T28 l0 x14_1).f1) = a2
       ·rw [if_pos c10] at H
        have c10b0 : (((rd_T28 l0 x14_1).f1) == a2) = true := beq_iff_eq.mpr c10
        have c10b1 : (((rd_T28 l0 x14_1).f1) != a2) = false := bne_eq_false_iff_eq.mpr c10
        clear c10
        by_cases c11 : ((rd_T28 l0 x14_1).f3) ≥ a3_0
        ·rw [if_pos c11] at H
         have c11b0 : decide (a3_0 ≤ ((rd_T28 l0 x14_1).f3)) = true := decide_eq_true c11
         clear c11
         by_cases c12 : ((rd_T28 l0 x14_1).f3) < a3_1
         ·rw [if_pos c12] at H
          have c12b0 : decide (((rd_T28 l0 x14_1).f3) < a3_1) = true := decide_eq_true c12
          clear c12
          have H' := a_ H
          clear H
          have p106 : 0 ≤ (x14_1 : Int) := od_
          have q106 : x14_1 < (l0.length : Int) := od_
          obtain ⟨ad106, e106, hx106_0, hx106_1, hx106_2, hx106_3⟩ := at_T28 HR0.out x14_1 p106 q106
          cases e106
          replace hx106_0 := pc_ hx106_0
          replace hx106_1 := pc_ hx106_1
          replace hx106_2 := pc_ hx106_2
          replace hx106_3 := pc_ hx106_3
          replace p106 := eq_true p106
          replace q106 := eq_true q106
          go_wp2_with (first | ((with_reducible refine gate_dst (N := 11) rfl ?_); refine box_event ?hg (N := 11) ?hd (cs := #[.int .i64 0, .int .i64 0, .int .i64 0, .int .i64 0]) (t := 28) ?hr ?_; (case hd => rfl); (case hg => rfl); (case hr => first | (go_simp; done) | (go_simp; rfl)); intro gb107 hg w13 hbox hb; have n0_ := a_ (blk_below (bk_ BK105.out) hb); have n1_ := a_ (below_step bel_ hb); have n2_ := a_ (hbox); have n3_ := a_ (bz_ hg : w.heap.size ≤ gb107); have n4_ := a_ (bz_ hg : w.heap.size ≤ gb107); have n5_ := a_ (nl_ hg (bk_ BK105.out)); have n6_ := a_ (ng_ hg (bk_ BK105.out)); clear BK105; clear HB; have BK105 := n0_; have HB := n1_; have BK107 := n2_; have GW107 := n3_; have GE107 := n4_; have NB105_107 := n5_; have NB107_105 := n6_; clear n0_ n1_ n2_ n3_ n4_ n5_ n6_; clear hb hbox hg; have hnb14 := NB107_105.out; have hnc14 := NB105_107.out; have hcz15_0 := cz_ BK107 0; have hcz15_1 := cz_ BK107 1; have hcz15_2 := cz_ BK107 2; have hcz15_3 := cz_ BK107 3; have hfz15_0 := fz_ BK107 0; have hfz15_1 := fz_ BK107 1; have hfz15_2 := fz_ BK107 2; have hfz15_3 := fz_ BK107 3; have hcz16_0 := cz_ BK105 0; have hcz16_1 := cz_ BK105 1; have hfz16_0 := fz_ BK105 0; have hfz16_1 := fz_ BK105 1))
          go_roundg k1
          case measure => have := HK1.out; omega
          case rel => exact ⟨(wrap64 (x9_1 + ((rd_T28 l0 x14_1).f2))), (wrap64 (x14_1 + 1)), (by first | rfl | (simp; done) | (simp [*]; done)), (by first | rfl | (simp; done) | (simp [*]; done)), H', ⟨by have := HK1.out; omega⟩, ⟨by refine blk_far ?_ NB105_107.out _; refine blk_far ?_ NB105_107.out _; refine blk_far ?_ NB105_107.out _; refine blk_far ?_ NB105_107.out _; exact BK105.out⟩, ⟨by repeat (first | (with_reducible first | exact HB.out | apply below_alloc | apply pw_below_drewN | apply below_drew1 | refine below_set ?_ GE105.out | refine below_set ?_ GE107.out) | exact HB.out)⟩⟩
         ·rw [if_neg c12] at H
          have c12b0 : decide (((rd_T28 l0 x14_1).f3) < a3_1) = false := decide_eq_false c12
          clear c12
          have H' := a_ H
          clear H
          have p106 : 0 ≤ (x14_1 : Int) := od_
          have q106 : x14_1 < (l0.length : Int) := od_
          obtain ⟨ad106, e106, hx106_0, hx106_1, hx106_2, hx106_3⟩ := at_T28 HR0.out x14_1 p106 q106
          cases e106
          replace hx106_0 := pc_ hx106_0
          replace hx106_1 := pc_ hx106_1
          replace hx106_2 := pc_ hx106_2
          replace hx106_3 := pc_ hx106_3
          replace p106 := eq_true p106
          replace q106 := eq_true q106
          go_wp2_with (first | ((with_reducible refine gate_dst (N := 11) rfl ?_); refine box_event ?hg (N := 11) ?hd (cs := #[.int .i64 0, .int .i64 0, .int .i64 0, .int .i64 0]) (t := 28) ?hr ?_; (case hd => rfl); (case hg => rfl); (case hr => first | (go_simp; done) | (go_simp; rfl)); intro gb107 hg w17 hbox hb; have n0_ := a_ (blk_below (bk_ BK105.out) hb); have n1_ := a_ (below_step bel_ hb); have n2_ := a_ (hbox); have n3_ := a_ (bz_ hg : w.heap.size ≤ gb107); have n4_ := a_ (bz_ hg : w.heap.size ≤ gb107); have n5_ := a_ (nl_ hg (bk_ BK105.out)); have n6_ := a_ (ng_ hg (bk_ BK105.out)); clear BK105; clear HB; have BK105 := n0_; have HB := n1_; have BK107 := n2_; have GW107 := n3_; have GE107 := n4_; have NB105_107 := n5_; have NB107_105 := n6_; clear n0_ n1_ n2_ n3_ n4_ n5_ n6_; clear hb hbox hg; have hnb18 := NB107_105.out; have hnc18 := NB105_107.out; have hcz19_0 := cz_ BK107 0; have hcz19_1 := cz_ BK107 1; have hcz19_2 := cz_ BK107 2; have hcz19_3 := cz_ BK107 3; have hfz19_0 := fz_ BK107 0; have hfz19_1 := fz_ BK107 1; have hfz19_2 := fz_ BK107 2; have hfz19_3 := fz_ BK107 3; have hcz20_0 := cz_ BK105 0; have hcz20_1 := cz_ BK105 1; have hfz20_0 := fz_ BK105 0; have hfz20_1 := fz_ BK105 1))
          go_roundg k1
          case measure => have := HK1.out; omega
          case rel => exact ⟨(x9_1), (wrap64 (x14_1 + 1)), (by first | rfl | (simp; done) | (simp [*]; done)), (by first | rfl | (simp; done) | (simp [*]; done)), H', ⟨by have := HK1.out; omega⟩, ⟨by refine blk_far ?_ NB105_107.out _; refine blk_far ?_ NB105_107.out _; refine blk_far ?_ NB105_107.out _; refine blk_far ?_ NB105_107.out _; exact BK105.out⟩, ⟨by repeat (first | (with_reducible first | exact HB.out | apply below_alloc | apply pw_below_drewN | apply below_drew1 | refine below_set ?_ GE105.out | refine below_set ?_ GE107.out) | exact HB.out)⟩⟩
        ·rw [if_neg c11] at H
         have c11b0 : decide (a3_0 ≤ ((rd_T28 l0 x14_1).f3)) = false := decide_eq_false c11
         clear c11
         have H' := a_ H
         clear H
         have p106 : 0 ≤ (x14_1 : Int) := od_
         have q106 : x14_1 < (l0.length : Int) := od_
         obtain ⟨ad106, e106, hx106_0, hx106_1, hx106_2, hx106_3⟩ := at_T28 HR0.out x14_1 p106 q106
         cases e106
         replace hx106_0 := pc_ hx106_0
         replace hx106_1 := pc_ hx106_1
         replace hx106_2 := pc_ hx106_2
         replace hx106_3 := pc_ hx106_3
         replace p106 := eq_true p106
         replace q106 := eq_true q106
         go_wp2_with (first | ((with_reducible refine gate_dst (N := 11) rfl ?_); refine box_event ?hg (N := 11) ?hd (cs := #[.int .i64 0, .int .i64 0, .int .i64 0, .int .i64 0]) (t := 28) ?hr ?_; (case hd => rfl); (case hg => rfl); (case hr => first | (go_simp; done) | (go_simp; rfl)); intro gb107 hg w21 hbox hb; have n0_ := a_ (blk_below (bk_ BK105.out) hb); have n1_ := a_ (below_step bel_ hb); have n2_ := a_ (hbox); have n3_ := a_ (bz_ hg : w.heap.size ≤ gb107); have n4_ := a_ (bz_ hg : w.heap.size ≤ gb107); have n5_ := a_ (nl_ hg (bk_ BK105.out)); have n6_ := a_ (ng_ hg (bk_ BK105.out)); clear BK105; clear HB; have BK105 := n0_; have HB := n1_; have BK107 := n2_; have GW107 := n3_; have GE107 := n4_; have NB105_107 := n5_; have NB107_105 := n6_; clear n0_ n1_ n2_ n3_ n4_ n5_ n6_; clear hb hbox hg; have hnb22 := NB107_105.out; have hnc22 := NB105_107.out; have hcz23_0 := cz_ BK107 0; have hcz23_1 := cz_ BK107 1; have hcz23_2 := cz_ BK107 2; have hcz23_3 := cz_ BK107 3; have hfz23_0 := fz_ BK107 0; have hfz23_1 := fz_ BK107 1; have hfz23_2 := fz_ BK107 2; have hfz23_3 := fz_ BK107 3; have hcz24_0 := cz_ BK105 0; have hcz24_1 := cz_ BK105 1; have hfz24_0 := fz_ BK105 0; have hfz24_1 := fz_ BK105 1))
         go_roundg k1
         case measure => have := HK1.out; omega
         case rel => exact ⟨(x9_1), (wrap64 (x14_1 + 1)), (by first | rfl | (simp; done) | (simp [*]; done)), (by first | rfl | (simp; done) | (simp [*]; done)), H', ⟨by have := HK1.out; omega⟩, ⟨by refine blk_far ?_ NB105_107.out _; refine blk_far ?_ NB105_107.out _; refine blk_far ?_ NB105_107.out _; refine blk_far ?_ NB105_107.out _; exact BK105.out⟩, ⟨by repeat (first | (with_reducible first | exact HB.out | apply below_alloc | apply pw_below_drewN | apply below_drew1 | refine below_set ?_ GE105.out | refine below_set ?_ GE107.out) | exact HB.out)⟩⟩
       ·rw [if_neg c10] at H
        have c10b0 : (((rd_T28 l0 x14_1).f1) == a2) = false := beq_eq_false_iff_ne.mpr c10
        have c10b1 : (((rd_T28 l0 x14_1).f1) != a2) = true := bne_iff_ne.mpr c10
        have H' := a_ H
        clear H
        have p106 : 0 ≤ (x14_1 : Int) := od_
        have q106 : x14_1 < (l0.length : Int) := od_
        obtain ⟨ad106, e106, hx106_0, hx106_1, hx106_2, hx106_3⟩ := at_T28 HR0.out x14_1 p106 q106
        cases e106
        replace hx106_0 := pc_ hx106_0
        replace hx106_1 := pc_ hx106_1
        replace hx106_2 := pc_ hx106_2
        replace hx106_3 := pc_ hx106_3
        replace p106 := eq_true p106
        replace q106 := eq_true q106
        go_wp2_with (first | ((with_reducible refine gate_dst (N := 11) rfl ?_); refine box_event ?hg (N := 11) ?hd (cs := #[.int .i64 0, .int .i64 0, .int .i64 0, .int .i64 0]) (t := 28) ?hr ?_; (case hd => rfl); (case hg => rfl); (case hr => first | (go_simp; done) | (go_simp; rfl)); intro gb107 hg w25 hbox hb; have n0_ := a_ (blk_below (bk_ BK105.out) hb); have n1_ := a_ (below_step bel_ hb); have n2_ := a_ (hbox); have n3_ := a_ (bz_ hg : w.heap.size ≤ gb107); have n4_ := a_ (bz_ hg : w.heap.size ≤ gb107); have n5_ := a_ (nl_ hg (bk_ BK105.out)); have n6_ := a_ (ng_ hg (bk_ BK105.out)); clear BK105; clear HB; have BK105 := n0_; have HB := n1_; have BK107 := n2_; have GW107 := n3_; have GE107 := n4_; have NB105_107 := n5_; have NB107_105 := n6_; clear n0_ n1_ n2_ n3_ n4_ n5_ n6_; clear hb hbox hg; have hnb26 := NB107_105.out; have hnc26 := NB105_107.out; have hcz27_0 := cz_ BK107 0; have hcz27_1 := cz_ BK107 1; have hcz27_2 := cz_ BK107 2; have hcz27_3 := cz_ BK107 3; have hfz27_0 := fz_ BK107 0; have hfz27_1 := fz_ BK107 1; have hfz27_2 := fz_ BK107 2; have hfz27_3 := fz_ BK107 3))
        go_roundg k1
        case measure => have := HK1.out; omega
        case rel => exact ⟨(x9_1), (wrap64 (x14_1 + 1)), (by first | rfl | (simp; done) | (simp [*]; done)), (by first | rfl | (simp; done) | (simp [*]; done)), H', ⟨by have := HK1.out; omega⟩, ⟨by refine blk_far ?_ NB105_107.out _; refine blk_far ?_ NB105_107.out _; refine blk_far ?_ NB105_107.out _; refine blk_far ?_ NB105_107.out _; exact BK105.out⟩, ⟨by repeat (first | (with_reducible first | exact HB.out | apply below_alloc | apply pw_below_drewN | apply below_drew1 | refine below_set ?_ GE105.out | refine below_set ?_ GE107.out) | exact HB.out)⟩⟩
      ·rw [if_neg c9] at H
       have c9b0 : (((rd_T28 l0 x14_1).f0) == a1) = false := beq_eq_false_iff_ne.mpr c9
       have c9b1 : (((rd_T28 l0 x14_1).f0) != a1) = true := bne_iff_ne.mpr c9
       have H' := a_ H
       clear H
       have p106 : 0 ≤ (x14_1 : Int) := od_
       have q106 : x14_1 < (l0.length : Int) := od_
       obtain ⟨ad106, e106, hx106_0, hx106_1, hx106_2, hx106_3⟩ := at_T28 HR0.out x14_1 p106 q106
       cases e106
       replace hx106_0 := pc_ hx106_0
       replace hx106_1 := pc_ hx106_1
       replace hx106_2 := pc_ hx106_2
       replace hx106_3 := pc_ hx106_3
       replace p106 := eq_true p106
       replace q106 := eq_true q106
       go_wp2_with (first | ((with_reducible refine gate_dst (N := 11) rfl ?_); refine box_event ?hg (N := 11) ?hd (cs := #[.int .i64 0, .int .i64 0, .int .i64 0, .int .i64 0]) (t := 28) ?hr ?_; (case hd => rfl); (case hg => rfl); (case hr => first | (go_simp; done) | (go_simp; rfl)); intro gb107 hg w28 hbox hb; have n0_ := a_ (blk_below (bk_ BK105.out) hb); have n1_ := a_ (below_step bel_ hb); have n2_ := a_ (hbox); have n3_ := a_ (bz_ hg : w.heap.size ≤ gb107); have n4_ := a_ (bz_ hg : w.heap.size ≤ gb107); have n5_ := a_ (nl_ hg (bk_ BK105.out)); have n6_ := a_ (ng_ hg (bk_ BK105.out)); clear BK105; clear HB; have BK105 := n0_; have HB := n1_; have BK107 := n2_; have GW107 := n3_; have GE107 := n4_; have NB105_107 := n5_; have NB107_105 := n6_; clear n0_ n1_ n2_ n3_ n4_ n5_ n6_; clear hb hbox hg; have hnb29 := NB107_105.out; have hnc29 := NB105_107.out; have hcz30_0 := cz_ BK107 0; have hcz30_1 := cz_ BK107 1; have hcz30_2 := cz_ BK107 2; have hcz30_3 := cz_ BK107 3; have hfz30_0 := fz_ BK107 0; have hfz30_1 := fz_ BK107 1; have hfz30_2 := fz_ BK107 2; have hfz30_3 := fz_ BK107 3))
       go_roundg k1
       case measure => have := HK1.out; omega
       case rel => exact ⟨(x9_1), (wrap64 (x14_1 + 1)), (by first | rfl | (simp; done) | (simp [*]; done)), (by first | rfl | (simp; done) | (simp [*]; done)), H', ⟨by have := HK1.out; omega⟩, ⟨by refine blk_far ?_ NB105_107.out _; refine blk_far ?_ NB105_107.out _; refine blk_far ?_ NB105_107.out _; refine blk_far ?_ NB105_107.out _; exact BK105.out⟩, ⟨by repeat (first | (with_reducible first | exact HB.out | apply below_alloc | apply pw_below_drewN | apply below_drew1 | refine below_set ?_ GE105.out | refine below_set ?_ GE107.out) | exact HB.out)⟩⟩
     ·rw [if_neg c8] at H
      exact absurd H (by simp)
    ·rw [if_neg c7] at H
     exact absurd H (by simp)
   ·rw [if_neg c6] at H
    have c6b0 : decide (x14_1 < (l0.length : Int)) = false := decide_eq_false c6
    clear c6
    obtain rfl := Option.some.inj H
    go_wp2
    go_ret
    exact ⟨by first | rfl | (simp [errW_none, errW_some] <;> rfl) | (simp [*, errW_none, errW_some] <;> rfl), by repeat (first | (with_reducible first | exact HB.out | apply below_alloc | apply pw_below_drewN | apply below_drew1 | refine below_set ?_ GE105.out) | exact HB.out)⟩

end Go.Proofs.Ytgfiidgigenibaa.Q
