-- written by wip/drive.py (this session's program) over the kit's print words
import Derived.Test.YtmhggplhfcmgkaaQ0
import Derived.Test.YtmhggplhfcmgkaaQ45
import Derived.Test.YtmhggplhfcmgkaaQ51
import Derived.Test.YtmhggplhfcmgkaaQ53
import Derived.Test.YtmhggplhfcmgkaaQ55
import Derived.Test.YtmhggplhfcmgkaaQ59
import Derived.Test.YtmhggplhfcmgkaaQ60
import Derived.Test.YtmhggplhfcmgkaaQ67
namespace Go.Proofs.Ytmhggplhfcmgkaa.Q
open Go.RowKit Go.Proofs.YtmhggplhfcmgkaaW.PrintWords Go.Proofs.YtmhggplhfcmgkaaW.PrintLast Go.Proofs.YtmhggplhfcmgkaaW.PrintMore
attribute [local go_sem] max2_int min2_int max_two min_two max_three min_three max_four min_four   -- for this text's walks alone
set_option linter.unusedVariables false
set_option linter.unusedSimpArgs false

/-! ### skiarealaw53_PatrolHazards: function 16 -/
def skiarealaw53_PatrolHazards.j0 : Nat → Int → Int → Bool → List (S63) → List (S56) → Int → Int → Int → Option (Bool)
 | 0, _, _, _, _, _, _, _, _ => none
 | k + 1, x2, x3, x22, x706000, x706001, x707000, x707001, x707002 => if x22 = true then (some true) else ((patrol_Report.f k x706000 x706001 x707000 x707001 x707002).bind fun bt710 => (if bt710.2.2 = 0 then ((patrol_Remove.f bt710.1 bt710.2.1 x707000).bind fun bt718 => ((patrol_Ready.f bt710.1 bt710.2.1 x707001 x3).bind fun t726 => (if t726 = true then (some false) else (if x2 = x707001 then (if bt718.2.2 = 0 then ((skiarearef53_Same.f k bt718.1 bt718.2.1 x706000 x706001).bind fun t727 => (if t727 = true then (some ((bt710.2.1.length : Int) == (wrap64 ((x706001.length : Int) + 1)))) else (some false))) else (some false)) else ((patrol_Ready.f bt710.1 bt710.2.1 x2 x3).bind fun t728 => ((patrol_Ready.f x706000 x706001 x2 x3).bind fun t729 => (if (t728 == t729) = true then (if bt718.2.2 = 0 then ((skiarearef53_Same.f k bt718.1 bt718.2.1 x706000 x706001).bind fun t730 => (if t730 = true then (some ((bt710.2.1.length : Int) == (wrap64 ((x706001.length : Int) + 1)))) else (some false))) else (some false)) else (some false)))))))) else (if (bt710.1.length : Int) = 0 then (some ((bt710.2.1.length : Int) == 0)) else (some false))))
def skiarealaw53_PatrolHazards.f (k : Nat) (l0_0 : List (S63)) (l0_1 : List (S56)) (a1_0 : Int) (a1_1 : Int) (a1_2 : Int) (a2 : Int) (a3 : Int) : Option (Bool) := (skiarealaw53_alive.f).bind fun t707 => (if t707 = true then ((skiarealaw53_small.f k l0_0 l0_1).bind fun t708 => (if t708 = true then ((patrol_Right.f k l0_0 l0_1).bind fun t709 => (skiarealaw53_PatrolHazards.j0 k a2 a3 (t709 != 0) l0_0 l0_1 a1_0 a1_1 a1_2)) else (skiarealaw53_PatrolHazards.j0 k a2 a3 true l0_0 l0_1 a1_0 a1_1 a1_2))) else (some false))
theorem skiarealaw53_PatrolHazards.mono_l : ∀ k, (∀ y0 y1 y2 y3 y4 y5 y6 y7, LeO (skiarealaw53_PatrolHazards.j0 k y0 y1 y2 y3 y4 y5 y6 y7) (skiarealaw53_PatrolHazards.j0 (k + 1) y0 y1 y2 y3 y4 y5 y6 y7))
 | 0 => fun _ _ _ _ _ _ _ _ r h => by simp [skiarealaw53_PatrolHazards.j0] at h
 | k + 1 => by
  have ih0 := skiarealaw53_PatrolHazards.mono_l k
  ·intro y0 y1 y2 y3 y4 y5 y6 y7
   unfold skiarealaw53_PatrolHazards.j0
   repeat' first
   | (with_reducible exact ih0 _ _ _ _ _ _ _ _)
   | (with_reducible exact patrol_Report.mono _ _ _ _ _ _)
   | (with_reducible exact patrol_Right.mono _ _ _)
   | (with_reducible exact skiarealaw53_small.mono _ _ _)
   | (with_reducible exact skiarearef53_Same.mono _ _ _ _ _)
   | (with_reducible exact LeO.refl _)
   | (with_reducible exact LeO.none _)
   | (with_reducible refine LeO.ite ?_ ?_)
   | (with_reducible refine LeO.bind ?_ (fun _ => ?_))
   | exact ih0 _ _ _ _ _ _ _ _
   | exact patrol_Report.mono _ _ _ _ _ _
   | exact patrol_Right.mono _ _ _
   | exact skiarealaw53_small.mono _ _ _
   | exact skiarearef53_Same.mono _ _ _ _ _
   | exact LeO.none _
   | refine LeO.ite ?_ ?_
   | refine LeO.bind ?_ (fun _ => ?_)
theorem skiarealaw53_PatrolHazards.mono : ∀ a0 a1 a2 a3 a4 a5 a6 k, LeO (skiarealaw53_PatrolHazards.f k a0 a1 a2 a3 a4 a5 a6) (skiarealaw53_PatrolHazards.f (k + 1) a0 a1 a2 a3 a4 a5 a6) := by
 intro a0 a1 a2 a3 a4 a5 a6 k
 have ih0 := skiarealaw53_PatrolHazards.mono_l k
 unfold skiarealaw53_PatrolHazards.f
 repeat' first
   | (with_reducible exact ih0 _ _ _ _ _ _ _ _)
   | (with_reducible exact patrol_Report.mono _ _ _ _ _ _)
   | (with_reducible exact patrol_Right.mono _ _ _)
   | (with_reducible exact skiarealaw53_small.mono _ _ _)
   | (with_reducible exact skiarearef53_Same.mono _ _ _ _ _)
   | (with_reducible exact LeO.refl _)
   | (with_reducible exact LeO.none _)
   | (with_reducible refine LeO.ite ?_ ?_)
   | (with_reducible refine LeO.bind ?_ (fun _ => ?_))
   | exact ih0 _ _ _ _ _ _ _ _
   | exact patrol_Report.mono _ _ _ _ _ _
   | exact patrol_Right.mono _ _ _
   | exact skiarealaw53_small.mono _ _ _
   | exact skiarearef53_Same.mono _ _ _ _ _
   | exact LeO.none _
   | refine LeO.ite ?_ ?_
   | refine LeO.bind ?_ (fun _ => ?_)
def skiarealaw53_PatrolHazards.T9 : Bool × List (List Nat × List Nat) := (true, [([], []), ([], []), ([1], [1]), ([], []), ([0, 2, 3], [0, 2, 3]), ([4], [4]), ([5, 4], [5]), ([6], [6]), ([6], [6]), ([8, 6], [6, 8]), ([7, 9, 6], [6, 7, 9]), ([10, 6, 6], [6, 10]), ([11], [11]), ([11], [11]), ([11], [11]), ([12, 13, 14, 11, 11], [11, 12, 13, 14]), ([11], [11]), ([11], [11]), ([11], [11]), ([16, 17, 18, 15, 11], [11, 16, 17, 18]), ([15, 19, 11], [11, 15, 19]), ([11, 20, 6], [6, 11, 20]), ([6, 21], [6, 21]), ([22, 19], [22]), ([23], [23]), ([24, 23], [23, 24]), ([23, 25], [23, 25]), ([26, 23], [26]), ([27], [27]), ([27], [27]), ([28, 29, 27, 27], [27, 28, 29]), ([27, 30], [27, 30]), ([31, 30], [31]), ([32], [32]), ([33, 32], [32, 33]), ([34, 32], [32, 34]), ([32], [32]), ([36, 32], [32, 36]), ([37, 32], [32, 37]), ([38, 32], [32, 38]), ([35, 39, 32], [32, 35, 39]), ([32, 40], [32, 40]), ([41, 32, 0, 1, 2, 3, 4, 5, 6, 7, 8, 9, 10, 11, 12, 13, 14, 15, 16, 17, 18, 19, 20, 21, 22, 23, 24, 25, 26, 27, 28, 29, 30, 31, 32, 33, 34, 35, 36, 37, 38, 39, 40, 41], [41])])
def skiarealaw53_PatrolHazards.B9 : List Nat := [0, 0, 2, 0, 15, 31, 63, 127, 127, 383, 1023, 2047, 4095, 4095, 4095, 32767, 4095, 4095, 4095, 524287, 1048575, 2097151, 4194303, 8388607, 16777215, 33554431, 67108863, 134217727, 268435455, 268435455, 1073741823, 2147483647, 4294967295, 8589934591, 17179869183, 34359738367, 8589934591, 77309411327, 214748364799, 489626271743, 1099511627775, 2199023255551, 4398046511103]
theorem skiarealaw53_PatrolHazards.tab9 : rtab .any (opsOf Try.f16 9) = skiarealaw53_PatrolHazards.T9 := by kernel_rfl
theorem skiarealaw53_PatrolHazards.bits9 : waitsOk skiarealaw53_PatrolHazards.T9.2 skiarealaw53_PatrolHazards.B9 = true := by kernel_rfl
set_option maxHeartbeats 8000000 in
set_option maxRecDepth 100000 in
theorem skiarealaw53_PatrolHazards.calls (k : Nat) (A0_0 : Option Addr) (c0_0 : Nat) (l0_0 : List (S63)) (A0_1 : Option Addr) (c0_1 : Nat) (l0_1 : List (S56)) (a1_0 : Int) (a1_1 : Int) (a1_2 : Int) (a2 : Int) (a3 : Int) (w : World) (hr0_0 : Kd.C k63 w A0_0 l0_0.length l0_0) (hc0_0 : l0_0.length ≤ c0_0) (hr0_1 : Kd.C k56 w A0_1 l0_1.length l0_1) (hc0_1 : l0_1.length ≤ c0_1) (h : skiarealaw53_PatrolHazards.f k l0_0 l0_1 a1_0 a1_1 a1_2 a2 a3 = some true) :
  Calls Try.prog 16 #[.agg #[.slice A0_0 l0_0.length c0_0, .slice A0_1 l0_1.length c0_1], .agg #[.int .i64 a1_0, .int .i64 a1_1, .int .i64 a1_2], .int .i64 a2, .int .i64 a3] w fun e w' => e = .returned (.bool true) ∧ Below w.heap.size w w' := by
 have hu48 := Try.underlying48
 have hu56 := Try.underlying56
 have HR0_0 := Aside0.mk hr0_0
 have HC0_0 := Aside0.mk hc0_0
 clear hr0_0 hc0_0
 have HR0_1 := Aside0.mk hr0_1
 have HC0_1 := Aside0.mk hc0_1
 clear hr0_1 hc0_1
 have HB := Aside0.mk (Below.refl w.heap.size w)
 have H : ((skiarealaw53_alive.f).bind fun t707 => (if t707 = true then ((skiarealaw53_small.f k l0_0 l0_1).bind fun t708 => (if t708 = true then ((patrol_Right.f k l0_0 l0_1).bind fun t709 => (skiarealaw53_PatrolHazards.j0 k a2 a3 (t709 != 0) l0_0 l0_1 a1_0 a1_1 a1_2)) else (skiarealaw53_PatrolHazards.j0 k a2 a3 true l0_0 l0_1 a1_0 a1_1 a1_2))) else (some false))) = some true := h
 clear h
 replace H := Option.bind_eq_some_iff.mp H
 obtain ⟨t707, A50, H⟩ := H
 replace H : (if t707 = true then ((skiarealaw53_small.f k l0_0 l0_1).bind fun t708 => (if t708 = true then ((patrol_Right.f k l0_0 l0_1).bind fun t709 => (skiarealaw53_PatrolHazards.j0 k a2 a3 (t709 != 0) l0_0 l0_1 a1_0 a1_1 a1_2)) else (skiarealaw53_PatrolHazards.j0 k a2 a3 true l0_0 l0_1 a1_0 a1_1 a1_2))) else (some false)) = some true := H
 have A5 := Aside0.mk A50
 clear A50
 by_cases c6 : t707 = true
 ·subst c6
  have H1 : ((skiarealaw53_small.f k l0_0 l0_1).bind fun t708 => (if t708 = true then ((patrol_Right.f k l0_0 l0_1).bind fun t709 => (skiarealaw53_PatrolHazards.j0 k a2 a3 (t709 != 0) l0_0 l0_1 a1_0 a1_1 a1_2)) else (skiarealaw53_PatrolHazards.j0 k a2 a3 true l0_0 l0_1 a1_0 a1_1 a1_2))) = some true := by rw [if_pos rfl] at H; exact H
  clear H
  have H := H1
  clear H1
  have HC7 := Aside0.mk H
  clear H
  go_enter Try.func16, Try.ntmps16
  go_upto_region 3 with (first | ((with_reducible refine gate_dst (N := 4) rfl ?_); (try (refine gate_guard (by rfl) ?_; dsimp only)); refine box_event ?hg (N := 4) ?hd (cs := #[.slice A0_0 l0_0.length c0_0, .slice A0_1 l0_1.length c0_1]) (t := 48) ?hr ?_; (case hd => rfl); (case hg => rfl); (case hr => first | (go_simp; done) | (go_simp; rfl)); intro gb705 hg w8 hbox hb; have n0_ := Aside0.mk (below_step bel_ hb); have n1_ := Aside0.mk (hbox); have n2_ := Aside0.mk ((by rw [hg]; exact (below_size bel_) : w.heap.size ≤ gb705)); have n3_ := Aside0.mk ((by rw [hg]; exact (below_size bel_) : w.heap.size ≤ gb705)); clear HB; have HB := n0_; have BK705 := n1_; have GW705 := n2_; have GE705 := n3_; clear n0_ n1_ n2_ n3_; clear hb hbox hg) | ((with_reducible refine gate_dst (N := 5) rfl ?_); (try (refine gate_guard (by rfl) ?_; dsimp only)); refine box_event ?hg (N := 5) ?hd (cs := #[.int .i64 a1_0, .int .i64 a1_1, .int .i64 a1_2]) (t := 56) ?hr ?_; (case hd => rfl); (case hg => rfl); (case hr => first | (go_simp; done) | (go_simp; rfl)); intro gb706 hg w9 hbox hb; have n0_ := Aside0.mk (blk_below BK705.out hb); have n1_ := Aside0.mk (below_step bel_ hb); have n2_ := Aside0.mk (hbox); have n3_ := Aside0.mk ((by rw [hg]; exact (below_size bel_) : w.heap.size ≤ gb706)); have n4_ := Aside0.mk ((by rw [hg]; exact (below_size bel_) : w.heap.size ≤ gb706)); have n5_ := Aside0.mk ((by rw [hg]; exact Nat.ne_of_lt (blk_lt BK705.out) : gb705 ≠ gb706)); have n6_ := Aside0.mk ((by rw [hg]; exact Nat.ne_of_gt (blk_lt BK705.out) : gb706 ≠ gb705)); clear BK705; clear HB; have BK705 := n0_; have HB := n1_; have BK706 := n2_; have GW706 := n3_; have GE706 := n4_; have NB705_706 := n5_; have NB706_705 := n6_; clear n0_ n1_ n2_ n3_ n4_ n5_ n6_; clear hb hbox hg) | ((with_reducible refine gate_callee (f := 34) rfl ?_); refine goesL_ (some 13) rfl rfl Try.func34 (by kernel_rfl) rfl #[] rfl (by (try simp only [List.map_toArray, List.map_cons, List.map_nil]); first | done | rfl | (simp only [List.length_drop, List.length_take]; rfl)) ?_; (with_reducible refine (skiarealaw53_alive.calls  true _ A5.out).mono ?_); rintro e w10 ⟨rfl, hb⟩; refine ⟨_, rfl, ?_⟩; have n0_ := Aside0.mk (blk_below BK705.out hb); have n1_ := Aside0.mk (blk_below BK706.out hb); have n2_ := Aside0.mk (below_step bel_ hb); clear BK705; clear BK706; clear HB; have BK705 := n0_; have BK706 := n1_; have HB := n2_; clear n0_ n1_ n2_; (try clear hb); (try clear hb2); (try clear hk); (try clear hi)))
  (try simp only [Act.put, List.setIfInBounds_toArray, List.set_cons_zero, List.set_cons_succ])
  go_cut [22] (fun v22 wc => ∃ (kq : Nat) (x22_6 : Bool), v22 = .bool x22_6 ∧ Aside0 (skiarealaw53_PatrolHazards.j0 kq a2 a3 x22_6 l0_0 l0_1 a1_0 a1_1 a1_2 = some true) ∧ Aside0 (kq ≤ k) ∧ Aside0 (wc.heap[gb705]? = some (.cells #[(.slice A0_0 l0_0.length c0_0), (.slice A0_1 l0_1.length c0_1)] 48 (0, 0))) ∧ Aside0 (wc.heap[gb706]? = some (.cells #[.int .i64 a1_0, .int .i64 a1_1, .int .i64 a1_2] 56 (0, 0))) ∧ Aside0 (Below w.heap.size w wc))
  case first =>
   have H := HC7.out
   clear HC7
   replace H := Option.bind_eq_some_iff.mp H
   obtain ⟨t708, A110, H⟩ := H
   replace H : (if t708 = true then ((patrol_Right.f k l0_0 l0_1).bind fun t709 => (skiarealaw53_PatrolHazards.j0 k a2 a3 (t709 != 0) l0_0 l0_1 a1_0 a1_1 a1_2)) else (skiarealaw53_PatrolHazards.j0 k a2 a3 true l0_0 l0_1 a1_0 a1_1 a1_2)) = some true := H
   have A11 := Aside0.mk A110
   clear A110
   by_cases c12 : t708 = true
   ·subst c12
    have H1 : ((patrol_Right.f k l0_0 l0_1).bind fun t709 => (skiarealaw53_PatrolHazards.j0 k a2 a3 (t709 != 0) l0_0 l0_1 a1_0 a1_1 a1_2)) = some true := by rw [if_pos rfl] at H; exact H
    clear H
    have H := H1
    clear H1
    replace H := Option.bind_eq_some_iff.mp H
    obtain ⟨t709, A130, H⟩ := H
    replace H : (skiarealaw53_PatrolHazards.j0 k a2 a3 (t709 != 0) l0_0 l0_1 a1_0 a1_1 a1_2) = some true := H
    have A13 := Aside0.mk A130
    clear A130
    have H' := Aside0.mk H
    clear H
    have hnb14 := NB705_706.out
    have hnc14 := NB706_705.out
    have hcz15_0 : w10.cell? ⟨gb705, 0, none⟩ = some (.slice A0_0 l0_0.length c0_0) := (blk_cell BK705.out 0).trans rfl
    have hcz15_1 : w10.cell? ⟨gb705, 1, none⟩ = some (.slice A0_1 l0_1.length c0_1) := (blk_cell BK705.out 1).trans rfl
    have hfz15_0 := blk_frozen BK705.out 0
    have hfz15_1 := blk_frozen BK705.out 1
    go_wp2_with (first | ((with_reducible refine gate_callee (f := 35) rfl ?_); refine goesL_ (some 16) rfl rfl Try.func35 (by kernel_rfl) rfl #[.agg #[.slice A0_0 l0_0.length c0_0, .slice A0_1 l0_1.length c0_1]] rfl (by (try simp only [List.map_toArray, List.map_cons, List.map_nil]); first | done | rfl | (simp only [List.length_drop, List.length_take]; rfl)) ?_; (with_reducible refine (skiarealaw53_small.calls k _ _ l0_0 _ _ l0_1 true _ ?side1 ?side2 ?side3 ?side4 A11.out).mono ?_); (case side1 => repeat (first | exact (Kd.C_below HR0_0.out HB.out) | (with_reducible refine Kd.C_alloc ?_ _) | (with_reducible refine Kd.C_drewN ?_ _) | (with_reducible refine Kd.C_drew ?_))); (case side2 => exact HC0_0.out); (case side3 => repeat (first | exact (Kd.C_below HR0_1.out HB.out) | (with_reducible refine Kd.C_alloc ?_ _) | (with_reducible refine Kd.C_drewN ?_ _) | (with_reducible refine Kd.C_drew ?_))); (case side4 => exact HC0_1.out); rintro e w16 ⟨rfl, hb⟩; refine ⟨_, rfl, ?_⟩; have n0_ := Aside0.mk (blk_below BK705.out hb); have n1_ := Aside0.mk (blk_below BK706.out hb); have n2_ := Aside0.mk (below_step bel_ hb); clear BK705; clear BK706; clear HB; have BK705 := n0_; have BK706 := n1_; have HB := n2_; clear n0_ n1_ n2_; (try clear hb); (try clear hb2); (try clear hk); (try clear hi); have hcz17_0 : w16.cell? ⟨gb705, 0, none⟩ = some (.slice A0_0 l0_0.length c0_0) := (blk_cell BK705.out 0).trans rfl; have hcz17_1 : w16.cell? ⟨gb705, 1, none⟩ = some (.slice A0_1 l0_1.length c0_1) := (blk_cell BK705.out 1).trans rfl; have hfz17_0 := blk_frozen BK705.out 0; have hfz17_1 := blk_frozen BK705.out 1) | (go_at_call 36; (with_reducible refine (patrol_Right.calls k _ _ l0_0 _ _ l0_1 t709 _ ?side1 ?side2 ?side3 ?side4 A13.out).mono ?_); (case side1 => repeat (first | exact (Kd.C_below HR0_0.out HB.out) | (with_reducible refine Kd.C_alloc ?_ _) | (with_reducible refine Kd.C_drewN ?_ _) | (with_reducible refine Kd.C_drew ?_))); (case side2 => exact HC0_0.out); (case side3 => repeat (first | exact (Kd.C_below HR0_1.out HB.out) | (with_reducible refine Kd.C_alloc ?_ _) | (with_reducible refine Kd.C_drewN ?_ _) | (with_reducible refine Kd.C_drew ?_))); (case side4 => exact HC0_1.out); rintro e w18 ⟨rfl, hb⟩; have n0_ := Aside0.mk (blk_below BK705.out hb); have n1_ := Aside0.mk (blk_below BK706.out hb); have n2_ := Aside0.mk (below_step bel_ hb); clear BK705; clear BK706; clear HB; have BK705 := n0_; have BK706 := n1_; have HB := n2_; clear n0_ n1_ n2_; (try clear hb); (try clear hb2); (try clear hk); (try clear hi)))
    go_meet
    case rel => exact ⟨_, ((t709 != 0)), (by first | rfl | (simp; done) | (simp [*]; done)), H', ⟨by first | omega | exact Nat.le_refl _⟩, ⟨by exact BK705.out⟩, ⟨by exact BK706.out⟩, ⟨by repeat (first | (with_reducible first | exact HB.out | apply below_alloc | apply pw_below_drewN | apply below_drew1 | refine below_set ?_ GE705.out | refine below_set ?_ GE706.out) | exact HB.out)⟩⟩
   ·replace c12 := Bool.eq_false_iff.mpr c12
    subst c12
    have H1 : (skiarealaw53_PatrolHazards.j0 k a2 a3 true l0_0 l0_1 a1_0 a1_1 a1_2) = some true := by rw [if_neg (show ¬ (false = true) by decide)] at H; exact H
    clear H
    have H := H1
    clear H1
    have H' := Aside0.mk H
    clear H
    have hnb19 := NB705_706.out
    have hnc19 := NB706_705.out
    have hcz20_0 : w10.cell? ⟨gb705, 0, none⟩ = some (.slice A0_0 l0_0.length c0_0) := (blk_cell BK705.out 0).trans rfl
    have hcz20_1 : w10.cell? ⟨gb705, 1, none⟩ = some (.slice A0_1 l0_1.length c0_1) := (blk_cell BK705.out 1).trans rfl
    have hfz20_0 := blk_frozen BK705.out 0
    have hfz20_1 := blk_frozen BK705.out 1
    go_wp2_with (first | ((with_reducible refine gate_callee (f := 35) rfl ?_); refine goesL_ (some 16) rfl rfl Try.func35 (by kernel_rfl) rfl #[.agg #[.slice A0_0 l0_0.length c0_0, .slice A0_1 l0_1.length c0_1]] rfl (by (try simp only [List.map_toArray, List.map_cons, List.map_nil]); first | done | rfl | (simp only [List.length_drop, List.length_take]; rfl)) ?_; (with_reducible refine (skiarealaw53_small.calls k _ _ l0_0 _ _ l0_1 false _ ?side1 ?side2 ?side3 ?side4 A11.out).mono ?_); (case side1 => repeat (first | exact (Kd.C_below HR0_0.out HB.out) | (with_reducible refine Kd.C_alloc ?_ _) | (with_reducible refine Kd.C_drewN ?_ _) | (with_reducible refine Kd.C_drew ?_))); (case side2 => exact HC0_0.out); (case side3 => repeat (first | exact (Kd.C_below HR0_1.out HB.out) | (with_reducible refine Kd.C_alloc ?_ _) | (with_reducible refine Kd.C_drewN ?_ _) | (with_reducible refine Kd.C_drew ?_))); (case side4 => exact HC0_1.out); rintro e w21 ⟨rfl, hb⟩; refine ⟨_, rfl, ?_⟩; have n0_ := Aside0.mk (blk_below BK705.out hb); have n1_ := Aside0.mk (blk_below BK706.out hb); have n2_ := Aside0.mk (below_step bel_ hb); clear BK705; clear BK706; clear HB; have BK705 := n0_; have BK706 := n1_; have HB := n2_; clear n0_ n1_ n2_; (try clear hb); (try clear hb2); (try clear hk); (try clear hi)))
    go_meet
    case rel => exact ⟨_, (true), (by first | rfl | (simp; done) | (simp [*]; done)), H', ⟨by first | omega | exact Nat.le_refl _⟩, ⟨by exact BK705.out⟩, ⟨by exact BK706.out⟩, ⟨by repeat (first | (with_reducible first | exact HB.out | apply below_alloc | apply pw_below_drewN | apply below_drew1 | refine below_set ?_ GE705.out | refine below_set ?_ GE706.out) | exact HB.out)⟩⟩
  case rest =>
   clear HC7
   try clear c1
   try clear p2
   try clear c3
   try clear c6
   try clear c12
   try clear c14
   try clear c16
   try clear c19
   try clear hcz15_0
   try clear hcz15_1
   try clear hcz17_0
   try clear hcz17_1
   try clear hcz20_0
   try clear hcz20_1
   try clear hfz15_0
   try clear hfz15_1
   try clear hfz17_0
   try clear hfz17_1
   try clear hfz20_0
   try clear hfz20_1
   obtain ⟨kq, x22_6, rfl, HA, HJ6, BK705, BK706, HB⟩ := hcut
   cases kq with
   | zero => exact absurd HA.out (by simp [skiarealaw53_PatrolHazards.j0])
   | succ kj6 =>
    have H := HA.out
    clear HA
    simp only [skiarealaw53_PatrolHazards.j0] at H
    by_cases c22 : x22_6 = true
    ·subst c22
     have H1 : (some true) = some true := rfl
     clear H
     have H := H1
     clear H1
     clear H
     go_wp2
     go_ret
     exact ⟨by first | rfl | (rw [HTR.out]; rfl) | (exact congrArg (fun b => Ending.returned (Value.bool b)) HTR.out) | (simpa using HTR.out) | (simp [errW_none, errW_some] <;> rfl) | (simp [*, errW_none, errW_some] <;> rfl), by repeat (first | (with_reducible first | exact HB.out | apply below_alloc | apply pw_below_drewN | apply below_drew1 | refine below_set ?_ GE705.out | refine below_set ?_ GE706.out) | exact HB.out)⟩
    ·replace c22 := Bool.eq_false_iff.mpr c22
     subst c22
     have H1 : ((patrol_Report.f kj6 l0_0 l0_1 a1_0 a1_1 a1_2).bind fun bt710 => (if bt710.2.2 = 0 then ((patrol_Remove.f bt710.1 bt710.2.1 a1_0).bind fun bt718 => ((patrol_Ready.f bt710.1 bt710.2.1 a1_1 a3).bind fun t726 => (if t726 = true then (some false) else (if a2 = a1_1 then (if bt718.2.2 = 0 then ((skiarearef53_Same.f kj6 bt718.1 bt718.2.1 l0_0 l0_1).bind fun t727 => (if t727 = true then (some ((bt710.2.1.length : Int) == (wrap64 ((l0_1.length : Int) + 1)))) else (some false))) else (some false)) else ((patrol_Ready.f bt710.1 bt710.2.1 a2 a3).bind fun t728 => ((patrol_Ready.f l0_0 l0_1 a2 a3).bind fun t729 => (if (t728 == t729) = true then (if bt718.2.2 = 0 then ((skiarearef53_Same.f kj6 bt718.1 bt718.2.1 l0_0 l0_1).bind fun t730 => (if t730 = true then (some ((bt710.2.1.length : Int) == (wrap64 ((l0_1.length : Int) + 1)))) else (some false))) else (some false)) else (some false)))))))) else (if (bt710.1.length : Int) = 0 then (some ((bt710.2.1.length : Int) == 0)) else (some false)))) = some true := by rw [if_neg (show ¬ (false = true) by decide)] at H; exact H
     clear H
     have H := H1
     clear H1
     replace H := Option.bind_eq_some_iff.mp H
     obtain ⟨⟨t710, t713, t716⟩, A230, H⟩ := H
     replace H : (if t716 = 0 then ((patrol_Remove.f t710 t713 a1_0).bind fun bt718 => ((patrol_Ready.f t710 t713 a1_1 a3).bind fun t726 => (if t726 = true then (some false) else (if a2 = a1_1 then (if bt718.2.2 = 0 then ((skiarearef53_Same.f kj6 bt718.1 bt718.2.1 l0_0 l0_1).bind fun t727 => (if t727 = true then (some ((t713.length : Int) == (wrap64 ((l0_1.length : Int) + 1)))) else (some false))) else (some false)) else ((patrol_Ready.f t710 t713 a2 a3).bind fun t728 => ((patrol_Ready.f l0_0 l0_1 a2 a3).bind fun t729 => (if (t728 == t729) = true then (if bt718.2.2 = 0 then ((skiarearef53_Same.f kj6 bt718.1 bt718.2.1 l0_0 l0_1).bind fun t730 => (if t730 = true then (some ((t713.length : Int) == (wrap64 ((l0_1.length : Int) + 1)))) else (some false))) else (some false)) else (some false)))))))) else (if (t710.length : Int) = 0 then (some ((t713.length : Int) == 0)) else (some false))) = some true := H
     have A23 := Aside0.mk A230
     clear A230
     by_cases c24 : t716 = 0
     ·rw [if_pos c24] at H
      have c24b0 : (t716 == 0) = true := beq_iff_eq.mpr c24
      have c24b1 : (t716 != 0) = false := bne_eq_false_iff_eq.mpr c24
      clear c24
      replace H := Option.bind_eq_some_iff.mp H
      obtain ⟨⟨t718, t721, t724⟩, A250, H⟩ := H
      replace H : ((patrol_Ready.f t710 t713 a1_1 a3).bind fun t726 => (if t726 = true then (some false) else (if a2 = a1_1 then (if t724 = 0 then ((skiarearef53_Same.f kj6 t718 t721 l0_0 l0_1).bind fun t727 => (if t727 = true then (some ((t713.length : Int) == (wrap64 ((l0_1.length : Int) + 1)))) else (some false))) else (some false)) else ((patrol_Ready.f t710 t713 a2 a3).bind fun t728 => ((patrol_Ready.f l0_0 l0_1 a2 a3).bind fun t729 => (if (t728 == t729) = true then (if t724 = 0 then ((skiarearef53_Same.f kj6 t718 t721 l0_0 l0_1).bind fun t730 => (if t730 = true then (some ((t713.length : Int) == (wrap64 ((l0_1.length : Int) + 1)))) else (some false))) else (some false)) else (some false))))))) = some true := H
      have A25 := Aside0.mk A250
      clear A250
      replace H := Option.bind_eq_some_iff.mp H
      obtain ⟨t726, A260, H⟩ := H
      replace H : (if t726 = true then (some false) else (if a2 = a1_1 then (if t724 = 0 then ((skiarearef53_Same.f kj6 t718 t721 l0_0 l0_1).bind fun t727 => (if t727 = true then (some ((t713.length : Int) == (wrap64 ((l0_1.length : Int) + 1)))) else (some false))) else (some false)) else ((patrol_Ready.f t710 t713 a2 a3).bind fun t728 => ((patrol_Ready.f l0_0 l0_1 a2 a3).bind fun t729 => (if (t728 == t729) = true then (if t724 = 0 then ((skiarearef53_Same.f kj6 t718 t721 l0_0 l0_1).bind fun t730 => (if t730 = true then (some ((t713.length : Int) == (wrap64 ((l0_1.length : Int) + 1)))) else (some false))) else (some false)) else (some false)))))) = some true := H
      have A26 := Aside0.mk A260
      clear A260
      by_cases c27 : t726 = true
      ·subst c27
       have H1 : (some false) = some true := by rw [if_pos rfl] at H; exact H
       clear H
       have H := H1
       clear H1
       exact absurd H (by simp)
      ·replace c27 := Bool.eq_false_iff.mpr c27
       subst c27
       have H1 : (if a2 = a1_1 then (if t724 = 0 then ((skiarearef53_Same.f kj6 t718 t721 l0_0 l0_1).bind fun t727 => (if t727 = true then (some ((t713.length : Int) == (wrap64 ((l0_1.length : Int) + 1)))) else (some false))) else (some false)) else ((patrol_Ready.f t710 t713 a2 a3).bind fun t728 => ((patrol_Ready.f l0_0 l0_1 a2 a3).bind fun t729 => (if (t728 == t729) = true then (if t724 = 0 then ((skiarearef53_Same.f kj6 t718 t721 l0_0 l0_1).bind fun t730 => (if t730 = true then (some ((t713.length : Int) == (wrap64 ((l0_1.length : Int) + 1)))) else (some false))) else (some false)) else (some false))))) = some true := by rw [if_neg (show ¬ (false = true) by decide)] at H; exact H
       clear H
       have H := H1
       clear H1
       by_cases c28 : a2 = a1_1
       ·rw [if_pos c28] at H
        have c28b0 : (a2 == a1_1) = true := beq_iff_eq.mpr c28
        have c28b1 : (a2 != a1_1) = false := bne_eq_false_iff_eq.mpr c28
        clear c28
        by_cases c29 : t724 = 0
        ·rw [if_pos c29] at H
         have c29b0 : (t724 == 0) = true := beq_iff_eq.mpr c29
         have c29b1 : (t724 != 0) = false := bne_eq_false_iff_eq.mpr c29
         clear c29
         replace H := Option.bind_eq_some_iff.mp H
         obtain ⟨t727, A300, H⟩ := H
         replace H : (if t727 = true then (some ((t713.length : Int) == (wrap64 ((l0_1.length : Int) + 1)))) else (some false)) = some true := H
         have A30 := Aside0.mk A300
         clear A300
         by_cases c31 : t727 = true
         ·subst c31
          have H1 : (some ((t713.length : Int) == (wrap64 ((l0_1.length : Int) + 1)))) = some true := by rw [if_pos rfl] at H; exact H
          clear H
          have H := H1
          clear H1
          have HTR := Aside0.mk (Option.some.inj H)
          clear H
          have hnb32 := NB705_706.out
          have hnc32 := NB706_705.out
          have hcz33_0 : wc.cell? ⟨gb705, 0, none⟩ = some (.slice A0_0 l0_0.length c0_0) := (blk_cell BK705.out 0).trans rfl
          have hcz33_1 : wc.cell? ⟨gb705, 1, none⟩ = some (.slice A0_1 l0_1.length c0_1) := (blk_cell BK705.out 1).trans rfl
          have hfz33_0 := blk_frozen BK705.out 0
          have hfz33_1 := blk_frozen BK705.out 1
          have hcz34_0 : wc.cell? ⟨gb706, 0, none⟩ = some (.int .i64 a1_0) := (blk_cell BK706.out 0).trans rfl
          have hcz34_1 : wc.cell? ⟨gb706, 1, none⟩ = some (.int .i64 a1_1) := (blk_cell BK706.out 1).trans rfl
          have hcz34_2 : wc.cell? ⟨gb706, 2, none⟩ = some (.int .i64 a1_2) := (blk_cell BK706.out 2).trans rfl
          have hfz34_0 := blk_frozen BK706.out 0
          have hfz34_1 := blk_frozen BK706.out 1
          have hfz34_2 := blk_frozen BK706.out 2
          try go_wp2_with (first | ((with_reducible refine gate_callee (f := 42) rfl ?_); refine goesL_ (some 26) rfl rfl Try.func42 (by kernel_rfl) rfl #[.agg #[.slice A0_0 l0_0.length c0_0, .slice A0_1 l0_1.length c0_1], .agg #[.int .i64 a1_0, .int .i64 a1_1, .int .i64 a1_2]] rfl (by (try simp only [List.map_toArray, List.map_cons, List.map_nil]); first | done | rfl | (simp only [List.length_drop, List.length_take]; rfl)) ?_; (with_reducible refine (patrol_Report.calls kj6 _ _ l0_0 _ _ l0_1 a1_0 a1_1 a1_2 t710 t713 t716 _ ?side1 ?side2 ?side3 ?side4 A23.out).mono ?_); (case side1 => repeat (first | exact (Kd.C_below HR0_0.out HB.out) | (with_reducible refine Kd.C_alloc ?_ _) | (with_reducible refine Kd.C_drewN ?_ _) | (with_reducible refine Kd.C_drew ?_))); (case side2 => exact HC0_0.out); (case side3 => repeat (first | exact (Kd.C_below HR0_1.out HB.out) | (with_reducible refine Kd.C_alloc ?_ _) | (with_reducible refine Kd.C_drewN ?_ _) | (with_reducible refine Kd.C_drew ?_))); (case side4 => exact HC0_1.out); rintro e w35 ⟨v711, v714, rfl, ho0, ho1, hb⟩; refine ⟨_, rfl, ?_⟩; have n0_ := Aside0.mk (Kd.N_lower (Kd.N_mono (ok' := fun k_ => some k_ ≠ (v714 : Value).ownBlock ∧ k_ ≠ gb705 ∧ k_ ≠ gb706) ho0 (fun k_ hk_ => ⟨hk_.2, (Kd.freshB BK705.out k_ hk_.1), (Kd.freshB BK706.out k_ hk_.1)⟩)) (below_size bel_)); have n1_ := Aside0.mk (Kd.R_lower (Kd.R_newB (Kd.R_mono (ok' := fun k_ => True) ho1 (fun _ hk_ => trivial)) BK706.out) (below_size bel_)); have n2_ := Aside0.mk (blk_below BK705.out hb); have n3_ := Aside0.mk (blk_below BK706.out hb); have n4_ := Aside0.mk (below_step bel_ hb); clear BK705; clear BK706; clear HB; have HO712 := n0_; have HO715 := n1_; have BK705 := n2_; have BK706 := n3_; have HB := n4_; clear n0_ n1_ n2_ n3_ n4_; (try clear hb); (try clear hb2); (try clear hk); (try clear hi); (try clear ho0); (try clear ho1)) | ((with_reducible refine gate_dst (N := 9) rfl ?_); (try (refine gate_guard (by rfl) ?_; dsimp only)); refine box_event ?hg (N := 9) ?hd (cs := #[.slice none 0 0, .slice none 0 0]) (t := 48) ?hr ?_; (case hd => rfl); (case hg => rfl); (case hr => first | (go_simp; done) | (go_simp; rfl)); intro gb717 hg w36 hbox hb; have n0_ := Aside0.mk (Kd.N_below (Kd.N_elderB HO712.out gb717 (Nat.le_of_eq hg.symm)) hb); have n1_ := Aside0.mk (Kd.R_below HO715.out hb); have n2_ := Aside0.mk (blk_below BK705.out hb); have n3_ := Aside0.mk (blk_below BK706.out hb); have n4_ := Aside0.mk (below_step bel_ hb); have n5_ := Aside0.mk (hbox); have n6_ := Aside0.mk ((by rw [hg]; exact (below_size bel_) : w.heap.size ≤ gb717)); have n7_ := Aside0.mk ((by rw [hg]; exact (below_size bel_) : w.heap.size ≤ gb717)); have n8_ := Aside0.mk ((by rw [hg]; exact Nat.ne_of_lt (blk_lt BK705.out) : gb705 ≠ gb717)); have n9_ := Aside0.mk ((by rw [hg]; exact Nat.ne_of_gt (blk_lt BK705.out) : gb717 ≠ gb705)); have n10_ := Aside0.mk ((by rw [hg]; exact Nat.ne_of_lt (blk_lt BK706.out) : gb706 ≠ gb717)); have n11_ := Aside0.mk ((by rw [hg]; exact Nat.ne_of_gt (blk_lt BK706.out) : gb717 ≠ gb706)); clear HO712; clear HO715; clear BK705; clear BK706; clear HB; have HO712 := n0_; have HO715 := n1_; have BK705 := n2_; have BK706 := n3_; have HB := n4_; have BK717 := n5_; have GW717 := n6_; have GE717 := n7_; have NB705_717 := n8_; have NB717_705 := n9_; have NB706_717 := n10_; have NB717_706 := n11_; clear n0_ n1_ n2_ n3_ n4_ n5_ n6_ n7_ n8_ n9_ n10_ n11_; clear hb hbox hg; obtain ⟨Ao37, co37, eo37⟩ := Kd.N_slice HO712.out; subst eo37; have hnb38 := NB717_705.out; have hnc38 := NB705_717.out; have hnb39 := NB717_706.out; have hnc39 := NB706_717.out; have hcz40_0 : w36.cell? ⟨gb717, 0, none⟩ = some (.slice none 0 0) := (blk_cell BK717.out 0).trans rfl; have hcz40_1 : w36.cell? ⟨gb717, 1, none⟩ = some (.slice none 0 0) := (blk_cell BK717.out 1).trans rfl; have hfz40_0 := blk_frozen BK717.out 0; have hfz40_1 := blk_frozen BK717.out 1; obtain ⟨Ao41, co41, eo41⟩ := Kd.R_slice HO715.out; subst eo41; have hcz42_0 : w36.cell? ⟨gb706, 0, none⟩ = some (.int .i64 a1_0) := (blk_cell BK706.out 0).trans rfl; have hcz42_1 : w36.cell? ⟨gb706, 1, none⟩ = some (.int .i64 a1_1) := (blk_cell BK706.out 1).trans rfl; have hcz42_2 : w36.cell? ⟨gb706, 2, none⟩ = some (.int .i64 a1_2) := (blk_cell BK706.out 2).trans rfl; have hfz42_0 := blk_frozen BK706.out 0; have hfz42_1 := blk_frozen BK706.out 1; have hfz42_2 := blk_frozen BK706.out 2) | ((with_reducible refine gate_callee (f := 44) rfl ?_); refine goesL_ (some 45) rfl rfl Try.func44 (by kernel_rfl) rfl #[.agg #[.slice Ao37 t710.length co37, .slice Ao41 t713.length co41], .int .i64 a1_0] rfl (by (try simp only [List.map_toArray, List.map_cons, List.map_nil]); first | done | rfl | (simp only [List.length_drop, List.length_take]; rfl)) ?_; (with_reducible refine (patrol_Remove.calls _ _ t710 _ _ t713 a1_0 t718 t721 t724 _ ?side1 ?side2 ?side3 ?side4 A25.out).mono ?_); (case side1 => refine (Kd.N_reads' (e := 63) (base := w.heap.size) (ok := fun k_ => ((some k_ ≠ (.slice Ao41 t713.length co41 : Value).ownBlock ∧ (k_ ≠ gb705 ∧ k_ ≠ gb706)) ∧ k_ ≠ gb717)) (n := t710.length) (c := co37) ?_).2.2; exact (by (with_reducible repeat (first | apply Kd.N_alloc | apply Kd.N_drewN | apply Kd.N_drew)); exact (Kd.N_mono (Kd.N_far (p := ⟨gb717, 1, none⟩) (Kd.N_far (p := ⟨gb717, 0, none⟩) (Kd.N_mono HO712.out (fun k_ hk => (⟨hk, hk.2⟩ : _ ∧ k_ ≠ gb717))) (fun _ hk => hk.2) (.slice Ao37 t710.length co37)) (fun _ hk => hk.2) (.slice Ao41 t713.length co41)) (fun _ h_ => h_.1)))); (case side2 => exact (Kd.N_reads' HO712.out).2.1); (case side3 => refine (Kd.R_reads' (e := 56) (base := w.heap.size) (ok := fun k_ => (True ∧ k_ ≠ gb706)) (n := t713.length) (c := co41) ?_).2.2; exact (by (with_reducible repeat (first | apply Kd.R_alloc | apply Kd.R_drewN | apply Kd.R_drew)); exact (Kd.R_mono (Kd.R_far (p := ⟨gb717, 1, none⟩) (Kd.R_far (p := ⟨gb717, 0, none⟩) (Kd.R_types HO715.out BK717.out (by decide)) (fun _ hk => hk.2) (.slice Ao37 t710.length co37)) (fun _ hk => hk.2) (.slice Ao41 t713.length co41)) (fun _ h_ => h_.1)))); (case side4 => exact (Kd.R_reads' HO715.out).2.1); rintro e w43 ⟨v719, v722, rfl, ho0, ho1, hb⟩; refine ⟨_, rfl, ?_⟩; have n0_ := Aside0.mk (Kd.N_mono (Kd.N_told (Kd.N_told (Kd.N_old (by (with_reducible repeat (first | apply Kd.N_alloc | apply Kd.N_drewN | apply Kd.N_drew)); exact (Kd.N_mono (Kd.N_far (p := ⟨gb717, 1, none⟩) (Kd.N_far (p := ⟨gb717, 0, none⟩) (Kd.N_mono HO712.out (fun k_ hk => (⟨hk, hk.2⟩ : _ ∧ k_ ≠ gb717))) (fun _ hk => hk.2) (.slice Ao37 t710.length co37)) (fun _ hk => hk.2) (.slice Ao41 t713.length co41)) (fun _ h_ => h_.1))) hb) (Kd.N_base ho0)) (Kd.R_base ho1)) (fun _ h_ => h_.1)); have n1_ := Aside0.mk (Kd.R_elder' (by (with_reducible repeat (first | apply Kd.R_alloc | apply Kd.R_drewN | apply Kd.R_drew)); exact (Kd.R_mono (Kd.R_far (p := ⟨gb717, 1, none⟩) (Kd.R_far (p := ⟨gb717, 0, none⟩) (Kd.R_types HO715.out BK717.out (by decide)) (fun _ hk => hk.2) (.slice Ao37 t710.length co37)) (fun _ hk => hk.2) (.slice Ao41 t713.length co41)) (fun _ h_ => h_.1))) (Kd.R_base ho1) hb); have n2_ := Aside0.mk (Kd.N_lower (Kd.N_mono (ok' := fun k_ => some k_ ≠ (v722 : Value).ownBlock ∧ some k_ ≠ (.slice Ao37 t710.length co37 : Value).ownBlock ∧ some k_ ≠ (.slice Ao41 t713.length co41 : Value).ownBlock ∧ k_ ≠ gb705 ∧ k_ ≠ gb706 ∧ k_ ≠ gb717) ho0 (fun k_ hk_ => ⟨hk_.2, (Kd.fresh' (Kd.N_lt (by (with_reducible repeat (first | apply Kd.N_alloc | apply Kd.N_drewN | apply Kd.N_drew)); exact (Kd.N_mono (Kd.N_far (p := ⟨gb717, 1, none⟩) (Kd.N_far (p := ⟨gb717, 0, none⟩) (Kd.N_mono HO712.out (fun k_ hk => (⟨hk, hk.2⟩ : _ ∧ k_ ≠ gb717))) (fun _ hk => hk.2) (.slice Ao37 t710.length co37)) (fun _ hk => hk.2) (.slice Ao41 t713.length co41)) (fun _ h_ => h_.1)))) k_ hk_.1), (Kd.fresh' (Kd.R_lt (by (with_reducible repeat (first | apply Kd.R_alloc | apply Kd.R_drewN | apply Kd.R_drew)); exact (Kd.R_mono (Kd.R_far (p := ⟨gb717, 1, none⟩) (Kd.R_far (p := ⟨gb717, 0, none⟩) (Kd.R_types HO715.out BK717.out (by decide)) (fun _ hk => hk.2) (.slice Ao37 t710.length co37)) (fun _ hk => hk.2) (.slice Ao41 t713.length co41)) (fun _ h_ => h_.1)))) k_ hk_.1), (Kd.freshB (g := gb705) (o := .cells #[.slice A0_0 l0_0.length c0_0, .slice A0_1 l0_1.length c0_1] 48 (0, 0)) (by refine blk_far ?_ NB705_717.out _; refine blk_far ?_ NB705_717.out _; exact BK705.out) k_ hk_.1), (Kd.freshB (g := gb706) (o := .cells #[.int .i64 a1_0, .int .i64 a1_1, .int .i64 a1_2] 56 (0, 0)) (by refine blk_far ?_ NB706_717.out _; refine blk_far ?_ NB706_717.out _; exact BK706.out) k_ hk_.1), (Kd.freshB (g := gb717) (o := .cells #[.slice Ao37 t710.length co37, .slice Ao41 t713.length co41] 48 (0, 0)) (by refine blk_put (cs := #[.slice Ao37 t710.length co37, .slice none 0 0]) ?_ 1 _ rfl; refine blk_put (cs := #[.slice none 0 0, .slice none 0 0]) ?_ 0 _ rfl; exact BK717.out) k_ hk_.1)⟩)) (below_size bel_)); have n3_ := Aside0.mk (Kd.R_lower (Kd.R_newB (Kd.R_new' (Kd.R_mono (ok' := fun k_ => True) ho1 (fun _ hk_ => trivial)) (Kd.R_lt (by (with_reducible repeat (first | apply Kd.R_alloc | apply Kd.R_drewN | apply Kd.R_drew)); exact (Kd.R_mono (Kd.R_far (p := ⟨gb717, 1, none⟩) (Kd.R_far (p := ⟨gb717, 0, none⟩) (Kd.R_types HO715.out BK717.out (by decide)) (fun _ hk => hk.2) (.slice Ao37 t710.length co37)) (fun _ hk => hk.2) (.slice Ao41 t713.length co41)) (fun _ h_ => h_.1))))) (g := gb706) (o := .cells #[.int .i64 a1_0, .int .i64 a1_1, .int .i64 a1_2] 56 (0, 0)) (by refine blk_far ?_ NB706_717.out _; refine blk_far ?_ NB706_717.out _; exact BK706.out)) (below_size bel_)); have n4_ := Aside0.mk (blk_below (g := gb705) (o := .cells #[.slice A0_0 l0_0.length c0_0, .slice A0_1 l0_1.length c0_1] 48 (0, 0)) (by refine blk_far ?_ NB705_717.out _; refine blk_far ?_ NB705_717.out _; exact BK705.out) hb); have n5_ := Aside0.mk (blk_below (g := gb706) (o := .cells #[.int .i64 a1_0, .int .i64 a1_1, .int .i64 a1_2] 56 (0, 0)) (by refine blk_far ?_ NB706_717.out _; refine blk_far ?_ NB706_717.out _; exact BK706.out) hb); have n6_ := Aside0.mk (blk_below (g := gb717) (o := .cells #[.slice Ao37 t710.length co37, .slice Ao41 t713.length co41] 48 (0, 0)) (by refine blk_put (cs := #[.slice Ao37 t710.length co37, .slice none 0 0]) ?_ 1 _ rfl; refine blk_put (cs := #[.slice none 0 0, .slice none 0 0]) ?_ 0 _ rfl; exact BK717.out) hb); have n7_ := Aside0.mk (below_step bel_ hb); clear HO712; clear HO715; clear BK705; clear BK706; clear BK717; clear HB; have HO712 := n0_; have HO715 := n1_; have HO720 := n2_; have HO723 := n3_; have BK705 := n4_; have BK706 := n5_; have BK717 := n6_; have HB := n7_; clear n0_ n1_ n2_ n3_ n4_ n5_ n6_ n7_; (try clear hb); (try clear hb2); (try clear hk); (try clear hi); (try clear ho0); (try clear ho1)) | ((with_reducible refine gate_dst (N := 11) rfl ?_); (try (refine gate_guard (by rfl) ?_; dsimp only)); refine box_event ?hg (N := 11) ?hd (cs := #[.slice none 0 0, .slice none 0 0]) (t := 48) ?hr ?_; (case hd => rfl); (case hg => rfl); (case hr => first | (go_simp; done) | (go_simp; rfl)); intro gb725 hg w44 hbox hb; have n0_ := Aside0.mk (Kd.N_below (Kd.N_elderB HO712.out gb725 (Nat.le_of_eq hg.symm)) hb); have n1_ := Aside0.mk (Kd.R_below HO715.out hb); have n2_ := Aside0.mk (Kd.N_below (Kd.N_elderB HO720.out gb725 (Nat.le_of_eq hg.symm)) hb); have n3_ := Aside0.mk (Kd.R_below HO723.out hb); have n4_ := Aside0.mk (blk_below BK705.out hb); have n5_ := Aside0.mk (blk_below BK706.out hb); have n6_ := Aside0.mk (blk_below BK717.out hb); have n7_ := Aside0.mk (below_step bel_ hb); have n8_ := Aside0.mk (hbox); have n9_ := Aside0.mk ((by rw [hg]; exact (below_size bel_) : w.heap.size ≤ gb725)); have n10_ := Aside0.mk ((by rw [hg]; exact (below_size bel_) : w.heap.size ≤ gb725)); have n11_ := Aside0.mk ((by rw [hg]; exact Nat.ne_of_lt (blk_lt BK705.out) : gb705 ≠ gb725)); have n12_ := Aside0.mk ((by rw [hg]; exact Nat.ne_of_gt (blk_lt BK705.out) : gb725 ≠ gb705)); have n13_ := Aside0.mk ((by rw [hg]; exact Nat.ne_of_lt (blk_lt BK706.out) : gb706 ≠ gb725)); have n14_ := Aside0.mk ((by rw [hg]; exact Nat.ne_of_gt (blk_lt BK706.out) : gb725 ≠ gb706)); have n15_ := Aside0.mk ((by rw [hg]; exact Nat.ne_of_lt (blk_lt BK717.out) : gb717 ≠ gb725)); have n16_ := Aside0.mk ((by rw [hg]; exact Nat.ne_of_gt (blk_lt BK717.out) : gb725 ≠ gb717)); clear HO712; clear HO715; clear HO720; clear HO723; clear BK705; clear BK706; clear BK717; clear HB; have HO712 := n0_; have HO715 := n1_; have HO720 := n2_; have HO723 := n3_; have BK705 := n4_; have BK706 := n5_; have BK717 := n6_; have HB := n7_; have BK725 := n8_; have GW725 := n9_; have GE725 := n10_; have NB705_725 := n11_; have NB725_705 := n12_; have NB706_725 := n13_; have NB725_706 := n14_; have NB717_725 := n15_; have NB725_717 := n16_; clear n0_ n1_ n2_ n3_ n4_ n5_ n6_ n7_ n8_ n9_ n10_ n11_ n12_ n13_ n14_ n15_ n16_; clear hb hbox hg; obtain ⟨Ao45, co45, eo45⟩ := Kd.N_slice HO720.out; subst eo45; have hnb46 := NB725_705.out; have hnc46 := NB705_725.out; have hnb47 := NB725_706.out; have hnc47 := NB706_725.out; have hnb48 := NB725_717.out; have hnc48 := NB717_725.out; have hcz49_0 : w44.cell? ⟨gb725, 0, none⟩ = some (.slice none 0 0) := (blk_cell BK725.out 0).trans rfl; have hcz49_1 : w44.cell? ⟨gb725, 1, none⟩ = some (.slice none 0 0) := (blk_cell BK725.out 1).trans rfl; have hfz49_0 := blk_frozen BK725.out 0; have hfz49_1 := blk_frozen BK725.out 1; obtain ⟨Ao50, co50, eo50⟩ := Kd.R_slice HO723.out; subst eo50))
          have n0_ : Aside0 (Kd.N k63 63 ((w44.setCell ⟨gb725, 0, none⟩ (.slice Ao45 t718.length co45)).setCell ⟨gb725, 1, none⟩ (.slice Ao50 t721.length co50)) w.heap.size (fun k_ => some k_ ≠ (.slice Ao41 t713.length co41 : Value).ownBlock ∧ some k_ ≠ (.slice Ao45 t718.length co45 : Value).ownBlock ∧ some k_ ≠ (.slice Ao50 t721.length co50 : Value).ownBlock ∧ k_ ≠ gb705 ∧ k_ ≠ gb706 ∧ k_ ≠ gb717 ∧ k_ ≠ gb725) (.slice Ao37 t710.length co37) t710) := ⟨by (with_reducible repeat (first | apply Kd.N_alloc | apply Kd.N_drewN | apply Kd.N_drew)); exact Kd.N_mono (Kd.N_far (p := ⟨gb725, 1, none⟩) (Kd.N_far (p := ⟨gb725, 0, none⟩) (Kd.N_mono HO712.out (fun k_ hk => (⟨hk, hk.2⟩ : _ ∧ k_ ≠ gb725))) (fun _ hk => hk.2) (.slice Ao45 t718.length co45)) (fun _ hk => hk.2) (.slice Ao50 t721.length co50)) (fun _ hk => ⟨hk.1.1.1.1.1.1, ⟨hk.1.1.1.2, ⟨hk.1.1.2, ⟨hk.1.1.1.1.1.2.1, ⟨hk.1.1.1.1.1.2.2, ⟨hk.1.1.1.1.2, hk.1.2⟩⟩⟩⟩⟩⟩)⟩
          have n1_ : Aside0 (Kd.R k56 56 ((w44.setCell ⟨gb725, 0, none⟩ (.slice Ao45 t718.length co45)).setCell ⟨gb725, 1, none⟩ (.slice Ao50 t721.length co50)) w.heap.size (fun k_ => some k_ ≠ (.slice Ao50 t721.length co50 : Value).ownBlock ∧ k_ ≠ gb706) (.slice Ao41 t713.length co41) t713) := ⟨by (with_reducible repeat (first | apply Kd.R_alloc | apply Kd.R_drewN | apply Kd.R_drew)); exact Kd.R_mono (Kd.R_far (p := ⟨gb725, 1, none⟩) (Kd.R_far (p := ⟨gb725, 0, none⟩) (Kd.R_types HO715.out BK725.out (by decide)) (fun _ hk => hk.2) (.slice Ao45 t718.length co45)) (fun _ hk => hk.2) (.slice Ao50 t721.length co50)) (fun _ hk => ⟨hk.1.2, hk.1.1.2⟩)⟩
          have n2_ : Aside0 (Kd.N k63 63 ((w44.setCell ⟨gb725, 0, none⟩ (.slice Ao45 t718.length co45)).setCell ⟨gb725, 1, none⟩ (.slice Ao50 t721.length co50)) w.heap.size (fun k_ => some k_ ≠ (.slice Ao37 t710.length co37 : Value).ownBlock ∧ some k_ ≠ (.slice Ao41 t713.length co41 : Value).ownBlock ∧ some k_ ≠ (.slice Ao50 t721.length co50 : Value).ownBlock ∧ k_ ≠ gb705 ∧ k_ ≠ gb706 ∧ k_ ≠ gb717 ∧ k_ ≠ gb725) (.slice Ao45 t718.length co45) t718) := ⟨by (with_reducible repeat (first | apply Kd.N_alloc | apply Kd.N_drewN | apply Kd.N_drew)); exact Kd.N_mono (Kd.N_far (p := ⟨gb725, 1, none⟩) (Kd.N_far (p := ⟨gb725, 0, none⟩) (Kd.N_mono HO720.out (fun k_ hk => (⟨hk, hk.2⟩ : _ ∧ k_ ≠ gb725))) (fun _ hk => hk.2) (.slice Ao45 t718.length co45)) (fun _ hk => hk.2) (.slice Ao50 t721.length co50)) (fun _ hk => ⟨hk.1.1.2.1, ⟨hk.1.1.2.2.1, ⟨hk.1.1.1, ⟨hk.1.1.2.2.2.1, ⟨hk.1.1.2.2.2.2.1, ⟨hk.1.1.2.2.2.2.2, hk.1.2⟩⟩⟩⟩⟩⟩)⟩
          have n3_ : Aside0 (Kd.R k56 56 ((w44.setCell ⟨gb725, 0, none⟩ (.slice Ao45 t718.length co45)).setCell ⟨gb725, 1, none⟩ (.slice Ao50 t721.length co50)) w.heap.size (fun k_ => some k_ ≠ (.slice Ao41 t713.length co41 : Value).ownBlock ∧ k_ ≠ gb706) (.slice Ao50 t721.length co50) t721) := ⟨by (with_reducible repeat (first | apply Kd.R_alloc | apply Kd.R_drewN | apply Kd.R_drew)); exact Kd.R_mono (Kd.R_far (p := ⟨gb725, 1, none⟩) (Kd.R_far (p := ⟨gb725, 0, none⟩) (Kd.R_types HO723.out BK725.out (by decide)) (fun _ hk => hk.2) (.slice Ao45 t718.length co45)) (fun _ hk => hk.2) (.slice Ao50 t721.length co50)) (fun _ hk => ⟨hk.1.1.2, hk.1.2⟩)⟩
          have n4_ : Aside0 (((w44.setCell ⟨gb725, 0, none⟩ (.slice Ao45 t718.length co45)).setCell ⟨gb725, 1, none⟩ (.slice Ao50 t721.length co50)).heap[gb705]? = some (.cells #[.slice A0_0 l0_0.length c0_0, .slice A0_1 l0_1.length c0_1] 48 (0, 0))) := ⟨by refine blk_far ?_ NB705_725.out _; refine blk_far ?_ NB705_725.out _; exact BK705.out⟩
          have n5_ : Aside0 (((w44.setCell ⟨gb725, 0, none⟩ (.slice Ao45 t718.length co45)).setCell ⟨gb725, 1, none⟩ (.slice Ao50 t721.length co50)).heap[gb706]? = some (.cells #[.int .i64 a1_0, .int .i64 a1_1, .int .i64 a1_2] 56 (0, 0))) := ⟨by refine blk_far ?_ NB706_725.out _; refine blk_far ?_ NB706_725.out _; exact BK706.out⟩
          have n6_ : Aside0 (((w44.setCell ⟨gb725, 0, none⟩ (.slice Ao45 t718.length co45)).setCell ⟨gb725, 1, none⟩ (.slice Ao50 t721.length co50)).heap[gb717]? = some (.cells #[.slice Ao37 t710.length co37, .slice Ao41 t713.length co41] 48 (0, 0))) := ⟨by refine blk_far ?_ NB717_725.out _; refine blk_far ?_ NB717_725.out _; exact BK717.out⟩
          have n7_ : Aside0 (((w44.setCell ⟨gb725, 0, none⟩ (.slice Ao45 t718.length co45)).setCell ⟨gb725, 1, none⟩ (.slice Ao50 t721.length co50)).heap[gb725]? = some (.cells #[.slice Ao45 t718.length co45, .slice Ao50 t721.length co50] 48 (0, 0))) := ⟨by refine blk_put (cs := #[.slice Ao45 t718.length co45, .slice none 0 0]) ?_ 1 _ rfl; refine blk_put (cs := #[.slice none 0 0, .slice none 0 0]) ?_ 0 _ rfl; exact BK725.out⟩
          have n8_ : Aside0 (Below w.heap.size w ((w44.setCell ⟨gb725, 0, none⟩ (.slice Ao45 t718.length co45)).setCell ⟨gb725, 1, none⟩ (.slice Ao50 t721.length co50))) := ⟨by repeat (first | (with_reducible first | exact HB.out | apply below_alloc | apply pw_below_drewN | apply below_drew1 | refine below_set ?_ GE705.out | refine below_set ?_ GE706.out | refine below_set ?_ GE717.out | refine below_set ?_ GE725.out) | exact HB.out)⟩
          (try clear HO712)
          (try clear HO715)
          (try clear HO720)
          (try clear HO723)
          (try clear BK705)
          (try clear BK706)
          (try clear BK717)
          (try clear BK725)
          (try clear HB)
          generalize ((w44.setCell ⟨gb725, 0, none⟩ (.slice Ao45 t718.length co45)).setCell ⟨gb725, 1, none⟩ (.slice Ao50 t721.length co50)) = w51 at n0_ n1_ n2_ n3_ n4_ n5_ n6_ n7_ n8_ ⊢
          have HO712 := n0_
          have HO715 := n1_
          have HO720 := n2_
          have HO723 := n3_
          have BK705 := n4_
          have BK706 := n5_
          have BK717 := n6_
          have BK725 := n7_
          have HB := n8_
          clear n0_ n1_ n2_ n3_ n4_ n5_ n6_ n7_ n8_
          have n0_ := Aside0.mk (Kd.N_drew HO712.out)
          have n1_ := Aside0.mk (Kd.R_drew HO715.out)
          have n2_ := Aside0.mk (Kd.N_drew HO720.out)
          have n3_ := Aside0.mk (Kd.R_drew HO723.out)
          have n4_ := Aside0.mk (blk_drew BK705.out)
          have n5_ := Aside0.mk (blk_drew BK706.out)
          have n6_ := Aside0.mk (blk_drew BK717.out)
          have n7_ := Aside0.mk (blk_drew BK725.out)
          have n8_ := Aside0.mk (below_drew1 HB.out)
          clear HO712
          clear HO715
          clear HO720
          clear HO723
          clear BK705
          clear BK706
          clear BK717
          clear BK725
          clear HB
          have HO712 := n0_
          have HO715 := n1_
          have HO720 := n2_
          have HO723 := n3_
          have BK705 := n4_
          have BK706 := n5_
          have BK717 := n6_
          have BK725 := n7_
          have HB := n8_
          clear n0_ n1_ n2_ n3_ n4_ n5_ n6_ n7_ n8_
          refine start_ (n := 43) (S := fun w' => w'.cell? ⟨gb717, 0, none⟩ = some (.slice Ao37 t710.length co37) ∧ w'.cell? ⟨gb717, 1, none⟩ = some (.slice Ao41 t713.length co41) ∧ w'.cell? ⟨gb706, 0, none⟩ = some (.int .i64 a1_0) ∧ w'.cell? ⟨gb706, 1, none⟩ = some (.int .i64 a1_1) ∧ w'.cell? ⟨gb706, 2, none⟩ = some (.int .i64 a1_2) ∧ w'.cell? ⟨gb725, 0, none⟩ = some (.slice Ao45 t718.length co45) ∧ w'.cell? ⟨gb725, 1, none⟩ = some (.slice Ao50 t721.length co50) ∧ w'.cell? ⟨gb705, 0, none⟩ = some (.slice A0_0 l0_0.length c0_0) ∧ w'.cell? ⟨gb705, 1, none⟩ = some (.slice A0_1 l0_1.length c0_1)) (ds := []) #[false, false, false, false, false, false, false, false, false, false, false, false, false, false, false, false, false, false, false, false, false, false, false, false, false, false, false, false, false, false, false, false, false, false, false, false, false, false, false, false, false, false, false] (by kernel_rfl) rfl rfl ⟨(blk_cell BK717.out 0).trans rfl, (blk_cell BK717.out 1).trans rfl, (blk_cell BK706.out 0).trans rfl, (blk_cell BK706.out 1).trans rfl, (blk_cell BK706.out 2).trans rfl, (blk_cell BK725.out 0).trans rfl, (blk_cell BK725.out 1).trans rfl, (blk_cell BK705.out 0).trans rfl, (blk_cell BK705.out 1).trans rfl⟩ (fun hHeld => ?_); refine with_tabW skiarealaw53_PatrolHazards.tab9 skiarealaw53_PatrolHazards.bits9 (fun HT_ HW_ => ?_)
          generalize w51.drew = w52 at HO712 HO715 HO720 HO723 BK705 BK706 BK717 BK725 HB hHeld ⊢
          refine pure_ (i := 1) (N := some 49) (v := ?_) (a' := ?_) #[false, true, false, false, false, false, false, false, false, false, false, false, false, false, false, false, false, false, false, false, false, false, false, false, false, false, false, false, false, false, false, false, false, false, false, false, false, false, false, false, false, false, false] rfl rfl (any_of HT_.out (by kernel_rfl)) (fun _ _ _ h => h) (Or.inl ⟨by rfl, ?_⟩) ?_ ?_
          rotate_left
          ·intro w'
           go_simp
           with_reducible rfl
          rotate_left
          ·simp only [Act.put, List.setIfInBounds_toArray, List.set_cons_zero, List.set_cons_succ, i64_w, i32_w]
           rfl
          refine pure_ (i := 3) (N := some 51) (v := ?_) (a' := ?_) #[false, true, false, true, false, false, false, false, false, false, false, false, false, false, false, false, false, false, false, false, false, false, false, false, false, false, false, false, false, false, false, false, false, false, false, false, false, false, false, false, false, false, false] rfl rfl (any_of HT_.out (by kernel_rfl)) (fun _ _ _ h => h) (Or.inl ⟨by rfl, ?_⟩) ?_ ?_
          rotate_left
          ·intro w'
           go_simp
           with_reducible rfl
          rotate_left
          ·simp only [Act.put, List.setIfInBounds_toArray, List.set_cons_zero, List.set_cons_succ, i64_w, i32_w]
           rfl
          refine take_ (i := 0) (N := some 48) (v := ?_) (a' := ?_) #[true, true, false, true, false, false, false, false, false, false, false, false, false, false, false, false, false, false, false, false, false, false, false, false, false, false, false, false, false, false, false, false, false, false, false, false, false, false, false, false, false, false, false] rfl rfl (take_ofW HT_.out HW_.out (by kernel_rfl)) (fun _ _ _ h => h) (Or.inl ⟨by rfl, ?_⟩) hHeld ?_ ?_
          rotate_left
          ·rintro w' ⟨s0, s1, s2, s3, s4, s5, s6, s7, s8⟩
           go_simp
           with_reducible rfl
          rotate_left
          ·simp only [Act.put, List.setIfInBounds_toArray, List.set_cons_zero, List.set_cons_succ, i64_w, i32_w]
           rfl
          refine take_ (i := 2) (N := some 50) (v := ?_) (a' := ?_) #[true, true, true, true, false, false, false, false, false, false, false, false, false, false, false, false, false, false, false, false, false, false, false, false, false, false, false, false, false, false, false, false, false, false, false, false, false, false, false, false, false, false, false] rfl rfl (take_ofW HT_.out HW_.out (by kernel_rfl)) (fun _ _ _ h => h) (Or.inl ⟨by rfl, ?_⟩) hHeld ?_ ?_
          rotate_left
          ·rintro w' ⟨s0, s1, s2, s3, s4, s5, s6, s7, s8⟩
           go_simp
           with_reducible rfl
          rotate_left
          ·simp only [Act.put, List.setIfInBounds_toArray, List.set_cons_zero, List.set_cons_succ, i64_w, i32_w]
           rfl
          refine one_ (i := 4) (N := some 52) #[true, true, true, true, true, false, false, false, false, false, false, false, false, false, false, false, false, false, false, false, false, false, false, false, false, false, false, false, false, false, false, false, false, false, false, false, false, false, false, false, false, false, false] rfl rfl (one_of HT_.out (by kernel_rfl)) (by decide) (fun K hK => ?_)
          refine goes_ Try.func46 (by kernel_rfl) rfl #[.agg #[.slice Ao37 t710.length co37, .slice Ao41 t713.length co41], .int .i64 a1_1, .int .i64 a3] (by rfl) rfl rfl (by (try simp only [List.map_toArray, List.map_cons, List.map_nil]); first | done | rfl | (simp only [List.length_drop, List.length_take]; rfl)) ?_
          with_reducible refine (patrol_Ready.calls _ _ t710 _ _ t713 a1_1 a3 false _ ?side1 ?side2 ?side3 ?side4 A26.out).mono ?_
          (case side1 => repeat (first | exact (Kd.N_reads' HO712.out).2.2 | (with_reducible refine Kd.C_alloc ?_ _) | (with_reducible refine Kd.C_drewN ?_ _) | (with_reducible refine Kd.C_drew ?_)))
          (case side2 => exact (Kd.N_reads' HO712.out).2.1)
          (case side3 => repeat (first | exact (Kd.R_reads' HO715.out).2.2 | (with_reducible refine Kd.C_alloc ?_ _) | (with_reducible refine Kd.C_drewN ?_ _) | (with_reducible refine Kd.C_drew ?_)))
          (case side4 => exact (Kd.R_reads' HO715.out).2.1)
          rintro e w53 ⟨rfl, hb⟩
          refine ⟨_, rfl, ?_⟩
          have n0_ := Aside0.mk (Kd.N_below HO712.out hb)
          have n1_ := Aside0.mk (Kd.R_below HO715.out hb)
          have n2_ := Aside0.mk (Kd.N_below HO720.out hb)
          have n3_ := Aside0.mk (Kd.R_below HO723.out hb)
          have n4_ := Aside0.mk (blk_below BK705.out hb)
          have n5_ := Aside0.mk (blk_below BK706.out hb)
          have n6_ := Aside0.mk (blk_below BK717.out hb)
          have n7_ := Aside0.mk (blk_below BK725.out hb)
          have n8_ := Aside0.mk (below_step bel_ hb)
          clear HO712
          clear HO715
          clear HO720
          clear HO723
          clear BK705
          clear BK706
          clear BK717
          clear BK725
          clear HB
          have HO712 := n0_
          have HO715 := n1_
          have HO720 := n2_
          have HO723 := n3_
          have BK705 := n4_
          have BK706 := n5_
          have BK717 := n6_
          have BK725 := n7_
          have HB := n8_
          clear n0_ n1_ n2_ n3_ n4_ n5_ n6_ n7_ n8_
          (try clear hb)
          (try clear hb2)
          (try clear hk)
          (try clear hi)
          refine hK.out _ _ ⟨(blk_cell BK717.out 0).trans rfl, (blk_cell BK717.out 1).trans rfl, (blk_cell BK706.out 0).trans rfl, (blk_cell BK706.out 1).trans rfl, (blk_cell BK706.out 2).trans rfl, (blk_cell BK725.out 0).trans rfl, (blk_cell BK725.out 1).trans rfl, (blk_cell BK705.out 0).trans rfl, (blk_cell BK705.out 1).trans rfl⟩ (fun hHeld => ?_)
          clear hK K
          refine norm_ (a' := ?_) ?_ ?_
          rotate_left
          ·show Act.put _ (some 52) _ = _
           simp only [Act.put, List.setIfInBounds_toArray, List.set_cons_zero, List.set_cons_succ, i64_w, i32_w]
           rfl
          refine pure_ (i := 5) (N := some 53) (v := ?_) (a' := ?_) #[true, true, true, true, true, true, false, false, false, false, false, false, false, false, false, false, false, false, false, false, false, false, false, false, false, false, false, false, false, false, false, false, false, false, false, false, false, false, false, false, false, false, false] rfl rfl (any_of HT_.out (by kernel_rfl)) (fun _ _ _ h => h) (Or.inl ⟨by rfl, ?_⟩) ?_ ?_
          rotate_left
          ·intro w'
           go_simp
           with_reducible rfl
          rotate_left
          ·simp only [Act.put, List.setIfInBounds_toArray, List.set_cons_zero, List.set_cons_succ, i64_w, i32_w]
           rfl
          refine pure_ (i := 6) (N := some 54) (v := ?_) (a' := ?_) #[true, true, true, true, true, true, true, false, false, false, false, false, false, false, false, false, false, false, false, false, false, false, false, false, false, false, false, false, false, false, false, false, false, false, false, false, false, false, false, false, false, false, false] rfl rfl (any_of HT_.out (by kernel_rfl)) (fun _ _ _ h => h) (Or.inl ⟨by rfl, ?_⟩) ?_ ?_
          rotate_left
          ·intro w'
           go_simp
           with_reducible rfl
          rotate_left
          ·simp only [Act.put, List.setIfInBounds_toArray, List.set_cons_zero, List.set_cons_succ, i64_w, i32_w]
           rfl
          refine pure_ (i := 7) (N := some 55) (v := ?_) (a' := ?_) #[true, true, true, true, true, true, true, true, false, false, false, false, false, false, false, false, false, false, false, false, false, false, false, false, false, false, false, false, false, false, false, false, false, false, false, false, false, false, false, false, false, false, false] rfl rfl (any_of HT_.out (by kernel_rfl)) (fun _ _ _ h => h) (Or.inl ⟨by rfl, ?_⟩) ?_ ?_
          rotate_left
          ·intro w'
           go_simp
           with_reducible rfl
          rotate_left
          ·simp only [Act.put, List.setIfInBounds_toArray, List.set_cons_zero, List.set_cons_succ, i64_w, i32_w]
           rfl
          refine pure_ (i := 8) (N := some 56) (v := ?_) (a' := ?_) #[true, true, true, true, true, true, true, true, true, false, false, false, false, false, false, false, false, false, false, false, false, false, false, false, false, false, false, false, false, false, false, false, false, false, false, false, false, false, false, false, false, false, false] rfl rfl (any_of HT_.out (by kernel_rfl)) (fun _ _ _ h => h) (Or.inl ⟨by rfl, ?_⟩) ?_ ?_
          rotate_left
          ·intro w'
           go_simp
           with_reducible rfl
          rotate_left
          ·simp only [Act.put, List.setIfInBounds_toArray, List.set_cons_zero, List.set_cons_succ, i64_w, i32_w]
           rfl
          refine take_ (i := 9) (N := some 57) (v := ?_) (a' := ?_) #[true, true, true, true, true, true, true, true, true, true, false, false, false, false, false, false, false, false, false, false, false, false, false, false, false, false, false, false, false, false, false, false, false, false, false, false, false, false, false, false, false, false, false] rfl rfl (take_ofW HT_.out HW_.out (by kernel_rfl)) (fun _ _ _ h => h) (Or.inl ⟨by rfl, ?_⟩) hHeld ?_ ?_
          rotate_left
          ·rintro w' ⟨s0, s1, s2, s3, s4, s5, s6, s7, s8⟩
           go_simp
           with_reducible rfl
          rotate_left
          ·simp only [Act.put, List.setIfInBounds_toArray, List.set_cons_zero, List.set_cons_succ, i64_w, i32_w]
           rfl
          refine pure_ (i := 10) (N := some 58) (v := ?_) (a' := ?_) #[true, true, true, true, true, true, true, true, true, true, true, false, false, false, false, false, false, false, false, false, false, false, false, false, false, false, false, false, false, false, false, false, false, false, false, false, false, false, false, false, false, false, false] rfl rfl (any_of HT_.out (by kernel_rfl)) (fun _ _ _ h => h) (Or.inl ⟨by rfl, ?_⟩) ?_ ?_
          rotate_left
          ·intro w'
           go_simp
           with_reducible rfl
          rotate_left
          ·simp only [Act.put, List.setIfInBounds_toArray, List.set_cons_zero, List.set_cons_succ, i64_w, i32_w]
           rfl
          refine pure_ (i := 11) (N := some 59) (v := ?_) (a' := ?_) #[true, true, true, true, true, true, true, true, true, true, true, true, false, false, false, false, false, false, false, false, false, false, false, false, false, false, false, false, false, false, false, false, false, false, false, false, false, false, false, false, false, false, false] rfl rfl (any_of HT_.out (by kernel_rfl)) (fun _ _ _ h => h) (Or.inl ⟨by rfl, ?_⟩) ?_ ?_
          rotate_left
          ·intro w'
           go_simp
           with_reducible rfl
          rotate_left
          ·simp only [Act.put, List.setIfInBounds_toArray, List.set_cons_zero, List.set_cons_succ, i64_w, i32_w]
           rfl
          refine pure_ (i := 12) (N := some 60) (v := undef) (a' := ?_) #[true, true, true, true, true, true, true, true, true, true, true, true, true, false, false, false, false, false, false, false, false, false, false, false, false, false, false, false, false, false, false, false, false, false, false, false, false, false, false, false, false, false, false] rfl rfl (any_of HT_.out (by kernel_rfl)) (fun _ _ _ h => h) (Or.inr ⟨by rfl, rfl⟩) ?_ ?_
          rotate_left
          ·simp only [Act.put, List.setIfInBounds_toArray, List.set_cons_zero, List.set_cons_succ, i64_w, i32_w]
           rfl
          refine pure_ (i := 13) (N := some 61) (v := undef) (a' := ?_) #[true, true, true, true, true, true, true, true, true, true, true, true, true, true, false, false, false, false, false, false, false, false, false, false, false, false, false, false, false, false, false, false, false, false, false, false, false, false, false, false, false, false, false] rfl rfl (any_of HT_.out (by kernel_rfl)) (fun _ _ _ h => h) (Or.inr ⟨by rfl, rfl⟩) ?_ ?_
          rotate_left
          ·simp only [Act.put, List.setIfInBounds_toArray, List.set_cons_zero, List.set_cons_succ, i64_w, i32_w]
           rfl
          refine pure_ (i := 14) (N := some 62) (v := undef) (a' := ?_) #[true, true, true, true, true, true, true, true, true, true, true, true, true, true, true, false, false, false, false, false, false, false, false, false, false, false, false, false, false, false, false, false, false, false, false, false, false, false, false, false, false, false, false] rfl rfl (any_of HT_.out (by kernel_rfl)) (fun _ _ _ h => h) (Or.inr ⟨by rfl, rfl⟩) ?_ ?_
          rotate_left
          ·simp only [Act.put, List.setIfInBounds_toArray, List.set_cons_zero, List.set_cons_succ, i64_w, i32_w]
           rfl
          refine pure_ (i := 15) (N := some 63) (v := undef) (a' := ?_) #[true, true, true, true, true, true, true, true, true, true, true, true, true, true, true, true, false, false, false, false, false, false, false, false, false, false, false, false, false, false, false, false, false, false, false, false, false, false, false, false, false, false, false] rfl rfl (any_of HT_.out (by kernel_rfl)) (fun _ _ _ h => h) (Or.inr ⟨by rfl, rfl⟩) ?_ ?_
          rotate_left
          ·simp only [Act.put, List.setIfInBounds_toArray, List.set_cons_zero, List.set_cons_succ, i64_w, i32_w]
           rfl
          refine pure_ (i := 16) (N := some 64) (v := undef) (a' := ?_) #[true, true, true, true, true, true, true, true, true, true, true, true, true, true, true, true, true, false, false, false, false, false, false, false, false, false, false, false, false, false, false, false, false, false, false, false, false, false, false, false, false, false, false] rfl rfl (any_of HT_.out (by kernel_rfl)) (fun _ _ _ h => h) (Or.inr ⟨by rfl, rfl⟩) ?_ ?_
          rotate_left
          ·simp only [Act.put, List.setIfInBounds_toArray, List.set_cons_zero, List.set_cons_succ, i64_w, i32_w]
           rfl
          refine pure_ (i := 17) (N := some 65) (v := undef) (a' := ?_) #[true, true, true, true, true, true, true, true, true, true, true, true, true, true, true, true, true, true, false, false, false, false, false, false, false, false, false, false, false, false, false, false, false, false, false, false, false, false, false, false, false, false, false] rfl rfl (any_of HT_.out (by kernel_rfl)) (fun _ _ _ h => h) (Or.inr ⟨by rfl, rfl⟩) ?_ ?_
          rotate_left
          ·simp only [Act.put, List.setIfInBounds_toArray, List.set_cons_zero, List.set_cons_succ, i64_w, i32_w]
           rfl
          refine pure_ (i := 18) (N := some 66) (v := undef) (a' := ?_) #[true, true, true, true, true, true, true, true, true, true, true, true, true, true, true, true, true, true, true, false, false, false, false, false, false, false, false, false, false, false, false, false, false, false, false, false, false, false, false, false, false, false, false] rfl rfl (any_of HT_.out (by kernel_rfl)) (fun _ _ _ h => h) (Or.inr ⟨by rfl, rfl⟩) ?_ ?_
          rotate_left
          ·simp only [Act.put, List.setIfInBounds_toArray, List.set_cons_zero, List.set_cons_succ, i64_w, i32_w]
           rfl
          refine pure_ (i := 19) (N := some 67) (v := undef) (a' := ?_) #[true, true, true, true, true, true, true, true, true, true, true, true, true, true, true, true, true, true, true, true, false, false, false, false, false, false, false, false, false, false, false, false, false, false, false, false, false, false, false, false, false, false, false] rfl rfl (any_of HT_.out (by kernel_rfl)) (fun _ _ _ h => h) (Or.inr ⟨by rfl, rfl⟩) ?_ ?_
          rotate_left
          ·simp only [Act.put, List.setIfInBounds_toArray, List.set_cons_zero, List.set_cons_succ, i64_w, i32_w]
           rfl
          refine pure_ (i := 20) (N := some 68) (v := undef) (a' := ?_) #[true, true, true, true, true, true, true, true, true, true, true, true, true, true, true, true, true, true, true, true, true, false, false, false, false, false, false, false, false, false, false, false, false, false, false, false, false, false, false, false, false, false, false] rfl rfl (any_of HT_.out (by kernel_rfl)) (fun _ _ _ h => h) (Or.inr ⟨by rfl, rfl⟩) ?_ ?_
          rotate_left
          ·simp only [Act.put, List.setIfInBounds_toArray, List.set_cons_zero, List.set_cons_succ, i64_w, i32_w]
           rfl
          refine pure_ (i := 21) (N := some 69) (v := ?_) (a' := ?_) #[true, true, true, true, true, true, true, true, true, true, true, true, true, true, true, true, true, true, true, true, true, true, false, false, false, false, false, false, false, false, false, false, false, false, false, false, false, false, false, false, false, false, false] rfl rfl (any_of HT_.out (by kernel_rfl)) (fun _ _ _ h => h) (Or.inl ⟨by rfl, ?_⟩) ?_ ?_
          rotate_left
          ·intro w'
           go_simp
           with_reducible rfl
          rotate_left
          ·simp only [Act.put, List.setIfInBounds_toArray, List.set_cons_zero, List.set_cons_succ, i64_w, i32_w]
           rfl
          refine pure_ (i := 22) (N := some 70) (v := ?_) (a' := ?_) #[true, true, true, true, true, true, true, true, true, true, true, true, true, true, true, true, true, true, true, true, true, true, true, false, false, false, false, false, false, false, false, false, false, false, false, false, false, false, false, false, false, false, false] rfl rfl (any_of HT_.out (by kernel_rfl)) (fun _ _ _ h => h) (Or.inl ⟨by rfl, ?_⟩) ?_ ?_
          rotate_left
          ·intro w'
           go_simp
           with_reducible rfl
          rotate_left
          ·simp only [Act.put, List.setIfInBounds_toArray, List.set_cons_zero, List.set_cons_succ, i64_w, i32_w]
           rfl
          refine pure_ (i := 23) (N := some 71) (v := ?_) (a' := ?_) #[true, true, true, true, true, true, true, true, true, true, true, true, true, true, true, true, true, true, true, true, true, true, true, true, false, false, false, false, false, false, false, false, false, false, false, false, false, false, false, false, false, false, false] rfl rfl (any_of HT_.out (by kernel_rfl)) (fun _ _ _ h => h) (Or.inl ⟨by rfl, ?_⟩) ?_ ?_
          rotate_left
          ·intro w'
           go_simp
           with_reducible rfl
          rotate_left
          ·simp only [Act.put, List.setIfInBounds_toArray, List.set_cons_zero, List.set_cons_succ, i64_w, i32_w]
           rfl
          refine pure_ (i := 24) (N := some 72) (v := ?_) (a' := ?_) #[true, true, true, true, true, true, true, true, true, true, true, true, true, true, true, true, true, true, true, true, true, true, true, true, true, false, false, false, false, false, false, false, false, false, false, false, false, false, false, false, false, false, false] rfl rfl (any_of HT_.out (by kernel_rfl)) (fun _ _ _ h => h) (Or.inl ⟨by rfl, ?_⟩) ?_ ?_
          rotate_left
          ·intro w'
           go_simp
           with_reducible rfl
          rotate_left
          ·simp only [Act.put, List.setIfInBounds_toArray, List.set_cons_zero, List.set_cons_succ, i64_w, i32_w]
           rfl
          refine pure_ (i := 25) (N := some 73) (v := ?_) (a' := ?_) #[true, true, true, true, true, true, true, true, true, true, true, true, true, true, true, true, true, true, true, true, true, true, true, true, true, true, false, false, false, false, false, false, false, false, false, false, false, false, false, false, false, false, false] rfl rfl (any_of HT_.out (by kernel_rfl)) (fun _ _ _ h => h) (Or.inl ⟨by rfl, ?_⟩) ?_ ?_
          rotate_left
          ·intro w'
           go_simp
           with_reducible rfl
          rotate_left
          ·simp only [Act.put, List.setIfInBounds_toArray, List.set_cons_zero, List.set_cons_succ, i64_w, i32_w]
           rfl
          refine pure_ (i := 26) (N := some 74) (v := ?_) (a' := ?_) #[true, true, true, true, true, true, true, true, true, true, true, true, true, true, true, true, true, true, true, true, true, true, true, true, true, true, true, false, false, false, false, false, false, false, false, false, false, false, false, false, false, false, false] rfl rfl (any_of HT_.out (by kernel_rfl)) (fun _ _ _ h => h) (Or.inl ⟨by rfl, ?_⟩) ?_ ?_
          rotate_left
          ·intro w'
           go_simp
           with_reducible rfl
          rotate_left
          ·simp only [Act.put, List.setIfInBounds_toArray, List.set_cons_zero, List.set_cons_succ, i64_w, i32_w]
           rfl
          refine pure_ (i := 27) (N := some 75) (v := ?_) (a' := ?_) #[true, true, true, true, true, true, true, true, true, true, true, true, true, true, true, true, true, true, true, true, true, true, true, true, true, true, true, true, false, false, false, false, false, false, false, false, false, false, false, false, false, false, false] rfl rfl (any_of HT_.out (by kernel_rfl)) (fun _ _ _ h => h) (Or.inl ⟨by rfl, ?_⟩) ?_ ?_
          rotate_left
          ·intro w'
           go_simp
           with_reducible rfl
          rotate_left
          ·simp only [Act.put, List.setIfInBounds_toArray, List.set_cons_zero, List.set_cons_succ, i64_w, i32_w]
           rfl
          refine take_ (i := 28) (N := some 76) (v := ?_) (a' := ?_) #[true, true, true, true, true, true, true, true, true, true, true, true, true, true, true, true, true, true, true, true, true, true, true, true, true, true, true, true, true, false, false, false, false, false, false, false, false, false, false, false, false, false, false] rfl rfl (take_ofW HT_.out HW_.out (by kernel_rfl)) (fun _ _ _ h => h) (Or.inl ⟨by rfl, ?_⟩) hHeld ?_ ?_
          rotate_left
          ·rintro w' ⟨s0, s1, s2, s3, s4, s5, s6, s7, s8⟩
           go_simp
           with_reducible rfl
          rotate_left
          ·simp only [Act.put, List.setIfInBounds_toArray, List.set_cons_zero, List.set_cons_succ, i64_w, i32_w]
           rfl
          refine take_ (i := 29) (N := some 77) (v := ?_) (a' := ?_) #[true, true, true, true, true, true, true, true, true, true, true, true, true, true, true, true, true, true, true, true, true, true, true, true, true, true, true, true, true, true, false, false, false, false, false, false, false, false, false, false, false, false, false] rfl rfl (take_ofW HT_.out HW_.out (by kernel_rfl)) (fun _ _ _ h => h) (Or.inl ⟨by rfl, ?_⟩) hHeld ?_ ?_
          rotate_left
          ·rintro w' ⟨s0, s1, s2, s3, s4, s5, s6, s7, s8⟩
           go_simp
           with_reducible rfl
          rotate_left
          ·simp only [Act.put, List.setIfInBounds_toArray, List.set_cons_zero, List.set_cons_succ, i64_w, i32_w]
           rfl
          refine one_ (i := 30) (N := some 78) #[true, true, true, true, true, true, true, true, true, true, true, true, true, true, true, true, true, true, true, true, true, true, true, true, true, true, true, true, true, true, true, false, false, false, false, false, false, false, false, false, false, false, false] rfl rfl (one_of HT_.out (by kernel_rfl)) (by decide) (fun K hK => ?_)
          refine goes_ Try.func41 (by kernel_rfl) rfl #[.agg #[.slice Ao45 t718.length co45, .slice Ao50 t721.length co50], .agg #[.slice A0_0 l0_0.length c0_0, .slice A0_1 l0_1.length c0_1]] (by rfl) rfl rfl (by (try simp only [List.map_toArray, List.map_cons, List.map_nil]); first | done | rfl | (simp only [List.length_drop, List.length_take]; rfl)) ?_
          with_reducible refine (skiarearef53_Same.calls kj6 _ _ t718 _ _ t721 _ _ l0_0 _ _ l0_1 true _ ?side1 ?side2 ?side3 ?side4 ?side5 ?side6 ?side7 ?side8 A30.out).mono ?_
          (case side1 => repeat (first | exact (Kd.N_reads' HO720.out).2.2 | (with_reducible refine Kd.C_alloc ?_ _) | (with_reducible refine Kd.C_drewN ?_ _) | (with_reducible refine Kd.C_drew ?_)))
          (case side2 => exact (Kd.N_reads' HO720.out).2.1)
          (case side3 => repeat (first | exact (Kd.R_reads' HO723.out).2.2 | (with_reducible refine Kd.C_alloc ?_ _) | (with_reducible refine Kd.C_drewN ?_ _) | (with_reducible refine Kd.C_drew ?_)))
          (case side4 => exact (Kd.R_reads' HO723.out).2.1)
          (case side5 => repeat (first | exact (Kd.C_below HR0_0.out HB.out) | (with_reducible refine Kd.C_alloc ?_ _) | (with_reducible refine Kd.C_drewN ?_ _) | (with_reducible refine Kd.C_drew ?_)))
          (case side6 => exact HC0_0.out)
          (case side7 => repeat (first | exact (Kd.C_below HR0_1.out HB.out) | (with_reducible refine Kd.C_alloc ?_ _) | (with_reducible refine Kd.C_drewN ?_ _) | (with_reducible refine Kd.C_drew ?_)))
          (case side8 => exact HC0_1.out)
          rintro e w54 ⟨rfl, hb⟩
          refine ⟨_, rfl, ?_⟩
          have n0_ := Aside0.mk (Kd.N_below HO712.out hb)
          have n1_ := Aside0.mk (Kd.R_below HO715.out hb)
          have n2_ := Aside0.mk (Kd.N_below HO720.out hb)
          have n3_ := Aside0.mk (Kd.R_below HO723.out hb)
          have n4_ := Aside0.mk (blk_below BK705.out hb)
          have n5_ := Aside0.mk (blk_below BK706.out hb)
          have n6_ := Aside0.mk (blk_below BK717.out hb)
          have n7_ := Aside0.mk (blk_below BK725.out hb)
          have n8_ := Aside0.mk (below_step bel_ hb)
          clear HO712
          clear HO715
          clear HO720
          clear HO723
          clear BK705
          clear BK706
          clear BK717
          clear BK725
          clear HB
          have HO712 := n0_
          have HO715 := n1_
          have HO720 := n2_
          have HO723 := n3_
          have BK705 := n4_
          have BK706 := n5_
          have BK717 := n6_
          have BK725 := n7_
          have HB := n8_
          clear n0_ n1_ n2_ n3_ n4_ n5_ n6_ n7_ n8_
          (try clear hb)
          (try clear hb2)
          (try clear hk)
          (try clear hi)
          refine hK.out _ _ ⟨(blk_cell BK717.out 0).trans rfl, (blk_cell BK717.out 1).trans rfl, (blk_cell BK706.out 0).trans rfl, (blk_cell BK706.out 1).trans rfl, (blk_cell BK706.out 2).trans rfl, (blk_cell BK725.out 0).trans rfl, (blk_cell BK725.out 1).trans rfl, (blk_cell BK705.out 0).trans rfl, (blk_cell BK705.out 1).trans rfl⟩ (fun hHeld => ?_)
          clear hK K
          refine norm_ (a' := ?_) ?_ ?_
          rotate_left
          ·show Act.put _ (some 78) _ = _
           simp only [Act.put, List.setIfInBounds_toArray, List.set_cons_zero, List.set_cons_succ, i64_w, i32_w]
           rfl
          refine pure_ (i := 31) (N := some 79) (v := ?_) (a' := ?_) #[true, true, true, true, true, true, true, true, true, true, true, true, true, true, true, true, true, true, true, true, true, true, true, true, true, true, true, true, true, true, true, true, false, false, false, false, false, false, false, false, false, false, false] rfl rfl (any_of HT_.out (by kernel_rfl)) (fun _ _ _ h => h) (Or.inl ⟨by rfl, ?_⟩) ?_ ?_
          rotate_left
          ·intro w'
           go_simp
           with_reducible rfl
          rotate_left
          ·simp only [Act.put, List.setIfInBounds_toArray, List.set_cons_zero, List.set_cons_succ, i64_w, i32_w]
           rfl
          refine pure_ (i := 32) (N := some 80) (v := ?_) (a' := ?_) #[true, true, true, true, true, true, true, true, true, true, true, true, true, true, true, true, true, true, true, true, true, true, true, true, true, true, true, true, true, true, true, true, true, false, false, false, false, false, false, false, false, false, false] rfl rfl (any_of HT_.out (by kernel_rfl)) (fun _ _ _ h => h) (Or.inl ⟨by rfl, ?_⟩) ?_ ?_
          rotate_left
          ·intro w'
           go_simp
           with_reducible rfl
          rotate_left
          ·simp only [Act.put, List.setIfInBounds_toArray, List.set_cons_zero, List.set_cons_succ, i64_w, i32_w]
           rfl
          refine pure_ (i := 33) (N := some 81) (v := ?_) (a' := ?_) #[true, true, true, true, true, true, true, true, true, true, true, true, true, true, true, true, true, true, true, true, true, true, true, true, true, true, true, true, true, true, true, true, true, true, false, false, false, false, false, false, false, false, false] rfl rfl (any_of HT_.out (by kernel_rfl)) (fun _ _ _ h => h) (Or.inl ⟨by rfl, ?_⟩) ?_ ?_
          rotate_left
          ·intro w'
           go_simp
           with_reducible rfl
          rotate_left
          ·simp only [Act.put, List.setIfInBounds_toArray, List.set_cons_zero, List.set_cons_succ, i64_w, i32_w]
           rfl
          refine pure_ (i := 36) (N := some 84) (v := ?_) (a' := ?_) #[true, true, true, true, true, true, true, true, true, true, true, true, true, true, true, true, true, true, true, true, true, true, true, true, true, true, true, true, true, true, true, true, true, true, false, false, true, false, false, false, false, false, false] rfl rfl (any_of HT_.out (by kernel_rfl)) (fun _ _ _ h => h) (Or.inl ⟨by rfl, ?_⟩) ?_ ?_
          rotate_left
          ·intro w'
           go_simp
           with_reducible rfl
          rotate_left
          ·simp only [Act.put, List.setIfInBounds_toArray, List.set_cons_zero, List.set_cons_succ, i64_w, i32_w]
           rfl
          refine take_ (i := 34) (N := some 82) (v := ?_) (a' := ?_) #[true, true, true, true, true, true, true, true, true, true, true, true, true, true, true, true, true, true, true, true, true, true, true, true, true, true, true, true, true, true, true, true, true, true, true, false, true, false, false, false, false, false, false] rfl rfl (take_ofW HT_.out HW_.out (by kernel_rfl)) (fun _ _ _ h => h) (Or.inl ⟨by rfl, ?_⟩) hHeld ?_ ?_
          rotate_left
          ·rintro w' ⟨s0, s1, s2, s3, s4, s5, s6, s7, s8⟩
           go_simp
           with_reducible rfl
          rotate_left
          ·simp only [Act.put, List.setIfInBounds_toArray, List.set_cons_zero, List.set_cons_succ, i64_w, i32_w]
           rfl
          refine pure_ (i := 35) (N := some 83) (v := ?_) (a' := ?_) #[true, true, true, true, true, true, true, true, true, true, true, true, true, true, true, true, true, true, true, true, true, true, true, true, true, true, true, true, true, true, true, true, true, true, true, true, true, false, false, false, false, false, false] rfl rfl (any_of HT_.out (by kernel_rfl)) (fun _ _ _ h => h) (Or.inl ⟨by rfl, ?_⟩) ?_ ?_
          rotate_left
          ·intro w'
           go_simp
           with_reducible rfl
          rotate_left
          ·simp only [Act.put, List.setIfInBounds_toArray, List.set_cons_zero, List.set_cons_succ, i64_w, i32_w]
           rfl
          refine take_ (i := 37) (N := some 85) (v := ?_) (a' := ?_) #[true, true, true, true, true, true, true, true, true, true, true, true, true, true, true, true, true, true, true, true, true, true, true, true, true, true, true, true, true, true, true, true, true, true, true, true, true, true, false, false, false, false, false] rfl rfl (take_ofW HT_.out HW_.out (by kernel_rfl)) (fun _ _ _ h => h) (Or.inl ⟨by rfl, ?_⟩) hHeld ?_ ?_
          rotate_left
          ·rintro w' ⟨s0, s1, s2, s3, s4, s5, s6, s7, s8⟩
           go_simp
           with_reducible rfl
          rotate_left
          ·simp only [Act.put, List.setIfInBounds_toArray, List.set_cons_zero, List.set_cons_succ, i64_w, i32_w]
           rfl
          refine pure_ (i := 38) (N := some 86) (v := ?_) (a' := ?_) #[true, true, true, true, true, true, true, true, true, true, true, true, true, true, true, true, true, true, true, true, true, true, true, true, true, true, true, true, true, true, true, true, true, true, true, true, true, true, true, false, false, false, false] rfl rfl (any_of HT_.out (by kernel_rfl)) (fun _ _ _ h => h) (Or.inl ⟨by rfl, ?_⟩) ?_ ?_
          rotate_left
          ·intro w'
           go_simp
           with_reducible rfl
          rotate_left
          ·simp only [Act.put, List.setIfInBounds_toArray, List.set_cons_zero, List.set_cons_succ, i64_w, i32_w]
           rfl
          refine pure_ (i := 39) (N := some 87) (v := ?_) (a' := ?_) #[true, true, true, true, true, true, true, true, true, true, true, true, true, true, true, true, true, true, true, true, true, true, true, true, true, true, true, true, true, true, true, true, true, true, true, true, true, true, true, true, false, false, false] rfl rfl (any_of HT_.out (by kernel_rfl)) (fun _ _ _ h => h) (Or.inl ⟨by rfl, ?_⟩) ?_ ?_
          rotate_left
          ·intro w'
           go_simp
           with_reducible rfl
          rotate_left
          ·simp only [Act.put, List.setIfInBounds_toArray, List.set_cons_zero, List.set_cons_succ, i64_w, i32_w]
           rfl
          refine pure_ (i := 40) (N := some 88) (v := ?_) (a' := ?_) #[true, true, true, true, true, true, true, true, true, true, true, true, true, true, true, true, true, true, true, true, true, true, true, true, true, true, true, true, true, true, true, true, true, true, true, true, true, true, true, true, true, false, false] rfl rfl (any_of HT_.out (by kernel_rfl)) (fun _ _ _ h => h) (Or.inl ⟨by rfl, ?_⟩) ?_ ?_
          rotate_left
          ·intro w'
           go_simp
           with_reducible rfl
          rotate_left
          ·simp only [Act.put, List.setIfInBounds_toArray, List.set_cons_zero, List.set_cons_succ, i64_w, i32_w]
           rfl
          refine pure_ (i := 41) (N := some 89) (v := ?_) (a' := ?_) #[true, true, true, true, true, true, true, true, true, true, true, true, true, true, true, true, true, true, true, true, true, true, true, true, true, true, true, true, true, true, true, true, true, true, true, true, true, true, true, true, true, true, false] rfl rfl (any_of HT_.out (by kernel_rfl)) (fun _ _ _ h => h) (Or.inl ⟨by rfl, ?_⟩) ?_ ?_
          rotate_left
          ·intro w'
           go_simp
           with_reducible rfl
          rotate_left
          ·simp only [Act.put, List.setIfInBounds_toArray, List.set_cons_zero, List.set_cons_succ, i64_w, i32_w]
           rfl
          refine pure_ (i := 42) (N := some 8) (v := ?_) (a' := ?_) #[true, true, true, true, true, true, true, true, true, true, true, true, true, true, true, true, true, true, true, true, true, true, true, true, true, true, true, true, true, true, true, true, true, true, true, true, true, true, true, true, true, true, true] rfl rfl (any_of HT_.out (by kernel_rfl)) (fun _ _ _ h => h) (Or.inl ⟨by rfl, ?_⟩) ?_ ?_
          rotate_left
          ·intro w'
           go_simp
           with_reducible rfl
          rotate_left
          ·simp only [Act.put, List.setIfInBounds_toArray, List.set_cons_zero, List.set_cons_succ, i64_w, i32_w]
           rfl
          refine done_ (done_of HT_.out (by kernel_rfl)) ?_
          try go_wp2
          go_ret
          exact ⟨by first | rfl | (rw [HTR.out]; rfl) | (exact congrArg (fun b => Ending.returned (Value.bool b)) HTR.out) | (simpa using HTR.out) | (simp [errW_none, errW_some] <;> rfl) | (simp [*, errW_none, errW_some] <;> rfl), by repeat (first | (with_reducible first | exact HB.out | apply below_alloc | apply pw_below_drewN | apply below_drew1 | refine below_set ?_ GE705.out | refine below_set ?_ GE706.out | refine below_set ?_ GE717.out | refine below_set ?_ GE725.out) | exact HB.out)⟩
         ·replace c31 := Bool.eq_false_iff.mpr c31
          subst c31
          have H1 : (some false) = some true := by rw [if_neg (show ¬ (false = true) by decide)] at H; exact H
          clear H
          have H := H1
          clear H1
          exact absurd H (by simp)
        ·rw [if_neg c29] at H
         have c29b0 : (t724 == 0) = false := beq_eq_false_iff_ne.mpr c29
         have c29b1 : (t724 != 0) = true := bne_iff_ne.mpr c29
         exact absurd H (by simp)
       ·rw [if_neg c28] at H
        have c28b0 : (a2 == a1_1) = false := beq_eq_false_iff_ne.mpr c28
        have c28b1 : (a2 != a1_1) = true := bne_iff_ne.mpr c28
        replace H := Option.bind_eq_some_iff.mp H
        obtain ⟨t728, A550, H⟩ := H
        replace H : ((patrol_Ready.f l0_0 l0_1 a2 a3).bind fun t729 => (if (t728 == t729) = true then (if t724 = 0 then ((skiarearef53_Same.f kj6 t718 t721 l0_0 l0_1).bind fun t730 => (if t730 = true then (some ((t713.length : Int) == (wrap64 ((l0_1.length : Int) + 1)))) else (some false))) else (some false)) else (some false))) = some true := H
        have A55 := Aside0.mk A550
        clear A550
        replace H := Option.bind_eq_some_iff.mp H
        obtain ⟨t729, A560, H⟩ := H
        replace H : (if (t728 == t729) = true then (if t724 = 0 then ((skiarearef53_Same.f kj6 t718 t721 l0_0 l0_1).bind fun t730 => (if t730 = true then (some ((t713.length : Int) == (wrap64 ((l0_1.length : Int) + 1)))) else (some false))) else (some false)) else (some false)) = some true := H
        have A56 := Aside0.mk A560
        clear A560
        by_cases c57 : (t728 == t729) = true
        ·rw [if_pos c57] at H
         have c57b0 : (t728 == t729) = true := c57
         (try (have c57b1 : decide (t728 = t729) = true := by simpa using c57))
         (try (have c57b2 : (t728 == t729) = true := by simpa using c57))
         clear c57
         by_cases c58 : t724 = 0
         ·rw [if_pos c58] at H
          have c58b0 : (t724 == 0) = true := beq_iff_eq.mpr c58
          have c58b1 : (t724 != 0) = false := bne_eq_false_iff_eq.mpr c58
          clear c58
          replace H := Option.bind_eq_some_iff.mp H
          obtain ⟨t730, A590, H⟩ := H
          replace H : (if t730 = true then (some ((t713.length : Int) == (wrap64 ((l0_1.length : Int) + 1)))) else (some false)) = some true := H
          have A59 := Aside0.mk A590
          clear A590
          by_cases c60 : t730 = true
          ·subst c60
           have H1 : (some ((t713.length : Int) == (wrap64 ((l0_1.length : Int) + 1)))) = some true := by rw [if_pos rfl] at H; exact H
           clear H
           have H := H1
           clear H1
           have HTR := Aside0.mk (Option.some.inj H)
           clear H
           have hnb61 := NB705_706.out
           have hnc61 := NB706_705.out
           have hcz62_0 : wc.cell? ⟨gb705, 0, none⟩ = some (.slice A0_0 l0_0.length c0_0) := (blk_cell BK705.out 0).trans rfl
           have hcz62_1 : wc.cell? ⟨gb705, 1, none⟩ = some (.slice A0_1 l0_1.length c0_1) := (blk_cell BK705.out 1).trans rfl
           have hfz62_0 := blk_frozen BK705.out 0
           have hfz62_1 := blk_frozen BK705.out 1
           have hcz63_0 : wc.cell? ⟨gb706, 0, none⟩ = some (.int .i64 a1_0) := (blk_cell BK706.out 0).trans rfl
           have hcz63_1 : wc.cell? ⟨gb706, 1, none⟩ = some (.int .i64 a1_1) := (blk_cell BK706.out 1).trans rfl
           have hcz63_2 : wc.cell? ⟨gb706, 2, none⟩ = some (.int .i64 a1_2) := (blk_cell BK706.out 2).trans rfl
           have hfz63_0 := blk_frozen BK706.out 0
           have hfz63_1 := blk_frozen BK706.out 1
           have hfz63_2 := blk_frozen BK706.out 2
           try go_wp2_with (first | ((with_reducible refine gate_callee (f := 42) rfl ?_); refine goesL_ (some 26) rfl rfl Try.func42 (by kernel_rfl) rfl #[.agg #[.slice A0_0 l0_0.length c0_0, .slice A0_1 l0_1.length c0_1], .agg #[.int .i64 a1_0, .int .i64 a1_1, .int .i64 a1_2]] rfl (by (try simp only [List.map_toArray, List.map_cons, List.map_nil]); first | done | rfl | (simp only [List.length_drop, List.length_take]; rfl)) ?_; (with_reducible refine (patrol_Report.calls kj6 _ _ l0_0 _ _ l0_1 a1_0 a1_1 a1_2 t710 t713 t716 _ ?side1 ?side2 ?side3 ?side4 A23.out).mono ?_); (case side1 => repeat (first | exact (Kd.C_below HR0_0.out HB.out) | (with_reducible refine Kd.C_alloc ?_ _) | (with_reducible refine Kd.C_drewN ?_ _) | (with_reducible refine Kd.C_drew ?_))); (case side2 => exact HC0_0.out); (case side3 => repeat (first | exact (Kd.C_below HR0_1.out HB.out) | (with_reducible refine Kd.C_alloc ?_ _) | (with_reducible refine Kd.C_drewN ?_ _) | (with_reducible refine Kd.C_drew ?_))); (case side4 => exact HC0_1.out); rintro e w64 ⟨v711, v714, rfl, ho0, ho1, hb⟩; refine ⟨_, rfl, ?_⟩; have n0_ := Aside0.mk (Kd.N_lower (Kd.N_mono (ok' := fun k_ => some k_ ≠ (v714 : Value).ownBlock ∧ k_ ≠ gb705 ∧ k_ ≠ gb706) ho0 (fun k_ hk_ => ⟨hk_.2, (Kd.freshB BK705.out k_ hk_.1), (Kd.freshB BK706.out k_ hk_.1)⟩)) (below_size bel_)); have n1_ := Aside0.mk (Kd.R_lower (Kd.R_newB (Kd.R_mono (ok' := fun k_ => True) ho1 (fun _ hk_ => trivial)) BK706.out) (below_size bel_)); have n2_ := Aside0.mk (blk_below BK705.out hb); have n3_ := Aside0.mk (blk_below BK706.out hb); have n4_ := Aside0.mk (below_step bel_ hb); clear BK705; clear BK706; clear HB; have HO712 := n0_; have HO715 := n1_; have BK705 := n2_; have BK706 := n3_; have HB := n4_; clear n0_ n1_ n2_ n3_ n4_; (try clear hb); (try clear hb2); (try clear hk); (try clear hi); (try clear ho0); (try clear ho1)) | ((with_reducible refine gate_dst (N := 9) rfl ?_); (try (refine gate_guard (by rfl) ?_; dsimp only)); refine box_event ?hg (N := 9) ?hd (cs := #[.slice none 0 0, .slice none 0 0]) (t := 48) ?hr ?_; (case hd => rfl); (case hg => rfl); (case hr => first | (go_simp; done) | (go_simp; rfl)); intro gb717 hg w65 hbox hb; have n0_ := Aside0.mk (Kd.N_below (Kd.N_elderB HO712.out gb717 (Nat.le_of_eq hg.symm)) hb); have n1_ := Aside0.mk (Kd.R_below HO715.out hb); have n2_ := Aside0.mk (blk_below BK705.out hb); have n3_ := Aside0.mk (blk_below BK706.out hb); have n4_ := Aside0.mk (below_step bel_ hb); have n5_ := Aside0.mk (hbox); have n6_ := Aside0.mk ((by rw [hg]; exact (below_size bel_) : w.heap.size ≤ gb717)); have n7_ := Aside0.mk ((by rw [hg]; exact (below_size bel_) : w.heap.size ≤ gb717)); have n8_ := Aside0.mk ((by rw [hg]; exact Nat.ne_of_lt (blk_lt BK705.out) : gb705 ≠ gb717)); have n9_ := Aside0.mk ((by rw [hg]; exact Nat.ne_of_gt (blk_lt BK705.out) : gb717 ≠ gb705)); have n10_ := Aside0.mk ((by rw [hg]; exact Nat.ne_of_lt (blk_lt BK706.out) : gb706 ≠ gb717)); have n11_ := Aside0.mk ((by rw [hg]; exact Nat.ne_of_gt (blk_lt BK706.out) : gb717 ≠ gb706)); clear HO712; clear HO715; clear BK705; clear BK706; clear HB; have HO712 := n0_; have HO715 := n1_; have BK705 := n2_; have BK706 := n3_; have HB := n4_; have BK717 := n5_; have GW717 := n6_; have GE717 := n7_; have NB705_717 := n8_; have NB717_705 := n9_; have NB706_717 := n10_; have NB717_706 := n11_; clear n0_ n1_ n2_ n3_ n4_ n5_ n6_ n7_ n8_ n9_ n10_ n11_; clear hb hbox hg; obtain ⟨Ao66, co66, eo66⟩ := Kd.N_slice HO712.out; subst eo66; have hnb67 := NB717_705.out; have hnc67 := NB705_717.out; have hnb68 := NB717_706.out; have hnc68 := NB706_717.out; have hcz69_0 : w65.cell? ⟨gb717, 0, none⟩ = some (.slice none 0 0) := (blk_cell BK717.out 0).trans rfl; have hcz69_1 : w65.cell? ⟨gb717, 1, none⟩ = some (.slice none 0 0) := (blk_cell BK717.out 1).trans rfl; have hfz69_0 := blk_frozen BK717.out 0; have hfz69_1 := blk_frozen BK717.out 1; obtain ⟨Ao70, co70, eo70⟩ := Kd.R_slice HO715.out; subst eo70; have hcz71_0 : w65.cell? ⟨gb706, 0, none⟩ = some (.int .i64 a1_0) := (blk_cell BK706.out 0).trans rfl; have hcz71_1 : w65.cell? ⟨gb706, 1, none⟩ = some (.int .i64 a1_1) := (blk_cell BK706.out 1).trans rfl; have hcz71_2 : w65.cell? ⟨gb706, 2, none⟩ = some (.int .i64 a1_2) := (blk_cell BK706.out 2).trans rfl; have hfz71_0 := blk_frozen BK706.out 0; have hfz71_1 := blk_frozen BK706.out 1; have hfz71_2 := blk_frozen BK706.out 2) | ((with_reducible refine gate_callee (f := 44) rfl ?_); refine goesL_ (some 45) rfl rfl Try.func44 (by kernel_rfl) rfl #[.agg #[.slice Ao66 t710.length co66, .slice Ao70 t713.length co70], .int .i64 a1_0] rfl (by (try simp only [List.map_toArray, List.map_cons, List.map_nil]); first | done | rfl | (simp only [List.length_drop, List.length_take]; rfl)) ?_; (with_reducible refine (patrol_Remove.calls _ _ t710 _ _ t713 a1_0 t718 t721 t724 _ ?side1 ?side2 ?side3 ?side4 A25.out).mono ?_); (case side1 => refine (Kd.N_reads' (e := 63) (base := w.heap.size) (ok := fun k_ => ((some k_ ≠ (.slice Ao70 t713.length co70 : Value).ownBlock ∧ (k_ ≠ gb705 ∧ k_ ≠ gb706)) ∧ k_ ≠ gb717)) (n := t710.length) (c := co66) ?_).2.2; exact (by (with_reducible repeat (first | apply Kd.N_alloc | apply Kd.N_drewN | apply Kd.N_drew)); exact (Kd.N_mono (Kd.N_far (p := ⟨gb717, 1, none⟩) (Kd.N_far (p := ⟨gb717, 0, none⟩) (Kd.N_mono HO712.out (fun k_ hk => (⟨hk, hk.2⟩ : _ ∧ k_ ≠ gb717))) (fun _ hk => hk.2) (.slice Ao66 t710.length co66)) (fun _ hk => hk.2) (.slice Ao70 t713.length co70)) (fun _ h_ => h_.1)))); (case side2 => exact (Kd.N_reads' HO712.out).2.1); (case side3 => refine (Kd.R_reads' (e := 56) (base := w.heap.size) (ok := fun k_ => (True ∧ k_ ≠ gb706)) (n := t713.length) (c := co70) ?_).2.2; exact (by (with_reducible repeat (first | apply Kd.R_alloc | apply Kd.R_drewN | apply Kd.R_drew)); exact (Kd.R_mono (Kd.R_far (p := ⟨gb717, 1, none⟩) (Kd.R_far (p := ⟨gb717, 0, none⟩) (Kd.R_types HO715.out BK717.out (by decide)) (fun _ hk => hk.2) (.slice Ao66 t710.length co66)) (fun _ hk => hk.2) (.slice Ao70 t713.length co70)) (fun _ h_ => h_.1)))); (case side4 => exact (Kd.R_reads' HO715.out).2.1); rintro e w72 ⟨v719, v722, rfl, ho0, ho1, hb⟩; refine ⟨_, rfl, ?_⟩; have n0_ := Aside0.mk (Kd.N_mono (Kd.N_told (Kd.N_told (Kd.N_old (by (with_reducible repeat (first | apply Kd.N_alloc | apply Kd.N_drewN | apply Kd.N_drew)); exact (Kd.N_mono (Kd.N_far (p := ⟨gb717, 1, none⟩) (Kd.N_far (p := ⟨gb717, 0, none⟩) (Kd.N_mono HO712.out (fun k_ hk => (⟨hk, hk.2⟩ : _ ∧ k_ ≠ gb717))) (fun _ hk => hk.2) (.slice Ao66 t710.length co66)) (fun _ hk => hk.2) (.slice Ao70 t713.length co70)) (fun _ h_ => h_.1))) hb) (Kd.N_base ho0)) (Kd.R_base ho1)) (fun _ h_ => h_.1)); have n1_ := Aside0.mk (Kd.R_elder' (by (with_reducible repeat (first | apply Kd.R_alloc | apply Kd.R_drewN | apply Kd.R_drew)); exact (Kd.R_mono (Kd.R_far (p := ⟨gb717, 1, none⟩) (Kd.R_far (p := ⟨gb717, 0, none⟩) (Kd.R_types HO715.out BK717.out (by decide)) (fun _ hk => hk.2) (.slice Ao66 t710.length co66)) (fun _ hk => hk.2) (.slice Ao70 t713.length co70)) (fun _ h_ => h_.1))) (Kd.R_base ho1) hb); have n2_ := Aside0.mk (Kd.N_lower (Kd.N_mono (ok' := fun k_ => some k_ ≠ (v722 : Value).ownBlock ∧ some k_ ≠ (.slice Ao66 t710.length co66 : Value).ownBlock ∧ some k_ ≠ (.slice Ao70 t713.length co70 : Value).ownBlock ∧ k_ ≠ gb705 ∧ k_ ≠ gb706 ∧ k_ ≠ gb717) ho0 (fun k_ hk_ => ⟨hk_.2, (Kd.fresh' (Kd.N_lt (by (with_reducible repeat (first | apply Kd.N_alloc | apply Kd.N_drewN | apply Kd.N_drew)); exact (Kd.N_mono (Kd.N_far (p := ⟨gb717, 1, none⟩) (Kd.N_far (p := ⟨gb717, 0, none⟩) (Kd.N_mono HO712.out (fun k_ hk => (⟨hk, hk.2⟩ : _ ∧ k_ ≠ gb717))) (fun _ hk => hk.2) (.slice Ao66 t710.length co66)) (fun _ hk => hk.2) (.slice Ao70 t713.length co70)) (fun _ h_ => h_.1)))) k_ hk_.1), (Kd.fresh' (Kd.R_lt (by (with_reducible repeat (first | apply Kd.R_alloc | apply Kd.R_drewN | apply Kd.R_drew)); exact (Kd.R_mono (Kd.R_far (p := ⟨gb717, 1, none⟩) (Kd.R_far (p := ⟨gb717, 0, none⟩) (Kd.R_types HO715.out BK717.out (by decide)) (fun _ hk => hk.2) (.slice Ao66 t710.length co66)) (fun _ hk => hk.2) (.slice Ao70 t713.length co70)) (fun _ h_ => h_.1)))) k_ hk_.1), (Kd.freshB (g := gb705) (o := .cells #[.slice A0_0 l0_0.length c0_0, .slice A0_1 l0_1.length c0_1] 48 (0, 0)) (by refine blk_far ?_ NB705_717.out _; refine blk_far ?_ NB705_717.out _; exact BK705.out) k_ hk_.1), (Kd.freshB (g := gb706) (o := .cells #[.int .i64 a1_0, .int .i64 a1_1, .int .i64 a1_2] 56 (0, 0)) (by refine blk_far ?_ NB706_717.out _; refine blk_far ?_ NB706_717.out _; exact BK706.out) k_ hk_.1), (Kd.freshB (g := gb717) (o := .cells #[.slice Ao66 t710.length co66, .slice Ao70 t713.length co70] 48 (0, 0)) (by refine blk_put (cs := #[.slice Ao66 t710.length co66, .slice none 0 0]) ?_ 1 _ rfl; refine blk_put (cs := #[.slice none 0 0, .slice none 0 0]) ?_ 0 _ rfl; exact BK717.out) k_ hk_.1)⟩)) (below_size bel_)); have n3_ := Aside0.mk (Kd.R_lower (Kd.R_newB (Kd.R_new' (Kd.R_mono (ok' := fun k_ => True) ho1 (fun _ hk_ => trivial)) (Kd.R_lt (by (with_reducible repeat (first | apply Kd.R_alloc | apply Kd.R_drewN | apply Kd.R_drew)); exact (Kd.R_mono (Kd.R_far (p := ⟨gb717, 1, none⟩) (Kd.R_far (p := ⟨gb717, 0, none⟩) (Kd.R_types HO715.out BK717.out (by decide)) (fun _ hk => hk.2) (.slice Ao66 t710.length co66)) (fun _ hk => hk.2) (.slice Ao70 t713.length co70)) (fun _ h_ => h_.1))))) (g := gb706) (o := .cells #[.int .i64 a1_0, .int .i64 a1_1, .int .i64 a1_2] 56 (0, 0)) (by refine blk_far ?_ NB706_717.out _; refine blk_far ?_ NB706_717.out _; exact BK706.out)) (below_size bel_)); have n4_ := Aside0.mk (blk_below (g := gb705) (o := .cells #[.slice A0_0 l0_0.length c0_0, .slice A0_1 l0_1.length c0_1] 48 (0, 0)) (by refine blk_far ?_ NB705_717.out _; refine blk_far ?_ NB705_717.out _; exact BK705.out) hb); have n5_ := Aside0.mk (blk_below (g := gb706) (o := .cells #[.int .i64 a1_0, .int .i64 a1_1, .int .i64 a1_2] 56 (0, 0)) (by refine blk_far ?_ NB706_717.out _; refine blk_far ?_ NB706_717.out _; exact BK706.out) hb); have n6_ := Aside0.mk (blk_below (g := gb717) (o := .cells #[.slice Ao66 t710.length co66, .slice Ao70 t713.length co70] 48 (0, 0)) (by refine blk_put (cs := #[.slice Ao66 t710.length co66, .slice none 0 0]) ?_ 1 _ rfl; refine blk_put (cs := #[.slice none 0 0, .slice none 0 0]) ?_ 0 _ rfl; exact BK717.out) hb); have n7_ := Aside0.mk (below_step bel_ hb); clear HO712; clear HO715; clear BK705; clear BK706; clear BK717; clear HB; have HO712 := n0_; have HO715 := n1_; have HO720 := n2_; have HO723 := n3_; have BK705 := n4_; have BK706 := n5_; have BK717 := n6_; have HB := n7_; clear n0_ n1_ n2_ n3_ n4_ n5_ n6_ n7_; (try clear hb); (try clear hb2); (try clear hk); (try clear hi); (try clear ho0); (try clear ho1)) | ((with_reducible refine gate_dst (N := 11) rfl ?_); (try (refine gate_guard (by rfl) ?_; dsimp only)); refine box_event ?hg (N := 11) ?hd (cs := #[.slice none 0 0, .slice none 0 0]) (t := 48) ?hr ?_; (case hd => rfl); (case hg => rfl); (case hr => first | (go_simp; done) | (go_simp; rfl)); intro gb725 hg w73 hbox hb; have n0_ := Aside0.mk (Kd.N_below (Kd.N_elderB HO712.out gb725 (Nat.le_of_eq hg.symm)) hb); have n1_ := Aside0.mk (Kd.R_below HO715.out hb); have n2_ := Aside0.mk (Kd.N_below (Kd.N_elderB HO720.out gb725 (Nat.le_of_eq hg.symm)) hb); have n3_ := Aside0.mk (Kd.R_below HO723.out hb); have n4_ := Aside0.mk (blk_below BK705.out hb); have n5_ := Aside0.mk (blk_below BK706.out hb); have n6_ := Aside0.mk (blk_below BK717.out hb); have n7_ := Aside0.mk (below_step bel_ hb); have n8_ := Aside0.mk (hbox); have n9_ := Aside0.mk ((by rw [hg]; exact (below_size bel_) : w.heap.size ≤ gb725)); have n10_ := Aside0.mk ((by rw [hg]; exact (below_size bel_) : w.heap.size ≤ gb725)); have n11_ := Aside0.mk ((by rw [hg]; exact Nat.ne_of_lt (blk_lt BK705.out) : gb705 ≠ gb725)); have n12_ := Aside0.mk ((by rw [hg]; exact Nat.ne_of_gt (blk_lt BK705.out) : gb725 ≠ gb705)); have n13_ := Aside0.mk ((by rw [hg]; exact Nat.ne_of_lt (blk_lt BK706.out) : gb706 ≠ gb725)); have n14_ := Aside0.mk ((by rw [hg]; exact Nat.ne_of_gt (blk_lt BK706.out) : gb725 ≠ gb706)); have n15_ := Aside0.mk ((by rw [hg]; exact Nat.ne_of_lt (blk_lt BK717.out) : gb717 ≠ gb725)); have n16_ := Aside0.mk ((by rw [hg]; exact Nat.ne_of_gt (blk_lt BK717.out) : gb725 ≠ gb717)); clear HO712; clear HO715; clear HO720; clear HO723; clear BK705; clear BK706; clear BK717; clear HB; have HO712 := n0_; have HO715 := n1_; have HO720 := n2_; have HO723 := n3_; have BK705 := n4_; have BK706 := n5_; have BK717 := n6_; have HB := n7_; have BK725 := n8_; have GW725 := n9_; have GE725 := n10_; have NB705_725 := n11_; have NB725_705 := n12_; have NB706_725 := n13_; have NB725_706 := n14_; have NB717_725 := n15_; have NB725_717 := n16_; clear n0_ n1_ n2_ n3_ n4_ n5_ n6_ n7_ n8_ n9_ n10_ n11_ n12_ n13_ n14_ n15_ n16_; clear hb hbox hg; obtain ⟨Ao74, co74, eo74⟩ := Kd.N_slice HO720.out; subst eo74; have hnb75 := NB725_705.out; have hnc75 := NB705_725.out; have hnb76 := NB725_706.out; have hnc76 := NB706_725.out; have hnb77 := NB725_717.out; have hnc77 := NB717_725.out; have hcz78_0 : w73.cell? ⟨gb725, 0, none⟩ = some (.slice none 0 0) := (blk_cell BK725.out 0).trans rfl; have hcz78_1 : w73.cell? ⟨gb725, 1, none⟩ = some (.slice none 0 0) := (blk_cell BK725.out 1).trans rfl; have hfz78_0 := blk_frozen BK725.out 0; have hfz78_1 := blk_frozen BK725.out 1; obtain ⟨Ao79, co79, eo79⟩ := Kd.R_slice HO723.out; subst eo79))
           have n0_ : Aside0 (Kd.N k63 63 ((w73.setCell ⟨gb725, 0, none⟩ (.slice Ao74 t718.length co74)).setCell ⟨gb725, 1, none⟩ (.slice Ao79 t721.length co79)) w.heap.size (fun k_ => some k_ ≠ (.slice Ao70 t713.length co70 : Value).ownBlock ∧ some k_ ≠ (.slice Ao74 t718.length co74 : Value).ownBlock ∧ some k_ ≠ (.slice Ao79 t721.length co79 : Value).ownBlock ∧ k_ ≠ gb705 ∧ k_ ≠ gb706 ∧ k_ ≠ gb717 ∧ k_ ≠ gb725) (.slice Ao66 t710.length co66) t710) := ⟨by (with_reducible repeat (first | apply Kd.N_alloc | apply Kd.N_drewN | apply Kd.N_drew)); exact Kd.N_mono (Kd.N_far (p := ⟨gb725, 1, none⟩) (Kd.N_far (p := ⟨gb725, 0, none⟩) (Kd.N_mono HO712.out (fun k_ hk => (⟨hk, hk.2⟩ : _ ∧ k_ ≠ gb725))) (fun _ hk => hk.2) (.slice Ao74 t718.length co74)) (fun _ hk => hk.2) (.slice Ao79 t721.length co79)) (fun _ hk => ⟨hk.1.1.1.1.1.1, ⟨hk.1.1.1.2, ⟨hk.1.1.2, ⟨hk.1.1.1.1.1.2.1, ⟨hk.1.1.1.1.1.2.2, ⟨hk.1.1.1.1.2, hk.1.2⟩⟩⟩⟩⟩⟩)⟩
           have n1_ : Aside0 (Kd.R k56 56 ((w73.setCell ⟨gb725, 0, none⟩ (.slice Ao74 t718.length co74)).setCell ⟨gb725, 1, none⟩ (.slice Ao79 t721.length co79)) w.heap.size (fun k_ => some k_ ≠ (.slice Ao79 t721.length co79 : Value).ownBlock ∧ k_ ≠ gb706) (.slice Ao70 t713.length co70) t713) := ⟨by (with_reducible repeat (first | apply Kd.R_alloc | apply Kd.R_drewN | apply Kd.R_drew)); exact Kd.R_mono (Kd.R_far (p := ⟨gb725, 1, none⟩) (Kd.R_far (p := ⟨gb725, 0, none⟩) (Kd.R_types HO715.out BK725.out (by decide)) (fun _ hk => hk.2) (.slice Ao74 t718.length co74)) (fun _ hk => hk.2) (.slice Ao79 t721.length co79)) (fun _ hk => ⟨hk.1.2, hk.1.1.2⟩)⟩
           have n2_ : Aside0 (Kd.N k63 63 ((w73.setCell ⟨gb725, 0, none⟩ (.slice Ao74 t718.length co74)).setCell ⟨gb725, 1, none⟩ (.slice Ao79 t721.length co79)) w.heap.size (fun k_ => some k_ ≠ (.slice Ao66 t710.length co66 : Value).ownBlock ∧ some k_ ≠ (.slice Ao70 t713.length co70 : Value).ownBlock ∧ some k_ ≠ (.slice Ao79 t721.length co79 : Value).ownBlock ∧ k_ ≠ gb705 ∧ k_ ≠ gb706 ∧ k_ ≠ gb717 ∧ k_ ≠ gb725) (.slice Ao74 t718.length co74) t718) := ⟨by (with_reducible repeat (first | apply Kd.N_alloc | apply Kd.N_drewN | apply Kd.N_drew)); exact Kd.N_mono (Kd.N_far (p := ⟨gb725, 1, none⟩) (Kd.N_far (p := ⟨gb725, 0, none⟩) (Kd.N_mono HO720.out (fun k_ hk => (⟨hk, hk.2⟩ : _ ∧ k_ ≠ gb725))) (fun _ hk => hk.2) (.slice Ao74 t718.length co74)) (fun _ hk => hk.2) (.slice Ao79 t721.length co79)) (fun _ hk => ⟨hk.1.1.2.1, ⟨hk.1.1.2.2.1, ⟨hk.1.1.1, ⟨hk.1.1.2.2.2.1, ⟨hk.1.1.2.2.2.2.1, ⟨hk.1.1.2.2.2.2.2, hk.1.2⟩⟩⟩⟩⟩⟩)⟩
           have n3_ : Aside0 (Kd.R k56 56 ((w73.setCell ⟨gb725, 0, none⟩ (.slice Ao74 t718.length co74)).setCell ⟨gb725, 1, none⟩ (.slice Ao79 t721.length co79)) w.heap.size (fun k_ => some k_ ≠ (.slice Ao70 t713.length co70 : Value).ownBlock ∧ k_ ≠ gb706) (.slice Ao79 t721.length co79) t721) := ⟨by (with_reducible repeat (first | apply Kd.R_alloc | apply Kd.R_drewN | apply Kd.R_drew)); exact Kd.R_mono (Kd.R_far (p := ⟨gb725, 1, none⟩) (Kd.R_far (p := ⟨gb725, 0, none⟩) (Kd.R_types HO723.out BK725.out (by decide)) (fun _ hk => hk.2) (.slice Ao74 t718.length co74)) (fun _ hk => hk.2) (.slice Ao79 t721.length co79)) (fun _ hk => ⟨hk.1.1.2, hk.1.2⟩)⟩
           have n4_ : Aside0 (((w73.setCell ⟨gb725, 0, none⟩ (.slice Ao74 t718.length co74)).setCell ⟨gb725, 1, none⟩ (.slice Ao79 t721.length co79)).heap[gb705]? = some (.cells #[.slice A0_0 l0_0.length c0_0, .slice A0_1 l0_1.length c0_1] 48 (0, 0))) := ⟨by refine blk_far ?_ NB705_725.out _; refine blk_far ?_ NB705_725.out _; exact BK705.out⟩
           have n5_ : Aside0 (((w73.setCell ⟨gb725, 0, none⟩ (.slice Ao74 t718.length co74)).setCell ⟨gb725, 1, none⟩ (.slice Ao79 t721.length co79)).heap[gb706]? = some (.cells #[.int .i64 a1_0, .int .i64 a1_1, .int .i64 a1_2] 56 (0, 0))) := ⟨by refine blk_far ?_ NB706_725.out _; refine blk_far ?_ NB706_725.out _; exact BK706.out⟩
           have n6_ : Aside0 (((w73.setCell ⟨gb725, 0, none⟩ (.slice Ao74 t718.length co74)).setCell ⟨gb725, 1, none⟩ (.slice Ao79 t721.length co79)).heap[gb717]? = some (.cells #[.slice Ao66 t710.length co66, .slice Ao70 t713.length co70] 48 (0, 0))) := ⟨by refine blk_far ?_ NB717_725.out _; refine blk_far ?_ NB717_725.out _; exact BK717.out⟩
           have n7_ : Aside0 (((w73.setCell ⟨gb725, 0, none⟩ (.slice Ao74 t718.length co74)).setCell ⟨gb725, 1, none⟩ (.slice Ao79 t721.length co79)).heap[gb725]? = some (.cells #[.slice Ao74 t718.length co74, .slice Ao79 t721.length co79] 48 (0, 0))) := ⟨by refine blk_put (cs := #[.slice Ao74 t718.length co74, .slice none 0 0]) ?_ 1 _ rfl; refine blk_put (cs := #[.slice none 0 0, .slice none 0 0]) ?_ 0 _ rfl; exact BK725.out⟩
           have n8_ : Aside0 (Below w.heap.size w ((w73.setCell ⟨gb725, 0, none⟩ (.slice Ao74 t718.length co74)).setCell ⟨gb725, 1, none⟩ (.slice Ao79 t721.length co79))) := ⟨by repeat (first | (with_reducible first | exact HB.out | apply below_alloc | apply pw_below_drewN | apply below_drew1 | refine below_set ?_ GE705.out | refine below_set ?_ GE706.out | refine below_set ?_ GE717.out | refine below_set ?_ GE725.out) | exact HB.out)⟩
           (try clear HO712)
           (try clear HO715)
           (try clear HO720)
           (try clear HO723)
           (try clear BK705)
           (try clear BK706)
           (try clear BK717)
           (try clear BK725)
           (try clear HB)
           generalize ((w73.setCell ⟨gb725, 0, none⟩ (.slice Ao74 t718.length co74)).setCell ⟨gb725, 1, none⟩ (.slice Ao79 t721.length co79)) = w80 at n0_ n1_ n2_ n3_ n4_ n5_ n6_ n7_ n8_ ⊢
           have HO712 := n0_
           have HO715 := n1_
           have HO720 := n2_
           have HO723 := n3_
           have BK705 := n4_
           have BK706 := n5_
           have BK717 := n6_
           have BK725 := n7_
           have HB := n8_
           clear n0_ n1_ n2_ n3_ n4_ n5_ n6_ n7_ n8_
           have n0_ := Aside0.mk (Kd.N_drew HO712.out)
           have n1_ := Aside0.mk (Kd.R_drew HO715.out)
           have n2_ := Aside0.mk (Kd.N_drew HO720.out)
           have n3_ := Aside0.mk (Kd.R_drew HO723.out)
           have n4_ := Aside0.mk (blk_drew BK705.out)
           have n5_ := Aside0.mk (blk_drew BK706.out)
           have n6_ := Aside0.mk (blk_drew BK717.out)
           have n7_ := Aside0.mk (blk_drew BK725.out)
           have n8_ := Aside0.mk (below_drew1 HB.out)
           clear HO712
           clear HO715
           clear HO720
           clear HO723
           clear BK705
           clear BK706
           clear BK717
           clear BK725
           clear HB
           have HO712 := n0_
           have HO715 := n1_
           have HO720 := n2_
           have HO723 := n3_
           have BK705 := n4_
           have BK706 := n5_
           have BK717 := n6_
           have BK725 := n7_
           have HB := n8_
           clear n0_ n1_ n2_ n3_ n4_ n5_ n6_ n7_ n8_
           refine start_ (n := 43) (S := fun w' => w'.cell? ⟨gb717, 0, none⟩ = some (.slice Ao66 t710.length co66) ∧ w'.cell? ⟨gb717, 1, none⟩ = some (.slice Ao70 t713.length co70) ∧ w'.cell? ⟨gb706, 0, none⟩ = some (.int .i64 a1_0) ∧ w'.cell? ⟨gb706, 1, none⟩ = some (.int .i64 a1_1) ∧ w'.cell? ⟨gb706, 2, none⟩ = some (.int .i64 a1_2) ∧ w'.cell? ⟨gb705, 0, none⟩ = some (.slice A0_0 l0_0.length c0_0) ∧ w'.cell? ⟨gb705, 1, none⟩ = some (.slice A0_1 l0_1.length c0_1) ∧ w'.cell? ⟨gb725, 0, none⟩ = some (.slice Ao74 t718.length co74) ∧ w'.cell? ⟨gb725, 1, none⟩ = some (.slice Ao79 t721.length co79)) (ds := []) #[false, false, false, false, false, false, false, false, false, false, false, false, false, false, false, false, false, false, false, false, false, false, false, false, false, false, false, false, false, false, false, false, false, false, false, false, false, false, false, false, false, false, false] (by kernel_rfl) rfl rfl ⟨(blk_cell BK717.out 0).trans rfl, (blk_cell BK717.out 1).trans rfl, (blk_cell BK706.out 0).trans rfl, (blk_cell BK706.out 1).trans rfl, (blk_cell BK706.out 2).trans rfl, (blk_cell BK705.out 0).trans rfl, (blk_cell BK705.out 1).trans rfl, (blk_cell BK725.out 0).trans rfl, (blk_cell BK725.out 1).trans rfl⟩ (fun hHeld => ?_); refine with_tabW skiarealaw53_PatrolHazards.tab9 skiarealaw53_PatrolHazards.bits9 (fun HT_ HW_ => ?_)
           generalize w80.drew = w81 at HO712 HO715 HO720 HO723 BK705 BK706 BK717 BK725 HB hHeld ⊢
           refine pure_ (i := 1) (N := some 49) (v := ?_) (a' := ?_) #[false, true, false, false, false, false, false, false, false, false, false, false, false, false, false, false, false, false, false, false, false, false, false, false, false, false, false, false, false, false, false, false, false, false, false, false, false, false, false, false, false, false, false] rfl rfl (any_of HT_.out (by kernel_rfl)) (fun _ _ _ h => h) (Or.inl ⟨by rfl, ?_⟩) ?_ ?_
           rotate_left
           ·intro w'
            go_simp
            with_reducible rfl
           rotate_left
           ·simp only [Act.put, List.setIfInBounds_toArray, List.set_cons_zero, List.set_cons_succ, i64_w, i32_w]
            rfl
           refine pure_ (i := 3) (N := some 51) (v := ?_) (a' := ?_) #[false, true, false, true, false, false, false, false, false, false, false, false, false, false, false, false, false, false, false, false, false, false, false, false, false, false, false, false, false, false, false, false, false, false, false, false, false, false, false, false, false, false, false] rfl rfl (any_of HT_.out (by kernel_rfl)) (fun _ _ _ h => h) (Or.inl ⟨by rfl, ?_⟩) ?_ ?_
           rotate_left
           ·intro w'
            go_simp
            with_reducible rfl
           rotate_left
           ·simp only [Act.put, List.setIfInBounds_toArray, List.set_cons_zero, List.set_cons_succ, i64_w, i32_w]
            rfl
           refine take_ (i := 0) (N := some 48) (v := ?_) (a' := ?_) #[true, true, false, true, false, false, false, false, false, false, false, false, false, false, false, false, false, false, false, false, false, false, false, false, false, false, false, false, false, false, false, false, false, false, false, false, false, false, false, false, false, false, false] rfl rfl (take_ofW HT_.out HW_.out (by kernel_rfl)) (fun _ _ _ h => h) (Or.inl ⟨by rfl, ?_⟩) hHeld ?_ ?_
           rotate_left
           ·rintro w' ⟨s0, s1, s2, s3, s4, s5, s6, s7, s8⟩
            go_simp
            with_reducible rfl
           rotate_left
           ·simp only [Act.put, List.setIfInBounds_toArray, List.set_cons_zero, List.set_cons_succ, i64_w, i32_w]
            rfl
           refine take_ (i := 2) (N := some 50) (v := ?_) (a' := ?_) #[true, true, true, true, false, false, false, false, false, false, false, false, false, false, false, false, false, false, false, false, false, false, false, false, false, false, false, false, false, false, false, false, false, false, false, false, false, false, false, false, false, false, false] rfl rfl (take_ofW HT_.out HW_.out (by kernel_rfl)) (fun _ _ _ h => h) (Or.inl ⟨by rfl, ?_⟩) hHeld ?_ ?_
           rotate_left
           ·rintro w' ⟨s0, s1, s2, s3, s4, s5, s6, s7, s8⟩
            go_simp
            with_reducible rfl
           rotate_left
           ·simp only [Act.put, List.setIfInBounds_toArray, List.set_cons_zero, List.set_cons_succ, i64_w, i32_w]
            rfl
           refine one_ (i := 4) (N := some 52) #[true, true, true, true, true, false, false, false, false, false, false, false, false, false, false, false, false, false, false, false, false, false, false, false, false, false, false, false, false, false, false, false, false, false, false, false, false, false, false, false, false, false, false] rfl rfl (one_of HT_.out (by kernel_rfl)) (by decide) (fun K hK => ?_)
           refine goes_ Try.func46 (by kernel_rfl) rfl #[.agg #[.slice Ao66 t710.length co66, .slice Ao70 t713.length co70], .int .i64 a1_1, .int .i64 a3] (by rfl) rfl rfl (by (try simp only [List.map_toArray, List.map_cons, List.map_nil]); first | done | rfl | (simp only [List.length_drop, List.length_take]; rfl)) ?_
           with_reducible refine (patrol_Ready.calls _ _ t710 _ _ t713 a1_1 a3 false _ ?side1 ?side2 ?side3 ?side4 A26.out).mono ?_
           (case side1 => repeat (first | exact (Kd.N_reads' HO712.out).2.2 | (with_reducible refine Kd.C_alloc ?_ _) | (with_reducible refine Kd.C_drewN ?_ _) | (with_reducible refine Kd.C_drew ?_)))
           (case side2 => exact (Kd.N_reads' HO712.out).2.1)
           (case side3 => repeat (first | exact (Kd.R_reads' HO715.out).2.2 | (with_reducible refine Kd.C_alloc ?_ _) | (with_reducible refine Kd.C_drewN ?_ _) | (with_reducible refine Kd.C_drew ?_)))
           (case side4 => exact (Kd.R_reads' HO715.out).2.1)
           rintro e w82 ⟨rfl, hb⟩
           refine ⟨_, rfl, ?_⟩
           have n0_ := Aside0.mk (Kd.N_below HO712.out hb)
           have n1_ := Aside0.mk (Kd.R_below HO715.out hb)
           have n2_ := Aside0.mk (Kd.N_below HO720.out hb)
           have n3_ := Aside0.mk (Kd.R_below HO723.out hb)
           have n4_ := Aside0.mk (blk_below BK705.out hb)
           have n5_ := Aside0.mk (blk_below BK706.out hb)
           have n6_ := Aside0.mk (blk_below BK717.out hb)
           have n7_ := Aside0.mk (blk_below BK725.out hb)
           have n8_ := Aside0.mk (below_step bel_ hb)
           clear HO712
           clear HO715
           clear HO720
           clear HO723
           clear BK705
           clear BK706
           clear BK717
           clear BK725
           clear HB
           have HO712 := n0_
           have HO715 := n1_
           have HO720 := n2_
           have HO723 := n3_
           have BK705 := n4_
           have BK706 := n5_
           have BK717 := n6_
           have BK725 := n7_
           have HB := n8_
           clear n0_ n1_ n2_ n3_ n4_ n5_ n6_ n7_ n8_
           (try clear hb)
           (try clear hb2)
           (try clear hk)
           (try clear hi)
           refine hK.out _ _ ⟨(blk_cell BK717.out 0).trans rfl, (blk_cell BK717.out 1).trans rfl, (blk_cell BK706.out 0).trans rfl, (blk_cell BK706.out 1).trans rfl, (blk_cell BK706.out 2).trans rfl, (blk_cell BK705.out 0).trans rfl, (blk_cell BK705.out 1).trans rfl, (blk_cell BK725.out 0).trans rfl, (blk_cell BK725.out 1).trans rfl⟩ (fun hHeld => ?_)
           clear hK K
           refine norm_ (a' := ?_) ?_ ?_
           rotate_left
           ·show Act.put _ (some 52) _ = _
            simp only [Act.put, List.setIfInBounds_toArray, List.set_cons_zero, List.set_cons_succ, i64_w, i32_w]
            rfl
           refine pure_ (i := 5) (N := some 53) (v := ?_) (a' := ?_) #[true, true, true, true, true, true, false, false, false, false, false, false, false, false, false, false, false, false, false, false, false, false, false, false, false, false, false, false, false, false, false, false, false, false, false, false, false, false, false, false, false, false, false] rfl rfl (any_of HT_.out (by kernel_rfl)) (fun _ _ _ h => h) (Or.inl ⟨by rfl, ?_⟩) ?_ ?_
           rotate_left
           ·intro w'
            go_simp
            with_reducible rfl
           rotate_left
           ·simp only [Act.put, List.setIfInBounds_toArray, List.set_cons_zero, List.set_cons_succ, i64_w, i32_w]
            rfl
           refine pure_ (i := 6) (N := some 54) (v := ?_) (a' := ?_) #[true, true, true, true, true, true, true, false, false, false, false, false, false, false, false, false, false, false, false, false, false, false, false, false, false, false, false, false, false, false, false, false, false, false, false, false, false, false, false, false, false, false, false] rfl rfl (any_of HT_.out (by kernel_rfl)) (fun _ _ _ h => h) (Or.inl ⟨by rfl, ?_⟩) ?_ ?_
           rotate_left
           ·intro w'
            go_simp
            with_reducible rfl
           rotate_left
           ·simp only [Act.put, List.setIfInBounds_toArray, List.set_cons_zero, List.set_cons_succ, i64_w, i32_w]
            rfl
           refine pure_ (i := 7) (N := some 55) (v := ?_) (a' := ?_) #[true, true, true, true, true, true, true, true, false, false, false, false, false, false, false, false, false, false, false, false, false, false, false, false, false, false, false, false, false, false, false, false, false, false, false, false, false, false, false, false, false, false, false] rfl rfl (any_of HT_.out (by kernel_rfl)) (fun _ _ _ h => h) (Or.inl ⟨by rfl, ?_⟩) ?_ ?_
           rotate_left
           ·intro w'
            go_simp
            with_reducible rfl
           rotate_left
           ·simp only [Act.put, List.setIfInBounds_toArray, List.set_cons_zero, List.set_cons_succ, i64_w, i32_w]
            rfl
           refine pure_ (i := 8) (N := some 56) (v := ?_) (a' := ?_) #[true, true, true, true, true, true, true, true, true, false, false, false, false, false, false, false, false, false, false, false, false, false, false, false, false, false, false, false, false, false, false, false, false, false, false, false, false, false, false, false, false, false, false] rfl rfl (any_of HT_.out (by kernel_rfl)) (fun _ _ _ h => h) (Or.inl ⟨by rfl, ?_⟩) ?_ ?_
           rotate_left
           ·intro w'
            go_simp
            with_reducible rfl
           rotate_left
           ·simp only [Act.put, List.setIfInBounds_toArray, List.set_cons_zero, List.set_cons_succ, i64_w, i32_w]
            rfl
           refine take_ (i := 9) (N := some 57) (v := ?_) (a' := ?_) #[true, true, true, true, true, true, true, true, true, true, false, false, false, false, false, false, false, false, false, false, false, false, false, false, false, false, false, false, false, false, false, false, false, false, false, false, false, false, false, false, false, false, false] rfl rfl (take_ofW HT_.out HW_.out (by kernel_rfl)) (fun _ _ _ h => h) (Or.inl ⟨by rfl, ?_⟩) hHeld ?_ ?_
           rotate_left
           ·rintro w' ⟨s0, s1, s2, s3, s4, s5, s6, s7, s8⟩
            go_simp
            with_reducible rfl
           rotate_left
           ·simp only [Act.put, List.setIfInBounds_toArray, List.set_cons_zero, List.set_cons_succ, i64_w, i32_w]
            rfl
           refine pure_ (i := 10) (N := some 58) (v := ?_) (a' := ?_) #[true, true, true, true, true, true, true, true, true, true, true, false, false, false, false, false, false, false, false, false, false, false, false, false, false, false, false, false, false, false, false, false, false, false, false, false, false, false, false, false, false, false, false] rfl rfl (any_of HT_.out (by kernel_rfl)) (fun _ _ _ h => h) (Or.inl ⟨by rfl, ?_⟩) ?_ ?_
           rotate_left
           ·intro w'
            go_simp
            with_reducible rfl
           rotate_left
           ·simp only [Act.put, List.setIfInBounds_toArray, List.set_cons_zero, List.set_cons_succ, i64_w, i32_w]
            rfl
           refine pure_ (i := 11) (N := some 59) (v := ?_) (a' := ?_) #[true, true, true, true, true, true, true, true, true, true, true, true, false, false, false, false, false, false, false, false, false, false, false, false, false, false, false, false, false, false, false, false, false, false, false, false, false, false, false, false, false, false, false] rfl rfl (any_of HT_.out (by kernel_rfl)) (fun _ _ _ h => h) (Or.inl ⟨by rfl, ?_⟩) ?_ ?_
           rotate_left
           ·intro w'
            go_simp
            with_reducible rfl
           rotate_left
           ·simp only [Act.put, List.setIfInBounds_toArray, List.set_cons_zero, List.set_cons_succ, i64_w, i32_w]
            rfl
           refine pure_ (i := 13) (N := some 61) (v := ?_) (a' := ?_) #[true, true, true, true, true, true, true, true, true, true, true, true, false, true, false, false, false, false, false, false, false, false, false, false, false, false, false, false, false, false, false, false, false, false, false, false, false, false, false, false, false, false, false] rfl rfl (any_of HT_.out (by kernel_rfl)) (fun _ _ _ h => h) (Or.inl ⟨by rfl, ?_⟩) ?_ ?_
           rotate_left
           ·intro w'
            go_simp
            with_reducible rfl
           rotate_left
           ·simp only [Act.put, List.setIfInBounds_toArray, List.set_cons_zero, List.set_cons_succ, i64_w, i32_w]
            rfl
           refine pure_ (i := 14) (N := some 62) (v := ?_) (a' := ?_) #[true, true, true, true, true, true, true, true, true, true, true, true, false, true, true, false, false, false, false, false, false, false, false, false, false, false, false, false, false, false, false, false, false, false, false, false, false, false, false, false, false, false, false] rfl rfl (any_of HT_.out (by kernel_rfl)) (fun _ _ _ h => h) (Or.inl ⟨by rfl, ?_⟩) ?_ ?_
           rotate_left
           ·intro w'
            go_simp
            with_reducible rfl
           rotate_left
           ·simp only [Act.put, List.setIfInBounds_toArray, List.set_cons_zero, List.set_cons_succ, i64_w, i32_w]
            rfl
           refine pure_ (i := 17) (N := some 65) (v := ?_) (a' := ?_) #[true, true, true, true, true, true, true, true, true, true, true, true, false, true, true, false, false, true, false, false, false, false, false, false, false, false, false, false, false, false, false, false, false, false, false, false, false, false, false, false, false, false, false] rfl rfl (any_of HT_.out (by kernel_rfl)) (fun _ _ _ h => h) (Or.inl ⟨by rfl, ?_⟩) ?_ ?_
           rotate_left
           ·intro w'
            go_simp
            with_reducible rfl
           rotate_left
           ·simp only [Act.put, List.setIfInBounds_toArray, List.set_cons_zero, List.set_cons_succ, i64_w, i32_w]
            rfl
           refine pure_ (i := 18) (N := some 66) (v := ?_) (a' := ?_) #[true, true, true, true, true, true, true, true, true, true, true, true, false, true, true, false, false, true, true, false, false, false, false, false, false, false, false, false, false, false, false, false, false, false, false, false, false, false, false, false, false, false, false] rfl rfl (any_of HT_.out (by kernel_rfl)) (fun _ _ _ h => h) (Or.inl ⟨by rfl, ?_⟩) ?_ ?_
           rotate_left
           ·intro w'
            go_simp
            with_reducible rfl
           rotate_left
           ·simp only [Act.put, List.setIfInBounds_toArray, List.set_cons_zero, List.set_cons_succ, i64_w, i32_w]
            rfl
           refine take_ (i := 12) (N := some 60) (v := ?_) (a' := ?_) #[true, true, true, true, true, true, true, true, true, true, true, true, true, true, true, false, false, true, true, false, false, false, false, false, false, false, false, false, false, false, false, false, false, false, false, false, false, false, false, false, false, false, false] rfl rfl (take_ofW HT_.out HW_.out (by kernel_rfl)) (fun _ _ _ h => h) (Or.inl ⟨by rfl, ?_⟩) hHeld ?_ ?_
           rotate_left
           ·rintro w' ⟨s0, s1, s2, s3, s4, s5, s6, s7, s8⟩
            go_simp
            with_reducible rfl
           rotate_left
           ·simp only [Act.put, List.setIfInBounds_toArray, List.set_cons_zero, List.set_cons_succ, i64_w, i32_w]
            rfl
           refine take_ (i := 16) (N := some 64) (v := ?_) (a' := ?_) #[true, true, true, true, true, true, true, true, true, true, true, true, true, true, true, false, true, true, true, false, false, false, false, false, false, false, false, false, false, false, false, false, false, false, false, false, false, false, false, false, false, false, false] rfl rfl (take_ofW HT_.out HW_.out (by kernel_rfl)) (fun _ _ _ h => h) (Or.inl ⟨by rfl, ?_⟩) hHeld ?_ ?_
           rotate_left
           ·rintro w' ⟨s0, s1, s2, s3, s4, s5, s6, s7, s8⟩
            go_simp
            with_reducible rfl
           rotate_left
           ·simp only [Act.put, List.setIfInBounds_toArray, List.set_cons_zero, List.set_cons_succ, i64_w, i32_w]
            rfl
           refine one_ (i := 15) (N := some 63) #[true, true, true, true, true, true, true, true, true, true, true, true, true, true, true, true, true, true, true, false, false, false, false, false, false, false, false, false, false, false, false, false, false, false, false, false, false, false, false, false, false, false, false] rfl rfl (one_of HT_.out (by kernel_rfl)) (by decide) (fun K hK => ?_)
           refine goes_ Try.func46 (by kernel_rfl) rfl #[.agg #[.slice Ao66 t710.length co66, .slice Ao70 t713.length co70], .int .i64 a2, .int .i64 a3] (by rfl) rfl rfl (by (try simp only [List.map_toArray, List.map_cons, List.map_nil]); first | done | rfl | (simp only [List.length_drop, List.length_take]; rfl)) ?_
           with_reducible refine (patrol_Ready.calls _ _ t710 _ _ t713 a2 a3 t728 _ ?side1 ?side2 ?side3 ?side4 A55.out).mono ?_
           (case side1 => repeat (first | exact (Kd.N_reads' HO712.out).2.2 | (with_reducible refine Kd.C_alloc ?_ _) | (with_reducible refine Kd.C_drewN ?_ _) | (with_reducible refine Kd.C_drew ?_)))
           (case side2 => exact (Kd.N_reads' HO712.out).2.1)
           (case side3 => repeat (first | exact (Kd.R_reads' HO715.out).2.2 | (with_reducible refine Kd.C_alloc ?_ _) | (with_reducible refine Kd.C_drewN ?_ _) | (with_reducible refine Kd.C_drew ?_)))
           (case side4 => exact (Kd.R_reads' HO715.out).2.1)
           rintro e w83 ⟨rfl, hb⟩
           refine ⟨_, rfl, ?_⟩
           have n0_ := Aside0.mk (Kd.N_below HO712.out hb)
           have n1_ := Aside0.mk (Kd.R_below HO715.out hb)
           have n2_ := Aside0.mk (Kd.N_below HO720.out hb)
           have n3_ := Aside0.mk (Kd.R_below HO723.out hb)
           have n4_ := Aside0.mk (blk_below BK705.out hb)
           have n5_ := Aside0.mk (blk_below BK706.out hb)
           have n6_ := Aside0.mk (blk_below BK717.out hb)
           have n7_ := Aside0.mk (blk_below BK725.out hb)
           have n8_ := Aside0.mk (below_step bel_ hb)
           clear HO712
           clear HO715
           clear HO720
           clear HO723
           clear BK705
           clear BK706
           clear BK717
           clear BK725
           clear HB
           have HO712 := n0_
           have HO715 := n1_
           have HO720 := n2_
           have HO723 := n3_
           have BK705 := n4_
           have BK706 := n5_
           have BK717 := n6_
           have BK725 := n7_
           have HB := n8_
           clear n0_ n1_ n2_ n3_ n4_ n5_ n6_ n7_ n8_
           (try clear hb)
           (try clear hb2)
           (try clear hk)
           (try clear hi)
           refine hK.out _ _ ⟨(blk_cell BK717.out 0).trans rfl, (blk_cell BK717.out 1).trans rfl, (blk_cell BK706.out 0).trans rfl, (blk_cell BK706.out 1).trans rfl, (blk_cell BK706.out 2).trans rfl, (blk_cell BK705.out 0).trans rfl, (blk_cell BK705.out 1).trans rfl, (blk_cell BK725.out 0).trans rfl, (blk_cell BK725.out 1).trans rfl⟩ (fun hHeld => ?_)
           clear hK K
           refine norm_ (a' := ?_) ?_ ?_
           rotate_left
           ·show Act.put _ (some 63) _ = _
            simp only [Act.put, List.setIfInBounds_toArray, List.set_cons_zero, List.set_cons_succ, i64_w, i32_w]
            rfl
           refine one_ (i := 19) (N := some 67) #[true, true, true, true, true, true, true, true, true, true, true, true, true, true, true, true, true, true, true, true, false, false, false, false, false, false, false, false, false, false, false, false, false, false, false, false, false, false, false, false, false, false, false] rfl rfl (one_of HT_.out (by kernel_rfl)) (by decide) (fun K hK => ?_)
           refine goes_ Try.func46 (by kernel_rfl) rfl #[.agg #[.slice A0_0 l0_0.length c0_0, .slice A0_1 l0_1.length c0_1], .int .i64 a2, .int .i64 a3] (by rfl) rfl rfl (by (try simp only [List.map_toArray, List.map_cons, List.map_nil]); first | done | rfl | (simp only [List.length_drop, List.length_take]; rfl)) ?_
           with_reducible refine (patrol_Ready.calls _ _ l0_0 _ _ l0_1 a2 a3 t729 _ ?side1 ?side2 ?side3 ?side4 A56.out).mono ?_
           (case side1 => repeat (first | exact (Kd.C_below HR0_0.out HB.out) | (with_reducible refine Kd.C_alloc ?_ _) | (with_reducible refine Kd.C_drewN ?_ _) | (with_reducible refine Kd.C_drew ?_)))
           (case side2 => exact HC0_0.out)
           (case side3 => repeat (first | exact (Kd.C_below HR0_1.out HB.out) | (with_reducible refine Kd.C_alloc ?_ _) | (with_reducible refine Kd.C_drewN ?_ _) | (with_reducible refine Kd.C_drew ?_)))
           (case side4 => exact HC0_1.out)
           rintro e w84 ⟨rfl, hb⟩
           refine ⟨_, rfl, ?_⟩
           have n0_ := Aside0.mk (Kd.N_below HO712.out hb)
           have n1_ := Aside0.mk (Kd.R_below HO715.out hb)
           have n2_ := Aside0.mk (Kd.N_below HO720.out hb)
           have n3_ := Aside0.mk (Kd.R_below HO723.out hb)
           have n4_ := Aside0.mk (blk_below BK705.out hb)
           have n5_ := Aside0.mk (blk_below BK706.out hb)
           have n6_ := Aside0.mk (blk_below BK717.out hb)
           have n7_ := Aside0.mk (blk_below BK725.out hb)
           have n8_ := Aside0.mk (below_step bel_ hb)
           clear HO712
           clear HO715
           clear HO720
           clear HO723
           clear BK705
           clear BK706
           clear BK717
           clear BK725
           clear HB
           have HO712 := n0_
           have HO715 := n1_
           have HO720 := n2_
           have HO723 := n3_
           have BK705 := n4_
           have BK706 := n5_
           have BK717 := n6_
           have BK725 := n7_
           have HB := n8_
           clear n0_ n1_ n2_ n3_ n4_ n5_ n6_ n7_ n8_
           (try clear hb)
           (try clear hb2)
           (try clear hk)
           (try clear hi)
           refine hK.out _ _ ⟨(blk_cell BK717.out 0).trans rfl, (blk_cell BK717.out 1).trans rfl, (blk_cell BK706.out 0).trans rfl, (blk_cell BK706.out 1).trans rfl, (blk_cell BK706.out 2).trans rfl, (blk_cell BK705.out 0).trans rfl, (blk_cell BK705.out 1).trans rfl, (blk_cell BK725.out 0).trans rfl, (blk_cell BK725.out 1).trans rfl⟩ (fun hHeld => ?_)
           clear hK K
           refine norm_ (a' := ?_) ?_ ?_
           rotate_left
           ·show Act.put _ (some 67) _ = _
            simp only [Act.put, List.setIfInBounds_toArray, List.set_cons_zero, List.set_cons_succ, i64_w, i32_w]
            rfl
           refine pure_ (i := 20) (N := some 68) (v := ?_) (a' := ?_) #[true, true, true, true, true, true, true, true, true, true, true, true, true, true, true, true, true, true, true, true, true, false, false, false, false, false, false, false, false, false, false, false, false, false, false, false, false, false, false, false, false, false, false] rfl rfl (any_of HT_.out (by kernel_rfl)) (fun _ _ _ h => h) (Or.inl ⟨by rfl, ?_⟩) ?_ ?_
           rotate_left
           ·intro w'
            go_simp
            with_reducible rfl
           rotate_left
           ·simp only [Act.put, List.setIfInBounds_toArray, List.set_cons_zero, List.set_cons_succ, i64_w, i32_w]
            rfl
           refine pure_ (i := 21) (N := some 69) (v := ?_) (a' := ?_) #[true, true, true, true, true, true, true, true, true, true, true, true, true, true, true, true, true, true, true, true, true, true, false, false, false, false, false, false, false, false, false, false, false, false, false, false, false, false, false, false, false, false, false] rfl rfl (any_of HT_.out (by kernel_rfl)) (fun _ _ _ h => h) (Or.inl ⟨by rfl, ?_⟩) ?_ ?_
           rotate_left
           ·intro w'
            go_simp
            with_reducible rfl
           rotate_left
           ·simp only [Act.put, List.setIfInBounds_toArray, List.set_cons_zero, List.set_cons_succ, i64_w, i32_w]
            rfl
           refine pure_ (i := 22) (N := some 70) (v := ?_) (a' := ?_) #[true, true, true, true, true, true, true, true, true, true, true, true, true, true, true, true, true, true, true, true, true, true, true, false, false, false, false, false, false, false, false, false, false, false, false, false, false, false, false, false, false, false, false] rfl rfl (any_of HT_.out (by kernel_rfl)) (fun _ _ _ h => h) (Or.inl ⟨by rfl, ?_⟩) ?_ ?_
           rotate_left
           ·intro w'
            go_simp
            with_reducible rfl
           rotate_left
           ·simp only [Act.put, List.setIfInBounds_toArray, List.set_cons_zero, List.set_cons_succ, i64_w, i32_w]
            rfl
           refine pure_ (i := 23) (N := some 71) (v := ?_) (a' := ?_) #[true, true, true, true, true, true, true, true, true, true, true, true, true, true, true, true, true, true, true, true, true, true, true, true, false, false, false, false, false, false, false, false, false, false, false, false, false, false, false, false, false, false, false] rfl rfl (any_of HT_.out (by kernel_rfl)) (fun _ _ _ h => h) (Or.inl ⟨by rfl, ?_⟩) ?_ ?_
           rotate_left
           ·intro w'
            go_simp
            with_reducible rfl
           rotate_left
           ·simp only [Act.put, List.setIfInBounds_toArray, List.set_cons_zero, List.set_cons_succ, i64_w, i32_w]
            rfl
           refine pure_ (i := 24) (N := some 72) (v := ?_) (a' := ?_) #[true, true, true, true, true, true, true, true, true, true, true, true, true, true, true, true, true, true, true, true, true, true, true, true, true, false, false, false, false, false, false, false, false, false, false, false, false, false, false, false, false, false, false] rfl rfl (any_of HT_.out (by kernel_rfl)) (fun _ _ _ h => h) (Or.inl ⟨by rfl, ?_⟩) ?_ ?_
           rotate_left
           ·intro w'
            go_simp
            with_reducible rfl
           rotate_left
           ·simp only [Act.put, List.setIfInBounds_toArray, List.set_cons_zero, List.set_cons_succ, i64_w, i32_w]
            rfl
           refine pure_ (i := 25) (N := some 73) (v := ?_) (a' := ?_) #[true, true, true, true, true, true, true, true, true, true, true, true, true, true, true, true, true, true, true, true, true, true, true, true, true, true, false, false, false, false, false, false, false, false, false, false, false, false, false, false, false, false, false] rfl rfl (any_of HT_.out (by kernel_rfl)) (fun _ _ _ h => h) (Or.inl ⟨by rfl, ?_⟩) ?_ ?_
           rotate_left
           ·intro w'
            go_simp
            with_reducible rfl
           rotate_left
           ·simp only [Act.put, List.setIfInBounds_toArray, List.set_cons_zero, List.set_cons_succ, i64_w, i32_w]
            rfl
           refine pure_ (i := 26) (N := some 74) (v := ?_) (a' := ?_) #[true, true, true, true, true, true, true, true, true, true, true, true, true, true, true, true, true, true, true, true, true, true, true, true, true, true, true, false, false, false, false, false, false, false, false, false, false, false, false, false, false, false, false] rfl rfl (any_of HT_.out (by kernel_rfl)) (fun _ _ _ h => h) (Or.inl ⟨by rfl, ?_⟩) ?_ ?_
           rotate_left
           ·intro w'
            go_simp
            with_reducible rfl
           rotate_left
           ·simp only [Act.put, List.setIfInBounds_toArray, List.set_cons_zero, List.set_cons_succ, i64_w, i32_w]
            rfl
           refine pure_ (i := 27) (N := some 75) (v := ?_) (a' := ?_) #[true, true, true, true, true, true, true, true, true, true, true, true, true, true, true, true, true, true, true, true, true, true, true, true, true, true, true, true, false, false, false, false, false, false, false, false, false, false, false, false, false, false, false] rfl rfl (any_of HT_.out (by kernel_rfl)) (fun _ _ _ h => h) (Or.inl ⟨by rfl, ?_⟩) ?_ ?_
           rotate_left
           ·intro w'
            go_simp
            with_reducible rfl
           rotate_left
           ·simp only [Act.put, List.setIfInBounds_toArray, List.set_cons_zero, List.set_cons_succ, i64_w, i32_w]
            rfl
           refine take_ (i := 28) (N := some 76) (v := ?_) (a' := ?_) #[true, true, true, true, true, true, true, true, true, true, true, true, true, true, true, true, true, true, true, true, true, true, true, true, true, true, true, true, true, false, false, false, false, false, false, false, false, false, false, false, false, false, false] rfl rfl (take_ofW HT_.out HW_.out (by kernel_rfl)) (fun _ _ _ h => h) (Or.inl ⟨by rfl, ?_⟩) hHeld ?_ ?_
           rotate_left
           ·rintro w' ⟨s0, s1, s2, s3, s4, s5, s6, s7, s8⟩
            go_simp
            with_reducible rfl
           rotate_left
           ·simp only [Act.put, List.setIfInBounds_toArray, List.set_cons_zero, List.set_cons_succ, i64_w, i32_w]
            rfl
           refine take_ (i := 29) (N := some 77) (v := ?_) (a' := ?_) #[true, true, true, true, true, true, true, true, true, true, true, true, true, true, true, true, true, true, true, true, true, true, true, true, true, true, true, true, true, true, false, false, false, false, false, false, false, false, false, false, false, false, false] rfl rfl (take_ofW HT_.out HW_.out (by kernel_rfl)) (fun _ _ _ h => h) (Or.inl ⟨by rfl, ?_⟩) hHeld ?_ ?_
           rotate_left
           ·rintro w' ⟨s0, s1, s2, s3, s4, s5, s6, s7, s8⟩
            go_simp
            with_reducible rfl
           rotate_left
           ·simp only [Act.put, List.setIfInBounds_toArray, List.set_cons_zero, List.set_cons_succ, i64_w, i32_w]
            rfl
           refine one_ (i := 30) (N := some 78) #[true, true, true, true, true, true, true, true, true, true, true, true, true, true, true, true, true, true, true, true, true, true, true, true, true, true, true, true, true, true, true, false, false, false, false, false, false, false, false, false, false, false, false] rfl rfl (one_of HT_.out (by kernel_rfl)) (by decide) (fun K hK => ?_)
           refine goes_ Try.func41 (by kernel_rfl) rfl #[.agg #[.slice Ao74 t718.length co74, .slice Ao79 t721.length co79], .agg #[.slice A0_0 l0_0.length c0_0, .slice A0_1 l0_1.length c0_1]] (by rfl) rfl rfl (by (try simp only [List.map_toArray, List.map_cons, List.map_nil]); first | done | rfl | (simp only [List.length_drop, List.length_take]; rfl)) ?_
           with_reducible refine (skiarearef53_Same.calls kj6 _ _ t718 _ _ t721 _ _ l0_0 _ _ l0_1 true _ ?side1 ?side2 ?side3 ?side4 ?side5 ?side6 ?side7 ?side8 A59.out).mono ?_
           (case side1 => repeat (first | exact (Kd.N_reads' HO720.out).2.2 | (with_reducible refine Kd.C_alloc ?_ _) | (with_reducible refine Kd.C_drewN ?_ _) | (with_reducible refine Kd.C_drew ?_)))
           (case side2 => exact (Kd.N_reads' HO720.out).2.1)
           (case side3 => repeat (first | exact (Kd.R_reads' HO723.out).2.2 | (with_reducible refine Kd.C_alloc ?_ _) | (with_reducible refine Kd.C_drewN ?_ _) | (with_reducible refine Kd.C_drew ?_)))
           (case side4 => exact (Kd.R_reads' HO723.out).2.1)
           (case side5 => repeat (first | exact (Kd.C_below HR0_0.out HB.out) | (with_reducible refine Kd.C_alloc ?_ _) | (with_reducible refine Kd.C_drewN ?_ _) | (with_reducible refine Kd.C_drew ?_)))
           (case side6 => exact HC0_0.out)
           (case side7 => repeat (first | exact (Kd.C_below HR0_1.out HB.out) | (with_reducible refine Kd.C_alloc ?_ _) | (with_reducible refine Kd.C_drewN ?_ _) | (with_reducible refine Kd.C_drew ?_)))
           (case side8 => exact HC0_1.out)
           rintro e w85 ⟨rfl, hb⟩
           refine ⟨_, rfl, ?_⟩
           have n0_ := Aside0.mk (Kd.N_below HO712.out hb)
           have n1_ := Aside0.mk (Kd.R_below HO715.out hb)
           have n2_ := Aside0.mk (Kd.N_below HO720.out hb)
           have n3_ := Aside0.mk (Kd.R_below HO723.out hb)
           have n4_ := Aside0.mk (blk_below BK705.out hb)
           have n5_ := Aside0.mk (blk_below BK706.out hb)
           have n6_ := Aside0.mk (blk_below BK717.out hb)
           have n7_ := Aside0.mk (blk_below BK725.out hb)
           have n8_ := Aside0.mk (below_step bel_ hb)
           clear HO712
           clear HO715
           clear HO720
           clear HO723
           clear BK705
           clear BK706
           clear BK717
           clear BK725
           clear HB
           have HO712 := n0_
           have HO715 := n1_
           have HO720 := n2_
           have HO723 := n3_
           have BK705 := n4_
           have BK706 := n5_
           have BK717 := n6_
           have BK725 := n7_
           have HB := n8_
           clear n0_ n1_ n2_ n3_ n4_ n5_ n6_ n7_ n8_
           (try clear hb)
           (try clear hb2)
           (try clear hk)
           (try clear hi)
           refine hK.out _ _ ⟨(blk_cell BK717.out 0).trans rfl, (blk_cell BK717.out 1).trans rfl, (blk_cell BK706.out 0).trans rfl, (blk_cell BK706.out 1).trans rfl, (blk_cell BK706.out 2).trans rfl, (blk_cell BK705.out 0).trans rfl, (blk_cell BK705.out 1).trans rfl, (blk_cell BK725.out 0).trans rfl, (blk_cell BK725.out 1).trans rfl⟩ (fun hHeld => ?_)
           clear hK K
           refine norm_ (a' := ?_) ?_ ?_
           rotate_left
           ·show Act.put _ (some 78) _ = _
            simp only [Act.put, List.setIfInBounds_toArray, List.set_cons_zero, List.set_cons_succ, i64_w, i32_w]
            rfl
           refine pure_ (i := 31) (N := some 79) (v := ?_) (a' := ?_) #[true, true, true, true, true, true, true, true, true, true, true, true, true, true, true, true, true, true, true, true, true, true, true, true, true, true, true, true, true, true, true, true, false, false, false, false, false, false, false, false, false, false, false] rfl rfl (any_of HT_.out (by kernel_rfl)) (fun _ _ _ h => h) (Or.inl ⟨by rfl, ?_⟩) ?_ ?_
           rotate_left
           ·intro w'
            go_simp
            with_reducible rfl
           rotate_left
           ·simp only [Act.put, List.setIfInBounds_toArray, List.set_cons_zero, List.set_cons_succ, i64_w, i32_w]
            rfl
           refine pure_ (i := 32) (N := some 80) (v := ?_) (a' := ?_) #[true, true, true, true, true, true, true, true, true, true, true, true, true, true, true, true, true, true, true, true, true, true, true, true, true, true, true, true, true, true, true, true, true, false, false, false, false, false, false, false, false, false, false] rfl rfl (any_of HT_.out (by kernel_rfl)) (fun _ _ _ h => h) (Or.inl ⟨by rfl, ?_⟩) ?_ ?_
           rotate_left
           ·intro w'
            go_simp
            with_reducible rfl
           rotate_left
           ·simp only [Act.put, List.setIfInBounds_toArray, List.set_cons_zero, List.set_cons_succ, i64_w, i32_w]
            rfl
           refine pure_ (i := 33) (N := some 81) (v := ?_) (a' := ?_) #[true, true, true, true, true, true, true, true, true, true, true, true, true, true, true, true, true, true, true, true, true, true, true, true, true, true, true, true, true, true, true, true, true, true, false, false, false, false, false, false, false, false, false] rfl rfl (any_of HT_.out (by kernel_rfl)) (fun _ _ _ h => h) (Or.inl ⟨by rfl, ?_⟩) ?_ ?_
           rotate_left
           ·intro w'
            go_simp
            with_reducible rfl
           rotate_left
           ·simp only [Act.put, List.setIfInBounds_toArray, List.set_cons_zero, List.set_cons_succ, i64_w, i32_w]
            rfl
           refine pure_ (i := 36) (N := some 84) (v := ?_) (a' := ?_) #[true, true, true, true, true, true, true, true, true, true, true, true, true, true, true, true, true, true, true, true, true, true, true, true, true, true, true, true, true, true, true, true, true, true, false, false, true, false, false, false, false, false, false] rfl rfl (any_of HT_.out (by kernel_rfl)) (fun _ _ _ h => h) (Or.inl ⟨by rfl, ?_⟩) ?_ ?_
           rotate_left
           ·intro w'
            go_simp
            with_reducible rfl
           rotate_left
           ·simp only [Act.put, List.setIfInBounds_toArray, List.set_cons_zero, List.set_cons_succ, i64_w, i32_w]
            rfl
           refine take_ (i := 34) (N := some 82) (v := ?_) (a' := ?_) #[true, true, true, true, true, true, true, true, true, true, true, true, true, true, true, true, true, true, true, true, true, true, true, true, true, true, true, true, true, true, true, true, true, true, true, false, true, false, false, false, false, false, false] rfl rfl (take_ofW HT_.out HW_.out (by kernel_rfl)) (fun _ _ _ h => h) (Or.inl ⟨by rfl, ?_⟩) hHeld ?_ ?_
           rotate_left
           ·rintro w' ⟨s0, s1, s2, s3, s4, s5, s6, s7, s8⟩
            go_simp
            with_reducible rfl
           rotate_left
           ·simp only [Act.put, List.setIfInBounds_toArray, List.set_cons_zero, List.set_cons_succ, i64_w, i32_w]
            rfl
           refine pure_ (i := 35) (N := some 83) (v := ?_) (a' := ?_) #[true, true, true, true, true, true, true, true, true, true, true, true, true, true, true, true, true, true, true, true, true, true, true, true, true, true, true, true, true, true, true, true, true, true, true, true, true, false, false, false, false, false, false] rfl rfl (any_of HT_.out (by kernel_rfl)) (fun _ _ _ h => h) (Or.inl ⟨by rfl, ?_⟩) ?_ ?_
           rotate_left
           ·intro w'
            go_simp
            with_reducible rfl
           rotate_left
           ·simp only [Act.put, List.setIfInBounds_toArray, List.set_cons_zero, List.set_cons_succ, i64_w, i32_w]
            rfl
           refine take_ (i := 37) (N := some 85) (v := ?_) (a' := ?_) #[true, true, true, true, true, true, true, true, true, true, true, true, true, true, true, true, true, true, true, true, true, true, true, true, true, true, true, true, true, true, true, true, true, true, true, true, true, true, false, false, false, false, false] rfl rfl (take_ofW HT_.out HW_.out (by kernel_rfl)) (fun _ _ _ h => h) (Or.inl ⟨by rfl, ?_⟩) hHeld ?_ ?_
           rotate_left
           ·rintro w' ⟨s0, s1, s2, s3, s4, s5, s6, s7, s8⟩
            go_simp
            with_reducible rfl
           rotate_left
           ·simp only [Act.put, List.setIfInBounds_toArray, List.set_cons_zero, List.set_cons_succ, i64_w, i32_w]
            rfl
           refine pure_ (i := 38) (N := some 86) (v := ?_) (a' := ?_) #[true, true, true, true, true, true, true, true, true, true, true, true, true, true, true, true, true, true, true, true, true, true, true, true, true, true, true, true, true, true, true, true, true, true, true, true, true, true, true, false, false, false, false] rfl rfl (any_of HT_.out (by kernel_rfl)) (fun _ _ _ h => h) (Or.inl ⟨by rfl, ?_⟩) ?_ ?_
           rotate_left
           ·intro w'
            go_simp
            with_reducible rfl
           rotate_left
           ·simp only [Act.put, List.setIfInBounds_toArray, List.set_cons_zero, List.set_cons_succ, i64_w, i32_w]
            rfl
           refine pure_ (i := 39) (N := some 87) (v := ?_) (a' := ?_) #[true, true, true, true, true, true, true, true, true, true, true, true, true, true, true, true, true, true, true, true, true, true, true, true, true, true, true, true, true, true, true, true, true, true, true, true, true, true, true, true, false, false, false] rfl rfl (any_of HT_.out (by kernel_rfl)) (fun _ _ _ h => h) (Or.inl ⟨by rfl, ?_⟩) ?_ ?_
           rotate_left
           ·intro w'
            go_simp
            with_reducible rfl
           rotate_left
           ·simp only [Act.put, List.setIfInBounds_toArray, List.set_cons_zero, List.set_cons_succ, i64_w, i32_w]
            rfl
           refine pure_ (i := 40) (N := some 88) (v := ?_) (a' := ?_) #[true, true, true, true, true, true, true, true, true, true, true, true, true, true, true, true, true, true, true, true, true, true, true, true, true, true, true, true, true, true, true, true, true, true, true, true, true, true, true, true, true, false, false] rfl rfl (any_of HT_.out (by kernel_rfl)) (fun _ _ _ h => h) (Or.inl ⟨by rfl, ?_⟩) ?_ ?_
           rotate_left
           ·intro w'
            go_simp
            with_reducible rfl
           rotate_left
           ·simp only [Act.put, List.setIfInBounds_toArray, List.set_cons_zero, List.set_cons_succ, i64_w, i32_w]
            rfl
           refine pure_ (i := 41) (N := some 89) (v := ?_) (a' := ?_) #[true, true, true, true, true, true, true, true, true, true, true, true, true, true, true, true, true, true, true, true, true, true, true, true, true, true, true, true, true, true, true, true, true, true, true, true, true, true, true, true, true, true, false] rfl rfl (any_of HT_.out (by kernel_rfl)) (fun _ _ _ h => h) (Or.inl ⟨by rfl, ?_⟩) ?_ ?_
           rotate_left
           ·intro w'
            go_simp
            with_reducible rfl
           rotate_left
           ·simp only [Act.put, List.setIfInBounds_toArray, List.set_cons_zero, List.set_cons_succ, i64_w, i32_w]
            rfl
           refine pure_ (i := 42) (N := some 8) (v := ?_) (a' := ?_) #[true, true, true, true, true, true, true, true, true, true, true, true, true, true, true, true, true, true, true, true, true, true, true, true, true, true, true, true, true, true, true, true, true, true, true, true, true, true, true, true, true, true, true] rfl rfl (any_of HT_.out (by kernel_rfl)) (fun _ _ _ h => h) (Or.inl ⟨by rfl, ?_⟩) ?_ ?_
           rotate_left
           ·intro w'
            go_simp
            with_reducible rfl
           rotate_left
           ·simp only [Act.put, List.setIfInBounds_toArray, List.set_cons_zero, List.set_cons_succ, i64_w, i32_w]
            rfl
           refine done_ (done_of HT_.out (by kernel_rfl)) ?_
           try go_wp2
           go_ret
           exact ⟨by first | rfl | (rw [HTR.out]; rfl) | (exact congrArg (fun b => Ending.returned (Value.bool b)) HTR.out) | (simpa using HTR.out) | (simp [errW_none, errW_some] <;> rfl) | (simp [*, errW_none, errW_some] <;> rfl), by repeat (first | (with_reducible first | exact HB.out | apply below_alloc | apply pw_below_drewN | apply below_drew1 | refine below_set ?_ GE705.out | refine below_set ?_ GE706.out | refine below_set ?_ GE717.out | refine below_set ?_ GE725.out) | exact HB.out)⟩
          ·replace c60 := Bool.eq_false_iff.mpr c60
           subst c60
           have H1 : (some false) = some true := by rw [if_neg (show ¬ (false = true) by decide)] at H; exact H
           clear H
           have H := H1
           clear H1
           exact absurd H (by simp)
         ·rw [if_neg c58] at H
          have c58b0 : (t724 == 0) = false := beq_eq_false_iff_ne.mpr c58
          have c58b1 : (t724 != 0) = true := bne_iff_ne.mpr c58
          exact absurd H (by simp)
        ·rw [if_neg c57] at H
         have c57b0 : (t728 == t729) = false := by simpa using c57
         (try (have c57b1 : decide (t728 = t729) = false := by simpa using c57))
         (try (have c57b2 : (t728 == t729) = false := by simpa using c57))
         (try (have c57b3 : ¬ (t728 = t729) := by simpa using c57))
         clear c57
         exact absurd H (by simp)
     ·rw [if_neg c24] at H
      have c24b0 : (t716 == 0) = false := beq_eq_false_iff_ne.mpr c24
      have c24b1 : (t716 != 0) = true := bne_iff_ne.mpr c24
      by_cases c86 : (t710.length : Int) = 0
      ·rw [if_pos c86] at H
       have c86b0 : ((t710.length : Int) == 0) = true := beq_iff_eq.mpr c86
       have c86b1 : ((t710.length : Int) != 0) = false := bne_eq_false_iff_eq.mpr c86
       clear c86
       have HTR := Aside0.mk (Option.some.inj H)
       clear H
       have hnb87 := NB705_706.out
       have hnc87 := NB706_705.out
       have hcz88_0 : wc.cell? ⟨gb705, 0, none⟩ = some (.slice A0_0 l0_0.length c0_0) := (blk_cell BK705.out 0).trans rfl
       have hcz88_1 : wc.cell? ⟨gb705, 1, none⟩ = some (.slice A0_1 l0_1.length c0_1) := (blk_cell BK705.out 1).trans rfl
       have hfz88_0 := blk_frozen BK705.out 0
       have hfz88_1 := blk_frozen BK705.out 1
       have hcz89_0 : wc.cell? ⟨gb706, 0, none⟩ = some (.int .i64 a1_0) := (blk_cell BK706.out 0).trans rfl
       have hcz89_1 : wc.cell? ⟨gb706, 1, none⟩ = some (.int .i64 a1_1) := (blk_cell BK706.out 1).trans rfl
       have hcz89_2 : wc.cell? ⟨gb706, 2, none⟩ = some (.int .i64 a1_2) := (blk_cell BK706.out 2).trans rfl
       have hfz89_0 := blk_frozen BK706.out 0
       have hfz89_1 := blk_frozen BK706.out 1
       have hfz89_2 := blk_frozen BK706.out 2
       go_wp2_with (first | ((with_reducible refine gate_callee (f := 42) rfl ?_); refine goesL_ (some 26) rfl rfl Try.func42 (by kernel_rfl) rfl #[.agg #[.slice A0_0 l0_0.length c0_0, .slice A0_1 l0_1.length c0_1], .agg #[.int .i64 a1_0, .int .i64 a1_1, .int .i64 a1_2]] rfl (by (try simp only [List.map_toArray, List.map_cons, List.map_nil]); first | done | rfl | (simp only [List.length_drop, List.length_take]; rfl)) ?_; (with_reducible refine (patrol_Report.calls kj6 _ _ l0_0 _ _ l0_1 a1_0 a1_1 a1_2 t710 t713 t716 _ ?side1 ?side2 ?side3 ?side4 A23.out).mono ?_); (case side1 => repeat (first | exact (Kd.C_below HR0_0.out HB.out) | (with_reducible refine Kd.C_alloc ?_ _) | (with_reducible refine Kd.C_drewN ?_ _) | (with_reducible refine Kd.C_drew ?_))); (case side2 => exact HC0_0.out); (case side3 => repeat (first | exact (Kd.C_below HR0_1.out HB.out) | (with_reducible refine Kd.C_alloc ?_ _) | (with_reducible refine Kd.C_drewN ?_ _) | (with_reducible refine Kd.C_drew ?_))); (case side4 => exact HC0_1.out); rintro e w90 ⟨v711, v714, rfl, ho0, ho1, hb⟩; refine ⟨_, rfl, ?_⟩; have n0_ := Aside0.mk (Kd.N_lower (Kd.N_mono (ok' := fun k_ => some k_ ≠ (v714 : Value).ownBlock ∧ k_ ≠ gb705 ∧ k_ ≠ gb706) ho0 (fun k_ hk_ => ⟨hk_.2, (Kd.freshB BK705.out k_ hk_.1), (Kd.freshB BK706.out k_ hk_.1)⟩)) (below_size bel_)); have n1_ := Aside0.mk (Kd.R_lower (Kd.R_newB (Kd.R_mono (ok' := fun k_ => True) ho1 (fun _ hk_ => trivial)) BK706.out) (below_size bel_)); have n2_ := Aside0.mk (blk_below BK705.out hb); have n3_ := Aside0.mk (blk_below BK706.out hb); have n4_ := Aside0.mk (below_step bel_ hb); clear BK705; clear BK706; clear HB; have HO712 := n0_; have HO715 := n1_; have BK705 := n2_; have BK706 := n3_; have HB := n4_; clear n0_ n1_ n2_ n3_ n4_; (try clear hb); (try clear hb2); (try clear hk); (try clear hi); (try clear ho0); (try clear ho1)) | ((with_reducible refine gate_dst (N := 9) rfl ?_); (try (refine gate_guard (by rfl) ?_; dsimp only)); refine box_event ?hg (N := 9) ?hd (cs := #[.slice none 0 0, .slice none 0 0]) (t := 48) ?hr ?_; (case hd => rfl); (case hg => rfl); (case hr => first | (go_simp; done) | (go_simp; rfl)); intro gb717 hg w91 hbox hb; have n0_ := Aside0.mk (Kd.N_below (Kd.N_elderB HO712.out gb717 (Nat.le_of_eq hg.symm)) hb); have n1_ := Aside0.mk (Kd.R_below HO715.out hb); have n2_ := Aside0.mk (blk_below BK705.out hb); have n3_ := Aside0.mk (blk_below BK706.out hb); have n4_ := Aside0.mk (below_step bel_ hb); have n5_ := Aside0.mk (hbox); have n6_ := Aside0.mk ((by rw [hg]; exact (below_size bel_) : w.heap.size ≤ gb717)); have n7_ := Aside0.mk ((by rw [hg]; exact (below_size bel_) : w.heap.size ≤ gb717)); have n8_ := Aside0.mk ((by rw [hg]; exact Nat.ne_of_lt (blk_lt BK705.out) : gb705 ≠ gb717)); have n9_ := Aside0.mk ((by rw [hg]; exact Nat.ne_of_gt (blk_lt BK705.out) : gb717 ≠ gb705)); have n10_ := Aside0.mk ((by rw [hg]; exact Nat.ne_of_lt (blk_lt BK706.out) : gb706 ≠ gb717)); have n11_ := Aside0.mk ((by rw [hg]; exact Nat.ne_of_gt (blk_lt BK706.out) : gb717 ≠ gb706)); clear HO712; clear HO715; clear BK705; clear BK706; clear HB; have HO712 := n0_; have HO715 := n1_; have BK705 := n2_; have BK706 := n3_; have HB := n4_; have BK717 := n5_; have GW717 := n6_; have GE717 := n7_; have NB705_717 := n8_; have NB717_705 := n9_; have NB706_717 := n10_; have NB717_706 := n11_; clear n0_ n1_ n2_ n3_ n4_ n5_ n6_ n7_ n8_ n9_ n10_ n11_; clear hb hbox hg; obtain ⟨Ao92, co92, eo92⟩ := Kd.N_slice HO712.out; subst eo92; have hnb93 := NB717_705.out; have hnc93 := NB705_717.out; have hnb94 := NB717_706.out; have hnc94 := NB706_717.out; have hcz95_0 : w91.cell? ⟨gb717, 0, none⟩ = some (.slice none 0 0) := (blk_cell BK717.out 0).trans rfl; have hcz95_1 : w91.cell? ⟨gb717, 1, none⟩ = some (.slice none 0 0) := (blk_cell BK717.out 1).trans rfl; have hfz95_0 := blk_frozen BK717.out 0; have hfz95_1 := blk_frozen BK717.out 1; obtain ⟨Ao96, co96, eo96⟩ := Kd.R_slice HO715.out; subst eo96))
       go_ret
       exact ⟨by first | rfl | (rw [HTR.out]; rfl) | (exact congrArg (fun b => Ending.returned (Value.bool b)) HTR.out) | (simpa using HTR.out) | (simp [errW_none, errW_some] <;> rfl) | (simp [*, errW_none, errW_some] <;> rfl), by repeat (first | (with_reducible first | exact HB.out | apply below_alloc | apply pw_below_drewN | apply below_drew1 | refine below_set ?_ GE705.out | refine below_set ?_ GE706.out | refine below_set ?_ GE717.out) | exact HB.out)⟩
      ·rw [if_neg c86] at H
       have c86b0 : ((t710.length : Int) == 0) = false := beq_eq_false_iff_ne.mpr c86
       have c86b1 : ((t710.length : Int) != 0) = true := bne_iff_ne.mpr c86
       have c86b2 : ¬ (t710 = []) := fun h_ => c86 (by rw [h_]; rfl)
       exact absurd H (by simp)
 ·replace c6 := Bool.eq_false_iff.mpr c6
  subst c6
  have H1 : (some false) = some true := by rw [if_neg (show ¬ (false = true) by decide)] at H; exact H
  clear H
  have H := H1
  clear H1
  exact absurd H (by simp)

end Go.Proofs.Ytmhggplhfcmgkaa.Q
