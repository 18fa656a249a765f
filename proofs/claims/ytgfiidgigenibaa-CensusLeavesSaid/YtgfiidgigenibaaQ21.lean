-- written by wip/drive.py (this session's program) over the kit's print words
import Derived.Test.YtgfiidgigenibaaQ0
import Derived.Test.YtgfiidgigenibaaQ3
namespace Go.Proofs.Ytgfiidgigenibaa.Q
open Go.RowKit Go.Proofs.YtgfiidgigenibaaW.PrintWords Go.Proofs.YtgfiidgigenibaaW.PrintLast Go.Proofs.YtgfiidgigenibaaW.PrintMore
attribute [local go_sem] max2_int min2_int max_two min_two max_three min_three max_four min_four   -- for this text's walks alone
set_option linter.unusedVariables false
set_option linter.unusedSimpArgs false

/-! ### census_Peak: function 22 -/
def census_Peak.l0 : Nat → List (S28) → Int → Int → List (S28) → Int → Int → Option (Int)
 | 0, _, _, _, _, _, _ => none
 | k + 1, x0, x3, x4, x7, x8, x9 => if x9 < x8 then (if 0 ≤ x9 then (if x9 < (x7.length : Int) then ((census_change.f ((rd_T28 x7 x9).f0) ((rd_T28 x7 x9).f1) ((rd_T28 x7 x9).f2) ((rd_T28 x7 x9).f3)).bind fun t131 => (if x9 = (wrap64 ((x0.length : Int) - 1)) then (census_Peak.l0 k x0 (wrap64 (x3 + t131)) (mx x4 (wrap64 (x3 + t131))) x7 x8 (wrap64 (x9 + 1))) else (if 0 ≤ (wrap64 (x9 + 1)) then (if (wrap64 (x9 + 1)) < (x0.length : Int) then (if ((rd_T28 x0 (wrap64 (x9 + 1))).f3) = ((rd_T28 x7 x9).f3) then (census_Peak.l0 k x0 (wrap64 (x3 + t131)) x4 x7 x8 (wrap64 (x9 + 1))) else (census_Peak.l0 k x0 (wrap64 (x3 + t131)) (mx x4 (wrap64 (x3 + t131))) x7 x8 (wrap64 (x9 + 1)))) else (none)) else (none)))) else (none)) else (none)) else (some x4)
def census_Peak.f (k : Nat) (l0 : List (S28)) : Option (Int) := census_Peak.l0 k l0 0 0 l0 (l0.length : Int) 0
theorem census_Peak.mono_l : ∀ k, (∀ y0 y1 y2 y3 y4 y5, LeO (census_Peak.l0 k y0 y1 y2 y3 y4 y5) (census_Peak.l0 (k + 1) y0 y1 y2 y3 y4 y5))
 | 0 => fun _ _ _ _ _ _ r h => by simp [census_Peak.l0] at h
 | k + 1 => by
  have ih0 := census_Peak.mono_l k
  ·intro y0 y1 y2 y3 y4 y5
   unfold census_Peak.l0
   repeat' first
   | (with_reducible exact ih0 _ _ _ _ _ _)
   | (with_reducible exact LeO.refl _)
   | (with_reducible exact LeO.none _)
   | (with_reducible refine LeO.ite ?_ ?_)
   | (with_reducible refine LeO.bind ?_ (fun _ => ?_))
   | exact ih0 _ _ _ _ _ _
   | exact LeO.none _
   | refine LeO.ite ?_ ?_
   | refine LeO.bind ?_ (fun _ => ?_)
theorem census_Peak.mono : ∀ a0 k, LeO (census_Peak.f k a0) (census_Peak.f (k + 1) a0) := by
 intro a0 k
 have ih0 := census_Peak.mono_l k
 unfold census_Peak.f
 repeat' first
   | (with_reducible exact ih0 _ _ _ _ _ _)
   | (with_reducible exact LeO.refl _)
   | (with_reducible exact LeO.none _)
   | (with_reducible refine LeO.ite ?_ ?_)
   | (with_reducible refine LeO.bind ?_ (fun _ => ?_))
   | exact ih0 _ _ _ _ _ _
   | exact LeO.none _
   | refine LeO.ite ?_ ?_
   | refine LeO.bind ?_ (fun _ => ?_)
set_option maxHeartbeats 8000000 in
set_option maxRecDepth 100000 in
theorem census_Peak.calls (k : Nat) (A0 : Option Addr) (c0 : Nat) (l0 : List (S28)) (r : Int) (w : World) (hr0 : Kd.C k28 w A0 l0.length l0) (hc0 : l0.length ≤ c0) (h : census_Peak.f k l0 = some r) :
  Calls Try.prog 22 #[.slice A0 l0.length c0] w fun e w' => e = .returned (.int .i64 r) ∧ Below w.heap.size w w' := by
 have hu28 := Try.underlying28
 have HR0 := a_ hr0
 have HC0 := a_ hc0
 clear hr0 hc0
 have HB := a_ (Below.refl w.heap.size w)
 have H : (census_Peak.l0 k l0 0 0 l0 (l0.length : Int) 0) = some r := h
 clear h
 have H' := a_ H
 clear H
 go_enter Try.func22, Try.ntmps22
 go_wp2
 repeat (go_quiet (fail); try go_wp2)
 go_loopg [3, 4, 9] k (fun kq v3 v4 v9 w' => ∃ (x3_1 : Int) (x4_1 : Int) (x9_1 : Int), v3 = .int .i64 x3_1 ∧ v4 = .int .i64 x4_1 ∧ v9 = .int .i64 x9_1 ∧ Aside0 (census_Peak.l0 kq l0 x3_1 x4_1 l0 (l0.length : Int) x9_1 = some r) ∧ Aside0 (kq ≤ k) ∧ Aside0 (Below w.heap.size w w'))
 case atStart => exact ⟨(0), (0), (0), (by first | rfl | (simp; done) | (simp [*]; done)), (by first | rfl | (simp; done) | (simp [*]; done)), (by first | rfl | (simp; done) | (simp [*]; done)), H', ⟨Nat.le_refl _⟩, ⟨by repeat (first | (with_reducible first | exact HB.out | apply below_alloc | apply pw_below_drewN | apply below_drew1) | exact HB.out)⟩⟩
 case round =>
  clear H'
  obtain ⟨x3_1, x4_1, x9_1, rfl, rfl, rfl, HA, HK1, HB⟩ := hrel
  cases gk with
  | zero => exact absurd HA.out (by simp [census_Peak.l0])
  | succ k1 =>
   have H := HA.out
   clear HA
   simp only [census_Peak.l0] at H
   by_cases c2 : x9_1 < (l0.length : Int)
   ·rw [if_pos c2] at H
    have c2b0 : decide (x9_1 < (l0.length : Int)) = true := decide_eq_true c2
    clear c2
    by_cases c3 : 0 ≤ x9_1
    ·rw [if_pos c3] at H
     have c3b0 : decide (0 ≤ x9_1) = true := decide_eq_true c3
     clear c3
     by_cases c4 : x9_1 < (l0.length : Int)
     ·rw [if_pos c4] at H
      have c4b0 : decide (x9_1 < (l0.length : Int)) = true := decide_eq_true c4
      clear c4
      replace H := Option.bind_eq_some_iff.mp H
      obtain ⟨t131, A50, H⟩ := H
      replace H : (if x9_1 = (wrap64 ((l0.length : Int) - 1)) then (census_Peak.l0 k1 l0 (wrap64 (x3_1 + t131)) (mx x4_1 (wrap64 (x3_1 + t131))) l0 (l0.length : Int) (wrap64 (x9_1 + 1))) else (if 0 ≤ (wrap64 (x9_1 + 1)) then (if (wrap64 (x9_1 + 1)) < (l0.length : Int) then (if ((rd_T28 l0 (wrap64 (x9_1 + 1))).f3) = ((rd_T28 l0 x9_1).f3) then (census_Peak.l0 k1 l0 (wrap64 (x3_1 + t131)) x4_1 l0 (l0.length : Int) (wrap64 (x9_1 + 1))) else (census_Peak.l0 k1 l0 (wrap64 (x3_1 + t131)) (mx x4_1 (wrap64 (x3_1 + t131))) l0 (l0.length : Int) (wrap64 (x9_1 + 1)))) else (none)) else (none))) = some r := H
      have A5 := a_ A50
      clear A50
      by_cases c6 : x9_1 = (wrap64 ((l0.length : Int) - 1))
      ·rw [if_pos c6] at H
       have c6b0 : (x9_1 == (wrap64 ((l0.length : Int) - 1))) = true := beq_iff_eq.mpr c6
       have c6b1 : (x9_1 != (wrap64 ((l0.length : Int) - 1))) = false := bne_eq_false_iff_eq.mpr c6
       clear c6
       obtain ⟨ji7, hji7⟩ : ∃ j_ : Int, (mx x4_1 (wrap64 (x3_1 + t131))) = j_ := ⟨_, rfl⟩
       replace H : (census_Peak.l0 k1 l0 (wrap64 (x3_1 + t131)) ji7 l0 (l0.length : Int) (wrap64 (x9_1 + 1))) = some r := by first | (rw [hji7] at H; exact H) | (simp only [hji7] at H ⊢; exact H)
       (try rw [hji7] at A5)
       have hji7_ : (if x4_1 < (wrap64 (x3_1 + t131)) then (wrap64 (x3_1 + t131)) else x4_1) = ji7 := hji7
       have H' := a_ H
       clear H
       have p129 : 0 ≤ (x9_1 : Int) := od_
       have q129 : x9_1 < (l0.length : Int) := od_
       obtain ⟨ad129, e129, hx129_0, hx129_1, hx129_2, hx129_3⟩ := at_T28 HR0.out x9_1 p129 q129
       cases e129
       replace hx129_0 := pc_ hx129_0
       replace hx129_1 := pc_ hx129_1
       replace hx129_2 := pc_ hx129_2
       replace hx129_3 := pc_ hx129_3
       replace p129 := eq_true p129
       replace q129 := eq_true q129
       go_wp2_with (first | ((with_reducible refine gate_dst (N := 6) rfl ?_); refine box_event ?hg (N := 6) ?hd (cs := #[.int .i64 0, .int .i64 0, .int .i64 0, .int .i64 0]) (t := 28) ?hr ?_; (case hd => rfl); (case hg => rfl); (case hr => first | (go_simp; done) | (go_simp; rfl)); intro gb130 hg w8 hbox hb; have n0_ := a_ (below_step bel_ hb); have n1_ := a_ (hbox); have n2_ := a_ (bz_ hg : w.heap.size ≤ gb130); have n3_ := a_ (bz_ hg : w.heap.size ≤ gb130); clear HB; have HB := n0_; have BK130 := n1_; have GW130 := n2_; have GE130 := n3_; clear n0_ n1_ n2_ n3_; clear hb hbox hg; have hcz9_0 := cz_ BK130 0; have hcz9_1 := cz_ BK130 1; have hcz9_2 := cz_ BK130 2; have hcz9_3 := cz_ BK130 3; have hfz9_0 := fz_ BK130 0; have hfz9_1 := fz_ BK130 1; have hfz9_2 := fz_ BK130 2; have hfz9_3 := fz_ BK130 3) | (go_at_call 30; (with_reducible refine (census_change.calls ((rd_T28 l0 x9_1).f0) ((rd_T28 l0 x9_1).f1) ((rd_T28 l0 x9_1).f2) ((rd_T28 l0 x9_1).f3) t131 _ A5.out).mono ?_); rintro e w10 ⟨rfl, hb⟩; have n0_ := a_ (blk_below (g := gb130) (o := .cells #[.int .i64 ((rd_T28 l0 x9_1).f0), .int .i64 ((rd_T28 l0 x9_1).f1), .int .i64 ((rd_T28 l0 x9_1).f2), .int .i64 ((rd_T28 l0 x9_1).f3)] 28 (0, 0)) (by refine blk_put (cs := #[.int .i64 ((rd_T28 l0 x9_1).f0), .int .i64 ((rd_T28 l0 x9_1).f1), .int .i64 ((rd_T28 l0 x9_1).f2), .int .i64 0]) ?_ 3 _ rfl; refine blk_put (cs := #[.int .i64 ((rd_T28 l0 x9_1).f0), .int .i64 ((rd_T28 l0 x9_1).f1), .int .i64 0, .int .i64 0]) ?_ 2 _ rfl; refine blk_put (cs := #[.int .i64 ((rd_T28 l0 x9_1).f0), .int .i64 0, .int .i64 0, .int .i64 0]) ?_ 1 _ rfl; refine blk_put (cs := #[.int .i64 0, .int .i64 0, .int .i64 0, .int .i64 0]) ?_ 0 _ rfl; exact BK130.out) hb); have n1_ := a_ (below_step bel_ hb); clear BK130; clear HB; have BK130 := n0_; have HB := n1_; clear n0_ n1_; (try clear hb); (try clear hb2); (try clear hk); (try clear hi)))
       repeat (go_quiet (fail); try go_wp2_with (first | ((with_reducible refine gate_dst (N := 6) rfl ?_); refine box_event ?hg (N := 6) ?hd (cs := #[.int .i64 0, .int .i64 0, .int .i64 0, .int .i64 0]) (t := 28) ?hr ?_; (case hd => rfl); (case hg => rfl); (case hr => first | (go_simp; done) | (go_simp; rfl)); intro gb130 hg w8 hbox hb; have n0_ := a_ (below_step bel_ hb); have n1_ := a_ (hbox); have n2_ := a_ (bz_ hg : w.heap.size ≤ gb130); have n3_ := a_ (bz_ hg : w.heap.size ≤ gb130); clear HB; have HB := n0_; have BK130 := n1_; have GW130 := n2_; have GE130 := n3_; clear n0_ n1_ n2_ n3_; clear hb hbox hg; have hcz9_0 := cz_ BK130 0; have hcz9_1 := cz_ BK130 1; have hcz9_2 := cz_ BK130 2; have hcz9_3 := cz_ BK130 3; have hfz9_0 := fz_ BK130 0; have hfz9_1 := fz_ BK130 1; have hfz9_2 := fz_ BK130 2; have hfz9_3 := fz_ BK130 3) | (go_at_call 30; (with_reducible refine (census_change.calls ((rd_T28 l0 x9_1).f0) ((rd_T28 l0 x9_1).f1) ((rd_T28 l0 x9_1).f2) ((rd_T28 l0 x9_1).f3) t131 _ A5.out).mono ?_); rintro e w10 ⟨rfl, hb⟩; have n0_ := a_ (blk_below (g := gb130) (o := .cells #[.int .i64 ((rd_T28 l0 x9_1).f0), .int .i64 ((rd_T28 l0 x9_1).f1), .int .i64 ((rd_T28 l0 x9_1).f2), .int .i64 ((rd_T28 l0 x9_1).f3)] 28 (0, 0)) (by refine blk_put (cs := #[.int .i64 ((rd_T28 l0 x9_1).f0), .int .i64 ((rd_T28 l0 x9_1).f1), .int .i64 ((rd_T28 l0 x9_1).f2), .int .i64 0]) ?_ 3 _ rfl; refine blk_put (cs := #[.int .i64 ((rd_T28 l0 x9_1).f0), .int .i64 ((rd_T28 l0 x9_1).f1), .int .i64 0, .int .i64 0]) ?_ 2 _ rfl; refine blk_put (cs := #[.int .i64 ((rd_T28 l0 x9_1).f0), .int .i64 0, .int .i64 0, .int .i64 0]) ?_ 1 _ rfl; refine blk_put (cs := #[.int .i64 0, .int .i64 0, .int .i64 0, .int .i64 0]) ?_ 0 _ rfl; exact BK130.out) hb); have n1_ := a_ (below_step bel_ hb); clear BK130; clear HB; have BK130 := n0_; have HB := n1_; clear n0_ n1_; (try clear hb); (try clear hb2); (try clear hk); (try clear hi))))
       go_roundg k1
       case measure => have := HK1.out; omega
       case rel => exact ⟨(wrap64 (x3_1 + t131)), (ji7), (wrap64 (x9_1 + 1)), (by first | rfl | (simp; done) | (simp [*]; done)), (by first | rfl | (simp; done) | (simp only [← hji7] <;> (first | rfl | simp)) | (simp [*]; done)), (by first | rfl | (simp; done) | (simp [*]; done)), H', ⟨by have := HK1.out; omega⟩, ⟨by repeat (first | (with_reducible first | exact HB.out | apply below_alloc | apply pw_below_drewN | apply below_drew1 | refine below_set ?_ GE130.out) | exact HB.out)⟩⟩
      ·rw [if_neg c6] at H
       have c6b0 : (x9_1 == (wrap64 ((l0.length : Int) - 1))) = false := beq_eq_false_iff_ne.mpr c6
       have c6b1 : (x9_1 != (wrap64 ((l0.length : Int) - 1))) = true := bne_iff_ne.mpr c6
       obtain ⟨ji11, hji11⟩ : ∃ j_ : Int, (wrap64 (x9_1 + 1)) = j_ := ⟨_, rfl⟩
       replace H : (if 0 ≤ (ji11) then (if (ji11) < (l0.length : Int) then (if ((rd_T28 l0 (ji11)).f3) = ((rd_T28 l0 x9_1).f3) then (census_Peak.l0 k1 l0 (wrap64 (x3_1 + t131)) x4_1 l0 (l0.length : Int) ji11) else (census_Peak.l0 k1 l0 (wrap64 (x3_1 + t131)) (mx x4_1 (wrap64 (x3_1 + t131))) l0 (l0.length : Int) ji11)) else (none)) else (none)) = some r := by first | (rw [hji11] at H; exact H) | (simp only [hji11] at H ⊢; exact H)
       (try rw [hji11] at A5)
       have hji11w : (IntKind.i64.wrap (x9_1 + 1)) = ji11 := (i64_w _).trans hji11
       by_cases c12 : 0 ≤ (ji11)
       ·rw [if_pos c12] at H
        have c12b0 : decide (0 ≤ (ji11)) = true := decide_eq_true c12
        clear c12
        by_cases c13 : (ji11) < (l0.length : Int)
        ·rw [if_pos c13] at H
         have c13b0 : decide ((ji11) < (l0.length : Int)) = true := decide_eq_true c13
         clear c13
         by_cases c14 : ((rd_T28 l0 (ji11)).f3) = ((rd_T28 l0 x9_1).f3)
         ·rw [if_pos c14] at H
          have c14b0 : (((rd_T28 l0 (ji11)).f3) == ((rd_T28 l0 x9_1).f3)) = true := beq_iff_eq.mpr c14
          have c14b1 : (((rd_T28 l0 (ji11)).f3) != ((rd_T28 l0 x9_1).f3)) = false := bne_eq_false_iff_eq.mpr c14
          clear c14
          have H' := a_ H
          clear H
          have p129 : 0 ≤ (x9_1 : Int) := od_
          have q129 : x9_1 < (l0.length : Int) := od_
          obtain ⟨ad129, e129, hx129_0, hx129_1, hx129_2, hx129_3⟩ := at_T28 HR0.out x9_1 p129 q129
          cases e129
          replace hx129_0 := pc_ hx129_0
          replace hx129_1 := pc_ hx129_1
          replace hx129_2 := pc_ hx129_2
          replace hx129_3 := pc_ hx129_3
          replace p129 := eq_true p129
          replace q129 := eq_true q129
          go_wp2_with (first | ((with_reducible refine gate_dst (N := 6) rfl ?_); refine box_event ?hg (N := 6) ?hd (cs := #[.int .i64 0, .int .i64 0, .int .i64 0, .int .i64 0]) (t := 28) ?hr ?_; (case hd => rfl); (case hg => rfl); (case hr => first | (go_simp; done) | (go_simp; rfl)); intro gb130 hg w15 hbox hb; have n0_ := a_ (below_step bel_ hb); have n1_ := a_ (hbox); have n2_ := a_ (bz_ hg : w.heap.size ≤ gb130); have n3_ := a_ (bz_ hg : w.heap.size ≤ gb130); clear HB; have HB := n0_; have BK130 := n1_; have GW130 := n2_; have GE130 := n3_; clear n0_ n1_ n2_ n3_; clear hb hbox hg; have hcz16_0 := cz_ BK130 0; have hcz16_1 := cz_ BK130 1; have hcz16_2 := cz_ BK130 2; have hcz16_3 := cz_ BK130 3; have hfz16_0 := fz_ BK130 0; have hfz16_1 := fz_ BK130 1; have hfz16_2 := fz_ BK130 2; have hfz16_3 := fz_ BK130 3) | (go_at_call 30; (with_reducible refine (census_change.calls ((rd_T28 l0 x9_1).f0) ((rd_T28 l0 x9_1).f1) ((rd_T28 l0 x9_1).f2) ((rd_T28 l0 x9_1).f3) t131 _ A5.out).mono ?_); rintro e w17 ⟨rfl, hb⟩; have n0_ := a_ (blk_below (g := gb130) (o := .cells #[.int .i64 ((rd_T28 l0 x9_1).f0), .int .i64 ((rd_T28 l0 x9_1).f1), .int .i64 ((rd_T28 l0 x9_1).f2), .int .i64 ((rd_T28 l0 x9_1).f3)] 28 (0, 0)) (by refine blk_put (cs := #[.int .i64 ((rd_T28 l0 x9_1).f0), .int .i64 ((rd_T28 l0 x9_1).f1), .int .i64 ((rd_T28 l0 x9_1).f2), .int .i64 0]) ?_ 3 _ rfl; refine blk_put (cs := #[.int .i64 ((rd_T28 l0 x9_1).f0), .int .i64 ((rd_T28 l0 x9_1).f1), .int .i64 0, .int .i64 0]) ?_ 2 _ rfl; refine blk_put (cs := #[.int .i64 ((rd_T28 l0 x9_1).f0), .int .i64 0, .int .i64 0, .int .i64 0]) ?_ 1 _ rfl; refine blk_put (cs := #[.int .i64 0, .int .i64 0, .int .i64 0, .int .i64 0]) ?_ 0 _ rfl; exact BK130.out) hb); have n1_ := a_ (below_step bel_ hb); clear BK130; clear HB; have BK130 := n0_; have HB := n1_; clear n0_ n1_; (try clear hb); (try clear hb2); (try clear hk); (try clear hi); have p132 : 0 ≤ ((ji11) : Int) := od_; have q132 : (ji11) < (l0.length : Int) := od_; obtain ⟨ad132, e132, hx132_0, hx132_1, hx132_2, hx132_3⟩ := at_T28 HR0.out (ji11) p132 q132; obtain rfl : ad129 = ad132 := (by injection e132); replace hx132_0 := pc_ hx132_0; replace hx132_1 := pc_ hx132_1; replace hx132_2 := pc_ hx132_2; replace hx132_3 := pc_ hx132_3; replace p132 := eq_true p132; replace q132 := eq_true q132; have hcz18_0 := cz_ BK130 0; have hcz18_1 := cz_ BK130 1; have hcz18_2 := cz_ BK130 2; have hcz18_3 := cz_ BK130 3; have hfz18_0 := fz_ BK130 0; have hfz18_1 := fz_ BK130 1; have hfz18_2 := fz_ BK130 2; have hfz18_3 := fz_ BK130 3))
          repeat (go_quiet (fail); try go_wp2_with (first | ((with_reducible refine gate_dst (N := 6) rfl ?_); refine box_event ?hg (N := 6) ?hd (cs := #[.int .i64 0, .int .i64 0, .int .i64 0, .int .i64 0]) (t := 28) ?hr ?_; (case hd => rfl); (case hg => rfl); (case hr => first | (go_simp; done) | (go_simp; rfl)); intro gb130 hg w15 hbox hb; have n0_ := a_ (below_step bel_ hb); have n1_ := a_ (hbox); have n2_ := a_ (bz_ hg : w.heap.size ≤ gb130); have n3_ := a_ (bz_ hg : w.heap.size ≤ gb130); clear HB; have HB := n0_; have BK130 := n1_; have GW130 := n2_; have GE130 := n3_; clear n0_ n1_ n2_ n3_; clear hb hbox hg; have hcz16_0 := cz_ BK130 0; have hcz16_1 := cz_ BK130 1; have hcz16_2 := cz_ BK130 2; have hcz16_3 := cz_ BK130 3; have hfz16_0 := fz_ BK130 0; have hfz16_1 := fz_ BK130 1; have hfz16_2 := fz_ BK130 2; have hfz16_3 := fz_ BK130 3) | (go_at_call 30; (with_reducible refine (census_change.calls ((rd_T28 l0 x9_1).f0) ((rd_T28 l0 x9_1).f1) ((rd_T28 l0 x9_1).f2) ((rd_T28 l0 x9_1).f3) t131 _ A5.out).mono ?_); rintro e w17 ⟨rfl, hb⟩; have n0_ := a_ (blk_below (g := gb130) (o := .cells #[.int .i64 ((rd_T28 l0 x9_1).f0), .int .i64 ((rd_T28 l0 x9_1).f1), .int .i64 ((rd_T28 l0 x9_1).f2), .int .i64 ((rd_T28 l0 x9_1).f3)] 28 (0, 0)) (by refine blk_put (cs := #[.int .i64 ((rd_T28 l0 x9_1).f0), .int .i64 ((rd_T28 l0 x9_1).f1), .int .i64 ((rd_T28 l0 x9_1).f2), .int .i64 0]) ?_ 3 _ rfl; refine blk_put (cs := #[.int .i64 ((rd_T28 l0 x9_1).f0), .int .i64 ((rd_T28 l0 x9_1).f1), .int .i64 0, .int .i64 0]) ?_ 2 _ rfl; refine blk_put (cs := #[.int .i64 ((rd_T28 l0 x9_1).f0), .int .i64 0, .int .i64 0, .int .i64 0]) ?_ 1 _ rfl; refine blk_put (cs := #[.int .i64 0, .int .i64 0, .int .i64 0, .int .i64 0]) ?_ 0 _ rfl; exact BK130.out) hb); have n1_ := a_ (below_step bel_ hb); clear BK130; clear HB; have BK130 := n0_; have HB := n1_; clear n0_ n1_; (try clear hb); (try clear hb2); (try clear hk); (try clear hi); have p132 : 0 ≤ ((ji11) : Int) := od_; have q132 : (ji11) < (l0.length : Int) := od_; obtain ⟨ad132, e132, hx132_0, hx132_1, hx132_2, hx132_3⟩ := at_T28 HR0.out (ji11) p132 q132; obtain rfl : ad129 = ad132 := (by injection e132); replace hx132_0 := pc_ hx132_0; replace hx132_1 := pc_ hx132_1; replace hx132_2 := pc_ hx132_2; replace hx132_3 := pc_ hx132_3; replace p132 := eq_true p132; replace q132 := eq_true q132; have hcz18_0 := cz_ BK130 0; have hcz18_1 := cz_ BK130 1; have hcz18_2 := cz_ BK130 2; have hcz18_3 := cz_ BK130 3; have hfz18_0 := fz_ BK130 0; have hfz18_1 := fz_ BK130 1; have hfz18_2 := fz_ BK130 2; have hfz18_3 := fz_ BK130 3)))
          go_roundg k1
          case measure => have := HK1.out; omega
          case rel => exact ⟨(wrap64 (x3_1 + t131)), (x4_1), (ji11), (by first | rfl | (simp; done) | (simp [*]; done)), (by first | rfl | (simp; done) | (simp [*]; done)), (by first | rfl | (simp; done) | (simp only [← hji11] <;> (first | rfl | simp)) | (simp [*]; done)), H', ⟨by have := HK1.out; omega⟩, ⟨by repeat (first | (with_reducible first | exact HB.out | apply below_alloc | apply pw_below_drewN | apply below_drew1 | refine below_set ?_ GE130.out) | exact HB.out)⟩⟩
         ·rw [if_neg c14] at H
          have c14b0 : (((rd_T28 l0 (ji11)).f3) == ((rd_T28 l0 x9_1).f3)) = false := beq_eq_false_iff_ne.mpr c14
          have c14b1 : (((rd_T28 l0 (ji11)).f3) != ((rd_T28 l0 x9_1).f3)) = true := bne_iff_ne.mpr c14
          obtain ⟨ji19, hji19⟩ : ∃ j_ : Int, (mx x4_1 (wrap64 (x3_1 + t131))) = j_ := ⟨_, rfl⟩
          replace H : (census_Peak.l0 k1 l0 (wrap64 (x3_1 + t131)) ji19 l0 (l0.length : Int) ji11) = some r := by first | (rw [hji19] at H; exact H) | (simp only [hji19] at H ⊢; exact H)
          (try rw [hji19] at A5)
          have hji19_ : (if x4_1 < (wrap64 (x3_1 + t131)) then (wrap64 (x3_1 + t131)) else x4_1) = ji19 := hji19
          have H' := a_ H
          clear H
          have p129 : 0 ≤ (x9_1 : Int) := od_
          have q129 : x9_1 < (l0.length : Int) := od_
          obtain ⟨ad129, e129, hx129_0, hx129_1, hx129_2, hx129_3⟩ := at_T28 HR0.out x9_1 p129 q129
          cases e129
          replace hx129_0 := pc_ hx129_0
          replace hx129_1 := pc_ hx129_1
          replace hx129_2 := pc_ hx129_2
          replace hx129_3 := pc_ hx129_3
          replace p129 := eq_true p129
          replace q129 := eq_true q129
          go_wp2_with (first | ((with_reducible refine gate_dst (N := 6) rfl ?_); refine box_event ?hg (N := 6) ?hd (cs := #[.int .i64 0, .int .i64 0, .int .i64 0, .int .i64 0]) (t := 28) ?hr ?_; (case hd => rfl); (case hg => rfl); (case hr => first | (go_simp; done) | (go_simp; rfl)); intro gb130 hg w20 hbox hb; have n0_ := a_ (below_step bel_ hb); have n1_ := a_ (hbox); have n2_ := a_ (bz_ hg : w.heap.size ≤ gb130); have n3_ := a_ (bz_ hg : w.heap.size ≤ gb130); clear HB; have HB := n0_; have BK130 := n1_; have GW130 := n2_; have GE130 := n3_; clear n0_ n1_ n2_ n3_; clear hb hbox hg; have hcz21_0 := cz_ BK130 0; have hcz21_1 := cz_ BK130 1; have hcz21_2 := cz_ BK130 2; have hcz21_3 := cz_ BK130 3; have hfz21_0 := fz_ BK130 0; have hfz21_1 := fz_ BK130 1; have hfz21_2 := fz_ BK130 2; have hfz21_3 := fz_ BK130 3) | (go_at_call 30; (with_reducible refine (census_change.calls ((rd_T28 l0 x9_1).f0) ((rd_T28 l0 x9_1).f1) ((rd_T28 l0 x9_1).f2) ((rd_T28 l0 x9_1).f3) t131 _ A5.out).mono ?_); rintro e w22 ⟨rfl, hb⟩; have n0_ := a_ (blk_below (g := gb130) (o := .cells #[.int .i64 ((rd_T28 l0 x9_1).f0), .int .i64 ((rd_T28 l0 x9_1).f1), .int .i64 ((rd_T28 l0 x9_1).f2), .int .i64 ((rd_T28 l0 x9_1).f3)] 28 (0, 0)) (by refine blk_put (cs := #[.int .i64 ((rd_T28 l0 x9_1).f0), .int .i64 ((rd_T28 l0 x9_1).f1), .int .i64 ((rd_T28 l0 x9_1).f2), .int .i64 0]) ?_ 3 _ rfl; refine blk_put (cs := #[.int .i64 ((rd_T28 l0 x9_1).f0), .int .i64 ((rd_T28 l0 x9_1).f1), .int .i64 0, .int .i64 0]) ?_ 2 _ rfl; refine blk_put (cs := #[.int .i64 ((rd_T28 l0 x9_1).f0), .int .i64 0, .int .i64 0, .int .i64 0]) ?_ 1 _ rfl; refine blk_put (cs := #[.int .i64 0, .int .i64 0, .int .i64 0, .int .i64 0]) ?_ 0 _ rfl; exact BK130.out) hb); have n1_ := a_ (below_step bel_ hb); clear BK130; clear HB; have BK130 := n0_; have HB := n1_; clear n0_ n1_; (try clear hb); (try clear hb2); (try clear hk); (try clear hi); have p132 : 0 ≤ ((ji11) : Int) := od_; have q132 : (ji11) < (l0.length : Int) := od_; obtain ⟨ad132, e132, hx132_0, hx132_1, hx132_2, hx132_3⟩ := at_T28 HR0.out (ji11) p132 q132; obtain rfl : ad129 = ad132 := (by injection e132); replace hx132_0 := pc_ hx132_0; replace hx132_1 := pc_ hx132_1; replace hx132_2 := pc_ hx132_2; replace hx132_3 := pc_ hx132_3; replace p132 := eq_true p132; replace q132 := eq_true q132; have hcz23_0 := cz_ BK130 0; have hcz23_1 := cz_ BK130 1; have hcz23_2 := cz_ BK130 2; have hcz23_3 := cz_ BK130 3; have hfz23_0 := fz_ BK130 0; have hfz23_1 := fz_ BK130 1; have hfz23_2 := fz_ BK130 2; have hfz23_3 := fz_ BK130 3))
          repeat (go_quiet (fail); try go_wp2_with (first | ((with_reducible refine gate_dst (N := 6) rfl ?_); refine box_event ?hg (N := 6) ?hd (cs := #[.int .i64 0, .int .i64 0, .int .i64 0, .int .i64 0]) (t := 28) ?hr ?_; (case hd => rfl); (case hg => rfl); (case hr => first | (go_simp; done) | (go_simp; rfl)); intro gb130 hg w20 hbox hb; have n0_ := a_ (below_step bel_ hb); have n1_ := a_ (hbox); have n2_ := a_ (bz_ hg : w.heap.size ≤ gb130); have n3_ := a_ (bz_ hg : w.heap.size ≤ gb130); clear HB; have HB := n0_; have BK130 := n1_; have GW130 := n2_; have GE130 := n3_; clear n0_ n1_ n2_ n3_; clear hb hbox hg; have hcz21_0 := cz_ BK130 0; have hcz21_1 := cz_ BK130 1; have hcz21_2 := cz_ BK130 2; have hcz21_3 := cz_ BK130 3; have hfz21_0 := fz_ BK130 0; have hfz21_1 := fz_ BK130 1; have hfz21_2 := fz_ BK130 2; have hfz21_3 := fz_ BK130 3) | (go_at_call 30; (with_reducible refine (census_change.calls ((rd_T28 l0 x9_1).f0) ((rd_T28 l0 x9_1).f1) ((rd_T28 l0 x9_1).f2) ((rd_T28 l0 x9_1).f3) t131 _ A5.out).mono ?_); rintro e w22 ⟨rfl, hb⟩; have n0_ := a_ (blk_below (g := gb130) (o := .cells #[.int .i64 ((rd_T28 l0 x9_1).f0), .int .i64 ((rd_T28 l0 x9_1).f1), .int .i64 ((rd_T28 l0 x9_1).f2), .int .i64 ((rd_T28 l0 x9_1).f3)] 28 (0, 0)) (by refine blk_put (cs := #[.int .i64 ((rd_T28 l0 x9_1).f0), .int .i64 ((rd_T28 l0 x9_1).f1), .int .i64 ((rd_T28 l0 x9_1).f2), .int .i64 0]) ?_ 3 _ rfl; refine blk_put (cs := #[.int .i64 ((rd_T28 l0 x9_1).f0), .int .i64 ((rd_T28 l0 x9_1).f1), .int .i64 0, .int .i64 0]) ?_ 2 _ rfl; refine blk_put (cs := #[.int .i64 ((rd_T28 l0 x9_1).f0), .int .i64 0, .int .i64 0, .int .i64 0]) ?_ 1 _ rfl; refine blk_put (cs := #[.int .i64 0, .int .i64 0, .int .i64 0, .int .i64 0]) ?_ 0 _ rfl; exact BK130.out) hb); have n1_ := a_ (below_step bel_ hb); clear BK130; clear HB; have BK130 := n0_; have HB := n1_; clear n0_ n1_; (try clear hb); (try clear hb2); (try clear hk); (try clear hi); have p132 : 0 ≤ ((ji11) : Int) := od_; have q132 : (ji11) < (l0.length : Int) := od_; obtain ⟨ad132, e132, hx132_0, hx132_1, hx132_2, hx132_3⟩ := at_T28 HR0.out (ji11) p132 q132; obtain rfl : ad129 = ad132 := (by injection e132); replace hx132_0 := pc_ hx132_0; replace hx132_1 := pc_ hx132_1; replace hx132_2 := pc_ hx132_2; replace hx132_3 := pc_ hx132_3; replace p132 := eq_true p132; replace q132 := eq_true q132; have hcz23_0 := cz_ BK130 0; have hcz23_1 := cz_ BK130 1; have hcz23_2 := cz_ BK130 2; have hcz23_3 := cz_ BK130 3; have hfz23_0 := fz_ BK130 0; have hfz23_1 := fz_ BK130 1; have hfz23_2 := fz_ BK130 2; have hfz23_3 := fz_ BK130 3)))
          go_roundg k1
          case measure => have := HK1.out; omega
          case rel => exact ⟨(wrap64 (x3_1 + t131)), (ji19), (ji11), (by first | rfl | (simp; done) | (simp [*]; done)), (by first | rfl | (simp; done) | (simp only [← hji19] <;> (first | rfl | simp)) | (simp [*]; done)), (by first | rfl | (simp; done) | (simp only [← hji11] <;> (first | rfl | simp)) | (simp [*]; done)), H', ⟨by have := HK1.out; omega⟩, ⟨by repeat (first | (with_reducible first | exact HB.out | apply below_alloc | apply pw_below_drewN | apply below_drew1 | refine below_set ?_ GE130.out) | exact HB.out)⟩⟩
        ·rw [if_neg c13] at H
         exact absurd H (by simp)
       ·rw [if_neg c12] at H
        exact absurd H (by simp)
     ·rw [if_neg c4] at H
      exact absurd H (by simp)
    ·rw [if_neg c3] at H
     exact absurd H (by simp)
   ·rw [if_neg c2] at H
    have c2b0 : decide (x9_1 < (l0.length : Int)) = false := decide_eq_false c2
    clear c2
    obtain rfl := Option.some.inj H
    go_wp2
    repeat (go_quiet (fail); try go_wp2)
    go_ret
    exact ⟨by first | rfl | (simp [errW_none, errW_some] <;> rfl) | (simp [*, errW_none, errW_some] <;> rfl), by repeat (first | (with_reducible first | exact HB.out | apply below_alloc | apply pw_below_drewN | apply below_drew1) | exact HB.out)⟩

end Go.Proofs.Ytgfiidgigenibaa.Q
