-- written by wip/drive.py (this session's program) over the kit's print words
import Derived.Test.YtmhggplhfcmgkaaQ0
import Derived.Test.YtmhggplhfcmgkaaQ1
import Derived.Test.YtmhggplhfcmgkaaQ10
namespace Go.Proofs.Ytmhggplhfcmgkaa.Q
open Go.RowKit Go.Proofs.YtmhggplhfcmgkaaW.PrintWords Go.Proofs.YtmhggplhfcmgkaaW.PrintLast Go.Proofs.YtmhggplhfcmgkaaW.PrintMore
attribute [local go_sem] max2_int min2_int max_two min_two max_three min_three max_four min_four   -- for this text's walks alone
set_option linter.unusedVariables false
set_option linter.unusedSimpArgs false

attribute [local go_sem high] eqA35
/-! ### skiarearef19_Same: function 23 -/
mutual
def skiarearef19_Same.j0 : Nat → Bool → List Int → Int → List (S35) → List Int → Int → List (S35) → Option (Bool)
 | 0, _, _, _, _, _, _, _ => none
 | k + 1, x27, x129000, x129001, x129002, x130000, x130001, x130002 => if x27 = true then (some false) else (skiarearef19_Same.l0 k 0 x129000 x129001 x129002 x130000 x130001 x130002)
def skiarearef19_Same.l0 : Nat → Int → List Int → Int → List (S35) → List Int → Int → List (S35) → Option (Bool)
 | 0, _, _, _, _, _, _, _ => none
 | k + 1, x5, x129000, x129001, x129002, x130000, x130001, x130002 => if x5 < (x129002.length : Int) then (if 0 ≤ x5 then (if x5 < (x130002.length : Int) then (if (!(((rd_T35 x129002 x5).f0) == ((rd_T35 x130002 x5).f0)) || (!(((rd_T35 x129002 x5).f1) == ((rd_T35 x130002 x5).f1)) || (!(((rd_T35 x129002 x5).f2) == ((rd_T35 x130002 x5).f2))))) = true then (some false) else (skiarearef19_Same.l0 k (wrap64 (x5 + 1)) x129000 x129001 x129002 x130000 x130001 x130002)) else (none)) else (none)) else (some true)
end
def skiarearef19_Same.f (k : Nat) (l0_0 : List Int) (a0_1 : Int) (l0_2 : List (S35)) (l1_0 : List Int) (a1_1 : Int) (l1_2 : List (S35)) : Option (Bool) := if a0_1 = a1_1 then (if (l0_2.length : Int) = (l1_2.length : Int) then ((skiarearef19_SameInts.f k l0_0 l1_0).bind fun t130 => (skiarearef19_Same.j0 k (!t130) l0_0 a0_1 l0_2 l1_0 a1_1 l1_2)) else (skiarearef19_Same.j0 k true l0_0 a0_1 l0_2 l1_0 a1_1 l1_2)) else (skiarearef19_Same.j0 k true l0_0 a0_1 l0_2 l1_0 a1_1 l1_2)
theorem skiarearef19_Same.mono_l : ∀ k, (∀ y0 y1 y2 y3 y4 y5 y6, LeO (skiarearef19_Same.j0 k y0 y1 y2 y3 y4 y5 y6) (skiarearef19_Same.j0 (k + 1) y0 y1 y2 y3 y4 y5 y6)) ∧ (∀ y0 y1 y2 y3 y4 y5 y6, LeO (skiarearef19_Same.l0 k y0 y1 y2 y3 y4 y5 y6) (skiarearef19_Same.l0 (k + 1) y0 y1 y2 y3 y4 y5 y6))
 | 0 => ⟨fun _ _ _ _ _ _ _ r h => by simp [skiarearef19_Same.j0] at h, fun _ _ _ _ _ _ _ r h => by simp [skiarearef19_Same.l0] at h⟩
 | k + 1 => by
  obtain ⟨ih0, ih1⟩ := skiarearef19_Same.mono_l k
  refine ⟨?_, ?_⟩
  ·intro y0 y1 y2 y3 y4 y5 y6
   unfold skiarearef19_Same.j0
   repeat' first
   | (with_reducible exact ih0 _ _ _ _ _ _ _)
   | (with_reducible exact ih1 _ _ _ _ _ _ _)
   | (with_reducible exact skiarearef19_SameInts.mono _ _ _)
   | (with_reducible exact LeO.refl _)
   | (with_reducible exact LeO.none _)
   | (with_reducible refine LeO.ite ?_ ?_)
   | (with_reducible refine LeO.bind ?_ (fun _ => ?_))
   | exact ih0 _ _ _ _ _ _ _
   | exact ih1 _ _ _ _ _ _ _
   | exact skiarearef19_SameInts.mono _ _ _
   | exact LeO.none _
   | refine LeO.ite ?_ ?_
   | refine LeO.bind ?_ (fun _ => ?_)
  ·intro y0 y1 y2 y3 y4 y5 y6
   unfold skiarearef19_Same.l0
   repeat' first
   | (with_reducible exact ih0 _ _ _ _ _ _ _)
   | (with_reducible exact ih1 _ _ _ _ _ _ _)
   | (with_reducible exact skiarearef19_SameInts.mono _ _ _)
   | (with_reducible exact LeO.refl _)
   | (with_reducible exact LeO.none _)
   | (with_reducible refine LeO.ite ?_ ?_)
   | (with_reducible refine LeO.bind ?_ (fun _ => ?_))
   | exact ih0 _ _ _ _ _ _ _
   | exact ih1 _ _ _ _ _ _ _
   | exact skiarearef19_SameInts.mono _ _ _
   | exact LeO.none _
   | refine LeO.ite ?_ ?_
   | refine LeO.bind ?_ (fun _ => ?_)
theorem skiarearef19_Same.mono : ∀ a0 a1 a2 a3 a4 a5 k, LeO (skiarearef19_Same.f k a0 a1 a2 a3 a4 a5) (skiarearef19_Same.f (k + 1) a0 a1 a2 a3 a4 a5) := by
 intro a0 a1 a2 a3 a4 a5 k
 obtain ⟨ih0, ih1⟩ := skiarearef19_Same.mono_l k
 unfold skiarearef19_Same.f
 repeat' first
   | (with_reducible exact ih0 _ _ _ _ _ _ _)
   | (with_reducible exact ih1 _ _ _ _ _ _ _)
   | (with_reducible exact skiarearef19_SameInts.mono _ _ _)
   | (with_reducible exact LeO.refl _)
   | (with_reducible exact LeO.none _)
   | (with_reducible refine LeO.ite ?_ ?_)
   | (with_reducible refine LeO.bind ?_ (fun _ => ?_))
   | exact ih0 _ _ _ _ _ _ _
   | exact ih1 _ _ _ _ _ _ _
   | exact skiarearef19_SameInts.mono _ _ _
   | exact LeO.none _
   | refine LeO.ite ?_ ?_
   | refine LeO.bind ?_ (fun _ => ?_)
set_option maxHeartbeats 8000000 in
set_option maxRecDepth 100000 in
theorem skiarearef19_Same.calls (k : Nat) (A0_0 : Option Addr) (c0_0 : Nat) (l0_0 : List Int) (a0_1 : Int) (A0_2 : Option Addr) (c0_2 : Nat) (l0_2 : List (S35)) (A1_0 : Option Addr) (c1_0 : Nat) (l1_0 : List Int) (a1_1 : Int) (A1_2 : Option Addr) (c1_2 : Nat) (l1_2 : List (S35)) (r : Bool) (w : World) (hr0_0 : Kd.C (Kd.int .i64) w A0_0 l0_0.length l0_0) (hc0_0 : l0_0.length ≤ c0_0) (hr0_2 : Kd.C k35 w A0_2 l0_2.length l0_2) (hc0_2 : l0_2.length ≤ c0_2) (hr1_0 : Kd.C (Kd.int .i64) w A1_0 l1_0.length l1_0) (hc1_0 : l1_0.length ≤ c1_0) (hr1_2 : Kd.C k35 w A1_2 l1_2.length l1_2) (hc1_2 : l1_2.length ≤ c1_2) (h : skiarearef19_Same.f k l0_0 a0_1 l0_2 l1_0 a1_1 l1_2 = some r) :
  Calls Try.prog 23 #[.agg #[.slice A0_0 l0_0.length c0_0, .int .i64 a0_1, .slice A0_2 l0_2.length c0_2], .agg #[.slice A1_0 l1_0.length c1_0, .int .i64 a1_1, .slice A1_2 l1_2.length c1_2]] w fun e w' => e = .returned (.bool r) ∧ Below w.heap.size w w' := by
 have hu25 := Try.underlying25
 have hu35 := Try.underlying35
 have HR0_0 := a_ hr0_0
 have HC0_0 := a_ hc0_0
 clear hr0_0 hc0_0
 have HR0_2 := a_ hr0_2
 have HC0_2 := a_ hc0_2
 clear hr0_2 hc0_2
 have HR1_0 := a_ hr1_0
 have HC1_0 := a_ hc1_0
 clear hr1_0 hc1_0
 have HR1_2 := a_ hr1_2
 have HC1_2 := a_ hc1_2
 clear hr1_2 hc1_2
 have HB := a_ (Below.refl w.heap.size w)
 have H : (if a0_1 = a1_1 then (if (l0_2.length : Int) = (l1_2.length : Int) then ((skiarearef19_SameInts.f k l0_0 l1_0).bind fun t130 => (skiarearef19_Same.j0 k (!t130) l0_0 a0_1 l0_2 l1_0 a1_1 l1_2)) else (skiarearef19_Same.j0 k true l0_0 a0_1 l0_2 l1_0 a1_1 l1_2)) else (skiarearef19_Same.j0 k true l0_0 a0_1 l0_2 l1_0 a1_1 l1_2)) = some r := h
 clear h
 have HC3 := a_ H
 clear H
 go_enter Try.func23, Try.ntmps23
 go_upto_region 1 with (first | ((with_reducible refine gate_dst (N := 2) rfl ?_); (try (refine gate_guard (by rfl) ?_; dsimp only)); refine box_event ?hg (N := 2) ?hd (cs := #[.slice A0_0 l0_0.length c0_0, .int .i64 a0_1, .slice A0_2 l0_2.length c0_2]) (t := 25) ?hr ?_; (case hd => rfl); (case hg => rfl); (case hr => first | (go_simp; done) | (go_simp; rfl)); intro gb128 hg w4 hbox hb; have n0_ := a_ (below_step bel_ hb); have n1_ := a_ (hbox); have n2_ := a_ (bz_ hg : w.heap.size ≤ gb128); have n3_ := a_ (bz_ hg : w.heap.size ≤ gb128); clear HB; have HB := n0_; have BK128 := n1_; have GW128 := n2_; have GE128 := n3_; clear n0_ n1_ n2_ n3_; clear hb hbox hg) | ((with_reducible refine gate_dst (N := 3) rfl ?_); (try (refine gate_guard (by rfl) ?_; dsimp only)); refine box_event ?hg (N := 3) ?hd (cs := #[.slice A1_0 l1_0.length c1_0, .int .i64 a1_1, .slice A1_2 l1_2.length c1_2]) (t := 25) ?hr ?_; (case hd => rfl); (case hg => rfl); (case hr => first | (go_simp; done) | (go_simp; rfl)); intro gb129 hg w5 hbox hb; have n0_ := a_ (blk_below (bk_ BK128.out) hb); have n1_ := a_ (below_step bel_ hb); have n2_ := a_ (hbox); have n3_ := a_ (bz_ hg : w.heap.size ≤ gb129); have n4_ := a_ (bz_ hg : w.heap.size ≤ gb129); have n5_ := a_ (nl_ hg (bk_ BK128.out)); have n6_ := a_ (ng_ hg (bk_ BK128.out)); clear BK128; clear HB; have BK128 := n0_; have HB := n1_; have BK129 := n2_; have GW129 := n3_; have GE129 := n4_; have NB128_129 := n5_; have NB129_128 := n6_; clear n0_ n1_ n2_ n3_ n4_ n5_ n6_; clear hb hbox hg))
 repeat (go_quiet (first | ((with_reducible refine gate_dst (N := 2) rfl ?_); (try (refine gate_guard (by rfl) ?_; dsimp only)); refine box_event ?hg (N := 2) ?hd (cs := #[.slice A0_0 l0_0.length c0_0, .int .i64 a0_1, .slice A0_2 l0_2.length c0_2]) (t := 25) ?hr ?_; (case hd => rfl); (case hg => rfl); (case hr => first | (go_simp; done) | (go_simp; rfl)); intro gb128 hg w4 hbox hb; have n0_ := a_ (below_step bel_ hb); have n1_ := a_ (hbox); have n2_ := a_ (bz_ hg : w.heap.size ≤ gb128); have n3_ := a_ (bz_ hg : w.heap.size ≤ gb128); clear HB; have HB := n0_; have BK128 := n1_; have GW128 := n2_; have GE128 := n3_; clear n0_ n1_ n2_ n3_; clear hb hbox hg) | ((with_reducible refine gate_dst (N := 3) rfl ?_); (try (refine gate_guard (by rfl) ?_; dsimp only)); refine box_event ?hg (N := 3) ?hd (cs := #[.slice A1_0 l1_0.length c1_0, .int .i64 a1_1, .slice A1_2 l1_2.length c1_2]) (t := 25) ?hr ?_; (case hd => rfl); (case hg => rfl); (case hr => first | (go_simp; done) | (go_simp; rfl)); intro gb129 hg w5 hbox hb; have n0_ := a_ (blk_below (bk_ BK128.out) hb); have n1_ := a_ (below_step bel_ hb); have n2_ := a_ (hbox); have n3_ := a_ (bz_ hg : w.heap.size ≤ gb129); have n4_ := a_ (bz_ hg : w.heap.size ≤ gb129); have n5_ := a_ (nl_ hg (bk_ BK128.out)); have n6_ := a_ (ng_ hg (bk_ BK128.out)); clear BK128; clear HB; have BK128 := n0_; have HB := n1_; have BK129 := n2_; have GW129 := n3_; have GE129 := n4_; have NB128_129 := n5_; have NB129_128 := n6_; clear n0_ n1_ n2_ n3_ n4_ n5_ n6_; clear hb hbox hg)); go_upto_region 1 with (first | ((with_reducible refine gate_dst (N := 2) rfl ?_); (try (refine gate_guard (by rfl) ?_; dsimp only)); refine box_event ?hg (N := 2) ?hd (cs := #[.slice A0_0 l0_0.length c0_0, .int .i64 a0_1, .slice A0_2 l0_2.length c0_2]) (t := 25) ?hr ?_; (case hd => rfl); (case hg => rfl); (case hr => first | (go_simp; done) | (go_simp; rfl)); intro gb128 hg w4 hbox hb; have n0_ := a_ (below_step bel_ hb); have n1_ := a_ (hbox); have n2_ := a_ (bz_ hg : w.heap.size ≤ gb128); have n3_ := a_ (bz_ hg : w.heap.size ≤ gb128); clear HB; have HB := n0_; have BK128 := n1_; have GW128 := n2_; have GE128 := n3_; clear n0_ n1_ n2_ n3_; clear hb hbox hg) | ((with_reducible refine gate_dst (N := 3) rfl ?_); (try (refine gate_guard (by rfl) ?_; dsimp only)); refine box_event ?hg (N := 3) ?hd (cs := #[.slice A1_0 l1_0.length c1_0, .int .i64 a1_1, .slice A1_2 l1_2.length c1_2]) (t := 25) ?hr ?_; (case hd => rfl); (case hg => rfl); (case hr => first | (go_simp; done) | (go_simp; rfl)); intro gb129 hg w5 hbox hb; have n0_ := a_ (blk_below (bk_ BK128.out) hb); have n1_ := a_ (below_step bel_ hb); have n2_ := a_ (hbox); have n3_ := a_ (bz_ hg : w.heap.size ≤ gb129); have n4_ := a_ (bz_ hg : w.heap.size ≤ gb129); have n5_ := a_ (nl_ hg (bk_ BK128.out)); have n6_ := a_ (ng_ hg (bk_ BK128.out)); clear BK128; clear HB; have BK128 := n0_; have HB := n1_; have BK129 := n2_; have GW129 := n3_; have GE129 := n4_; have NB128_129 := n5_; have NB129_128 := n6_; clear n0_ n1_ n2_ n3_ n4_ n5_ n6_; clear hb hbox hg)))
 (try simp only [Act.put, List.setIfInBounds_toArray, List.set_cons_zero, List.set_cons_succ])
 go_cut [27] (fun v27 wc => ∃ (kq : Nat) (x27_2 : Bool), v27 = .bool x27_2 ∧ Aside0 (skiarearef19_Same.j0 kq x27_2 l0_0 a0_1 l0_2 l1_0 a1_1 l1_2 = some r) ∧ Aside0 (kq ≤ k) ∧ Aside0 (wc.heap[gb128]? = some (.cells #[(.slice A0_0 l0_0.length c0_0), .int .i64 a0_1, (.slice A0_2 l0_2.length c0_2)] 25 (0, 0))) ∧ Aside0 (wc.heap[gb129]? = some (.cells #[(.slice A1_0 l1_0.length c1_0), .int .i64 a1_1, (.slice A1_2 l1_2.length c1_2)] 25 (0, 0))) ∧ Aside0 (Below w.heap.size w wc))
 case first =>
  have H := HC3.out
  clear HC3
  by_cases c6 : a0_1 = a1_1
  ·rw [if_pos c6] at H
   have c6b0 : (a0_1 == a1_1) = true := beq_iff_eq.mpr c6
   have c6b1 : (a0_1 != a1_1) = false := bne_eq_false_iff_eq.mpr c6
   clear c6
   (first | rw [c6b0] | (simp only [i64_w, i32_w]; rw [c6b0]) | skip)
   by_cases c7 : (l0_2.length : Int) = (l1_2.length : Int)
   ·rw [if_pos c7] at H
    have c7b0 : ((l0_2.length : Int) == (l1_2.length : Int)) = true := beq_iff_eq.mpr c7
    have c7b1 : ((l0_2.length : Int) != (l1_2.length : Int)) = false := bne_eq_false_iff_eq.mpr c7
    have c7b2 : (l0_2.length == l1_2.length) = true := by first | simpa using c7 | (simp at c7 ⊢; omega)
    clear c7
    replace H := Option.bind_eq_some_iff.mp H
    obtain ⟨t130, A80, H⟩ := H
    replace H : (skiarearef19_Same.j0 k (!t130) l0_0 a0_1 l0_2 l1_0 a1_1 l1_2) = some r := H
    have A8 := a_ A80
    clear A80
    have H' := a_ H
    clear H
    have hnb9 := NB128_129.out
    have hnc9 := NB129_128.out
    have hcz10_0 := cz_ BK128 0
    have hcz10_1 := cz_ BK128 1
    have hcz10_2 := cz_ BK128 2
    have hfz10_0 := fz_ BK128 0
    have hfz10_1 := fz_ BK128 1
    have hfz10_2 := fz_ BK128 2
    have hcz11_0 := cz_ BK129 0
    have hcz11_1 := cz_ BK129 1
    have hcz11_2 := cz_ BK129 2
    have hfz11_0 := fz_ BK129 0
    have hfz11_1 := fz_ BK129 1
    have hfz11_2 := fz_ BK129 2
    go_wp2_with (first | (go_at_call 26; (with_reducible refine (skiarearef19_SameInts.calls k _ _ l0_0 _ _ l1_0 t130 _ ?side1 ?side2 ?side3 ?side4 A8.out).mono ?_); (case side1 => exact kC_ (Kd.C_below HR0_0.out HB.out)); (case side2 => exact HC0_0.out); (case side3 => exact kC_ (Kd.C_below HR1_0.out HB.out)); (case side4 => exact HC1_0.out); rintro e w' ⟨rfl, ⟨nd, rfl⟩⟩; (try first | exact ⟨rfl, _, World.drewN_drewN _ _ _⟩ | exact ⟨rfl, _, Eq.trans (World.drewN_drewN _ _ _) (congrArg (World.drewN _) (Nat.add_assoc _ _ _))⟩)))
    repeat (go_quiet (fail); try go_wp2_with (first | (go_at_call 26; (with_reducible refine (skiarearef19_SameInts.calls k _ _ l0_0 _ _ l1_0 t130 _ ?side1 ?side2 ?side3 ?side4 A8.out).mono ?_); (case side1 => exact kC_ (Kd.C_below HR0_0.out HB.out)); (case side2 => exact HC0_0.out); (case side3 => exact kC_ (Kd.C_below HR1_0.out HB.out)); (case side4 => exact HC1_0.out); rintro e w' ⟨rfl, ⟨nd, rfl⟩⟩; (try first | exact ⟨rfl, _, World.drewN_drewN _ _ _⟩ | exact ⟨rfl, _, Eq.trans (World.drewN_drewN _ _ _) (congrArg (World.drewN _) (Nat.add_assoc _ _ _))⟩))))
    go_meet
    case rel => exact ⟨_, (!t130), (by first | rfl | (simp; done) | (simp [*]; done)), H', ⟨by first | omega | exact Nat.le_refl _⟩, ⟨by exact BK128.out⟩, ⟨by exact BK129.out⟩, ⟨by repeat (first | (with_reducible first | exact HB.out | apply below_alloc | apply pw_below_drewN | apply below_drew1 | refine below_set ?_ GE128.out | refine below_set ?_ GE129.out) | exact HB.out)⟩⟩
   ·rw [if_neg c7] at H
    have c7b0 : ((l0_2.length : Int) == (l1_2.length : Int)) = false := beq_eq_false_iff_ne.mpr c7
    have c7b1 : ((l0_2.length : Int) != (l1_2.length : Int)) = true := bne_iff_ne.mpr c7
    have c7b2 : (l0_2.length == l1_2.length) = false := by first | simpa using c7 | (simp at c7 ⊢; omega)
    have H' := a_ H
    clear H
    have hnb12 := NB128_129.out
    have hnc12 := NB129_128.out
    have hcz13_0 := cz_ BK128 0
    have hcz13_1 := cz_ BK128 1
    have hcz13_2 := cz_ BK128 2
    have hfz13_0 := fz_ BK128 0
    have hfz13_1 := fz_ BK128 1
    have hfz13_2 := fz_ BK128 2
    have hcz14_0 := cz_ BK129 0
    have hcz14_1 := cz_ BK129 1
    have hcz14_2 := cz_ BK129 2
    have hfz14_0 := fz_ BK129 0
    have hfz14_1 := fz_ BK129 1
    have hfz14_2 := fz_ BK129 2
    go_wp2
    repeat (go_quiet (fail); try go_wp2)
    go_meet
    case rel => exact ⟨_, (true), (by first | rfl | (simp; done) | (simp [*]; done)), H', ⟨by first | omega | exact Nat.le_refl _⟩, ⟨by exact BK128.out⟩, ⟨by exact BK129.out⟩, ⟨by repeat (first | (with_reducible first | exact HB.out | apply below_alloc | apply pw_below_drewN | apply below_drew1 | refine below_set ?_ GE128.out | refine below_set ?_ GE129.out) | exact HB.out)⟩⟩
  ·rw [if_neg c6] at H
   have c6b0 : (a0_1 == a1_1) = false := beq_eq_false_iff_ne.mpr c6
   have c6b1 : (a0_1 != a1_1) = true := bne_iff_ne.mpr c6
   (first | rw [c6b0] | (simp only [i64_w, i32_w]; rw [c6b0]) | skip)
   have H' := a_ H
   clear H
   have hnb15 := NB128_129.out
   have hnc15 := NB129_128.out
   have hcz16_0 := cz_ BK128 0
   have hcz16_1 := cz_ BK128 1
   have hcz16_2 := cz_ BK128 2
   have hfz16_0 := fz_ BK128 0
   have hfz16_1 := fz_ BK128 1
   have hfz16_2 := fz_ BK128 2
   have hcz17_0 := cz_ BK129 0
   have hcz17_1 := cz_ BK129 1
   have hcz17_2 := cz_ BK129 2
   have hfz17_0 := fz_ BK129 0
   have hfz17_1 := fz_ BK129 1
   have hfz17_2 := fz_ BK129 2
   go_wp2
   repeat (go_quiet (fail); try go_wp2)
   go_meet
   case rel => exact ⟨_, (true), (by first | rfl | (simp; done) | (simp [*]; done)), H', ⟨by first | omega | exact Nat.le_refl _⟩, ⟨by exact BK128.out⟩, ⟨by exact BK129.out⟩, ⟨by repeat (first | (with_reducible first | exact HB.out | apply below_alloc | apply pw_below_drewN | apply below_drew1 | refine below_set ?_ GE128.out | refine below_set ?_ GE129.out) | exact HB.out)⟩⟩
 case rest =>
  clear HC3
  try clear c1
  try clear c2
  try clear p2
  try clear c6
  try clear c6b0
  try clear c6b1
  try clear c7
  try clear c7b0
  try clear c7b1
  try clear c7b2
  try clear c9
  try clear c12
  try clear c15
  try clear hcz10_0
  try clear hcz10_1
  try clear hcz10_2
  try clear hcz11_0
  try clear hcz11_1
  try clear hcz11_2
  try clear hcz13_0
  try clear hcz13_1
  try clear hcz13_2
  try clear hcz14_0
  try clear hcz14_1
  try clear hcz14_2
  try clear hcz16_0
  try clear hcz16_1
  try clear hcz16_2
  try clear hcz17_0
  try clear hcz17_1
  try clear hcz17_2
  try clear hfz10_0
  try clear hfz10_1
  try clear hfz10_2
  try clear hfz11_0
  try clear hfz11_1
  try clear hfz11_2
  try clear hfz13_0
  try clear hfz13_1
  try clear hfz13_2
  try clear hfz14_0
  try clear hfz14_1
  try clear hfz14_2
  try clear hfz16_0
  try clear hfz16_1
  try clear hfz16_2
  try clear hfz17_0
  try clear hfz17_1
  try clear hfz17_2
  obtain ⟨kq, x27_2, rfl, HA, HJ2, BK128, BK129, HB⟩ := hcut
  cases kq with
  | zero => exact absurd HA.out (by simp [skiarearef19_Same.j0])
  | succ kj2 =>
   have H := HA.out
   clear HA
   simp only [skiarearef19_Same.j0] at H
   by_cases c18 : x27_2 = true
   ·subst c18
    have H1 : (some false) = some r := by rw [if_pos rfl] at H; exact H
    clear H
    have H := H1
    clear H1
    obtain rfl := Option.some.inj H
    go_wp2
    repeat (go_quiet (fail); try go_wp2)
    go_ret
    exact ⟨by first | rfl | (simp [errW_none, errW_some] <;> rfl) | (simp [*, errW_none, errW_some] <;> rfl), by repeat (first | (with_reducible first | exact HB.out | apply below_alloc | apply pw_below_drewN | apply below_drew1 | refine below_set ?_ GE128.out | refine below_set ?_ GE129.out) | exact HB.out)⟩
   ·replace c18 := Bool.eq_false_iff.mpr c18
    subst c18
    have H1 : (skiarearef19_Same.l0 kj2 0 l0_0 a0_1 l0_2 l1_0 a1_1 l1_2) = some r := by rw [if_neg (show ¬ (false = true) by decide)] at H; exact H
    clear H
    have H := H1
    clear H1
    have H' := a_ H
    clear H
    go_wp2
    repeat (go_quiet (fail); try go_wp2)
    go_loopg [5] kj2 (fun kq v5 w' => ∃ (x5_2 : Int), v5 = .int .i64 x5_2 ∧ Aside0 (skiarearef19_Same.l0 kq x5_2 l0_0 a0_1 l0_2 l1_0 a1_1 l1_2 = some r) ∧ Aside0 (kq ≤ kj2) ∧ Aside0 (w'.heap[gb128]? = some (.cells #[(.slice A0_0 l0_0.length c0_0), .int .i64 a0_1, (.slice A0_2 l0_2.length c0_2)] 25 (0, 0))) ∧ Aside0 (w'.heap[gb129]? = some (.cells #[(.slice A1_0 l1_0.length c1_0), .int .i64 a1_1, (.slice A1_2 l1_2.length c1_2)] 25 (0, 0))) ∧ Aside0 (Below w.heap.size w w'))
    case atStart => exact ⟨(0), (by first | rfl | (simp; done) | (simp [*]; done)), H', ⟨Nat.le_refl _⟩, ⟨by exact BK128.out⟩, ⟨by exact BK129.out⟩, ⟨by repeat (first | (with_reducible first | exact HB.out | apply below_alloc | apply pw_below_drewN | apply below_drew1 | refine below_set ?_ GE128.out | refine below_set ?_ GE129.out) | exact HB.out)⟩⟩
    case round =>
     clear H'
     try clear c1
     try clear c2
     try clear p2
     try clear c6
     try clear c6b0
     try clear c6b1
     try clear c7
     try clear c7b0
     try clear c7b1
     try clear c7b2
     try clear c9
     try clear c12
     try clear c15
     try clear c18
     try clear hcz10_0
     try clear hcz10_1
     try clear hcz10_2
     try clear hcz11_0
     try clear hcz11_1
     try clear hcz11_2
     try clear hcz13_0
     try clear hcz13_1
     try clear hcz13_2
     try clear hcz14_0
     try clear hcz14_1
     try clear hcz14_2
     try clear hcz16_0
     try clear hcz16_1
     try clear hcz16_2
     try clear hcz17_0
     try clear hcz17_1
     try clear hcz17_2
     try clear hfz10_0
     try clear hfz10_1
     try clear hfz10_2
     try clear hfz11_0
     try clear hfz11_1
     try clear hfz11_2
     try clear hfz13_0
     try clear hfz13_1
     try clear hfz13_2
     try clear hfz14_0
     try clear hfz14_1
     try clear hfz14_2
     try clear hfz16_0
     try clear hfz16_1
     try clear hfz16_2
     try clear hfz17_0
     try clear hfz17_1
     try clear hfz17_2
     try clear p2
     obtain ⟨x5_2, rfl, HA, HK2, BK128, BK129, HB⟩ := hrel
     cases gk with
     | zero => exact absurd HA.out (by simp [skiarearef19_Same.l0])
     | succ k2 =>
      have H := HA.out
      clear HA
      simp only [skiarearef19_Same.l0] at H
      by_cases c19 : x5_2 < (l0_2.length : Int)
      ·rw [if_pos c19] at H
       have c19b0 : decide (x5_2 < (l0_2.length : Int)) = true := decide_eq_true c19
       clear c19
       by_cases c20 : 0 ≤ x5_2
       ·rw [if_pos c20] at H
        have c20b0 : decide (0 ≤ x5_2) = true := decide_eq_true c20
        clear c20
        by_cases c21 : x5_2 < (l1_2.length : Int)
        ·rw [if_pos c21] at H
         have c21b0 : decide (x5_2 < (l1_2.length : Int)) = true := decide_eq_true c21
         clear c21
         by_cases c22 : (!(((rd_T35 l0_2 x5_2).f0) == ((rd_T35 l1_2 x5_2).f0)) || (!(((rd_T35 l0_2 x5_2).f1) == ((rd_T35 l1_2 x5_2).f1)) || (!(((rd_T35 l0_2 x5_2).f2) == ((rd_T35 l1_2 x5_2).f2))))) = true
         ·rw [if_pos c22] at H
          have c22b0 : (!(((rd_T35 l0_2 x5_2).f0) == ((rd_T35 l1_2 x5_2).f0)) || (!(((rd_T35 l0_2 x5_2).f1) == ((rd_T35 l1_2 x5_2).f1)) || (!(((rd_T35 l0_2 x5_2).f2) == ((rd_T35 l1_2 x5_2).f2))))) = true := c22
          clear c22
          obtain rfl := Option.some.inj H
          have hnb23 := NB128_129.out
          have hnc23 := NB129_128.out
          have hcz24_0 := cz_ BK128 0
          have hcz24_1 := cz_ BK128 1
          have hcz24_2 := cz_ BK128 2
          have hfz24_0 := fz_ BK128 0
          have hfz24_1 := fz_ BK128 1
          have hfz24_2 := fz_ BK128 2
          have p131 : 0 ≤ (x5_2 : Int) := od_
          have q131 : x5_2 < (l0_2.length : Int) := od_
          obtain ⟨ad131, e131, hx131_0, hx131_1, hx131_2⟩ := at_T35 HR0_2.out x5_2 p131 q131
          cases e131
          replace hx131_0 := pc_ hx131_0
          replace hx131_1 := pc_ hx131_1
          replace hx131_2 := pc_ hx131_2
          replace p131 := eq_true p131
          replace q131 := eq_true q131
          have hcz25_0 := cz_ BK129 0
          have hcz25_1 := cz_ BK129 1
          have hcz25_2 := cz_ BK129 2
          have hfz25_0 := fz_ BK129 0
          have hfz25_1 := fz_ BK129 1
          have hfz25_2 := fz_ BK129 2
          have p132 : 0 ≤ (x5_2 : Int) := od_
          have q132 : x5_2 < (l1_2.length : Int) := od_
          obtain ⟨ad132, e132, hx132_0, hx132_1, hx132_2⟩ := at_T35 HR1_2.out x5_2 p132 q132
          cases e132
          replace hx132_0 := pc_ hx132_0
          replace hx132_1 := pc_ hx132_1
          replace hx132_2 := pc_ hx132_2
          replace p132 := eq_true p132
          replace q132 := eq_true q132
          go_wp2
          repeat (go_quiet (fail); try go_wp2)
          go_ret
          exact ⟨by first | rfl | (simp [errW_none, errW_some] <;> rfl) | (simp [*, errW_none, errW_some] <;> rfl), by repeat (first | (with_reducible first | exact HB.out | apply below_alloc | apply pw_below_drewN | apply below_drew1 | refine below_set ?_ GE128.out | refine below_set ?_ GE129.out) | exact HB.out)⟩
         ·rw [if_neg c22] at H
          have c22b0 : (!(((rd_T35 l0_2 x5_2).f0) == ((rd_T35 l1_2 x5_2).f0)) || (!(((rd_T35 l0_2 x5_2).f1) == ((rd_T35 l1_2 x5_2).f1)) || (!(((rd_T35 l0_2 x5_2).f2) == ((rd_T35 l1_2 x5_2).f2))))) = false := by simpa using c22
          clear c22
          have H' := a_ H
          clear H
          have hnb26 := NB128_129.out
          have hnc26 := NB129_128.out
          have hcz27_0 := cz_ BK128 0
          have hcz27_1 := cz_ BK128 1
          have hcz27_2 := cz_ BK128 2
          have hfz27_0 := fz_ BK128 0
          have hfz27_1 := fz_ BK128 1
          have hfz27_2 := fz_ BK128 2
          have p131 : 0 ≤ (x5_2 : Int) := od_
          have q131 : x5_2 < (l0_2.length : Int) := od_
          obtain ⟨ad131, e131, hx131_0, hx131_1, hx131_2⟩ := at_T35 HR0_2.out x5_2 p131 q131
          cases e131
          replace hx131_0 := pc_ hx131_0
          replace hx131_1 := pc_ hx131_1
          replace hx131_2 := pc_ hx131_2
          replace p131 := eq_true p131
          replace q131 := eq_true q131
          have hcz28_0 := cz_ BK129 0
          have hcz28_1 := cz_ BK129 1
          have hcz28_2 := cz_ BK129 2
          have hfz28_0 := fz_ BK129 0
          have hfz28_1 := fz_ BK129 1
          have hfz28_2 := fz_ BK129 2
          have p132 : 0 ≤ (x5_2 : Int) := od_
          have q132 : x5_2 < (l1_2.length : Int) := od_
          obtain ⟨ad132, e132, hx132_0, hx132_1, hx132_2⟩ := at_T35 HR1_2.out x5_2 p132 q132
          cases e132
          replace hx132_0 := pc_ hx132_0
          replace hx132_1 := pc_ hx132_1
          replace hx132_2 := pc_ hx132_2
          replace p132 := eq_true p132
          replace q132 := eq_true q132
          go_wp2
          repeat (go_quiet (fail); try go_wp2)
          go_roundg k2
          case measure => have := HJ2.out; have := HK2.out; omega
          case rel => exact ⟨(wrap64 (x5_2 + 1)), (by first | rfl | (simp; done) | (simp [*]; done)), H', ⟨by have := HJ2.out; have := HK2.out; omega⟩, ⟨by exact BK128.out⟩, ⟨by exact BK129.out⟩, ⟨by repeat (first | (with_reducible first | exact HB.out | apply below_alloc | apply pw_below_drewN | apply below_drew1 | refine below_set ?_ GE128.out | refine below_set ?_ GE129.out) | exact HB.out)⟩⟩
        ·rw [if_neg c21] at H
         exact absurd H (by simp)
       ·rw [if_neg c20] at H
        exact absurd H (by simp)
      ·rw [if_neg c19] at H
       have c19b0 : decide (x5_2 < (l0_2.length : Int)) = false := decide_eq_false c19
       clear c19
       obtain rfl := Option.some.inj H
       have hnb29 := NB128_129.out
       have hnc29 := NB129_128.out
       have hcz30_0 := cz_ BK128 0
       have hcz30_1 := cz_ BK128 1
       have hcz30_2 := cz_ BK128 2
       have hfz30_0 := fz_ BK128 0
       have hfz30_1 := fz_ BK128 1
       have hfz30_2 := fz_ BK128 2
       go_wp2
       repeat (go_quiet (fail); try go_wp2)
       go_ret
       exact ⟨by first | rfl | (simp [errW_none, errW_some] <;> rfl) | (simp [*, errW_none, errW_some] <;> rfl), by repeat (first | (with_reducible first | exact HB.out | apply below_alloc | apply pw_below_drewN | apply below_drew1 | refine below_set ?_ GE128.out | refine below_set ?_ GE129.out) | exact HB.out)⟩

end Go.Proofs.Ytmhggplhfcmgkaa.Q
