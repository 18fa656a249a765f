/- Walks and plain laws that this claim bears (this session's). -/
import Derived.Test.YtmhggplhfcmgkaaM4
import Derived.Test.YtmhggplhfcmgkaaM3
import Derived.Test.YtmhggplhfcmgkaaM5
namespace Go.Proofs.Ytmhggplhfcmgkaa.Q
open Go.RowKit Go.Proofs.YtmhggplhfcmgkaaW.PrintWords Go.Proofs.YtmhggplhfcmgkaaW.PrintLast Go.Proofs.YtmhggplhfcmgkaaW.PrintMore
attribute [local go_sem] max2_int min2_int max_two min_two max_three min_three max_four min_four   -- for this text's walks alone
set_option linter.unusedVariables false
set_option linter.unusedSimpArgs false
attribute [local go_sem high] eqA35
mutual
def skiarearef19_Same.j0 : Nat → Bool → List Int → Int → List (S35) → List Int → Int → List (S35) → Option (Bool)
 | 0, _, _, _, _, _, _, _ => none
 | k + 1, x27, x129000, x129001, x129002, x130000, x130001, x130002 => if x27 = true then (some false) else (skiarearef19_Same.l0 k 0 x129000 x129001 x129002 x130000 x130001 x130002)
def skiarearef19_Same.l0 : Nat → Int → List Int → Int → List (S35) → List Int → Int → List (S35) → Option (Bool)
 | 0, _, _, _, _, _, _, _ => none
 | k + 1, x5, x129000, x129001, x129002, x130000, x130001, x130002 => if x5 < (x129002.length : Int) then (if 0 ≤ x5 then (if x5 < (x130002.length : Int) then (if (!(((rd_T35 x129002 x5).f0) == ((rd_T35 x130002 x5).f0)) || (!(((rd_T35 x129002 x5).f1) == ((rd_T35 x130002 x5).f1)) || (!(((rd_T35 x129002 x5).f2) == ((rd_T35 x130002 x5).f2))))) = true then (some false) else (skiarearef19_Same.l0 k (wrap64 (x5 + 1)) x129000 x129001 x129002 x130000 x130001 x130002)) else (none)) else (none)) else (some true)
end
def skiarearef19_Same.f (k : Nat) (l0_0 : List Int) (a0_1 : Int) (l0_2 : List (S35)) (l1_0 : List Int) (a1_1 : Int) (l1_2 : List (S35)) : Option (Bool) := if a0_1 = a1_1 then (if (l0_2.length : Int) = (l1_2.length : Int) then ((skiarearef19_SameInts.f k l0_0 l1_0).bind fun t130 => (skiarearef19_Same.j0 k (!t130) l0_0 a0_1 l0_2 l1_0 a1_1 l1_2)) else (skiarearef19_Same.j0 k true l0_0 a0_1 l0_2 l1_0 a1_1 l1_2)) else (skiarearef19_Same.j0 k true l0_0 a0_1 l0_2 l1_0 a1_1 l1_2)
theorem skiarearef19_Same.mono_l : ∀ k, (∀ y0 y1 y2 y3 y4 y5 y6, LeO (skiarearef19_Same.j0 k y0 y1 y2 y3 y4 y5 y6) (skiarearef19_Same.j0 (k + 1) y0 y1 y2 y3 y4 y5 y6)) ∧ (∀ y0 y1 y2 y3 y4 y5 y6, LeO (skiarearef19_Same.l0 k y0 y1 y2 y3 y4 y5 y6) (skiarearef19_Same.l0 (k + 1) y0 y1 y2 y3 y4 y5 y6))
 | 0 => ⟨fun _ _ _ _ _ _ _ r h => by simp [skiarearef19_Same.j0] at h, fun _ _ _ _ _ _ _ r h => by simp [skiarearef19_Same.l0] at h⟩
 | k + 1 => by
  obtain ⟨ih0, ih1⟩ := skiarearef19_Same.mono_l k
  refine ⟨?_, ?_⟩
  ·intro y0 y1 y2 y3 y4 y5 y6
   unfold skiarearef19_Same.j0
   repeat' first
   | (with_reducible exact ih0 _ _ _ _ _ _ _)
   | (with_reducible exact ih1 _ _ _ _ _ _ _)
   | (with_reducible exact skiarearef19_SameInts.mono _ _ _)
   | (with_reducible exact LeO.refl _)
   | (with_reducible exact LeO.none _)
   | (with_reducible refine LeO.ite ?_ ?_)
   | (with_reducible refine LeO.bind ?_ (fun _ => ?_))
   | exact ih0 _ _ _ _ _ _ _
   | exact ih1 _ _ _ _ _ _ _
   | exact skiarearef19_SameInts.mono _ _ _
   | exact LeO.none _
   | refine LeO.ite ?_ ?_
   | refine LeO.bind ?_ (fun _ => ?_)
  ·intro y0 y1 y2 y3 y4 y5 y6
   unfold skiarearef19_Same.l0
   repeat' first
   | (with_reducible exact ih0 _ _ _ _ _ _ _)
   | (with_reducible exact ih1 _ _ _ _ _ _ _)
   | (with_reducible exact skiarearef19_SameInts.mono _ _ _)
   | (with_reducible exact LeO.refl _)
   | (with_reducible exact LeO.none _)
   | (with_reducible refine LeO.ite ?_ ?_)
   | (with_reducible refine LeO.bind ?_ (fun _ => ?_))
   | exact ih0 _ _ _ _ _ _ _
   | exact ih1 _ _ _ _ _ _ _
   | exact skiarearef19_SameInts.mono _ _ _
   | exact LeO.none _
   | refine LeO.ite ?_ ?_
   | refine LeO.bind ?_ (fun _ => ?_)
theorem skiarearef19_Same.mono : ∀ a0 a1 a2 a3 a4 a5 k, LeO (skiarearef19_Same.f k a0 a1 a2 a3 a4 a5) (skiarearef19_Same.f (k + 1) a0 a1 a2 a3 a4 a5) := by
 intro a0 a1 a2 a3 a4 a5 k
 obtain ⟨ih0, ih1⟩ := skiarearef19_Same.mono_l k
 unfold skiarearef19_Same.f
 repeat' first
   | (with_reducible exact ih0 _ _ _ _ _ _ _)
   | (with_reducible exact ih1 _ _ _ _ _ _ _)
   | (with_reducible exact skiarearef19_SameInts.mono _ _ _)
   | (with_reducible exact LeO.refl _)
   | (with_reducible exact LeO.none _)
   | (with_reducible refine LeO.ite ?_ ?_)
   | (with_reducible refine LeO.bind ?_ (fun _ => ?_))
   | exact ih0 _ _ _ _ _ _ _
   | exact ih1 _ _ _ _ _ _ _
   | exact skiarearef19_SameInts.mono _ _ _
   | exact LeO.none _
   | refine LeO.ite ?_ ?_
   | refine LeO.bind ?_ (fun _ => ?_)
set_option maxHeartbeats 8000000 in
set_option maxRecDepth 100000 in
theorem skiarearef19_Same.calls (k : Nat) (A0_0 : Option Addr) (c0_0 : Nat) (l0_0 : List Int) (a0_1 : Int) (A0_2 : Option Addr) (c0_2 : Nat) (l0_2 : List (S35)) (A1_0 : Option Addr) (c1_0 : Nat) (l1_0 : List Int) (a1_1 : Int) (A1_2 : Option Addr) (c1_2 : Nat) (l1_2 : List (S35)) (r : Bool) (w : World) (hr0_0 : Kd.C (Kd.int .i64) w A0_0 l0_0.length l0_0) (hc0_0 : l0_0.length ≤ c0_0) (hr0_2 : Kd.C k35 w A0_2 l0_2.length l0_2) (hc0_2 : l0_2.length ≤ c0_2) (hr1_0 : Kd.C (Kd.int .i64) w A1_0 l1_0.length l1_0) (hc1_0 : l1_0.length ≤ c1_0) (hr1_2 : Kd.C k35 w A1_2 l1_2.length l1_2) (hc1_2 : l1_2.length ≤ c1_2) (h : skiarearef19_Same.f k l0_0 a0_1 l0_2 l1_0 a1_1 l1_2 = some r) :
  Calls Try.prog 23 #[.agg #[.slice A0_0 l0_0.length c0_0, .int .i64 a0_1, .slice A0_2 l0_2.length c0_2], .agg #[.slice A1_0 l1_0.length c1_0, .int .i64 a1_1, .slice A1_2 l1_2.length c1_2]] w fun e w' => e = .returned (.bool r) ∧ Below w.heap.size w w' := by
 have hu25 := Try.underlying25
 have hu35 := Try.underlying35
 have HR0_0 := a_ hr0_0
 have HC0_0 := a_ hc0_0
 clear hr0_0 hc0_0
 have HR0_2 := a_ hr0_2
 have HC0_2 := a_ hc0_2
 clear hr0_2 hc0_2
 have HR1_0 := a_ hr1_0
 have HC1_0 := a_ hc1_0
 clear hr1_0 hc1_0
 have HR1_2 := a_ hr1_2
 have HC1_2 := a_ hc1_2
 clear hr1_2 hc1_2
 have HB := a_ (Below.refl w.heap.size w)
 have H : (if a0_1 = a1_1 then (if (l0_2.length : Int) = (l1_2.length : Int) then ((skiarearef19_SameInts.f k l0_0 l1_0).bind fun t130 => (skiarearef19_Same.j0 k (!t130) l0_0 a0_1 l0_2 l1_0 a1_1 l1_2)) else (skiarearef19_Same.j0 k true l0_0 a0_1 l0_2 l1_0 a1_1 l1_2)) else (skiarearef19_Same.j0 k true l0_0 a0_1 l0_2 l1_0 a1_1 l1_2)) = some r := h
 clear h
 have HC3 := a_ H
 clear H
 go_enter Try.func23, Try.ntmps23
 go_upto_region 1 with (first | ((with_reducible refine gate_dst (N := 2) rfl ?_); (try (refine gate_guard (by rfl) ?_; dsimp only)); refine box_event ?hg (N := 2) ?hd (cs := #[.slice A0_0 l0_0.length c0_0, .int .i64 a0_1, .slice A0_2 l0_2.length c0_2]) (t := 25) ?hr ?_; (case hd => rfl); (case hg => rfl); (case hr => first | (go_simp; done) | (go_simp; rfl)); intro gb128 hg w4 hbox hb; have n0_ := a_ (below_step bel_ hb); have n1_ := a_ (hbox); have n2_ := a_ (bz_ hg : w.heap.size ≤ gb128); have n3_ := a_ (bz_ hg : w.heap.size ≤ gb128); clear HB; have HB := n0_; have BK128 := n1_; have GW128 := n2_; have GE128 := n3_; clear n0_ n1_ n2_ n3_; clear hb hbox hg) | ((with_reducible refine gate_dst (N := 3) rfl ?_); (try (refine gate_guard (by rfl) ?_; dsimp only)); refine box_event ?hg (N := 3) ?hd (cs := #[.slice A1_0 l1_0.length c1_0, .int .i64 a1_1, .slice A1_2 l1_2.length c1_2]) (t := 25) ?hr ?_; (case hd => rfl); (case hg => rfl); (case hr => first | (go_simp; done) | (go_simp; rfl)); intro gb129 hg w5 hbox hb; have n0_ := a_ (blk_below (bk_ BK128.out) hb); have n1_ := a_ (below_step bel_ hb); have n2_ := a_ (hbox); have n3_ := a_ (bz_ hg : w.heap.size ≤ gb129); have n4_ := a_ (bz_ hg : w.heap.size ≤ gb129); have n5_ := a_ (nl_ hg (bk_ BK128.out)); have n6_ := a_ (ng_ hg (bk_ BK128.out)); clear BK128; clear HB; have BK128 := n0_; have HB := n1_; have BK129 := n2_; have GW129 := n3_; have GE129 := n4_; have NB128_129 := n5_; have NB129_128 := n6_; clear n0_ n1_ n2_ n3_ n4_ n5_ n6_; clear hb hbox hg))
 repeat (go_quiet (first | ((with_reducible refine gate_dst (N := 2) rfl ?_); (try (refine gate_guard (by rfl) ?_; dsimp only)); refine box_event ?hg (N := 2) ?hd (cs := #[.slice A0_0 l0_0.length c0_0, .int .i64 a0_1, .slice A0_2 l0_2.length c0_2]) (t := 25) ?hr ?_; (case hd => rfl); (case hg => rfl); (case hr => first | (go_simp; done) | (go_simp; rfl)); intro gb128 hg w4 hbox hb; have n0_ := a_ (below_step bel_ hb); have n1_ := a_ (hbox); have n2_ := a_ (bz_ hg : w.heap.size ≤ gb128); have n3_ := a_ (bz_ hg : w.heap.size ≤ gb128); clear HB; have HB := n0_; have BK128 := n1_; have GW128 := n2_; have GE128 := n3_; clear n0_ n1_ n2_ n3_; clear hb hbox hg) | ((with_reducible refine gate_dst (N := 3) rfl ?_); (try (refine gate_guard (by rfl) ?_; dsimp only)); refine box_event ?hg (N := 3) ?hd (cs := #[.slice A1_0 l1_0.length c1_0, .int .i64 a1_1, .slice A1_2 l1_2.length c1_2]) (t := 25) ?hr ?_; (case hd => rfl); (case hg => rfl); (case hr => first | (go_simp; done) | (go_simp; rfl)); intro gb129 hg w5 hbox hb; have n0_ := a_ (blk_below (bk_ BK128.out) hb); have n1_ := a_ (below_step bel_ hb); have n2_ := a_ (hbox); have n3_ := a_ (bz_ hg : w.heap.size ≤ gb129); have n4_ := a_ (bz_ hg : w.heap.size ≤ gb129); have n5_ := a_ (nl_ hg (bk_ BK128.out)); have n6_ := a_ (ng_ hg (bk_ BK128.out)); clear BK128; clear HB; have BK128 := n0_; have HB := n1_; have BK129 := n2_; have GW129 := n3_; have GE129 := n4_; have NB128_129 := n5_; have NB129_128 := n6_; clear n0_ n1_ n2_ n3_ n4_ n5_ n6_; clear hb hbox hg)); go_upto_region 1 with (first | ((with_reducible refine gate_dst (N := 2) rfl ?_); (try (refine gate_guard (by rfl) ?_; dsimp only)); refine box_event ?hg (N := 2) ?hd (cs := #[.slice A0_0 l0_0.length c0_0, .int .i64 a0_1, .slice A0_2 l0_2.length c0_2]) (t := 25) ?hr ?_; (case hd => rfl); (case hg => rfl); (case hr => first | (go_simp; done) | (go_simp; rfl)); intro gb128 hg w4 hbox hb; have n0_ := a_ (below_step bel_ hb); have n1_ := a_ (hbox); have n2_ := a_ (bz_ hg : w.heap.size ≤ gb128); have n3_ := a_ (bz_ hg : w.heap.size ≤ gb128); clear HB; have HB := n0_; have BK128 := n1_; have GW128 := n2_; have GE128 := n3_; clear n0_ n1_ n2_ n3_; clear hb hbox hg) | ((with_reducible refine gate_dst (N := 3) rfl ?_); (try (refine gate_guard (by rfl) ?_; dsimp only)); refine box_event ?hg (N := 3) ?hd (cs := #[.slice A1_0 l1_0.length c1_0, .int .i64 a1_1, .slice A1_2 l1_2.length c1_2]) (t := 25) ?hr ?_; (case hd => rfl); (case hg => rfl); (case hr => first | (go_simp; done) | (go_simp; rfl)); intro gb129 hg w5 hbox hb; have n0_ := a_ (blk_below (bk_ BK128.out) hb); have n1_ := a_ (below_step bel_ hb); have n2_ := a_ (hbox); have n3_ := a_ (bz_ hg : w.heap.size ≤ gb129); have n4_ := a_ (bz_ hg : w.heap.size ≤ gb129); have n5_ := a_ (nl_ hg (bk_ BK128.out)); have n6_ := a_ (ng_ hg (bk_ BK128.out)); clear BK128; clear HB; have BK128 := n0_; have HB := n1_; have BK129 := n2_; have GW129 := n3_; have GE129 := n4_; have NB128_129 := n5_; have NB129_128 := n6_; clear n0_ n1_ n2_ n3_ n4_ n5_ n6_; clear hb hbox hg)))
 (try simp only [Act.put, List.setIfInBounds_toArray, List.set_cons_zero, List.set_cons_succ])
 go_cut [27] (fun v27 wc => ∃ (kq : Nat) (x27_2 : Bool), v27 = .bool x27_2 ∧ Aside0 (skiarearef19_Same.j0 kq x27_2 l0_0 a0_1 l0_2 l1_0 a1_1 l1_2 = some r) ∧ Aside0 (kq ≤ k) ∧ Aside0 (wc.heap[gb128]? = some (.cells #[(.slice A0_0 l0_0.length c0_0), .int .i64 a0_1, (.slice A0_2 l0_2.length c0_2)] 25 (0, 0))) ∧ Aside0 (wc.heap[gb129]? = some (.cells #[(.slice A1_0 l1_0.length c1_0), .int .i64 a1_1, (.slice A1_2 l1_2.length c1_2)] 25 (0, 0))) ∧ Aside0 (Below w.heap.size w wc))
 case first =>
  have H := HC3.out
  clear HC3
  by_cases c6 : a0_1 = a1_1
  ·rw [if_pos c6] at H
   have c6b0 : (a0_1 == a1_1) = true := beq_iff_eq.mpr c6
   have c6b1 : (a0_1 != a1_1) = false := bne_eq_false_iff_eq.mpr c6
   clear c6
   (first | rw [c6b0] | (simp only [i64_w, i32_w]; rw [c6b0]) | skip)
   by_cases c7 : (l0_2.length : Int) = (l1_2.length : Int)
   ·rw [if_pos c7] at H
    have c7b0 : ((l0_2.length : Int) == (l1_2.length : Int)) = true := beq_iff_eq.mpr c7
    have c7b1 : ((l0_2.length : Int) != (l1_2.length : Int)) = false := bne_eq_false_iff_eq.mpr c7
    have c7b2 : (l0_2.length == l1_2.length) = true := by first | simpa using c7 | (simp at c7 ⊢; omega)
    clear c7
    replace H := Option.bind_eq_some_iff.mp H
    obtain ⟨t130, A80, H⟩ := H
    replace H : (skiarearef19_Same.j0 k (!t130) l0_0 a0_1 l0_2 l1_0 a1_1 l1_2) = some r := H
    have A8 := a_ A80
    clear A80
    have H' := a_ H
    clear H
    have hnb9 := NB128_129.out
    have hnc9 := NB129_128.out
    have hcz10_0 := cz_ BK128 0
    have hcz10_1 := cz_ BK128 1
    have hcz10_2 := cz_ BK128 2
    have hfz10_0 := fz_ BK128 0
    have hfz10_1 := fz_ BK128 1
    have hfz10_2 := fz_ BK128 2
    have hcz11_0 := cz_ BK129 0
    have hcz11_1 := cz_ BK129 1
    have hcz11_2 := cz_ BK129 2
    have hfz11_0 := fz_ BK129 0
    have hfz11_1 := fz_ BK129 1
    have hfz11_2 := fz_ BK129 2
    go_wp2_with (first | (go_at_call 26; (with_reducible refine (skiarearef19_SameInts.calls k _ _ l0_0 _ _ l1_0 t130 _ ?side1 ?side2 ?side3 ?side4 A8.out).mono ?_); (case side1 => exact kC_ (Kd.C_below HR0_0.out HB.out)); (case side2 => exact HC0_0.out); (case side3 => exact kC_ (Kd.C_below HR1_0.out HB.out)); (case side4 => exact HC1_0.out); rintro e w' ⟨rfl, ⟨nd, rfl⟩⟩; (try first | exact ⟨rfl, _, World.drewN_drewN _ _ _⟩ | exact ⟨rfl, _, Eq.trans (World.drewN_drewN _ _ _) (congrArg (World.drewN _) (Nat.add_assoc _ _ _))⟩)))
    repeat (go_quiet (fail); try go_wp2_with (first | (go_at_call 26; (with_reducible refine (skiarearef19_SameInts.calls k _ _ l0_0 _ _ l1_0 t130 _ ?side1 ?side2 ?side3 ?side4 A8.out).mono ?_); (case side1 => exact kC_ (Kd.C_below HR0_0.out HB.out)); (case side2 => exact HC0_0.out); (case side3 => exact kC_ (Kd.C_below HR1_0.out HB.out)); (case side4 => exact HC1_0.out); rintro e w' ⟨rfl, ⟨nd, rfl⟩⟩; (try first | exact ⟨rfl, _, World.drewN_drewN _ _ _⟩ | exact ⟨rfl, _, Eq.trans (World.drewN_drewN _ _ _) (congrArg (World.drewN _) (Nat.add_assoc _ _ _))⟩))))
    go_meet
    case rel => exact ⟨_, (!t130), (by first | rfl | (simp; done) | (simp [*]; done)), H', ⟨by first | omega | exact Nat.le_refl _⟩, ⟨by exact BK128.out⟩, ⟨by exact BK129.out⟩, ⟨by repeat (first | (with_reducible first | exact HB.out | apply below_alloc | apply pw_below_drewN | apply below_drew1 | refine below_set ?_ GE128.out | refine below_set ?_ GE129.out) | exact HB.out)⟩⟩
   ·rw [if_neg c7] at H
    have c7b0 : ((l0_2.length : Int) == (l1_2.length : Int)) = false := beq_eq_false_iff_ne.mpr c7
    have c7b1 : ((l0_2.length : Int) != (l1_2.length : Int)) = true := bne_iff_ne.mpr c7
    have c7b2 : (l0_2.length == l1_2.length) = false := by first | simpa using c7 | (simp at c7 ⊢; omega)
    have H' := a_ H
    clear H
    have hnb12 := NB128_129.out
    have hnc12 := NB129_128.out
    have hcz13_0 := cz_ BK128 0
    have hcz13_1 := cz_ BK128 1
    have hcz13_2 := cz_ BK128 2
    have hfz13_0 := fz_ BK128 0
    have hfz13_1 := fz_ BK128 1
    have hfz13_2 := fz_ BK128 2
    have hcz14_0 := cz_ BK129 0
    have hcz14_1 := cz_ BK129 1
    have hcz14_2 := cz_ BK129 2
    have hfz14_0 := fz_ BK129 0
    have hfz14_1 := fz_ BK129 1
    have hfz14_2 := fz_ BK129 2
    go_wp2
    repeat (go_quiet (fail); try go_wp2)
    go_meet
    case rel => exact ⟨_, (true), (by first | rfl | (simp; done) | (simp [*]; done)), H', ⟨by first | omega | exact Nat.le_refl _⟩, ⟨by exact BK128.out⟩, ⟨by exact BK129.out⟩, ⟨by repeat (first | (with_reducible first | exact HB.out | apply below_alloc | apply pw_below_drewN | apply below_drew1 | refine below_set ?_ GE128.out | refine below_set ?_ GE129.out) | exact HB.out)⟩⟩
  ·rw [if_neg c6] at H
   have c6b0 : (a0_1 == a1_1) = false := beq_eq_false_iff_ne.mpr c6
   have c6b1 : (a0_1 != a1_1) = true := bne_iff_ne.mpr c6
   (first | rw [c6b0] | (simp only [i64_w, i32_w]; rw [c6b0]) | skip)
   have H' := a_ H
   clear H
   have hnb15 := NB128_129.out
   have hnc15 := NB129_128.out
   have hcz16_0 := cz_ BK128 0
   have hcz16_1 := cz_ BK128 1
   have hcz16_2 := cz_ BK128 2
   have hfz16_0 := fz_ BK128 0
   have hfz16_1 := fz_ BK128 1
   have hfz16_2 := fz_ BK128 2
   have hcz17_0 := cz_ BK129 0
   have hcz17_1 := cz_ BK129 1
   have hcz17_2 := cz_ BK129 2
   have hfz17_0 := fz_ BK129 0
   have hfz17_1 := fz_ BK129 1
   have hfz17_2 := fz_ BK129 2
   go_wp2
   repeat (go_quiet (fail); try go_wp2)
   go_meet
   case rel => exact ⟨_, (true), (by first | rfl | (simp; done) | (simp [*]; done)), H', ⟨by first | omega | exact Nat.le_refl _⟩, ⟨by exact BK128.out⟩, ⟨by exact BK129.out⟩, ⟨by repeat (first | (with_reducible first | exact HB.out | apply below_alloc | apply pw_below_drewN | apply below_drew1 | refine below_set ?_ GE128.out | refine below_set ?_ GE129.out) | exact HB.out)⟩⟩
 case rest =>
  clear HC3
  try clear c1
  try clear c2
  try clear p2
  try clear c6
  try clear c6b0
  try clear c6b1
  try clear c7
  try clear c7b0
  try clear c7b1
  try clear c7b2
  try clear c9
  try clear c12
  try clear c15
  try clear hcz10_0
  try clear hcz10_1
  try clear hcz10_2
  try clear hcz11_0
  try clear hcz11_1
  try clear hcz11_2
  try clear hcz13_0
  try clear hcz13_1
  try clear hcz13_2
  try clear hcz14_0
  try clear hcz14_1
  try clear hcz14_2
  try clear hcz16_0
  try clear hcz16_1
  try clear hcz16_2
  try clear hcz17_0
  try clear hcz17_1
  try clear hcz17_2
  try clear hfz10_0
  try clear hfz10_1
  try clear hfz10_2
  try clear hfz11_0
  try clear hfz11_1
  try clear hfz11_2
  try clear hfz13_0
  try clear hfz13_1
  try clear hfz13_2
  try clear hfz14_0
  try clear hfz14_1
  try clear hfz14_2
  try clear hfz16_0
  try clear hfz16_1
  try clear hfz16_2
  try clear hfz17_0
  try clear hfz17_1
  try clear hfz17_2
  obtain ⟨kq, x27_2, rfl, HA, HJ2, BK128, BK129, HB⟩ := hcut
  cases kq with
  | zero => exact absurd HA.out (by simp [skiarearef19_Same.j0])
  | succ kj2 =>
   have H := HA.out
   clear HA
   simp only [skiarearef19_Same.j0] at H
   by_cases c18 : x27_2 = true
   ·subst c18
    have H1 : (some false) = some r := by rw [if_pos rfl] at H; exact H
    clear H
    have H := H1
    clear H1
    obtain rfl := Option.some.inj H
    go_wp2
    repeat (go_quiet (fail); try go_wp2)
    go_ret
    exact ⟨by first | rfl | (simp [errW_none, errW_some] <;> rfl) | (simp [*, errW_none, errW_some] <;> rfl), by repeat (first | (with_reducible first | exact HB.out | apply below_alloc | apply pw_below_drewN | apply below_drew1 | refine below_set ?_ GE128.out | refine below_set ?_ GE129.out) | exact HB.out)⟩
   ·replace c18 := Bool.eq_false_iff.mpr c18
    subst c18
    have H1 : (skiarearef19_Same.l0 kj2 0 l0_0 a0_1 l0_2 l1_0 a1_1 l1_2) = some r := by rw [if_neg (show ¬ (false = true) by decide)] at H; exact H
    clear H
    have H := H1
    clear H1
    have H' := a_ H
    clear H
    go_wp2
    repeat (go_quiet (fail); try go_wp2)
    go_loopg [5] kj2 (fun kq v5 w' => ∃ (x5_2 : Int), v5 = .int .i64 x5_2 ∧ Aside0 (skiarearef19_Same.l0 kq x5_2 l0_0 a0_1 l0_2 l1_0 a1_1 l1_2 = some r) ∧ Aside0 (kq ≤ kj2) ∧ Aside0 (w'.heap[gb128]? = some (.cells #[(.slice A0_0 l0_0.length c0_0), .int .i64 a0_1, (.slice A0_2 l0_2.length c0_2)] 25 (0, 0))) ∧ Aside0 (w'.heap[gb129]? = some (.cells #[(.slice A1_0 l1_0.length c1_0), .int .i64 a1_1, (.slice A1_2 l1_2.length c1_2)] 25 (0, 0))) ∧ Aside0 (Below w.heap.size w w'))
    case atStart => exact ⟨(0), (by first | rfl | (simp; done) | (simp [*]; done)), H', ⟨Nat.le_refl _⟩, ⟨by exact BK128.out⟩, ⟨by exact BK129.out⟩, ⟨by repeat (first | (with_reducible first | exact HB.out | apply below_alloc | apply pw_below_drewN | apply below_drew1 | refine below_set ?_ GE128.out | refine below_set ?_ GE129.out) | exact HB.out)⟩⟩
    case round =>
     clear H'
     try clear c1
     try clear c2
     try clear p2
     try clear c6
     try clear c6b0
     try clear c6b1
     try clear c7
     try clear c7b0
     try clear c7b1
     try clear c7b2
     try clear c9
     try clear c12
     try clear c15
     try clear c18
     try clear hcz10_0
     try clear hcz10_1
     try clear hcz10_2
     try clear hcz11_0
     try clear hcz11_1
     try clear hcz11_2
     try clear hcz13_0
     try clear hcz13_1
     try clear hcz13_2
     try clear hcz14_0
     try clear hcz14_1
     try clear hcz14_2
     try clear hcz16_0
     try clear hcz16_1
     try clear hcz16_2
     try clear hcz17_0
     try clear hcz17_1
     try clear hcz17_2
     try clear hfz10_0
     try clear hfz10_1
     try clear hfz10_2
     try clear hfz11_0
     try clear hfz11_1
     try clear hfz11_2
     try clear hfz13_0
     try clear hfz13_1
     try clear hfz13_2
     try clear hfz14_0
     try clear hfz14_1
     try clear hfz14_2
     try clear hfz16_0
     try clear hfz16_1
     try clear hfz16_2
     try clear hfz17_0
     try clear hfz17_1
     try clear hfz17_2
     try clear p2
     obtain ⟨x5_2, rfl, HA, HK2, BK128, BK129, HB⟩ := hrel
     cases gk with
     | zero => exact absurd HA.out (by simp [skiarearef19_Same.l0])
     | succ k2 =>
      have H := HA.out
      clear HA
      simp only [skiarearef19_Same.l0] at H
      by_cases c19 : x5_2 < (l0_2.length : Int)
      ·rw [if_pos c19] at H
       have c19b0 : decide (x5_2 < (l0_2.length : Int)) = true := decide_eq_true c19
       clear c19
       by_cases c20 : 0 ≤ x5_2
       ·rw [if_pos c20] at H
        have c20b0 : decide (0 ≤ x5_2) = true := decide_eq_true c20
        clear c20
        by_cases c21 : x5_2 < (l1_2.length : Int)
        ·rw [if_pos c21] at H
         have c21b0 : decide (x5_2 < (l1_2.length : Int)) = true := decide_eq_true c21
         clear c21
         by_cases c22 : (!(((rd_T35 l0_2 x5_2).f0) == ((rd_T35 l1_2 x5_2).f0)) || (!(((rd_T35 l0_2 x5_2).f1) == ((rd_T35 l1_2 x5_2).f1)) || (!(((rd_T35 l0_2 x5_2).f2) == ((rd_T35 l1_2 x5_2).f2))))) = true
         ·rw [if_pos c22] at H
          have c22b0 : (!(((rd_T35 l0_2 x5_2).f0) == ((rd_T35 l1_2 x5_2).f0)) || (!(((rd_T35 l0_2 x5_2).f1) == ((rd_T35 l1_2 x5_2).f1)) || (!(((rd_T35 l0_2 x5_2).f2) == ((rd_T35 l1_2 x5_2).f2))))) = true := c22
          clear c22
          obtain rfl := Option.some.inj H
          have hnb23 := NB128_129.out
          have hnc23 := NB129_128.out
          have hcz24_0 := cz_ BK128 0
          have hcz24_1 := cz_ BK128 1
          have hcz24_2 := cz_ BK128 2
          have hfz24_0 := fz_ BK128 0
          have hfz24_1 := fz_ BK128 1
          have hfz24_2 := fz_ BK128 2
          have p131 : 0 ≤ (x5_2 : Int) := od_
          have q131 : x5_2 < (l0_2.length : Int) := od_
          obtain ⟨ad131, e131, hx131_0, hx131_1, hx131_2⟩ := at_T35 HR0_2.out x5_2 p131 q131
          cases e131
          replace hx131_0 := pc_ hx131_0
          replace hx131_1 := pc_ hx131_1
          replace hx131_2 := pc_ hx131_2
          replace p131 := eq_true p131
          replace q131 := eq_true q131
          have hcz25_0 := cz_ BK129 0
          have hcz25_1 := cz_ BK129 1
          have hcz25_2 := cz_ BK129 2
          have hfz25_0 := fz_ BK129 0
          have hfz25_1 := fz_ BK129 1
          have hfz25_2 := fz_ BK129 2
          have p132 : 0 ≤ (x5_2 : Int) := od_
          have q132 : x5_2 < (l1_2.length : Int) := od_
          obtain ⟨ad132, e132, hx132_0, hx132_1, hx132_2⟩ := at_T35 HR1_2.out x5_2 p132 q132
          cases e132
          replace hx132_0 := pc_ hx132_0
          replace hx132_1 := pc_ hx132_1
          replace hx132_2 := pc_ hx132_2
          replace p132 := eq_true p132
          replace q132 := eq_true q132
          go_wp2
          repeat (go_quiet (fail); try go_wp2)
          go_ret
          exact ⟨by first | rfl | (simp [errW_none, errW_some] <;> rfl) | (simp [*, errW_none, errW_some] <;> rfl), by repeat (first | (with_reducible first | exact HB.out | apply below_alloc | apply pw_below_drewN | apply below_drew1 | refine below_set ?_ GE128.out | refine below_set ?_ GE129.out) | exact HB.out)⟩
         ·rw [if_neg c22] at H
          have c22b0 : (!(((rd_T35 l0_2 x5_2).f0) == ((rd_T35 l1_2 x5_2).f0)) || (!(((rd_T35 l0_2 x5_2).f1) == ((rd_T35 l1_2 x5_2).f1)) || (!(((rd_T35 l0_2 x5_2).f2) == ((rd_T35 l1_2 x5_2).f2))))) = false := by simpa using c22
          clear c22
          have H' := a_ H
          clear H
          have hnb26 := NB128_129.out
          have hnc26 := NB129_128.out
          have hcz27_0 := cz_ BK128 0
          have hcz27_1 := cz_ BK128 1
          have hcz27_2 := cz_ BK128 2
          have hfz27_0 := fz_ BK128 0
          have hfz27_1 := fz_ BK128 1
          have hfz27_2 := fz_ BK128 2
          have p131 : 0 ≤ (x5_2 : Int) := od_
          have q131 : x5_2 < (l0_2.length : Int) := od_
          obtain ⟨ad131, e131, hx131_0, hx131_1, hx131_2⟩ := at_T35 HR0_2.out x5_2 p131 q131
          cases e131
          replace hx131_0 := pc_ hx131_0
          replace hx131_1 := pc_ hx131_1
          replace hx131_2 := pc_ hx131_2
          replace p131 := eq_true p131
          replace q131 := eq_true q131
          have hcz28_0 := cz_ BK129 0
          have hcz28_1 := cz_ BK129 1
          have hcz28_2 := cz_ BK129 2
          have hfz28_0 := fz_ BK129 0
          have hfz28_1 := fz_ BK129 1
          have hfz28_2 := fz_ BK129 2
          have p132 : 0 ≤ (x5_2 : Int) := od_
          have q132 : x5_2 < (l1_2.length : Int) := od_
          obtain ⟨ad132, e132, hx132_0, hx132_1, hx132_2⟩ := at_T35 HR1_2.out x5_2 p132 q132
          cases e132
          replace hx132_0 := pc_ hx132_0
          replace hx132_1 := pc_ hx132_1
          replace hx132_2 := pc_ hx132_2
          replace p132 := eq_true p132
          replace q132 := eq_true q132
          go_wp2
          repeat (go_quiet (fail); try go_wp2)
          go_roundg k2
          case measure => have := HJ2.out; have := HK2.out; omega
          case rel => exact ⟨(wrap64 (x5_2 + 1)), (by first | rfl | (simp; done) | (simp [*]; done)), H', ⟨by have := HJ2.out; have := HK2.out; omega⟩, ⟨by exact BK128.out⟩, ⟨by exact BK129.out⟩, ⟨by repeat (first | (with_reducible first | exact HB.out | apply below_alloc | apply pw_below_drewN | apply below_drew1 | refine below_set ?_ GE128.out | refine below_set ?_ GE129.out) | exact HB.out)⟩⟩
        ·rw [if_neg c21] at H
         exact absurd H (by simp)
       ·rw [if_neg c20] at H
        exact absurd H (by simp)
      ·rw [if_neg c19] at H
       have c19b0 : decide (x5_2 < (l0_2.length : Int)) = false := decide_eq_false c19
       clear c19
       obtain rfl := Option.some.inj H
       have hnb29 := NB128_129.out
       have hnc29 := NB129_128.out
       have hcz30_0 := cz_ BK128 0
       have hcz30_1 := cz_ BK128 1
       have hcz30_2 := cz_ BK128 2
       have hfz30_0 := fz_ BK128 0
       have hfz30_1 := fz_ BK128 1
       have hfz30_2 := fz_ BK128 2
       go_wp2
       repeat (go_quiet (fail); try go_wp2)
       go_ret
       exact ⟨by first | rfl | (simp [errW_none, errW_some] <;> rfl) | (simp [*, errW_none, errW_some] <;> rfl), by repeat (first | (with_reducible first | exact HB.out | apply below_alloc | apply pw_below_drewN | apply below_drew1 | refine below_set ?_ GE128.out | refine below_set ?_ GE129.out) | exact HB.out)⟩
def skiarearef53_at.l0 : Nat → Int → Int → List (S63) → List (S56) → Option (Int)
 | 0, _, _, _, _ => none
 | k + 1, x1, x5, x528000, x528001 => if x5 < (x528000.length : Int) then (if 0 ≤ x5 then (if ((rd_T63 x528000 x5).f0) = x1 then (some x5) else (skiarearef53_at.l0 k x1 (wrap64 (x5 + 1)) x528000 x528001)) else (none)) else (some (-1))
def skiarearef53_at.f (k : Nat) (l0_0 : List (S63)) (l0_1 : List (S56)) (a1 : Int) : Option (Int) := skiarearef53_at.l0 k a1 0 l0_0 l0_1
theorem skiarearef53_at.mono_l : ∀ k, (∀ y0 y1 y2 y3, LeO (skiarearef53_at.l0 k y0 y1 y2 y3) (skiarearef53_at.l0 (k + 1) y0 y1 y2 y3))
 | 0 => fun _ _ _ _ r h => by simp [skiarearef53_at.l0] at h
 | k + 1 => by
  have ih0 := skiarearef53_at.mono_l k
  ·intro y0 y1 y2 y3
   unfold skiarearef53_at.l0
   repeat' first
   | (with_reducible exact ih0 _ _ _ _)
   | (with_reducible exact LeO.refl _)
   | (with_reducible exact LeO.none _)
   | (with_reducible refine LeO.ite ?_ ?_)
   | (with_reducible refine LeO.bind ?_ (fun _ => ?_))
   | exact ih0 _ _ _ _
   | exact LeO.none _
   | refine LeO.ite ?_ ?_
   | refine LeO.bind ?_ (fun _ => ?_)
theorem skiarearef53_at.mono : ∀ a0 a1 a2 k, LeO (skiarearef53_at.f k a0 a1 a2) (skiarearef53_at.f (k + 1) a0 a1 a2) := by
 intro a0 a1 a2 k
 have ih0 := skiarearef53_at.mono_l k
 unfold skiarearef53_at.f
 repeat' first
   | (with_reducible exact ih0 _ _ _ _)
   | (with_reducible exact LeO.refl _)
   | (with_reducible exact LeO.none _)
   | (with_reducible refine LeO.ite ?_ ?_)
   | (with_reducible refine LeO.bind ?_ (fun _ => ?_))
   | exact ih0 _ _ _ _
   | exact LeO.none _
   | refine LeO.ite ?_ ?_
   | refine LeO.bind ?_ (fun _ => ?_)
set_option maxHeartbeats 8000000 in
set_option maxRecDepth 100000 in
theorem skiarearef53_at.calls (k : Nat) (A0_0 : Option Addr) (c0_0 : Nat) (l0_0 : List (S63)) (A0_1 : Option Addr) (c0_1 : Nat) (l0_1 : List (S56)) (a1 : Int) (r : Int) (w : World) (hr0_0 : Kd.C k63 w A0_0 l0_0.length l0_0) (hc0_0 : l0_0.length ≤ c0_0) (hr0_1 : Kd.C k56 w A0_1 l0_1.length l0_1) (hc0_1 : l0_1.length ≤ c0_1) (h : skiarearef53_at.f k l0_0 l0_1 a1 = some r) :
  Calls Try.prog 68 #[.agg #[.slice A0_0 l0_0.length c0_0, .slice A0_1 l0_1.length c0_1], .int .i64 a1] w fun e w' => e = .returned (.int .i64 r) ∧ Below w.heap.size w w' := by
 have hu48 := Try.underlying48
 have HR0_0 := a_ hr0_0
 have HC0_0 := a_ hc0_0
 clear hr0_0 hc0_0
 have HR0_1 := a_ hr0_1
 have HC0_1 := a_ hc0_1
 clear hr0_1 hc0_1
 have HB := a_ (Below.refl w.heap.size w)
 have H : (skiarearef53_at.l0 k a1 0 l0_0 l0_1) = some r := h
 clear h
 have H' := a_ H
 clear H
 go_enter Try.func68, Try.ntmps68
 go_wp2_with (first | ((with_reducible refine gate_dst (N := 2) rfl ?_); refine box_event ?hg (N := 2) ?hd (cs := #[.slice A0_0 l0_0.length c0_0, .slice A0_1 l0_1.length c0_1]) (t := 48) ?hr ?_; (case hd => rfl); (case hg => rfl); (case hr => first | (go_simp; done) | (go_simp; rfl)); intro gb527 hg w3 hbox hb; have n0_ := a_ (below_step bel_ hb); have n1_ := a_ (hbox); have n2_ := a_ (bz_ hg : w.heap.size ≤ gb527); have n3_ := a_ (bz_ hg : w.heap.size ≤ gb527); clear HB; have HB := n0_; have BK527 := n1_; have GW527 := n2_; have GE527 := n3_; clear n0_ n1_ n2_ n3_; clear hb hbox hg))
 go_loopg [5] k (fun kq v5 w' => ∃ (x5_1 : Int), v5 = .int .i64 x5_1 ∧ Aside0 (skiarearef53_at.l0 kq a1 x5_1 l0_0 l0_1 = some r) ∧ Aside0 (kq ≤ k) ∧ Aside0 (w'.heap[gb527]? = some (.cells #[(.slice A0_0 l0_0.length c0_0), (.slice A0_1 l0_1.length c0_1)] 48 (0, 0))) ∧ Aside0 (Below w.heap.size w w'))
 case atStart => exact ⟨(0), (by first | rfl | (simp; done) | (simp [*]; done)), H', ⟨Nat.le_refl _⟩, ⟨by exact BK527.out⟩, ⟨by repeat (first | (with_reducible first | exact HB.out | apply below_alloc | apply pw_below_drewN | apply below_drew1 | refine below_set ?_ GE527.out) | exact HB.out)⟩⟩
 case round =>
  clear H'
  try clear p2
  obtain ⟨x5_1, rfl, HA, HK1, BK527, HB⟩ := hrel
  cases gk with
  | zero => exact absurd HA.out (by simp [skiarearef53_at.l0])
  | succ k1 =>
   have H := HA.out
   clear HA
   simp only [skiarearef53_at.l0] at H
   by_cases c4 : x5_1 < (l0_0.length : Int)
   ·rw [if_pos c4] at H
    have c4b0 : decide (x5_1 < (l0_0.length : Int)) = true := decide_eq_true c4
    clear c4
    by_cases c5 : 0 ≤ x5_1
    ·rw [if_pos c5] at H
     have c5b0 : decide (0 ≤ x5_1) = true := decide_eq_true c5
     clear c5
     by_cases c6 : ((rd_T63 l0_0 x5_1).f0) = a1
     ·rw [if_pos c6] at H
      have c6b0 : (((rd_T63 l0_0 x5_1).f0) == a1) = true := beq_iff_eq.mpr c6
      have c6b1 : (((rd_T63 l0_0 x5_1).f0) != a1) = false := bne_eq_false_iff_eq.mpr c6
      clear c6
      obtain rfl := Option.some.inj H
      have hcz7_0 := cz_ BK527 0
      have hcz7_1 := cz_ BK527 1
      have hfz7_0 := fz_ BK527 0
      have hfz7_1 := fz_ BK527 1
      have p528 : 0 ≤ (x5_1 : Int) := od_
      have q528 : x5_1 < (l0_0.length : Int) := od_
      obtain ⟨ad528, A528_1, c528_1, A528_3, c528_3, e528, hx528_0, hx528_1, hx528_2, hx528_3, hl528_1, hi528_1, hl528_3, hi528_3⟩ := at_T63 HR0_0.out x5_1 p528 q528
      cases e528
      replace hx528_0 := pc_ hx528_0
      replace hx528_1 := pc_ hx528_1
      replace hx528_2 := pc_ hx528_2
      replace hx528_3 := pc_ hx528_3
      have HR528_1 := a_ hi528_1
      have HC528_1 := a_ hl528_1
      clear hi528_1 hl528_1
      have HR528_3 := a_ hi528_3
      have HC528_3 := a_ hl528_3
      clear hi528_3 hl528_3
      replace p528 := eq_true p528
      replace q528 := eq_true q528
      go_wp2
      go_ret
      exact ⟨by first | rfl | (simp [errW_none, errW_some] <;> rfl) | (simp [*, errW_none, errW_some] <;> rfl), by repeat (first | (with_reducible first | exact HB.out | apply below_alloc | apply pw_below_drewN | apply below_drew1 | refine below_set ?_ GE527.out) | exact HB.out)⟩
     ·rw [if_neg c6] at H
      have c6b0 : (((rd_T63 l0_0 x5_1).f0) == a1) = false := beq_eq_false_iff_ne.mpr c6
      have c6b1 : (((rd_T63 l0_0 x5_1).f0) != a1) = true := bne_iff_ne.mpr c6
      have H' := a_ H
      clear H
      have hcz8_0 := cz_ BK527 0
      have hcz8_1 := cz_ BK527 1
      have hfz8_0 := fz_ BK527 0
      have hfz8_1 := fz_ BK527 1
      have p528 : 0 ≤ (x5_1 : Int) := od_
      have q528 : x5_1 < (l0_0.length : Int) := od_
      obtain ⟨ad528, A528_1, c528_1, A528_3, c528_3, e528, hx528_0, hx528_1, hx528_2, hx528_3, hl528_1, hi528_1, hl528_3, hi528_3⟩ := at_T63 HR0_0.out x5_1 p528 q528
      cases e528
      replace hx528_0 := pc_ hx528_0
      replace hx528_1 := pc_ hx528_1
      replace hx528_2 := pc_ hx528_2
      replace hx528_3 := pc_ hx528_3
      have HR528_1 := a_ hi528_1
      have HC528_1 := a_ hl528_1
      clear hi528_1 hl528_1
      have HR528_3 := a_ hi528_3
      have HC528_3 := a_ hl528_3
      clear hi528_3 hl528_3
      replace p528 := eq_true p528
      replace q528 := eq_true q528
      go_wp2
      go_roundg k1
      case measure => have := HK1.out; omega
      case rel => exact ⟨(wrap64 (x5_1 + 1)), (by first | rfl | (simp; done) | (simp [*]; done)), H', ⟨by have := HK1.out; omega⟩, ⟨by exact BK527.out⟩, ⟨by repeat (first | (with_reducible first | exact HB.out | apply below_alloc | apply pw_below_drewN | apply below_drew1 | refine below_set ?_ GE527.out) | exact HB.out)⟩⟩
    ·rw [if_neg c5] at H
     exact absurd H (by simp)
   ·rw [if_neg c4] at H
    have c4b0 : decide (x5_1 < (l0_0.length : Int)) = false := decide_eq_false c4
    clear c4
    obtain rfl := Option.some.inj H
    have hcz9_0 := cz_ BK527 0
    have hcz9_1 := cz_ BK527 1
    have hfz9_0 := fz_ BK527 0
    have hfz9_1 := fz_ BK527 1
    go_wp2
    go_ret
    exact ⟨by first | rfl | (simp [errW_none, errW_some] <;> rfl) | (simp [*, errW_none, errW_some] <;> rfl), by repeat (first | (with_reducible first | exact HB.out | apply below_alloc | apply pw_below_drewN | apply below_drew1 | refine below_set ?_ GE527.out) | exact HB.out)⟩
def patrol_Report.f (k : Nat) (l0_0 : List (S63)) (l0_1 : List (S56)) (a1_0 : Int) (a1_1 : Int) (a1_2 : Int) : Option ((List (S63)) × (List (S56)) × Int) := (patrol_copied.f l0_0 l0_1).bind fun bt427 => (if bt427.2.length < 5864062014805 then ((some (bt427.2 ++ [(⟨a1_0, a1_1, a1_2⟩ : S56)] : List (S56))).bind fun y434 => ((patrol_Right.f k bt427.1 y434).bind fun t437 => (if t437 = 0 then (some (bt427.1, y434, 0)) else (some (([] : List (S63)), ([] : List (S56)), t437))))) else (none))
theorem patrol_Report.mono : ∀ a0 a1 a2 a3 a4 k, LeO (patrol_Report.f k a0 a1 a2 a3 a4) (patrol_Report.f (k + 1) a0 a1 a2 a3 a4) := by
 intro a0 a1 a2 a3 a4 k
 unfold patrol_Report.f
 repeat' first
   | (with_reducible exact patrol_Right.mono _ _ _)
   | (with_reducible exact LeO.refl _)
   | (with_reducible exact LeO.none _)
   | (with_reducible refine LeO.ite ?_ ?_)
   | (with_reducible refine LeO.bind ?_ (fun _ => ?_))
   | exact patrol_Right.mono _ _ _
   | exact LeO.none _
   | refine LeO.ite ?_ ?_
   | refine LeO.bind ?_ (fun _ => ?_)
set_option maxHeartbeats 8000000 in
set_option maxRecDepth 100000 in
theorem patrol_Report.calls (k : Nat) (A0_0 : Option Addr) (c0_0 : Nat) (l0_0 : List (S63)) (A0_1 : Option Addr) (c0_1 : Nat) (l0_1 : List (S56)) (a1_0 : Int) (a1_1 : Int) (a1_2 : Int) (r1 : List (S63)) (r2 : List (S56)) (r3 : Int) (w : World) (hr0_0 : Kd.C k63 w A0_0 l0_0.length l0_0) (hc0_0 : l0_0.length ≤ c0_0) (hr0_1 : Kd.C k56 w A0_1 l0_1.length l0_1) (hc0_1 : l0_1.length ≤ c0_1) (h : patrol_Report.f k l0_0 l0_1 a1_0 a1_1 a1_2 = some (r1, r2, r3)) :
  Calls Try.prog 42 #[.agg #[.slice A0_0 l0_0.length c0_0, .slice A0_1 l0_1.length c0_1], .agg #[.int .i64 a1_0, .int .i64 a1_1, .int .i64 a1_2]] w fun e w' => ∃ v0_ v1_ : Value, e = .returned (.tuple #[.agg #[v0_, v1_], .int .i64 r3]) ∧ Kd.N k63 63 w' w.heap.size (fun k_ => (w.heap.size ≤ k_) ∧ some k_ ≠ (v1_ : Value).ownBlock) v0_ r1 ∧ Kd.R k56 56 w' w.heap.size (fun k_ => (w.heap.size ≤ k_)) v1_ r2 ∧ Below w.heap.size w w' := by
 have hu48 := Try.underlying48
 have hu56 := Try.underlying56
 have HR0_0 := a_ hr0_0
 have HC0_0 := a_ hc0_0
 clear hr0_0 hc0_0
 have HR0_1 := a_ hr0_1
 have HC0_1 := a_ hc0_1
 clear hr0_1 hc0_1
 have HB := a_ (Below.refl w.heap.size w)
 have H : ((patrol_copied.f l0_0 l0_1).bind fun bt427 => (if bt427.2.length < 5864062014805 then ((some (bt427.2 ++ [(⟨a1_0, a1_1, a1_2⟩ : S56)] : List (S56))).bind fun y434 => ((patrol_Right.f k bt427.1 y434).bind fun t437 => (if t437 = 0 then (some (bt427.1, y434, 0)) else (some (([] : List (S63)), ([] : List (S56)), t437))))) else (none))) = some (r1, r2, r3) := h
 clear h
 replace H := Option.bind_eq_some_iff.mp H
 obtain ⟨⟨t427, t430⟩, A30, H⟩ := H
 replace H : (if t430.length < 5864062014805 then ((some (t430 ++ [(⟨a1_0, a1_1, a1_2⟩ : S56)] : List (S56))).bind fun y434 => ((patrol_Right.f k t427 y434).bind fun t437 => (if t437 = 0 then (some (t427, y434, 0)) else (some (([] : List (S63)), ([] : List (S56)), t437))))) else (none)) = some (r1, r2, r3) := H
 have A3 := a_ A30
 clear A30
 by_cases c4 : t430.length < 5864062014805
 ·rw [if_pos c4] at H
  have LMc4 := a_ c4
  clear c4
  obtain ⟨y434, hy434⟩ : ∃ y_ : List (S56), y_ = (t430 ++ [(⟨a1_0, a1_1, a1_2⟩ : S56)]) := ⟨_, rfl⟩
  replace H : ((patrol_Right.f k t427 y434).bind fun t437 => (if t437 = 0 then (some (t427, y434, 0)) else (some (([] : List (S63)), ([] : List (S56)), t437)))) = some (r1, r2, r3) := by first | (rw [hy434]; with_reducible exact H) | (have H2_ := (Option.bind_some _ _).symm.trans H; rw [hy434]; with_reducible exact H2_) | (have H2_ := (Option.bind_some _ _).symm.trans H; with_reducible exact H2_) | with_reducible exact H | (rw [hy434]; exact H) | exact H
  have Ny434 := a_ hy434
  clear hy434
  replace H := Option.bind_eq_some_iff.mp H
  obtain ⟨t437, A50, H⟩ := H
  replace H : (if t437 = 0 then (some (t427, y434, 0)) else (some (([] : List (S63)), ([] : List (S56)), t437))) = some (r1, r2, r3) := H
  have A5 := a_ A50
  clear A50
  by_cases c6 : t437 = 0
  ·rw [if_pos c6] at H
   have c6b0 : (t437 == 0) = true := beq_iff_eq.mpr c6
   have c6b1 : (t437 != 0) = false := bne_eq_false_iff_eq.mpr c6
   clear c6
   simp only [Option.some.injEq, Prod.mk.injEq] at H
   obtain ⟨rfl, rfl, rfl⟩ := H
   go_enter Try.func42, Try.ntmps42
   go_wp2_with (first | ((with_reducible refine gate_dst (N := 2) rfl ?_); refine box_event ?hg (N := 2) ?hd (cs := #[.slice A0_0 l0_0.length c0_0, .slice A0_1 l0_1.length c0_1]) (t := 48) ?hr ?_; (case hd => rfl); (case hg => rfl); (case hr => first | (go_simp; done) | (go_simp; rfl)); intro gb424 hg w7 hbox hb; have n0_ := a_ (below_step bel_ hb); have n1_ := a_ (hbox); have n2_ := a_ (bz_ hg : w.heap.size ≤ gb424); have n3_ := a_ (bz_ hg : w.heap.size ≤ gb424); clear HB; have HB := n0_; have BK424 := n1_; have GW424 := n2_; have GE424 := n3_; clear n0_ n1_ n2_ n3_; clear hb hbox hg) | ((with_reducible refine gate_dst (N := 3) rfl ?_); refine box_event ?hg (N := 3) ?hd (cs := #[.int .i64 a1_0, .int .i64 a1_1, .int .i64 a1_2]) (t := 56) ?hr ?_; (case hd => rfl); (case hg => rfl); (case hr => first | (go_simp; done) | (go_simp; rfl)); intro gb425 hg w8 hbox hb; have n0_ := a_ (blk_below (bk_ BK424.out) hb); have n1_ := a_ (below_step bel_ hb); have n2_ := a_ (hbox); have n3_ := a_ (bz_ hg : w.heap.size ≤ gb425); have n4_ := a_ (bz_ hg : w.heap.size ≤ gb425); have n5_ := a_ (nl_ hg (bk_ BK424.out)); have n6_ := a_ (ng_ hg (bk_ BK424.out)); clear BK424; clear HB; have BK424 := n0_; have HB := n1_; have BK425 := n2_; have GW425 := n3_; have GE425 := n4_; have NB424_425 := n5_; have NB425_424 := n6_; clear n0_ n1_ n2_ n3_ n4_ n5_ n6_; clear hb hbox hg) | ((with_reducible refine gate_dst (N := 4) rfl ?_); refine box_event ?hg (N := 4) ?hd (cs := #[.slice none 0 0, .slice none 0 0]) (t := 48) ?hr ?_; (case hd => rfl); (case hg => rfl); (case hr => first | (go_simp; done) | (go_simp; rfl)); intro gb426 hg w9 hbox hb; have n0_ := a_ (blk_below (bk_ BK424.out) hb); have n1_ := a_ (blk_below (bk_ BK425.out) hb); have n2_ := a_ (below_step bel_ hb); have n3_ := a_ (hbox); have n4_ := a_ (bz_ hg : w.heap.size ≤ gb426); have n5_ := a_ (bz_ hg : w.heap.size ≤ gb426); have n6_ := a_ (nl_ hg (bk_ BK424.out)); have n7_ := a_ (ng_ hg (bk_ BK424.out)); have n8_ := a_ (nl_ hg (bk_ BK425.out)); have n9_ := a_ (ng_ hg (bk_ BK425.out)); clear BK424; clear BK425; clear HB; have BK424 := n0_; have BK425 := n1_; have HB := n2_; have BK426 := n3_; have GW426 := n4_; have GE426 := n5_; have NB424_426 := n6_; have NB426_424 := n7_; have NB425_426 := n8_; have NB426_425 := n9_; clear n0_ n1_ n2_ n3_ n4_ n5_ n6_ n7_ n8_ n9_; clear hb hbox hg; have hnb10 := NB424_425.out; have hnc10 := NB425_424.out; have hnb11 := NB424_426.out; have hnc11 := NB426_424.out; have hcz12_0 := cz_ BK424 0; have hcz12_1 := cz_ BK424 1; have hfz12_0 := fz_ BK424 0; have hfz12_1 := fz_ BK424 1) | ((with_reducible refine gate_callee (f := 69) rfl ?_); refine gs_ (some 9) Try.func69 #[.agg #[.slice A0_0 l0_0.length c0_0, .slice A0_1 l0_1.length c0_1]] ?_; (with_reducible refine (patrol_copied.calls _ _ l0_0 _ _ l0_1 t427 t430 _ ?side1 ?side2 ?side3 ?side4 A3.out).mono ?_); (case side1 => exact kC_ (Kd.C_below HR0_0.out HB.out)); (case side2 => exact HC0_0.out); (case side3 => exact kC_ (Kd.C_below HR0_1.out HB.out)); (case side4 => exact HC0_1.out); rintro e w13 ⟨v428, v431, rfl, ho0, ho1, hb⟩; refine ⟨_, rfl, ?_⟩; have n0_ := a_ (Kd.N_lower (Kd.N_mono (ok' := fun k_ => (w.heap.size ≤ k_) ∧ some k_ ≠ (v431 : Value).ownBlock ∧ k_ ≠ gb424 ∧ k_ ≠ gb425 ∧ k_ ≠ gb426) ho0 (fun k_ hk_ => ⟨(Nat.le_trans (below_size bel_) hk_.1), hk_.2, (Kd.freshB (bk_ BK424.out) k_ hk_.1), (Kd.freshB (bk_ BK425.out) k_ hk_.1), (Kd.freshB (bk_ BK426.out) k_ hk_.1)⟩)) (below_size bel_)); have n1_ := a_ (Kd.R_lower (Kd.R_newB (Kd.R_newM (M := fun k_ => (w.heap.size ≤ k_)) (Kd.R_mono (ok' := fun k_ => True) ho1 (fun _ hk_ => trivial)) (below_size bel_) (fun k_ h_ => h_)) (bk_ BK425.out)) (below_size bel_)); have n2_ := a_ (blk_below (bk_ BK424.out) hb); have n3_ := a_ (blk_below (bk_ BK425.out) hb); have n4_ := a_ (blk_below (bk_ BK426.out) hb); have n5_ := a_ (below_step bel_ hb); clear BK424; clear BK425; clear BK426; clear HB; have HO429 := n0_; have HO432 := n1_; have BK424 := n2_; have BK425 := n3_; have BK426 := n4_; have HB := n5_; clear n0_ n1_ n2_ n3_ n4_ n5_; (try clear hb); (try clear hb2); (try clear hk); (try clear hi); (try clear ho0); (try clear ho1)) | ((with_reducible refine gate_dst (N := 6) rfl ?_); refine box_event ?hg (N := 6) ?hd (cs := #[.slice none 0 0, .slice none 0 0]) (t := 48) ?hr ?_; (case hd => rfl); (case hg => rfl); (case hr => first | (go_simp; done) | (go_simp; rfl)); intro gb433 hg w14 hbox hb; have n0_ := a_ (Kd.N_below (Kd.N_elderB (kN_ HO429.out) gb433 (Nat.le_of_eq hg.symm)) hb); have n1_ := a_ (Kd.R_below (kR_ HO432.out) hb); have n2_ := a_ (blk_below (bk_ BK424.out) hb); have n3_ := a_ (blk_below (bk_ BK425.out) hb); have n4_ := a_ (blk_below (bk_ BK426.out) hb); have n5_ := a_ (below_step bel_ hb); have n6_ := a_ (hbox); have n7_ := a_ (bz_ hg : w.heap.size ≤ gb433); have n8_ := a_ (bz_ hg : w.heap.size ≤ gb433); have n9_ := a_ (nl_ hg (bk_ BK424.out)); have n10_ := a_ (ng_ hg (bk_ BK424.out)); have n11_ := a_ (nl_ hg (bk_ BK425.out)); have n12_ := a_ (ng_ hg (bk_ BK425.out)); have n13_ := a_ (nl_ hg (bk_ BK426.out)); have n14_ := a_ (ng_ hg (bk_ BK426.out)); clear HO429; clear HO432; clear BK424; clear BK425; clear BK426; clear HB; have HO429 := n0_; have HO432 := n1_; have BK424 := n2_; have BK425 := n3_; have BK426 := n4_; have HB := n5_; have BK433 := n6_; have GW433 := n7_; have GE433 := n8_; have NB424_433 := n9_; have NB433_424 := n10_; have NB425_433 := n11_; have NB433_425 := n12_; have NB426_433 := n13_; have NB433_426 := n14_; clear n0_ n1_ n2_ n3_ n4_ n5_ n6_ n7_ n8_ n9_ n10_ n11_ n12_ n13_ n14_; clear hb hbox hg; obtain ⟨Ao15, co15, eo15⟩ := Kd.N_slice HO429.out; subst eo15; have hnb16 := NB433_424.out; have hnc16 := NB424_433.out; have hnb17 := NB433_425.out; have hnc17 := NB425_433.out; have hnb18 := NB433_426.out; have hnc18 := NB426_433.out; have hcz19_0 := cz_ BK433 0; have hcz19_1 := cz_ BK433 1; have hfz19_0 := fz_ BK433 0; have hfz19_1 := fz_ BK433 1; obtain ⟨Ao20, co20, eo20⟩ := Kd.R_slice HO432.out; subst eo20; have hnb21 := NB425_426.out; have hnc21 := NB426_425.out; have hcz22_0 := cz_ BK425 0; have hcz22_1 := cz_ BK425 1; have hcz22_2 := cz_ BK425 2; have hfz22_0 := fz_ BK425 0; have hfz22_1 := fz_ BK425 1; have hfz22_2 := fz_ BK425 2) | ((with_reducible refine gate_builtin (b := .append) (xs := #[.tmp 11, .tmp 13]) rfl ?_); at_builtin; refine Kd.R_append k56 (w0 := w) w.heap.size rfl (.tmp 11) (.tmp 13) 46 56 (.agg #[(.int .i64 0), (.int .i64 0), (.int .i64 0)]) 24 rfl Try.underlying46 info56 rfl (by decide) (by omega) (.slice Ao20 t430.length co20) t430 (⟨a1_0, a1_1, a1_2⟩ : S56) [.int .i64 a1_0, .int .i64 a1_1, .int .i64 a1_2] (fun k_ => (w.heap.size ≤ k_) ∧ k_ ≠ gb425) (fun _ => False) rfl (by first | (go_simp; done) | (go_simp; rfl)) ?aP (fun _ hk => hk.elim) ?aF ?aO ?aB ?aS ?aL ?_; (case aP => exact k56_mkM _ _ _ (⟨a1_0, a1_1, a1_2⟩ : S56)); (case aB => exact bel_); (case aF => exact (fun k_ hk => ⟨(Nat.le_trans (below_size bel_) hk), Kd.freshB (g := gb425) (o := .cells #[.int .i64 a1_0, .int .i64 a1_1, .int .i64 a1_2] 56 (0, 0)) (by refine blk_far ?_ NB425_433.out _; refine blk_far ?_ NB425_433.out _; exact BK425.out) k_ hk⟩)); (case aO => exact (by (with_reducible repeat (first | apply Kd.R_alloc | apply Kd.R_drewN | apply Kd.R_drew)); exact Kd.R_mono (Kd.R_far (p := ⟨gb433, 1, none⟩) (Kd.R_far (p := ⟨gb433, 0, none⟩) (Kd.R_types HO432.out BK433.out (by decide)) (fun _ hk => hk.2) (.slice Ao15 t427.length co15)) (fun _ hk => hk.2) (.slice Ao20 t430.length co20)) (fun _ hk => ⟨hk.1.1.1, hk.1.2⟩))); (case aS => exact (below_size bel_)); (case aL => have := LMc4.out; omega); intro v435 w23 ho hb hg hat; rw [← Ny434.out] at ho; have n0_ := a_ (blk_grown (g := gb424) (o := .cells #[.slice A0_0 l0_0.length c0_0, .slice A0_1 l0_1.length c0_1] 48 (0, 0)) (by refine blk_far ?_ NB424_433.out _; refine blk_far ?_ NB424_433.out _; exact BK424.out) hg (Kd.R_ne HO432.out BK424.out (by decide))); have n1_ := a_ (blk_grown (g := gb425) (o := .cells #[.int .i64 a1_0, .int .i64 a1_1, .int .i64 a1_2] 56 (0, 0)) (by refine blk_far ?_ NB425_433.out _; refine blk_far ?_ NB425_433.out _; exact BK425.out) hg (Kd.R_away HO432.out (fun _ hk => hk.2))); have n2_ := a_ (blk_grown (g := gb426) (o := .cells #[.slice none 0 0, .slice none 0 0] 48 (0, 0)) (by refine blk_far ?_ NB426_433.out _; refine blk_far ?_ NB426_433.out _; exact BK426.out) hg (Kd.R_ne HO432.out BK426.out (by decide))); have n3_ := a_ (Kd.N_afterv (ok := (fun k_ => (w.heap.size ≤ k_) ∧ k_ ≠ gb424 ∧ k_ ≠ gb425 ∧ k_ ≠ gb426 ∧ k_ ≠ gb433)) (by (with_reducible repeat (first | apply Kd.N_alloc | apply Kd.N_drewN | apply Kd.N_drew)); exact Kd.N_mono (Kd.N_far (p := ⟨gb433, 1, none⟩) (Kd.N_far (p := ⟨gb433, 0, none⟩) (Kd.N_mono HO429.out (fun k_ hk => (⟨hk, hk.2⟩ : _ ∧ k_ ≠ gb433))) (fun _ hk => hk.2) (.slice Ao15 t427.length co15)) (fun _ hk => hk.2) (.slice Ao20 t430.length co20)) (fun _ hk => ⟨⟨hk.1.1.1, ⟨hk.1.1.2.2.1, ⟨hk.1.1.2.2.2.1, ⟨hk.1.1.2.2.2.2, hk.1.2⟩⟩⟩⟩, hk.1.1.2.1⟩)) hg hat); have n4_ := a_ (blk_grown (g := gb433) (o := .cells #[.slice Ao15 t427.length co15, .slice Ao20 t430.length co20] 48 (0, 0)) (by refine blk_put (cs := #[.slice Ao15 t427.length co15, .slice none 0 0]) ?_ 1 _ rfl; refine blk_put (cs := #[.slice none 0 0, .slice none 0 0]) ?_ 0 _ rfl; exact BK433.out) hg (Kd.R_ne HO432.out BK433.out (by decide))); have n5_ := a_ (hb); have n6_ := a_ (ho); clear BK424; clear BK425; clear BK426; clear HO429; clear BK433; clear HB; clear HO432; have BK424 := n0_; have BK425 := n1_; have BK426 := n2_; have HO429 := n3_; have BK433 := n4_; have HB := n5_; have HO436 := n6_; clear n0_ n1_ n2_ n3_ n4_ n5_ n6_; clear ho hb hg hat; obtain ⟨Ao24, co24, eo24⟩ := Kd.R_slice HO436.out; subst eo24; have hcz25_0 := cz_ BK433 0; have hcz25_1 := cz_ BK433 1; have hfz25_0 := fz_ BK433 0; have hfz25_1 := fz_ BK433 1) | ((with_reducible refine gate_callee (f := 36) rfl ?_); refine gs_ (some 17) Try.func36 #[.agg #[.slice Ao15 t427.length co15, .slice Ao24 y434.length co24]] ?_; (with_reducible refine (patrol_Right.calls k _ _ t427 _ _ y434 t437 _ ?side1 ?side2 ?side3 ?side4 A5.out).mono ?_); (case side1 => refine (Kd.N_reads' (e := 63) (base := w.heap.size) (ok := fun k_ => (((w.heap.size ≤ k_) ∧ (k_ ≠ gb424 ∧ (k_ ≠ gb425 ∧ (k_ ≠ gb426 ∧ k_ ≠ gb433)))) ∧ some k_ ≠ (.slice Ao24 y434.length co24 : Value).ownBlock)) (n := t427.length) (c := co15) ?_).2.2; exact (by (with_reducible repeat (first | apply Kd.N_alloc | apply Kd.N_drewN | apply Kd.N_drew)); exact (Kd.N_mono (Kd.N_far (p := ⟨gb433, 1, none⟩) (Kd.N_mono HO429.out (fun k_ hk => (⟨hk, hk.1.2.2.2.2⟩ : _ ∧ k_ ≠ gb433))) (fun _ hk => hk.2) (.slice Ao24 y434.length co24)) (fun _ h_ => h_.1)))); (case side2 => exact (Kd.N_reads' HO429.out).2.1); (case side3 => refine (Kd.R_reads' (e := 56) (base := w.heap.size) (ok := fun k_ => ((w.heap.size ≤ k_) ∧ k_ ≠ gb425)) (n := y434.length) (c := co24) ?_).2.2; exact (by (with_reducible repeat (first | apply Kd.R_alloc | apply Kd.R_drewN | apply Kd.R_drew)); exact (Kd.R_mono (Kd.R_far (p := ⟨gb433, 1, none⟩) (Kd.R_types HO436.out BK433.out (by decide)) (fun _ hk => hk.2) (.slice Ao24 y434.length co24)) (fun _ h_ => h_.1)))); (case side4 => exact (Kd.R_reads' HO436.out).2.1); rintro e w26 ⟨rfl, hb⟩; refine ⟨_, rfl, ?_⟩; have n0_ := a_ (Kd.N_below (by (with_reducible repeat (first | apply Kd.N_alloc | apply Kd.N_drewN | apply Kd.N_drew)); exact (Kd.N_mono (Kd.N_far (p := ⟨gb433, 1, none⟩) (Kd.N_mono HO429.out (fun k_ hk => (⟨hk, hk.1.2.2.2.2⟩ : _ ∧ k_ ≠ gb433))) (fun _ hk => hk.2) (.slice Ao24 y434.length co24)) (fun _ h_ => h_.1))) hb); have n1_ := a_ (Kd.R_below (by (with_reducible repeat (first | apply Kd.R_alloc | apply Kd.R_drewN | apply Kd.R_drew)); exact (Kd.R_mono (Kd.R_far (p := ⟨gb433, 1, none⟩) (Kd.R_types HO436.out BK433.out (by decide)) (fun _ hk => hk.2) (.slice Ao24 y434.length co24)) (fun _ h_ => h_.1))) hb); have n2_ := a_ (blk_below (g := gb424) (o := .cells #[.slice A0_0 l0_0.length c0_0, .slice A0_1 l0_1.length c0_1] 48 (0, 0)) (by refine blk_far ?_ NB424_433.out _; exact BK424.out) hb); have n3_ := a_ (blk_below (g := gb425) (o := .cells #[.int .i64 a1_0, .int .i64 a1_1, .int .i64 a1_2] 56 (0, 0)) (by refine blk_far ?_ NB425_433.out _; exact BK425.out) hb); have n4_ := a_ (blk_below (g := gb426) (o := .cells #[.slice none 0 0, .slice none 0 0] 48 (0, 0)) (by refine blk_far ?_ NB426_433.out _; exact BK426.out) hb); have n5_ := a_ (blk_below (g := gb433) (o := .cells #[.slice Ao15 t427.length co15, .slice Ao24 y434.length co24] 48 (0, 0)) (by refine blk_put (cs := #[.slice Ao15 t427.length co15, .slice Ao20 t430.length co20]) ?_ 1 _ rfl; exact BK433.out) hb); have n6_ := a_ (below_step bel_ hb); clear HO429; clear HO436; clear BK424; clear BK425; clear BK426; clear BK433; clear HB; have HO429 := n0_; have HO436 := n1_; have BK424 := n2_; have BK425 := n3_; have BK426 := n4_; have BK433 := n5_; have HB := n6_; clear n0_ n1_ n2_ n3_ n4_ n5_ n6_; (try clear hb); (try clear hb2); (try clear hk); (try clear hi); have hcz27_0 := cz_ BK433 0; have hcz27_1 := cz_ BK433 1; have hfz27_0 := fz_ BK433 0; have hfz27_1 := fz_ BK433 1; have hcz28_0 := cz_ BK426 0; have hcz28_1 := cz_ BK426 1; have hfz28_0 := fz_ BK426 0; have hfz28_1 := fz_ BK426 1))
   refine bodyPost_ret (results_ct rfl _ _ gb426 48 #[.slice Ao15 t427.length co15, .slice Ao24 y434.length co24] (0, 0) _ rfl (by refine blk_put (cs := #[.slice Ao15 t427.length co15, .slice none 0 0]) ?_ 1 _ rfl; refine blk_put (cs := #[.slice none 0 0, .slice none 0 0]) ?_ 0 _ rfl; exact BK426.out) Try.underlying48 rfl (by kernel_rfl)) rfl ?_
   exact ⟨_, _, by first | rfl | (simp [errW_none, errW_some] <;> rfl) | (simp [*, errW_none, errW_some] <;> rfl), by (with_reducible repeat (first | apply Kd.N_alloc | apply Kd.N_drewN | apply Kd.N_drew)); exact Kd.N_mono (Kd.N_far (p := ⟨gb426, 1, none⟩) (Kd.N_far (p := ⟨gb426, 0, none⟩) (Kd.N_mono HO429.out (fun k_ hk => (⟨hk, hk.1.2.2.2.1⟩ : _ ∧ k_ ≠ gb426))) (fun _ hk => hk.2) (.slice Ao15 t427.length co15)) (fun _ hk => hk.2) (.slice Ao24 y434.length co24)) (fun _ hk => ⟨hk.1.1.1, hk.1.2⟩), by (with_reducible repeat (first | apply Kd.R_alloc | apply Kd.R_drewN | apply Kd.R_drew)); exact Kd.R_mono (Kd.R_far (p := ⟨gb426, 1, none⟩) (Kd.R_far (p := ⟨gb426, 0, none⟩) (Kd.R_types HO436.out BK426.out (by decide)) (fun _ hk => hk.2) (.slice Ao15 t427.length co15)) (fun _ hk => hk.2) (.slice Ao24 y434.length co24)) (fun _ hk => hk.1.1), by repeat (first | (with_reducible first | exact HB.out | apply below_alloc | apply pw_below_drewN | apply below_drew1 | refine below_set ?_ GE424.out | refine below_set ?_ GE425.out | refine below_set ?_ GE426.out | refine below_set ?_ GE433.out) | exact HB.out)⟩
  ·rw [if_neg c6] at H
   have c6b0 : (t437 == 0) = false := beq_eq_false_iff_ne.mpr c6
   have c6b1 : (t437 != 0) = true := bne_iff_ne.mpr c6
   simp only [Option.some.injEq, Prod.mk.injEq] at H
   obtain ⟨rfl, rfl, rfl⟩ := H
   go_enter Try.func42, Try.ntmps42
   go_wp2_with (first | ((with_reducible refine gate_dst (N := 2) rfl ?_); refine box_event ?hg (N := 2) ?hd (cs := #[.slice A0_0 l0_0.length c0_0, .slice A0_1 l0_1.length c0_1]) (t := 48) ?hr ?_; (case hd => rfl); (case hg => rfl); (case hr => first | (go_simp; done) | (go_simp; rfl)); intro gb424 hg w29 hbox hb; have n0_ := a_ (below_step bel_ hb); have n1_ := a_ (hbox); have n2_ := a_ (bz_ hg : w.heap.size ≤ gb424); have n3_ := a_ (bz_ hg : w.heap.size ≤ gb424); clear HB; have HB := n0_; have BK424 := n1_; have GW424 := n2_; have GE424 := n3_; clear n0_ n1_ n2_ n3_; clear hb hbox hg) | ((with_reducible refine gate_dst (N := 3) rfl ?_); refine box_event ?hg (N := 3) ?hd (cs := #[.int .i64 a1_0, .int .i64 a1_1, .int .i64 a1_2]) (t := 56) ?hr ?_; (case hd => rfl); (case hg => rfl); (case hr => first | (go_simp; done) | (go_simp; rfl)); intro gb425 hg w30 hbox hb; have n0_ := a_ (blk_below (bk_ BK424.out) hb); have n1_ := a_ (below_step bel_ hb); have n2_ := a_ (hbox); have n3_ := a_ (bz_ hg : w.heap.size ≤ gb425); have n4_ := a_ (bz_ hg : w.heap.size ≤ gb425); have n5_ := a_ (nl_ hg (bk_ BK424.out)); have n6_ := a_ (ng_ hg (bk_ BK424.out)); clear BK424; clear HB; have BK424 := n0_; have HB := n1_; have BK425 := n2_; have GW425 := n3_; have GE425 := n4_; have NB424_425 := n5_; have NB425_424 := n6_; clear n0_ n1_ n2_ n3_ n4_ n5_ n6_; clear hb hbox hg) | ((with_reducible refine gate_dst (N := 4) rfl ?_); refine box_event ?hg (N := 4) ?hd (cs := #[.slice none 0 0, .slice none 0 0]) (t := 48) ?hr ?_; (case hd => rfl); (case hg => rfl); (case hr => first | (go_simp; done) | (go_simp; rfl)); intro gb426 hg w31 hbox hb; have n0_ := a_ (blk_below (bk_ BK424.out) hb); have n1_ := a_ (blk_below (bk_ BK425.out) hb); have n2_ := a_ (below_step bel_ hb); have n3_ := a_ (hbox); have n4_ := a_ (bz_ hg : w.heap.size ≤ gb426); have n5_ := a_ (bz_ hg : w.heap.size ≤ gb426); have n6_ := a_ (nl_ hg (bk_ BK424.out)); have n7_ := a_ (ng_ hg (bk_ BK424.out)); have n8_ := a_ (nl_ hg (bk_ BK425.out)); have n9_ := a_ (ng_ hg (bk_ BK425.out)); clear BK424; clear BK425; clear HB; have BK424 := n0_; have BK425 := n1_; have HB := n2_; have BK426 := n3_; have GW426 := n4_; have GE426 := n5_; have NB424_426 := n6_; have NB426_424 := n7_; have NB425_426 := n8_; have NB426_425 := n9_; clear n0_ n1_ n2_ n3_ n4_ n5_ n6_ n7_ n8_ n9_; clear hb hbox hg; have hnb32 := NB424_425.out; have hnc32 := NB425_424.out; have hnb33 := NB424_426.out; have hnc33 := NB426_424.out; have hcz34_0 := cz_ BK424 0; have hcz34_1 := cz_ BK424 1; have hfz34_0 := fz_ BK424 0; have hfz34_1 := fz_ BK424 1) | ((with_reducible refine gate_callee (f := 69) rfl ?_); refine gs_ (some 9) Try.func69 #[.agg #[.slice A0_0 l0_0.length c0_0, .slice A0_1 l0_1.length c0_1]] ?_; (with_reducible refine (patrol_copied.calls _ _ l0_0 _ _ l0_1 t427 t430 _ ?side1 ?side2 ?side3 ?side4 A3.out).mono ?_); (case side1 => exact kC_ (Kd.C_below HR0_0.out HB.out)); (case side2 => exact HC0_0.out); (case side3 => exact kC_ (Kd.C_below HR0_1.out HB.out)); (case side4 => exact HC0_1.out); rintro e w35 ⟨v428, v431, rfl, ho0, ho1, hb⟩; refine ⟨_, rfl, ?_⟩; have n0_ := a_ (Kd.N_lower (Kd.N_mono (ok' := fun k_ => (w.heap.size ≤ k_) ∧ some k_ ≠ (v431 : Value).ownBlock ∧ k_ ≠ gb424 ∧ k_ ≠ gb425 ∧ k_ ≠ gb426) ho0 (fun k_ hk_ => ⟨(Nat.le_trans (below_size bel_) hk_.1), hk_.2, (Kd.freshB (bk_ BK424.out) k_ hk_.1), (Kd.freshB (bk_ BK425.out) k_ hk_.1), (Kd.freshB (bk_ BK426.out) k_ hk_.1)⟩)) (below_size bel_)); have n1_ := a_ (Kd.R_lower (Kd.R_newB (Kd.R_newM (M := fun k_ => (w.heap.size ≤ k_)) (Kd.R_mono (ok' := fun k_ => True) ho1 (fun _ hk_ => trivial)) (below_size bel_) (fun k_ h_ => h_)) (bk_ BK425.out)) (below_size bel_)); have n2_ := a_ (blk_below (bk_ BK424.out) hb); have n3_ := a_ (blk_below (bk_ BK425.out) hb); have n4_ := a_ (blk_below (bk_ BK426.out) hb); have n5_ := a_ (below_step bel_ hb); clear BK424; clear BK425; clear BK426; clear HB; have HO429 := n0_; have HO432 := n1_; have BK424 := n2_; have BK425 := n3_; have BK426 := n4_; have HB := n5_; clear n0_ n1_ n2_ n3_ n4_ n5_; (try clear hb); (try clear hb2); (try clear hk); (try clear hi); (try clear ho0); (try clear ho1)) | ((with_reducible refine gate_dst (N := 6) rfl ?_); refine box_event ?hg (N := 6) ?hd (cs := #[.slice none 0 0, .slice none 0 0]) (t := 48) ?hr ?_; (case hd => rfl); (case hg => rfl); (case hr => first | (go_simp; done) | (go_simp; rfl)); intro gb433 hg w36 hbox hb; have n0_ := a_ (Kd.N_below (Kd.N_elderB (kN_ HO429.out) gb433 (Nat.le_of_eq hg.symm)) hb); have n1_ := a_ (Kd.R_below (kR_ HO432.out) hb); have n2_ := a_ (blk_below (bk_ BK424.out) hb); have n3_ := a_ (blk_below (bk_ BK425.out) hb); have n4_ := a_ (blk_below (bk_ BK426.out) hb); have n5_ := a_ (below_step bel_ hb); have n6_ := a_ (hbox); have n7_ := a_ (bz_ hg : w.heap.size ≤ gb433); have n8_ := a_ (bz_ hg : w.heap.size ≤ gb433); have n9_ := a_ (nl_ hg (bk_ BK424.out)); have n10_ := a_ (ng_ hg (bk_ BK424.out)); have n11_ := a_ (nl_ hg (bk_ BK425.out)); have n12_ := a_ (ng_ hg (bk_ BK425.out)); have n13_ := a_ (nl_ hg (bk_ BK426.out)); have n14_ := a_ (ng_ hg (bk_ BK426.out)); clear HO429; clear HO432; clear BK424; clear BK425; clear BK426; clear HB; have HO429 := n0_; have HO432 := n1_; have BK424 := n2_; have BK425 := n3_; have BK426 := n4_; have HB := n5_; have BK433 := n6_; have GW433 := n7_; have GE433 := n8_; have NB424_433 := n9_; have NB433_424 := n10_; have NB425_433 := n11_; have NB433_425 := n12_; have NB426_433 := n13_; have NB433_426 := n14_; clear n0_ n1_ n2_ n3_ n4_ n5_ n6_ n7_ n8_ n9_ n10_ n11_ n12_ n13_ n14_; clear hb hbox hg; obtain ⟨Ao37, co37, eo37⟩ := Kd.N_slice HO429.out; subst eo37; have hnb38 := NB433_424.out; have hnc38 := NB424_433.out; have hnb39 := NB433_425.out; have hnc39 := NB425_433.out; have hnb40 := NB433_426.out; have hnc40 := NB426_433.out; have hcz41_0 := cz_ BK433 0; have hcz41_1 := cz_ BK433 1; have hfz41_0 := fz_ BK433 0; have hfz41_1 := fz_ BK433 1; obtain ⟨Ao42, co42, eo42⟩ := Kd.R_slice HO432.out; subst eo42; have hnb43 := NB425_426.out; have hnc43 := NB426_425.out; have hcz44_0 := cz_ BK425 0; have hcz44_1 := cz_ BK425 1; have hcz44_2 := cz_ BK425 2; have hfz44_0 := fz_ BK425 0; have hfz44_1 := fz_ BK425 1; have hfz44_2 := fz_ BK425 2) | ((with_reducible refine gate_builtin (b := .append) (xs := #[.tmp 11, .tmp 13]) rfl ?_); at_builtin; refine Kd.R_append k56 (w0 := w) w.heap.size rfl (.tmp 11) (.tmp 13) 46 56 (.agg #[(.int .i64 0), (.int .i64 0), (.int .i64 0)]) 24 rfl Try.underlying46 info56 rfl (by decide) (by omega) (.slice Ao42 t430.length co42) t430 (⟨a1_0, a1_1, a1_2⟩ : S56) [.int .i64 a1_0, .int .i64 a1_1, .int .i64 a1_2] (fun k_ => (w.heap.size ≤ k_) ∧ k_ ≠ gb425) (fun _ => False) rfl (by first | (go_simp; done) | (go_simp; rfl)) ?aP (fun _ hk => hk.elim) ?aF ?aO ?aB ?aS ?aL ?_; (case aP => exact k56_mkM _ _ _ (⟨a1_0, a1_1, a1_2⟩ : S56)); (case aB => exact bel_); (case aF => exact (fun k_ hk => ⟨(Nat.le_trans (below_size bel_) hk), Kd.freshB (g := gb425) (o := .cells #[.int .i64 a1_0, .int .i64 a1_1, .int .i64 a1_2] 56 (0, 0)) (by refine blk_far ?_ NB425_433.out _; refine blk_far ?_ NB425_433.out _; exact BK425.out) k_ hk⟩)); (case aO => exact (by (with_reducible repeat (first | apply Kd.R_alloc | apply Kd.R_drewN | apply Kd.R_drew)); exact Kd.R_mono (Kd.R_far (p := ⟨gb433, 1, none⟩) (Kd.R_far (p := ⟨gb433, 0, none⟩) (Kd.R_types HO432.out BK433.out (by decide)) (fun _ hk => hk.2) (.slice Ao37 t427.length co37)) (fun _ hk => hk.2) (.slice Ao42 t430.length co42)) (fun _ hk => ⟨hk.1.1.1, hk.1.2⟩))); (case aS => exact (below_size bel_)); (case aL => have := LMc4.out; omega); intro v435 w45 ho hb hg hat; rw [← Ny434.out] at ho; have n0_ := a_ (blk_grown (g := gb424) (o := .cells #[.slice A0_0 l0_0.length c0_0, .slice A0_1 l0_1.length c0_1] 48 (0, 0)) (by refine blk_far ?_ NB424_433.out _; refine blk_far ?_ NB424_433.out _; exact BK424.out) hg (Kd.R_ne HO432.out BK424.out (by decide))); have n1_ := a_ (blk_grown (g := gb425) (o := .cells #[.int .i64 a1_0, .int .i64 a1_1, .int .i64 a1_2] 56 (0, 0)) (by refine blk_far ?_ NB425_433.out _; refine blk_far ?_ NB425_433.out _; exact BK425.out) hg (Kd.R_away HO432.out (fun _ hk => hk.2))); have n2_ := a_ (blk_grown (g := gb426) (o := .cells #[.slice none 0 0, .slice none 0 0] 48 (0, 0)) (by refine blk_far ?_ NB426_433.out _; refine blk_far ?_ NB426_433.out _; exact BK426.out) hg (Kd.R_ne HO432.out BK426.out (by decide))); have n3_ := a_ (Kd.N_afterv (ok := (fun k_ => (w.heap.size ≤ k_) ∧ k_ ≠ gb424 ∧ k_ ≠ gb425 ∧ k_ ≠ gb426 ∧ k_ ≠ gb433)) (by (with_reducible repeat (first | apply Kd.N_alloc | apply Kd.N_drewN | apply Kd.N_drew)); exact Kd.N_mono (Kd.N_far (p := ⟨gb433, 1, none⟩) (Kd.N_far (p := ⟨gb433, 0, none⟩) (Kd.N_mono HO429.out (fun k_ hk => (⟨hk, hk.2⟩ : _ ∧ k_ ≠ gb433))) (fun _ hk => hk.2) (.slice Ao37 t427.length co37)) (fun _ hk => hk.2) (.slice Ao42 t430.length co42)) (fun _ hk => ⟨⟨hk.1.1.1, ⟨hk.1.1.2.2.1, ⟨hk.1.1.2.2.2.1, ⟨hk.1.1.2.2.2.2, hk.1.2⟩⟩⟩⟩, hk.1.1.2.1⟩)) hg hat); have n4_ := a_ (blk_grown (g := gb433) (o := .cells #[.slice Ao37 t427.length co37, .slice Ao42 t430.length co42] 48 (0, 0)) (by refine blk_put (cs := #[.slice Ao37 t427.length co37, .slice none 0 0]) ?_ 1 _ rfl; refine blk_put (cs := #[.slice none 0 0, .slice none 0 0]) ?_ 0 _ rfl; exact BK433.out) hg (Kd.R_ne HO432.out BK433.out (by decide))); have n5_ := a_ (hb); have n6_ := a_ (ho); clear BK424; clear BK425; clear BK426; clear HO429; clear BK433; clear HB; clear HO432; have BK424 := n0_; have BK425 := n1_; have BK426 := n2_; have HO429 := n3_; have BK433 := n4_; have HB := n5_; have HO436 := n6_; clear n0_ n1_ n2_ n3_ n4_ n5_ n6_; clear ho hb hg hat; obtain ⟨Ao46, co46, eo46⟩ := Kd.R_slice HO436.out; subst eo46; have hcz47_0 := cz_ BK433 0; have hcz47_1 := cz_ BK433 1; have hfz47_0 := fz_ BK433 0; have hfz47_1 := fz_ BK433 1) | ((with_reducible refine gate_callee (f := 36) rfl ?_); refine gs_ (some 17) Try.func36 #[.agg #[.slice Ao37 t427.length co37, .slice Ao46 y434.length co46]] ?_; (with_reducible refine (patrol_Right.calls k _ _ t427 _ _ y434 t437 _ ?side1 ?side2 ?side3 ?side4 A5.out).mono ?_); (case side1 => refine (Kd.N_reads' (e := 63) (base := w.heap.size) (ok := fun k_ => (((w.heap.size ≤ k_) ∧ (k_ ≠ gb424 ∧ (k_ ≠ gb425 ∧ (k_ ≠ gb426 ∧ k_ ≠ gb433)))) ∧ some k_ ≠ (.slice Ao46 y434.length co46 : Value).ownBlock)) (n := t427.length) (c := co37) ?_).2.2; exact (by (with_reducible repeat (first | apply Kd.N_alloc | apply Kd.N_drewN | apply Kd.N_drew)); exact (Kd.N_mono (Kd.N_far (p := ⟨gb433, 1, none⟩) (Kd.N_mono HO429.out (fun k_ hk => (⟨hk, hk.1.2.2.2.2⟩ : _ ∧ k_ ≠ gb433))) (fun _ hk => hk.2) (.slice Ao46 y434.length co46)) (fun _ h_ => h_.1)))); (case side2 => exact (Kd.N_reads' HO429.out).2.1); (case side3 => refine (Kd.R_reads' (e := 56) (base := w.heap.size) (ok := fun k_ => ((w.heap.size ≤ k_) ∧ k_ ≠ gb425)) (n := y434.length) (c := co46) ?_).2.2; exact (by (with_reducible repeat (first | apply Kd.R_alloc | apply Kd.R_drewN | apply Kd.R_drew)); exact (Kd.R_mono (Kd.R_far (p := ⟨gb433, 1, none⟩) (Kd.R_types HO436.out BK433.out (by decide)) (fun _ hk => hk.2) (.slice Ao46 y434.length co46)) (fun _ h_ => h_.1)))); (case side4 => exact (Kd.R_reads' HO436.out).2.1); rintro e w48 ⟨rfl, hb⟩; refine ⟨_, rfl, ?_⟩; have n0_ := a_ (Kd.N_below (by (with_reducible repeat (first | apply Kd.N_alloc | apply Kd.N_drewN | apply Kd.N_drew)); exact (Kd.N_mono (Kd.N_far (p := ⟨gb433, 1, none⟩) (Kd.N_mono HO429.out (fun k_ hk => (⟨hk, hk.1.2.2.2.2⟩ : _ ∧ k_ ≠ gb433))) (fun _ hk => hk.2) (.slice Ao46 y434.length co46)) (fun _ h_ => h_.1))) hb); have n1_ := a_ (Kd.R_below (by (with_reducible repeat (first | apply Kd.R_alloc | apply Kd.R_drewN | apply Kd.R_drew)); exact (Kd.R_mono (Kd.R_far (p := ⟨gb433, 1, none⟩) (Kd.R_types HO436.out BK433.out (by decide)) (fun _ hk => hk.2) (.slice Ao46 y434.length co46)) (fun _ h_ => h_.1))) hb); have n2_ := a_ (blk_below (g := gb424) (o := .cells #[.slice A0_0 l0_0.length c0_0, .slice A0_1 l0_1.length c0_1] 48 (0, 0)) (by refine blk_far ?_ NB424_433.out _; exact BK424.out) hb); have n3_ := a_ (blk_below (g := gb425) (o := .cells #[.int .i64 a1_0, .int .i64 a1_1, .int .i64 a1_2] 56 (0, 0)) (by refine blk_far ?_ NB425_433.out _; exact BK425.out) hb); have n4_ := a_ (blk_below (g := gb426) (o := .cells #[.slice none 0 0, .slice none 0 0] 48 (0, 0)) (by refine blk_far ?_ NB426_433.out _; exact BK426.out) hb); have n5_ := a_ (blk_below (g := gb433) (o := .cells #[.slice Ao37 t427.length co37, .slice Ao46 y434.length co46] 48 (0, 0)) (by refine blk_put (cs := #[.slice Ao37 t427.length co37, .slice Ao42 t430.length co42]) ?_ 1 _ rfl; exact BK433.out) hb); have n6_ := a_ (below_step bel_ hb); clear HO429; clear HO436; clear BK424; clear BK425; clear BK426; clear BK433; clear HB; have HO429 := n0_; have HO436 := n1_; have BK424 := n2_; have BK425 := n3_; have BK426 := n4_; have BK433 := n5_; have HB := n6_; clear n0_ n1_ n2_ n3_ n4_ n5_ n6_; (try clear hb); (try clear hb2); (try clear hk); (try clear hi); have hcz49_0 := cz_ BK426 0; have hcz49_1 := cz_ BK426 1; have hfz49_0 := fz_ BK426 0; have hfz49_1 := fz_ BK426 1))
   refine bodyPost_ret (results_ct rfl _ _ gb426 48 #[.slice none 0 0, .slice none 0 0] (0, 0) _ rfl (by refine blk_put (cs := #[.slice none 0 0, .slice none 0 0]) ?_ 1 _ rfl; refine blk_put (cs := #[.slice none 0 0, .slice none 0 0]) ?_ 0 _ rfl; exact BK426.out) Try.underlying48 rfl (by kernel_rfl)) rfl ?_
   exact ⟨_, _, by first | rfl | (simp [errW_none, errW_some] <;> rfl) | (simp [*, errW_none, errW_some] <;> rfl), by first | exact Kd.S_nil _ _ _ _ _ | exact Kd.N_nil _ _ _ _ _ | exact Kd.V_nil _ _ _ _ _ | exact Kd.Q_nil _ _ _ _ _ | exact Kd.R_nil _ _ _ _ _, by first | exact Kd.R_nil _ _ _ _ _ | exact Kd.N_nil _ _ _ _ _ | exact Kd.V_nil _ _ _ _ _ | exact Kd.Q_nil _ _ _ _ _ | exact Kd.S_nil _ _ _ _ _, by repeat (first | (with_reducible first | exact HB.out | apply below_alloc | apply pw_below_drewN | apply below_drew1 | refine below_set ?_ GE424.out | refine below_set ?_ GE425.out | refine below_set ?_ GE426.out | refine below_set ?_ GE433.out) | exact HB.out)⟩
 ·rw [if_neg c4] at H
  exact absurd H (by simp)
theorem zero56 (w : World) : (zeroValue 56).run Try.prog w = .ok (.agg #[.int .i64 0, .int .i64 0, .int .i64 0]) w := by kernel_rfl
theorem clear56 (W : World) (g o c : Nat) (hc : ∀ j, j < 3 → (W.cell? ⟨g, o + j, none⟩).isSome = true) (hf : ∀ j, W.frozen? ⟨g, j, none⟩ = false) (ty : TypeId) :
  (Builtin.clear_ #[46] ty #[.slice (some ⟨g, o, none⟩) 1 c]).run Try.prog W = .ok (.tuple #[]) (W.setCells g o [.int .i64 0, .int .i64 0, .int .i64 0]) := by
 have hzc : (Builtin.zeroCells (Value.agg #[.int .i64 0, .int .i64 0, .int .i64 0]).cells 1).toList = [.int .i64 0, .int .i64 0, .int .i64 0] := by kernel_rfl
 have hst := run_storeCells_cells (P := Try.prog) g o [.int .i64 0, .int .i64 0, .int .i64 0] 0 W (by simpa using hc) (fun j _ => hf _) (by intro v hv'; simp at hv'; rw [hv']; rfl)
 simp only [Nat.add_zero] at hst
 simp [Builtin.clear_, run_underlying Try.underlying46, zero56, hzc, hst]
/-- The row's cells behind its elements are no one's. -/
theorem R_past56 {base g n cap m : Nat} {ok : Nat → Prop} {W : World} {l : List S56} (h : k56.R 56 W base ok (.slice (some ⟨g, 0, none⟩) n cap) l) (hm : n ≤ m) (a b c : Value) :
  k56.R 56 (W.setCells g (m * 3) [a, b, c]) base ok (.slice (some ⟨g, 0, none⟩) n cap) l := by
 obtain ⟨h0, inner, ho, hr⟩ := h
 obtain ⟨hlen, ho⟩ := ho
 rcases ho with ⟨hv, _⟩ | ⟨g', cap', cur, hv, hb, hh, hn, hmx, hs, ht⟩
 ·cases hv
 injection hv with e1 e2 e3
 cases e1
 subst e3
 have hs3 : cur.size = cap * 3 := hs
 refine ⟨h0, inner, ⟨hlen, .inr ⟨g, cap, ((cur.setIfInBounds (m * 3) a).setIfInBounds (m * 3 + 1) b).setIfInBounds (m * 3 + 2) c, by rw [e2], hb, ?_, hn, hmx, by simp only [Array.size_setIfInBounds]; exact hs, ?_⟩⟩, hr.imp_ (fun x cs hx => ?_)⟩
 ·exact blk_put (blk_put (blk_put hh (m * 3) a rfl) (m * 3 + 1) b rfl) (m * 3 + 2) c rfl
 ·rw [← ht]
  simp only [Array.toList_setIfInBounds]
  show List.take (l.length * 3) _ = List.take (l.length * 3) _
  rw [List.take_set_of_le (by omega), List.take_set_of_le (by omega), List.take_set_of_le (by omega)]
 ·obtain rfl := k56_openM hx
  exact k56_mkM _ _ _ x
theorem R_cells56 {base g n cap : Nat} {ok : Nat → Prop} {W : World} {l : List S56} (h : k56.R 56 W base ok (.slice (some ⟨g, 0, none⟩) n cap) l) : (∀ j, j < cap * 3 → (W.cell? ⟨g, j, none⟩).isSome = true) ∧ (∀ j, W.frozen? ⟨g, j, none⟩ = false) ∧ base ≤ g ∧ g < W.heap.size ∧ n ≤ cap ∧ cap ≤ maxLen := by
 obtain ⟨h0, inner, ho, hr⟩ := h
 obtain ⟨hlen, ho⟩ := ho
 rcases ho with ⟨hv, _⟩ | ⟨g', cap', cur, hv, hb, hh, hn, hmx, hs, ht⟩
 ·cases hv
 injection hv with e1 e2 e3
 cases e1
 subst e3
 have hs3 : cur.size = cap * 3 := hs
 refine ⟨fun j hj => ?_, fun j => blk_frozen hh j, hb, blk_lt hh, by omega, hmx⟩
 rw [blk_cell hh j, Array.getElem?_eq_getElem (by omega)]
 rfl
def delete56.T5 : Bool × List (List Nat × List Nat) := (true, [([], []), ([], []), ([0, 1], [0, 1]), ([], []), ([], []), ([3, 4], [3, 4]), ([2, 5], [2, 5]), ([6, 6, 0, 1, 2, 3, 4, 5, 6], [0, 3, 6])])
def delete56.B5 : List Nat := [0, 0, 3, 0, 0, 24, 63, 127]
theorem delete56.tab5 : rtab .any (opsOf Try.f71 5) = delete56.T5 := by kernel_rfl
theorem delete56.bits5 : waitsOk delete56.T5.2 delete56.B5 = true := by kernel_rfl
set_option maxHeartbeats 8000000 in
set_option maxRecDepth 100000 in
theorem delete56.calls (g cap : Nat) (i : Int) (l : List S56) (base : Nat) (ok : Nat → Prop) (w : World) (hO : k56.R 56 w base ok (.slice (some ⟨g, 0, none⟩) l.length cap) l) (h0 : 0 ≤ i) (h1 : i < l.length) (hbs : base ≤ w.heap.size) :
  Calls Try.prog 71 #[.slice (some ⟨g, 0, none⟩) l.length cap, .int .i64 i, .int .i64 (i + 1)] w fun e w' => e = .returned (.slice (some ⟨g, 0, none⟩) (l.length - 1) cap) ∧ k56.R 56 w' base ok (.slice (some ⟨g, 0, none⟩) (l.length - 1) cap) (l.eraseIdx i.toNat) ∧ Below base w w' ∧ (∀ k, k ≠ g → k < w.heap.size → w'.heap[k]? = w.heap[k]?) ∧ w.heap.size ≤ w'.heap.size := by
 have hu46 := Try.underlying46
 obtain ⟨hcell, hfr, hbg, hgl, hlc, hcm⟩ := R_cells56 hO
 have hmax : maxLen = 9223372036854775807 := rfl
 obtain ⟨n, hn⟩ : ∃ n, l.length = n + 1 := ⟨l.length - 1, by omega⟩
 rw [hn] at hO h1 hlc ⊢
 rw [Nat.add_sub_cancel]
 have HN := a_ hn
 clear hn
 have HO := a_ hO
 have HCM := a_ hcm
 have HLC := a_ hlc
 have HBG := a_ hbg
 have HBS := a_ hbs
 have H0 := a_ h0
 have H1 := a_ h1
 clear hO hcm hcell hfr hgl hbg hbs
 have d0 : decide (i = i + 1) = false := decide_eq_false (by omega)
 have p1 : 0 ≤ i + 1 := by omega
 have p2 : i + 1 ≤ ((n + 1 : Nat) : Int) := by omega
 have p3 : i ≤ i + 1 := by omega
 have p4 : i ≤ (cap : Int) := by omega
 have p5 : i + 1 ≤ (cap : Int) := by omega
 have p6 : ((n + 1 : Nat) : Int) ≤ (cap : Int) := by omega
 have p7 : ((n : Nat) : Int) ≤ ((n + 1 : Nat) : Int) := by omega
 have p8 : (0 : Int) ≤ ((n : Nat) : Int) := by omega
 have p9 : ((n : Nat) : Int) ≤ (cap : Int) := by omega
 have p10 : i ≤ (n : Int) := by omega
 have p11 : (n : Int) + 1 ≤ (cap : Int) := by omega
 have p12 : (n : Int) ≤ (n : Int) + 1 := by omega
 have p13 : i + 1 ≤ (n : Int) + 1 := by omega
 have q1 : (cap = n) = False := eq_false (by omega)
 have q2 : n + 1 - n = 1 := by omega
 go_enter Try.func71, Try.ntmps71
 go_upto_region 5 with fail
 refine start_ (n := 8) (S := fun w' => True) (ds := []) #[false, false, false, false, false, false, false, false] (by kernel_rfl) rfl rfl trivial (fun hHeld => ?_)
 refine with_tabW delete56.tab5 delete56.bits5 (fun HT_ HW_ => ?_)
 refine pq_ 0 (some 20) #[true, false, false, false, false, false, false, false] ?_
 refine pq_ 1 (some 21) #[true, true, false, false, false, false, false, false] ?_
 refine pq_ 3 (some 23) #[true, true, false, true, false, false, false, false] ?_
 refine pq_ 4 (some 24) #[true, true, false, true, true, false, false, false] ?_
 refine pq_ 2 (some 22) #[true, true, true, true, true, false, false, false] ?_
 refine pq_ 5 (some 25) #[true, true, true, true, true, true, false, false] ?_
 refine one_ (i := 6) (N := some 26) #[true, true, true, true, true, true, true, false] rfl rfl (one_of HT_.out (by kernel_rfl)) (by decide) (fun K hK => ?_)
 refine Kd.R_delete_step k56 (w0 := w) base (by rfl) (.tmp 22) (.tmp 25) 46 56 rfl hu46 (by kernel_rfl) (g := g) (n := n + 1) (c := cap) (k := i.toNat) (m := n + 1 - (i + 1).toNat) (c2 := cap - (i + 1).toNat) (A := if cap = (i + 1).toNat then some ⟨g, 0, none⟩ else some ⟨g, (i + 1).toNat * 3, none⟩) (xs := l) (ok := ok) rfl rfl ?hA (by have := H0.out; omega) (Kd.R_below HO.out (below_drew (Below.refl _ _))) (by have := H0.out; have := H1.out; omega) (below_drew1 (Below.refl base w)) HBS.out ?_
 case hA =>
  rw [show (i + 1).toNat = i.toNat + 1 by have := H0.out; omega]
  by_cases hq : cap = i.toNat + 1
  ·rw [if_pos hq, if_pos hq]
  ·rw [if_neg hq, if_neg hq, Option.map_some, add_plain]; rfl
 intro w1 hr hb hg
 rw [Nat.add_sub_cancel] at hr
 rw [Nat.add_sub_cancel]
 have HR := a_ hr
 have HBB := a_ hb
 have HG := a_ hg
 clear hr hb hg HO
 refine hK.out _ _ trivial (fun hHeld => ?_)
 clear hK K
 refine norm_ (a' := ?_) ?_ ?_
 rotate_left
 ·show Act.put _ (some 26) _ = _
  simp only [Act.put, List.setIfInBounds_toArray, List.set_cons_zero, List.set_cons_succ, i64_w, i32_w]
  rfl
 refine pq_ 7 (some 0) #[true, true, true, true, true, true, true, true] ?_
 refine done_ (done_of HT_.out (by kernel_rfl)) ?_
 generalize (if cap = (i + 1).toNat then (some ⟨g, 0, none⟩ : Option Addr) else some ⟨g, (i + 1).toNat * 3, none⟩) = A25
 have hcells := R_cells56 HR.out
 have hcl : ∀ ty, (Builtin.clear_ #[46] ty #[.slice (some ⟨g, n * 3, none⟩) 1 (cap - n)]).run Try.prog w1 = .ok (.tuple #[]) (w1.setCells g (n * 3) [.int .i64 0, .int .i64 0, .int .i64 0]) :=
  fun ty => clear56 w1 g (n * 3) (cap - n) (fun j hj => hcells.1 _ (by have := HLC.out; omega)) hcells.2.1 ty
 clear hcells
 go_wp2_with (simp only [hcl])
 go_ret
 have hbg := HBG.out
 refine ⟨rfl, ?_, ?_, ?_, ?_⟩
 ·exact R_past56 HR.out (Nat.le_refl _) _ _ _
 ·exact ((HBB.out.setCell hbg _).setCell hbg _).setCell hbg _
 ·intro k hk hlt
  show (((w1.setCell _ _).setCell _ _).setCell _ _).heap[k]? = _
  rw [Below.heap_setCell _ _ _ k hk, Below.heap_setCell _ _ _ k hk, Below.heap_setCell _ _ _ k hk]
  exact HG.out.block k hlt (by intro he; injection he with he; exact hk he)
 ·have h3 : (w1.setCells g (n * 3) [.int .i64 0, .int .i64 0, .int .i64 0]).heap.size = w1.heap.size := by simp only [World.setCells]; go_simp
  rw [h3]
  exact HG.out.size
def patrol_Remove.f (l0_0 : List S63) (l0_1 : List S56) (a1 : Int) : Option (List S63 × List S56 × Int) := (patrol_hazard.f l0_1 a1).bind fun t => if t < 0 then some (([] : List S63), ([] : List S56), 8) else (patrol_copied.f l0_0 l0_1).bind fun _ => if 0 ≤ t ∧ t < (l0_1.length : Int) then some (l0_0, l0_1.eraseIdx t.toNat, 0) else none
theorem copied_eq {l0_0 : List S63} {l0_1 : List S56} {p : List S63 × List S56} (h : patrol_copied.f l0_0 l0_1 = some p) : p = (l0_0, l0_1) := by
 unfold patrol_copied.f at h
 split at h
 ·exact (Option.some.inj h).symm
 ·cases h
set_option maxHeartbeats 8000000 in
set_option maxRecDepth 100000 in
theorem patrol_Remove.calls (A0_0 : Option Addr) (c0_0 : Nat) (l0_0 : List (S63)) (A0_1 : Option Addr) (c0_1 : Nat) (l0_1 : List (S56)) (a1 : Int) (r1 : List (S63)) (r2 : List (S56)) (r3 : Int) (w : World) (hr0_0 : Kd.C k63 w A0_0 l0_0.length l0_0) (hc0_0 : l0_0.length ≤ c0_0) (hr0_1 : Kd.C k56 w A0_1 l0_1.length l0_1) (hc0_1 : l0_1.length ≤ c0_1) (h : patrol_Remove.f l0_0 l0_1 a1 = some (r1, r2, r3)) :
  Calls Try.prog 44 #[.agg #[.slice A0_0 l0_0.length c0_0, .slice A0_1 l0_1.length c0_1], .int .i64 a1] w fun e w' => ∃ v0_ v1_ : Value, e = .returned (.tuple #[.agg #[v0_, v1_], .int .i64 r3]) ∧ Kd.N k63 63 w' w.heap.size (fun k_ => (w.heap.size ≤ k_) ∧ some k_ ≠ (v1_ : Value).ownBlock) v0_ r1 ∧ Kd.R k56 56 w' w.heap.size (fun k_ => (w.heap.size ≤ k_)) v1_ r2 ∧ Below w.heap.size w w' := by
 have hu48 := Try.underlying48
 have HR0_0 := a_ hr0_0
 have HC0_0 := a_ hc0_0
 have HR0_1 := a_ hr0_1
 have HC0_1 := a_ hc0_1
 have HMX := a_ (Kd.C_max hr0_1)
 clear hr0_0 hc0_0 hr0_1 hc0_1
 have HB := a_ (Below.refl w.heap.size w)
 unfold patrol_Remove.f at h
 obtain ⟨t, hhz, h⟩ := Option.bind_eq_some_iff.mp h
 have HHZ := a_ hhz
 clear hhz
 by_cases c4 : t < 0
 ·rw [if_pos c4] at h
  obtain ⟨rfl, rfl, rfl⟩ : ([] : List S63) = r1 ∧ ([] : List S56) = r2 ∧ (8 : Int) = r3 := by simpa using h
  have c4b0 : decide (t < 0) = true := decide_eq_true c4
  clear c4 h
  go_enter Try.func44, Try.ntmps44
  go_wp2_with (first | ((with_reducible refine gate_dst (N := 2) rfl ?_); refine box_event ?hg (N := 2) ?hd (cs := #[.slice A0_0 l0_0.length c0_0, .slice A0_1 l0_1.length c0_1]) (t := 48) ?hr ?_; (case hd => rfl); (case hg => rfl); (case hr => first | (go_simp; done) | (go_simp; rfl)); intro gP hg w_gP hbox hb; have n0_ := a_ (below_step bel_ hb); have n1_ := a_ (hbox); have n2_ := a_ ((by rw [hg]; exact (below_size bel_) : w.heap.size ≤ gP)); clear HB; have HB := n0_; have BKgP := n1_; have GEgP := n2_; clear n0_ n1_ n2_; clear hb hbox hg; have hczgP_0 : w_gP.cell? ⟨gP, 0, none⟩ = some (.slice A0_0 l0_0.length c0_0) := (blk_cell BKgP.out 0).trans rfl; have hczgP_1 : w_gP.cell? ⟨gP, 1, none⟩ = some (.slice A0_1 l0_1.length c0_1) := (blk_cell BKgP.out 1).trans rfl; have hfzgP_0 := blk_frozen BKgP.out 0; have hfzgP_1 := blk_frozen BKgP.out 1) | ((with_reducible refine gate_dst (N := 4) rfl ?_); refine box_event ?hg (N := 4) ?hd (cs := #[.slice none 0 0, .slice none 0 0]) (t := 48) ?hr ?_; (case hd => rfl); (case hg => rfl); (case hr => first | (go_simp; done) | (go_simp; rfl)); intro gR hg w_gR hbox hb; have n0_ := a_ (below_step bel_ hb); have n1_ := a_ (hbox); have n2_ := a_ ((by rw [hg]; exact (below_size bel_) : w.heap.size ≤ gR)); clear HB; have HB := n0_; have BKgR := n1_; have GEgR := n2_; clear n0_ n1_ n2_; have m_gP := a_ (blk_below BKgP.out hb); clear BKgP; (try clear hczgP_0 hczgP_1); (try clear hfzgP_0 hfzgP_1); have BKgP := m_gP; clear m_gP; have hczgP_0 : w_gR.cell? ⟨gP, 0, none⟩ = some (.slice A0_0 l0_0.length c0_0) := (blk_cell BKgP.out 0).trans rfl; have hczgP_1 : w_gR.cell? ⟨gP, 1, none⟩ = some (.slice A0_1 l0_1.length c0_1) := (blk_cell BKgP.out 1).trans rfl; have hfzgP_0 := blk_frozen BKgP.out 0; have hfzgP_1 := blk_frozen BKgP.out 1; clear hb hbox hg; have hczgR_0 : w_gR.cell? ⟨gR, 0, none⟩ = some (.slice none 0 0) := (blk_cell BKgR.out 0).trans rfl; have hczgR_1 : w_gR.cell? ⟨gR, 1, none⟩ = some (.slice none 0 0) := (blk_cell BKgR.out 1).trans rfl; have hfzgR_0 := blk_frozen BKgR.out 0; have hfzgR_1 := blk_frozen BKgR.out 1) | (go_at_call 66; (with_reducible refine (patrol_hazard.calls A0_1 c0_1 l0_1 a1 t _ ?s1 HC0_1.out HHZ.out).mono ?_); (case s1 => exact Kd.C_below HR0_1.out HB.out); rintro e w2 ⟨rfl, hb⟩; have n0_ := a_ (below_step HB.out hb); clear HB; have HB := n0_; clear n0_; have m_gP := a_ (blk_below BKgP.out hb); clear BKgP; (try clear hczgP_0 hczgP_1); (try clear hfzgP_0 hfzgP_1); have BKgP := m_gP; clear m_gP; have hczgP_0 : w2.cell? ⟨gP, 0, none⟩ = some (.slice A0_0 l0_0.length c0_0) := (blk_cell BKgP.out 0).trans rfl; have hczgP_1 : w2.cell? ⟨gP, 1, none⟩ = some (.slice A0_1 l0_1.length c0_1) := (blk_cell BKgP.out 1).trans rfl; have hfzgP_0 := blk_frozen BKgP.out 0; have hfzgP_1 := blk_frozen BKgP.out 1; have m_gR := a_ (blk_below BKgR.out hb); clear BKgR; (try clear hczgR_0 hczgR_1); (try clear hfzgR_0 hfzgR_1); have BKgR := m_gR; clear m_gR; have hczgR_0 : w2.cell? ⟨gR, 0, none⟩ = some (.slice none 0 0) := (blk_cell BKgR.out 0).trans rfl; have hczgR_1 : w2.cell? ⟨gR, 1, none⟩ = some (.slice none 0 0) := (blk_cell BKgR.out 1).trans rfl; have hfzgR_0 := blk_frozen BKgR.out 0; have hfzgR_1 := blk_frozen BKgR.out 1; clear hb))
  have hge := GEgR.out
  refine bodyPost_ret (results_ct rfl _ _ gR 48 #[.slice none 0 0, .slice none 0 0] (0, 0) _ rfl (blk_put (cs := #[.slice none 0 0, .slice none 0 0]) (blk_put (cs := #[.slice none 0 0, .slice none 0 0]) BKgR.out 0 _ rfl) 1 _ rfl) Try.underlying48 rfl (by kernel_rfl)) rfl ?_
  exact ⟨_, _, rfl, Kd.N_nil _ _ _ _ _, Kd.R_nil _ _ _ _ _, below_set (below_set HB.out hge) hge⟩
 ·rw [if_neg c4] at h
  obtain ⟨q, hcp, h⟩ := Option.bind_eq_some_iff.mp h
  obtain rfl := copied_eq hcp
  by_cases c5 : 0 ≤ t ∧ t < (l0_1.length : Int)
  case neg => (rw [if_neg c5] at h; exact absurd h (by simp))
  rw [if_pos c5] at h
  obtain ⟨rfl, rfl, rfl⟩ : l0_0 = r1 ∧ l0_1.eraseIdx t.toNat = r2 ∧ (0 : Int) = r3 := by simpa using h
  obtain ⟨ht0, ht1⟩ := c5
  have HCP := a_ hcp
  have HT0 := a_ ht0
  have HT1 := a_ ht1
  have HW : Aside0 (wrap64 (t + 1) = t + 1) := ⟨by have h1 := HMX.out; unfold wrap64; omega⟩
  have c4b0 : decide (t < 0) = false := decide_eq_false c4
  clear c4 h hcp ht0 ht1
  go_enter Try.func44, Try.ntmps44
  go_upto_region 5 with (first | ((with_reducible refine gate_dst (N := 2) rfl ?_); refine box_event ?hg (N := 2) ?hd (cs := #[.slice A0_0 l0_0.length c0_0, .slice A0_1 l0_1.length c0_1]) (t := 48) ?hr ?_; (case hd => rfl); (case hg => rfl); (case hr => first | (go_simp; done) | (go_simp; rfl)); intro gP hg w_gP hbox hb; have n0_ := a_ (below_step bel_ hb); have n1_ := a_ (hbox); have n2_ := a_ ((by rw [hg]; exact (below_size bel_) : w.heap.size ≤ gP)); clear HB; have HB := n0_; have BKgP := n1_; have GEgP := n2_; clear n0_ n1_ n2_; clear hb hbox hg; have hczgP_0 : w_gP.cell? ⟨gP, 0, none⟩ = some (.slice A0_0 l0_0.length c0_0) := (blk_cell BKgP.out 0).trans rfl; have hczgP_1 : w_gP.cell? ⟨gP, 1, none⟩ = some (.slice A0_1 l0_1.length c0_1) := (blk_cell BKgP.out 1).trans rfl; have hfzgP_0 := blk_frozen BKgP.out 0; have hfzgP_1 := blk_frozen BKgP.out 1) | ((with_reducible refine gate_dst (N := 4) rfl ?_); refine box_event ?hg (N := 4) ?hd (cs := #[.slice none 0 0, .slice none 0 0]) (t := 48) ?hr ?_; (case hd => rfl); (case hg => rfl); (case hr => first | (go_simp; done) | (go_simp; rfl)); intro gR hg w_gR hbox hb; have n0_ := a_ (below_step bel_ hb); have n1_ := a_ (hbox); have n2_ := a_ ((by rw [hg]; exact (below_size bel_) : w.heap.size ≤ gR)); clear HB; have HB := n0_; have BKgR := n1_; have GEgR := n2_; clear n0_ n1_ n2_; have m_gP := a_ (blk_below BKgP.out hb); clear BKgP; (try clear hczgP_0 hczgP_1); (try clear hfzgP_0 hfzgP_1); have BKgP := m_gP; clear m_gP; have hczgP_0 : w_gR.cell? ⟨gP, 0, none⟩ = some (.slice A0_0 l0_0.length c0_0) := (blk_cell BKgP.out 0).trans rfl; have hczgP_1 : w_gR.cell? ⟨gP, 1, none⟩ = some (.slice A0_1 l0_1.length c0_1) := (blk_cell BKgP.out 1).trans rfl; have hfzgP_0 := blk_frozen BKgP.out 0; have hfzgP_1 := blk_frozen BKgP.out 1; clear hb hbox hg; have hczgR_0 : w_gR.cell? ⟨gR, 0, none⟩ = some (.slice none 0 0) := (blk_cell BKgR.out 0).trans rfl; have hczgR_1 : w_gR.cell? ⟨gR, 1, none⟩ = some (.slice none 0 0) := (blk_cell BKgR.out 1).trans rfl; have hfzgR_0 := blk_frozen BKgR.out 0; have hfzgR_1 := blk_frozen BKgR.out 1) | (go_at_call 66; (with_reducible refine (patrol_hazard.calls A0_1 c0_1 l0_1 a1 t _ ?s1 HC0_1.out HHZ.out).mono ?_); (case s1 => exact Kd.C_below HR0_1.out HB.out); rintro e w2 ⟨rfl, hb⟩; have n0_ := a_ (below_step HB.out hb); clear HB; have HB := n0_; clear n0_; have m_gP := a_ (blk_below BKgP.out hb); clear BKgP; (try clear hczgP_0 hczgP_1); (try clear hfzgP_0 hfzgP_1); have BKgP := m_gP; clear m_gP; have hczgP_0 : w2.cell? ⟨gP, 0, none⟩ = some (.slice A0_0 l0_0.length c0_0) := (blk_cell BKgP.out 0).trans rfl; have hczgP_1 : w2.cell? ⟨gP, 1, none⟩ = some (.slice A0_1 l0_1.length c0_1) := (blk_cell BKgP.out 1).trans rfl; have hfzgP_0 := blk_frozen BKgP.out 0; have hfzgP_1 := blk_frozen BKgP.out 1; have m_gR := a_ (blk_below BKgR.out hb); clear BKgR; (try clear hczgR_0 hczgR_1); (try clear hfzgR_0 hfzgR_1); have BKgR := m_gR; clear m_gR; have hczgR_0 : w2.cell? ⟨gR, 0, none⟩ = some (.slice none 0 0) := (blk_cell BKgR.out 0).trans rfl; have hczgR_1 : w2.cell? ⟨gR, 1, none⟩ = some (.slice none 0 0) := (blk_cell BKgR.out 1).trans rfl; have hfzgR_0 := blk_frozen BKgR.out 0; have hfzgR_1 := blk_frozen BKgR.out 1; clear hb) | (go_at_call 69; (with_reducible refine (patrol_copied.calls A0_0 c0_0 l0_0 A0_1 c0_1 l0_1 l0_0 l0_1 _ ?s1 HC0_0.out ?s2 HC0_1.out HCP.out).mono ?_); (case s1 => exact Kd.C_below HR0_0.out HB.out); (case s2 => exact Kd.C_below HR0_1.out HB.out); rintro e w3 ⟨v1, v2, rfl, ho1, ho2, hb⟩; have HN := a_ (Kd.N_mono (ok' := fun k => (w.heap.size ≤ k ∧ some k ≠ v2.ownBlock) ∧ k ≠ gR) (Kd.N_lower ho1 (below_size HB.out)) (fun k hk => ⟨⟨Nat.le_trans (below_size HB.out) hk.1, hk.2⟩, by have := blk_lt BKgR.out; have := hk.1; omega⟩)); have HV2 := a_ (Kd.R_mono (ok' := fun k => w.heap.size ≤ k ∧ k ≠ gR) (Kd.R_lower ho2 (below_size HB.out)) (fun k hk => ⟨Nat.le_trans (below_size HB.out) hk, by have := blk_lt BKgR.out; omega⟩)); clear ho1 ho2; have n0_ := a_ (below_step HB.out hb); clear HB; have HB := n0_; clear n0_; have m_gP := a_ (blk_below BKgP.out hb); clear BKgP; (try clear hczgP_0 hczgP_1); (try clear hfzgP_0 hfzgP_1); have BKgP := m_gP; clear m_gP; have hczgP_0 : w3.cell? ⟨gP, 0, none⟩ = some (.slice A0_0 l0_0.length c0_0) := (blk_cell BKgP.out 0).trans rfl; have hczgP_1 : w3.cell? ⟨gP, 1, none⟩ = some (.slice A0_1 l0_1.length c0_1) := (blk_cell BKgP.out 1).trans rfl; have hfzgP_0 := blk_frozen BKgP.out 0; have hfzgP_1 := blk_frozen BKgP.out 1; have m_gR := a_ (blk_below BKgR.out hb); clear BKgR; (try clear hczgR_0 hczgR_1); (try clear hfzgR_0 hfzgR_1); have BKgR := m_gR; clear m_gR; have hczgR_0 : w3.cell? ⟨gR, 0, none⟩ = some (.slice none 0 0) := (blk_cell BKgR.out 0).trans rfl; have hczgR_1 : w3.cell? ⟨gR, 1, none⟩ = some (.slice none 0 0) := (blk_cell BKgR.out 1).trans rfl; have hfzgR_0 := blk_frozen BKgR.out 0; have hfzgR_1 := blk_frozen BKgR.out 1; clear hb; obtain ⟨B1, d1, e1⟩ := Kd.N_slice HN.out; subst e1; obtain ⟨B2, d2, e2⟩ := Kd.R_slice HV2.out; subst e2) | ((with_reducible refine gate_dst (N := 7) rfl ?_); refine box_event ?hg (N := 7) ?hd (cs := #[.slice none 0 0, .slice none 0 0]) (t := 48) ?hr ?_; (case hd => rfl); (case hg => rfl); (case hr => first | (go_simp; done) | (go_simp; rfl)); intro gO hg w_gO hbox hb; have HO := a_ hbox; have GO := a_ ((by rw [hg]; exact below_size HB.out) : w.heap.size ≤ gO); have NO := a_ ((by have := blk_lt BKgR.out; omega) : gR ≠ gO); have HN2 := a_ (Kd.N_below (Kd.N_bound HN.out) hb); have HV22 := a_ (Kd.R_below (Kd.R_bound HV2.out) hb); have HLO := a_ (Nat.le_of_eq hg.symm); clear HN HV2; have ho0 : w_gO.cell? ⟨gO, 0, none⟩ = some (.slice none 0 0) := (blk_cell HO.out 0).trans rfl; have ho1 : w_gO.cell? ⟨gO, 1, none⟩ = some (.slice none 0 0) := (blk_cell HO.out 1).trans rfl; have hof0 := blk_frozen HO.out 0; have hof1 := blk_frozen HO.out 1; clear hbox hg; have n0_ := a_ (below_step HB.out hb); clear HB; have HB := n0_; clear n0_; have m_gP := a_ (blk_below BKgP.out hb); clear BKgP; (try clear hczgP_0 hczgP_1); (try clear hfzgP_0 hfzgP_1); have BKgP := m_gP; clear m_gP; have hczgP_0 : w_gO.cell? ⟨gP, 0, none⟩ = some (.slice A0_0 l0_0.length c0_0) := (blk_cell BKgP.out 0).trans rfl; have hczgP_1 : w_gO.cell? ⟨gP, 1, none⟩ = some (.slice A0_1 l0_1.length c0_1) := (blk_cell BKgP.out 1).trans rfl; have hfzgP_0 := blk_frozen BKgP.out 0; have hfzgP_1 := blk_frozen BKgP.out 1; have m_gR := a_ (blk_below BKgR.out hb); clear BKgR; (try clear hczgR_0 hczgR_1); (try clear hfzgR_0 hfzgR_1); have BKgR := m_gR; clear m_gR; have hczgR_0 : w_gO.cell? ⟨gR, 0, none⟩ = some (.slice none 0 0) := (blk_cell BKgR.out 0).trans rfl; have hczgR_1 : w_gO.cell? ⟨gR, 1, none⟩ = some (.slice none 0 0) := (blk_cell BKgR.out 1).trans rfl; have hfzgR_0 := blk_frozen BKgR.out 0; have hfzgR_1 := blk_frozen BKgR.out 1; clear hb))
  have hge := GO.out
  have hlo := HLO.out
  have hgr := GEgR.out
  have ho := blk_put (cs' := #[.slice B1 l0_0.length d1, .slice B2 l0_1.length d2]) (blk_put (cs' := #[.slice B1 l0_0.length d1, .slice none 0 0]) HO.out 0 (.slice B1 l0_0.length d1) rfl) 1 (.slice B2 l0_1.length d2) rfl
  have hr : ((w_gO.setCell ⟨gO, 0, none⟩ (.slice B1 l0_0.length d1)).setCell ⟨gO, 1, none⟩ (.slice B2 l0_1.length d2)).heap[gR]? = some (.cells #[.slice none 0 0, .slice none 0 0] 48 (0, 0)) := (Below.heap_setCell _ _ _ gR NO.out).trans ((Below.heap_setCell _ _ _ gR NO.out).trans BKgR.out)
  have hb := below_set (j := 1) (v := .slice B2 l0_1.length d2) (below_set (j := 0) (v := .slice B1 l0_0.length d1) HB.out hge) hge
  have hn := Kd.N_far (p := ⟨gO, 1, none⟩) (Kd.N_far (p := ⟨gO, 0, none⟩) HN2.out (fun k hk => by have := hk.2; show k ≠ gO; omega) (.slice B1 l0_0.length d1)) (fun k hk => by have := hk.2; show k ≠ gO; omega) (.slice B2 l0_1.length d2)
  have hv := Kd.R_far (p := ⟨gO, 1, none⟩) (Kd.R_far (p := ⟨gO, 0, none⟩) HV22.out (fun k hk => by have := hk.2; show k ≠ gO; omega) (.slice B1 l0_0.length d1)) (fun k hk => by have := hk.2; show k ≠ gO; omega) (.slice B2 l0_1.length d2)
  clear ho0 ho1 hof0 hof1 BKgP BKgR HB HN2 HV22 HO hczgP_0 hczgP_1 hfzgP_0 hfzgP_1 hczgR_0 hczgR_1 hfzgR_0 hfzgR_1
  generalize (w_gO.setCell ⟨gO, 0, none⟩ (.slice B1 l0_0.length d1)).setCell ⟨gO, 1, none⟩ (.slice B2 l0_1.length d2) = W5 at ho hr hb hn hv ⊢
  obtain ⟨g, rfl, hgo, hgr2, hgb, hgl⟩ : ∃ g, B2 = some ⟨g, 0, none⟩ ∧ gO ≠ g ∧ gR ≠ g ∧ w.heap.size ≤ g ∧ g < W5.heap.size := by
   have h1 := HT0.out
   have h2 := HT1.out
   obtain ⟨h0, inner, hoo, _⟩ := hv
   rcases hoo.2 with ⟨hv0, _⟩ | ⟨g, cap, cur, hv0, hb0, hh, _⟩
   ·injection hv0 with _ e _; omega
   ·injection hv0 with e _ _
    refine ⟨g, e, ?_, ?_, hb0, blk_lt hh⟩
    ·rintro rfl; rw [ho] at hh; cases hh
    ·rintro rfl; rw [hr] at hh; cases hh
  have HB := a_ hb
  have HN := a_ hn
  have HV := a_ hv
  have HO := a_ ho
  have HR := a_ hr
  have NG := a_ (And.intro hgo (And.intro hgr2 (And.intro hgb hgl)))
  clear hb hn hv ho hr hge hlo hgr hgo hgr2 hgb hgl
  have hc0 : W5.cell? ⟨gO, 0, none⟩ = some (.slice B1 l0_0.length d1) := (blk_cell HO.out 0).trans rfl
  have hc1 : W5.cell? ⟨gO, 1, none⟩ = some (.slice (some ⟨g, 0, none⟩) l0_1.length d2) := (blk_cell HO.out 1).trans rfl
  go_wp2_with (go_at_call 71; rw [HW.out]; (with_reducible refine (delete56.calls g d2 t l0_1 w.heap.size _ _ HV.out HT0.out HT1.out HB.out.size).mono ?_); rintro e w6 ⟨rfl, hr, hb, hfar, hsz⟩; have HV6 := a_ hr; have HB6 := a_ (HB.out.trans hb); have HN6 := a_ (Kd.N_step HN.out (fun k hk hlt => hfar k (fun he => hk.1.1.2 (by rw [he]; simp [Value.ownBlock])) hlt)); have HO6 := a_ ((hfar gO NG.out.1 (blk_lt HO.out)).trans HO.out); have HR6 := a_ ((hfar gR NG.out.2.1 (blk_lt HR.out)).trans HR.out); have hd0 : w6.cell? ⟨gO, 0, none⟩ = some (.slice B1 l0_0.length d1) := (blk_cell HO6.out 0).trans rfl; have hd1 : w6.cell? ⟨gO, 1, none⟩ = some (.slice (some ⟨g, 0, none⟩) l0_1.length d2) := (blk_cell HO6.out 1).trans rfl; have hf0 := blk_frozen HO6.out 0; have hf1 := blk_frozen HO6.out 1; have he0 : w6.cell? ⟨gR, 0, none⟩ = some (.slice none 0 0) := (blk_cell HR6.out 0).trans rfl; have he1 : w6.cell? ⟨gR, 1, none⟩ = some (.slice none 0 0) := (blk_cell HR6.out 1).trans rfl; have hq0 := blk_frozen HR6.out 0; have hq1 := blk_frozen HR6.out 1; have hno := NO.out; have hno2 := Ne.symm NO.out; clear hr hb hfar hsz)
  have hge := GO.out
  have hgr := GEgR.out
  refine bodyPost_ret (results_ct rfl _ _ gR 48 #[.slice B1 l0_0.length d1, .slice (some ⟨g, 0, none⟩) (l0_1.length - 1) d2] (0, 0) _ rfl (blk_put (cs := #[.slice B1 l0_0.length d1, .slice none 0 0]) (blk_put (cs := #[.slice none 0 0, .slice none 0 0]) ((Below.heap_setCell _ _ _ gR NO.out).trans HR6.out) 0 _ rfl) 1 _ rfl) Try.underlying48 rfl (by kernel_rfl)) rfl ?_
  refine ⟨_, _, rfl, Kd.N_mono (Kd.N_far (p := ⟨gR, 1, none⟩) (Kd.N_far (p := ⟨gR, 0, none⟩) (Kd.N_far (p := ⟨gO, 1, none⟩) HN6.out (fun k hk => by have := hk.2; have := HLO.out; show k ≠ gO; omega) _) (fun k hk => hk.1.2) _) (fun k hk => hk.1.2) _) (fun k hk => ⟨hk.1.1.1, by have := hk.1.1.2; simpa [Value.ownBlock] using this⟩), Kd.R_mono (Kd.R_far (p := ⟨gR, 1, none⟩) (Kd.R_far (p := ⟨gR, 0, none⟩) (Kd.R_far (p := ⟨gO, 1, none⟩) HV6.out (fun k hk => by have := hk.2; have := HLO.out; show k ≠ gO; omega) _) (fun k hk => hk.1.2) _) (fun k hk => hk.1.2) _) (fun k hk => hk.1.1), below_set (below_set (below_set HB6.out hge) hgr) hgr⟩
def skiarearef53_SameInts.l0 : Nat → List Int → List Int → Int → Option (Bool)
 | 0, _, _, _ => none
 | k + 1, x0, x1, x5 => if x5 < (x0.length : Int) then (if 0 ≤ x5 then (if x5 < (x1.length : Int) then (if (rd x0 x5) = (rd x1 x5) then (skiarearef53_SameInts.l0 k x0 x1 (wrap64 (x5 + 1))) else (some false)) else (none)) else (none)) else (some true)
def skiarearef53_SameInts.f (k : Nat) (l0 : List Int) (l1 : List Int) : Option (Bool) := if (l0.length : Int) = (l1.length : Int) then (skiarearef53_SameInts.l0 k l0 l1 0) else (some false)
theorem skiarearef53_SameInts.mono_l : ∀ k, (∀ y0 y1 y2, LeO (skiarearef53_SameInts.l0 k y0 y1 y2) (skiarearef53_SameInts.l0 (k + 1) y0 y1 y2))
 | 0 => fun _ _ _ r h => by simp [skiarearef53_SameInts.l0] at h
 | k + 1 => by
  have ih0 := skiarearef53_SameInts.mono_l k
  ·intro y0 y1 y2
   unfold skiarearef53_SameInts.l0
   repeat' first
   | (with_reducible exact ih0 _ _ _)
   | (with_reducible exact LeO.refl _)
   | (with_reducible exact LeO.none _)
   | (with_reducible refine LeO.ite ?_ ?_)
   | (with_reducible refine LeO.bind ?_ (fun _ => ?_))
   | exact ih0 _ _ _
   | exact LeO.none _
   | refine LeO.ite ?_ ?_
   | refine LeO.bind ?_ (fun _ => ?_)
theorem skiarearef53_SameInts.mono : ∀ a0 a1 k, LeO (skiarearef53_SameInts.f k a0 a1) (skiarearef53_SameInts.f (k + 1) a0 a1) := by
 intro a0 a1 k
 have ih0 := skiarearef53_SameInts.mono_l k
 unfold skiarearef53_SameInts.f
 repeat' first
   | (with_reducible exact ih0 _ _ _)
   | (with_reducible exact LeO.refl _)
   | (with_reducible exact LeO.none _)
   | (with_reducible refine LeO.ite ?_ ?_)
   | (with_reducible refine LeO.bind ?_ (fun _ => ?_))
   | exact ih0 _ _ _
   | exact LeO.none _
   | refine LeO.ite ?_ ?_
   | refine LeO.bind ?_ (fun _ => ?_)
set_option maxHeartbeats 8000000 in
set_option maxRecDepth 100000 in
theorem skiarearef53_SameInts.calls (k : Nat) (A0 : Option Addr) (c0 : Nat) (l0 : List Int) (A1 : Option Addr) (c1 : Nat) (l1 : List Int) (r : Bool) (w : World) (hr0 : Kd.C (Kd.int .i64) w A0 l0.length l0) (hc0 : l0.length ≤ c0) (hr1 : Kd.C (Kd.int .i64) w A1 l1.length l1) (hc1 : l1.length ≤ c1) (h : skiarearef53_SameInts.f k l0 l1 = some r) :
  Calls Try.prog 48 #[.slice A0 l0.length c0, .slice A1 l1.length c1] w fun e w' => e = .returned (.bool r) ∧ Drawn0 w w' := by
 have HR0 := a_ hr0
 have HC0 := a_ hc0
 clear hr0 hc0
 have HR1 := a_ hr1
 have HC1 := a_ hc1
 clear hr1 hc1
 have H : (if (l0.length : Int) = (l1.length : Int) then (skiarearef53_SameInts.l0 k l0 l1 0) else (some false)) = some r := h
 clear h
 by_cases c3 : (l0.length : Int) = (l1.length : Int)
 ·rw [if_pos c3] at H
  have c3b0 : ((l0.length : Int) == (l1.length : Int)) = true := beq_iff_eq.mpr c3
  have c3b1 : ((l0.length : Int) != (l1.length : Int)) = false := bne_eq_false_iff_eq.mpr c3
  have c3b2 : (l0.length == l1.length) = true := by first | simpa using c3 | (simp at c3 ⊢; omega)
  clear c3
  have H' := a_ H
  clear H
  go_enter Try.func48, Try.ntmps48
  go_wp2
  repeat (go_quiet (fail); try go_wp2)
  go_loopg [5] k (fun kq v5 w' => ∃ (x5_1 : Int), v5 = .int .i64 x5_1 ∧ Aside0 (skiarearef53_SameInts.l0 kq l0 l1 x5_1 = some r) ∧ Aside0 (kq ≤ k) ∧ Drawn0 w w')
  case atStart => exact ⟨(0), (by first | rfl | (simp; done) | (simp [*]; done)), H', ⟨Nat.le_refl _⟩, by repeat (first | exact Drawn0.refl _ | apply Drawn0.step)⟩
  case round =>
   clear H'
   try clear c1
   try clear p2
   try clear c3
   try clear c3b0
   try clear c3b1
   try clear c3b2
   obtain ⟨x5_1, rfl, HA, HK1, ⟨m1, rfl⟩⟩ := hrel
   cases gk with
   | zero => exact absurd HA.out (by simp [skiarearef53_SameInts.l0])
   | succ k1 =>
    have H := HA.out
    clear HA
    simp only [skiarearef53_SameInts.l0] at H
    by_cases c4 : x5_1 < (l0.length : Int)
    ·rw [if_pos c4] at H
     have c4b0 : decide (x5_1 < (l0.length : Int)) = true := decide_eq_true c4
     clear c4
     by_cases c5 : 0 ≤ x5_1
     ·rw [if_pos c5] at H
      have c5b0 : decide (0 ≤ x5_1) = true := decide_eq_true c5
      clear c5
      by_cases c6 : x5_1 < (l1.length : Int)
      ·rw [if_pos c6] at H
       have c6b0 : decide (x5_1 < (l1.length : Int)) = true := decide_eq_true c6
       clear c6
       by_cases c7 : (rd l0 x5_1) = (rd l1 x5_1)
       ·rw [if_pos c7] at H
        have c7b0 : ((rd l0 x5_1) == (rd l1 x5_1)) = true := beq_iff_eq.mpr c7
        have c7b1 : ((rd l0 x5_1) != (rd l1 x5_1)) = false := bne_eq_false_iff_eq.mpr c7
        clear c7
        have H' := a_ H
        clear H
        have p438 : 0 ≤ (x5_1 : Int) := od_
        have q438 : x5_1 < (l0.length : Int) := od_
        obtain ⟨ad438, e438, hx438_0⟩ := Kd.at_int HR0.out x5_1 p438 q438
        cases e438
        replace p438 := eq_true p438
        replace q438 := eq_true q438
        have p439 : 0 ≤ (x5_1 : Int) := od_
        have q439 : x5_1 < (l1.length : Int) := od_
        obtain ⟨ad439, e439, hx439_0⟩ := Kd.at_int HR1.out x5_1 p439 q439
        cases e439
        replace p439 := eq_true p439
        replace q439 := eq_true q439
        go_wp2
        repeat (go_quiet (fail); try go_wp2)
        go_roundg k1
        case measure => have := HK1.out; omega
        case rel => exact ⟨(wrap64 (x5_1 + 1)), (by first | rfl | (simp; done) | (simp [*]; done)), H', ⟨by have := HK1.out; omega⟩, by repeat (first | exact Drawn0.refl _ | apply Drawn0.step)⟩
       ·rw [if_neg c7] at H
        have c7b0 : ((rd l0 x5_1) == (rd l1 x5_1)) = false := beq_eq_false_iff_ne.mpr c7
        have c7b1 : ((rd l0 x5_1) != (rd l1 x5_1)) = true := bne_iff_ne.mpr c7
        obtain rfl := Option.some.inj H
        have p438 : 0 ≤ (x5_1 : Int) := od_
        have q438 : x5_1 < (l0.length : Int) := od_
        obtain ⟨ad438, e438, hx438_0⟩ := Kd.at_int HR0.out x5_1 p438 q438
        cases e438
        replace p438 := eq_true p438
        replace q438 := eq_true q438
        have p439 : 0 ≤ (x5_1 : Int) := od_
        have q439 : x5_1 < (l1.length : Int) := od_
        obtain ⟨ad439, e439, hx439_0⟩ := Kd.at_int HR1.out x5_1 p439 q439
        cases e439
        replace p439 := eq_true p439
        replace q439 := eq_true q439
        go_wp2
        repeat (go_quiet (fail); try go_wp2)
        go_ret
        exact ⟨by first | rfl | (simp; done) | (simp [*]; done), by repeat (first | exact Drawn0.refl _ | apply Drawn0.step)⟩
      ·rw [if_neg c6] at H
       exact absurd H (by simp)
     ·rw [if_neg c5] at H
      exact absurd H (by simp)
    ·rw [if_neg c4] at H
     have c4b0 : decide (x5_1 < (l0.length : Int)) = false := decide_eq_false c4
     clear c4
     obtain rfl := Option.some.inj H
     go_wp2
     repeat (go_quiet (fail); try go_wp2)
     go_ret
     exact ⟨by first | rfl | (simp; done) | (simp [*]; done), by repeat (first | exact Drawn0.refl _ | apply Drawn0.step)⟩
 ·rw [if_neg c3] at H
  have c3b0 : ((l0.length : Int) == (l1.length : Int)) = false := beq_eq_false_iff_ne.mpr c3
  have c3b1 : ((l0.length : Int) != (l1.length : Int)) = true := bne_iff_ne.mpr c3
  have c3b2 : (l0.length == l1.length) = false := by first | simpa using c3 | (simp at c3 ⊢; omega)
  obtain rfl := Option.some.inj H
  go_enter Try.func48, Try.ntmps48
  go_wp2
  repeat (go_quiet (fail); try go_wp2)
  go_ret
  exact ⟨by first | rfl | (simp; done) | (simp [*]; done), by repeat (first | exact Drawn0.refl _ | apply Drawn0.step)⟩
end Go.Proofs.Ytmhggplhfcmgkaa.Q
