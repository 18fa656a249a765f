-- written by wip/drive.py (this session's program) over the kit's print words
import Derived.Test.YtgfiidgigenibaaQ0
import Derived.Test.YtgfiidgigenibaaQ16
import Derived.Test.YtgfiidgigenibaaQ24
import Derived.Test.YtgfiidgigenibaaQ35
import Derived.Test.YtgfiidgigenibaaQ36
import Derived.Test.YtgfiidgigenibaaQ43
namespace Go.Proofs.Ytgfiidgigenibaa.Q
open Go.RowKit Go.Proofs.YtgfiidgigenibaaW.PrintWords Go.Proofs.YtgfiidgigenibaaW.PrintLast Go.Proofs.YtgfiidgigenibaaW.PrintMore
attribute [local go_sem] max2_int min2_int max_two min_two max_three min_three max_four min_four   -- for this text's walks alone
set_option linter.unusedVariables false
set_option linter.unusedSimpArgs false

/-! ### skiarealaw55_CensusWays: function 4 -/
mutual
def skiarealaw55_CensusWays.j0 : Nat → List Int → List Int → Int → Bool → List (S62) → List (S82) → List (S44) → List Int → Option (Bool)
 | 0, _, _, _, _, _, _, _, _ => none
 | k + 1, x1, x2, x3, x23, x326000, x326001, x326002, x326003 => if x23 = true then (some true) else ((census_Egress.f k x326000 x326001 x326002 x326003 x1 x3).bind fun t328 => ((skiarearef11_Home.f k x326000 x326001 x326002 x326003 x1).bind fun t329 => ((skiarealaw55_has.f k t329 x3).bind fun t332 => (if (t332 != (decide (t328 > 0))) = true then (skiarealaw55_CensusWays.j1 k x1 x3 t328 true x326000 x326001 x326002 x326003) else ((some (([] : List Int) : List Int)).bind fun y333 => (if y333.length + x1.length < 17592186044416 then ((some (y333 ++ x1 : List Int)).bind fun y336 => (if y336.length + x2.length < 17592186044416 then ((census_Egress.f k x326000 x326001 x326002 x326003 (y336 ++ x2) x3).bind fun t342 => (skiarealaw55_CensusWays.j1 k x1 x3 t328 (decide (t342 < t328)) x326000 x326001 x326002 x326003)) else (none))) else (none)))))))
def skiarealaw55_CensusWays.j1 : Nat → List Int → Int → Int → Bool → List (S62) → List (S82) → List (S44) → List Int → Option (Bool)
 | 0, _, _, _, _, _, _, _, _ => none
 | k + 1, x1, x3, x9, x48, x326000, x326001, x326002, x326003 => if x48 = true then (some false) else ((skiarealaw55_has.f k x326003 x3).bind fun t343 => (if t343 = true then (some (decide (x9 ≥ 1000000))) else (skiarealaw55_CensusWays.l0 k x1 x3 x9 0 0 x326000 x326001 x326002 x326003)))
def skiarealaw55_CensusWays.l0 : Nat → List Int → Int → Int → Int → Int → List (S62) → List (S82) → List (S44) → List Int → Option (Bool)
 | 0, _, _, _, _, _, _, _, _, _ => none
 | k + 1, x1, x3, x9, x11, x12, x326000, x326001, x326002, x326003 => if x12 < (x326002.length : Int) then (if 0 ≤ x12 then (if ((rd_T44 x326002 x12).f2) = x3 then ((skiarealaw55_has.f k x1 ((rd_T44 x326002 x12).f0)).bind fun t346 => (if t346 = true then (skiarealaw55_CensusWays.l0 k x1 x3 x9 (wrap64 (x11 + (wrap64 ((wrap64 (5 - ((rd_T44 x326002 x12).f4))) * 500)))) (wrap64 (x12 + 1)) x326000 x326001 x326002 x326003) else (skiarealaw55_CensusWays.l0 k x1 x3 x9 x11 (wrap64 (x12 + 1)) x326000 x326001 x326002 x326003))) else (skiarealaw55_CensusWays.l0 k x1 x3 x9 x11 (wrap64 (x12 + 1)) x326000 x326001 x326002 x326003)) else (none)) else (if x9 ≥ 0 then (some (decide (x9 ≤ x11))) else (some false))
end
def skiarealaw55_CensusWays.f (k : Nat) (l0_0 : List (S62)) (l0_1 : List (S82)) (l0_2 : List (S44)) (l0_3 : List Int) (l1 : List Int) (l2 : List Int) (a3 : Int) : Option (Bool) := (skiarealaw55_alive.f).bind fun t326 => (if t326 = true then ((skiarealaw55_small.f k l0_0 l0_1 l0_2 l0_3 l1).bind fun t327 => (if t327 = true then (skiarealaw55_CensusWays.j0 k l1 l2 a3 (decide ((l2.length : Int) > 100)) l0_0 l0_1 l0_2 l0_3) else (skiarealaw55_CensusWays.j0 k l1 l2 a3 true l0_0 l0_1 l0_2 l0_3))) else (some false))
theorem skiarealaw55_CensusWays.mono_l : ∀ k, (∀ y0 y1 y2 y3 y4 y5 y6 y7, LeO (skiarealaw55_CensusWays.j0 k y0 y1 y2 y3 y4 y5 y6 y7) (skiarealaw55_CensusWays.j0 (k + 1) y0 y1 y2 y3 y4 y5 y6 y7)) ∧ (∀ y0 y1 y2 y3 y4 y5 y6 y7, LeO (skiarealaw55_CensusWays.j1 k y0 y1 y2 y3 y4 y5 y6 y7) (skiarealaw55_CensusWays.j1 (k + 1) y0 y1 y2 y3 y4 y5 y6 y7)) ∧ (∀ y0 y1 y2 y3 y4 y5 y6 y7 y8, LeO (skiarealaw55_CensusWays.l0 k y0 y1 y2 y3 y4 y5 y6 y7 y8) (skiarealaw55_CensusWays.l0 (k + 1) y0 y1 y2 y3 y4 y5 y6 y7 y8))
 | 0 => ⟨fun _ _ _ _ _ _ _ _ r h => by simp [skiarealaw55_CensusWays.j0] at h, fun _ _ _ _ _ _ _ _ r h => by simp [skiarealaw55_CensusWays.j1] at h, fun _ _ _ _ _ _ _ _ _ r h => by simp [skiarealaw55_CensusWays.l0] at h⟩
 | k + 1 => by
  obtain ⟨ih0, ih1, ih2⟩ := skiarealaw55_CensusWays.mono_l k
  refine ⟨?_, ?_, ?_⟩
  ·intro y0 y1 y2 y3 y4 y5 y6 y7
   unfold skiarealaw55_CensusWays.j0
   repeat' first
   | (with_reducible exact ih0 _ _ _ _ _ _ _ _)
   | (with_reducible exact ih1 _ _ _ _ _ _ _ _)
   | (with_reducible exact ih2 _ _ _ _ _ _ _ _ _)
   | (with_reducible exact census_Egress.mono _ _ _ _ _ _ _)
   | (with_reducible exact skiarealaw55_has.mono _ _ _)
   | (with_reducible exact skiarealaw55_small.mono _ _ _ _ _ _)
   | (with_reducible exact skiarearef11_Home.mono _ _ _ _ _ _)
   | (with_reducible exact LeO.refl _)
   | (with_reducible exact LeO.none _)
   | (with_reducible refine LeO.ite ?_ ?_)
   | (with_reducible refine LeO.bind ?_ (fun _ => ?_))
   | exact ih0 _ _ _ _ _ _ _ _
   | exact ih1 _ _ _ _ _ _ _ _
   | exact ih2 _ _ _ _ _ _ _ _ _
   | exact census_Egress.mono _ _ _ _ _ _ _
   | exact skiarealaw55_has.mono _ _ _
   | exact skiarealaw55_small.mono _ _ _ _ _ _
   | exact skiarearef11_Home.mono _ _ _ _ _ _
   | exact LeO.none _
   | refine LeO.ite ?_ ?_
   | refine LeO.bind ?_ (fun _ => ?_)
  ·intro y0 y1 y2 y3 y4 y5 y6 y7
   unfold skiarealaw55_CensusWays.j1
   repeat' first
   | (with_reducible exact ih0 _ _ _ _ _ _ _ _)
   | (with_reducible exact ih1 _ _ _ _ _ _ _ _)
   | (with_reducible exact ih2 _ _ _ _ _ _ _ _ _)
   | (with_reducible exact census_Egress.mono _ _ _ _ _ _ _)
   | (with_reducible exact skiarealaw55_has.mono _ _ _)
   | (with_reducible exact skiarealaw55_small.mono _ _ _ _ _ _)
   | (with_reducible exact skiarearef11_Home.mono _ _ _ _ _ _)
   | (with_reducible exact LeO.refl _)
   | (with_reducible exact LeO.none _)
   | (with_reducible refine LeO.ite ?_ ?_)
   | (with_reducible refine LeO.bind ?_ (fun _ => ?_))
   | exact ih0 _ _ _ _ _ _ _ _
   | exact ih1 _ _ _ _ _ _ _ _
   | exact ih2 _ _ _ _ _ _ _ _ _
   | exact census_Egress.mono _ _ _ _ _ _ _
   | exact skiarealaw55_has.mono _ _ _
   | exact skiarealaw55_small.mono _ _ _ _ _ _
   | exact skiarearef11_Home.mono _ _ _ _ _ _
   | exact LeO.none _
   | refine LeO.ite ?_ ?_
   | refine LeO.bind ?_ (fun _ => ?_)
  ·intro y0 y1 y2 y3 y4 y5 y6 y7 y8
   unfold skiarealaw55_CensusWays.l0
   repeat' first
   | (with_reducible exact ih0 _ _ _ _ _ _ _ _)
   | (with_reducible exact ih1 _ _ _ _ _ _ _ _)
   | (with_reducible exact ih2 _ _ _ _ _ _ _ _ _)
   | (with_reducible exact census_Egress.mono _ _ _ _ _ _ _)
   | (with_reducible exact skiarealaw55_has.mono _ _ _)
   | (with_reducible exact skiarealaw55_small.mono _ _ _ _ _ _)
   | (with_reducible exact skiarearef11_Home.mono _ _ _ _ _ _)
   | (with_reducible exact LeO.refl _)
   | (with_reducible exact LeO.none _)
   | (with_reducible refine LeO.ite ?_ ?_)
   | (with_reducible refine LeO.bind ?_ (fun _ => ?_))
   | exact ih0 _ _ _ _ _ _ _ _
   | exact ih1 _ _ _ _ _ _ _ _
   | exact ih2 _ _ _ _ _ _ _ _ _
   | exact census_Egress.mono _ _ _ _ _ _ _
   | exact skiarealaw55_has.mono _ _ _
   | exact skiarealaw55_small.mono _ _ _ _ _ _
   | exact skiarearef11_Home.mono _ _ _ _ _ _
   | exact LeO.none _
   | refine LeO.ite ?_ ?_
   | refine LeO.bind ?_ (fun _ => ?_)
theorem skiarealaw55_CensusWays.mono : ∀ a0 a1 a2 a3 a4 a5 a6 k, LeO (skiarealaw55_CensusWays.f k a0 a1 a2 a3 a4 a5 a6) (skiarealaw55_CensusWays.f (k + 1) a0 a1 a2 a3 a4 a5 a6) := by
 intro a0 a1 a2 a3 a4 a5 a6 k
 obtain ⟨ih0, ih1, ih2⟩ := skiarealaw55_CensusWays.mono_l k
 unfold skiarealaw55_CensusWays.f
 repeat' first
   | (with_reducible exact ih0 _ _ _ _ _ _ _ _)
   | (with_reducible exact ih1 _ _ _ _ _ _ _ _)
   | (with_reducible exact ih2 _ _ _ _ _ _ _ _ _)
   | (with_reducible exact census_Egress.mono _ _ _ _ _ _ _)
   | (with_reducible exact skiarealaw55_has.mono _ _ _)
   | (with_reducible exact skiarealaw55_small.mono _ _ _ _ _ _)
   | (with_reducible exact skiarearef11_Home.mono _ _ _ _ _ _)
   | (with_reducible exact LeO.refl _)
   | (with_reducible exact LeO.none _)
   | (with_reducible refine LeO.ite ?_ ?_)
   | (with_reducible refine LeO.bind ?_ (fun _ => ?_))
   | exact ih0 _ _ _ _ _ _ _ _
   | exact ih1 _ _ _ _ _ _ _ _
   | exact ih2 _ _ _ _ _ _ _ _ _
   | exact census_Egress.mono _ _ _ _ _ _ _
   | exact skiarealaw55_has.mono _ _ _
   | exact skiarealaw55_small.mono _ _ _ _ _ _
   | exact skiarearef11_Home.mono _ _ _ _ _ _
   | exact LeO.none _
   | refine LeO.ite ?_ ?_
   | refine LeO.bind ?_ (fun _ => ?_)
def skiarealaw55_CensusWays.T7 : Bool × List (List Nat × List Nat) := (true, [([], []), ([], []), ([1], [1]), ([0, 2], [0, 2]), ([3], [3]), ([4], [4]), ([4], [4]), ([4], [4]), ([6, 7, 4, 4], [4, 6, 7]), ([4], [4]), ([8, 9, 8, 4], [4, 8, 9]), ([4], [4]), ([5, 10, 11, 10, 4], [4, 5, 10, 11]), ([4], [4]), ([12, 13, 4], [4, 12, 13]), ([4, 14], [4, 14])])
def skiarealaw55_CensusWays.B7 : List Nat := [0, 0, 2, 7, 15, 31, 31, 31, 223, 31, 991, 31, 4095, 31, 16383, 32767]
theorem skiarealaw55_CensusWays.tab7 : rtab .any (opsOf Try.f4 7) = skiarealaw55_CensusWays.T7 := by kernel_rfl
theorem skiarealaw55_CensusWays.bits7 : waitsOk skiarealaw55_CensusWays.T7.2 skiarealaw55_CensusWays.B7 = true := by kernel_rfl
set_option maxHeartbeats 8000000 in
set_option maxRecDepth 100000 in
theorem skiarealaw55_CensusWays.calls (k : Nat) (A0_0 : Option Addr) (c0_0 : Nat) (l0_0 : List (S62)) (A0_1 : Option Addr) (c0_1 : Nat) (l0_1 : List (S82)) (A0_2 : Option Addr) (c0_2 : Nat) (l0_2 : List (S44)) (A0_3 : Option Addr) (c0_3 : Nat) (l0_3 : List Int) (A1 : Option Addr) (c1 : Nat) (l1 : List Int) (A2 : Option Addr) (c2 : Nat) (l2 : List Int) (a3 : Int) (w : World) (hr0_0 : Kd.C k62 w A0_0 l0_0.length l0_0) (hc0_0 : l0_0.length ≤ c0_0) (hr0_1 : Kd.C k82 w A0_1 l0_1.length l0_1) (hc0_1 : l0_1.length ≤ c0_1) (hr0_2 : Kd.C k44 w A0_2 l0_2.length l0_2) (hc0_2 : l0_2.length ≤ c0_2) (hr0_3 : Kd.C (Kd.int .i64) w A0_3 l0_3.length l0_3) (hc0_3 : l0_3.length ≤ c0_3) (hr1 : Kd.C (Kd.int .i64) w A1 l1.length l1) (hc1 : l1.length ≤ c1) (hr2 : Kd.C (Kd.int .i64) w A2 l2.length l2) (hc2 : l2.length ≤ c2) (h : skiarealaw55_CensusWays.f k l0_0 l0_1 l0_2 l0_3 l1 l2 a3 = some true) :
  Calls Try.prog 4 #[.agg #[.slice A0_0 l0_0.length c0_0, .slice A0_1 l0_1.length c0_1, .slice A0_2 l0_2.length c0_2, .slice A0_3 l0_3.length c0_3], .slice A1 l1.length c1, .slice A2 l2.length c2, .int .i64 a3] w fun e w' => e = .returned (.bool true) ∧ Below w.heap.size w w' := by
 have hu38 := Try.underlying38
 have HR0_0 := a_ hr0_0
 have HC0_0 := a_ hc0_0
 clear hr0_0 hc0_0
 have HR0_1 := a_ hr0_1
 have HC0_1 := a_ hc0_1
 clear hr0_1 hc0_1
 have HR0_2 := a_ hr0_2
 have HC0_2 := a_ hc0_2
 clear hr0_2 hc0_2
 have HR0_3 := a_ hr0_3
 have HC0_3 := a_ hc0_3
 clear hr0_3 hc0_3
 have HR1 := a_ hr1
 have HC1 := a_ hc1
 clear hr1 hc1
 have HR2 := a_ hr2
 have HC2 := a_ hc2
 clear hr2 hc2
 have HB := a_ (Below.refl w.heap.size w)
 have H : ((skiarealaw55_alive.f).bind fun t326 => (if t326 = true then ((skiarealaw55_small.f k l0_0 l0_1 l0_2 l0_3 l1).bind fun t327 => (if t327 = true then (skiarealaw55_CensusWays.j0 k l1 l2 a3 (decide ((l2.length : Int) > 100)) l0_0 l0_1 l0_2 l0_3) else (skiarealaw55_CensusWays.j0 k l1 l2 a3 true l0_0 l0_1 l0_2 l0_3))) else (some false))) = some true := h
 clear h
 replace H := Option.bind_eq_some_iff.mp H
 obtain ⟨t326, A50, H⟩ := H
 replace H : (if t326 = true then ((skiarealaw55_small.f k l0_0 l0_1 l0_2 l0_3 l1).bind fun t327 => (if t327 = true then (skiarealaw55_CensusWays.j0 k l1 l2 a3 (decide ((l2.length : Int) > 100)) l0_0 l0_1 l0_2 l0_3) else (skiarealaw55_CensusWays.j0 k l1 l2 a3 true l0_0 l0_1 l0_2 l0_3))) else (some false)) = some true := H
 have A5 := a_ A50
 clear A50
 by_cases c6 : t326 = true
 ·subst c6
  have H1 : ((skiarealaw55_small.f k l0_0 l0_1 l0_2 l0_3 l1).bind fun t327 => (if t327 = true then (skiarealaw55_CensusWays.j0 k l1 l2 a3 (decide ((l2.length : Int) > 100)) l0_0 l0_1 l0_2 l0_3) else (skiarealaw55_CensusWays.j0 k l1 l2 a3 true l0_0 l0_1 l0_2 l0_3))) = some true := by rw [if_pos rfl] at H; exact H
  clear H
  have H := H1
  clear H1
  have HC7 := a_ H
  clear H
  go_enter Try.func4, Try.ntmps4
  go_upto_region 3 with (first | ((with_reducible refine gate_dst (N := 4) rfl ?_); (try (refine gate_guard (by rfl) ?_; dsimp only)); refine box_event ?hg (N := 4) ?hd (cs := #[.slice A0_0 l0_0.length c0_0, .slice A0_1 l0_1.length c0_1, .slice A0_2 l0_2.length c0_2, .slice A0_3 l0_3.length c0_3]) (t := 38) ?hr ?_; (case hd => rfl); (case hg => rfl); (case hr => first | (go_simp; done) | (go_simp; rfl)); intro gb325 hg w8 hbox hb; have n0_ := a_ (below_step bel_ hb); have n1_ := a_ (hbox); have n2_ := a_ (bz_ hg : w.heap.size ≤ gb325); have n3_ := a_ (bz_ hg : w.heap.size ≤ gb325); clear HB; have HB := n0_; have BK325 := n1_; have GW325 := n2_; have GE325 := n3_; clear n0_ n1_ n2_ n3_; clear hb hbox hg) | ((with_reducible refine gate_callee (f := 9) rfl ?_); refine gs_ (some 13) Try.func9 #[] ?_; (with_reducible refine (skiarealaw55_alive.calls  true _ A5.out).mono ?_); rintro e w9 ⟨rfl, hb⟩; refine ⟨_, rfl, ?_⟩; have n0_ := a_ (blk_below (bk_ BK325.out) hb); have n1_ := a_ (below_step bel_ hb); clear BK325; clear HB; have BK325 := n0_; have HB := n1_; clear n0_ n1_; (try clear hb); (try clear hb2); (try clear hk); (try clear hi)))
  (try simp only [Act.put, List.setIfInBounds_toArray, List.set_cons_zero, List.set_cons_succ])
  go_cut [23] (fun v23 wc => ∃ (kq : Nat) (x23_6 : Bool), v23 = .bool x23_6 ∧ Aside0 (skiarealaw55_CensusWays.j0 kq l1 l2 a3 x23_6 l0_0 l0_1 l0_2 l0_3 = some true) ∧ Aside0 (kq ≤ k) ∧ Aside0 (wc.heap[gb325]? = some (.cells #[(.slice A0_0 l0_0.length c0_0), (.slice A0_1 l0_1.length c0_1), (.slice A0_2 l0_2.length c0_2), (.slice A0_3 l0_3.length c0_3)] 38 (0, 0))) ∧ Aside0 (Below w.heap.size w wc))
  case first =>
   have H := HC7.out
   clear HC7
   replace H := Option.bind_eq_some_iff.mp H
   obtain ⟨t327, A100, H⟩ := H
   replace H : (if t327 = true then (skiarealaw55_CensusWays.j0 k l1 l2 a3 (decide ((l2.length : Int) > 100)) l0_0 l0_1 l0_2 l0_3) else (skiarealaw55_CensusWays.j0 k l1 l2 a3 true l0_0 l0_1 l0_2 l0_3)) = some true := H
   have A10 := a_ A100
   clear A100
   by_cases c11 : t327 = true
   ·subst c11
    have H1 : (skiarealaw55_CensusWays.j0 k l1 l2 a3 (decide ((l2.length : Int) > 100)) l0_0 l0_1 l0_2 l0_3) = some true := by rw [if_pos rfl] at H; exact H
    clear H
    have H := H1
    clear H1
    have H' := a_ H
    clear H
    have hcz12_0 := cz_ BK325 0
    have hcz12_1 := cz_ BK325 1
    have hcz12_2 := cz_ BK325 2
    have hcz12_3 := cz_ BK325 3
    have hfz12_0 := fz_ BK325 0
    have hfz12_1 := fz_ BK325 1
    have hfz12_2 := fz_ BK325 2
    have hfz12_3 := fz_ BK325 3
    go_wp2_with (first | ((with_reducible refine gate_callee (f := 13) rfl ?_); refine gs_ (some 17) Try.func13 #[.agg #[.slice A0_0 l0_0.length c0_0, .slice A0_1 l0_1.length c0_1, .slice A0_2 l0_2.length c0_2, .slice A0_3 l0_3.length c0_3], .slice A1 l1.length c1] ?_; (with_reducible refine (skiarealaw55_small.calls k _ _ l0_0 _ _ l0_1 _ _ l0_2 _ _ l0_3 _ _ l1 true _ ?side1 ?side2 ?side3 ?side4 ?side5 ?side6 ?side7 ?side8 ?side9 ?side10 A10.out).mono ?_); (case side1 => exact kC_ (Kd.C_below HR0_0.out HB.out)); (case side2 => exact HC0_0.out); (case side3 => exact kC_ (Kd.C_below HR0_1.out HB.out)); (case side4 => exact HC0_1.out); (case side5 => exact kC_ (Kd.C_below HR0_2.out HB.out)); (case side6 => exact HC0_2.out); (case side7 => exact kC_ (Kd.C_below HR0_3.out HB.out)); (case side8 => exact HC0_3.out); (case side9 => exact kC_ (Kd.C_below HR1.out HB.out)); (case side10 => exact HC1.out); rintro e w13 ⟨rfl, hb⟩; refine ⟨_, rfl, ?_⟩; have n0_ := a_ (blk_below (bk_ BK325.out) hb); have n1_ := a_ (below_step bel_ hb); clear BK325; clear HB; have BK325 := n0_; have HB := n1_; clear n0_ n1_; (try clear hb); (try clear hb2); (try clear hk); (try clear hi)))
    go_meet
    case rel => exact ⟨_, (decide ((l2.length : Int) > 100)), (by first | rfl | (simp; done) | (simp [*]; done)), H', ⟨by first | omega | exact Nat.le_refl _⟩, ⟨by exact BK325.out⟩, ⟨by repeat (first | (with_reducible first | exact HB.out | apply below_alloc | apply pw_below_drewN | apply below_drew1 | refine below_set ?_ GE325.out) | exact HB.out)⟩⟩
   ·replace c11 := Bool.eq_false_iff.mpr c11
    subst c11
    have H1 : (skiarealaw55_CensusWays.j0 k l1 l2 a3 true l0_0 l0_1 l0_2 l0_3) = some true := by rw [if_neg (show ¬ (false = true) by decide)] at H; exact H
    clear H
    have H := H1
    clear H1
    have H' := a_ H
    clear H
    have hcz14_0 := cz_ BK325 0
    have hcz14_1 := cz_ BK325 1
    have hcz14_2 := cz_ BK325 2
    have hcz14_3 := cz_ BK325 3
    have hfz14_0 := fz_ BK325 0
    have hfz14_1 := fz_ BK325 1
    have hfz14_2 := fz_ BK325 2
    have hfz14_3 := fz_ BK325 3
    go_wp2_with (first | ((with_reducible refine gate_callee (f := 13) rfl ?_); refine gs_ (some 17) Try.func13 #[.agg #[.slice A0_0 l0_0.length c0_0, .slice A0_1 l0_1.length c0_1, .slice A0_2 l0_2.length c0_2, .slice A0_3 l0_3.length c0_3], .slice A1 l1.length c1] ?_; (with_reducible refine (skiarealaw55_small.calls k _ _ l0_0 _ _ l0_1 _ _ l0_2 _ _ l0_3 _ _ l1 false _ ?side1 ?side2 ?side3 ?side4 ?side5 ?side6 ?side7 ?side8 ?side9 ?side10 A10.out).mono ?_); (case side1 => exact kC_ (Kd.C_below HR0_0.out HB.out)); (case side2 => exact HC0_0.out); (case side3 => exact kC_ (Kd.C_below HR0_1.out HB.out)); (case side4 => exact HC0_1.out); (case side5 => exact kC_ (Kd.C_below HR0_2.out HB.out)); (case side6 => exact HC0_2.out); (case side7 => exact kC_ (Kd.C_below HR0_3.out HB.out)); (case side8 => exact HC0_3.out); (case side9 => exact kC_ (Kd.C_below HR1.out HB.out)); (case side10 => exact HC1.out); rintro e w15 ⟨rfl, hb⟩; refine ⟨_, rfl, ?_⟩; have n0_ := a_ (blk_below (bk_ BK325.out) hb); have n1_ := a_ (below_step bel_ hb); clear BK325; clear HB; have BK325 := n0_; have HB := n1_; clear n0_ n1_; (try clear hb); (try clear hb2); (try clear hk); (try clear hi)))
    go_meet
    case rel => exact ⟨_, (true), (by first | rfl | (simp; done) | (simp [*]; done)), H', ⟨by first | omega | exact Nat.le_refl _⟩, ⟨by exact BK325.out⟩, ⟨by repeat (first | (with_reducible first | exact HB.out | apply below_alloc | apply pw_below_drewN | apply below_drew1 | refine below_set ?_ GE325.out) | exact HB.out)⟩⟩
  case rest =>
   clear HC7
   try clear c1
   try clear c2
   try clear p2
   try clear c4
   try clear c6
   try clear c9
   try clear c11
   try clear c13
   try clear hcz12_0
   try clear hcz12_1
   try clear hcz12_2
   try clear hcz12_3
   try clear hcz14_0
   try clear hcz14_1
   try clear hcz14_2
   try clear hcz14_3
   try clear hfz12_0
   try clear hfz12_1
   try clear hfz12_2
   try clear hfz12_3
   try clear hfz14_0
   try clear hfz14_1
   try clear hfz14_2
   try clear hfz14_3
   obtain ⟨kq, x23_6, rfl, HA, HJ6, BK325, HB⟩ := hcut
   cases kq with
   | zero => exact absurd HA.out (by simp [skiarealaw55_CensusWays.j0])
   | succ kj6 =>
    have H := HA.out
    clear HA
    simp only [skiarealaw55_CensusWays.j0] at H
    by_cases c16 : x23_6 = true
    ·subst c16
     have H1 : (some true) = some true := rfl
     clear H
     have H := H1
     clear H1
     clear H
     go_wp2
     go_ret
     exact ⟨by first | rfl | (rw [HTR.out]; rfl) | (exact congrArg (fun b => Ending.returned (Value.bool b)) HTR.out) | (simpa using HTR.out) | (simp [errW_none, errW_some] <;> rfl) | (simp [*, errW_none, errW_some] <;> rfl), by repeat (first | (with_reducible first | exact HB.out | apply below_alloc | apply pw_below_drewN | apply below_drew1 | refine below_set ?_ GE325.out) | exact HB.out)⟩
    ·replace c16 := Bool.eq_false_iff.mpr c16
     subst c16
     have H1 : ((census_Egress.f kj6 l0_0 l0_1 l0_2 l0_3 l1 a3).bind fun t328 => ((skiarearef11_Home.f kj6 l0_0 l0_1 l0_2 l0_3 l1).bind fun t329 => ((skiarealaw55_has.f kj6 t329 a3).bind fun t332 => (if (t332 != (decide (t328 > 0))) = true then (skiarealaw55_CensusWays.j1 kj6 l1 a3 t328 true l0_0 l0_1 l0_2 l0_3) else ((some (([] : List Int) : List Int)).bind fun y333 => (if y333.length + l1.length < 17592186044416 then ((some (y333 ++ l1 : List Int)).bind fun y336 => (if y336.length + l2.length < 17592186044416 then ((census_Egress.f kj6 l0_0 l0_1 l0_2 l0_3 (y336 ++ l2) a3).bind fun t342 => (skiarealaw55_CensusWays.j1 kj6 l1 a3 t328 (decide (t342 < t328)) l0_0 l0_1 l0_2 l0_3)) else (none))) else (none))))))) = some true := by rw [if_neg (show ¬ (false = true) by decide)] at H; exact H
     clear H
     have H := H1
     clear H1
     replace H := Option.bind_eq_some_iff.mp H
     obtain ⟨t328, A170, H⟩ := H
     replace H : ((skiarearef11_Home.f kj6 l0_0 l0_1 l0_2 l0_3 l1).bind fun t329 => ((skiarealaw55_has.f kj6 t329 a3).bind fun t332 => (if (t332 != (decide (t328 > 0))) = true then (skiarealaw55_CensusWays.j1 kj6 l1 a3 t328 true l0_0 l0_1 l0_2 l0_3) else ((some (([] : List Int) : List Int)).bind fun y333 => (if y333.length + l1.length < 17592186044416 then ((some (y333 ++ l1 : List Int)).bind fun y336 => (if y336.length + l2.length < 17592186044416 then ((census_Egress.f kj6 l0_0 l0_1 l0_2 l0_3 (y336 ++ l2) a3).bind fun t342 => (skiarealaw55_CensusWays.j1 kj6 l1 a3 t328 (decide (t342 < t328)) l0_0 l0_1 l0_2 l0_3)) else (none))) else (none)))))) = some true := H
     have A17 := a_ A170
     clear A170
     replace H := Option.bind_eq_some_iff.mp H
     obtain ⟨t329, A180, H⟩ := H
     replace H : ((skiarealaw55_has.f kj6 t329 a3).bind fun t332 => (if (t332 != (decide (t328 > 0))) = true then (skiarealaw55_CensusWays.j1 kj6 l1 a3 t328 true l0_0 l0_1 l0_2 l0_3) else ((some (([] : List Int) : List Int)).bind fun y333 => (if y333.length + l1.length < 17592186044416 then ((some (y333 ++ l1 : List Int)).bind fun y336 => (if y336.length + l2.length < 17592186044416 then ((census_Egress.f kj6 l0_0 l0_1 l0_2 l0_3 (y336 ++ l2) a3).bind fun t342 => (skiarealaw55_CensusWays.j1 kj6 l1 a3 t328 (decide (t342 < t328)) l0_0 l0_1 l0_2 l0_3)) else (none))) else (none))))) = some true := H
     have A18 := a_ A180
     clear A180
     replace H := Option.bind_eq_some_iff.mp H
     obtain ⟨t332, A190, H⟩ := H
     replace H : (if (t332 != (decide (t328 > 0))) = true then (skiarealaw55_CensusWays.j1 kj6 l1 a3 t328 true l0_0 l0_1 l0_2 l0_3) else ((some (([] : List Int) : List Int)).bind fun y333 => (if y333.length + l1.length < 17592186044416 then ((some (y333 ++ l1 : List Int)).bind fun y336 => (if y336.length + l2.length < 17592186044416 then ((census_Egress.f kj6 l0_0 l0_1 l0_2 l0_3 (y336 ++ l2) a3).bind fun t342 => (skiarealaw55_CensusWays.j1 kj6 l1 a3 t328 (decide (t342 < t328)) l0_0 l0_1 l0_2 l0_3)) else (none))) else (none)))) = some true := H
     have A19 := a_ A190
     clear A190
     have HC20 := a_ H
     clear H
     have hcz21_0 := cz_ BK325 0
     have hcz21_1 := cz_ BK325 1
     have hcz21_2 := cz_ BK325 2
     have hcz21_3 := cz_ BK325 3
     have hfz21_0 := fz_ BK325 0
     have hfz21_1 := fz_ BK325 1
     have hfz21_2 := fz_ BK325 2
     have hfz21_3 := fz_ BK325 3
     go_upto_region 7 with (first | ((with_reducible refine gate_callee (f := 14) rfl ?_); refine gs_ (some 27) Try.func14 #[.agg #[.slice A0_0 l0_0.length c0_0, .slice A0_1 l0_1.length c0_1, .slice A0_2 l0_2.length c0_2, .slice A0_3 l0_3.length c0_3], .slice A1 l1.length c1, .int .i64 a3] ?_; (with_reducible refine (census_Egress.calls kj6 _ _ l0_0 _ _ l0_1 _ _ l0_2 _ _ l0_3 _ _ l1 a3 t328 _ ?side1 ?side2 ?side3 ?side4 ?side5 ?side6 ?side7 ?side8 ?side9 ?side10 A17.out).mono ?_); (case side1 => exact kC_ (Kd.C_below HR0_0.out HB.out)); (case side2 => exact HC0_0.out); (case side3 => exact kC_ (Kd.C_below HR0_1.out HB.out)); (case side4 => exact HC0_1.out); (case side5 => exact kC_ (Kd.C_below HR0_2.out HB.out)); (case side6 => exact HC0_2.out); (case side7 => exact kC_ (Kd.C_below HR0_3.out HB.out)); (case side8 => exact HC0_3.out); (case side9 => exact kC_ (Kd.C_below HR1.out HB.out)); (case side10 => exact HC1.out); rintro e w22 ⟨rfl, hb⟩; refine ⟨_, rfl, ?_⟩; have n0_ := a_ (blk_below (bk_ BK325.out) hb); have n1_ := a_ (below_step bel_ hb); clear BK325; clear HB; have BK325 := n0_; have HB := n1_; clear n0_ n1_; (try clear hb); (try clear hb2); (try clear hk); (try clear hi); have hcz23_0 := cz_ BK325 0; have hcz23_1 := cz_ BK325 1; have hcz23_2 := cz_ BK325 2; have hcz23_3 := cz_ BK325 3; have hfz23_0 := fz_ BK325 0; have hfz23_1 := fz_ BK325 1; have hfz23_2 := fz_ BK325 2; have hfz23_3 := fz_ BK325 3) | ((with_reducible refine gate_callee (f := 16) rfl ?_); refine gs_ (some 30) Try.func16 #[.agg #[.slice A0_0 l0_0.length c0_0, .slice A0_1 l0_1.length c0_1, .slice A0_2 l0_2.length c0_2, .slice A0_3 l0_3.length c0_3], .slice A1 l1.length c1] ?_; (with_reducible refine (skiarearef11_Home.calls kj6 _ _ l0_0 _ _ l0_1 _ _ l0_2 _ _ l0_3 _ _ l1 t329 _ ?side1 ?side2 ?side3 ?side4 ?side5 ?side6 ?side7 ?side8 ?side9 ?side10 A18.out).mono ?_); (case side1 => exact kC_ (Kd.C_below HR0_0.out HB.out)); (case side2 => exact HC0_0.out); (case side3 => exact kC_ (Kd.C_below HR0_1.out HB.out)); (case side4 => exact HC0_1.out); (case side5 => exact kC_ (Kd.C_below HR0_2.out HB.out)); (case side6 => exact HC0_2.out); (case side7 => exact kC_ (Kd.C_below HR0_3.out HB.out)); (case side8 => exact HC0_3.out); (case side9 => exact kC_ (Kd.C_below HR1.out HB.out)); (case side10 => exact HC1.out); rintro e w24 ⟨v330, rfl, ho0, hb⟩; refine ⟨_, rfl, ?_⟩; have n0_ := a_ (Kd.R_lower ho0 (below_size bel_)); have n1_ := a_ (blk_below (bk_ BK325.out) hb); have n2_ := a_ (below_step bel_ hb); clear BK325; clear HB; have HO331 := n0_; have BK325 := n1_; have HB := n2_; clear n0_ n1_ n2_; (try clear hb); (try clear hb2); (try clear hk); (try clear hi); (try clear ho0); obtain ⟨Ao25, co25, eo25⟩ := Kd.R_slice HO331.out; subst eo25) | ((with_reducible refine gate_callee (f := 15) rfl ?_); refine gs_ (some 32) Try.func15 #[.slice Ao25 t329.length co25, .int .i64 a3] ?_; (with_reducible refine (skiarealaw55_has.calls kj6 _ _ t329 a3 t332 _ ?side1 ?side2 A19.out).mono ?_); (case side1 => repeat (first | exact (Kd.R_reads' HO331.out).2.2 | (with_reducible refine Kd.C_alloc ?_ _) | (with_reducible refine Kd.C_drewN ?_ _) | (with_reducible refine Kd.C_drew ?_))); (case side2 => exact (Kd.R_reads' HO331.out).2.1); rintro e w' ⟨rfl, ⟨nd, rfl⟩⟩; refine ⟨_, rfl, ?_⟩))
     (try simp only [Act.put, List.setIfInBounds_toArray, List.set_cons_zero, List.set_cons_succ])
     go_cut [48] (fun v48 wc => ∃ (kq : Nat) (x48_19 : Bool), v48 = .bool x48_19 ∧ Aside0 (skiarealaw55_CensusWays.j1 kq l1 a3 t328 x48_19 l0_0 l0_1 l0_2 l0_3 = some true) ∧ Aside0 (kq ≤ kj6) ∧ Aside0 (wc.heap[gb325]? = some (.cells #[(.slice A0_0 l0_0.length c0_0), (.slice A0_1 l0_1.length c0_1), (.slice A0_2 l0_2.length c0_2), (.slice A0_3 l0_3.length c0_3)] 38 (0, 0))) ∧ Aside0 (Below w.heap.size w wc))
     case first =>
      have H := HC20.out
      clear HC20
      by_cases c26 : (t332 != (decide (t328 > 0))) = true
      ·rw [if_pos c26] at H
       have c26b0 : (t332 != (decide (t328 > 0))) = true := c26
       (try (have c26b1 : decide (t332 = (decide (t328 > 0))) = false := by simpa using c26))
       (try (have c26b2 : (t332 == (decide (t328 > 0))) = false := by simpa using c26))
       (try (have c26b3 : ¬ (t332 = (decide (t328 > 0))) := by simpa using c26))
       clear c26
       (first | rw [c26b0] | (simp only [i64_w, i32_w]; rw [c26b0]) | skip)
       cases kj6 with
       | zero => exact absurd H (by simp [skiarealaw55_CensusWays.j1])
       | succ k_ => exact absurd H (by simp [skiarealaw55_CensusWays.j1])
      ·rw [if_neg c26] at H
       have c26b0 : (t332 != (decide (t328 > 0))) = false := by simpa using c26
       (try (have c26b1 : decide (t332 = (decide (t328 > 0))) = true := by simpa using c26))
       (try (have c26b2 : (t332 == (decide (t328 > 0))) = true := by simpa using c26))
       clear c26
       (first | rw [c26b0] | (simp only [i64_w, i32_w]; rw [c26b0]) | skip)
       obtain ⟨y333, hy333⟩ : ∃ y_ : List Int, y_ = (([] : List Int)) := ⟨_, rfl⟩
       replace H : (if y333.length + l1.length < 17592186044416 then ((some (y333 ++ l1 : List Int)).bind fun y336 => (if y336.length + l2.length < 17592186044416 then ((census_Egress.f kj6 l0_0 l0_1 l0_2 l0_3 (y336 ++ l2) a3).bind fun t342 => (skiarealaw55_CensusWays.j1 kj6 l1 a3 t328 (decide (t342 < t328)) l0_0 l0_1 l0_2 l0_3)) else (none))) else (none)) = some true := by first | (rw [hy333]; with_reducible exact H) | (have H2_ := (Option.bind_some _ _).symm.trans H; rw [hy333]; with_reducible exact H2_) | (have H2_ := (Option.bind_some _ _).symm.trans H; with_reducible exact H2_) | with_reducible exact H | (rw [hy333]; exact H) | exact H
       have Ny333 := a_ hy333
       clear hy333
       by_cases c27 : y333.length + l1.length < 17592186044416
       ·rw [if_pos c27] at H
        have LMc27 := a_ c27
        clear c27
        obtain ⟨y336, hy336⟩ : ∃ y_ : List Int, y_ = (y333 ++ l1) := ⟨_, rfl⟩
        replace H : (if y336.length + l2.length < 17592186044416 then ((census_Egress.f kj6 l0_0 l0_1 l0_2 l0_3 (y336 ++ l2) a3).bind fun t342 => (skiarealaw55_CensusWays.j1 kj6 l1 a3 t328 (decide (t342 < t328)) l0_0 l0_1 l0_2 l0_3)) else (none)) = some true := by first | (rw [hy336]; with_reducible exact H) | (have H2_ := (Option.bind_some _ _).symm.trans H; rw [hy336]; with_reducible exact H2_) | (have H2_ := (Option.bind_some _ _).symm.trans H; with_reducible exact H2_) | with_reducible exact H | (rw [hy336]; exact H) | exact H
        have Ny336 := a_ hy336
        clear hy336
        by_cases c28 : y336.length + l2.length < 17592186044416
        ·rw [if_pos c28] at H
         have LMc28 := a_ c28
         clear c28
         obtain ⟨y339, hy339⟩ : ∃ y_ : List Int, y_ = (y336 ++ l2) := ⟨_, rfl⟩
         replace H : ((census_Egress.f kj6 l0_0 l0_1 l0_2 l0_3 y339 a3).bind fun t342 => (skiarealaw55_CensusWays.j1 kj6 l1 a3 t328 (decide (t342 < t328)) l0_0 l0_1 l0_2 l0_3)) = some true := by first | (rw [hy339]; with_reducible exact H) | (have H2_ := (Option.bind_some _ _).symm.trans H; rw [hy339]; with_reducible exact H2_) | (have H2_ := (Option.bind_some _ _).symm.trans H; with_reducible exact H2_) | with_reducible exact H | (rw [hy339]; exact H) | exact H
         have Ny339 := a_ hy339
         clear hy339
         replace H := Option.bind_eq_some_iff.mp H
         obtain ⟨t342, A290, H⟩ := H
         replace H : (skiarealaw55_CensusWays.j1 kj6 l1 a3 t328 (decide (t342 < t328)) l0_0 l0_1 l0_2 l0_3) = some true := H
         have A29 := a_ A290
         clear A290
         have H' := a_ H
         clear H
         try go_wp2
         have n0_ := a_ (Kd.R_drew (Kd.R_drewN HO331.out nd))
         have n1_ := a_ (blk_drew (blk_drewN BK325.out nd))
         have n2_ := a_ (below_drew1 (pw_below_drewN HB.out nd))
         clear HO331
         clear BK325
         clear HB
         have HO331 := n0_
         have BK325 := n1_
         have HB := n2_
         clear n0_ n1_ n2_
         refine start_ (n := 16) (S := fun w' => w'.cell? ⟨gb325, 0, none⟩ = some (.slice A0_0 l0_0.length c0_0) ∧ w'.cell? ⟨gb325, 1, none⟩ = some (.slice A0_1 l0_1.length c0_1) ∧ w'.cell? ⟨gb325, 2, none⟩ = some (.slice A0_2 l0_2.length c0_2) ∧ w'.cell? ⟨gb325, 3, none⟩ = some (.slice A0_3 l0_3.length c0_3)) (ds := []) #[false, false, false, false, false, false, false, false, false, false, false, false, false, false, false, false] (by kernel_rfl) rfl rfl ⟨(blk_cell BK325.out 0).trans rfl, (blk_cell BK325.out 1).trans rfl, (blk_cell BK325.out 2).trans rfl, (blk_cell BK325.out 3).trans rfl⟩ (fun hHeld => ?_); refine with_tabW skiarealaw55_CensusWays.tab7 skiarealaw55_CensusWays.bits7 (fun HT_ HW_ => ?_)
         generalize (w24.drewN nd).drew = w30 at HO331 BK325 HB hHeld ⊢
         refine pq_ 0 (some 33) #[true, false, false, false, false, false, false, false, false, false, false, false, false, false, false, false] ?_
         refine pq_ 1 (some 34) #[true, true, false, false, false, false, false, false, false, false, false, false, false, false, false, false] ?_
         refine pq_ 2 (some 35) #[true, true, true, false, false, false, false, false, false, false, false, false, false, false, false, false] ?_
         refine pq_ 3 (some 36) #[true, true, true, true, false, false, false, false, false, false, false, false, false, false, false, false] ?_
         refine pq_ 4 (some 37) #[true, true, true, true, true, false, false, false, false, false, false, false, false, false, false, false] ?_
         refine pq_ 7 (some 40) #[true, true, true, true, true, false, false, true, false, false, false, false, false, false, false, false] ?_
         refine pq_ 9 (some 42) #[true, true, true, true, true, false, false, true, false, true, false, false, false, false, false, false] ?_
         refine pq_ 11 (some 44) #[true, true, true, true, true, false, false, true, false, true, false, true, false, false, false, false] ?_
         refine pq_ 13 (some 46) #[true, true, true, true, true, false, false, true, false, true, false, true, false, true, false, false] ?_
         refine take_ (i := 5) (N := some 38) (v := ?_) (a' := ?_) #[true, true, true, true, true, true, false, true, false, true, false, true, false, true, false, false] rfl rfl (take_ofW HT_.out HW_.out (by kernel_rfl)) (fun _ _ _ h => h) (Or.inl ⟨by rfl, ?_⟩) hHeld ?_ ?_
         rotate_left
         ·rintro w' ⟨s0, s1, s2, s3⟩
          go_simp
          with_reducible rfl
         rotate_left
         ·simp only [Act.put, List.setIfInBounds_toArray, List.set_cons_zero, List.set_cons_succ, i64_w, i32_w]
          rfl
         refine one_ (i := 6) (N := some 39) #[true, true, true, true, true, true, true, true, false, true, false, true, false, true, false, false] rfl rfl (one_of HT_.out (by kernel_rfl)) (by decide) (fun K hK => ?_)
         refine Kd.R_lit_step (Kd.int .i64) _ 3 ?hg (N := 39) ?hd (xs := ([] : List Int)) (inner := []) (ok := fun _ => True) (okp := fun _ => True) ?hr ?hp (fun _ hk => hk) trivial (Below.refl _ _) (Nat.le_refl _) (by simp) ?_; (case hd => rfl); (case hg => rfl); (case hr => first | (go_simp; done) | (go_simp; rfl)); (case hp => exact (Reps.none _ _))
         intro v334 w31 ho32 hb hg_ hnew_
         clear hg_ hnew_
         (first | rw [← Ny333.out] at ho32 | (simp only [Int.reduceToNat] at ho32; rw [← Ny333.out] at ho32))
         have n0_ := a_ (Kd.R_elder' (kR_ HO331.out) (Kd.R_base ho32) hb)
         have n1_ := a_ (Kd.R_lower (Kd.R_new' ho32 (Kd.R_lt (kR_ HO331.out))) (below_size bel_))
         have n2_ := a_ (blk_below (bk_ BK325.out) hb)
         have n3_ := a_ (below_step bel_ hb)
         clear HO331
         clear BK325
         clear HB
         have HO331 := n0_
         have HO335 := n1_
         have BK325 := n2_
         have HB := n3_
         clear n0_ n1_ n2_ n3_
         clear hb ho32
         refine hK.out _ _ ⟨(blk_cell BK325.out 0).trans rfl, (blk_cell BK325.out 1).trans rfl, (blk_cell BK325.out 2).trans rfl, (blk_cell BK325.out 3).trans rfl⟩ (fun hHeld => ?_)
         clear hK K
         refine norm_ (a' := ?_) ?_ ?_
         rotate_left
         ·show Act.put _ (some 39) _ = _
          simp only [Act.put, List.setIfInBounds_toArray, List.set_cons_zero, List.set_cons_succ, i64_w, i32_w]
          rfl
         refine one_ (i := 8) (N := some 41) #[true, true, true, true, true, true, true, true, true, true, false, true, false, true, false, false] rfl rfl (one_of HT_.out (by kernel_rfl)) (by decide) (fun K hK => ?_)
         refine Kd.R_append_rows_step (Kd.int .i64) (w0 := w) w.heap.size (by rfl) (.tmp 39) (.tmp 40) 36 3 (.int .i64 0) 8 rfl Try.underlying36 info3 rfl (by decide) (by omega) v334 y333 l1 _ _ _ (fun k_ => some k_ ≠ (.slice Ao25 t329.length co25 : Value).ownBlock) (fun _ => False) rfl rfl ?aO ?aR (fun _ _ h => h) (fun _ h => h.elim) ?aF ?aB ?aS ?aL ?_
         (case aR => exact kC_ (Kd.C_below HR1.out HB.out))
         (case aB => exact bel_)
         (case aF => exact (fun k_ hk => Kd.fresh' (Kd.R_lt (kR_ HO331.out)) k_ hk))
         (case aO => exact (by (with_reducible repeat (first | apply Kd.R_alloc | apply Kd.R_drewN | apply Kd.R_drew)); exact Kd.R_mono HO335.out (fun _ hk => hk.2)))
         (case aS => exact (below_size bel_))
         (case aL => have := LMc27.out; omega)
         intro v337 w33 ho hb hg hat
         rw [← Ny336.out] at ho
         have n0_ := a_ (blk_grown (bk_ BK325.out) hg (Kd.R_ne HO335.out BK325.out (by decide)))
         have n1_ := a_ (Kd.R_after (ok := (fun _ => True)) (kR_ HO331.out) hg hat)
         have n2_ := a_ (hb)
         have n3_ := a_ (ho)
         clear BK325
         clear HO331
         clear HB
         clear HO335
         have BK325 := n0_
         have HO331 := n1_
         have HB := n2_
         have HO338 := n3_
         clear n0_ n1_ n2_ n3_
         clear ho hb hg hat
         refine hK.out _ _ ⟨(blk_cell BK325.out 0).trans rfl, (blk_cell BK325.out 1).trans rfl, (blk_cell BK325.out 2).trans rfl, (blk_cell BK325.out 3).trans rfl⟩ (fun hHeld => ?_)
         clear hK K
         refine norm_ (a' := ?_) ?_ ?_
         rotate_left
         ·show Act.put _ (some 41) _ = _
          simp only [Act.put, List.setIfInBounds_toArray, List.set_cons_zero, List.set_cons_succ, i64_w, i32_w]
          rfl
         refine one_ (i := 10) (N := some 43) #[true, true, true, true, true, true, true, true, true, true, true, true, false, true, false, false] rfl rfl (one_of HT_.out (by kernel_rfl)) (by decide) (fun K hK => ?_)
         refine Kd.R_append_rows_step (Kd.int .i64) (w0 := w) w.heap.size (by rfl) (.tmp 41) (.tmp 42) 36 3 (.int .i64 0) 8 rfl Try.underlying36 info3 rfl (by decide) (by omega) v337 y336 l2 _ _ _ (fun k_ => some k_ ≠ (.slice Ao25 t329.length co25 : Value).ownBlock) (fun _ => False) rfl rfl ?aO ?aR (fun _ _ h => h) (fun _ h => h.elim) ?aF ?aB ?aS ?aL ?_
         (case aR => exact kC_ (Kd.C_below HR2.out HB.out))
         (case aB => exact bel_)
         (case aF => exact (fun k_ hk => Kd.fresh' (Kd.R_lt (kR_ HO331.out)) k_ hk))
         (case aO => exact (kR_ HO338.out))
         (case aS => exact (below_size bel_))
         (case aL => have := LMc28.out; omega)
         intro v340 w34 ho hb hg hat
         rw [← Ny339.out] at ho
         have n0_ := a_ (blk_grown (bk_ BK325.out) hg (Kd.R_ne HO338.out BK325.out (by decide)))
         have n1_ := a_ (Kd.R_after (ok := (fun _ => True)) (kR_ HO331.out) hg hat)
         have n2_ := a_ (hb)
         have n3_ := a_ (ho)
         clear BK325
         clear HO331
         clear HB
         clear HO338
         have BK325 := n0_
         have HO331 := n1_
         have HB := n2_
         have HO341 := n3_
         clear n0_ n1_ n2_ n3_
         clear ho hb hg hat
         obtain ⟨Ao35, co35, eo35⟩ := Kd.R_slice HO341.out
         (first | subst eo35 | (injection eo35 with f1_ f2_ f3_; have f4_ := f1_.symm; have f5_ := f3_.symm; clear f1_ f2_ f3_; subst f4_; subst f5_))
         refine hK.out _ _ ⟨(blk_cell BK325.out 0).trans rfl, (blk_cell BK325.out 1).trans rfl, (blk_cell BK325.out 2).trans rfl, (blk_cell BK325.out 3).trans rfl⟩ (fun hHeld => ?_)
         clear hK K
         refine norm_ (a' := ?_) ?_ ?_
         rotate_left
         ·show Act.put _ (some 43) _ = _
          simp only [Act.put, List.setIfInBounds_toArray, List.set_cons_zero, List.set_cons_succ, i64_w, i32_w]
          rfl
         refine one_ (i := 12) (N := some 45) #[true, true, true, true, true, true, true, true, true, true, true, true, true, true, false, false] rfl rfl (one_of HT_.out (by kernel_rfl)) (by decide) (fun K hK => ?_)
         refine goes_ Try.func14 (by kernel_rfl) rfl #[.agg #[.slice A0_0 l0_0.length c0_0, .slice A0_1 l0_1.length c0_1, .slice A0_2 l0_2.length c0_2, .slice A0_3 l0_3.length c0_3], .slice Ao35 y339.length co35, .int .i64 a3] (by rfl) rfl rfl (by (try simp only [List.map_toArray, List.map_cons, List.map_nil]); first | done | rfl | (simp only [List.length_drop, List.length_take]; rfl)) ?_
         with_reducible refine (census_Egress.calls kj6 _ _ l0_0 _ _ l0_1 _ _ l0_2 _ _ l0_3 _ _ y339 a3 t342 _ ?side1 ?side2 ?side3 ?side4 ?side5 ?side6 ?side7 ?side8 ?side9 ?side10 A29.out).mono ?_
         (case side1 => exact kC_ (Kd.C_below HR0_0.out HB.out))
         (case side2 => exact HC0_0.out)
         (case side3 => exact kC_ (Kd.C_below HR0_1.out HB.out))
         (case side4 => exact HC0_1.out)
         (case side5 => exact kC_ (Kd.C_below HR0_2.out HB.out))
         (case side6 => exact HC0_2.out)
         (case side7 => exact kC_ (Kd.C_below HR0_3.out HB.out))
         (case side8 => exact HC0_3.out)
         (case side9 => repeat (first | exact (Kd.R_reads' HO341.out).2.2 | (with_reducible refine Kd.C_alloc ?_ _) | (with_reducible refine Kd.C_drewN ?_ _) | (with_reducible refine Kd.C_drew ?_)))
         (case side10 => exact (Kd.R_reads' HO341.out).2.1)
         rintro e w36 ⟨rfl, hb⟩
         refine ⟨_, rfl, ?_⟩
         have n0_ := a_ (Kd.R_below (kR_ HO331.out) hb)
         have n1_ := a_ (Kd.R_below (kR_ HO341.out) hb)
         have n2_ := a_ (blk_below (bk_ BK325.out) hb)
         have n3_ := a_ (below_step bel_ hb)
         clear HO331
         clear HO341
         clear BK325
         clear HB
         have HO331 := n0_
         have HO341 := n1_
         have BK325 := n2_
         have HB := n3_
         clear n0_ n1_ n2_ n3_
         (try clear hb)
         (try clear hb2)
         (try clear hk)
         (try clear hi)
         refine hK.out _ _ ⟨(blk_cell BK325.out 0).trans rfl, (blk_cell BK325.out 1).trans rfl, (blk_cell BK325.out 2).trans rfl, (blk_cell BK325.out 3).trans rfl⟩ (fun hHeld => ?_)
         clear hK K
         refine norm_ (a' := ?_) ?_ ?_
         rotate_left
         ·show Act.put _ (some 45) _ = _
          simp only [Act.put, List.setIfInBounds_toArray, List.set_cons_zero, List.set_cons_succ, i64_w, i32_w]
          rfl
         refine pq_ 14 (some 47) #[true, true, true, true, true, true, true, true, true, true, true, true, true, true, true, false] ?_
         refine pq_ 15 (some 48) #[true, true, true, true, true, true, true, true, true, true, true, true, true, true, true, true] ?_
         refine done_ (done_of HT_.out (by kernel_rfl)) ?_
         try go_wp2
         go_meet
         case rel => exact ⟨_, (decide (t342 < t328)), (by first | rfl | (simp; done) | (simp [*]; done)), H', ⟨by have := HJ6.out; first | omega | exact Nat.le_refl _⟩, ⟨by exact BK325.out⟩, ⟨by repeat (first | (with_reducible first | exact HB.out | apply below_alloc | apply pw_below_drewN | apply below_drew1 | refine below_set ?_ GE325.out) | exact HB.out)⟩⟩
        ·rw [if_neg c28] at H
         exact absurd H (by simp)
       ·rw [if_neg c27] at H
        exact absurd H (by simp)
     case rest =>
      clear HC20
      try clear c1
      try clear c2
      try clear p2
      try clear c4
      try clear c6
      try clear c9
      try clear c11
      try clear c13
      try clear c14
      try clear c15
      try clear c16
      try clear c26
      try clear c26b0
      try clear c26b1
      try clear c26b2
      try clear c27
      try clear c28
      try clear hcz12_0
      try clear hcz12_1
      try clear hcz12_2
      try clear hcz12_3
      try clear hcz14_0
      try clear hcz14_1
      try clear hcz14_2
      try clear hcz14_3
      try clear hcz21_0
      try clear hcz21_1
      try clear hcz21_2
      try clear hcz21_3
      try clear hcz23_0
      try clear hcz23_1
      try clear hcz23_2
      try clear hcz23_3
      try clear hfz12_0
      try clear hfz12_1
      try clear hfz12_2
      try clear hfz12_3
      try clear hfz14_0
      try clear hfz14_1
      try clear hfz14_2
      try clear hfz14_3
      try clear hfz21_0
      try clear hfz21_1
      try clear hfz21_2
      try clear hfz21_3
      try clear hfz23_0
      try clear hfz23_1
      try clear hfz23_2
      try clear hfz23_3
      try clear p2
      obtain ⟨kq, x48_19, rfl, HA, HJ19, BK325, HB⟩ := hcut
      cases kq with
      | zero => exact absurd HA.out (by simp [skiarealaw55_CensusWays.j1])
      | succ kj19 =>
       have H := HA.out
       clear HA
       simp only [skiarealaw55_CensusWays.j1] at H
       by_cases c37 : x48_19 = true
       ·subst c37
        have H1 : (some false) = some true := by rw [if_pos rfl] at H; exact H
        clear H
        have H := H1
        clear H1
        exact absurd H (by simp)
       ·replace c37 := Bool.eq_false_iff.mpr c37
        subst c37
        have H1 : ((skiarealaw55_has.f kj19 l0_3 a3).bind fun t343 => (if t343 = true then (some (decide (t328 ≥ 1000000))) else (skiarealaw55_CensusWays.l0 kj19 l1 a3 t328 0 0 l0_0 l0_1 l0_2 l0_3))) = some true := by rw [if_neg (show ¬ (false = true) by decide)] at H; exact H
        clear H
        have H := H1
        clear H1
        replace H := Option.bind_eq_some_iff.mp H
        obtain ⟨t343, A380, H⟩ := H
        replace H : (if t343 = true then (some (decide (t328 ≥ 1000000))) else (skiarealaw55_CensusWays.l0 kj19 l1 a3 t328 0 0 l0_0 l0_1 l0_2 l0_3)) = some true := H
        have A38 := a_ A380
        clear A380
        by_cases c39 : t343 = true
        ·subst c39
         have H1 : (some (decide (t328 ≥ 1000000))) = some true := by rw [if_pos rfl] at H; exact H
         clear H
         have H := H1
         clear H1
         have HTR := a_ (Option.some.inj H)
         clear H
         have hcz40_0 := cz_ BK325 0
         have hcz40_1 := cz_ BK325 1
         have hcz40_2 := cz_ BK325 2
         have hcz40_3 := cz_ BK325 3
         have hfz40_0 := fz_ BK325 0
         have hfz40_1 := fz_ BK325 1
         have hfz40_2 := fz_ BK325 2
         have hfz40_3 := fz_ BK325 3
         go_wp2_with (first | ((with_reducible refine gate_callee (f := 15) rfl ?_); refine gs_ (some 52) Try.func15 #[.slice A0_3 l0_3.length c0_3, .int .i64 a3] ?_; (with_reducible refine (skiarealaw55_has.calls kj19 _ _ l0_3 a3 true _ ?side1 ?side2 A38.out).mono ?_); (case side1 => exact kC_ (Kd.C_below HR0_3.out HB.out)); (case side2 => exact HC0_3.out); rintro e w' ⟨rfl, ⟨nd, rfl⟩⟩; refine ⟨_, rfl, ?_⟩))
         go_ret
         exact ⟨by first | rfl | (rw [HTR.out]; rfl) | (exact congrArg (fun b => Ending.returned (Value.bool b)) HTR.out) | (simpa using HTR.out) | (simp [errW_none, errW_some] <;> rfl) | (simp [*, errW_none, errW_some] <;> rfl), by repeat (first | (with_reducible first | exact HB.out | apply below_alloc | apply pw_below_drewN | apply below_drew1 | refine below_set ?_ GE325.out) | exact HB.out)⟩
        ·replace c39 := Bool.eq_false_iff.mpr c39
         subst c39
         have H1 : (skiarealaw55_CensusWays.l0 kj19 l1 a3 t328 0 0 l0_0 l0_1 l0_2 l0_3) = some true := by rw [if_neg (show ¬ (false = true) by decide)] at H; exact H
         clear H
         have H := H1
         clear H1
         have H' := a_ H
         clear H
         have hcz41_0 := cz_ BK325 0
         have hcz41_1 := cz_ BK325 1
         have hcz41_2 := cz_ BK325 2
         have hcz41_3 := cz_ BK325 3
         have hfz41_0 := fz_ BK325 0
         have hfz41_1 := fz_ BK325 1
         have hfz41_2 := fz_ BK325 2
         have hfz41_3 := fz_ BK325 3
         go_wp2_with (first | ((with_reducible refine gate_callee (f := 15) rfl ?_); refine gs_ (some 52) Try.func15 #[.slice A0_3 l0_3.length c0_3, .int .i64 a3] ?_; (with_reducible refine (skiarealaw55_has.calls kj19 _ _ l0_3 a3 false _ ?side1 ?side2 A38.out).mono ?_); (case side1 => exact kC_ (Kd.C_below HR0_3.out HB.out)); (case side2 => exact HC0_3.out); rintro e w' ⟨rfl, ⟨nd, rfl⟩⟩; refine ⟨_, rfl, ?_⟩))
         go_loopg [11, 12] kj19 (fun kq v11 v12 w' => ∃ (x11_3 : Int) (x12_3 : Int), v11 = .int .i64 x11_3 ∧ v12 = .int .i64 x12_3 ∧ Aside0 (skiarealaw55_CensusWays.l0 kq l1 a3 t328 x11_3 x12_3 l0_0 l0_1 l0_2 l0_3 = some true) ∧ Aside0 (kq ≤ kj19) ∧ Aside0 (w'.heap[gb325]? = some (.cells #[(.slice A0_0 l0_0.length c0_0), (.slice A0_1 l0_1.length c0_1), (.slice A0_2 l0_2.length c0_2), (.slice A0_3 l0_3.length c0_3)] 38 (0, 0))) ∧ Aside0 (Below w.heap.size w w'))
         case atStart => exact ⟨(0), (0), (by first | rfl | (simp; done) | (simp [*]; done)), (by first | rfl | (simp; done) | (simp [*]; done)), H', ⟨Nat.le_refl _⟩, ⟨by exact BK325.out⟩, ⟨by repeat (first | (with_reducible first | exact HB.out | apply below_alloc | apply pw_below_drewN | apply below_drew1 | refine below_set ?_ GE325.out) | exact HB.out)⟩⟩
         case round =>
          clear H'
          try clear c1
          try clear c2
          try clear p2
          try clear c3
          try clear c4
          try clear c6
          try clear c9
          try clear c11
          try clear c13
          try clear c14
          try clear c15
          try clear c16
          try clear c26
          try clear c26b0
          try clear c26b1
          try clear c26b2
          try clear c27
          try clear c28
          try clear c37
          try clear c39
          try clear hcz12_0
          try clear hcz12_1
          try clear hcz12_2
          try clear hcz12_3
          try clear hcz14_0
          try clear hcz14_1
          try clear hcz14_2
          try clear hcz14_3
          try clear hcz21_0
          try clear hcz21_1
          try clear hcz21_2
          try clear hcz21_3
          try clear hcz23_0
          try clear hcz23_1
          try clear hcz23_2
          try clear hcz23_3
          try clear hcz40_0
          try clear hcz40_1
          try clear hcz40_2
          try clear hcz40_3
          try clear hcz41_0
          try clear hcz41_1
          try clear hcz41_2
          try clear hcz41_3
          try clear hfz12_0
          try clear hfz12_1
          try clear hfz12_2
          try clear hfz12_3
          try clear hfz14_0
          try clear hfz14_1
          try clear hfz14_2
          try clear hfz14_3
          try clear hfz21_0
          try clear hfz21_1
          try clear hfz21_2
          try clear hfz21_3
          try clear hfz23_0
          try clear hfz23_1
          try clear hfz23_2
          try clear hfz23_3
          try clear hfz40_0
          try clear hfz40_1
          try clear hfz40_2
          try clear hfz40_3
          try clear hfz41_0
          try clear hfz41_1
          try clear hfz41_2
          try clear hfz41_3
          try clear p2
          obtain ⟨x11_3, x12_3, rfl, rfl, HA, HK3, BK325, HB⟩ := hrel
          cases gk with
          | zero => exact absurd HA.out (by simp [skiarealaw55_CensusWays.l0])
          | succ k3 =>
           have H := HA.out
           clear HA
           simp only [skiarealaw55_CensusWays.l0] at H
           by_cases c42 : x12_3 < (l0_2.length : Int)
           ·rw [if_pos c42] at H
            have c42b0 : decide (x12_3 < (l0_2.length : Int)) = true := decide_eq_true c42
            clear c42
            by_cases c43 : 0 ≤ x12_3
            ·rw [if_pos c43] at H
             have c43b0 : decide (0 ≤ x12_3) = true := decide_eq_true c43
             clear c43
             by_cases c44 : ((rd_T44 l0_2 x12_3).f2) = a3
             ·rw [if_pos c44] at H
              have c44b0 : (((rd_T44 l0_2 x12_3).f2) == a3) = true := beq_iff_eq.mpr c44
              have c44b1 : (((rd_T44 l0_2 x12_3).f2) != a3) = false := bne_eq_false_iff_eq.mpr c44
              clear c44
              replace H := Option.bind_eq_some_iff.mp H
              obtain ⟨t346, A450, H⟩ := H
              replace H : (if t346 = true then (skiarealaw55_CensusWays.l0 k3 l1 a3 t328 (wrap64 (x11_3 + (wrap64 ((wrap64 (5 - ((rd_T44 l0_2 x12_3).f4))) * 500)))) (wrap64 (x12_3 + 1)) l0_0 l0_1 l0_2 l0_3) else (skiarealaw55_CensusWays.l0 k3 l1 a3 t328 x11_3 (wrap64 (x12_3 + 1)) l0_0 l0_1 l0_2 l0_3)) = some true := H
              have A45 := a_ A450
              clear A450
              by_cases c46 : t346 = true
              ·subst c46
               have H1 : (skiarealaw55_CensusWays.l0 k3 l1 a3 t328 (wrap64 (x11_3 + (wrap64 ((wrap64 (5 - ((rd_T44 l0_2 x12_3).f4))) * 500)))) (wrap64 (x12_3 + 1)) l0_0 l0_1 l0_2 l0_3) = some true := by rw [if_pos rfl] at H; exact H
               clear H
               have H := H1
               clear H1
               have H' := a_ H
               clear H
               have hcz47_0 := cz_ BK325 0
               have hcz47_1 := cz_ BK325 1
               have hcz47_2 := cz_ BK325 2
               have hcz47_3 := cz_ BK325 3
               have hfz47_0 := fz_ BK325 0
               have hfz47_1 := fz_ BK325 1
               have hfz47_2 := fz_ BK325 2
               have hfz47_3 := fz_ BK325 3
               have p344 : 0 ≤ (x12_3 : Int) := od_
               have q344 : x12_3 < (l0_2.length : Int) := od_
               obtain ⟨ad344, e344, hx344_0, hx344_1, hx344_2, hx344_3, hx344_4, hx344_5, hx344_6⟩ := at_T44 HR0_2.out x12_3 p344 q344
               cases e344
               replace hx344_0 := pc_ hx344_0
               replace hx344_1 := pc_ hx344_1
               replace hx344_2 := pc_ hx344_2
               replace hx344_3 := pc_ hx344_3
               replace hx344_4 := pc_ hx344_4
               replace hx344_5 := pc_ hx344_5
               replace hx344_6 := pc_ hx344_6
               replace p344 := eq_true p344
               replace q344 := eq_true q344
               have p345 : 0 ≤ (x12_3 : Int) := od_
               have q345 : x12_3 < (l0_2.length : Int) := od_
               obtain ⟨ad345, e345, hx345_0, hx345_1, hx345_2, hx345_3, hx345_4, hx345_5, hx345_6⟩ := at_T44 HR0_2.out x12_3 p345 q345
               obtain rfl : ad344 = ad345 := (by injection e345)
               replace hx345_0 := pc_ hx345_0
               replace hx345_1 := pc_ hx345_1
               replace hx345_2 := pc_ hx345_2
               replace hx345_3 := pc_ hx345_3
               replace hx345_4 := pc_ hx345_4
               replace hx345_5 := pc_ hx345_5
               replace hx345_6 := pc_ hx345_6
               replace p345 := eq_true p345
               replace q345 := eq_true q345
               go_wp2_with (first | (go_at_call 15; (with_reducible refine (skiarealaw55_has.calls k3 _ _ l1 ((rd_T44 l0_2 x12_3).f0) true _ ?side1 ?side2 A45.out).mono ?_); (case side1 => exact kC_ (Kd.C_below HR1.out HB.out)); (case side2 => exact HC1.out); rintro e w' ⟨rfl, ⟨nd, rfl⟩⟩; have p347 : 0 ≤ (x12_3 : Int) := od_; have q347 : x12_3 < (l0_2.length : Int) := od_; obtain ⟨ad347, e347, hx347_0, hx347_1, hx347_2, hx347_3, hx347_4, hx347_5, hx347_6⟩ := at_T44 HR0_2.out x12_3 p347 q347; obtain rfl : ad344 = ad347 := (by injection e347); replace hx347_0 := pc_ hx347_0; replace hx347_1 := pc_ hx347_1; replace hx347_2 := pc_ hx347_2; replace hx347_3 := pc_ hx347_3; replace hx347_4 := pc_ hx347_4; replace hx347_5 := pc_ hx347_5; replace hx347_6 := pc_ hx347_6; replace p347 := eq_true p347; replace q347 := eq_true q347))
               go_roundg k3
               case measure => have := HJ6.out; have := HJ19.out; have := HK3.out; omega
               case rel => exact ⟨(wrap64 (x11_3 + (wrap64 ((wrap64 (5 - ((rd_T44 l0_2 x12_3).f4))) * 500)))), (wrap64 (x12_3 + 1)), (by first | rfl | (simp; done) | (simp [*]; done)), (by first | rfl | (simp; done) | (simp [*]; done)), H', ⟨by have := HJ6.out; have := HJ19.out; have := HK3.out; omega⟩, ⟨by exact BK325.out⟩, ⟨by repeat (first | (with_reducible first | exact HB.out | apply below_alloc | apply pw_below_drewN | apply below_drew1 | refine below_set ?_ GE325.out) | exact HB.out)⟩⟩
              ·replace c46 := Bool.eq_false_iff.mpr c46
               subst c46
               have H1 : (skiarealaw55_CensusWays.l0 k3 l1 a3 t328 x11_3 (wrap64 (x12_3 + 1)) l0_0 l0_1 l0_2 l0_3) = some true := by rw [if_neg (show ¬ (false = true) by decide)] at H; exact H
               clear H
               have H := H1
               clear H1
               have H' := a_ H
               clear H
               have hcz48_0 := cz_ BK325 0
               have hcz48_1 := cz_ BK325 1
               have hcz48_2 := cz_ BK325 2
               have hcz48_3 := cz_ BK325 3
               have hfz48_0 := fz_ BK325 0
               have hfz48_1 := fz_ BK325 1
               have hfz48_2 := fz_ BK325 2
               have hfz48_3 := fz_ BK325 3
               have p344 : 0 ≤ (x12_3 : Int) := od_
               have q344 : x12_3 < (l0_2.length : Int) := od_
               obtain ⟨ad344, e344, hx344_0, hx344_1, hx344_2, hx344_3, hx344_4, hx344_5, hx344_6⟩ := at_T44 HR0_2.out x12_3 p344 q344
               cases e344
               replace hx344_0 := pc_ hx344_0
               replace hx344_1 := pc_ hx344_1
               replace hx344_2 := pc_ hx344_2
               replace hx344_3 := pc_ hx344_3
               replace hx344_4 := pc_ hx344_4
               replace hx344_5 := pc_ hx344_5
               replace hx344_6 := pc_ hx344_6
               replace p344 := eq_true p344
               replace q344 := eq_true q344
               have p345 : 0 ≤ (x12_3 : Int) := od_
               have q345 : x12_3 < (l0_2.length : Int) := od_
               obtain ⟨ad345, e345, hx345_0, hx345_1, hx345_2, hx345_3, hx345_4, hx345_5, hx345_6⟩ := at_T44 HR0_2.out x12_3 p345 q345
               obtain rfl : ad344 = ad345 := (by injection e345)
               replace hx345_0 := pc_ hx345_0
               replace hx345_1 := pc_ hx345_1
               replace hx345_2 := pc_ hx345_2
               replace hx345_3 := pc_ hx345_3
               replace hx345_4 := pc_ hx345_4
               replace hx345_5 := pc_ hx345_5
               replace hx345_6 := pc_ hx345_6
               replace p345 := eq_true p345
               replace q345 := eq_true q345
               go_wp2_with (first | (go_at_call 15; (with_reducible refine (skiarealaw55_has.calls k3 _ _ l1 ((rd_T44 l0_2 x12_3).f0) false _ ?side1 ?side2 A45.out).mono ?_); (case side1 => exact kC_ (Kd.C_below HR1.out HB.out)); (case side2 => exact HC1.out); rintro e w' ⟨rfl, ⟨nd, rfl⟩⟩))
               go_roundg k3
               case measure => have := HJ6.out; have := HJ19.out; have := HK3.out; omega
               case rel => exact ⟨(x11_3), (wrap64 (x12_3 + 1)), (by first | rfl | (simp; done) | (simp [*]; done)), (by first | rfl | (simp; done) | (simp [*]; done)), H', ⟨by have := HJ6.out; have := HJ19.out; have := HK3.out; omega⟩, ⟨by exact BK325.out⟩, ⟨by repeat (first | (with_reducible first | exact HB.out | apply below_alloc | apply pw_below_drewN | apply below_drew1 | refine below_set ?_ GE325.out) | exact HB.out)⟩⟩
             ·rw [if_neg c44] at H
              have c44b0 : (((rd_T44 l0_2 x12_3).f2) == a3) = false := beq_eq_false_iff_ne.mpr c44
              have c44b1 : (((rd_T44 l0_2 x12_3).f2) != a3) = true := bne_iff_ne.mpr c44
              have H' := a_ H
              clear H
              have hcz49_0 := cz_ BK325 0
              have hcz49_1 := cz_ BK325 1
              have hcz49_2 := cz_ BK325 2
              have hcz49_3 := cz_ BK325 3
              have hfz49_0 := fz_ BK325 0
              have hfz49_1 := fz_ BK325 1
              have hfz49_2 := fz_ BK325 2
              have hfz49_3 := fz_ BK325 3
              have p344 : 0 ≤ (x12_3 : Int) := od_
              have q344 : x12_3 < (l0_2.length : Int) := od_
              obtain ⟨ad344, e344, hx344_0, hx344_1, hx344_2, hx344_3, hx344_4, hx344_5, hx344_6⟩ := at_T44 HR0_2.out x12_3 p344 q344
              cases e344
              replace hx344_0 := pc_ hx344_0
              replace hx344_1 := pc_ hx344_1
              replace hx344_2 := pc_ hx344_2
              replace hx344_3 := pc_ hx344_3
              replace hx344_4 := pc_ hx344_4
              replace hx344_5 := pc_ hx344_5
              replace hx344_6 := pc_ hx344_6
              replace p344 := eq_true p344
              replace q344 := eq_true q344
              go_wp2
              go_roundg k3
              case measure => have := HJ6.out; have := HJ19.out; have := HK3.out; omega
              case rel => exact ⟨(x11_3), (wrap64 (x12_3 + 1)), (by first | rfl | (simp; done) | (simp [*]; done)), (by first | rfl | (simp; done) | (simp [*]; done)), H', ⟨by have := HJ6.out; have := HJ19.out; have := HK3.out; omega⟩, ⟨by exact BK325.out⟩, ⟨by repeat (first | (with_reducible first | exact HB.out | apply below_alloc | apply pw_below_drewN | apply below_drew1 | refine below_set ?_ GE325.out) | exact HB.out)⟩⟩
            ·rw [if_neg c43] at H
             exact absurd H (by simp)
           ·rw [if_neg c42] at H
            have c42b0 : decide (x12_3 < (l0_2.length : Int)) = false := decide_eq_false c42
            clear c42
            by_cases c50 : t328 ≥ 0
            ·rw [if_pos c50] at H
             have c50b0 : decide (0 ≤ t328) = true := decide_eq_true c50
             clear c50
             have HTR := a_ (Option.some.inj H)
             clear H
             have hcz51_0 := cz_ BK325 0
             have hcz51_1 := cz_ BK325 1
             have hcz51_2 := cz_ BK325 2
             have hcz51_3 := cz_ BK325 3
             have hfz51_0 := fz_ BK325 0
             have hfz51_1 := fz_ BK325 1
             have hfz51_2 := fz_ BK325 2
             have hfz51_3 := fz_ BK325 3
             go_wp2
             go_ret
             exact ⟨by first | rfl | (rw [HTR.out]; rfl) | (exact congrArg (fun b => Ending.returned (Value.bool b)) HTR.out) | (simpa using HTR.out) | (simp [errW_none, errW_some] <;> rfl) | (simp [*, errW_none, errW_some] <;> rfl), by repeat (first | (with_reducible first | exact HB.out | apply below_alloc | apply pw_below_drewN | apply below_drew1 | refine below_set ?_ GE325.out) | exact HB.out)⟩
            ·rw [if_neg c50] at H
             have c50b0 : decide (0 ≤ t328) = false := decide_eq_false c50
             clear c50
             exact absurd H (by simp)
 ·replace c6 := Bool.eq_false_iff.mpr c6
  subst c6
  have H1 : (some false) = some true := by rw [if_neg (show ¬ (false = true) by decide)] at H; exact H
  clear H
  have H := H1
  clear H1
  exact absurd H (by simp)

end Go.Proofs.Ytgfiidgigenibaa.Q
