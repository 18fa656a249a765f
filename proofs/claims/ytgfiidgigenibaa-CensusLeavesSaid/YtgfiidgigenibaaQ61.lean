-- written by wip/drive.py (this session's program) over the kit's print words
import Derived.Test.YtgfiidgigenibaaQ0
import Derived.Test.YtgfiidgigenibaaQ28
import Derived.Test.YtgfiidgigenibaaQ60
namespace Go.Proofs.Ytgfiidgigenibaa.Q
open Go.RowKit Go.Proofs.YtgfiidgigenibaaW.PrintWords Go.Proofs.YtgfiidgigenibaaW.PrintLast Go.Proofs.YtgfiidgigenibaaW.PrintMore
attribute [local go_sem] max2_int min2_int max_two min_two max_three min_three max_four min_four   -- for this text's walks alone
set_option linter.unusedVariables false
set_option linter.unusedSimpArgs false

/-! ### skiarearef55_Egress: function 25 -/
mutual
def skiarearef55_Egress.l0 : Nat → List Int → Int → List (S67) → Int → List (S62) → List (S82) → List (S44) → List Int → Option (Int)
 | 0, _, _, _, _, _, _, _, _ => none
 | k + 1, x1, x2, x9, x10, x488000, x488001, x488002, x488003 => if x10 < (x488002.length : Int) then (skiarearef55_Egress.l1 k x1 x2 x9 x10 false 0 x488000 x488001 x488002 x488003) else (skiarearef55_Egress.l2 k x2 x9 0 x488000 x488001 x488002 x488003)
def skiarearef55_Egress.l1 : Nat → List Int → Int → List (S67) → Int → Bool → Int → List (S62) → List (S82) → List (S44) → List Int → Option (Int)
 | 0, _, _, _, _, _, _, _, _, _, _ => none
 | k + 1, x1, x2, x9, x10, x11, x12, x488000, x488001, x488002, x488003 => if x12 < (x1.length : Int) then (if x11 = true then (skiarearef55_Egress.l1 k x1 x2 x9 x10 true (wrap64 (x12 + 1)) x488000 x488001 x488002 x488003) else (if 0 ≤ x12 then (if 0 ≤ x10 then (if x10 < (x488002.length : Int) then (skiarearef55_Egress.l1 k x1 x2 x9 x10 ((rd x1 x12) == ((rd_T44 x488002 x10).f0)) (wrap64 (x12 + 1)) x488000 x488001 x488002 x488003) else (none)) else (none)) else (none))) else (if x11 = true then (if 0 ≤ x10 then (if x10 < (x488002.length : Int) then (if x9.length < 4398046511104 then (skiarearef55_Egress.l0 k x1 x2 (x9 ++ [(⟨(x9.length : Int), (rd_T44 x488002 x10).f2, (rd_T44 x488002 x10).f3, wrap64 ((wrap64 (5 - ((rd_T44 x488002 x10).f4))) * 500)⟩ : S67)]) (wrap64 (x10 + 1)) x488000 x488001 x488002 x488003) else (none)) else (none)) else (none)) else (skiarearef55_Egress.l0 k x1 x2 x9 (wrap64 (x10 + 1)) x488000 x488001 x488002 x488003))
def skiarearef55_Egress.l2 : Nat → Int → List (S67) → Int → List (S62) → List (S82) → List (S44) → List Int → Option (Int)
 | 0, _, _, _, _, _, _, _ => none
 | k + 1, x2, x9, x13, x488000, x488001, x488002, x488003 => if x13 < (x488003.length : Int) then (if 0 ≤ x13 then (if x9.length < 4398046511104 then (skiarearef55_Egress.l2 k x2 (x9 ++ [(⟨(x9.length : Int), rd x488003 x13, 0, 1000000⟩ : S67)]) (wrap64 (x13 + 1)) x488000 x488001 x488002 x488003) else (none)) else (none)) else ((skiarearef06_Max.f k x9 x2 0).bind fun t507 => (some t507))
end
def skiarearef55_Egress.f (k : Nat) (l0_0 : List (S62)) (l0_1 : List (S82)) (l0_2 : List (S44)) (l0_3 : List Int) (l1 : List Int) (a2 : Int) : Option (Int) := (skiarearef10_Node.f k l0_0 l0_1 l0_2 l0_3 a2).bind fun bt488 => (if bt488.2.2 = true then (skiarearef55_Egress.l0 k l1 a2 (([] : List (S67))) 0 l0_0 l0_1 l0_2 l0_3) else (some 0))
theorem skiarearef55_Egress.mono_l : ∀ k, (∀ y0 y1 y2 y3 y4 y5 y6 y7, LeO (skiarearef55_Egress.l0 k y0 y1 y2 y3 y4 y5 y6 y7) (skiarearef55_Egress.l0 (k + 1) y0 y1 y2 y3 y4 y5 y6 y7)) ∧ (∀ y0 y1 y2 y3 y4 y5 y6 y7 y8 y9, LeO (skiarearef55_Egress.l1 k y0 y1 y2 y3 y4 y5 y6 y7 y8 y9) (skiarearef55_Egress.l1 (k + 1) y0 y1 y2 y3 y4 y5 y6 y7 y8 y9)) ∧ (∀ y0 y1 y2 y3 y4 y5 y6, LeO (skiarearef55_Egress.l2 k y0 y1 y2 y3 y4 y5 y6) (skiarearef55_Egress.l2 (k + 1) y0 y1 y2 y3 y4 y5 y6))
 | 0 => ⟨fun _ _ _ _ _ _ _ _ r h => by simp [skiarearef55_Egress.l0] at h, fun _ _ _ _ _ _ _ _ _ _ r h => by simp [skiarearef55_Egress.l1] at h, fun _ _ _ _ _ _ _ r h => by simp [skiarearef55_Egress.l2] at h⟩
 | k + 1 => by
  obtain ⟨ih0, ih1, ih2⟩ := skiarearef55_Egress.mono_l k
  refine ⟨?_, ?_, ?_⟩
  ·intro y0 y1 y2 y3 y4 y5 y6 y7
   unfold skiarearef55_Egress.l0
   repeat' first
   | (with_reducible exact ih0 _ _ _ _ _ _ _ _)
   | (with_reducible exact ih1 _ _ _ _ _ _ _ _ _ _)
   | (with_reducible exact ih2 _ _ _ _ _ _ _)
   | (with_reducible exact skiarearef06_Max.mono _ _ _ _)
   | (with_reducible exact skiarearef10_Node.mono _ _ _ _ _ _)
   | (with_reducible exact LeO.refl _)
   | (with_reducible exact LeO.none _)
   | (with_reducible refine LeO.ite ?_ ?_)
   | (with_reducible refine LeO.bind ?_ (fun _ => ?_))
   | exact ih0 _ _ _ _ _ _ _ _
   | exact ih1 _ _ _ _ _ _ _ _ _ _
   | exact ih2 _ _ _ _ _ _ _
   | exact skiarearef06_Max.mono _ _ _ _
   | exact skiarearef10_Node.mono _ _ _ _ _ _
   | exact LeO.none _
   | refine LeO.ite ?_ ?_
   | refine LeO.bind ?_ (fun _ => ?_)
  ·intro y0 y1 y2 y3 y4 y5 y6 y7 y8 y9
   unfold skiarearef55_Egress.l1
   repeat' first
   | (with_reducible exact ih0 _ _ _ _ _ _ _ _)
   | (with_reducible exact ih1 _ _ _ _ _ _ _ _ _ _)
   | (with_reducible exact ih2 _ _ _ _ _ _ _)
   | (with_reducible exact skiarearef06_Max.mono _ _ _ _)
   | (with_reducible exact skiarearef10_Node.mono _ _ _ _ _ _)
   | (with_reducible exact LeO.refl _)
   | (with_reducible exact LeO.none _)
   | (with_reducible refine LeO.ite ?_ ?_)
   | (with_reducible refine LeO.bind ?_ (fun _ => ?_))
   | exact ih0 _ _ _ _ _ _ _ _
   | exact ih1 _ _ _ _ _ _ _ _ _ _
   | exact ih2 _ _ _ _ _ _ _
   | exact skiarearef06_Max.mono _ _ _ _
   | exact skiarearef10_Node.mono _ _ _ _ _ _
   | exact LeO.none _
   | refine LeO.ite ?_ ?_
   | refine LeO.bind ?_ (fun _ => ?_)
  ·intro y0 y1 y2 y3 y4 y5 y6
   unfold skiarearef55_Egress.l2
   repeat' first
   | (with_reducible exact ih0 _ _ _ _ _ _ _ _)
   | (with_reducible exact ih1 _ _ _ _ _ _ _ _ _ _)
   | (with_reducible exact ih2 _ _ _ _ _ _ _)
   | (with_reducible exact skiarearef06_Max.mono _ _ _ _)
   | (with_reducible exact skiarearef10_Node.mono _ _ _ _ _ _)
   | (with_reducible exact LeO.refl _)
   | (with_reducible exact LeO.none _)
   | (with_reducible refine LeO.ite ?_ ?_)
   | (with_reducible refine LeO.bind ?_ (fun _ => ?_))
   | exact ih0 _ _ _ _ _ _ _ _
   | exact ih1 _ _ _ _ _ _ _ _ _ _
   | exact ih2 _ _ _ _ _ _ _
   | exact skiarearef06_Max.mono _ _ _ _
   | exact skiarearef10_Node.mono _ _ _ _ _ _
   | exact LeO.none _
   | refine LeO.ite ?_ ?_
   | refine LeO.bind ?_ (fun _ => ?_)
theorem skiarearef55_Egress.mono : ∀ a0 a1 a2 a3 a4 a5 k, LeO (skiarearef55_Egress.f k a0 a1 a2 a3 a4 a5) (skiarearef55_Egress.f (k + 1) a0 a1 a2 a3 a4 a5) := by
 intro a0 a1 a2 a3 a4 a5 k
 obtain ⟨ih0, ih1, ih2⟩ := skiarearef55_Egress.mono_l k
 unfold skiarearef55_Egress.f
 repeat' first
   | (with_reducible exact ih0 _ _ _ _ _ _ _ _)
   | (with_reducible exact ih1 _ _ _ _ _ _ _ _ _ _)
   | (with_reducible exact ih2 _ _ _ _ _ _ _)
   | (with_reducible exact skiarearef06_Max.mono _ _ _ _)
   | (with_reducible exact skiarearef10_Node.mono _ _ _ _ _ _)
   | (with_reducible exact LeO.refl _)
   | (with_reducible exact LeO.none _)
   | (with_reducible refine LeO.ite ?_ ?_)
   | (with_reducible refine LeO.bind ?_ (fun _ => ?_))
   | exact ih0 _ _ _ _ _ _ _ _
   | exact ih1 _ _ _ _ _ _ _ _ _ _
   | exact ih2 _ _ _ _ _ _ _
   | exact skiarearef06_Max.mono _ _ _ _
   | exact skiarearef10_Node.mono _ _ _ _ _ _
   | exact LeO.none _
   | refine LeO.ite ?_ ?_
   | refine LeO.bind ?_ (fun _ => ?_)
def skiarearef55_Egress.T12 : Bool × List (List Nat × List Nat) := (true, [([], []), ([0], [0]), ([1], [1]), ([1], [1]), ([2, 3, 1], [1, 2, 3]), ([4, 1], [1, 4]), ([1], [1]), ([6, 1], [1, 6]), ([1], [1]), ([7, 8, 1], [1, 7, 8]), ([9, 1], [1, 9]), ([10, 1], [1, 10]), ([5, 11, 1], [1, 5, 11]), ([1, 12], [1, 12]), ([13, 1, 0, 1, 2, 3, 4, 5, 6, 7, 8, 9, 10, 11, 12, 13], [0, 13])])
def skiarearef55_Egress.B12 : List Nat := [0, 1, 3, 3, 15, 31, 3, 67, 3, 451, 963, 1987, 4095, 8191, 16383]
theorem skiarearef55_Egress.tab12 : rtab .any (opsOf Try.f25 12) = skiarearef55_Egress.T12 := by kernel_rfl
theorem skiarearef55_Egress.bits12 : waitsOk skiarearef55_Egress.T12.2 skiarearef55_Egress.B12 = true := by kernel_rfl
def skiarearef55_Egress.T14 : Bool × List (List Nat × List Nat) := (true, [([], []), ([], []), ([1], [1]), ([], []), ([3], [3]), ([], []), ([4, 5], [4, 5]), ([6], [6]), ([7], [7]), ([], []), ([9], [9]), ([], []), ([10, 11], [10, 11]), ([12], [12]), ([13], [13]), ([], []), ([15], [15]), ([], []), ([16, 17], [16, 17]), ([18], [18]), ([19], [19]), ([20], [20]), ([21], [21]), ([2, 8, 14, 22], [2, 8, 14, 22]), ([23], [23]), ([0, 24], [0, 24]), ([25, 25, 0, 1, 2, 3, 4, 5, 6, 7, 8, 9, 10, 11, 12, 13, 14, 15, 16, 17, 18, 19, 20, 21, 22, 23, 24, 25], [0, 1, 25])])
def skiarearef55_Egress.B14 : List Nat := [0, 0, 2, 0, 8, 0, 56, 120, 248, 0, 512, 0, 3584, 7680, 15872, 0, 32768, 0, 229376, 491520, 1015808, 2064384, 4161536, 8388606, 16777214, 33554431, 67108863]
theorem skiarearef55_Egress.tab14 : rtab .any (opsOf Try.f25 14) = skiarearef55_Egress.T14 := by kernel_rfl
theorem skiarearef55_Egress.bits14 : waitsOk skiarearef55_Egress.T14.2 skiarearef55_Egress.B14 = true := by kernel_rfl
set_option maxHeartbeats 8000000 in
set_option maxRecDepth 100000 in
theorem skiarearef55_Egress.calls (k : Nat) (A0_0 : Option Addr) (c0_0 : Nat) (l0_0 : List (S62)) (A0_1 : Option Addr) (c0_1 : Nat) (l0_1 : List (S82)) (A0_2 : Option Addr) (c0_2 : Nat) (l0_2 : List (S44)) (A0_3 : Option Addr) (c0_3 : Nat) (l0_3 : List Int) (A1 : Option Addr) (c1 : Nat) (l1 : List Int) (a2 : Int) (r : Int) (w : World) (hr0_0 : Kd.C k62 w A0_0 l0_0.length l0_0) (hc0_0 : l0_0.length ≤ c0_0) (hr0_1 : Kd.C k82 w A0_1 l0_1.length l0_1) (hc0_1 : l0_1.length ≤ c0_1) (hr0_2 : Kd.C k44 w A0_2 l0_2.length l0_2) (hc0_2 : l0_2.length ≤ c0_2) (hr0_3 : Kd.C (Kd.int .i64) w A0_3 l0_3.length l0_3) (hc0_3 : l0_3.length ≤ c0_3) (hr1 : Kd.C (Kd.int .i64) w A1 l1.length l1) (hc1 : l1.length ≤ c1) (h : skiarearef55_Egress.f k l0_0 l0_1 l0_2 l0_3 l1 a2 = some r) :
  Calls Try.prog 25 #[.agg #[.slice A0_0 l0_0.length c0_0, .slice A0_1 l0_1.length c0_1, .slice A0_2 l0_2.length c0_2, .slice A0_3 l0_3.length c0_3], .slice A1 l1.length c1, .int .i64 a2] w fun e w' => e = .returned (.int .i64 r) ∧ Below w.heap.size w w' := by
 have hu38 := Try.underlying38
 have hu62 := Try.underlying62
 have hu67 := Try.underlying67
 have HR0_0 := a_ hr0_0
 have HC0_0 := a_ hc0_0
 clear hr0_0 hc0_0
 have HR0_1 := a_ hr0_1
 have HC0_1 := a_ hc0_1
 clear hr0_1 hc0_1
 have HR0_2 := a_ hr0_2
 have HC0_2 := a_ hc0_2
 clear hr0_2 hc0_2
 have HR0_3 := a_ hr0_3
 have HC0_3 := a_ hc0_3
 clear hr0_3 hc0_3
 have HR1 := a_ hr1
 have HC1 := a_ hc1
 clear hr1 hc1
 have HB := a_ (Below.refl w.heap.size w)
 have H : ((skiarearef10_Node.f k l0_0 l0_1 l0_2 l0_3 a2).bind fun bt488 => (if bt488.2.2 = true then (skiarearef55_Egress.l0 k l1 a2 (([] : List (S67))) 0 l0_0 l0_1 l0_2 l0_3) else (some 0))) = some r := h
 clear h
 replace H := Option.bind_eq_some_iff.mp H
 obtain ⟨⟨t488, t489, t490⟩, A40, H⟩ := H
 replace H : (if t490 = true then (skiarearef55_Egress.l0 k l1 a2 (([] : List (S67))) 0 l0_0 l0_1 l0_2 l0_3) else (some 0)) = some r := H
 have A4 := a_ A40
 clear A40
 by_cases c5 : t490 = true
 ·subst c5
  have H1 : (skiarearef55_Egress.l0 k l1 a2 (([] : List (S67))) 0 l0_0 l0_1 l0_2 l0_3) = some r := by rw [if_pos rfl] at H; exact H
  clear H
  have H := H1
  clear H1
  obtain ⟨y492, hy492⟩ : ∃ y_ : List (S67), y_ = (([] : List (S67))) := ⟨_, rfl⟩
  replace H : (skiarearef55_Egress.l0 k l1 a2 y492 0 l0_0 l0_1 l0_2 l0_3) = some r := by first | (rw [hy492]; with_reducible exact H) | (have H2_ := (Option.bind_some _ _).symm.trans H; rw [hy492]; with_reducible exact H2_) | (have H2_ := (Option.bind_some _ _).symm.trans H; with_reducible exact H2_) | with_reducible exact H | (rw [hy492]; exact H) | exact H
  have Ny492 := a_ hy492
  clear hy492
  have H' := a_ H
  clear H
  go_enter Try.func25, Try.ntmps25
  go_wp2_with (first | ((with_reducible refine gate_dst (N := 3) rfl ?_); refine box_event ?hg (N := 3) ?hd (cs := #[.slice A0_0 l0_0.length c0_0, .slice A0_1 l0_1.length c0_1, .slice A0_2 l0_2.length c0_2, .slice A0_3 l0_3.length c0_3]) (t := 38) ?hr ?_; (case hd => rfl); (case hg => rfl); (case hr => first | (go_simp; done) | (go_simp; rfl)); intro gb487 hg w6 hbox hb; have n0_ := a_ (below_step bel_ hb); have n1_ := a_ (hbox); have n2_ := a_ (bz_ hg : w.heap.size ≤ gb487); have n3_ := a_ (bz_ hg : w.heap.size ≤ gb487); clear HB; have HB := n0_; have BK487 := n1_; have GW487 := n2_; have GE487 := n3_; clear n0_ n1_ n2_ n3_; clear hb hbox hg; have hcz7_0 := cz_ BK487 0; have hcz7_1 := cz_ BK487 1; have hcz7_2 := cz_ BK487 2; have hcz7_3 := cz_ BK487 3; have hfz7_0 := fz_ BK487 0; have hfz7_1 := fz_ BK487 1; have hfz7_2 := fz_ BK487 2; have hfz7_3 := fz_ BK487 3) | ((with_reducible refine gate_callee (f := 41) rfl ?_); refine gs_ (some 17) Try.func41 #[.agg #[.slice A0_0 l0_0.length c0_0, .slice A0_1 l0_1.length c0_1, .slice A0_2 l0_2.length c0_2, .slice A0_3 l0_3.length c0_3], .int .i64 a2] ?_; (with_reducible refine (skiarearef10_Node.calls k _ _ l0_0 _ _ l0_1 _ _ l0_2 _ _ l0_3 a2 t488 t489 true _ ?side1 ?side2 ?side3 ?side4 ?side5 ?side6 ?side7 ?side8 A4.out).mono ?_); (case side1 => exact kC_ (Kd.C_below HR0_0.out HB.out)); (case side2 => exact HC0_0.out); (case side3 => exact kC_ (Kd.C_below HR0_1.out HB.out)); (case side4 => exact HC0_1.out); (case side5 => exact kC_ (Kd.C_below HR0_2.out HB.out)); (case side6 => exact HC0_2.out); (case side7 => exact kC_ (Kd.C_below HR0_3.out HB.out)); (case side8 => exact HC0_3.out); rintro e w8 ⟨rfl, hb⟩; refine ⟨_, rfl, ?_⟩; have n0_ := a_ (blk_below (bk_ BK487.out) hb); have n1_ := a_ (below_step bel_ hb); clear BK487; clear HB; have BK487 := n0_; have HB := n1_; clear n0_ n1_; (try clear hb); (try clear hb2); (try clear hk); (try clear hi)) | ((with_reducible refine gate_dst (N := 7) rfl ?_); refine box_event ?hg (N := 7) ?hd (cs := #[.int .i64 0, .int .i64 0]) (t := 62) ?hr ?_; (case hd => rfl); (case hg => rfl); (case hr => first | (go_simp; done) | (go_simp; rfl)); intro gb491 hg w9 hbox hb; have n0_ := a_ (blk_below (bk_ BK487.out) hb); have n1_ := a_ (below_step bel_ hb); have n2_ := a_ (hbox); have n3_ := a_ (bz_ hg : w.heap.size ≤ gb491); have n4_ := a_ (bz_ hg : w.heap.size ≤ gb491); have n5_ := a_ (nl_ hg (bk_ BK487.out)); have n6_ := a_ (ng_ hg (bk_ BK487.out)); clear BK487; clear HB; have BK487 := n0_; have HB := n1_; have BK491 := n2_; have GW491 := n3_; have GE491 := n4_; have NB487_491 := n5_; have NB491_487 := n6_; clear n0_ n1_ n2_ n3_ n4_ n5_ n6_; clear hb hbox hg; have hnb10 := NB491_487.out; have hnc10 := NB487_491.out; have hcz11_0 := cz_ BK491 0; have hcz11_1 := cz_ BK491 1; have hfz11_0 := fz_ BK491 0; have hfz11_1 := fz_ BK491 1) | ((with_reducible refine gate_dst (N := 22) rfl ?_); refine Kd.R_lit k67 _ 67 ?hg (N := 22) ?hd (xs := ([] : List (S67))) (inner := []) (ok := fun _ => True) (okp := fun _ => True) ?hr ?hp (fun _ hk => hk) trivial (Below.refl _ _) (Nat.le_refl _) (by simp) ?_; (case hd => rfl); (case hg => rfl); (case hr => first | (go_simp; done) | (go_simp; rfl)); (case hp => exact (Reps.none _ _)); intro v493 w12 ho13 hb hg_ hnew_; clear hg_ hnew_; (first | rw [← Ny492.out] at ho13 | (simp only [Int.reduceToNat] at ho13; rw [← Ny492.out] at ho13)); have n0_ := a_ (Kd.R_lower ho13 (below_size bel_)); have n1_ := a_ (blk_below (g := gb487) (o := .cells #[.slice A0_0 l0_0.length c0_0, .slice A0_1 l0_1.length c0_1, .slice A0_2 l0_2.length c0_2, .slice A0_3 l0_3.length c0_3] 38 (0, 0)) (by refine blk_far ?_ NB487_491.out _; refine blk_far ?_ NB487_491.out _; exact BK487.out) hb); have n2_ := a_ (blk_below (g := gb491) (o := .cells #[.int .i64 t488, .int .i64 t489] 62 (0, 0)) (by refine blk_put (cs := #[.int .i64 t488, .int .i64 0]) ?_ 1 _ rfl; refine blk_put (cs := #[.int .i64 0, .int .i64 0]) ?_ 0 _ rfl; exact BK491.out) hb); have n3_ := a_ (below_step bel_ hb); clear BK487; clear BK491; clear HB; have HO494 := n0_; have BK487 := n1_; have BK491 := n2_; have HB := n3_; clear n0_ n1_ n2_ n3_; clear hb ho13))
  go_loopg [9, 10] k (fun kq v9 v10 w' => ∃ (x9_1 : List (S67)) (x10_1 : Int), v10 = .int .i64 x10_1 ∧ Aside0 (skiarearef55_Egress.l0 kq l1 a2 x9_1 x10_1 l0_0 l0_1 l0_2 l0_3 = some r) ∧ Aside0 (kq ≤ k) ∧ Aside0 (Kd.R k67 67 w' w.heap.size (fun _ => True) v9 x9_1) ∧ Aside0 (w'.heap[gb487]? = some (.cells #[(.slice A0_0 l0_0.length c0_0), (.slice A0_1 l0_1.length c0_1), (.slice A0_2 l0_2.length c0_2), (.slice A0_3 l0_3.length c0_3)] 38 (0, 0))) ∧ Aside0 (w'.heap[gb491]? = some (.cells #[.int .i64 t488, .int .i64 t489] 62 (0, 0))) ∧ Aside0 (Below w.heap.size w w'))
  case atStart => exact ⟨(y492), (0), (by first | rfl | (simp; done) | (simp [*]; done)), H', ⟨Nat.le_refl _⟩, ⟨by (with_reducible repeat (first | apply Kd.R_alloc | apply Kd.R_drewN | apply Kd.R_drew)); exact HO494.out⟩, ⟨by exact BK487.out⟩, ⟨by exact BK491.out⟩, ⟨by repeat (first | (with_reducible first | exact HB.out | apply below_alloc | apply pw_below_drewN | apply below_drew1 | refine below_set ?_ GE487.out | refine below_set ?_ GE491.out) | exact HB.out)⟩⟩
  case round =>
   clear H'
   try clear c1
   try clear c2
   try clear p2
   try clear c4
   try clear c5
   try clear c10
   try clear hcz11_0
   try clear hcz11_1
   try clear hcz7_0
   try clear hcz7_1
   try clear hcz7_2
   try clear hcz7_3
   try clear hfz11_0
   try clear hfz11_1
   try clear hfz7_0
   try clear hfz7_1
   try clear hfz7_2
   try clear hfz7_3
   obtain ⟨x9_1, x10_1, rfl, HA, HK1, HO_9, BK487, BK491, HB⟩ := hrel
   cases gk with
   | zero => exact absurd HA.out (by simp [skiarearef55_Egress.l0])
   | succ k1 =>
    have H := HA.out
    clear HA
    simp only [skiarearef55_Egress.l0] at H
    by_cases c14 : x10_1 < (l0_2.length : Int)
    ·rw [if_pos c14] at H
     have c14b0 : decide (x10_1 < (l0_2.length : Int)) = true := decide_eq_true c14
     clear c14
     have H' := a_ H
     clear H
     have hnb15 := NB487_491.out
     have hnc15 := NB491_487.out
     have hcz16_0 := cz_ BK487 0
     have hcz16_1 := cz_ BK487 1
     have hcz16_2 := cz_ BK487 2
     have hcz16_3 := cz_ BK487 3
     have hfz16_0 := fz_ BK487 0
     have hfz16_1 := fz_ BK487 1
     have hfz16_2 := fz_ BK487 2
     have hfz16_3 := fz_ BK487 3
     go_wp2
     go_loopg [11, 12] k1 (fun kq v11 v12 w' => ∃ (x11_2 : Bool) (x12_2 : Int), v11 = .bool x11_2 ∧ v12 = .int .i64 x12_2 ∧ Aside0 (skiarearef55_Egress.l1 kq l1 a2 x9_1 x10_1 x11_2 x12_2 l0_0 l0_1 l0_2 l0_3 = some r) ∧ Aside0 (kq ≤ k1) ∧ Aside0 (Kd.R k67 67 w' w.heap.size (fun _ => True) u9 x9_1) ∧ Aside0 (w'.heap[gb487]? = some (.cells #[(.slice A0_0 l0_0.length c0_0), (.slice A0_1 l0_1.length c0_1), (.slice A0_2 l0_2.length c0_2), (.slice A0_3 l0_3.length c0_3)] 38 (0, 0))) ∧ Aside0 (w'.heap[gb491]? = some (.cells #[.int .i64 t488, .int .i64 t489] 62 (0, 0))) ∧ Aside0 (Below w.heap.size w w'))
     case atStart => exact ⟨(false), (0), (by first | rfl | (simp; done) | (simp [*]; done)), (by first | rfl | (simp; done) | (simp [*]; done)), H', ⟨Nat.le_refl _⟩, ⟨by (with_reducible repeat (first | apply Kd.R_alloc | apply Kd.R_drewN | apply Kd.R_drew)); exact HO_9.out⟩, ⟨by exact BK487.out⟩, ⟨by exact BK491.out⟩, ⟨by repeat (first | (with_reducible first | exact HB.out | apply below_alloc | apply pw_below_drewN | apply below_drew1 | refine below_set ?_ GE487.out | refine below_set ?_ GE491.out) | exact HB.out)⟩⟩
     case round =>
      clear H'
      try clear c1
      try clear c2
      try clear p2
      try clear c4
      try clear c5
      try clear c10
      try clear c14
      try clear c14b0
      try clear c15
      try clear hcz11_0
      try clear hcz11_1
      try clear hcz16_0
      try clear hcz16_1
      try clear hcz16_2
      try clear hcz16_3
      try clear hcz7_0
      try clear hcz7_1
      try clear hcz7_2
      try clear hcz7_3
      try clear hfz11_0
      try clear hfz11_1
      try clear hfz16_0
      try clear hfz16_1
      try clear hfz16_2
      try clear hfz16_3
      try clear hfz7_0
      try clear hfz7_1
      try clear hfz7_2
      try clear hfz7_3
      try clear p2
      obtain ⟨x11_2, x12_2, rfl, rfl, HA, HK2, HO_9, BK487, BK491, HB⟩ := hrel
      cases gk with
      | zero => exact absurd HA.out (by simp [skiarearef55_Egress.l1])
      | succ k2 =>
       have H := HA.out
       clear HA
       simp only [skiarearef55_Egress.l1] at H
       by_cases c17 : x12_2 < (l1.length : Int)
       ·rw [if_pos c17] at H
        have c17b0 : decide (x12_2 < (l1.length : Int)) = true := decide_eq_true c17
        clear c17
        by_cases c18 : x11_2 = true
        ·subst c18
         have H1 : (skiarearef55_Egress.l1 k2 l1 a2 x9_1 x10_1 true (wrap64 (x12_2 + 1)) l0_0 l0_1 l0_2 l0_3) = some r := by rw [if_pos rfl] at H; exact H
         clear H
         have H := H1
         clear H1
         have H' := a_ H
         clear H
         try go_wp2
         have n0_ := a_ (Kd.R_drew HO_9.out)
         have n1_ := a_ (blk_drew BK487.out)
         have n2_ := a_ (blk_drew BK491.out)
         have n3_ := a_ (below_drew1 HB.out)
         clear HO_9
         clear BK487
         clear BK491
         clear HB
         have HO_9 := n0_
         have BK487 := n1_
         have BK491 := n2_
         have HB := n3_
         clear n0_ n1_ n2_ n3_
         refine start_ (n := 15) (S := fun w' => True) (ds := []) #[false, false, false, false, false, false, false, false, false, false, false, false, false, false, false] (by kernel_rfl) rfl rfl trivial (fun hHeld => ?_); refine with_tabW skiarearef55_Egress.tab12 skiarearef55_Egress.bits12 (fun HT_ HW_ => ?_)
         generalize wr.drew = w19 at HO_9 BK487 BK491 HB hHeld ⊢
         refine pn_ 0 (some 36) ?_
         refine pn_ 1 (some 37) ?_
         refine pu_ 2 (some 38) ?_
         refine pu_ 3 (some 39) ?_
         refine pu_ 4 (some 40) ?_
         refine pu_ 5 (some 41) ?_
         refine pu_ 6 (some 42) ?_
         refine pu_ 7 (some 43) ?_
         refine pu_ 8 (some 44) ?_
         refine pu_ 9 (some 45) ?_
         refine pu_ 10 (some 46) ?_
         refine pu_ 11 (some 47) ?_
         refine pu_ 12 (some 48) ?_
         refine pn_ 13 (some 49) ?_
         refine pn_ 14 (some 11) ?_
         refine done_ (done_of HT_.out (by kernel_rfl)) ?_
         try go_wp2
         go_roundg k2
         case measure => have := HK1.out; have := HK2.out; omega
         case rel => exact ⟨(true), (wrap64 (x12_2 + 1)), (by first | rfl | (simp; done) | (simp [*]; done)), (by first | rfl | (simp; done) | (simp [*]; done)), H', ⟨by have := HK1.out; have := HK2.out; omega⟩, ⟨by (with_reducible repeat (first | apply Kd.R_alloc | apply Kd.R_drewN | apply Kd.R_drew)); exact HO_9.out⟩, ⟨by exact BK487.out⟩, ⟨by exact BK491.out⟩, ⟨by repeat (first | (with_reducible first | exact HB.out | apply below_alloc | apply pw_below_drewN | apply below_drew1 | refine below_set ?_ GE487.out | refine below_set ?_ GE491.out) | exact HB.out)⟩⟩
        ·replace c18 := Bool.eq_false_iff.mpr c18
         subst c18
         have H1 : (if 0 ≤ x12_2 then (if 0 ≤ x10_1 then (if x10_1 < (l0_2.length : Int) then (skiarearef55_Egress.l1 k2 l1 a2 x9_1 x10_1 ((rd l1 x12_2) == ((rd_T44 l0_2 x10_1).f0)) (wrap64 (x12_2 + 1)) l0_0 l0_1 l0_2 l0_3) else (none)) else (none)) else (none)) = some r := by rw [if_neg (show ¬ (false = true) by decide)] at H; exact H
         clear H
         have H := H1
         clear H1
         by_cases c20 : 0 ≤ x12_2
         ·rw [if_pos c20] at H
          have c20b0 : decide (0 ≤ x12_2) = true := decide_eq_true c20
          clear c20
          by_cases c21 : 0 ≤ x10_1
          ·rw [if_pos c21] at H
           have c21b0 : decide (0 ≤ x10_1) = true := decide_eq_true c21
           clear c21
           by_cases c22 : x10_1 < (l0_2.length : Int)
           ·rw [if_pos c22] at H
            have c22b0 : decide (x10_1 < (l0_2.length : Int)) = true := decide_eq_true c22
            clear c22
            have H' := a_ H
            clear H
            try go_wp2
            have n0_ := a_ (Kd.R_drew HO_9.out)
            have n1_ := a_ (blk_drew BK487.out)
            have n2_ := a_ (blk_drew BK491.out)
            have n3_ := a_ (below_drew1 HB.out)
            clear HO_9
            clear BK487
            clear BK491
            clear HB
            have HO_9 := n0_
            have BK487 := n1_
            have BK491 := n2_
            have HB := n3_
            clear n0_ n1_ n2_ n3_
            have p495 : 0 ≤ (x12_2 : Int) := od_
            have q495 : x12_2 < (l1.length : Int) := od_
            obtain ⟨ad495, e495, hx495_0⟩ := Kd.at_int HR1.out x12_2 p495 q495
            have hw495_0 := hx495_0
            cases e495
            replace hx495_0 := pc_ hx495_0
            replace p495 := eq_true p495
            replace q495 := eq_true q495
            have p496 : 0 ≤ (x10_1 : Int) := od_
            have q496 : x10_1 < (l0_2.length : Int) := od_
            obtain ⟨ad496, e496, hx496_0, hx496_1, hx496_2, hx496_3, hx496_4, hx496_5, hx496_6⟩ := at_T44 HR0_2.out x10_1 p496 q496
            have hw496_6 := hx496_6
            have hw496_5 := hx496_5
            have hw496_4 := hx496_4
            have hw496_3 := hx496_3
            have hw496_2 := hx496_2
            have hw496_1 := hx496_1
            have hw496_0 := hx496_0
            cases e496
            replace hx496_0 := pc_ hx496_0
            replace hx496_1 := pc_ hx496_1
            replace hx496_2 := pc_ hx496_2
            replace hx496_3 := pc_ hx496_3
            replace hx496_4 := pc_ hx496_4
            replace hx496_5 := pc_ hx496_5
            replace hx496_6 := pc_ hx496_6
            replace p496 := eq_true p496
            replace q496 := eq_true q496
            refine start_ (n := 15) (S := fun w' => w'.cell? ⟨gb487, 0, none⟩ = some (.slice A0_0 l0_0.length c0_0) ∧ w'.cell? ⟨gb487, 1, none⟩ = some (.slice A0_1 l0_1.length c0_1) ∧ w'.cell? ⟨gb487, 2, none⟩ = some (.slice (some ad496) l0_2.length c0_2) ∧ w'.cell? ⟨gb487, 3, none⟩ = some (.slice A0_3 l0_3.length c0_3) ∧ w'.cell? (ad495.add (x12_2).toNat) = some (.int .i64 (rd l1 x12_2)) ∧ w'.cell? (ad496.add ((x10_1).toNat * 7)) = some (.int .i64 ((rd_T44 l0_2 x10_1).f0)) ∧ w'.cell? ⟨(ad496.add ((x10_1).toNat * 7)).block, (ad496.add ((x10_1).toNat * 7)).off + 1, none⟩ = some (.int .i64 ((rd_T44 l0_2 x10_1).f1)) ∧ w'.cell? ⟨(ad496.add ((x10_1).toNat * 7)).block, (ad496.add ((x10_1).toNat * 7)).off + 2, none⟩ = some (.int .i64 ((rd_T44 l0_2 x10_1).f2)) ∧ w'.cell? ⟨(ad496.add ((x10_1).toNat * 7)).block, (ad496.add ((x10_1).toNat * 7)).off + 3, none⟩ = some (.int .i64 ((rd_T44 l0_2 x10_1).f3)) ∧ w'.cell? ⟨(ad496.add ((x10_1).toNat * 7)).block, (ad496.add ((x10_1).toNat * 7)).off + 4, none⟩ = some (.int .i64 ((rd_T44 l0_2 x10_1).f4)) ∧ w'.cell? ⟨(ad496.add ((x10_1).toNat * 7)).block, (ad496.add ((x10_1).toNat * 7)).off + 5, none⟩ = some (.int .i64 ((rd_T44 l0_2 x10_1).f5)) ∧ w'.cell? ⟨(ad496.add ((x10_1).toNat * 7)).block, (ad496.add ((x10_1).toNat * 7)).off + 6, none⟩ = some (.int .i64 ((rd_T44 l0_2 x10_1).f6))) (ds := []) #[false, false, false, false, false, false, false, false, false, false, false, false, false, false, false] (by kernel_rfl) rfl rfl ⟨(blk_cell BK487.out 0).trans rfl, (blk_cell BK487.out 1).trans rfl, (blk_cell BK487.out 2).trans rfl, (blk_cell BK487.out 3).trans rfl, (pw_cell_below HB.out hw495_0), (pw_cell_below HB.out hw496_0), (pw_cell_below HB.out hw496_1), (pw_cell_below HB.out hw496_2), (pw_cell_below HB.out hw496_3), (pw_cell_below HB.out hw496_4), (pw_cell_below HB.out hw496_5), (pw_cell_below HB.out hw496_6)⟩ (fun hHeld => ?_); refine with_tabW skiarearef55_Egress.tab12 skiarearef55_Egress.bits12 (fun HT_ HW_ => ?_)
            generalize wr.drew = w23 at HO_9 BK487 BK491 HB hx495_0 hx496_0 hx496_1 hx496_2 hx496_3 hx496_4 hx496_5 hx496_6 hHeld ⊢
            refine pn_ 0 (some 36) ?_
            refine pn_ 1 (some 37) ?_
            refine pn_ 2 (some 38) ?_
            refine pn_ 3 (some 39) ?_
            refine pn_ 4 (some 40) ?_
            refine pn_ 6 (some 42) ?_
            refine pn_ 8 (some 44) ?_
            refine tk_ 5 (some 41) ?_ (hy := by rintro w' ⟨s0, s1, s2, s3, s4, s5, s6, s7, s8, s9, s10, s11⟩; go_simp; with_reducible rfl)
            refine tk_ 7 (some 43) ?_ (hy := by rintro w' ⟨s0, s1, s2, s3, s4, s5, s6, s7, s8, s9, s10, s11⟩; go_simp; with_reducible rfl)
            refine pn_ 9 (some 45) ?_
            refine pn_ 10 (some 46) ?_
            refine tk_ 11 (some 47) ?_ (hy := by rintro w' ⟨s0, s1, s2, s3, s4, s5, s6, s7, s8, s9, s10, s11⟩; go_simp; with_reducible rfl)
            refine pn_ 12 (some 48) ?_
            refine pn_ 13 (some 49) ?_
            refine pn_ 14 (some 11) ?_
            refine done_ (done_of HT_.out (by kernel_rfl)) ?_
            try go_wp2
            go_roundg k2
            case measure => have := HK1.out; have := HK2.out; omega
            case rel => exact ⟨(((rd l1 x12_2) == ((rd_T44 l0_2 x10_1).f0))), (wrap64 (x12_2 + 1)), (by first | rfl | (simp; done) | (simp [*]; done)), (by first | rfl | (simp; done) | (simp [*]; done)), H', ⟨by have := HK1.out; have := HK2.out; omega⟩, ⟨by (with_reducible repeat (first | apply Kd.R_alloc | apply Kd.R_drewN | apply Kd.R_drew)); exact HO_9.out⟩, ⟨by exact BK487.out⟩, ⟨by exact BK491.out⟩, ⟨by repeat (first | (with_reducible first | exact HB.out | apply below_alloc | apply pw_below_drewN | apply below_drew1 | refine below_set ?_ GE487.out | refine below_set ?_ GE491.out) | exact HB.out)⟩⟩
           ·rw [if_neg c22] at H
            exact absurd H (by simp)
          ·rw [if_neg c21] at H
           exact absurd H (by simp)
         ·rw [if_neg c20] at H
          exact absurd H (by simp)
       ·rw [if_neg c17] at H
        have c17b0 : decide (x12_2 < (l1.length : Int)) = false := decide_eq_false c17
        clear c17
        by_cases c24 : x11_2 = true
        ·subst c24
         have H1 : (if 0 ≤ x10_1 then (if x10_1 < (l0_2.length : Int) then (if x9_1.length < 4398046511104 then (skiarearef55_Egress.l0 k2 l1 a2 (x9_1 ++ [(⟨(x9_1.length : Int), (rd_T44 l0_2 x10_1).f2, (rd_T44 l0_2 x10_1).f3, wrap64 ((wrap64 (5 - ((rd_T44 l0_2 x10_1).f4))) * 500)⟩ : S67)]) (wrap64 (x10_1 + 1)) l0_0 l0_1 l0_2 l0_3) else (none)) else (none)) else (none)) = some r := by rw [if_pos rfl] at H; exact H
         clear H
         have H := H1
         clear H1
         by_cases c25 : 0 ≤ x10_1
         ·rw [if_pos c25] at H
          have c25b0 : decide (0 ≤ x10_1) = true := decide_eq_true c25
          clear c25
          by_cases c26 : x10_1 < (l0_2.length : Int)
          ·rw [if_pos c26] at H
           have c26b0 : decide (x10_1 < (l0_2.length : Int)) = true := decide_eq_true c26
           clear c26
           by_cases c27 : x9_1.length < 4398046511104
           ·rw [if_pos c27] at H
            have LMc27 := a_ c27
            clear c27
            obtain ⟨y500, hy500⟩ : ∃ y_ : List (S67), y_ = (x9_1 ++ [(⟨(x9_1.length : Int), (rd_T44 l0_2 x10_1).f2, (rd_T44 l0_2 x10_1).f3, wrap64 ((wrap64 (5 - ((rd_T44 l0_2 x10_1).f4))) * 500)⟩ : S67)]) := ⟨_, rfl⟩
            replace H : (skiarearef55_Egress.l0 k2 l1 a2 y500 (wrap64 (x10_1 + 1)) l0_0 l0_1 l0_2 l0_3) = some r := by first | (rw [hy500]; with_reducible exact H) | (have H2_ := (Option.bind_some _ _).symm.trans H; rw [hy500]; with_reducible exact H2_) | (have H2_ := (Option.bind_some _ _).symm.trans H; with_reducible exact H2_) | with_reducible exact H | (rw [hy500]; exact H) | exact H
            have Ny500 := a_ hy500
            clear hy500
            have H' := a_ H
            clear H
            try go_wp2
            have n0_ := a_ (Kd.R_drew HO_9.out)
            have n1_ := a_ (blk_drew BK487.out)
            have n2_ := a_ (blk_drew BK491.out)
            have n3_ := a_ (below_drew1 HB.out)
            clear HO_9
            clear BK487
            clear BK491
            clear HB
            have HO_9 := n0_
            have BK487 := n1_
            have BK491 := n2_
            have HB := n3_
            clear n0_ n1_ n2_ n3_
            obtain ⟨Ao29, co29, eo29⟩ := Kd.R_slice HO_9.out
            (first | subst eo29 | (injection eo29 with f1_ f2_ f3_; have f4_ := f1_.symm; have f5_ := f3_.symm; clear f1_ f2_ f3_; subst f4_; subst f5_))
            have p497 : 0 ≤ (x10_1 : Int) := od_
            have q497 : x10_1 < (l0_2.length : Int) := od_
            obtain ⟨ad497, e497, hx497_0, hx497_1, hx497_2, hx497_3, hx497_4, hx497_5, hx497_6⟩ := at_T44 HR0_2.out x10_1 p497 q497
            have hw497_6 := hx497_6
            have hw497_5 := hx497_5
            have hw497_4 := hx497_4
            have hw497_3 := hx497_3
            have hw497_2 := hx497_2
            have hw497_1 := hx497_1
            have hw497_0 := hx497_0
            cases e497
            replace hx497_0 := pc_ hx497_0
            replace hx497_1 := pc_ hx497_1
            replace hx497_2 := pc_ hx497_2
            replace hx497_3 := pc_ hx497_3
            replace hx497_4 := pc_ hx497_4
            replace hx497_5 := pc_ hx497_5
            replace hx497_6 := pc_ hx497_6
            replace p497 := eq_true p497
            replace q497 := eq_true q497
            have p498 : 0 ≤ (x10_1 : Int) := od_
            have q498 : x10_1 < (l0_2.length : Int) := od_
            obtain ⟨ad498, e498, hx498_0, hx498_1, hx498_2, hx498_3, hx498_4, hx498_5, hx498_6⟩ := at_T44 HR0_2.out x10_1 p498 q498
            have hw498_6 := hx498_6
            have hw498_5 := hx498_5
            have hw498_4 := hx498_4
            have hw498_3 := hx498_3
            have hw498_2 := hx498_2
            have hw498_1 := hx498_1
            have hw498_0 := hx498_0
            obtain rfl : ad497 = ad498 := (by injection e498)
            replace hx498_0 := pc_ hx498_0
            replace hx498_1 := pc_ hx498_1
            replace hx498_2 := pc_ hx498_2
            replace hx498_3 := pc_ hx498_3
            replace hx498_4 := pc_ hx498_4
            replace hx498_5 := pc_ hx498_5
            replace hx498_6 := pc_ hx498_6
            replace p498 := eq_true p498
            replace q498 := eq_true q498
            have p499 : 0 ≤ (x10_1 : Int) := od_
            have q499 : x10_1 < (l0_2.length : Int) := od_
            obtain ⟨ad499, e499, hx499_0, hx499_1, hx499_2, hx499_3, hx499_4, hx499_5, hx499_6⟩ := at_T44 HR0_2.out x10_1 p499 q499
            have hw499_6 := hx499_6
            have hw499_5 := hx499_5
            have hw499_4 := hx499_4
            have hw499_3 := hx499_3
            have hw499_2 := hx499_2
            have hw499_1 := hx499_1
            have hw499_0 := hx499_0
            obtain rfl : ad497 = ad499 := (by injection e499)
            replace hx499_0 := pc_ hx499_0
            replace hx499_1 := pc_ hx499_1
            replace hx499_2 := pc_ hx499_2
            replace hx499_3 := pc_ hx499_3
            replace hx499_4 := pc_ hx499_4
            replace hx499_5 := pc_ hx499_5
            replace hx499_6 := pc_ hx499_6
            replace p499 := eq_true p499
            replace q499 := eq_true q499
            refine start_ (n := 27) (S := fun w' => w'.cell? ⟨gb487, 0, none⟩ = some (.slice A0_0 l0_0.length c0_0) ∧ w'.cell? ⟨gb487, 1, none⟩ = some (.slice A0_1 l0_1.length c0_1) ∧ w'.cell? ⟨gb487, 2, none⟩ = some (.slice (some ad497) l0_2.length c0_2) ∧ w'.cell? ⟨gb487, 3, none⟩ = some (.slice A0_3 l0_3.length c0_3) ∧ w'.cell? (ad497.add ((x10_1).toNat * 7)) = some (.int .i64 ((rd_T44 l0_2 x10_1).f0)) ∧ w'.cell? ⟨(ad497.add ((x10_1).toNat * 7)).block, (ad497.add ((x10_1).toNat * 7)).off + 1, none⟩ = some (.int .i64 ((rd_T44 l0_2 x10_1).f1)) ∧ w'.cell? ⟨(ad497.add ((x10_1).toNat * 7)).block, (ad497.add ((x10_1).toNat * 7)).off + 2, none⟩ = some (.int .i64 ((rd_T44 l0_2 x10_1).f2)) ∧ w'.cell? ⟨(ad497.add ((x10_1).toNat * 7)).block, (ad497.add ((x10_1).toNat * 7)).off + 3, none⟩ = some (.int .i64 ((rd_T44 l0_2 x10_1).f3)) ∧ w'.cell? ⟨(ad497.add ((x10_1).toNat * 7)).block, (ad497.add ((x10_1).toNat * 7)).off + 4, none⟩ = some (.int .i64 ((rd_T44 l0_2 x10_1).f4)) ∧ w'.cell? ⟨(ad497.add ((x10_1).toNat * 7)).block, (ad497.add ((x10_1).toNat * 7)).off + 5, none⟩ = some (.int .i64 ((rd_T44 l0_2 x10_1).f5)) ∧ w'.cell? ⟨(ad497.add ((x10_1).toNat * 7)).block, (ad497.add ((x10_1).toNat * 7)).off + 6, none⟩ = some (.int .i64 ((rd_T44 l0_2 x10_1).f6)) ∧ w'.cell? (ad497.add ((x10_1).toNat * 7)) = some (.int .i64 ((rd_T44 l0_2 x10_1).f0)) ∧ w'.cell? ⟨(ad497.add ((x10_1).toNat * 7)).block, (ad497.add ((x10_1).toNat * 7)).off + 1, none⟩ = some (.int .i64 ((rd_T44 l0_2 x10_1).f1)) ∧ w'.cell? ⟨(ad497.add ((x10_1).toNat * 7)).block, (ad497.add ((x10_1).toNat * 7)).off + 2, none⟩ = some (.int .i64 ((rd_T44 l0_2 x10_1).f2)) ∧ w'.cell? ⟨(ad497.add ((x10_1).toNat * 7)).block, (ad497.add ((x10_1).toNat * 7)).off + 3, none⟩ = some (.int .i64 ((rd_T44 l0_2 x10_1).f3)) ∧ w'.cell? ⟨(ad497.add ((x10_1).toNat * 7)).block, (ad497.add ((x10_1).toNat * 7)).off + 4, none⟩ = some (.int .i64 ((rd_T44 l0_2 x10_1).f4)) ∧ w'.cell? ⟨(ad497.add ((x10_1).toNat * 7)).block, (ad497.add ((x10_1).toNat * 7)).off + 5, none⟩ = some (.int .i64 ((rd_T44 l0_2 x10_1).f5)) ∧ w'.cell? ⟨(ad497.add ((x10_1).toNat * 7)).block, (ad497.add ((x10_1).toNat * 7)).off + 6, none⟩ = some (.int .i64 ((rd_T44 l0_2 x10_1).f6)) ∧ w'.cell? (ad497.add ((x10_1).toNat * 7)) = some (.int .i64 ((rd_T44 l0_2 x10_1).f0)) ∧ w'.cell? ⟨(ad497.add ((x10_1).toNat * 7)).block, (ad497.add ((x10_1).toNat * 7)).off + 1, none⟩ = some (.int .i64 ((rd_T44 l0_2 x10_1).f1)) ∧ w'.cell? ⟨(ad497.add ((x10_1).toNat * 7)).block, (ad497.add ((x10_1).toNat * 7)).off + 2, none⟩ = some (.int .i64 ((rd_T44 l0_2 x10_1).f2)) ∧ w'.cell? ⟨(ad497.add ((x10_1).toNat * 7)).block, (ad497.add ((x10_1).toNat * 7)).off + 3, none⟩ = some (.int .i64 ((rd_T44 l0_2 x10_1).f3)) ∧ w'.cell? ⟨(ad497.add ((x10_1).toNat * 7)).block, (ad497.add ((x10_1).toNat * 7)).off + 4, none⟩ = some (.int .i64 ((rd_T44 l0_2 x10_1).f4)) ∧ w'.cell? ⟨(ad497.add ((x10_1).toNat * 7)).block, (ad497.add ((x10_1).toNat * 7)).off + 5, none⟩ = some (.int .i64 ((rd_T44 l0_2 x10_1).f5)) ∧ w'.cell? ⟨(ad497.add ((x10_1).toNat * 7)).block, (ad497.add ((x10_1).toNat * 7)).off + 6, none⟩ = some (.int .i64 ((rd_T44 l0_2 x10_1).f6))) (ds := []) #[false, false, false, false, false, false, false, false, false, false, false, false, false, false, false, false, false, false, false, false, false, false, false, false, false, false, false] (by kernel_rfl) rfl rfl ⟨(blk_cell BK487.out 0).trans rfl, (blk_cell BK487.out 1).trans rfl, (blk_cell BK487.out 2).trans rfl, (blk_cell BK487.out 3).trans rfl, (pw_cell_below HB.out hw497_0), (pw_cell_below HB.out hw497_1), (pw_cell_below HB.out hw497_2), (pw_cell_below HB.out hw497_3), (pw_cell_below HB.out hw497_4), (pw_cell_below HB.out hw497_5), (pw_cell_below HB.out hw497_6), (pw_cell_below HB.out hw498_0), (pw_cell_below HB.out hw498_1), (pw_cell_below HB.out hw498_2), (pw_cell_below HB.out hw498_3), (pw_cell_below HB.out hw498_4), (pw_cell_below HB.out hw498_5), (pw_cell_below HB.out hw498_6), (pw_cell_below HB.out hw499_0), (pw_cell_below HB.out hw499_1), (pw_cell_below HB.out hw499_2), (pw_cell_below HB.out hw499_3), (pw_cell_below HB.out hw499_4), (pw_cell_below HB.out hw499_5), (pw_cell_below HB.out hw499_6)⟩ (fun hHeld => ?_); refine with_tabW skiarearef55_Egress.tab14 skiarearef55_Egress.bits14 (fun HT_ HW_ => ?_)
            generalize wr.drew = w28 at HO_9 BK487 BK491 HB hx497_0 hx497_1 hx497_2 hx497_3 hx497_4 hx497_5 hx497_6 hx498_0 hx498_1 hx498_2 hx498_3 hx498_4 hx498_5 hx498_6 hx499_0 hx499_1 hx499_2 hx499_3 hx499_4 hx499_5 hx499_6 hHeld ⊢
            refine pn_ 0 (some 51) ?_
            refine pn_ 1 (some 52) ?_
            refine pn_ 2 (some 53) ?_
            refine pn_ 3 (some 54) ?_
            refine pn_ 5 (some 56) ?_
            refine pn_ 9 (some 60) ?_
            refine pn_ 11 (some 62) ?_
            refine pn_ 15 (some 66) ?_
            refine pn_ 17 (some 68) ?_
            refine tk_ 4 (some 55) ?_ (hy := by rintro w' ⟨s0, s1, s2, s3, s4, s5, s6, s7, s8, s9, s10, s11, s12, s13, s14, s15, s16, s17, s18, s19, s20, s21, s22, s23, s24⟩; go_simp; with_reducible rfl)
            refine pn_ 6 (some 57) ?_
            refine pn_ 7 (some 58) ?_
            refine tk_ 8 (some 59) ?_ (hy := by rintro w' ⟨s0, s1, s2, s3, s4, s5, s6, s7, s8, s9, s10, s11, s12, s13, s14, s15, s16, s17, s18, s19, s20, s21, s22, s23, s24⟩; go_simp; with_reducible rfl)
            refine tk_ 10 (some 61) ?_ (hy := by rintro w' ⟨s0, s1, s2, s3, s4, s5, s6, s7, s8, s9, s10, s11, s12, s13, s14, s15, s16, s17, s18, s19, s20, s21, s22, s23, s24⟩; go_simp; with_reducible rfl)
            refine pn_ 12 (some 63) ?_
            refine pn_ 13 (some 64) ?_
            refine tk_ 14 (some 65) ?_ (hy := by rintro w' ⟨s0, s1, s2, s3, s4, s5, s6, s7, s8, s9, s10, s11, s12, s13, s14, s15, s16, s17, s18, s19, s20, s21, s22, s23, s24⟩; go_simp; with_reducible rfl)
            refine tk_ 16 (some 67) ?_ (hy := by rintro w' ⟨s0, s1, s2, s3, s4, s5, s6, s7, s8, s9, s10, s11, s12, s13, s14, s15, s16, s17, s18, s19, s20, s21, s22, s23, s24⟩; go_simp; with_reducible rfl)
            refine pn_ 18 (some 69) ?_
            refine pn_ 19 (some 70) ?_
            refine tk_ 20 (some 71) ?_ (hy := by rintro w' ⟨s0, s1, s2, s3, s4, s5, s6, s7, s8, s9, s10, s11, s12, s13, s14, s15, s16, s17, s18, s19, s20, s21, s22, s23, s24⟩; go_simp; with_reducible rfl)
            refine pn_ 21 (some 72) ?_
            refine pn_ 22 (some 73) ?_
            refine pn_ 23 (some 74) ?_
            refine one_ (i := 24) (N := some 75) #[true, true, true, true, true, true, true, true, true, true, true, true, true, true, true, true, true, true, true, true, true, true, true, true, true, false, false] rfl rfl (one_of HT_.out (by kernel_rfl)) (by decide) (fun K hK => ?_)
            refine value_ (w1 := ?_) (v := ?_) (by rfl) rfl ?_ ?_
            rotate_left 2
            ·go_simp
             constructor
             ·rfl
             ·rfl
            refine hK.out _ _ ⟨(blk_cell (blk_alloc BK487.out _) 0).trans rfl, (blk_cell (blk_alloc BK487.out _) 1).trans rfl, (blk_cell (blk_alloc BK487.out _) 2).trans rfl, (blk_cell (blk_alloc BK487.out _) 3).trans rfl, (World.cell?_alloc_lt _ _ _ (World.block_lt_of_cell? _ _ ((pw_cell_below HB.out hw497_0)))).trans ((pw_cell_below HB.out hw497_0)), (World.cell?_alloc_lt _ _ _ (World.block_lt_of_cell? _ _ ((pw_cell_below HB.out hw497_1)))).trans ((pw_cell_below HB.out hw497_1)), (World.cell?_alloc_lt _ _ _ (World.block_lt_of_cell? _ _ ((pw_cell_below HB.out hw497_2)))).trans ((pw_cell_below HB.out hw497_2)), (World.cell?_alloc_lt _ _ _ (World.block_lt_of_cell? _ _ ((pw_cell_below HB.out hw497_3)))).trans ((pw_cell_below HB.out hw497_3)), (World.cell?_alloc_lt _ _ _ (World.block_lt_of_cell? _ _ ((pw_cell_below HB.out hw497_4)))).trans ((pw_cell_below HB.out hw497_4)), (World.cell?_alloc_lt _ _ _ (World.block_lt_of_cell? _ _ ((pw_cell_below HB.out hw497_5)))).trans ((pw_cell_below HB.out hw497_5)), (World.cell?_alloc_lt _ _ _ (World.block_lt_of_cell? _ _ ((pw_cell_below HB.out hw497_6)))).trans ((pw_cell_below HB.out hw497_6)), (World.cell?_alloc_lt _ _ _ (World.block_lt_of_cell? _ _ ((pw_cell_below HB.out hw498_0)))).trans ((pw_cell_below HB.out hw498_0)), (World.cell?_alloc_lt _ _ _ (World.block_lt_of_cell? _ _ ((pw_cell_below HB.out hw498_1)))).trans ((pw_cell_below HB.out hw498_1)), (World.cell?_alloc_lt _ _ _ (World.block_lt_of_cell? _ _ ((pw_cell_below HB.out hw498_2)))).trans ((pw_cell_below HB.out hw498_2)), (World.cell?_alloc_lt _ _ _ (World.block_lt_of_cell? _ _ ((pw_cell_below HB.out hw498_3)))).trans ((pw_cell_below HB.out hw498_3)), (World.cell?_alloc_lt _ _ _ (World.block_lt_of_cell? _ _ ((pw_cell_below HB.out hw498_4)))).trans ((pw_cell_below HB.out hw498_4)), (World.cell?_alloc_lt _ _ _ (World.block_lt_of_cell? _ _ ((pw_cell_below HB.out hw498_5)))).trans ((pw_cell_below HB.out hw498_5)), (World.cell?_alloc_lt _ _ _ (World.block_lt_of_cell? _ _ ((pw_cell_below HB.out hw498_6)))).trans ((pw_cell_below HB.out hw498_6)), (World.cell?_alloc_lt _ _ _ (World.block_lt_of_cell? _ _ ((pw_cell_below HB.out hw499_0)))).trans ((pw_cell_below HB.out hw499_0)), (World.cell?_alloc_lt _ _ _ (World.block_lt_of_cell? _ _ ((pw_cell_below HB.out hw499_1)))).trans ((pw_cell_below HB.out hw499_1)), (World.cell?_alloc_lt _ _ _ (World.block_lt_of_cell? _ _ ((pw_cell_below HB.out hw499_2)))).trans ((pw_cell_below HB.out hw499_2)), (World.cell?_alloc_lt _ _ _ (World.block_lt_of_cell? _ _ ((pw_cell_below HB.out hw499_3)))).trans ((pw_cell_below HB.out hw499_3)), (World.cell?_alloc_lt _ _ _ (World.block_lt_of_cell? _ _ ((pw_cell_below HB.out hw499_4)))).trans ((pw_cell_below HB.out hw499_4)), (World.cell?_alloc_lt _ _ _ (World.block_lt_of_cell? _ _ ((pw_cell_below HB.out hw499_5)))).trans ((pw_cell_below HB.out hw499_5)), (World.cell?_alloc_lt _ _ _ (World.block_lt_of_cell? _ _ ((pw_cell_below HB.out hw499_6)))).trans ((pw_cell_below HB.out hw499_6))⟩ (fun hHeld => ?_)
            clear hK K
            refine norm_ (a' := ?_) ?_ ?_
            rotate_left
            ·show Act.put _ (some 75) _ = _
             simp only [Act.put, List.setIfInBounds_toArray, List.set_cons_zero, List.set_cons_succ, i64_w, i32_w]
             rfl
            refine one_ (i := 25) (N := some 76) #[true, true, true, true, true, true, true, true, true, true, true, true, true, true, true, true, true, true, true, true, true, true, true, true, true, true, false] rfl rfl (one_of HT_.out (by kernel_rfl)) (by decide) (fun K hK => ?_)
            refine Kd.R_append_step k67 (w0 := w) w.heap.size (by rfl) (.tmp 51) (.tmp 75) 65 67 (.agg #[(.int .i64 0), (.int .i64 0), (.int .i64 0), (.int .i64 0)]) 32 rfl Try.underlying65 info67 rfl (by decide) (by omega) (.slice Ao29 x9_1.length co29) x9_1 (⟨(x9_1.length : Int), (rd_T44 l0_2 x10_1).f2, (rd_T44 l0_2 x10_1).f3, wrap64 ((wrap64 (5 - ((rd_T44 l0_2 x10_1).f4))) * 500)⟩ : S67) [.int .i64 (x9_1.length : Int), .int .i64 ((rd_T44 l0_2 x10_1).f2), .int .i64 ((rd_T44 l0_2 x10_1).f3), .int .i64 (wrap64 ((wrap64 (5 - ((rd_T44 l0_2 x10_1).f4))) * 500))] (fun _ => True) (fun _ => False) rfl rfl ?aP (fun _ hk => hk.elim) ?aF ?aO ?aB ?aS ?aL ?_
            (case aP => exact k67_mkM _ _ _ (⟨(x9_1.length : Int), (rd_T44 l0_2 x10_1).f2, (rd_T44 l0_2 x10_1).f3, wrap64 ((wrap64 (5 - ((rd_T44 l0_2 x10_1).f4))) * 500)⟩ : S67))
            (case aB => exact bel_)
            (case aF => exact (fun _ _ => trivial))
            (case aO => exact (kR_ HO_9.out))
            (case aS => exact (below_size bel_))
            (case aL => have := LMc27.out; omega)
            intro v501 w30 ho hb hg hat
            rw [← Ny500.out] at ho
            have n0_ := a_ (blk_grown (bk_ BK487.out) hg (Kd.R_ne HO_9.out BK487.out (by decide)))
            have n1_ := a_ (blk_grown (bk_ BK491.out) hg (Kd.R_ne HO_9.out BK491.out (by decide)))
            have n2_ := a_ (hb)
            have n3_ := a_ (ho)
            clear BK487
            clear BK491
            clear HB
            clear HO_9
            have BK487 := n0_
            have BK491 := n1_
            have HB := n2_
            have HO502 := n3_
            clear n0_ n1_ n2_ n3_
            clear ho hb hg hat
            refine hK.out _ _ ⟨(blk_cell BK487.out 0).trans rfl, (blk_cell BK487.out 1).trans rfl, (blk_cell BK487.out 2).trans rfl, (blk_cell BK487.out 3).trans rfl, (pw_cell_below HB.out hw497_0), (pw_cell_below HB.out hw497_1), (pw_cell_below HB.out hw497_2), (pw_cell_below HB.out hw497_3), (pw_cell_below HB.out hw497_4), (pw_cell_below HB.out hw497_5), (pw_cell_below HB.out hw497_6), (pw_cell_below HB.out hw498_0), (pw_cell_below HB.out hw498_1), (pw_cell_below HB.out hw498_2), (pw_cell_below HB.out hw498_3), (pw_cell_below HB.out hw498_4), (pw_cell_below HB.out hw498_5), (pw_cell_below HB.out hw498_6), (pw_cell_below HB.out hw499_0), (pw_cell_below HB.out hw499_1), (pw_cell_below HB.out hw499_2), (pw_cell_below HB.out hw499_3), (pw_cell_below HB.out hw499_4), (pw_cell_below HB.out hw499_5), (pw_cell_below HB.out hw499_6)⟩ (fun hHeld => ?_)
            clear hK K
            refine norm_ (a' := ?_) ?_ ?_
            rotate_left
            ·show Act.put _ (some 76) _ = _
             simp only [Act.put, List.setIfInBounds_toArray, List.set_cons_zero, List.set_cons_succ, i64_w, i32_w]
             rfl
            refine pn_ 26 (some 9) ?_
            refine done_ (done_of HT_.out (by kernel_rfl)) ?_
            try go_wp2
            go_roundg k2
            case measure => have := HK1.out; have := HK2.out; omega
            case rel => exact ⟨(y500), (wrap64 (x10_1 + 1)), (by first | rfl | (simp; done) | (simp [*]; done)), H', ⟨by have := HK1.out; have := HK2.out; omega⟩, ⟨by (with_reducible repeat (first | apply Kd.R_alloc | apply Kd.R_drewN | apply Kd.R_drew)); exact HO502.out⟩, ⟨by exact BK487.out⟩, ⟨by exact BK491.out⟩, ⟨by repeat (first | (with_reducible first | exact HB.out | apply below_alloc | apply pw_below_drewN | apply below_drew1 | refine below_set ?_ GE487.out | refine below_set ?_ GE491.out) | exact HB.out)⟩⟩
           ·rw [if_neg c27] at H
            exact absurd H (by simp)
          ·rw [if_neg c26] at H
           exact absurd H (by simp)
         ·rw [if_neg c25] at H
          exact absurd H (by simp)
        ·replace c24 := Bool.eq_false_iff.mpr c24
         subst c24
         have H1 : (skiarearef55_Egress.l0 k2 l1 a2 x9_1 (wrap64 (x10_1 + 1)) l0_0 l0_1 l0_2 l0_3) = some r := by rw [if_neg (show ¬ (false = true) by decide)] at H; exact H
         clear H
         have H := H1
         clear H1
         have H' := a_ H
         clear H
         go_wp2
         go_roundg k2
         case measure => have := HK1.out; have := HK2.out; omega
         case rel => exact ⟨(x9_1), (wrap64 (x10_1 + 1)), (by first | rfl | (simp; done) | (simp [*]; done)), H', ⟨by have := HK1.out; have := HK2.out; omega⟩, ⟨by (with_reducible repeat (first | apply Kd.R_alloc | apply Kd.R_drewN | apply Kd.R_drew)); exact HO_9.out⟩, ⟨by exact BK487.out⟩, ⟨by exact BK491.out⟩, ⟨by repeat (first | (with_reducible first | exact HB.out | apply below_alloc | apply pw_below_drewN | apply below_drew1 | refine below_set ?_ GE487.out | refine below_set ?_ GE491.out) | exact HB.out)⟩⟩
    ·rw [if_neg c14] at H
     have c14b0 : decide (x10_1 < (l0_2.length : Int)) = false := decide_eq_false c14
     clear c14
     have H' := a_ H
     clear H
     have hnb31 := NB487_491.out
     have hnc31 := NB491_487.out
     have hcz32_0 := cz_ BK487 0
     have hcz32_1 := cz_ BK487 1
     have hcz32_2 := cz_ BK487 2
     have hcz32_3 := cz_ BK487 3
     have hfz32_0 := fz_ BK487 0
     have hfz32_1 := fz_ BK487 1
     have hfz32_2 := fz_ BK487 2
     have hfz32_3 := fz_ BK487 3
     go_wp2
     go_loopg [9, 13] k1 (fun kq v9 v13 w' => ∃ (x9_2 : List (S67)) (x13_2 : Int), v13 = .int .i64 x13_2 ∧ Aside0 (skiarearef55_Egress.l2 kq a2 x9_2 x13_2 l0_0 l0_1 l0_2 l0_3 = some r) ∧ Aside0 (kq ≤ k1) ∧ Aside0 (Kd.R k67 67 w' w.heap.size (fun _ => True) v9 x9_2) ∧ Aside0 (w'.heap[gb487]? = some (.cells #[(.slice A0_0 l0_0.length c0_0), (.slice A0_1 l0_1.length c0_1), (.slice A0_2 l0_2.length c0_2), (.slice A0_3 l0_3.length c0_3)] 38 (0, 0))) ∧ Aside0 (w'.heap[gb491]? = some (.cells #[.int .i64 t488, .int .i64 t489] 62 (0, 0))) ∧ Aside0 (Below w.heap.size w w'))
     case atStart => exact ⟨(x9_1), (0), (by first | rfl | (simp; done) | (simp [*]; done)), H', ⟨Nat.le_refl _⟩, ⟨by (with_reducible repeat (first | apply Kd.R_alloc | apply Kd.R_drewN | apply Kd.R_drew)); exact HO_9.out⟩, ⟨by exact BK487.out⟩, ⟨by exact BK491.out⟩, ⟨by repeat (first | (with_reducible first | exact HB.out | apply below_alloc | apply pw_below_drewN | apply below_drew1 | refine below_set ?_ GE487.out | refine below_set ?_ GE491.out) | exact HB.out)⟩⟩
     case round =>
      clear H'
      try clear c1
      try clear c2
      try clear p2
      try clear c3
      try clear p4
      try clear q4
      try clear hx4
      try clear p6
      try clear c14
      try clear c14b0
      try clear c17
      try clear c17b0
      try clear c18
      try clear c20
      try clear c20b0
      try clear c21
      try clear c21b0
      try clear c22
      try clear c22b0
      try clear c24
      try clear c25
      try clear c25b0
      try clear c26
      try clear c26b0
      try clear c27
      try clear c31
      try clear hcz32_0
      try clear hcz32_1
      try clear hcz32_2
      try clear hcz32_3
      try clear hfz32_0
      try clear hfz32_1
      try clear hfz32_2
      try clear hfz32_3
      try clear hx495_0
      try clear hx496_0
      try clear hx496_1
      try clear hx496_2
      try clear hx496_3
      try clear hx496_4
      try clear hx496_5
      try clear hx496_6
      try clear hx497_0
      try clear hx497_1
      try clear hx497_2
      try clear hx497_3
      try clear hx497_4
      try clear hx497_5
      try clear hx497_6
      try clear hx498_0
      try clear hx498_1
      try clear hx498_2
      try clear hx498_3
      try clear hx498_4
      try clear hx498_5
      try clear hx498_6
      try clear hx499_0
      try clear hx499_1
      try clear hx499_2
      try clear hx499_3
      try clear hx499_4
      try clear hx499_5
      try clear hx499_6
      try clear p495
      try clear p496
      try clear p497
      try clear p498
      try clear p499
      try clear q495
      try clear q496
      try clear q497
      try clear q498
      try clear q499
      obtain ⟨x9_2, x13_2, rfl, HA, HK2, HO_9, BK487, BK491, HB⟩ := hrel
      cases gk with
      | zero => exact absurd HA.out (by simp [skiarearef55_Egress.l2])
      | succ k2 =>
       have H := HA.out
       clear HA
       simp only [skiarearef55_Egress.l2] at H
       by_cases c33 : x13_2 < (l0_3.length : Int)
       ·rw [if_pos c33] at H
        have c33b0 : decide (x13_2 < (l0_3.length : Int)) = true := decide_eq_true c33
        clear c33
        by_cases c34 : 0 ≤ x13_2
        ·rw [if_pos c34] at H
         have c34b0 : decide (0 ≤ x13_2) = true := decide_eq_true c34
         clear c34
         by_cases c35 : x9_2.length < 4398046511104
         ·rw [if_pos c35] at H
          have LMc35 := a_ c35
          clear c35
          obtain ⟨y504, hy504⟩ : ∃ y_ : List (S67), y_ = (x9_2 ++ [(⟨(x9_2.length : Int), rd l0_3 x13_2, 0, 1000000⟩ : S67)]) := ⟨_, rfl⟩
          replace H : (skiarearef55_Egress.l2 k2 a2 y504 (wrap64 (x13_2 + 1)) l0_0 l0_1 l0_2 l0_3) = some r := by first | (rw [hy504]; with_reducible exact H) | (have H2_ := (Option.bind_some _ _).symm.trans H; rw [hy504]; with_reducible exact H2_) | (have H2_ := (Option.bind_some _ _).symm.trans H; with_reducible exact H2_) | with_reducible exact H | (rw [hy504]; exact H) | exact H
          have Ny504 := a_ hy504
          clear hy504
          have H' := a_ H
          clear H
          have hnb36 := NB487_491.out
          have hnc36 := NB491_487.out
          have hcz37_0 := cz_ BK487 0
          have hcz37_1 := cz_ BK487 1
          have hcz37_2 := cz_ BK487 2
          have hcz37_3 := cz_ BK487 3
          have hfz37_0 := fz_ BK487 0
          have hfz37_1 := fz_ BK487 1
          have hfz37_2 := fz_ BK487 2
          have hfz37_3 := fz_ BK487 3
          obtain ⟨Ao38, co38, eo38⟩ := Kd.R_slice HO_9.out
          subst eo38
          have p503 : 0 ≤ (x13_2 : Int) := od_
          have q503 : x13_2 < (l0_3.length : Int) := od_
          obtain ⟨ad503, e503, hx503_0⟩ := Kd.at_int HR0_3.out x13_2 p503 q503
          cases e503
          replace hx503_0 := pc_ hx503_0
          replace p503 := eq_true p503
          replace q503 := eq_true q503
          go_wp2_with (first | ((with_reducible refine gate_builtin (b := .append) (xs := #[.tmp 84, .tmp 93]) rfl ?_); at_builtin; refine Kd.R_append k67 (w0 := w) w.heap.size rfl (.tmp 84) (.tmp 93) 65 67 (.agg #[(.int .i64 0), (.int .i64 0), (.int .i64 0), (.int .i64 0)]) 32 rfl Try.underlying65 info67 rfl (by decide) (by omega) (.slice Ao38 x9_2.length co38) x9_2 (⟨(x9_2.length : Int), rd l0_3 x13_2, 0, 1000000⟩ : S67) [.int .i64 (x9_2.length : Int), .int .i64 (rd l0_3 x13_2), .int .i64 0, .int .i64 1000000] (fun _ => True) (fun _ => False) rfl rfl ?aP (fun _ hk => hk.elim) ?aF ?aO ?aB ?aS ?aL ?_; (case aP => exact k67_mkM _ _ _ (⟨(x9_2.length : Int), rd l0_3 x13_2, 0, 1000000⟩ : S67)); (case aB => exact bel_); (case aF => exact (fun _ _ => trivial)); (case aO => exact (kR_ HO_9.out)); (case aS => exact (below_size bel_)); (case aL => have := LMc35.out; omega); intro v505 w39 ho hb hg hat; rw [← Ny504.out] at ho; have n0_ := a_ (blk_grown (bk_ BK487.out) hg (Kd.R_ne HO_9.out BK487.out (by decide))); have n1_ := a_ (blk_grown (bk_ BK491.out) hg (Kd.R_ne HO_9.out BK491.out (by decide))); have n2_ := a_ (hb); have n3_ := a_ (ho); clear BK487; clear BK491; clear HB; clear HO_9; have BK487 := n0_; have BK491 := n1_; have HB := n2_; have HO506 := n3_; clear n0_ n1_ n2_ n3_; clear ho hb hg hat))
          go_roundg k2
          case measure => have := HK1.out; have := HK2.out; omega
          case rel => exact ⟨(y504), (wrap64 (x13_2 + 1)), (by first | rfl | (simp; done) | (simp [*]; done)), H', ⟨by have := HK1.out; have := HK2.out; omega⟩, ⟨by (with_reducible repeat (first | apply Kd.R_alloc | apply Kd.R_drewN | apply Kd.R_drew)); exact HO506.out⟩, ⟨by exact BK487.out⟩, ⟨by exact BK491.out⟩, ⟨by repeat (first | (with_reducible first | exact HB.out | apply below_alloc | apply pw_below_drewN | apply below_drew1 | refine below_set ?_ GE487.out | refine below_set ?_ GE491.out) | exact HB.out)⟩⟩
         ·rw [if_neg c35] at H
          exact absurd H (by simp)
        ·rw [if_neg c34] at H
         exact absurd H (by simp)
       ·rw [if_neg c33] at H
        have c33b0 : decide (x13_2 < (l0_3.length : Int)) = false := decide_eq_false c33
        clear c33
        replace H := Option.bind_eq_some_iff.mp H
        obtain ⟨t507, A400, H⟩ := H
        replace H : (some t507) = some r := H
        have A40 := a_ A400
        clear A400
        obtain rfl := Option.some.inj H
        have hnb41 := NB487_491.out
        have hnc41 := NB491_487.out
        have hcz42_0 := cz_ BK487 0
        have hcz42_1 := cz_ BK487 1
        have hcz42_2 := cz_ BK487 2
        have hcz42_3 := cz_ BK487 3
        have hfz42_0 := fz_ BK487 0
        have hfz42_1 := fz_ BK487 1
        have hfz42_2 := fz_ BK487 2
        have hfz42_3 := fz_ BK487 3
        obtain ⟨Ao43, co43, eo43⟩ := Kd.R_slice HO_9.out
        subst eo43
        go_wp2_with (first | ((with_reducible refine gate_callee (f := 42) rfl ?_); refine gs_ (some 97) Try.func42 #[.slice Ao43 x9_2.length co43, .int .i64 a2, .int .i64 0] ?_; (with_reducible refine (skiarearef06_Max.calls k2 _ _ x9_2 a2 0 t507 _ ?side1 ?side2 A40.out).mono ?_); (case side1 => repeat (first | exact (Kd.R_reads' HO_9.out).2.2 | (with_reducible refine Kd.C_alloc ?_ _) | (with_reducible refine Kd.C_drewN ?_ _) | (with_reducible refine Kd.C_drew ?_))); (case side2 => exact (Kd.R_reads' HO_9.out).2.1); rintro e w44 ⟨rfl, hb⟩; refine ⟨_, rfl, ?_⟩; have n0_ := a_ (Kd.R_below (kR_ HO_9.out) hb); have n1_ := a_ (blk_below (bk_ BK487.out) hb); have n2_ := a_ (blk_below (bk_ BK491.out) hb); have n3_ := a_ (below_step bel_ hb); clear HO_9; clear BK487; clear BK491; clear HB; have HO_9 := n0_; have BK487 := n1_; have BK491 := n2_; have HB := n3_; clear n0_ n1_ n2_ n3_; (try clear hb); (try clear hb2); (try clear hk); (try clear hi)))
        go_ret
        exact ⟨by first | rfl | (simp [errW_none, errW_some] <;> rfl) | (simp [*, errW_none, errW_some] <;> rfl), by repeat (first | (with_reducible first | exact HB.out | apply below_alloc | apply pw_below_drewN | apply below_drew1 | refine below_set ?_ GE487.out | refine below_set ?_ GE491.out) | exact HB.out)⟩
 ·replace c5 := Bool.eq_false_iff.mpr c5
  subst c5
  have H1 : (some 0) = some r := by rw [if_neg (show ¬ (false = true) by decide)] at H; exact H
  clear H
  have H := H1
  clear H1
  obtain rfl := Option.some.inj H
  go_enter Try.func25, Try.ntmps25
  go_wp2_with (first | ((with_reducible refine gate_dst (N := 3) rfl ?_); refine box_event ?hg (N := 3) ?hd (cs := #[.slice A0_0 l0_0.length c0_0, .slice A0_1 l0_1.length c0_1, .slice A0_2 l0_2.length c0_2, .slice A0_3 l0_3.length c0_3]) (t := 38) ?hr ?_; (case hd => rfl); (case hg => rfl); (case hr => first | (go_simp; done) | (go_simp; rfl)); intro gb487 hg w45 hbox hb; have n0_ := a_ (below_step bel_ hb); have n1_ := a_ (hbox); have n2_ := a_ (bz_ hg : w.heap.size ≤ gb487); have n3_ := a_ (bz_ hg : w.heap.size ≤ gb487); clear HB; have HB := n0_; have BK487 := n1_; have GW487 := n2_; have GE487 := n3_; clear n0_ n1_ n2_ n3_; clear hb hbox hg; have hcz46_0 := cz_ BK487 0; have hcz46_1 := cz_ BK487 1; have hcz46_2 := cz_ BK487 2; have hcz46_3 := cz_ BK487 3; have hfz46_0 := fz_ BK487 0; have hfz46_1 := fz_ BK487 1; have hfz46_2 := fz_ BK487 2; have hfz46_3 := fz_ BK487 3) | ((with_reducible refine gate_callee (f := 41) rfl ?_); refine gs_ (some 17) Try.func41 #[.agg #[.slice A0_0 l0_0.length c0_0, .slice A0_1 l0_1.length c0_1, .slice A0_2 l0_2.length c0_2, .slice A0_3 l0_3.length c0_3], .int .i64 a2] ?_; (with_reducible refine (skiarearef10_Node.calls k _ _ l0_0 _ _ l0_1 _ _ l0_2 _ _ l0_3 a2 t488 t489 false _ ?side1 ?side2 ?side3 ?side4 ?side5 ?side6 ?side7 ?side8 A4.out).mono ?_); (case side1 => exact kC_ (Kd.C_below HR0_0.out HB.out)); (case side2 => exact HC0_0.out); (case side3 => exact kC_ (Kd.C_below HR0_1.out HB.out)); (case side4 => exact HC0_1.out); (case side5 => exact kC_ (Kd.C_below HR0_2.out HB.out)); (case side6 => exact HC0_2.out); (case side7 => exact kC_ (Kd.C_below HR0_3.out HB.out)); (case side8 => exact HC0_3.out); rintro e w47 ⟨rfl, hb⟩; refine ⟨_, rfl, ?_⟩; have n0_ := a_ (blk_below (bk_ BK487.out) hb); have n1_ := a_ (below_step bel_ hb); clear BK487; clear HB; have BK487 := n0_; have HB := n1_; clear n0_ n1_; (try clear hb); (try clear hb2); (try clear hk); (try clear hi)) | ((with_reducible refine gate_dst (N := 7) rfl ?_); refine box_event ?hg (N := 7) ?hd (cs := #[.int .i64 0, .int .i64 0]) (t := 62) ?hr ?_; (case hd => rfl); (case hg => rfl); (case hr => first | (go_simp; done) | (go_simp; rfl)); intro gb491 hg w48 hbox hb; have n0_ := a_ (blk_below (bk_ BK487.out) hb); have n1_ := a_ (below_step bel_ hb); have n2_ := a_ (hbox); have n3_ := a_ (bz_ hg : w.heap.size ≤ gb491); have n4_ := a_ (bz_ hg : w.heap.size ≤ gb491); have n5_ := a_ (nl_ hg (bk_ BK487.out)); have n6_ := a_ (ng_ hg (bk_ BK487.out)); clear BK487; clear HB; have BK487 := n0_; have HB := n1_; have BK491 := n2_; have GW491 := n3_; have GE491 := n4_; have NB487_491 := n5_; have NB491_487 := n6_; clear n0_ n1_ n2_ n3_ n4_ n5_ n6_; clear hb hbox hg; have hnb49 := NB491_487.out; have hnc49 := NB487_491.out; have hcz50_0 := cz_ BK491 0; have hcz50_1 := cz_ BK491 1; have hfz50_0 := fz_ BK491 0; have hfz50_1 := fz_ BK491 1))
  go_ret
  exact ⟨by first | rfl | (simp [errW_none, errW_some] <;> rfl) | (simp [*, errW_none, errW_some] <;> rfl), by repeat (first | (with_reducible first | exact HB.out | apply below_alloc | apply pw_below_drewN | apply below_drew1 | refine below_set ?_ GE487.out | refine below_set ?_ GE491.out) | exact HB.out)⟩

end Go.Proofs.Ytgfiidgigenibaa.Q
