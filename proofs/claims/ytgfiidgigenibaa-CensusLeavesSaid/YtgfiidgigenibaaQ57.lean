-- written by wip/drive.py (this session's program) over the kit's print words
import Derived.Test.YtgfiidgigenibaaQ0
import Derived.Test.YtgfiidgigenibaaQ56
namespace Go.Proofs.Ytgfiidgigenibaa.Q
open Go.RowKit Go.Proofs.YtgfiidgigenibaaW.PrintWords Go.Proofs.YtgfiidgigenibaaW.PrintLast Go.Proofs.YtgfiidgigenibaaW.PrintMore
attribute [local go_sem] max2_int min2_int max_two min_two max_three min_three max_four min_four   -- for this text's walks alone
set_option linter.unusedVariables false
set_option linter.unusedSimpArgs false

/-! ### skiarearef06_search: function 65 -/
mutual
def skiarearef06_search.l0 : Nat → List (S67) → List Int → List Int → List Int → Int → Option (List Int × List Int)
 | 0, _, _, _, _, _ => none
 | k + 1, x0, x1, x8, x9, x10 => if x10 < (x8.length : Int) then (skiarearef06_search.l1 k x0 x1 x8 x9 x10 0) else (some (x8, x9))
def skiarearef06_search.l1 : Nat → List (S67) → List Int → List Int → List Int → Int → Int → Option (List Int × List Int)
 | 0, _, _, _, _, _, _ => none
 | k + 1, x0, x1, x8, x9, x10, x11 => if x11 < (x0.length : Int) then (if 0 ≤ x11 then (if 0 ≤ x10 then (if x10 < (x8.length : Int) then (if ((rd_T67 x0 x11).f1) = (rd x8 x10) then (if x11 < (x1.length : Int) then (if (rd x1 x11) < ((rd_T67 x0 x11).f3) then ((skiarearef06_has.f k x8 ((rd_T67 x0 x11).f2)).bind fun t412 => (skiarearef06_search.j2 k x0 x1 x8 x9 x10 x11 (!t412))) else (skiarearef06_search.j2 k x0 x1 x8 x9 x10 x11 false)) else (none)) else (skiarearef06_search.j2 k x0 x1 x8 x9 x10 x11 false)) else (none)) else (none)) else (none)) else (skiarearef06_search.l0 k x0 x1 x8 x9 (wrap64 (x10 + 1)))
def skiarearef06_search.j2 : Nat → List (S67) → List Int → List Int → List Int → Int → Int → Bool → Option (List Int × List Int)
 | 0, _, _, _, _, _, _, _ => none
 | k + 1, x0, x1, x8, x9, x10, x11, x58 => if x58 = true then (if 0 ≤ x11 then (if x11 < (x0.length : Int) then (if x8.length < 17592186044416 then ((some (x8 ++ [(rd_T67 x0 x11).f2] : List Int)).bind fun y414 => (if x9.length < 17592186044416 then ((some (x9 ++ [wrap64 (x11 + 1)] : List Int)).bind fun y417 => (if 0 ≤ x10 then (if x10 < (y414.length : Int) then (if ((rd_T67 x0 x11).f2) = (rd y414 x10) then (if x11 < (x1.length : Int) then (if (rd x1 x11) > 0 then ((skiarearef06_has.f k y414 ((rd_T67 x0 x11).f1)).bind fun t424 => (if t424 = true then (skiarearef06_search.l1 k x0 x1 y414 y417 x10 (wrap64 (x11 + 1))) else (if y414.length < 17592186044416 then (if y417.length < 17592186044416 then (skiarearef06_search.l1 k x0 x1 (y414 ++ [(rd_T67 x0 x11).f1]) (y417 ++ [wrap64 ((wrap64 (-x11)) - 1)]) x10 (wrap64 (x11 + 1))) else (none)) else (none)))) else (skiarearef06_search.l1 k x0 x1 y414 y417 x10 (wrap64 (x11 + 1)))) else (none)) else (skiarearef06_search.l1 k x0 x1 y414 y417 x10 (wrap64 (x11 + 1)))) else (none)) else (none))) else (none))) else (none)) else (none)) else (none)) else (if 0 ≤ x11 then (if x11 < (x0.length : Int) then (if 0 ≤ x10 then (if x10 < (x8.length : Int) then (if ((rd_T67 x0 x11).f2) = (rd x8 x10) then (if x11 < (x1.length : Int) then (if (rd x1 x11) > 0 then ((skiarearef06_has.f k x8 ((rd_T67 x0 x11).f1)).bind fun t436 => (if t436 = true then (skiarearef06_search.l1 k x0 x1 x8 x9 x10 (wrap64 (x11 + 1))) else (if x8.length < 17592186044416 then (if x9.length < 17592186044416 then (skiarearef06_search.l1 k x0 x1 (x8 ++ [(rd_T67 x0 x11).f1]) (x9 ++ [wrap64 ((wrap64 (-x11)) - 1)]) x10 (wrap64 (x11 + 1))) else (none)) else (none)))) else (skiarearef06_search.l1 k x0 x1 x8 x9 x10 (wrap64 (x11 + 1)))) else (none)) else (skiarearef06_search.l1 k x0 x1 x8 x9 x10 (wrap64 (x11 + 1)))) else (none)) else (none)) else (none)) else (none))
end
def skiarearef06_search.f (k : Nat) (l0 : List (S67)) (l1 : List Int) (a2 : Int) : Option (List Int × List Int) := skiarearef06_search.l0 k l0 l1 (([a2] : List Int)) (([0] : List Int)) 0
theorem skiarearef06_search.mono_l : ∀ k, (∀ y0 y1 y2 y3 y4, LeO (skiarearef06_search.l0 k y0 y1 y2 y3 y4) (skiarearef06_search.l0 (k + 1) y0 y1 y2 y3 y4)) ∧ (∀ y0 y1 y2 y3 y4 y5, LeO (skiarearef06_search.l1 k y0 y1 y2 y3 y4 y5) (skiarearef06_search.l1 (k + 1) y0 y1 y2 y3 y4 y5)) ∧ (∀ y0 y1 y2 y3 y4 y5 y6, LeO (skiarearef06_search.j2 k y0 y1 y2 y3 y4 y5 y6) (skiarearef06_search.j2 (k + 1) y0 y1 y2 y3 y4 y5 y6))
 | 0 => ⟨fun _ _ _ _ _ r h => by simp [skiarearef06_search.l0] at h, fun _ _ _ _ _ _ r h => by simp [skiarearef06_search.l1] at h, fun _ _ _ _ _ _ _ r h => by simp [skiarearef06_search.j2] at h⟩
 | k + 1 => by
  obtain ⟨ih0, ih1, ih2⟩ := skiarearef06_search.mono_l k
  refine ⟨?_, ?_, ?_⟩
  ·intro y0 y1 y2 y3 y4
   unfold skiarearef06_search.l0
   repeat' first
   | (with_reducible exact ih0 _ _ _ _ _)
   | (with_reducible exact ih1 _ _ _ _ _ _)
   | (with_reducible exact ih2 _ _ _ _ _ _ _)
   | (with_reducible exact skiarearef06_has.mono _ _ _)
   | (with_reducible exact LeO.refl _)
   | (with_reducible exact LeO.none _)
   | (with_reducible refine LeO.ite ?_ ?_)
   | (with_reducible refine LeO.bind ?_ (fun _ => ?_))
   | exact ih0 _ _ _ _ _
   | exact ih1 _ _ _ _ _ _
   | exact ih2 _ _ _ _ _ _ _
   | exact skiarearef06_has.mono _ _ _
   | exact LeO.none _
   | refine LeO.ite ?_ ?_
   | refine LeO.bind ?_ (fun _ => ?_)
  ·intro y0 y1 y2 y3 y4 y5
   unfold skiarearef06_search.l1
   repeat' first
   | (with_reducible exact ih0 _ _ _ _ _)
   | (with_reducible exact ih1 _ _ _ _ _ _)
   | (with_reducible exact ih2 _ _ _ _ _ _ _)
   | (with_reducible exact skiarearef06_has.mono _ _ _)
   | (with_reducible exact LeO.refl _)
   | (with_reducible exact LeO.none _)
   | (with_reducible refine LeO.ite ?_ ?_)
   | (with_reducible refine LeO.bind ?_ (fun _ => ?_))
   | exact ih0 _ _ _ _ _
   | exact ih1 _ _ _ _ _ _
   | exact ih2 _ _ _ _ _ _ _
   | exact skiarearef06_has.mono _ _ _
   | exact LeO.none _
   | refine LeO.ite ?_ ?_
   | refine LeO.bind ?_ (fun _ => ?_)
  ·intro y0 y1 y2 y3 y4 y5 y6
   unfold skiarearef06_search.j2
   repeat' first
   | (with_reducible exact ih0 _ _ _ _ _)
   | (with_reducible exact ih1 _ _ _ _ _ _)
   | (with_reducible exact ih2 _ _ _ _ _ _ _)
   | (with_reducible exact skiarearef06_has.mono _ _ _)
   | (with_reducible exact LeO.refl _)
   | (with_reducible exact LeO.none _)
   | (with_reducible refine LeO.ite ?_ ?_)
   | (with_reducible refine LeO.bind ?_ (fun _ => ?_))
   | exact ih0 _ _ _ _ _
   | exact ih1 _ _ _ _ _ _
   | exact ih2 _ _ _ _ _ _ _
   | exact skiarearef06_has.mono _ _ _
   | exact LeO.none _
   | refine LeO.ite ?_ ?_
   | refine LeO.bind ?_ (fun _ => ?_)
theorem skiarearef06_search.mono : ∀ a0 a1 a2 k, LeO (skiarearef06_search.f k a0 a1 a2) (skiarearef06_search.f (k + 1) a0 a1 a2) := by
 intro a0 a1 a2 k
 obtain ⟨ih0, ih1, ih2⟩ := skiarearef06_search.mono_l k
 unfold skiarearef06_search.f
 repeat' first
   | (with_reducible exact ih0 _ _ _ _ _)
   | (with_reducible exact ih1 _ _ _ _ _ _)
   | (with_reducible exact ih2 _ _ _ _ _ _ _)
   | (with_reducible exact skiarearef06_has.mono _ _ _)
   | (with_reducible exact LeO.refl _)
   | (with_reducible exact LeO.none _)
   | (with_reducible refine LeO.ite ?_ ?_)
   | (with_reducible refine LeO.bind ?_ (fun _ => ?_))
   | exact ih0 _ _ _ _ _
   | exact ih1 _ _ _ _ _ _
   | exact ih2 _ _ _ _ _ _ _
   | exact skiarearef06_has.mono _ _ _
   | exact LeO.none _
   | refine LeO.ite ?_ ?_
   | refine LeO.bind ?_ (fun _ => ?_)
def skiarearef06_search.T9 : Bool × List (List Nat × List Nat) := (true, [([], []), ([], []), ([0, 1], [0, 1]), ([2], [2]), ([3], [3]), ([], []), ([], []), ([5, 6], [5, 6]), ([7], [7]), ([4, 8], [4, 8]), ([9], [9]), ([10], [10]), ([10], [10]), ([11, 12, 10], [10, 11, 12]), ([13, 10], [10, 13]), ([10], [10]), ([10], [10]), ([15, 16, 10], [10, 15, 16]), ([17, 10], [10, 17]), ([18, 10], [10, 18]), ([14, 19, 10], [10, 14, 19]), ([10, 20], [10, 20]), ([21, 10], [21]), ([22], [22]), ([22], [22]), ([22], [22]), ([24, 25, 22], [22, 24, 25]), ([26, 22], [22, 26]), ([27, 22], [22, 27]), ([23, 28, 22, 22], [22, 23, 28]), ([29, 22], [22, 29]), ([22, 30], [22, 30])])
def skiarearef06_search.B9 : List Nat := [0, 0, 3, 7, 15, 0, 0, 96, 224, 511, 1023, 2047, 2047, 8191, 16383, 2047, 2047, 100351, 231423, 493567, 1048575, 2097151, 4194303, 8388607, 8388607, 8388607, 58720255, 125829119, 260046847, 536870911, 1073741823, 2147483647]
theorem skiarearef06_search.tab9 : rtab .any (opsOf Try.f65 9) = skiarearef06_search.T9 := by kernel_rfl
theorem skiarearef06_search.bits9 : waitsOk skiarearef06_search.T9.2 skiarearef06_search.B9 = true := by kernel_rfl
def skiarearef06_search.T12 : Bool × List (List Nat × List Nat) := (true, [([], []), ([], []), ([0, 1], [0, 1]), ([2], [2]), ([3], [3]), ([], []), ([], []), ([5, 6], [5, 6]), ([7], [7]), ([4, 8], [4, 8]), ([9], [9]), ([10], [10]), ([10], [10]), ([11, 12, 10], [10, 11, 12]), ([13, 10], [10, 13]), ([14, 10], [10, 14]), ([10, 15], [10, 15]), ([16, 10], [16]), ([17], [17]), ([17], [17]), ([17], [17]), ([19, 20, 17], [17, 19, 20]), ([21, 17], [17, 21]), ([22, 17], [17, 22]), ([18, 23, 17, 17], [17, 18, 23]), ([24, 17], [17, 24]), ([17, 25], [17, 25])])
def skiarearef06_search.B12 : List Nat := [0, 0, 3, 7, 15, 0, 0, 96, 224, 511, 1023, 2047, 2047, 8191, 16383, 32767, 65535, 131071, 262143, 262143, 262143, 1835007, 3932159, 8126463, 16777215, 33554431, 67108863]
theorem skiarearef06_search.tab12 : rtab .any (opsOf Try.f65 12) = skiarearef06_search.T12 := by kernel_rfl
theorem skiarearef06_search.bits12 : waitsOk skiarearef06_search.T12.2 skiarearef06_search.B12 = true := by kernel_rfl
set_option maxHeartbeats 8000000 in
set_option maxRecDepth 100000 in
theorem skiarearef06_search.calls (k : Nat) (A0 : Option Addr) (c0 : Nat) (l0 : List (S67)) (A1 : Option Addr) (c1 : Nat) (l1 : List Int) (a2 : Int) (r1 : List Int) (r2 : List Int) (w : World) (hr0 : Kd.C k67 w A0 l0.length l0) (hc0 : l0.length ≤ c0) (hr1 : Kd.C (Kd.int .i64) w A1 l1.length l1) (hc1 : l1.length ≤ c1) (h : skiarearef06_search.f k l0 l1 a2 = some (r1, r2)) :
  Calls Try.prog 65 #[.slice A0 l0.length c0, .slice A1 l1.length c1, .int .i64 a2] w fun e w' => ∃ v0_ v1_ : Value, e = .returned (.tuple #[v0_, v1_]) ∧ Kd.R (Kd.int .i64) 3 w' w.heap.size (fun k_ => some k_ ≠ (v1_ : Value).ownBlock) v0_ r1 ∧ Kd.R (Kd.int .i64) 3 w' w.heap.size (fun k_ => some k_ ≠ (v0_ : Value).ownBlock) v1_ r2 ∧ Below w.heap.size w w' := by
 have HR0 := a_ hr0
 have HC0 := a_ hc0
 clear hr0 hc0
 have HR1 := a_ hr1
 have HC1 := a_ hc1
 clear hr1 hc1
 have HB := a_ (Below.refl w.heap.size w)
 have H : (skiarearef06_search.l0 k l0 l1 (([a2] : List Int)) (([0] : List Int)) 0) = some (r1, r2) := h
 clear h
 obtain ⟨y401, hy401⟩ : ∃ y_ : List Int, y_ = (([a2] : List Int)) := ⟨_, rfl⟩
 replace H : (skiarearef06_search.l0 k l0 l1 y401 (([0] : List Int)) 0) = some (r1, r2) := by first | (rw [hy401]; with_reducible exact H) | (have H2_ := (Option.bind_some _ _).symm.trans H; rw [hy401]; with_reducible exact H2_) | (have H2_ := (Option.bind_some _ _).symm.trans H; with_reducible exact H2_) | with_reducible exact H | (rw [hy401]; exact H) | exact H
 have Ny401 := a_ hy401
 clear hy401
 obtain ⟨y404, hy404⟩ : ∃ y_ : List Int, y_ = (([0] : List Int)) := ⟨_, rfl⟩
 replace H : (skiarearef06_search.l0 k l0 l1 y401 y404 0) = some (r1, r2) := by first | (rw [hy404]; with_reducible exact H) | (have H2_ := (Option.bind_some _ _).symm.trans H; rw [hy404]; with_reducible exact H2_) | (have H2_ := (Option.bind_some _ _).symm.trans H; with_reducible exact H2_) | with_reducible exact H | (rw [hy404]; exact H) | exact H
 have Ny404 := a_ hy404
 clear hy404
 have H' := a_ H
 clear H
 go_enter Try.func65, Try.ntmps65
 go_wp2_with (first | ((with_reducible refine gate_dst (N := 13) rfl ?_); refine Kd.R_lit (Kd.int .i64) _ 3 ?hg (N := 13) ?hd (xs := ([a2] : List Int)) (inner := [.int .i64 a2]) (ok := fun _ => True) (okp := fun _ => True) ?hr ?hp (fun _ hk => hk) trivial (Below.refl _ _) (Nat.le_refl _) (by simp) ?_; (case hd => rfl); (case hg => rfl); (case hr => first | (go_simp; done) | (go_simp; rfl)); (case hp => exact (Reps.one (show Kd.M (Kd.int .i64) _ _ _ a2 [.int .i64 a2] from rfl) (Reps.none _ _))); intro v402 w4 ho5 hb hg_ hnew_; clear hg_ hnew_; (first | rw [← Ny401.out] at ho5 | (simp only [Int.reduceToNat] at ho5; rw [← Ny401.out] at ho5)); have n0_ := a_ (Kd.R_lower ho5 (below_size bel_)); have n1_ := a_ (below_step bel_ hb); clear HB; have HO403 := n0_; have HB := n1_; clear n0_ n1_; clear hb ho5) | ((with_reducible refine gate_dst (N := 14) rfl ?_); refine Kd.R_lit (Kd.int .i64) _ 3 ?hg (N := 14) ?hd (xs := ([0] : List Int)) (inner := [.int .i64 0]) (ok := fun _ => True) (okp := fun _ => True) ?hr ?hp (fun _ hk => hk) trivial (Below.refl _ _) (Nat.le_refl _) (by simp) ?_; (case hd => rfl); (case hg => rfl); (case hr => first | (go_simp; done) | (go_simp; rfl)); (case hp => exact (Reps.one (show Kd.M (Kd.int .i64) _ _ _ 0 [.int .i64 0] from rfl) (Reps.none _ _))); intro v405 w6 ho7 hb hg_ hnew_; clear hg_ hnew_; (first | rw [← Ny404.out] at ho7 | (simp only [Int.reduceToNat] at ho7; rw [← Ny404.out] at ho7)); have n0_ := a_ (Kd.R_elder' (kR_ HO403.out) (Kd.R_base ho7) hb); have n1_ := a_ (Kd.R_lower (Kd.R_new' ho7 (Kd.R_lt (kR_ HO403.out))) (below_size bel_)); have n2_ := a_ (below_step bel_ hb); clear HO403; clear HB; have HO403 := n0_; have HO406 := n1_; have HB := n2_; clear n0_ n1_ n2_; clear hb ho7))
 go_loopg [8, 9, 10] k (fun kq v8 v9 v10 w' => ∃ (x8_1 : List Int) (x9_1 : List Int) (x10_1 : Int), v10 = .int .i64 x10_1 ∧ Aside0 (skiarearef06_search.l0 kq l0 l1 x8_1 x9_1 x10_1 = some (r1, r2)) ∧ Aside0 (kq ≤ k) ∧ Aside0 (Kd.R (Kd.int .i64) 3 w' w.heap.size (fun k_ => some k_ ≠ (v9 : Value).ownBlock) v8 x8_1) ∧ Aside0 (Kd.R (Kd.int .i64) 3 w' w.heap.size (fun k_ => some k_ ≠ (v8 : Value).ownBlock) v9 x9_1) ∧ Aside0 (Below w.heap.size w w'))
 case atStart => exact ⟨(y401), (y404), (0), (by first | rfl | (simp; done) | (simp [*]; done)), H', ⟨Nat.le_refl _⟩, ⟨by (with_reducible repeat (first | apply Kd.R_alloc | apply Kd.R_drewN | apply Kd.R_drew)); exact Kd.R_mono HO403.out (fun _ hk => hk.2)⟩, ⟨by (with_reducible repeat (first | apply Kd.R_alloc | apply Kd.R_drewN | apply Kd.R_drew)); exact Kd.R_mono HO406.out (fun _ hk => hk.2)⟩, ⟨by repeat (first | (with_reducible first | exact HB.out | apply below_alloc | apply pw_below_drewN | apply below_drew1) | exact HB.out)⟩⟩
 case round =>
  clear H'
  try clear c1
  try clear p2
  try clear c6
  obtain ⟨x8_1, x9_1, x10_1, rfl, HA, HK1, HO_8, HO_9, HB⟩ := hrel
  cases gk with
  | zero => exact absurd HA.out (by simp [skiarearef06_search.l0])
  | succ k1 =>
   have H := HA.out
   clear HA
   simp only [skiarearef06_search.l0] at H
   by_cases c8 : x10_1 < (x8_1.length : Int)
   ·rw [if_pos c8] at H
    have c8b0 : decide (x10_1 < (x8_1.length : Int)) = true := decide_eq_true c8
    clear c8
    have H' := a_ H
    clear H
    obtain ⟨Ao9, co9, eo9⟩ := Kd.R_slice HO_8.out
    subst eo9
    go_wp2
    go_loopg [8, 9, 11] k1 (fun kq v8 v9 v11 w' => ∃ (x8_2 : List Int) (x9_2 : List Int) (x11_2 : Int), v11 = .int .i64 x11_2 ∧ Aside0 (skiarearef06_search.l1 kq l0 l1 x8_2 x9_2 x10_1 x11_2 = some (r1, r2)) ∧ Aside0 (kq ≤ k1) ∧ Aside0 (Kd.R (Kd.int .i64) 3 w' w.heap.size (fun k_ => some k_ ≠ (v9 : Value).ownBlock) v8 x8_2) ∧ Aside0 (Kd.R (Kd.int .i64) 3 w' w.heap.size (fun k_ => some k_ ≠ (v8 : Value).ownBlock) v9 x9_2) ∧ Aside0 (Below w.heap.size w w'))
    case atStart => exact ⟨(x8_1), (x9_1), (0), (by first | rfl | (simp; done) | (simp [*]; done)), H', ⟨Nat.le_refl _⟩, ⟨by (with_reducible repeat (first | apply Kd.R_alloc | apply Kd.R_drewN | apply Kd.R_drew)); exact HO_8.out⟩, ⟨by (with_reducible repeat (first | apply Kd.R_alloc | apply Kd.R_drewN | apply Kd.R_drew)); exact HO_9.out⟩, ⟨by repeat (first | (with_reducible first | exact HB.out | apply below_alloc | apply pw_below_drewN | apply below_drew1) | exact HB.out)⟩⟩
    case round =>
     clear H'
     try clear c1
     try clear p2
     try clear c6
     try clear c8
     try clear c8b0
     try clear p2
     obtain ⟨x8_2, x9_2, x11_2, rfl, HA, HK2, HO_8, HO_9, HB⟩ := hrel
     cases gk with
     | zero => exact absurd HA.out (by simp [skiarearef06_search.l1])
     | succ k2 =>
      have H := HA.out
      clear HA
      simp only [skiarearef06_search.l1] at H
      by_cases c10 : x11_2 < (l0.length : Int)
      ·rw [if_pos c10] at H
       have c10b0 : decide (x11_2 < (l0.length : Int)) = true := decide_eq_true c10
       clear c10
       have HC11 := a_ H
       clear H
       go_upto_region 9 with (fail)
       go_cut [58] (fun v58 wc => ∃ (kq : Nat) (x58_10 : Bool), v58 = .bool x58_10 ∧ Aside0 (skiarearef06_search.j2 kq l0 l1 x8_2 x9_2 x10_1 x11_2 x58_10 = some (r1, r2)) ∧ Aside0 (kq ≤ k2) ∧ Aside0 (Kd.R (Kd.int .i64) 3 wc w.heap.size (fun k_ => some k_ ≠ (u9 : Value).ownBlock) u8 x8_2) ∧ Aside0 (Kd.R (Kd.int .i64) 3 wc w.heap.size (fun k_ => some k_ ≠ (u8 : Value).ownBlock) u9 x9_2) ∧ Aside0 (Below w.heap.size w wc))
       case first =>
        have H := HC11.out
        clear HC11
        by_cases c12 : 0 ≤ x11_2
        ·rw [if_pos c12] at H
         have c12b0 : decide (0 ≤ x11_2) = true := decide_eq_true c12
         clear c12
         (first | rw [c12b0] | (simp only [i64_w, i32_w]; rw [c12b0]) | skip)
         by_cases c13 : 0 ≤ x10_1
         ·rw [if_pos c13] at H
          have c13b0 : decide (0 ≤ x10_1) = true := decide_eq_true c13
          clear c13
          by_cases c14 : x10_1 < (x8_2.length : Int)
          ·rw [if_pos c14] at H
           have c14b0 : decide (x10_1 < (x8_2.length : Int)) = true := decide_eq_true c14
           clear c14
           by_cases c15 : ((rd_T67 l0 x11_2).f1) = (rd x8_2 x10_1)
           ·rw [if_pos c15] at H
            have c15b0 : (((rd_T67 l0 x11_2).f1) == (rd x8_2 x10_1)) = true := beq_iff_eq.mpr c15
            have c15b1 : (((rd_T67 l0 x11_2).f1) != (rd x8_2 x10_1)) = false := bne_eq_false_iff_eq.mpr c15
            clear c15
            by_cases c16 : x11_2 < (l1.length : Int)
            ·rw [if_pos c16] at H
             have c16b0 : decide (x11_2 < (l1.length : Int)) = true := decide_eq_true c16
             clear c16
             by_cases c17 : (rd l1 x11_2) < ((rd_T67 l0 x11_2).f3)
             ·rw [if_pos c17] at H
              have c17b0 : decide ((rd l1 x11_2) < ((rd_T67 l0 x11_2).f3)) = true := decide_eq_true c17
              clear c17
              replace H := Option.bind_eq_some_iff.mp H
              obtain ⟨t412, A180, H⟩ := H
              replace H : (skiarearef06_search.j2 k2 l0 l1 x8_2 x9_2 x10_1 x11_2 (!t412)) = some (r1, r2) := H
              have A18 := a_ A180
              clear A180
              have H' := a_ H
              clear H
              try go_wp2
              have n0_ := a_ (Kd.R_drew HO_8.out)
              have n1_ := a_ (Kd.R_drew HO_9.out)
              have n2_ := a_ (below_drew1 HB.out)
              clear HO_8
              clear HO_9
              clear HB
              have HO_8 := n0_
              have HO_9 := n1_
              have HB := n2_
              clear n0_ n1_ n2_
              have p407 : 0 ≤ (x11_2 : Int) := od_
              have q407 : x11_2 < (l0.length : Int) := od_
              obtain ⟨ad407, e407, hx407_0, hx407_1, hx407_2, hx407_3⟩ := at_T67 HR0.out x11_2 p407 q407
              have hw407_3 := hx407_3
              have hw407_2 := hx407_2
              have hw407_1 := hx407_1
              have hw407_0 := hx407_0
              cases e407
              replace hx407_0 := pc_ hx407_0
              replace hx407_1 := pc_ hx407_1
              replace hx407_2 := pc_ hx407_2
              replace hx407_3 := pc_ hx407_3
              replace p407 := eq_true p407
              replace q407 := eq_true q407
              obtain ⟨Ao20, co20, eo20⟩ := Kd.R_slice HO_8.out
              (first | subst eo20 | (injection eo20 with f1_ f2_ f3_; have f4_ := f1_.symm; have f5_ := f3_.symm; clear f1_ f2_ f3_; subst f4_; subst f5_))
              have p408 : 0 ≤ (x10_1 : Int) := od_
              have q408 : x10_1 < (x8_2.length : Int) := od_
              obtain ⟨ad408, e408, hx408_0⟩ := Kd.at_int (Kd.R_reads' HO_8.out).2.2 x10_1 p408 q408
              cases e408
              replace p408 := eq_true p408
              replace q408 := eq_true q408
              have p409 : 0 ≤ (x11_2 : Int) := od_
              have q409 : x11_2 < (l1.length : Int) := od_
              obtain ⟨ad409, e409, hx409_0⟩ := Kd.at_int HR1.out x11_2 p409 q409
              have hw409_0 := hx409_0
              cases e409
              replace hx409_0 := pc_ hx409_0
              replace p409 := eq_true p409
              replace q409 := eq_true q409
              have p410 : 0 ≤ (x11_2 : Int) := od_
              have q410 : x11_2 < (l0.length : Int) := od_
              obtain ⟨ad410, e410, hx410_0, hx410_1, hx410_2, hx410_3⟩ := at_T67 HR0.out x11_2 p410 q410
              have hw410_3 := hx410_3
              have hw410_2 := hx410_2
              have hw410_1 := hx410_1
              have hw410_0 := hx410_0
              obtain rfl : ad407 = ad410 := (by injection e410)
              replace hx410_0 := pc_ hx410_0
              replace hx410_1 := pc_ hx410_1
              replace hx410_2 := pc_ hx410_2
              replace hx410_3 := pc_ hx410_3
              replace p410 := eq_true p410
              replace q410 := eq_true q410
              have p411 : 0 ≤ (x11_2 : Int) := od_
              have q411 : x11_2 < (l0.length : Int) := od_
              obtain ⟨ad411, e411, hx411_0, hx411_1, hx411_2, hx411_3⟩ := at_T67 HR0.out x11_2 p411 q411
              have hw411_3 := hx411_3
              have hw411_2 := hx411_2
              have hw411_1 := hx411_1
              have hw411_0 := hx411_0
              obtain rfl : ad407 = ad411 := (by injection e411)
              replace hx411_0 := pc_ hx411_0
              replace hx411_1 := pc_ hx411_1
              replace hx411_2 := pc_ hx411_2
              replace hx411_3 := pc_ hx411_3
              replace p411 := eq_true p411
              replace q411 := eq_true q411
              refine start_ (n := 32) (S := fun w' => w'.cell? (ad407.add ((x11_2).toNat * 4)) = some (.int .i64 ((rd_T67 l0 x11_2).f0)) ∧ w'.cell? ⟨(ad407.add ((x11_2).toNat * 4)).block, (ad407.add ((x11_2).toNat * 4)).off + 1, none⟩ = some (.int .i64 ((rd_T67 l0 x11_2).f1)) ∧ w'.cell? ⟨(ad407.add ((x11_2).toNat * 4)).block, (ad407.add ((x11_2).toNat * 4)).off + 2, none⟩ = some (.int .i64 ((rd_T67 l0 x11_2).f2)) ∧ w'.cell? ⟨(ad407.add ((x11_2).toNat * 4)).block, (ad407.add ((x11_2).toNat * 4)).off + 3, none⟩ = some (.int .i64 ((rd_T67 l0 x11_2).f3)) ∧ w'.cell? (ad408.add (x10_1).toNat) = some (.int .i64 (rd x8_2 x10_1)) ∧ w'.cell? (ad409.add (x11_2).toNat) = some (.int .i64 (rd l1 x11_2)) ∧ w'.cell? (ad407.add ((x11_2).toNat * 4)) = some (.int .i64 ((rd_T67 l0 x11_2).f0)) ∧ w'.cell? ⟨(ad407.add ((x11_2).toNat * 4)).block, (ad407.add ((x11_2).toNat * 4)).off + 1, none⟩ = some (.int .i64 ((rd_T67 l0 x11_2).f1)) ∧ w'.cell? ⟨(ad407.add ((x11_2).toNat * 4)).block, (ad407.add ((x11_2).toNat * 4)).off + 2, none⟩ = some (.int .i64 ((rd_T67 l0 x11_2).f2)) ∧ w'.cell? ⟨(ad407.add ((x11_2).toNat * 4)).block, (ad407.add ((x11_2).toNat * 4)).off + 3, none⟩ = some (.int .i64 ((rd_T67 l0 x11_2).f3)) ∧ w'.cell? (ad407.add ((x11_2).toNat * 4)) = some (.int .i64 ((rd_T67 l0 x11_2).f0)) ∧ w'.cell? ⟨(ad407.add ((x11_2).toNat * 4)).block, (ad407.add ((x11_2).toNat * 4)).off + 1, none⟩ = some (.int .i64 ((rd_T67 l0 x11_2).f1)) ∧ w'.cell? ⟨(ad407.add ((x11_2).toNat * 4)).block, (ad407.add ((x11_2).toNat * 4)).off + 2, none⟩ = some (.int .i64 ((rd_T67 l0 x11_2).f2)) ∧ w'.cell? ⟨(ad407.add ((x11_2).toNat * 4)).block, (ad407.add ((x11_2).toNat * 4)).off + 3, none⟩ = some (.int .i64 ((rd_T67 l0 x11_2).f3))) (ds := []) #[false, false, false, false, false, false, false, false, false, false, false, false, false, false, false, false, false, false, false, false, false, false, false, false, false, false, false, false, false, false, false, false] (by kernel_rfl) rfl rfl ⟨(pw_cell_below HB.out hw407_0), (pw_cell_below HB.out hw407_1), (pw_cell_below HB.out hw407_2), (pw_cell_below HB.out hw407_3), hx408_0, (pw_cell_below HB.out hw409_0), (pw_cell_below HB.out hw410_0), (pw_cell_below HB.out hw410_1), (pw_cell_below HB.out hw410_2), (pw_cell_below HB.out hw410_3), (pw_cell_below HB.out hw411_0), (pw_cell_below HB.out hw411_1), (pw_cell_below HB.out hw411_2), (pw_cell_below HB.out hw411_3)⟩ (fun hHeld => ?_); refine with_tabW skiarearef06_search.tab9 skiarearef06_search.bits9 (fun HT_ HW_ => ?_)
              generalize wr.drew = w19 at HO_8 HO_9 HB hx407_0 hx407_1 hx407_2 hx407_3 hx408_0 hx409_0 hx410_0 hx410_1 hx410_2 hx410_3 hx411_0 hx411_1 hx411_2 hx411_3 hHeld ⊢
              refine pn_ 0 (some 27) ?_
              refine pn_ 1 (some 28) ?_
              refine pn_ 2 (some 29) ?_
              refine pn_ 3 (some 30) ?_
              refine pn_ 5 (some 32) ?_
              refine pn_ 6 (some 33) ?_
              refine pn_ 7 (some 34) ?_
              refine tk_ 4 (some 31) ?_ (hy := by rintro w' ⟨s0, s1, s2, s3, s4, s5, s6, s7, s8, s9, s10, s11, s12, s13⟩; go_simp; with_reducible rfl)
              refine tk_ 8 (some 35) ?_ (hy := by rintro w' ⟨s0, s1, s2, s3, s4, s5, s6, s7, s8, s9, s10, s11, s12, s13⟩; go_simp; with_reducible rfl)
              refine pn_ 9 (some 36) ?_
              refine pn_ 10 (some 37) ?_
              refine pn_ 11 (some 38) ?_
              refine pn_ 12 (some 39) ?_
              refine pn_ 13 (some 40) ?_
              refine pn_ 15 (some 42) ?_
              refine pn_ 16 (some 43) ?_
              refine pn_ 17 (some 44) ?_
              refine pn_ 18 (some 45) ?_
              refine tk_ 14 (some 41) ?_ (hy := by rintro w' ⟨s0, s1, s2, s3, s4, s5, s6, s7, s8, s9, s10, s11, s12, s13⟩; go_simp; with_reducible rfl)
              refine tk_ 19 (some 46) ?_ (hy := by rintro w' ⟨s0, s1, s2, s3, s4, s5, s6, s7, s8, s9, s10, s11, s12, s13⟩; go_simp; with_reducible rfl)
              refine pn_ 20 (some 47) ?_
              refine pn_ 21 (some 48) ?_
              refine pn_ 22 (some 49) ?_
              refine pn_ 23 (some 50) ?_
              refine pn_ 24 (some 51) ?_
              refine pn_ 25 (some 52) ?_
              refine pn_ 26 (some 53) ?_
              refine pn_ 27 (some 54) ?_
              refine tk_ 28 (some 55) ?_ (hy := by rintro w' ⟨s0, s1, s2, s3, s4, s5, s6, s7, s8, s9, s10, s11, s12, s13⟩; go_simp; with_reducible rfl)
              refine one_ (i := 29) (N := some 56) #[true, true, true, true, true, true, true, true, true, true, true, true, true, true, true, true, true, true, true, true, true, true, true, true, true, true, true, true, true, true, false, false] rfl rfl (one_of HT_.out (by kernel_rfl)) (by decide) (fun K hK => ?_)
              refine goes_ Try.func68 (by kernel_rfl) rfl #[.slice (some ad408) x8_2.length co20, .int .i64 ((rd_T67 l0 x11_2).f2)] (by rfl) rfl rfl (by (try simp only [List.map_toArray, List.map_cons, List.map_nil]); first | done | rfl | (simp only [List.length_drop, List.length_take]; rfl)) ?_
              with_reducible refine (skiarearef06_has.calls k2 _ _ x8_2 ((rd_T67 l0 x11_2).f2) t412 _ ?side1 ?side2 A18.out).mono ?_
              (case side1 => repeat (first | exact (Kd.R_reads' HO_8.out).2.2 | (with_reducible refine Kd.C_alloc ?_ _) | (with_reducible refine Kd.C_drewN ?_ _) | (with_reducible refine Kd.C_drew ?_)))
              (case side2 => exact (Kd.R_reads' HO_8.out).2.1)
              rintro e w' ⟨rfl, ⟨nd, rfl⟩⟩
              refine ⟨_, rfl, ?_⟩
              refine hK.out _ _ ⟨(pw_cell_below HB.out hw407_0), (pw_cell_below HB.out hw407_1), (pw_cell_below HB.out hw407_2), (pw_cell_below HB.out hw407_3), hHeld.2.2.2.2.1, (pw_cell_below HB.out hw409_0), (pw_cell_below HB.out hw410_0), (pw_cell_below HB.out hw410_1), (pw_cell_below HB.out hw410_2), (pw_cell_below HB.out hw410_3), (pw_cell_below HB.out hw411_0), (pw_cell_below HB.out hw411_1), (pw_cell_below HB.out hw411_2), (pw_cell_below HB.out hw411_3)⟩ (fun hHeld => ?_)
              clear hK K
              refine norm_ (a' := ?_) ?_ ?_
              rotate_left
              ·show Act.put _ (some 56) _ = _
               simp only [Act.put, List.setIfInBounds_toArray, List.set_cons_zero, List.set_cons_succ, i64_w, i32_w]
               rfl
              refine pn_ 30 (some 57) ?_
              refine pn_ 31 (some 58) ?_
              refine done_ (done_of HT_.out (by kernel_rfl)) ?_
              try go_wp2
              go_meet
              case rel => exact ⟨_, (!t412), (by first | rfl | (simp; done) | (simp [*]; done)), H', ⟨by have := HK1.out; have := HK2.out; first | omega | exact Nat.le_refl _⟩, ⟨by (with_reducible repeat (first | apply Kd.R_alloc | apply Kd.R_drewN | apply Kd.R_drew)); exact HO_8.out⟩, ⟨by (with_reducible repeat (first | apply Kd.R_alloc | apply Kd.R_drewN | apply Kd.R_drew)); exact HO_9.out⟩, ⟨by repeat (first | (with_reducible first | exact HB.out | apply below_alloc | apply pw_below_drewN | apply below_drew1) | exact HB.out)⟩⟩
             ·rw [if_neg c17] at H
              have c17b0 : decide ((rd l1 x11_2) < ((rd_T67 l0 x11_2).f3)) = false := decide_eq_false c17
              clear c17
              have H' := a_ H
              clear H
              try go_wp2
              have n0_ := a_ (Kd.R_drew HO_8.out)
              have n1_ := a_ (Kd.R_drew HO_9.out)
              have n2_ := a_ (below_drew1 HB.out)
              clear HO_8
              clear HO_9
              clear HB
              have HO_8 := n0_
              have HO_9 := n1_
              have HB := n2_
              clear n0_ n1_ n2_
              have p407 : 0 ≤ (x11_2 : Int) := od_
              have q407 : x11_2 < (l0.length : Int) := od_
              obtain ⟨ad407, e407, hx407_0, hx407_1, hx407_2, hx407_3⟩ := at_T67 HR0.out x11_2 p407 q407
              have hw407_3 := hx407_3
              have hw407_2 := hx407_2
              have hw407_1 := hx407_1
              have hw407_0 := hx407_0
              cases e407
              replace hx407_0 := pc_ hx407_0
              replace hx407_1 := pc_ hx407_1
              replace hx407_2 := pc_ hx407_2
              replace hx407_3 := pc_ hx407_3
              replace p407 := eq_true p407
              replace q407 := eq_true q407
              obtain ⟨Ao22, co22, eo22⟩ := Kd.R_slice HO_8.out
              (first | subst eo22 | (injection eo22 with f1_ f2_ f3_; have f4_ := f1_.symm; have f5_ := f3_.symm; clear f1_ f2_ f3_; subst f4_; subst f5_))
              have p408 : 0 ≤ (x10_1 : Int) := od_
              have q408 : x10_1 < (x8_2.length : Int) := od_
              obtain ⟨ad408, e408, hx408_0⟩ := Kd.at_int (Kd.R_reads' HO_8.out).2.2 x10_1 p408 q408
              cases e408
              replace p408 := eq_true p408
              replace q408 := eq_true q408
              have p409 : 0 ≤ (x11_2 : Int) := od_
              have q409 : x11_2 < (l1.length : Int) := od_
              obtain ⟨ad409, e409, hx409_0⟩ := Kd.at_int HR1.out x11_2 p409 q409
              have hw409_0 := hx409_0
              cases e409
              replace hx409_0 := pc_ hx409_0
              replace p409 := eq_true p409
              replace q409 := eq_true q409
              have p410 : 0 ≤ (x11_2 : Int) := od_
              have q410 : x11_2 < (l0.length : Int) := od_
              obtain ⟨ad410, e410, hx410_0, hx410_1, hx410_2, hx410_3⟩ := at_T67 HR0.out x11_2 p410 q410
              have hw410_3 := hx410_3
              have hw410_2 := hx410_2
              have hw410_1 := hx410_1
              have hw410_0 := hx410_0
              obtain rfl : ad407 = ad410 := (by injection e410)
              replace hx410_0 := pc_ hx410_0
              replace hx410_1 := pc_ hx410_1
              replace hx410_2 := pc_ hx410_2
              replace hx410_3 := pc_ hx410_3
              replace p410 := eq_true p410
              replace q410 := eq_true q410
              refine start_ (n := 32) (S := fun w' => w'.cell? (ad407.add ((x11_2).toNat * 4)) = some (.int .i64 ((rd_T67 l0 x11_2).f0)) ∧ w'.cell? ⟨(ad407.add ((x11_2).toNat * 4)).block, (ad407.add ((x11_2).toNat * 4)).off + 1, none⟩ = some (.int .i64 ((rd_T67 l0 x11_2).f1)) ∧ w'.cell? ⟨(ad407.add ((x11_2).toNat * 4)).block, (ad407.add ((x11_2).toNat * 4)).off + 2, none⟩ = some (.int .i64 ((rd_T67 l0 x11_2).f2)) ∧ w'.cell? ⟨(ad407.add ((x11_2).toNat * 4)).block, (ad407.add ((x11_2).toNat * 4)).off + 3, none⟩ = some (.int .i64 ((rd_T67 l0 x11_2).f3)) ∧ w'.cell? (ad408.add (x10_1).toNat) = some (.int .i64 (rd x8_2 x10_1)) ∧ w'.cell? (ad409.add (x11_2).toNat) = some (.int .i64 (rd l1 x11_2)) ∧ w'.cell? (ad407.add ((x11_2).toNat * 4)) = some (.int .i64 ((rd_T67 l0 x11_2).f0)) ∧ w'.cell? ⟨(ad407.add ((x11_2).toNat * 4)).block, (ad407.add ((x11_2).toNat * 4)).off + 1, none⟩ = some (.int .i64 ((rd_T67 l0 x11_2).f1)) ∧ w'.cell? ⟨(ad407.add ((x11_2).toNat * 4)).block, (ad407.add ((x11_2).toNat * 4)).off + 2, none⟩ = some (.int .i64 ((rd_T67 l0 x11_2).f2)) ∧ w'.cell? ⟨(ad407.add ((x11_2).toNat * 4)).block, (ad407.add ((x11_2).toNat * 4)).off + 3, none⟩ = some (.int .i64 ((rd_T67 l0 x11_2).f3))) (ds := []) #[false, false, false, false, false, false, false, false, false, false, false, false, false, false, false, false, false, false, false, false, false, false, false, false, false, false, false, false, false, false, false, false] (by kernel_rfl) rfl rfl ⟨(pw_cell_below HB.out hw407_0), (pw_cell_below HB.out hw407_1), (pw_cell_below HB.out hw407_2), (pw_cell_below HB.out hw407_3), hx408_0, (pw_cell_below HB.out hw409_0), (pw_cell_below HB.out hw410_0), (pw_cell_below HB.out hw410_1), (pw_cell_below HB.out hw410_2), (pw_cell_below HB.out hw410_3)⟩ (fun hHeld => ?_); refine with_tabW skiarearef06_search.tab9 skiarearef06_search.bits9 (fun HT_ HW_ => ?_)
              generalize wr.drew = w21 at HO_8 HO_9 HB hx407_0 hx407_1 hx407_2 hx407_3 hx408_0 hx409_0 hx410_0 hx410_1 hx410_2 hx410_3 hHeld ⊢
              refine pn_ 0 (some 27) ?_
              refine pn_ 1 (some 28) ?_
              refine pn_ 2 (some 29) ?_
              refine pn_ 3 (some 30) ?_
              refine pn_ 5 (some 32) ?_
              refine pn_ 6 (some 33) ?_
              refine pn_ 7 (some 34) ?_
              refine tk_ 4 (some 31) ?_ (hy := by rintro w' ⟨s0, s1, s2, s3, s4, s5, s6, s7, s8, s9⟩; go_simp; with_reducible rfl)
              refine tk_ 8 (some 35) ?_ (hy := by rintro w' ⟨s0, s1, s2, s3, s4, s5, s6, s7, s8, s9⟩; go_simp; with_reducible rfl)
              refine pn_ 9 (some 36) ?_
              refine pn_ 10 (some 37) ?_
              refine pn_ 11 (some 38) ?_
              refine pn_ 12 (some 39) ?_
              refine pn_ 13 (some 40) ?_
              refine pn_ 15 (some 42) ?_
              refine pn_ 16 (some 43) ?_
              refine pn_ 17 (some 44) ?_
              refine pn_ 18 (some 45) ?_
              refine tk_ 14 (some 41) ?_ (hy := by rintro w' ⟨s0, s1, s2, s3, s4, s5, s6, s7, s8, s9⟩; go_simp; with_reducible rfl)
              refine tk_ 19 (some 46) ?_ (hy := by rintro w' ⟨s0, s1, s2, s3, s4, s5, s6, s7, s8, s9⟩; go_simp; with_reducible rfl)
              refine pn_ 20 (some 47) ?_
              refine pn_ 21 (some 48) ?_
              refine pn_ 22 (some 49) ?_
              refine pu_ 23 (some 50) ?_
              refine pu_ 24 (some 51) ?_
              refine pu_ 25 (some 52) ?_
              refine pu_ 26 (some 53) ?_
              refine pu_ 27 (some 54) ?_
              refine pu_ 28 (some 55) ?_
              refine pu_ 29 (some 56) ?_
              refine pu_ 30 (some 57) ?_
              refine pn_ 31 (some 58) ?_
              refine done_ (done_of HT_.out (by kernel_rfl)) ?_
              try go_wp2
              go_meet
              case rel => exact ⟨_, (false), (by first | rfl | (simp; done) | (simp [*]; done)), H', ⟨by have := HK1.out; have := HK2.out; first | omega | exact Nat.le_refl _⟩, ⟨by (with_reducible repeat (first | apply Kd.R_alloc | apply Kd.R_drewN | apply Kd.R_drew)); exact HO_8.out⟩, ⟨by (with_reducible repeat (first | apply Kd.R_alloc | apply Kd.R_drewN | apply Kd.R_drew)); exact HO_9.out⟩, ⟨by repeat (first | (with_reducible first | exact HB.out | apply below_alloc | apply pw_below_drewN | apply below_drew1) | exact HB.out)⟩⟩
            ·rw [if_neg c16] at H
             exact absurd H (by simp)
           ·rw [if_neg c15] at H
            have c15b0 : (((rd_T67 l0 x11_2).f1) == (rd x8_2 x10_1)) = false := beq_eq_false_iff_ne.mpr c15
            have c15b1 : (((rd_T67 l0 x11_2).f1) != (rd x8_2 x10_1)) = true := bne_iff_ne.mpr c15
            have H' := a_ H
            clear H
            try go_wp2
            have n0_ := a_ (Kd.R_drew HO_8.out)
            have n1_ := a_ (Kd.R_drew HO_9.out)
            have n2_ := a_ (below_drew1 HB.out)
            clear HO_8
            clear HO_9
            clear HB
            have HO_8 := n0_
            have HO_9 := n1_
            have HB := n2_
            clear n0_ n1_ n2_
            have p407 : 0 ≤ (x11_2 : Int) := od_
            have q407 : x11_2 < (l0.length : Int) := od_
            obtain ⟨ad407, e407, hx407_0, hx407_1, hx407_2, hx407_3⟩ := at_T67 HR0.out x11_2 p407 q407
            have hw407_3 := hx407_3
            have hw407_2 := hx407_2
            have hw407_1 := hx407_1
            have hw407_0 := hx407_0
            cases e407
            replace hx407_0 := pc_ hx407_0
            replace hx407_1 := pc_ hx407_1
            replace hx407_2 := pc_ hx407_2
            replace hx407_3 := pc_ hx407_3
            replace p407 := eq_true p407
            replace q407 := eq_true q407
            obtain ⟨Ao24, co24, eo24⟩ := Kd.R_slice HO_8.out
            (first | subst eo24 | (injection eo24 with f1_ f2_ f3_; have f4_ := f1_.symm; have f5_ := f3_.symm; clear f1_ f2_ f3_; subst f4_; subst f5_))
            have p408 : 0 ≤ (x10_1 : Int) := od_
            have q408 : x10_1 < (x8_2.length : Int) := od_
            obtain ⟨ad408, e408, hx408_0⟩ := Kd.at_int (Kd.R_reads' HO_8.out).2.2 x10_1 p408 q408
            cases e408
            replace p408 := eq_true p408
            replace q408 := eq_true q408
            refine start_ (n := 32) (S := fun w' => w'.cell? (ad407.add ((x11_2).toNat * 4)) = some (.int .i64 ((rd_T67 l0 x11_2).f0)) ∧ w'.cell? ⟨(ad407.add ((x11_2).toNat * 4)).block, (ad407.add ((x11_2).toNat * 4)).off + 1, none⟩ = some (.int .i64 ((rd_T67 l0 x11_2).f1)) ∧ w'.cell? ⟨(ad407.add ((x11_2).toNat * 4)).block, (ad407.add ((x11_2).toNat * 4)).off + 2, none⟩ = some (.int .i64 ((rd_T67 l0 x11_2).f2)) ∧ w'.cell? ⟨(ad407.add ((x11_2).toNat * 4)).block, (ad407.add ((x11_2).toNat * 4)).off + 3, none⟩ = some (.int .i64 ((rd_T67 l0 x11_2).f3)) ∧ w'.cell? (ad408.add (x10_1).toNat) = some (.int .i64 (rd x8_2 x10_1))) (ds := []) #[false, false, false, false, false, false, false, false, false, false, false, false, false, false, false, false, false, false, false, false, false, false, false, false, false, false, false, false, false, false, false, false] (by kernel_rfl) rfl rfl ⟨(pw_cell_below HB.out hw407_0), (pw_cell_below HB.out hw407_1), (pw_cell_below HB.out hw407_2), (pw_cell_below HB.out hw407_3), hx408_0⟩ (fun hHeld => ?_); refine with_tabW skiarearef06_search.tab9 skiarearef06_search.bits9 (fun HT_ HW_ => ?_)
            generalize wr.drew = w23 at HO_8 HO_9 HB hx407_0 hx407_1 hx407_2 hx407_3 hx408_0 hHeld ⊢
            refine pn_ 0 (some 27) ?_
            refine pn_ 1 (some 28) ?_
            refine pn_ 2 (some 29) ?_
            refine pn_ 3 (some 30) ?_
            refine pn_ 5 (some 32) ?_
            refine pn_ 6 (some 33) ?_
            refine pn_ 7 (some 34) ?_
            refine tk_ 4 (some 31) ?_ (hy := by rintro w' ⟨s0, s1, s2, s3, s4⟩; go_simp; with_reducible rfl)
            refine tk_ 8 (some 35) ?_ (hy := by rintro w' ⟨s0, s1, s2, s3, s4⟩; go_simp; with_reducible rfl)
            refine pn_ 9 (some 36) ?_
            refine pn_ 10 (some 37) ?_
            refine pu_ 11 (some 38) ?_
            refine pu_ 12 (some 39) ?_
            refine pu_ 13 (some 40) ?_
            refine pu_ 14 (some 41) ?_
            refine pu_ 15 (some 42) ?_
            refine pu_ 16 (some 43) ?_
            refine pu_ 17 (some 44) ?_
            refine pu_ 18 (some 45) ?_
            refine pu_ 19 (some 46) ?_
            refine pu_ 20 (some 47) ?_
            refine pn_ 21 (some 48) ?_
            refine pn_ 22 (some 49) ?_
            refine pu_ 23 (some 50) ?_
            refine pu_ 24 (some 51) ?_
            refine pu_ 25 (some 52) ?_
            refine pu_ 26 (some 53) ?_
            refine pu_ 27 (some 54) ?_
            refine pu_ 28 (some 55) ?_
            refine pu_ 29 (some 56) ?_
            refine pu_ 30 (some 57) ?_
            refine pn_ 31 (some 58) ?_
            refine done_ (done_of HT_.out (by kernel_rfl)) ?_
            try go_wp2
            go_meet
            case rel => exact ⟨_, (false), (by first | rfl | (simp; done) | (simp [*]; done)), H', ⟨by have := HK1.out; have := HK2.out; first | omega | exact Nat.le_refl _⟩, ⟨by (with_reducible repeat (first | apply Kd.R_alloc | apply Kd.R_drewN | apply Kd.R_drew)); exact HO_8.out⟩, ⟨by (with_reducible repeat (first | apply Kd.R_alloc | apply Kd.R_drewN | apply Kd.R_drew)); exact HO_9.out⟩, ⟨by repeat (first | (with_reducible first | exact HB.out | apply below_alloc | apply pw_below_drewN | apply below_drew1) | exact HB.out)⟩⟩
          ·rw [if_neg c14] at H
           exact absurd H (by simp)
         ·rw [if_neg c13] at H
          exact absurd H (by simp)
        ·rw [if_neg c12] at H
         exact absurd H (by simp)
       case rest =>
        clear HC11
        try clear c1
        try clear p2
        try clear p4
        try clear q4
        try clear hx4
        try clear c6
        try clear c12
        try clear c13
        try clear c14
        try clear c15
        try clear c15b0
        try clear c15b1
        try clear c16
        try clear c17
        try clear c17b0
        try clear hx407_0
        try clear hx407_1
        try clear hx407_2
        try clear hx407_3
        try clear hx408_0
        try clear hx409_0
        try clear hx410_0
        try clear hx410_1
        try clear hx410_2
        try clear hx410_3
        try clear p407
        try clear p408
        try clear p409
        try clear p410
        try clear q407
        try clear q408
        try clear q409
        try clear q410
        obtain ⟨kq, x58_10, rfl, HA, HJ10, HO_8, HO_9, HB⟩ := hcut
        cases kq with
        | zero => exact absurd HA.out (by simp [skiarearef06_search.j2])
        | succ kj10 =>
         have H := HA.out
         clear HA
         simp only [skiarearef06_search.j2] at H
         by_cases c25 : x58_10 = true
         ·subst c25
          have H1 : (if 0 ≤ x11_2 then (if x11_2 < (l0.length : Int) then (if x8_2.length < 17592186044416 then ((some (x8_2 ++ [(rd_T67 l0 x11_2).f2] : List Int)).bind fun y414 => (if x9_2.length < 17592186044416 then ((some (x9_2 ++ [wrap64 (x11_2 + 1)] : List Int)).bind fun y417 => (if 0 ≤ x10_1 then (if x10_1 < (y414.length : Int) then (if ((rd_T67 l0 x11_2).f2) = (rd y414 x10_1) then (if x11_2 < (l1.length : Int) then (if (rd l1 x11_2) > 0 then ((skiarearef06_has.f kj10 y414 ((rd_T67 l0 x11_2).f1)).bind fun t424 => (if t424 = true then (skiarearef06_search.l1 kj10 l0 l1 y414 y417 x10_1 (wrap64 (x11_2 + 1))) else (if y414.length < 17592186044416 then (if y417.length < 17592186044416 then (skiarearef06_search.l1 kj10 l0 l1 (y414 ++ [(rd_T67 l0 x11_2).f1]) (y417 ++ [wrap64 ((wrap64 (-x11_2)) - 1)]) x10_1 (wrap64 (x11_2 + 1))) else (none)) else (none)))) else (skiarearef06_search.l1 kj10 l0 l1 y414 y417 x10_1 (wrap64 (x11_2 + 1)))) else (none)) else (skiarearef06_search.l1 kj10 l0 l1 y414 y417 x10_1 (wrap64 (x11_2 + 1)))) else (none)) else (none))) else (none))) else (none)) else (none)) else (none)) = some (r1, r2) := by rw [if_pos rfl] at H; exact H
          clear H
          have H := H1
          clear H1
          by_cases c26 : 0 ≤ x11_2
          ·rw [if_pos c26] at H
           have c26b0 : decide (0 ≤ x11_2) = true := decide_eq_true c26
           clear c26
           by_cases c27 : x11_2 < (l0.length : Int)
           ·rw [if_pos c27] at H
            have c27b0 : decide (x11_2 < (l0.length : Int)) = true := decide_eq_true c27
            clear c27
            by_cases c28 : x8_2.length < 17592186044416
            ·rw [if_pos c28] at H
             have LMc28 := a_ c28
             clear c28
             obtain ⟨y414, hy414⟩ : ∃ y_ : List Int, y_ = (x8_2 ++ [(rd_T67 l0 x11_2).f2]) := ⟨_, rfl⟩
             replace H : (if x9_2.length < 17592186044416 then ((some (x9_2 ++ [wrap64 (x11_2 + 1)] : List Int)).bind fun y417 => (if 0 ≤ x10_1 then (if x10_1 < (y414.length : Int) then (if ((rd_T67 l0 x11_2).f2) = (rd y414 x10_1) then (if x11_2 < (l1.length : Int) then (if (rd l1 x11_2) > 0 then ((skiarearef06_has.f kj10 y414 ((rd_T67 l0 x11_2).f1)).bind fun t424 => (if t424 = true then (skiarearef06_search.l1 kj10 l0 l1 y414 y417 x10_1 (wrap64 (x11_2 + 1))) else (if y414.length < 17592186044416 then (if y417.length < 17592186044416 then (skiarearef06_search.l1 kj10 l0 l1 (y414 ++ [(rd_T67 l0 x11_2).f1]) (y417 ++ [wrap64 ((wrap64 (-x11_2)) - 1)]) x10_1 (wrap64 (x11_2 + 1))) else (none)) else (none)))) else (skiarearef06_search.l1 kj10 l0 l1 y414 y417 x10_1 (wrap64 (x11_2 + 1)))) else (none)) else (skiarearef06_search.l1 kj10 l0 l1 y414 y417 x10_1 (wrap64 (x11_2 + 1)))) else (none)) else (none))) else (none)) = some (r1, r2) := by first | (rw [hy414]; with_reducible exact H) | (have H2_ := (Option.bind_some _ _).symm.trans H; rw [hy414]; with_reducible exact H2_) | (have H2_ := (Option.bind_some _ _).symm.trans H; with_reducible exact H2_) | with_reducible exact H | (rw [hy414]; exact H) | exact H
             have Ny414 := a_ hy414
             clear hy414
             by_cases c29 : x9_2.length < 17592186044416
             ·rw [if_pos c29] at H
              have LMc29 := a_ c29
              clear c29
              obtain ⟨y417, hy417⟩ : ∃ y_ : List Int, y_ = (x9_2 ++ [wrap64 (x11_2 + 1)]) := ⟨_, rfl⟩
              replace H : (if 0 ≤ x10_1 then (if x10_1 < (y414.length : Int) then (if ((rd_T67 l0 x11_2).f2) = (rd y414 x10_1) then (if x11_2 < (l1.length : Int) then (if (rd l1 x11_2) > 0 then ((skiarearef06_has.f kj10 y414 ((rd_T67 l0 x11_2).f1)).bind fun t424 => (if t424 = true then (skiarearef06_search.l1 kj10 l0 l1 y414 y417 x10_1 (wrap64 (x11_2 + 1))) else (if y414.length < 17592186044416 then (if y417.length < 17592186044416 then (skiarearef06_search.l1 kj10 l0 l1 (y414 ++ [(rd_T67 l0 x11_2).f1]) (y417 ++ [wrap64 ((wrap64 (-x11_2)) - 1)]) x10_1 (wrap64 (x11_2 + 1))) else (none)) else (none)))) else (skiarearef06_search.l1 kj10 l0 l1 y414 y417 x10_1 (wrap64 (x11_2 + 1)))) else (none)) else (skiarearef06_search.l1 kj10 l0 l1 y414 y417 x10_1 (wrap64 (x11_2 + 1)))) else (none)) else (none)) = some (r1, r2) := by first | (rw [hy417]; with_reducible exact H) | (have H2_ := (Option.bind_some _ _).symm.trans H; rw [hy417]; with_reducible exact H2_) | (have H2_ := (Option.bind_some _ _).symm.trans H; with_reducible exact H2_) | with_reducible exact H | (rw [hy417]; exact H) | exact H
              have Ny417 := a_ hy417
              clear hy417
              by_cases c30 : 0 ≤ x10_1
              ·rw [if_pos c30] at H
               have c30b0 : decide (0 ≤ x10_1) = true := decide_eq_true c30
               clear c30
               by_cases c31 : x10_1 < (y414.length : Int)
               ·rw [if_pos c31] at H
                have c31b0 : decide (x10_1 < (y414.length : Int)) = true := decide_eq_true c31
                clear c31
                by_cases c32 : ((rd_T67 l0 x11_2).f2) = (rd y414 x10_1)
                ·rw [if_pos c32] at H
                 have c32b0 : (((rd_T67 l0 x11_2).f2) == (rd y414 x10_1)) = true := beq_iff_eq.mpr c32
                 have c32b1 : (((rd_T67 l0 x11_2).f2) != (rd y414 x10_1)) = false := bne_eq_false_iff_eq.mpr c32
                 clear c32
                 by_cases c33 : x11_2 < (l1.length : Int)
                 ·rw [if_pos c33] at H
                  have c33b0 : decide (x11_2 < (l1.length : Int)) = true := decide_eq_true c33
                  clear c33
                  by_cases c34 : (rd l1 x11_2) > 0
                  ·rw [if_pos c34] at H
                   have c34b0 : decide (0 < (rd l1 x11_2)) = true := decide_eq_true c34
                   clear c34
                   replace H := Option.bind_eq_some_iff.mp H
                   obtain ⟨t424, A350, H⟩ := H
                   replace H : (if t424 = true then (skiarearef06_search.l1 kj10 l0 l1 y414 y417 x10_1 (wrap64 (x11_2 + 1))) else (if y414.length < 17592186044416 then (if y417.length < 17592186044416 then (skiarearef06_search.l1 kj10 l0 l1 (y414 ++ [(rd_T67 l0 x11_2).f1]) (y417 ++ [wrap64 ((wrap64 (-x11_2)) - 1)]) x10_1 (wrap64 (x11_2 + 1))) else (none)) else (none))) = some (r1, r2) := H
                   have A35 := a_ A350
                   clear A350
                   by_cases c36 : t424 = true
                   ·subst c36
                    have H1 : (skiarearef06_search.l1 kj10 l0 l1 y414 y417 x10_1 (wrap64 (x11_2 + 1))) = some (r1, r2) := by rw [if_pos rfl] at H; exact H
                    clear H
                    have H := H1
                    clear H1
                    have H' := a_ H
                    clear H
                    have p413 : 0 ≤ (x11_2 : Int) := od_
                    have q413 : x11_2 < (l0.length : Int) := od_
                    obtain ⟨ad413, e413, hx413_0, hx413_1, hx413_2, hx413_3⟩ := at_T67 HR0.out x11_2 p413 q413
                    cases e413
                    replace hx413_0 := pc_ hx413_0
                    replace hx413_1 := pc_ hx413_1
                    replace hx413_2 := pc_ hx413_2
                    replace hx413_3 := pc_ hx413_3
                    replace p413 := eq_true p413
                    replace q413 := eq_true q413
                    try go_wp2_with (first | ((with_reducible refine gate_builtin (b := .append) (xs := #[.tmp 59, .tmp 65]) rfl ?_); at_builtin; refine Kd.R_append (Kd.int .i64) (w0 := w) w.heap.size rfl (.tmp 59) (.tmp 65) 36 3 (.int .i64 0) 8 rfl Try.underlying36 info3 rfl (by decide) (by omega) u8 x8_2 ((rd_T67 l0 x11_2).f2) [.int .i64 ((rd_T67 l0 x11_2).f2)] (fun k_ => some k_ ≠ (u9 : Value).ownBlock) (fun _ => False) rfl rfl ?aP (fun _ hk => hk.elim) ?aF ?aO ?aB ?aS ?aL ?_; (case aP => exact rfl); (case aB => exact bel_); (case aF => exact (fun k_ hk => Kd.fresh' (Kd.R_lt (kR_ HO_9.out)) k_ hk)); (case aO => exact (kR_ HO_8.out)); (case aS => exact (below_size bel_)); (case aL => have := LMc28.out; omega); intro v415 w37 ho hb hg hat; rw [← Ny414.out] at ho; have n0_ := a_ (Kd.R_after (ok := (fun _ => True)) (by (with_reducible repeat (first | apply Kd.R_alloc | apply Kd.R_drewN | apply Kd.R_drew)); exact Kd.R_mono HO_9.out (fun _ hk => ⟨trivial, hk⟩)) hg hat); have n1_ := a_ (hb); have n2_ := a_ (ho); clear HO_9; clear HB; clear HO_8; have HO_9 := n0_; have HB := n1_; have HO416 := n2_; clear n0_ n1_ n2_; clear ho hb hg hat) | ((with_reducible refine gate_builtin (b := .append) (xs := #[.tmp 67, .tmp 70]) rfl ?_); at_builtin; refine Kd.R_append (Kd.int .i64) (w0 := w) w.heap.size rfl (.tmp 67) (.tmp 70) 36 3 (.int .i64 0) 8 rfl Try.underlying36 info3 rfl (by decide) (by omega) u9 x9_2 (wrap64 (x11_2 + 1)) [.int .i64 (wrap64 (x11_2 + 1))] (fun k_ => some k_ ≠ (v415 : Value).ownBlock) (fun _ => False) rfl rfl ?aP (fun _ hk => hk.elim) ?aF ?aO ?aB ?aS ?aL ?_; (case aP => exact rfl); (case aB => exact bel_); (case aF => exact (fun k_ hk => Kd.fresh' (Kd.R_lt (kR_ HO416.out)) k_ hk)); (case aO => exact (by (with_reducible repeat (first | apply Kd.R_alloc | apply Kd.R_drewN | apply Kd.R_drew)); exact Kd.R_mono HO_9.out (fun _ hk => hk.2))); (case aS => exact (below_size bel_)); (case aL => have := LMc29.out; omega); intro v418 w38 ho hb hg hat; rw [← Ny417.out] at ho; have n0_ := a_ (Kd.R_after (ok := (fun _ => True)) (by (with_reducible repeat (first | apply Kd.R_alloc | apply Kd.R_drewN | apply Kd.R_drew)); exact Kd.R_mono HO416.out (fun _ hk => ⟨trivial, hk⟩)) hg hat); have n1_ := a_ (hb); have n2_ := a_ (ho); clear HO416; clear HB; clear HO_9; have HO416 := n0_; have HB := n1_; have HO419 := n2_; clear n0_ n1_ n2_; clear ho hb hg hat))
                    have n0_ := a_ (Kd.R_drew HO416.out)
                    have n1_ := a_ (Kd.R_drew HO419.out)
                    have n2_ := a_ (below_drew1 HB.out)
                    clear HO416
                    clear HO419
                    clear HB
                    have HO416 := n0_
                    have HO419 := n1_
                    have HB := n2_
                    clear n0_ n1_ n2_
                    have p420 : 0 ≤ (x11_2 : Int) := od_
                    have q420 : x11_2 < (l0.length : Int) := od_
                    obtain ⟨ad420, e420, hx420_0, hx420_1, hx420_2, hx420_3⟩ := at_T67 HR0.out x11_2 p420 q420
                    have hw420_3 := hx420_3
                    have hw420_2 := hx420_2
                    have hw420_1 := hx420_1
                    have hw420_0 := hx420_0
                    obtain rfl : ad413 = ad420 := (by injection e420)
                    replace hx420_0 := pc_ hx420_0
                    replace hx420_1 := pc_ hx420_1
                    replace hx420_2 := pc_ hx420_2
                    replace hx420_3 := pc_ hx420_3
                    replace p420 := eq_true p420
                    replace q420 := eq_true q420
                    obtain ⟨Ao40, co40, eo40⟩ := Kd.R_slice HO416.out
                    (first | subst eo40 | (injection eo40 with f1_ f2_ f3_; have f4_ := f1_.symm; have f5_ := f3_.symm; clear f1_ f2_ f3_; subst f4_; subst f5_))
                    have p421 : 0 ≤ (x10_1 : Int) := od_
                    have q421 : x10_1 < (y414.length : Int) := od_
                    obtain ⟨ad421, e421, hx421_0⟩ := Kd.at_int (Kd.R_reads' HO416.out).2.2 x10_1 p421 q421
                    cases e421
                    replace p421 := eq_true p421
                    replace q421 := eq_true q421
                    have p422 : 0 ≤ (x11_2 : Int) := od_
                    have q422 : x11_2 < (l1.length : Int) := od_
                    obtain ⟨ad422, e422, hx422_0⟩ := Kd.at_int HR1.out x11_2 p422 q422
                    have hw422_0 := hx422_0
                    cases e422
                    replace hx422_0 := pc_ hx422_0
                    replace p422 := eq_true p422
                    replace q422 := eq_true q422
                    have p423 : 0 ≤ (x11_2 : Int) := od_
                    have q423 : x11_2 < (l0.length : Int) := od_
                    obtain ⟨ad423, e423, hx423_0, hx423_1, hx423_2, hx423_3⟩ := at_T67 HR0.out x11_2 p423 q423
                    have hw423_3 := hx423_3
                    have hw423_2 := hx423_2
                    have hw423_1 := hx423_1
                    have hw423_0 := hx423_0
                    obtain rfl : ad413 = ad423 := (by injection e423)
                    replace hx423_0 := pc_ hx423_0
                    replace hx423_1 := pc_ hx423_1
                    replace hx423_2 := pc_ hx423_2
                    replace hx423_3 := pc_ hx423_3
                    replace p423 := eq_true p423
                    replace q423 := eq_true q423
                    refine start_ (n := 27) (S := fun w' => w'.cell? (ad413.add ((x11_2).toNat * 4)) = some (.int .i64 ((rd_T67 l0 x11_2).f0)) ∧ w'.cell? ⟨(ad413.add ((x11_2).toNat * 4)).block, (ad413.add ((x11_2).toNat * 4)).off + 1, none⟩ = some (.int .i64 ((rd_T67 l0 x11_2).f1)) ∧ w'.cell? ⟨(ad413.add ((x11_2).toNat * 4)).block, (ad413.add ((x11_2).toNat * 4)).off + 2, none⟩ = some (.int .i64 ((rd_T67 l0 x11_2).f2)) ∧ w'.cell? ⟨(ad413.add ((x11_2).toNat * 4)).block, (ad413.add ((x11_2).toNat * 4)).off + 3, none⟩ = some (.int .i64 ((rd_T67 l0 x11_2).f3)) ∧ w'.cell? (ad421.add (x10_1).toNat) = some (.int .i64 (rd y414 x10_1)) ∧ w'.cell? (ad422.add (x11_2).toNat) = some (.int .i64 (rd l1 x11_2)) ∧ w'.cell? (ad413.add ((x11_2).toNat * 4)) = some (.int .i64 ((rd_T67 l0 x11_2).f0)) ∧ w'.cell? ⟨(ad413.add ((x11_2).toNat * 4)).block, (ad413.add ((x11_2).toNat * 4)).off + 1, none⟩ = some (.int .i64 ((rd_T67 l0 x11_2).f1)) ∧ w'.cell? ⟨(ad413.add ((x11_2).toNat * 4)).block, (ad413.add ((x11_2).toNat * 4)).off + 2, none⟩ = some (.int .i64 ((rd_T67 l0 x11_2).f2)) ∧ w'.cell? ⟨(ad413.add ((x11_2).toNat * 4)).block, (ad413.add ((x11_2).toNat * 4)).off + 3, none⟩ = some (.int .i64 ((rd_T67 l0 x11_2).f3))) (ds := []) #[false, false, false, false, false, false, false, false, false, false, false, false, false, false, false, false, false, false, false, false, false, false, false, false, false, false, false] (by kernel_rfl) rfl rfl ⟨(pw_cell_below HB.out hw420_0), (pw_cell_below HB.out hw420_1), (pw_cell_below HB.out hw420_2), (pw_cell_below HB.out hw420_3), hx421_0, (pw_cell_below HB.out hw422_0), (pw_cell_below HB.out hw423_0), (pw_cell_below HB.out hw423_1), (pw_cell_below HB.out hw423_2), (pw_cell_below HB.out hw423_3)⟩ (fun hHeld => ?_); refine with_tabW skiarearef06_search.tab12 skiarearef06_search.bits12 (fun HT_ HW_ => ?_)
                    generalize w38.drew = w39 at HO416 HO419 HB hx420_0 hx420_1 hx420_2 hx420_3 hx421_0 hx422_0 hx423_0 hx423_1 hx423_2 hx423_3 hHeld ⊢
                    refine pn_ 0 (some 72) ?_
                    refine pn_ 1 (some 73) ?_
                    refine pn_ 2 (some 74) ?_
                    refine pn_ 3 (some 75) ?_
                    refine pn_ 5 (some 77) ?_
                    refine pn_ 6 (some 78) ?_
                    refine pn_ 7 (some 79) ?_
                    refine tk_ 4 (some 76) ?_ (hy := by rintro w' ⟨s0, s1, s2, s3, s4, s5, s6, s7, s8, s9⟩; go_simp; with_reducible rfl)
                    refine tk_ 8 (some 80) ?_ (hy := by rintro w' ⟨s0, s1, s2, s3, s4, s5, s6, s7, s8, s9⟩; go_simp; with_reducible rfl)
                    refine pn_ 9 (some 81) ?_
                    refine pn_ 10 (some 82) ?_
                    refine pn_ 11 (some 83) ?_
                    refine pn_ 12 (some 84) ?_
                    refine pn_ 13 (some 85) ?_
                    refine tk_ 14 (some 86) ?_ (hy := by rintro w' ⟨s0, s1, s2, s3, s4, s5, s6, s7, s8, s9⟩; go_simp; with_reducible rfl)
                    refine pn_ 15 (some 87) ?_
                    refine pn_ 16 (some 88) ?_
                    refine pn_ 17 (some 89) ?_
                    refine pn_ 18 (some 90) ?_
                    refine pn_ 19 (some 91) ?_
                    refine pn_ 20 (some 92) ?_
                    refine pn_ 21 (some 93) ?_
                    refine pn_ 22 (some 94) ?_
                    refine tk_ 23 (some 95) ?_ (hy := by rintro w' ⟨s0, s1, s2, s3, s4, s5, s6, s7, s8, s9⟩; go_simp; with_reducible rfl)
                    refine one_ (i := 24) (N := some 96) #[true, true, true, true, true, true, true, true, true, true, true, true, true, true, true, true, true, true, true, true, true, true, true, true, true, false, false] rfl rfl (one_of HT_.out (by kernel_rfl)) (by decide) (fun K hK => ?_)
                    refine goes_ Try.func68 (by kernel_rfl) rfl #[.slice (some ad421) y414.length co40, .int .i64 ((rd_T67 l0 x11_2).f1)] (by rfl) rfl rfl (by (try simp only [List.map_toArray, List.map_cons, List.map_nil]); first | done | rfl | (simp only [List.length_drop, List.length_take]; rfl)) ?_
                    with_reducible refine (skiarearef06_has.calls kj10 _ _ y414 ((rd_T67 l0 x11_2).f1) true _ ?side1 ?side2 A35.out).mono ?_
                    (case side1 => repeat (first | exact (Kd.R_reads' HO416.out).2.2 | (with_reducible refine Kd.C_alloc ?_ _) | (with_reducible refine Kd.C_drewN ?_ _) | (with_reducible refine Kd.C_drew ?_)))
                    (case side2 => exact (Kd.R_reads' HO416.out).2.1)
                    rintro e w' ⟨rfl, ⟨nd, rfl⟩⟩
                    refine ⟨_, rfl, ?_⟩
                    refine hK.out _ _ ⟨(pw_cell_below HB.out hw420_0), (pw_cell_below HB.out hw420_1), (pw_cell_below HB.out hw420_2), (pw_cell_below HB.out hw420_3), hHeld.2.2.2.2.1, (pw_cell_below HB.out hw422_0), (pw_cell_below HB.out hw423_0), (pw_cell_below HB.out hw423_1), (pw_cell_below HB.out hw423_2), (pw_cell_below HB.out hw423_3)⟩ (fun hHeld => ?_)
                    clear hK K
                    refine norm_ (a' := ?_) ?_ ?_
                    rotate_left
                    ·show Act.put _ (some 96) _ = _
                     simp only [Act.put, List.setIfInBounds_toArray, List.set_cons_zero, List.set_cons_succ, i64_w, i32_w]
                     rfl
                    refine pn_ 25 (some 97) ?_
                    refine pn_ 26 (some 98) ?_
                    refine done_ (done_of HT_.out (by kernel_rfl)) ?_
                    try go_wp2
                    go_roundg kj10
                    case measure => have := HK1.out; have := HK2.out; have := HJ10.out; omega
                    case rel => exact ⟨(y414), (y417), (wrap64 (x11_2 + 1)), (by first | rfl | (simp; done) | (simp [*]; done)), H', ⟨by have := HK1.out; have := HK2.out; have := HJ10.out; omega⟩, ⟨by (with_reducible repeat (first | apply Kd.R_alloc | apply Kd.R_drewN | apply Kd.R_drew)); exact Kd.R_mono HO416.out (fun _ hk => hk.2)⟩, ⟨by (with_reducible repeat (first | apply Kd.R_alloc | apply Kd.R_drewN | apply Kd.R_drew)); exact HO419.out⟩, ⟨by repeat (first | (with_reducible first | exact HB.out | apply below_alloc | apply pw_below_drewN | apply below_drew1) | exact HB.out)⟩⟩
                   ·replace c36 := Bool.eq_false_iff.mpr c36
                    subst c36
                    have H1 : (if y414.length < 17592186044416 then (if y417.length < 17592186044416 then (skiarearef06_search.l1 kj10 l0 l1 (y414 ++ [(rd_T67 l0 x11_2).f1]) (y417 ++ [wrap64 ((wrap64 (-x11_2)) - 1)]) x10_1 (wrap64 (x11_2 + 1))) else (none)) else (none)) = some (r1, r2) := by rw [if_neg (show ¬ (false = true) by decide)] at H; exact H
                    clear H
                    have H := H1
                    clear H1
                    by_cases c41 : y414.length < 17592186044416
                    ·rw [if_pos c41] at H
                     have LMc41 := a_ c41
                     clear c41
                     obtain ⟨y426, hy426⟩ : ∃ y_ : List Int, y_ = (y414 ++ [(rd_T67 l0 x11_2).f1]) := ⟨_, rfl⟩
                     replace H : (if y417.length < 17592186044416 then (skiarearef06_search.l1 kj10 l0 l1 y426 (y417 ++ [wrap64 ((wrap64 (-x11_2)) - 1)]) x10_1 (wrap64 (x11_2 + 1))) else (none)) = some (r1, r2) := by first | (rw [hy426]; with_reducible exact H) | (have H2_ := (Option.bind_some _ _).symm.trans H; rw [hy426]; with_reducible exact H2_) | (have H2_ := (Option.bind_some _ _).symm.trans H; with_reducible exact H2_) | with_reducible exact H | (rw [hy426]; exact H) | exact H
                     have Ny426 := a_ hy426
                     clear hy426
                     by_cases c42 : y417.length < 17592186044416
                     ·rw [if_pos c42] at H
                      have LMc42 := a_ c42
                      clear c42
                      obtain ⟨y429, hy429⟩ : ∃ y_ : List Int, y_ = (y417 ++ [wrap64 ((wrap64 (-x11_2)) - 1)]) := ⟨_, rfl⟩
                      replace H : (skiarearef06_search.l1 kj10 l0 l1 y426 y429 x10_1 (wrap64 (x11_2 + 1))) = some (r1, r2) := by first | (rw [hy429]; with_reducible exact H) | (have H2_ := (Option.bind_some _ _).symm.trans H; rw [hy429]; with_reducible exact H2_) | (have H2_ := (Option.bind_some _ _).symm.trans H; with_reducible exact H2_) | with_reducible exact H | (rw [hy429]; exact H) | exact H
                      have Ny429 := a_ hy429
                      clear hy429
                      have H' := a_ H
                      clear H
                      have p413 : 0 ≤ (x11_2 : Int) := od_
                      have q413 : x11_2 < (l0.length : Int) := od_
                      obtain ⟨ad413, e413, hx413_0, hx413_1, hx413_2, hx413_3⟩ := at_T67 HR0.out x11_2 p413 q413
                      cases e413
                      replace hx413_0 := pc_ hx413_0
                      replace hx413_1 := pc_ hx413_1
                      replace hx413_2 := pc_ hx413_2
                      replace hx413_3 := pc_ hx413_3
                      replace p413 := eq_true p413
                      replace q413 := eq_true q413
                      try go_wp2_with (first | ((with_reducible refine gate_builtin (b := .append) (xs := #[.tmp 59, .tmp 65]) rfl ?_); at_builtin; refine Kd.R_append (Kd.int .i64) (w0 := w) w.heap.size rfl (.tmp 59) (.tmp 65) 36 3 (.int .i64 0) 8 rfl Try.underlying36 info3 rfl (by decide) (by omega) u8 x8_2 ((rd_T67 l0 x11_2).f2) [.int .i64 ((rd_T67 l0 x11_2).f2)] (fun k_ => some k_ ≠ (u9 : Value).ownBlock) (fun _ => False) rfl rfl ?aP (fun _ hk => hk.elim) ?aF ?aO ?aB ?aS ?aL ?_; (case aP => exact rfl); (case aB => exact bel_); (case aF => exact (fun k_ hk => Kd.fresh' (Kd.R_lt (kR_ HO_9.out)) k_ hk)); (case aO => exact (kR_ HO_8.out)); (case aS => exact (below_size bel_)); (case aL => have := LMc28.out; omega); intro v415 w43 ho hb hg hat; rw [← Ny414.out] at ho; have n0_ := a_ (Kd.R_after (ok := (fun _ => True)) (by (with_reducible repeat (first | apply Kd.R_alloc | apply Kd.R_drewN | apply Kd.R_drew)); exact Kd.R_mono HO_9.out (fun _ hk => ⟨trivial, hk⟩)) hg hat); have n1_ := a_ (hb); have n2_ := a_ (ho); clear HO_9; clear HB; clear HO_8; have HO_9 := n0_; have HB := n1_; have HO416 := n2_; clear n0_ n1_ n2_; clear ho hb hg hat) | ((with_reducible refine gate_builtin (b := .append) (xs := #[.tmp 67, .tmp 70]) rfl ?_); at_builtin; refine Kd.R_append (Kd.int .i64) (w0 := w) w.heap.size rfl (.tmp 67) (.tmp 70) 36 3 (.int .i64 0) 8 rfl Try.underlying36 info3 rfl (by decide) (by omega) u9 x9_2 (wrap64 (x11_2 + 1)) [.int .i64 (wrap64 (x11_2 + 1))] (fun k_ => some k_ ≠ (v415 : Value).ownBlock) (fun _ => False) rfl rfl ?aP (fun _ hk => hk.elim) ?aF ?aO ?aB ?aS ?aL ?_; (case aP => exact rfl); (case aB => exact bel_); (case aF => exact (fun k_ hk => Kd.fresh' (Kd.R_lt (kR_ HO416.out)) k_ hk)); (case aO => exact (by (with_reducible repeat (first | apply Kd.R_alloc | apply Kd.R_drewN | apply Kd.R_drew)); exact Kd.R_mono HO_9.out (fun _ hk => hk.2))); (case aS => exact (below_size bel_)); (case aL => have := LMc29.out; omega); intro v418 w44 ho hb hg hat; rw [← Ny417.out] at ho; have n0_ := a_ (Kd.R_after (ok := (fun _ => True)) (by (with_reducible repeat (first | apply Kd.R_alloc | apply Kd.R_drewN | apply Kd.R_drew)); exact Kd.R_mono HO416.out (fun _ hk => ⟨trivial, hk⟩)) hg hat); have n1_ := a_ (hb); have n2_ := a_ (ho); clear HO416; clear HB; clear HO_9; have HO416 := n0_; have HB := n1_; have HO419 := n2_; clear n0_ n1_ n2_; clear ho hb hg hat))
                      have n0_ := a_ (Kd.R_drew HO416.out)
                      have n1_ := a_ (Kd.R_drew HO419.out)
                      have n2_ := a_ (below_drew1 HB.out)
                      clear HO416
                      clear HO419
                      clear HB
                      have HO416 := n0_
                      have HO419 := n1_
                      have HB := n2_
                      clear n0_ n1_ n2_
                      have p420 : 0 ≤ (x11_2 : Int) := od_
                      have q420 : x11_2 < (l0.length : Int) := od_
                      obtain ⟨ad420, e420, hx420_0, hx420_1, hx420_2, hx420_3⟩ := at_T67 HR0.out x11_2 p420 q420
                      have hw420_3 := hx420_3
                      have hw420_2 := hx420_2
                      have hw420_1 := hx420_1
                      have hw420_0 := hx420_0
                      obtain rfl : ad413 = ad420 := (by injection e420)
                      replace hx420_0 := pc_ hx420_0
                      replace hx420_1 := pc_ hx420_1
                      replace hx420_2 := pc_ hx420_2
                      replace hx420_3 := pc_ hx420_3
                      replace p420 := eq_true p420
                      replace q420 := eq_true q420
                      obtain ⟨Ao46, co46, eo46⟩ := Kd.R_slice HO416.out
                      (first | subst eo46 | (injection eo46 with f1_ f2_ f3_; have f4_ := f1_.symm; have f5_ := f3_.symm; clear f1_ f2_ f3_; subst f4_; subst f5_))
                      have p421 : 0 ≤ (x10_1 : Int) := od_
                      have q421 : x10_1 < (y414.length : Int) := od_
                      obtain ⟨ad421, e421, hx421_0⟩ := Kd.at_int (Kd.R_reads' HO416.out).2.2 x10_1 p421 q421
                      cases e421
                      replace p421 := eq_true p421
                      replace q421 := eq_true q421
                      have p422 : 0 ≤ (x11_2 : Int) := od_
                      have q422 : x11_2 < (l1.length : Int) := od_
                      obtain ⟨ad422, e422, hx422_0⟩ := Kd.at_int HR1.out x11_2 p422 q422
                      have hw422_0 := hx422_0
                      cases e422
                      replace hx422_0 := pc_ hx422_0
                      replace p422 := eq_true p422
                      replace q422 := eq_true q422
                      have p423 : 0 ≤ (x11_2 : Int) := od_
                      have q423 : x11_2 < (l0.length : Int) := od_
                      obtain ⟨ad423, e423, hx423_0, hx423_1, hx423_2, hx423_3⟩ := at_T67 HR0.out x11_2 p423 q423
                      have hw423_3 := hx423_3
                      have hw423_2 := hx423_2
                      have hw423_1 := hx423_1
                      have hw423_0 := hx423_0
                      obtain rfl : ad413 = ad423 := (by injection e423)
                      replace hx423_0 := pc_ hx423_0
                      replace hx423_1 := pc_ hx423_1
                      replace hx423_2 := pc_ hx423_2
                      replace hx423_3 := pc_ hx423_3
                      replace p423 := eq_true p423
                      replace q423 := eq_true q423
                      refine start_ (n := 27) (S := fun w' => w'.cell? (ad413.add ((x11_2).toNat * 4)) = some (.int .i64 ((rd_T67 l0 x11_2).f0)) ∧ w'.cell? ⟨(ad413.add ((x11_2).toNat * 4)).block, (ad413.add ((x11_2).toNat * 4)).off + 1, none⟩ = some (.int .i64 ((rd_T67 l0 x11_2).f1)) ∧ w'.cell? ⟨(ad413.add ((x11_2).toNat * 4)).block, (ad413.add ((x11_2).toNat * 4)).off + 2, none⟩ = some (.int .i64 ((rd_T67 l0 x11_2).f2)) ∧ w'.cell? ⟨(ad413.add ((x11_2).toNat * 4)).block, (ad413.add ((x11_2).toNat * 4)).off + 3, none⟩ = some (.int .i64 ((rd_T67 l0 x11_2).f3)) ∧ w'.cell? (ad421.add (x10_1).toNat) = some (.int .i64 (rd y414 x10_1)) ∧ w'.cell? (ad422.add (x11_2).toNat) = some (.int .i64 (rd l1 x11_2)) ∧ w'.cell? (ad413.add ((x11_2).toNat * 4)) = some (.int .i64 ((rd_T67 l0 x11_2).f0)) ∧ w'.cell? ⟨(ad413.add ((x11_2).toNat * 4)).block, (ad413.add ((x11_2).toNat * 4)).off + 1, none⟩ = some (.int .i64 ((rd_T67 l0 x11_2).f1)) ∧ w'.cell? ⟨(ad413.add ((x11_2).toNat * 4)).block, (ad413.add ((x11_2).toNat * 4)).off + 2, none⟩ = some (.int .i64 ((rd_T67 l0 x11_2).f2)) ∧ w'.cell? ⟨(ad413.add ((x11_2).toNat * 4)).block, (ad413.add ((x11_2).toNat * 4)).off + 3, none⟩ = some (.int .i64 ((rd_T67 l0 x11_2).f3))) (ds := []) #[false, false, false, false, false, false, false, false, false, false, false, false, false, false, false, false, false, false, false, false, false, false, false, false, false, false, false] (by kernel_rfl) rfl rfl ⟨(pw_cell_below HB.out hw420_0), (pw_cell_below HB.out hw420_1), (pw_cell_below HB.out hw420_2), (pw_cell_below HB.out hw420_3), hx421_0, (pw_cell_below HB.out hw422_0), (pw_cell_below HB.out hw423_0), (pw_cell_below HB.out hw423_1), (pw_cell_below HB.out hw423_2), (pw_cell_below HB.out hw423_3)⟩ (fun hHeld => ?_); refine with_tabW skiarearef06_search.tab12 skiarearef06_search.bits12 (fun HT_ HW_ => ?_)
                      generalize w44.drew = w45 at HO416 HO419 HB hx420_0 hx420_1 hx420_2 hx420_3 hx421_0 hx422_0 hx423_0 hx423_1 hx423_2 hx423_3 hHeld ⊢
                      refine pn_ 0 (some 72) ?_
                      refine pn_ 1 (some 73) ?_
                      refine pn_ 2 (some 74) ?_
                      refine pn_ 3 (some 75) ?_
                      refine pn_ 5 (some 77) ?_
                      refine pn_ 6 (some 78) ?_
                      refine pn_ 7 (some 79) ?_
                      refine tk_ 4 (some 76) ?_ (hy := by rintro w' ⟨s0, s1, s2, s3, s4, s5, s6, s7, s8, s9⟩; go_simp; with_reducible rfl)
                      refine tk_ 8 (some 80) ?_ (hy := by rintro w' ⟨s0, s1, s2, s3, s4, s5, s6, s7, s8, s9⟩; go_simp; with_reducible rfl)
                      refine pn_ 9 (some 81) ?_
                      refine pn_ 10 (some 82) ?_
                      refine pn_ 11 (some 83) ?_
                      refine pn_ 12 (some 84) ?_
                      refine pn_ 13 (some 85) ?_
                      refine tk_ 14 (some 86) ?_ (hy := by rintro w' ⟨s0, s1, s2, s3, s4, s5, s6, s7, s8, s9⟩; go_simp; with_reducible rfl)
                      refine pn_ 15 (some 87) ?_
                      refine pn_ 16 (some 88) ?_
                      refine pn_ 17 (some 89) ?_
                      refine pn_ 18 (some 90) ?_
                      refine pn_ 19 (some 91) ?_
                      refine pn_ 20 (some 92) ?_
                      refine pn_ 21 (some 93) ?_
                      refine pn_ 22 (some 94) ?_
                      refine tk_ 23 (some 95) ?_ (hy := by rintro w' ⟨s0, s1, s2, s3, s4, s5, s6, s7, s8, s9⟩; go_simp; with_reducible rfl)
                      refine one_ (i := 24) (N := some 96) #[true, true, true, true, true, true, true, true, true, true, true, true, true, true, true, true, true, true, true, true, true, true, true, true, true, false, false] rfl rfl (one_of HT_.out (by kernel_rfl)) (by decide) (fun K hK => ?_)
                      refine goes_ Try.func68 (by kernel_rfl) rfl #[.slice (some ad421) y414.length co46, .int .i64 ((rd_T67 l0 x11_2).f1)] (by rfl) rfl rfl (by (try simp only [List.map_toArray, List.map_cons, List.map_nil]); first | done | rfl | (simp only [List.length_drop, List.length_take]; rfl)) ?_
                      with_reducible refine (skiarearef06_has.calls kj10 _ _ y414 ((rd_T67 l0 x11_2).f1) false _ ?side1 ?side2 A35.out).mono ?_
                      (case side1 => repeat (first | exact (Kd.R_reads' HO416.out).2.2 | (with_reducible refine Kd.C_alloc ?_ _) | (with_reducible refine Kd.C_drewN ?_ _) | (with_reducible refine Kd.C_drew ?_)))
                      (case side2 => exact (Kd.R_reads' HO416.out).2.1)
                      rintro e w' ⟨rfl, ⟨nd, rfl⟩⟩
                      refine ⟨_, rfl, ?_⟩
                      refine hK.out _ _ ⟨(pw_cell_below HB.out hw420_0), (pw_cell_below HB.out hw420_1), (pw_cell_below HB.out hw420_2), (pw_cell_below HB.out hw420_3), hHeld.2.2.2.2.1, (pw_cell_below HB.out hw422_0), (pw_cell_below HB.out hw423_0), (pw_cell_below HB.out hw423_1), (pw_cell_below HB.out hw423_2), (pw_cell_below HB.out hw423_3)⟩ (fun hHeld => ?_)
                      clear hK K
                      refine norm_ (a' := ?_) ?_ ?_
                      rotate_left
                      ·show Act.put _ (some 96) _ = _
                       simp only [Act.put, List.setIfInBounds_toArray, List.set_cons_zero, List.set_cons_succ, i64_w, i32_w]
                       rfl
                      refine pn_ 25 (some 97) ?_
                      refine pn_ 26 (some 98) ?_
                      refine done_ (done_of HT_.out (by kernel_rfl)) ?_
                      have p425 : 0 ≤ (x11_2 : Int) := od_
                      have q425 : x11_2 < (l0.length : Int) := od_
                      obtain ⟨ad425, e425, hx425_0, hx425_1, hx425_2, hx425_3⟩ := at_T67 HR0.out x11_2 p425 q425
                      obtain rfl : ad413 = ad425 := (by injection e425)
                      replace hx425_0 := pc_ hx425_0
                      replace hx425_1 := pc_ hx425_1
                      replace hx425_2 := pc_ hx425_2
                      replace hx425_3 := pc_ hx425_3
                      replace p425 := eq_true p425
                      replace q425 := eq_true q425
                      try go_wp2_with (first | ((with_reducible refine gate_builtin (b := .append) (xs := #[.tmp 99, .tmp 105]) rfl ?_); at_builtin; refine Kd.R_append (Kd.int .i64) (w0 := w) w.heap.size rfl (.tmp 99) (.tmp 105) 36 3 (.int .i64 0) 8 rfl Try.underlying36 info3 rfl (by decide) (by omega) (.slice (some ad421) y414.length co46) y414 ((rd_T67 l0 x11_2).f1) [.int .i64 ((rd_T67 l0 x11_2).f1)] (fun k_ => some k_ ≠ (v418 : Value).ownBlock) (fun _ => False) rfl rfl ?aP (fun _ hk => hk.elim) ?aF ?aO ?aB ?aS ?aL ?_; (case aP => exact rfl); (case aB => exact bel_); (case aF => exact (fun k_ hk => Kd.fresh' (Kd.R_lt (kR_ HO419.out)) k_ hk)); (case aO => exact (by (with_reducible repeat (first | apply Kd.R_alloc | apply Kd.R_drewN | apply Kd.R_drew)); exact Kd.R_mono HO416.out (fun _ hk => hk.2))); (case aS => exact (below_size bel_)); (case aL => have := LMc41.out; omega); intro v427 w47 ho hb hg hat; rw [← Ny426.out] at ho; have n0_ := a_ (Kd.R_after (ok := (fun _ => True)) (by (with_reducible repeat (first | apply Kd.R_alloc | apply Kd.R_drewN | apply Kd.R_drew)); exact Kd.R_mono HO419.out (fun _ hk => ⟨trivial, hk⟩)) hg hat); have n1_ := a_ (hb); have n2_ := a_ (ho); clear HO419; clear HB; clear HO416; have HO419 := n0_; have HB := n1_; have HO428 := n2_; clear n0_ n1_ n2_; clear ho hb hg hat) | ((with_reducible refine gate_builtin (b := .append) (xs := #[.tmp 107, .tmp 111]) rfl ?_); at_builtin; refine Kd.R_append (Kd.int .i64) (w0 := w) w.heap.size rfl (.tmp 107) (.tmp 111) 36 3 (.int .i64 0) 8 rfl Try.underlying36 info3 rfl (by decide) (by omega) v418 y417 (wrap64 ((wrap64 (-x11_2)) - 1)) [.int .i64 (wrap64 ((wrap64 (-x11_2)) - 1))] (fun k_ => some k_ ≠ (v427 : Value).ownBlock) (fun _ => False) rfl rfl ?aP (fun _ hk => hk.elim) ?aF ?aO ?aB ?aS ?aL ?_; (case aP => exact rfl); (case aB => exact bel_); (case aF => exact (fun k_ hk => Kd.fresh' (Kd.R_lt (kR_ HO428.out)) k_ hk)); (case aO => exact (by (with_reducible repeat (first | apply Kd.R_alloc | apply Kd.R_drewN | apply Kd.R_drew)); exact Kd.R_mono HO419.out (fun _ hk => hk.2))); (case aS => exact (below_size bel_)); (case aL => have := LMc42.out; omega); intro v430 w48 ho hb hg hat; rw [← Ny429.out] at ho; have n0_ := a_ (Kd.R_after (ok := (fun _ => True)) (by (with_reducible repeat (first | apply Kd.R_alloc | apply Kd.R_drewN | apply Kd.R_drew)); exact Kd.R_mono HO428.out (fun _ hk => ⟨trivial, hk⟩)) hg hat); have n1_ := a_ (hb); have n2_ := a_ (ho); clear HO428; clear HB; clear HO419; have HO428 := n0_; have HB := n1_; have HO431 := n2_; clear n0_ n1_ n2_; clear ho hb hg hat))
                      go_roundg kj10
                      case measure => have := HK1.out; have := HK2.out; have := HJ10.out; omega
                      case rel => exact ⟨(y426), (y429), (wrap64 (x11_2 + 1)), (by first | rfl | (simp; done) | (simp [*]; done)), H', ⟨by have := HK1.out; have := HK2.out; have := HJ10.out; omega⟩, ⟨by (with_reducible repeat (first | apply Kd.R_alloc | apply Kd.R_drewN | apply Kd.R_drew)); exact Kd.R_mono HO428.out (fun _ hk => hk.2)⟩, ⟨by (with_reducible repeat (first | apply Kd.R_alloc | apply Kd.R_drewN | apply Kd.R_drew)); exact HO431.out⟩, ⟨by repeat (first | (with_reducible first | exact HB.out | apply below_alloc | apply pw_below_drewN | apply below_drew1) | exact HB.out)⟩⟩
                     ·rw [if_neg c42] at H
                      exact absurd H (by simp)
                    ·rw [if_neg c41] at H
                     exact absurd H (by simp)
                  ·rw [if_neg c34] at H
                   have c34b0 : decide (0 < (rd l1 x11_2)) = false := decide_eq_false c34
                   clear c34
                   have H' := a_ H
                   clear H
                   have p413 : 0 ≤ (x11_2 : Int) := od_
                   have q413 : x11_2 < (l0.length : Int) := od_
                   obtain ⟨ad413, e413, hx413_0, hx413_1, hx413_2, hx413_3⟩ := at_T67 HR0.out x11_2 p413 q413
                   cases e413
                   replace hx413_0 := pc_ hx413_0
                   replace hx413_1 := pc_ hx413_1
                   replace hx413_2 := pc_ hx413_2
                   replace hx413_3 := pc_ hx413_3
                   replace p413 := eq_true p413
                   replace q413 := eq_true q413
                   try go_wp2_with (first | ((with_reducible refine gate_builtin (b := .append) (xs := #[.tmp 59, .tmp 65]) rfl ?_); at_builtin; refine Kd.R_append (Kd.int .i64) (w0 := w) w.heap.size rfl (.tmp 59) (.tmp 65) 36 3 (.int .i64 0) 8 rfl Try.underlying36 info3 rfl (by decide) (by omega) u8 x8_2 ((rd_T67 l0 x11_2).f2) [.int .i64 ((rd_T67 l0 x11_2).f2)] (fun k_ => some k_ ≠ (u9 : Value).ownBlock) (fun _ => False) rfl rfl ?aP (fun _ hk => hk.elim) ?aF ?aO ?aB ?aS ?aL ?_; (case aP => exact rfl); (case aB => exact bel_); (case aF => exact (fun k_ hk => Kd.fresh' (Kd.R_lt (kR_ HO_9.out)) k_ hk)); (case aO => exact (kR_ HO_8.out)); (case aS => exact (below_size bel_)); (case aL => have := LMc28.out; omega); intro v415 w49 ho hb hg hat; rw [← Ny414.out] at ho; have n0_ := a_ (Kd.R_after (ok := (fun _ => True)) (by (with_reducible repeat (first | apply Kd.R_alloc | apply Kd.R_drewN | apply Kd.R_drew)); exact Kd.R_mono HO_9.out (fun _ hk => ⟨trivial, hk⟩)) hg hat); have n1_ := a_ (hb); have n2_ := a_ (ho); clear HO_9; clear HB; clear HO_8; have HO_9 := n0_; have HB := n1_; have HO416 := n2_; clear n0_ n1_ n2_; clear ho hb hg hat) | ((with_reducible refine gate_builtin (b := .append) (xs := #[.tmp 67, .tmp 70]) rfl ?_); at_builtin; refine Kd.R_append (Kd.int .i64) (w0 := w) w.heap.size rfl (.tmp 67) (.tmp 70) 36 3 (.int .i64 0) 8 rfl Try.underlying36 info3 rfl (by decide) (by omega) u9 x9_2 (wrap64 (x11_2 + 1)) [.int .i64 (wrap64 (x11_2 + 1))] (fun k_ => some k_ ≠ (v415 : Value).ownBlock) (fun _ => False) rfl rfl ?aP (fun _ hk => hk.elim) ?aF ?aO ?aB ?aS ?aL ?_; (case aP => exact rfl); (case aB => exact bel_); (case aF => exact (fun k_ hk => Kd.fresh' (Kd.R_lt (kR_ HO416.out)) k_ hk)); (case aO => exact (by (with_reducible repeat (first | apply Kd.R_alloc | apply Kd.R_drewN | apply Kd.R_drew)); exact Kd.R_mono HO_9.out (fun _ hk => hk.2))); (case aS => exact (below_size bel_)); (case aL => have := LMc29.out; omega); intro v418 w50 ho hb hg hat; rw [← Ny417.out] at ho; have n0_ := a_ (Kd.R_after (ok := (fun _ => True)) (by (with_reducible repeat (first | apply Kd.R_alloc | apply Kd.R_drewN | apply Kd.R_drew)); exact Kd.R_mono HO416.out (fun _ hk => ⟨trivial, hk⟩)) hg hat); have n1_ := a_ (hb); have n2_ := a_ (ho); clear HO416; clear HB; clear HO_9; have HO416 := n0_; have HB := n1_; have HO419 := n2_; clear n0_ n1_ n2_; clear ho hb hg hat))
                   have n0_ := a_ (Kd.R_drew HO416.out)
                   have n1_ := a_ (Kd.R_drew HO419.out)
                   have n2_ := a_ (below_drew1 HB.out)
                   clear HO416
                   clear HO419
                   clear HB
                   have HO416 := n0_
                   have HO419 := n1_
                   have HB := n2_
                   clear n0_ n1_ n2_
                   have p420 : 0 ≤ (x11_2 : Int) := od_
                   have q420 : x11_2 < (l0.length : Int) := od_
                   obtain ⟨ad420, e420, hx420_0, hx420_1, hx420_2, hx420_3⟩ := at_T67 HR0.out x11_2 p420 q420
                   have hw420_3 := hx420_3
                   have hw420_2 := hx420_2
                   have hw420_1 := hx420_1
                   have hw420_0 := hx420_0
                   obtain rfl : ad413 = ad420 := (by injection e420)
                   replace hx420_0 := pc_ hx420_0
                   replace hx420_1 := pc_ hx420_1
                   replace hx420_2 := pc_ hx420_2
                   replace hx420_3 := pc_ hx420_3
                   replace p420 := eq_true p420
                   replace q420 := eq_true q420
                   obtain ⟨Ao52, co52, eo52⟩ := Kd.R_slice HO416.out
                   (first | subst eo52 | (injection eo52 with f1_ f2_ f3_; have f4_ := f1_.symm; have f5_ := f3_.symm; clear f1_ f2_ f3_; subst f4_; subst f5_))
                   have p421 : 0 ≤ (x10_1 : Int) := od_
                   have q421 : x10_1 < (y414.length : Int) := od_
                   obtain ⟨ad421, e421, hx421_0⟩ := Kd.at_int (Kd.R_reads' HO416.out).2.2 x10_1 p421 q421
                   cases e421
                   replace p421 := eq_true p421
                   replace q421 := eq_true q421
                   have p422 : 0 ≤ (x11_2 : Int) := od_
                   have q422 : x11_2 < (l1.length : Int) := od_
                   obtain ⟨ad422, e422, hx422_0⟩ := Kd.at_int HR1.out x11_2 p422 q422
                   have hw422_0 := hx422_0
                   cases e422
                   replace hx422_0 := pc_ hx422_0
                   replace p422 := eq_true p422
                   replace q422 := eq_true q422
                   refine start_ (n := 27) (S := fun w' => w'.cell? (ad413.add ((x11_2).toNat * 4)) = some (.int .i64 ((rd_T67 l0 x11_2).f0)) ∧ w'.cell? ⟨(ad413.add ((x11_2).toNat * 4)).block, (ad413.add ((x11_2).toNat * 4)).off + 1, none⟩ = some (.int .i64 ((rd_T67 l0 x11_2).f1)) ∧ w'.cell? ⟨(ad413.add ((x11_2).toNat * 4)).block, (ad413.add ((x11_2).toNat * 4)).off + 2, none⟩ = some (.int .i64 ((rd_T67 l0 x11_2).f2)) ∧ w'.cell? ⟨(ad413.add ((x11_2).toNat * 4)).block, (ad413.add ((x11_2).toNat * 4)).off + 3, none⟩ = some (.int .i64 ((rd_T67 l0 x11_2).f3)) ∧ w'.cell? (ad421.add (x10_1).toNat) = some (.int .i64 (rd y414 x10_1)) ∧ w'.cell? (ad422.add (x11_2).toNat) = some (.int .i64 (rd l1 x11_2))) (ds := []) #[false, false, false, false, false, false, false, false, false, false, false, false, false, false, false, false, false, false, false, false, false, false, false, false, false, false, false] (by kernel_rfl) rfl rfl ⟨(pw_cell_below HB.out hw420_0), (pw_cell_below HB.out hw420_1), (pw_cell_below HB.out hw420_2), (pw_cell_below HB.out hw420_3), hx421_0, (pw_cell_below HB.out hw422_0)⟩ (fun hHeld => ?_); refine with_tabW skiarearef06_search.tab12 skiarearef06_search.bits12 (fun HT_ HW_ => ?_)
                   generalize w50.drew = w51 at HO416 HO419 HB hx420_0 hx420_1 hx420_2 hx420_3 hx421_0 hx422_0 hHeld ⊢
                   refine pn_ 0 (some 72) ?_
                   refine pn_ 1 (some 73) ?_
                   refine pn_ 2 (some 74) ?_
                   refine pn_ 3 (some 75) ?_
                   refine pn_ 5 (some 77) ?_
                   refine pn_ 6 (some 78) ?_
                   refine pn_ 7 (some 79) ?_
                   refine tk_ 4 (some 76) ?_ (hy := by rintro w' ⟨s0, s1, s2, s3, s4, s5⟩; go_simp; with_reducible rfl)
                   refine tk_ 8 (some 80) ?_ (hy := by rintro w' ⟨s0, s1, s2, s3, s4, s5⟩; go_simp; with_reducible rfl)
                   refine pn_ 9 (some 81) ?_
                   refine pn_ 10 (some 82) ?_
                   refine pn_ 11 (some 83) ?_
                   refine pn_ 12 (some 84) ?_
                   refine pn_ 13 (some 85) ?_
                   refine tk_ 14 (some 86) ?_ (hy := by rintro w' ⟨s0, s1, s2, s3, s4, s5⟩; go_simp; with_reducible rfl)
                   refine pn_ 15 (some 87) ?_
                   refine pn_ 16 (some 88) ?_
                   refine pn_ 17 (some 89) ?_
                   refine pu_ 18 (some 90) ?_
                   refine pu_ 19 (some 91) ?_
                   refine pu_ 20 (some 92) ?_
                   refine pu_ 21 (some 93) ?_
                   refine pu_ 22 (some 94) ?_
                   refine pu_ 23 (some 95) ?_
                   refine pu_ 24 (some 96) ?_
                   refine pu_ 25 (some 97) ?_
                   refine pn_ 26 (some 98) ?_
                   refine done_ (done_of HT_.out (by kernel_rfl)) ?_
                   try go_wp2
                   go_roundg kj10
                   case measure => have := HK1.out; have := HK2.out; have := HJ10.out; omega
                   case rel => exact ⟨(y414), (y417), (wrap64 (x11_2 + 1)), (by first | rfl | (simp; done) | (simp [*]; done)), H', ⟨by have := HK1.out; have := HK2.out; have := HJ10.out; omega⟩, ⟨by (with_reducible repeat (first | apply Kd.R_alloc | apply Kd.R_drewN | apply Kd.R_drew)); exact Kd.R_mono HO416.out (fun _ hk => hk.2)⟩, ⟨by (with_reducible repeat (first | apply Kd.R_alloc | apply Kd.R_drewN | apply Kd.R_drew)); exact HO419.out⟩, ⟨by repeat (first | (with_reducible first | exact HB.out | apply below_alloc | apply pw_below_drewN | apply below_drew1) | exact HB.out)⟩⟩
                 ·rw [if_neg c33] at H
                  exact absurd H (by simp)
                ·rw [if_neg c32] at H
                 have c32b0 : (((rd_T67 l0 x11_2).f2) == (rd y414 x10_1)) = false := beq_eq_false_iff_ne.mpr c32
                 have c32b1 : (((rd_T67 l0 x11_2).f2) != (rd y414 x10_1)) = true := bne_iff_ne.mpr c32
                 have H' := a_ H
                 clear H
                 have p413 : 0 ≤ (x11_2 : Int) := od_
                 have q413 : x11_2 < (l0.length : Int) := od_
                 obtain ⟨ad413, e413, hx413_0, hx413_1, hx413_2, hx413_3⟩ := at_T67 HR0.out x11_2 p413 q413
                 cases e413
                 replace hx413_0 := pc_ hx413_0
                 replace hx413_1 := pc_ hx413_1
                 replace hx413_2 := pc_ hx413_2
                 replace hx413_3 := pc_ hx413_3
                 replace p413 := eq_true p413
                 replace q413 := eq_true q413
                 try go_wp2_with (first | ((with_reducible refine gate_builtin (b := .append) (xs := #[.tmp 59, .tmp 65]) rfl ?_); at_builtin; refine Kd.R_append (Kd.int .i64) (w0 := w) w.heap.size rfl (.tmp 59) (.tmp 65) 36 3 (.int .i64 0) 8 rfl Try.underlying36 info3 rfl (by decide) (by omega) u8 x8_2 ((rd_T67 l0 x11_2).f2) [.int .i64 ((rd_T67 l0 x11_2).f2)] (fun k_ => some k_ ≠ (u9 : Value).ownBlock) (fun _ => False) rfl rfl ?aP (fun _ hk => hk.elim) ?aF ?aO ?aB ?aS ?aL ?_; (case aP => exact rfl); (case aB => exact bel_); (case aF => exact (fun k_ hk => Kd.fresh' (Kd.R_lt (kR_ HO_9.out)) k_ hk)); (case aO => exact (kR_ HO_8.out)); (case aS => exact (below_size bel_)); (case aL => have := LMc28.out; omega); intro v415 w53 ho hb hg hat; rw [← Ny414.out] at ho; have n0_ := a_ (Kd.R_after (ok := (fun _ => True)) (by (with_reducible repeat (first | apply Kd.R_alloc | apply Kd.R_drewN | apply Kd.R_drew)); exact Kd.R_mono HO_9.out (fun _ hk => ⟨trivial, hk⟩)) hg hat); have n1_ := a_ (hb); have n2_ := a_ (ho); clear HO_9; clear HB; clear HO_8; have HO_9 := n0_; have HB := n1_; have HO416 := n2_; clear n0_ n1_ n2_; clear ho hb hg hat) | ((with_reducible refine gate_builtin (b := .append) (xs := #[.tmp 67, .tmp 70]) rfl ?_); at_builtin; refine Kd.R_append (Kd.int .i64) (w0 := w) w.heap.size rfl (.tmp 67) (.tmp 70) 36 3 (.int .i64 0) 8 rfl Try.underlying36 info3 rfl (by decide) (by omega) u9 x9_2 (wrap64 (x11_2 + 1)) [.int .i64 (wrap64 (x11_2 + 1))] (fun k_ => some k_ ≠ (v415 : Value).ownBlock) (fun _ => False) rfl rfl ?aP (fun _ hk => hk.elim) ?aF ?aO ?aB ?aS ?aL ?_; (case aP => exact rfl); (case aB => exact bel_); (case aF => exact (fun k_ hk => Kd.fresh' (Kd.R_lt (kR_ HO416.out)) k_ hk)); (case aO => exact (by (with_reducible repeat (first | apply Kd.R_alloc | apply Kd.R_drewN | apply Kd.R_drew)); exact Kd.R_mono HO_9.out (fun _ hk => hk.2))); (case aS => exact (below_size bel_)); (case aL => have := LMc29.out; omega); intro v418 w54 ho hb hg hat; rw [← Ny417.out] at ho; have n0_ := a_ (Kd.R_after (ok := (fun _ => True)) (by (with_reducible repeat (first | apply Kd.R_alloc | apply Kd.R_drewN | apply Kd.R_drew)); exact Kd.R_mono HO416.out (fun _ hk => ⟨trivial, hk⟩)) hg hat); have n1_ := a_ (hb); have n2_ := a_ (ho); clear HO416; clear HB; clear HO_9; have HO416 := n0_; have HB := n1_; have HO419 := n2_; clear n0_ n1_ n2_; clear ho hb hg hat))
                 have n0_ := a_ (Kd.R_drew HO416.out)
                 have n1_ := a_ (Kd.R_drew HO419.out)
                 have n2_ := a_ (below_drew1 HB.out)
                 clear HO416
                 clear HO419
                 clear HB
                 have HO416 := n0_
                 have HO419 := n1_
                 have HB := n2_
                 clear n0_ n1_ n2_
                 have p420 : 0 ≤ (x11_2 : Int) := od_
                 have q420 : x11_2 < (l0.length : Int) := od_
                 obtain ⟨ad420, e420, hx420_0, hx420_1, hx420_2, hx420_3⟩ := at_T67 HR0.out x11_2 p420 q420
                 have hw420_3 := hx420_3
                 have hw420_2 := hx420_2
                 have hw420_1 := hx420_1
                 have hw420_0 := hx420_0
                 obtain rfl : ad413 = ad420 := (by injection e420)
                 replace hx420_0 := pc_ hx420_0
                 replace hx420_1 := pc_ hx420_1
                 replace hx420_2 := pc_ hx420_2
                 replace hx420_3 := pc_ hx420_3
                 replace p420 := eq_true p420
                 replace q420 := eq_true q420
                 obtain ⟨Ao56, co56, eo56⟩ := Kd.R_slice HO416.out
                 (first | subst eo56 | (injection eo56 with f1_ f2_ f3_; have f4_ := f1_.symm; have f5_ := f3_.symm; clear f1_ f2_ f3_; subst f4_; subst f5_))
                 have p421 : 0 ≤ (x10_1 : Int) := od_
                 have q421 : x10_1 < (y414.length : Int) := od_
                 obtain ⟨ad421, e421, hx421_0⟩ := Kd.at_int (Kd.R_reads' HO416.out).2.2 x10_1 p421 q421
                 cases e421
                 replace p421 := eq_true p421
                 replace q421 := eq_true q421
                 refine start_ (n := 27) (S := fun w' => w'.cell? (ad413.add ((x11_2).toNat * 4)) = some (.int .i64 ((rd_T67 l0 x11_2).f0)) ∧ w'.cell? ⟨(ad413.add ((x11_2).toNat * 4)).block, (ad413.add ((x11_2).toNat * 4)).off + 1, none⟩ = some (.int .i64 ((rd_T67 l0 x11_2).f1)) ∧ w'.cell? ⟨(ad413.add ((x11_2).toNat * 4)).block, (ad413.add ((x11_2).toNat * 4)).off + 2, none⟩ = some (.int .i64 ((rd_T67 l0 x11_2).f2)) ∧ w'.cell? ⟨(ad413.add ((x11_2).toNat * 4)).block, (ad413.add ((x11_2).toNat * 4)).off + 3, none⟩ = some (.int .i64 ((rd_T67 l0 x11_2).f3)) ∧ w'.cell? (ad421.add (x10_1).toNat) = some (.int .i64 (rd y414 x10_1))) (ds := []) #[false, false, false, false, false, false, false, false, false, false, false, false, false, false, false, false, false, false, false, false, false, false, false, false, false, false, false] (by kernel_rfl) rfl rfl ⟨(pw_cell_below HB.out hw420_0), (pw_cell_below HB.out hw420_1), (pw_cell_below HB.out hw420_2), (pw_cell_below HB.out hw420_3), hx421_0⟩ (fun hHeld => ?_); refine with_tabW skiarearef06_search.tab12 skiarearef06_search.bits12 (fun HT_ HW_ => ?_)
                 generalize w54.drew = w55 at HO416 HO419 HB hx420_0 hx420_1 hx420_2 hx420_3 hx421_0 hHeld ⊢
                 refine pn_ 0 (some 72) ?_
                 refine pn_ 1 (some 73) ?_
                 refine pn_ 2 (some 74) ?_
                 refine pn_ 3 (some 75) ?_
                 refine pn_ 5 (some 77) ?_
                 refine pn_ 6 (some 78) ?_
                 refine pn_ 7 (some 79) ?_
                 refine tk_ 4 (some 76) ?_ (hy := by rintro w' ⟨s0, s1, s2, s3, s4⟩; go_simp; with_reducible rfl)
                 refine tk_ 8 (some 80) ?_ (hy := by rintro w' ⟨s0, s1, s2, s3, s4⟩; go_simp; with_reducible rfl)
                 refine pn_ 9 (some 81) ?_
                 refine pn_ 10 (some 82) ?_
                 refine pu_ 11 (some 83) ?_
                 refine pu_ 12 (some 84) ?_
                 refine pu_ 13 (some 85) ?_
                 refine pu_ 14 (some 86) ?_
                 refine pu_ 15 (some 87) ?_
                 refine pn_ 16 (some 88) ?_
                 refine pn_ 17 (some 89) ?_
                 refine pu_ 18 (some 90) ?_
                 refine pu_ 19 (some 91) ?_
                 refine pu_ 20 (some 92) ?_
                 refine pu_ 21 (some 93) ?_
                 refine pu_ 22 (some 94) ?_
                 refine pu_ 23 (some 95) ?_
                 refine pu_ 24 (some 96) ?_
                 refine pu_ 25 (some 97) ?_
                 refine pn_ 26 (some 98) ?_
                 refine done_ (done_of HT_.out (by kernel_rfl)) ?_
                 try go_wp2
                 go_roundg kj10
                 case measure => have := HK1.out; have := HK2.out; have := HJ10.out; omega
                 case rel => exact ⟨(y414), (y417), (wrap64 (x11_2 + 1)), (by first | rfl | (simp; done) | (simp [*]; done)), H', ⟨by have := HK1.out; have := HK2.out; have := HJ10.out; omega⟩, ⟨by (with_reducible repeat (first | apply Kd.R_alloc | apply Kd.R_drewN | apply Kd.R_drew)); exact Kd.R_mono HO416.out (fun _ hk => hk.2)⟩, ⟨by (with_reducible repeat (first | apply Kd.R_alloc | apply Kd.R_drewN | apply Kd.R_drew)); exact HO419.out⟩, ⟨by repeat (first | (with_reducible first | exact HB.out | apply below_alloc | apply pw_below_drewN | apply below_drew1) | exact HB.out)⟩⟩
               ·rw [if_neg c31] at H
                exact absurd H (by simp)
              ·rw [if_neg c30] at H
               exact absurd H (by simp)
             ·rw [if_neg c29] at H
              exact absurd H (by simp)
            ·rw [if_neg c28] at H
             exact absurd H (by simp)
           ·rw [if_neg c27] at H
            exact absurd H (by simp)
          ·rw [if_neg c26] at H
           exact absurd H (by simp)
         ·replace c25 := Bool.eq_false_iff.mpr c25
          subst c25
          have H1 : (if 0 ≤ x11_2 then (if x11_2 < (l0.length : Int) then (if 0 ≤ x10_1 then (if x10_1 < (x8_2.length : Int) then (if ((rd_T67 l0 x11_2).f2) = (rd x8_2 x10_1) then (if x11_2 < (l1.length : Int) then (if (rd l1 x11_2) > 0 then ((skiarearef06_has.f kj10 x8_2 ((rd_T67 l0 x11_2).f1)).bind fun t436 => (if t436 = true then (skiarearef06_search.l1 kj10 l0 l1 x8_2 x9_2 x10_1 (wrap64 (x11_2 + 1))) else (if x8_2.length < 17592186044416 then (if x9_2.length < 17592186044416 then (skiarearef06_search.l1 kj10 l0 l1 (x8_2 ++ [(rd_T67 l0 x11_2).f1]) (x9_2 ++ [wrap64 ((wrap64 (-x11_2)) - 1)]) x10_1 (wrap64 (x11_2 + 1))) else (none)) else (none)))) else (skiarearef06_search.l1 kj10 l0 l1 x8_2 x9_2 x10_1 (wrap64 (x11_2 + 1)))) else (none)) else (skiarearef06_search.l1 kj10 l0 l1 x8_2 x9_2 x10_1 (wrap64 (x11_2 + 1)))) else (none)) else (none)) else (none)) else (none)) = some (r1, r2) := by rw [if_neg (show ¬ (false = true) by decide)] at H; exact H
          clear H
          have H := H1
          clear H1
          by_cases c57 : 0 ≤ x11_2
          ·rw [if_pos c57] at H
           have c57b0 : decide (0 ≤ x11_2) = true := decide_eq_true c57
           clear c57
           by_cases c58 : x11_2 < (l0.length : Int)
           ·rw [if_pos c58] at H
            have c58b0 : decide (x11_2 < (l0.length : Int)) = true := decide_eq_true c58
            clear c58
            by_cases c59 : 0 ≤ x10_1
            ·rw [if_pos c59] at H
             have c59b0 : decide (0 ≤ x10_1) = true := decide_eq_true c59
             clear c59
             by_cases c60 : x10_1 < (x8_2.length : Int)
             ·rw [if_pos c60] at H
              have c60b0 : decide (x10_1 < (x8_2.length : Int)) = true := decide_eq_true c60
              clear c60
              by_cases c61 : ((rd_T67 l0 x11_2).f2) = (rd x8_2 x10_1)
              ·rw [if_pos c61] at H
               have c61b0 : (((rd_T67 l0 x11_2).f2) == (rd x8_2 x10_1)) = true := beq_iff_eq.mpr c61
               have c61b1 : (((rd_T67 l0 x11_2).f2) != (rd x8_2 x10_1)) = false := bne_eq_false_iff_eq.mpr c61
               clear c61
               by_cases c62 : x11_2 < (l1.length : Int)
               ·rw [if_pos c62] at H
                have c62b0 : decide (x11_2 < (l1.length : Int)) = true := decide_eq_true c62
                clear c62
                by_cases c63 : (rd l1 x11_2) > 0
                ·rw [if_pos c63] at H
                 have c63b0 : decide (0 < (rd l1 x11_2)) = true := decide_eq_true c63
                 clear c63
                 replace H := Option.bind_eq_some_iff.mp H
                 obtain ⟨t436, A640, H⟩ := H
                 replace H : (if t436 = true then (skiarearef06_search.l1 kj10 l0 l1 x8_2 x9_2 x10_1 (wrap64 (x11_2 + 1))) else (if x8_2.length < 17592186044416 then (if x9_2.length < 17592186044416 then (skiarearef06_search.l1 kj10 l0 l1 (x8_2 ++ [(rd_T67 l0 x11_2).f1]) (x9_2 ++ [wrap64 ((wrap64 (-x11_2)) - 1)]) x10_1 (wrap64 (x11_2 + 1))) else (none)) else (none))) = some (r1, r2) := H
                 have A64 := a_ A640
                 clear A640
                 by_cases c65 : t436 = true
                 ·subst c65
                  have H1 : (skiarearef06_search.l1 kj10 l0 l1 x8_2 x9_2 x10_1 (wrap64 (x11_2 + 1))) = some (r1, r2) := by rw [if_pos rfl] at H; exact H
                  clear H
                  have H := H1
                  clear H1
                  have H' := a_ H
                  clear H
                  try go_wp2
                  have n0_ := a_ (Kd.R_drew HO_8.out)
                  have n1_ := a_ (Kd.R_drew HO_9.out)
                  have n2_ := a_ (below_drew1 HB.out)
                  clear HO_8
                  clear HO_9
                  clear HB
                  have HO_8 := n0_
                  have HO_9 := n1_
                  have HB := n2_
                  clear n0_ n1_ n2_
                  have p432 : 0 ≤ (x11_2 : Int) := od_
                  have q432 : x11_2 < (l0.length : Int) := od_
                  obtain ⟨ad432, e432, hx432_0, hx432_1, hx432_2, hx432_3⟩ := at_T67 HR0.out x11_2 p432 q432
                  have hw432_3 := hx432_3
                  have hw432_2 := hx432_2
                  have hw432_1 := hx432_1
                  have hw432_0 := hx432_0
                  cases e432
                  replace hx432_0 := pc_ hx432_0
                  replace hx432_1 := pc_ hx432_1
                  replace hx432_2 := pc_ hx432_2
                  replace hx432_3 := pc_ hx432_3
                  replace p432 := eq_true p432
                  replace q432 := eq_true q432
                  obtain ⟨Ao67, co67, eo67⟩ := Kd.R_slice HO_8.out
                  (first | subst eo67 | (injection eo67 with f1_ f2_ f3_; have f4_ := f1_.symm; have f5_ := f3_.symm; clear f1_ f2_ f3_; subst f4_; subst f5_))
                  have p433 : 0 ≤ (x10_1 : Int) := od_
                  have q433 : x10_1 < (x8_2.length : Int) := od_
                  obtain ⟨ad433, e433, hx433_0⟩ := Kd.at_int (Kd.R_reads' HO_8.out).2.2 x10_1 p433 q433
                  cases e433
                  replace p433 := eq_true p433
                  replace q433 := eq_true q433
                  have p434 : 0 ≤ (x11_2 : Int) := od_
                  have q434 : x11_2 < (l1.length : Int) := od_
                  obtain ⟨ad434, e434, hx434_0⟩ := Kd.at_int HR1.out x11_2 p434 q434
                  have hw434_0 := hx434_0
                  cases e434
                  replace hx434_0 := pc_ hx434_0
                  replace p434 := eq_true p434
                  replace q434 := eq_true q434
                  have p435 : 0 ≤ (x11_2 : Int) := od_
                  have q435 : x11_2 < (l0.length : Int) := od_
                  obtain ⟨ad435, e435, hx435_0, hx435_1, hx435_2, hx435_3⟩ := at_T67 HR0.out x11_2 p435 q435
                  have hw435_3 := hx435_3
                  have hw435_2 := hx435_2
                  have hw435_1 := hx435_1
                  have hw435_0 := hx435_0
                  obtain rfl : ad432 = ad435 := (by injection e435)
                  replace hx435_0 := pc_ hx435_0
                  replace hx435_1 := pc_ hx435_1
                  replace hx435_2 := pc_ hx435_2
                  replace hx435_3 := pc_ hx435_3
                  replace p435 := eq_true p435
                  replace q435 := eq_true q435
                  refine start_ (n := 27) (S := fun w' => w'.cell? (ad432.add ((x11_2).toNat * 4)) = some (.int .i64 ((rd_T67 l0 x11_2).f0)) ∧ w'.cell? ⟨(ad432.add ((x11_2).toNat * 4)).block, (ad432.add ((x11_2).toNat * 4)).off + 1, none⟩ = some (.int .i64 ((rd_T67 l0 x11_2).f1)) ∧ w'.cell? ⟨(ad432.add ((x11_2).toNat * 4)).block, (ad432.add ((x11_2).toNat * 4)).off + 2, none⟩ = some (.int .i64 ((rd_T67 l0 x11_2).f2)) ∧ w'.cell? ⟨(ad432.add ((x11_2).toNat * 4)).block, (ad432.add ((x11_2).toNat * 4)).off + 3, none⟩ = some (.int .i64 ((rd_T67 l0 x11_2).f3)) ∧ w'.cell? (ad433.add (x10_1).toNat) = some (.int .i64 (rd x8_2 x10_1)) ∧ w'.cell? (ad434.add (x11_2).toNat) = some (.int .i64 (rd l1 x11_2)) ∧ w'.cell? (ad432.add ((x11_2).toNat * 4)) = some (.int .i64 ((rd_T67 l0 x11_2).f0)) ∧ w'.cell? ⟨(ad432.add ((x11_2).toNat * 4)).block, (ad432.add ((x11_2).toNat * 4)).off + 1, none⟩ = some (.int .i64 ((rd_T67 l0 x11_2).f1)) ∧ w'.cell? ⟨(ad432.add ((x11_2).toNat * 4)).block, (ad432.add ((x11_2).toNat * 4)).off + 2, none⟩ = some (.int .i64 ((rd_T67 l0 x11_2).f2)) ∧ w'.cell? ⟨(ad432.add ((x11_2).toNat * 4)).block, (ad432.add ((x11_2).toNat * 4)).off + 3, none⟩ = some (.int .i64 ((rd_T67 l0 x11_2).f3))) (ds := []) #[false, false, false, false, false, false, false, false, false, false, false, false, false, false, false, false, false, false, false, false, false, false, false, false, false, false, false] (by kernel_rfl) rfl rfl ⟨(pw_cell_below HB.out hw432_0), (pw_cell_below HB.out hw432_1), (pw_cell_below HB.out hw432_2), (pw_cell_below HB.out hw432_3), hx433_0, (pw_cell_below HB.out hw434_0), (pw_cell_below HB.out hw435_0), (pw_cell_below HB.out hw435_1), (pw_cell_below HB.out hw435_2), (pw_cell_below HB.out hw435_3)⟩ (fun hHeld => ?_); refine with_tabW skiarearef06_search.tab12 skiarearef06_search.bits12 (fun HT_ HW_ => ?_)
                  generalize wc.drew = w66 at HO_8 HO_9 HB hx432_0 hx432_1 hx432_2 hx432_3 hx433_0 hx434_0 hx435_0 hx435_1 hx435_2 hx435_3 hHeld ⊢
                  refine pn_ 0 (some 72) ?_
                  refine pn_ 1 (some 73) ?_
                  refine pn_ 2 (some 74) ?_
                  refine pn_ 3 (some 75) ?_
                  refine pn_ 5 (some 77) ?_
                  refine pn_ 6 (some 78) ?_
                  refine pn_ 7 (some 79) ?_
                  refine tk_ 4 (some 76) ?_ (hy := by rintro w' ⟨s0, s1, s2, s3, s4, s5, s6, s7, s8, s9⟩; go_simp; with_reducible rfl)
                  refine tk_ 8 (some 80) ?_ (hy := by rintro w' ⟨s0, s1, s2, s3, s4, s5, s6, s7, s8, s9⟩; go_simp; with_reducible rfl)
                  refine pn_ 9 (some 81) ?_
                  refine pn_ 10 (some 82) ?_
                  refine pn_ 11 (some 83) ?_
                  refine pn_ 12 (some 84) ?_
                  refine pn_ 13 (some 85) ?_
                  refine tk_ 14 (some 86) ?_ (hy := by rintro w' ⟨s0, s1, s2, s3, s4, s5, s6, s7, s8, s9⟩; go_simp; with_reducible rfl)
                  refine pn_ 15 (some 87) ?_
                  refine pn_ 16 (some 88) ?_
                  refine pn_ 17 (some 89) ?_
                  refine pn_ 18 (some 90) ?_
                  refine pn_ 19 (some 91) ?_
                  refine pn_ 20 (some 92) ?_
                  refine pn_ 21 (some 93) ?_
                  refine pn_ 22 (some 94) ?_
                  refine tk_ 23 (some 95) ?_ (hy := by rintro w' ⟨s0, s1, s2, s3, s4, s5, s6, s7, s8, s9⟩; go_simp; with_reducible rfl)
                  refine one_ (i := 24) (N := some 96) #[true, true, true, true, true, true, true, true, true, true, true, true, true, true, true, true, true, true, true, true, true, true, true, true, true, false, false] rfl rfl (one_of HT_.out (by kernel_rfl)) (by decide) (fun K hK => ?_)
                  refine goes_ Try.func68 (by kernel_rfl) rfl #[.slice (some ad433) x8_2.length co67, .int .i64 ((rd_T67 l0 x11_2).f1)] (by rfl) rfl rfl (by (try simp only [List.map_toArray, List.map_cons, List.map_nil]); first | done | rfl | (simp only [List.length_drop, List.length_take]; rfl)) ?_
                  with_reducible refine (skiarearef06_has.calls kj10 _ _ x8_2 ((rd_T67 l0 x11_2).f1) true _ ?side1 ?side2 A64.out).mono ?_
                  (case side1 => repeat (first | exact (Kd.R_reads' HO_8.out).2.2 | (with_reducible refine Kd.C_alloc ?_ _) | (with_reducible refine Kd.C_drewN ?_ _) | (with_reducible refine Kd.C_drew ?_)))
                  (case side2 => exact (Kd.R_reads' HO_8.out).2.1)
                  rintro e w' ⟨rfl, ⟨nd, rfl⟩⟩
                  refine ⟨_, rfl, ?_⟩
                  refine hK.out _ _ ⟨(pw_cell_below HB.out hw432_0), (pw_cell_below HB.out hw432_1), (pw_cell_below HB.out hw432_2), (pw_cell_below HB.out hw432_3), hHeld.2.2.2.2.1, (pw_cell_below HB.out hw434_0), (pw_cell_below HB.out hw435_0), (pw_cell_below HB.out hw435_1), (pw_cell_below HB.out hw435_2), (pw_cell_below HB.out hw435_3)⟩ (fun hHeld => ?_)
                  clear hK K
                  refine norm_ (a' := ?_) ?_ ?_
                  rotate_left
                  ·show Act.put _ (some 96) _ = _
                   simp only [Act.put, List.setIfInBounds_toArray, List.set_cons_zero, List.set_cons_succ, i64_w, i32_w]
                   rfl
                  refine pn_ 25 (some 97) ?_
                  refine pn_ 26 (some 98) ?_
                  refine done_ (done_of HT_.out (by kernel_rfl)) ?_
                  try go_wp2
                  go_roundg kj10
                  case measure => have := HK1.out; have := HK2.out; have := HJ10.out; omega
                  case rel => exact ⟨(x8_2), (x9_2), (wrap64 (x11_2 + 1)), (by first | rfl | (simp; done) | (simp [*]; done)), H', ⟨by have := HK1.out; have := HK2.out; have := HJ10.out; omega⟩, ⟨by (with_reducible repeat (first | apply Kd.R_alloc | apply Kd.R_drewN | apply Kd.R_drew)); exact HO_8.out⟩, ⟨by (with_reducible repeat (first | apply Kd.R_alloc | apply Kd.R_drewN | apply Kd.R_drew)); exact HO_9.out⟩, ⟨by repeat (first | (with_reducible first | exact HB.out | apply below_alloc | apply pw_below_drewN | apply below_drew1) | exact HB.out)⟩⟩
                 ·replace c65 := Bool.eq_false_iff.mpr c65
                  subst c65
                  have H1 : (if x8_2.length < 17592186044416 then (if x9_2.length < 17592186044416 then (skiarearef06_search.l1 kj10 l0 l1 (x8_2 ++ [(rd_T67 l0 x11_2).f1]) (x9_2 ++ [wrap64 ((wrap64 (-x11_2)) - 1)]) x10_1 (wrap64 (x11_2 + 1))) else (none)) else (none)) = some (r1, r2) := by rw [if_neg (show ¬ (false = true) by decide)] at H; exact H
                  clear H
                  have H := H1
                  clear H1
                  by_cases c68 : x8_2.length < 17592186044416
                  ·rw [if_pos c68] at H
                   have LMc68 := a_ c68
                   clear c68
                   obtain ⟨y438, hy438⟩ : ∃ y_ : List Int, y_ = (x8_2 ++ [(rd_T67 l0 x11_2).f1]) := ⟨_, rfl⟩
                   replace H : (if x9_2.length < 17592186044416 then (skiarearef06_search.l1 kj10 l0 l1 y438 (x9_2 ++ [wrap64 ((wrap64 (-x11_2)) - 1)]) x10_1 (wrap64 (x11_2 + 1))) else (none)) = some (r1, r2) := by first | (rw [hy438]; with_reducible exact H) | (have H2_ := (Option.bind_some _ _).symm.trans H; rw [hy438]; with_reducible exact H2_) | (have H2_ := (Option.bind_some _ _).symm.trans H; with_reducible exact H2_) | with_reducible exact H | (rw [hy438]; exact H) | exact H
                   have Ny438 := a_ hy438
                   clear hy438
                   by_cases c69 : x9_2.length < 17592186044416
                   ·rw [if_pos c69] at H
                    have LMc69 := a_ c69
                    clear c69
                    obtain ⟨y441, hy441⟩ : ∃ y_ : List Int, y_ = (x9_2 ++ [wrap64 ((wrap64 (-x11_2)) - 1)]) := ⟨_, rfl⟩
                    replace H : (skiarearef06_search.l1 kj10 l0 l1 y438 y441 x10_1 (wrap64 (x11_2 + 1))) = some (r1, r2) := by first | (rw [hy441]; with_reducible exact H) | (have H2_ := (Option.bind_some _ _).symm.trans H; rw [hy441]; with_reducible exact H2_) | (have H2_ := (Option.bind_some _ _).symm.trans H; with_reducible exact H2_) | with_reducible exact H | (rw [hy441]; exact H) | exact H
                    have Ny441 := a_ hy441
                    clear hy441
                    have H' := a_ H
                    clear H
                    try go_wp2
                    have n0_ := a_ (Kd.R_drew HO_8.out)
                    have n1_ := a_ (Kd.R_drew HO_9.out)
                    have n2_ := a_ (below_drew1 HB.out)
                    clear HO_8
                    clear HO_9
                    clear HB
                    have HO_8 := n0_
                    have HO_9 := n1_
                    have HB := n2_
                    clear n0_ n1_ n2_
                    have p432 : 0 ≤ (x11_2 : Int) := od_
                    have q432 : x11_2 < (l0.length : Int) := od_
                    obtain ⟨ad432, e432, hx432_0, hx432_1, hx432_2, hx432_3⟩ := at_T67 HR0.out x11_2 p432 q432
                    have hw432_3 := hx432_3
                    have hw432_2 := hx432_2
                    have hw432_1 := hx432_1
                    have hw432_0 := hx432_0
                    cases e432
                    replace hx432_0 := pc_ hx432_0
                    replace hx432_1 := pc_ hx432_1
                    replace hx432_2 := pc_ hx432_2
                    replace hx432_3 := pc_ hx432_3
                    replace p432 := eq_true p432
                    replace q432 := eq_true q432
                    obtain ⟨Ao71, co71, eo71⟩ := Kd.R_slice HO_8.out
                    (first | subst eo71 | (injection eo71 with f1_ f2_ f3_; have f4_ := f1_.symm; have f5_ := f3_.symm; clear f1_ f2_ f3_; subst f4_; subst f5_))
                    have p433 : 0 ≤ (x10_1 : Int) := od_
                    have q433 : x10_1 < (x8_2.length : Int) := od_
                    obtain ⟨ad433, e433, hx433_0⟩ := Kd.at_int (Kd.R_reads' HO_8.out).2.2 x10_1 p433 q433
                    cases e433
                    replace p433 := eq_true p433
                    replace q433 := eq_true q433
                    have p434 : 0 ≤ (x11_2 : Int) := od_
                    have q434 : x11_2 < (l1.length : Int) := od_
                    obtain ⟨ad434, e434, hx434_0⟩ := Kd.at_int HR1.out x11_2 p434 q434
                    have hw434_0 := hx434_0
                    cases e434
                    replace hx434_0 := pc_ hx434_0
                    replace p434 := eq_true p434
                    replace q434 := eq_true q434
                    have p435 : 0 ≤ (x11_2 : Int) := od_
                    have q435 : x11_2 < (l0.length : Int) := od_
                    obtain ⟨ad435, e435, hx435_0, hx435_1, hx435_2, hx435_3⟩ := at_T67 HR0.out x11_2 p435 q435
                    have hw435_3 := hx435_3
                    have hw435_2 := hx435_2
                    have hw435_1 := hx435_1
                    have hw435_0 := hx435_0
                    obtain rfl : ad432 = ad435 := (by injection e435)
                    replace hx435_0 := pc_ hx435_0
                    replace hx435_1 := pc_ hx435_1
                    replace hx435_2 := pc_ hx435_2
                    replace hx435_3 := pc_ hx435_3
                    replace p435 := eq_true p435
                    replace q435 := eq_true q435
                    refine start_ (n := 27) (S := fun w' => w'.cell? (ad432.add ((x11_2).toNat * 4)) = some (.int .i64 ((rd_T67 l0 x11_2).f0)) ∧ w'.cell? ⟨(ad432.add ((x11_2).toNat * 4)).block, (ad432.add ((x11_2).toNat * 4)).off + 1, none⟩ = some (.int .i64 ((rd_T67 l0 x11_2).f1)) ∧ w'.cell? ⟨(ad432.add ((x11_2).toNat * 4)).block, (ad432.add ((x11_2).toNat * 4)).off + 2, none⟩ = some (.int .i64 ((rd_T67 l0 x11_2).f2)) ∧ w'.cell? ⟨(ad432.add ((x11_2).toNat * 4)).block, (ad432.add ((x11_2).toNat * 4)).off + 3, none⟩ = some (.int .i64 ((rd_T67 l0 x11_2).f3)) ∧ w'.cell? (ad433.add (x10_1).toNat) = some (.int .i64 (rd x8_2 x10_1)) ∧ w'.cell? (ad434.add (x11_2).toNat) = some (.int .i64 (rd l1 x11_2)) ∧ w'.cell? (ad432.add ((x11_2).toNat * 4)) = some (.int .i64 ((rd_T67 l0 x11_2).f0)) ∧ w'.cell? ⟨(ad432.add ((x11_2).toNat * 4)).block, (ad432.add ((x11_2).toNat * 4)).off + 1, none⟩ = some (.int .i64 ((rd_T67 l0 x11_2).f1)) ∧ w'.cell? ⟨(ad432.add ((x11_2).toNat * 4)).block, (ad432.add ((x11_2).toNat * 4)).off + 2, none⟩ = some (.int .i64 ((rd_T67 l0 x11_2).f2)) ∧ w'.cell? ⟨(ad432.add ((x11_2).toNat * 4)).block, (ad432.add ((x11_2).toNat * 4)).off + 3, none⟩ = some (.int .i64 ((rd_T67 l0 x11_2).f3))) (ds := []) #[false, false, false, false, false, false, false, false, false, false, false, false, false, false, false, false, false, false, false, false, false, false, false, false, false, false, false] (by kernel_rfl) rfl rfl ⟨(pw_cell_below HB.out hw432_0), (pw_cell_below HB.out hw432_1), (pw_cell_below HB.out hw432_2), (pw_cell_below HB.out hw432_3), hx433_0, (pw_cell_below HB.out hw434_0), (pw_cell_below HB.out hw435_0), (pw_cell_below HB.out hw435_1), (pw_cell_below HB.out hw435_2), (pw_cell_below HB.out hw435_3)⟩ (fun hHeld => ?_); refine with_tabW skiarearef06_search.tab12 skiarearef06_search.bits12 (fun HT_ HW_ => ?_)
                    generalize wc.drew = w70 at HO_8 HO_9 HB hx432_0 hx432_1 hx432_2 hx432_3 hx433_0 hx434_0 hx435_0 hx435_1 hx435_2 hx435_3 hHeld ⊢
                    refine pn_ 0 (some 72) ?_
                    refine pn_ 1 (some 73) ?_
                    refine pn_ 2 (some 74) ?_
                    refine pn_ 3 (some 75) ?_
                    refine pn_ 5 (some 77) ?_
                    refine pn_ 6 (some 78) ?_
                    refine pn_ 7 (some 79) ?_
                    refine tk_ 4 (some 76) ?_ (hy := by rintro w' ⟨s0, s1, s2, s3, s4, s5, s6, s7, s8, s9⟩; go_simp; with_reducible rfl)
                    refine tk_ 8 (some 80) ?_ (hy := by rintro w' ⟨s0, s1, s2, s3, s4, s5, s6, s7, s8, s9⟩; go_simp; with_reducible rfl)
                    refine pn_ 9 (some 81) ?_
                    refine pn_ 10 (some 82) ?_
                    refine pn_ 11 (some 83) ?_
                    refine pn_ 12 (some 84) ?_
                    refine pn_ 13 (some 85) ?_
                    refine tk_ 14 (some 86) ?_ (hy := by rintro w' ⟨s0, s1, s2, s3, s4, s5, s6, s7, s8, s9⟩; go_simp; with_reducible rfl)
                    refine pn_ 15 (some 87) ?_
                    refine pn_ 16 (some 88) ?_
                    refine pn_ 17 (some 89) ?_
                    refine pn_ 18 (some 90) ?_
                    refine pn_ 19 (some 91) ?_
                    refine pn_ 20 (some 92) ?_
                    refine pn_ 21 (some 93) ?_
                    refine pn_ 22 (some 94) ?_
                    refine tk_ 23 (some 95) ?_ (hy := by rintro w' ⟨s0, s1, s2, s3, s4, s5, s6, s7, s8, s9⟩; go_simp; with_reducible rfl)
                    refine one_ (i := 24) (N := some 96) #[true, true, true, true, true, true, true, true, true, true, true, true, true, true, true, true, true, true, true, true, true, true, true, true, true, false, false] rfl rfl (one_of HT_.out (by kernel_rfl)) (by decide) (fun K hK => ?_)
                    refine goes_ Try.func68 (by kernel_rfl) rfl #[.slice (some ad433) x8_2.length co71, .int .i64 ((rd_T67 l0 x11_2).f1)] (by rfl) rfl rfl (by (try simp only [List.map_toArray, List.map_cons, List.map_nil]); first | done | rfl | (simp only [List.length_drop, List.length_take]; rfl)) ?_
                    with_reducible refine (skiarearef06_has.calls kj10 _ _ x8_2 ((rd_T67 l0 x11_2).f1) false _ ?side1 ?side2 A64.out).mono ?_
                    (case side1 => repeat (first | exact (Kd.R_reads' HO_8.out).2.2 | (with_reducible refine Kd.C_alloc ?_ _) | (with_reducible refine Kd.C_drewN ?_ _) | (with_reducible refine Kd.C_drew ?_)))
                    (case side2 => exact (Kd.R_reads' HO_8.out).2.1)
                    rintro e w' ⟨rfl, ⟨nd, rfl⟩⟩
                    refine ⟨_, rfl, ?_⟩
                    refine hK.out _ _ ⟨(pw_cell_below HB.out hw432_0), (pw_cell_below HB.out hw432_1), (pw_cell_below HB.out hw432_2), (pw_cell_below HB.out hw432_3), hHeld.2.2.2.2.1, (pw_cell_below HB.out hw434_0), (pw_cell_below HB.out hw435_0), (pw_cell_below HB.out hw435_1), (pw_cell_below HB.out hw435_2), (pw_cell_below HB.out hw435_3)⟩ (fun hHeld => ?_)
                    clear hK K
                    refine norm_ (a' := ?_) ?_ ?_
                    rotate_left
                    ·show Act.put _ (some 96) _ = _
                     simp only [Act.put, List.setIfInBounds_toArray, List.set_cons_zero, List.set_cons_succ, i64_w, i32_w]
                     rfl
                    refine pn_ 25 (some 97) ?_
                    refine pn_ 26 (some 98) ?_
                    refine done_ (done_of HT_.out (by kernel_rfl)) ?_
                    have p437 : 0 ≤ (x11_2 : Int) := od_
                    have q437 : x11_2 < (l0.length : Int) := od_
                    obtain ⟨ad437, e437, hx437_0, hx437_1, hx437_2, hx437_3⟩ := at_T67 HR0.out x11_2 p437 q437
                    obtain rfl : ad432 = ad437 := (by injection e437)
                    replace hx437_0 := pc_ hx437_0
                    replace hx437_1 := pc_ hx437_1
                    replace hx437_2 := pc_ hx437_2
                    replace hx437_3 := pc_ hx437_3
                    replace p437 := eq_true p437
                    replace q437 := eq_true q437
                    try go_wp2_with (first | ((with_reducible refine gate_builtin (b := .append) (xs := #[.tmp 99, .tmp 105]) rfl ?_); at_builtin; refine Kd.R_append (Kd.int .i64) (w0 := w) w.heap.size rfl (.tmp 99) (.tmp 105) 36 3 (.int .i64 0) 8 rfl Try.underlying36 info3 rfl (by decide) (by omega) (.slice (some ad433) x8_2.length co71) x8_2 ((rd_T67 l0 x11_2).f1) [.int .i64 ((rd_T67 l0 x11_2).f1)] (fun k_ => some k_ ≠ (u9 : Value).ownBlock) (fun _ => False) rfl rfl ?aP (fun _ hk => hk.elim) ?aF ?aO ?aB ?aS ?aL ?_; (case aP => exact rfl); (case aB => exact bel_); (case aF => exact (fun k_ hk => Kd.fresh' (Kd.R_lt (kR_ HO_9.out)) k_ hk)); (case aO => exact (kR_ HO_8.out)); (case aS => exact (below_size bel_)); (case aL => have := LMc68.out; omega); intro v439 w72 ho hb hg hat; rw [← Ny438.out] at ho; have n0_ := a_ (Kd.R_after (ok := (fun _ => True)) (by (with_reducible repeat (first | apply Kd.R_alloc | apply Kd.R_drewN | apply Kd.R_drew)); exact Kd.R_mono HO_9.out (fun _ hk => ⟨trivial, hk⟩)) hg hat); have n1_ := a_ (hb); have n2_ := a_ (ho); clear HO_9; clear HB; clear HO_8; have HO_9 := n0_; have HB := n1_; have HO440 := n2_; clear n0_ n1_ n2_; clear ho hb hg hat) | ((with_reducible refine gate_builtin (b := .append) (xs := #[.tmp 107, .tmp 111]) rfl ?_); at_builtin; refine Kd.R_append (Kd.int .i64) (w0 := w) w.heap.size rfl (.tmp 107) (.tmp 111) 36 3 (.int .i64 0) 8 rfl Try.underlying36 info3 rfl (by decide) (by omega) u9 x9_2 (wrap64 ((wrap64 (-x11_2)) - 1)) [.int .i64 (wrap64 ((wrap64 (-x11_2)) - 1))] (fun k_ => some k_ ≠ (v439 : Value).ownBlock) (fun _ => False) rfl rfl ?aP (fun _ hk => hk.elim) ?aF ?aO ?aB ?aS ?aL ?_; (case aP => exact rfl); (case aB => exact bel_); (case aF => exact (fun k_ hk => Kd.fresh' (Kd.R_lt (kR_ HO440.out)) k_ hk)); (case aO => exact (by (with_reducible repeat (first | apply Kd.R_alloc | apply Kd.R_drewN | apply Kd.R_drew)); exact Kd.R_mono HO_9.out (fun _ hk => hk.2))); (case aS => exact (below_size bel_)); (case aL => have := LMc69.out; omega); intro v442 w73 ho hb hg hat; rw [← Ny441.out] at ho; have n0_ := a_ (Kd.R_after (ok := (fun _ => True)) (by (with_reducible repeat (first | apply Kd.R_alloc | apply Kd.R_drewN | apply Kd.R_drew)); exact Kd.R_mono HO440.out (fun _ hk => ⟨trivial, hk⟩)) hg hat); have n1_ := a_ (hb); have n2_ := a_ (ho); clear HO440; clear HB; clear HO_9; have HO440 := n0_; have HB := n1_; have HO443 := n2_; clear n0_ n1_ n2_; clear ho hb hg hat))
                    go_roundg kj10
                    case measure => have := HK1.out; have := HK2.out; have := HJ10.out; omega
                    case rel => exact ⟨(y438), (y441), (wrap64 (x11_2 + 1)), (by first | rfl | (simp; done) | (simp [*]; done)), H', ⟨by have := HK1.out; have := HK2.out; have := HJ10.out; omega⟩, ⟨by (with_reducible repeat (first | apply Kd.R_alloc | apply Kd.R_drewN | apply Kd.R_drew)); exact Kd.R_mono HO440.out (fun _ hk => hk.2)⟩, ⟨by (with_reducible repeat (first | apply Kd.R_alloc | apply Kd.R_drewN | apply Kd.R_drew)); exact HO443.out⟩, ⟨by repeat (first | (with_reducible first | exact HB.out | apply below_alloc | apply pw_below_drewN | apply below_drew1) | exact HB.out)⟩⟩
                   ·rw [if_neg c69] at H
                    exact absurd H (by simp)
                  ·rw [if_neg c68] at H
                   exact absurd H (by simp)
                ·rw [if_neg c63] at H
                 have c63b0 : decide (0 < (rd l1 x11_2)) = false := decide_eq_false c63
                 clear c63
                 have H' := a_ H
                 clear H
                 try go_wp2
                 have n0_ := a_ (Kd.R_drew HO_8.out)
                 have n1_ := a_ (Kd.R_drew HO_9.out)
                 have n2_ := a_ (below_drew1 HB.out)
                 clear HO_8
                 clear HO_9
                 clear HB
                 have HO_8 := n0_
                 have HO_9 := n1_
                 have HB := n2_
                 clear n0_ n1_ n2_
                 have p432 : 0 ≤ (x11_2 : Int) := od_
                 have q432 : x11_2 < (l0.length : Int) := od_
                 obtain ⟨ad432, e432, hx432_0, hx432_1, hx432_2, hx432_3⟩ := at_T67 HR0.out x11_2 p432 q432
                 have hw432_3 := hx432_3
                 have hw432_2 := hx432_2
                 have hw432_1 := hx432_1
                 have hw432_0 := hx432_0
                 cases e432
                 replace hx432_0 := pc_ hx432_0
                 replace hx432_1 := pc_ hx432_1
                 replace hx432_2 := pc_ hx432_2
                 replace hx432_3 := pc_ hx432_3
                 replace p432 := eq_true p432
                 replace q432 := eq_true q432
                 obtain ⟨Ao75, co75, eo75⟩ := Kd.R_slice HO_8.out
                 (first | subst eo75 | (injection eo75 with f1_ f2_ f3_; have f4_ := f1_.symm; have f5_ := f3_.symm; clear f1_ f2_ f3_; subst f4_; subst f5_))
                 have p433 : 0 ≤ (x10_1 : Int) := od_
                 have q433 : x10_1 < (x8_2.length : Int) := od_
                 obtain ⟨ad433, e433, hx433_0⟩ := Kd.at_int (Kd.R_reads' HO_8.out).2.2 x10_1 p433 q433
                 cases e433
                 replace p433 := eq_true p433
                 replace q433 := eq_true q433
                 have p434 : 0 ≤ (x11_2 : Int) := od_
                 have q434 : x11_2 < (l1.length : Int) := od_
                 obtain ⟨ad434, e434, hx434_0⟩ := Kd.at_int HR1.out x11_2 p434 q434
                 have hw434_0 := hx434_0
                 cases e434
                 replace hx434_0 := pc_ hx434_0
                 replace p434 := eq_true p434
                 replace q434 := eq_true q434
                 refine start_ (n := 27) (S := fun w' => w'.cell? (ad432.add ((x11_2).toNat * 4)) = some (.int .i64 ((rd_T67 l0 x11_2).f0)) ∧ w'.cell? ⟨(ad432.add ((x11_2).toNat * 4)).block, (ad432.add ((x11_2).toNat * 4)).off + 1, none⟩ = some (.int .i64 ((rd_T67 l0 x11_2).f1)) ∧ w'.cell? ⟨(ad432.add ((x11_2).toNat * 4)).block, (ad432.add ((x11_2).toNat * 4)).off + 2, none⟩ = some (.int .i64 ((rd_T67 l0 x11_2).f2)) ∧ w'.cell? ⟨(ad432.add ((x11_2).toNat * 4)).block, (ad432.add ((x11_2).toNat * 4)).off + 3, none⟩ = some (.int .i64 ((rd_T67 l0 x11_2).f3)) ∧ w'.cell? (ad433.add (x10_1).toNat) = some (.int .i64 (rd x8_2 x10_1)) ∧ w'.cell? (ad434.add (x11_2).toNat) = some (.int .i64 (rd l1 x11_2))) (ds := []) #[false, false, false, false, false, false, false, false, false, false, false, false, false, false, false, false, false, false, false, false, false, false, false, false, false, false, false] (by kernel_rfl) rfl rfl ⟨(pw_cell_below HB.out hw432_0), (pw_cell_below HB.out hw432_1), (pw_cell_below HB.out hw432_2), (pw_cell_below HB.out hw432_3), hx433_0, (pw_cell_below HB.out hw434_0)⟩ (fun hHeld => ?_); refine with_tabW skiarearef06_search.tab12 skiarearef06_search.bits12 (fun HT_ HW_ => ?_)
                 generalize wc.drew = w74 at HO_8 HO_9 HB hx432_0 hx432_1 hx432_2 hx432_3 hx433_0 hx434_0 hHeld ⊢
                 refine pn_ 0 (some 72) ?_
                 refine pn_ 1 (some 73) ?_
                 refine pn_ 2 (some 74) ?_
                 refine pn_ 3 (some 75) ?_
                 refine pn_ 5 (some 77) ?_
                 refine pn_ 6 (some 78) ?_
                 refine pn_ 7 (some 79) ?_
                 refine tk_ 4 (some 76) ?_ (hy := by rintro w' ⟨s0, s1, s2, s3, s4, s5⟩; go_simp; with_reducible rfl)
                 refine tk_ 8 (some 80) ?_ (hy := by rintro w' ⟨s0, s1, s2, s3, s4, s5⟩; go_simp; with_reducible rfl)
                 refine pn_ 9 (some 81) ?_
                 refine pn_ 10 (some 82) ?_
                 refine pn_ 11 (some 83) ?_
                 refine pn_ 12 (some 84) ?_
                 refine pn_ 13 (some 85) ?_
                 refine tk_ 14 (some 86) ?_ (hy := by rintro w' ⟨s0, s1, s2, s3, s4, s5⟩; go_simp; with_reducible rfl)
                 refine pn_ 15 (some 87) ?_
                 refine pn_ 16 (some 88) ?_
                 refine pn_ 17 (some 89) ?_
                 refine pu_ 18 (some 90) ?_
                 refine pu_ 19 (some 91) ?_
                 refine pu_ 20 (some 92) ?_
                 refine pu_ 21 (some 93) ?_
                 refine pu_ 22 (some 94) ?_
                 refine pu_ 23 (some 95) ?_
                 refine pu_ 24 (some 96) ?_
                 refine pu_ 25 (some 97) ?_
                 refine pn_ 26 (some 98) ?_
                 refine done_ (done_of HT_.out (by kernel_rfl)) ?_
                 try go_wp2
                 go_roundg kj10
                 case measure => have := HK1.out; have := HK2.out; have := HJ10.out; omega
                 case rel => exact ⟨(x8_2), (x9_2), (wrap64 (x11_2 + 1)), (by first | rfl | (simp; done) | (simp [*]; done)), H', ⟨by have := HK1.out; have := HK2.out; have := HJ10.out; omega⟩, ⟨by (with_reducible repeat (first | apply Kd.R_alloc | apply Kd.R_drewN | apply Kd.R_drew)); exact HO_8.out⟩, ⟨by (with_reducible repeat (first | apply Kd.R_alloc | apply Kd.R_drewN | apply Kd.R_drew)); exact HO_9.out⟩, ⟨by repeat (first | (with_reducible first | exact HB.out | apply below_alloc | apply pw_below_drewN | apply below_drew1) | exact HB.out)⟩⟩
               ·rw [if_neg c62] at H
                exact absurd H (by simp)
              ·rw [if_neg c61] at H
               have c61b0 : (((rd_T67 l0 x11_2).f2) == (rd x8_2 x10_1)) = false := beq_eq_false_iff_ne.mpr c61
               have c61b1 : (((rd_T67 l0 x11_2).f2) != (rd x8_2 x10_1)) = true := bne_iff_ne.mpr c61
               have H' := a_ H
               clear H
               try go_wp2
               have n0_ := a_ (Kd.R_drew HO_8.out)
               have n1_ := a_ (Kd.R_drew HO_9.out)
               have n2_ := a_ (below_drew1 HB.out)
               clear HO_8
               clear HO_9
               clear HB
               have HO_8 := n0_
               have HO_9 := n1_
               have HB := n2_
               clear n0_ n1_ n2_
               have p432 : 0 ≤ (x11_2 : Int) := od_
               have q432 : x11_2 < (l0.length : Int) := od_
               obtain ⟨ad432, e432, hx432_0, hx432_1, hx432_2, hx432_3⟩ := at_T67 HR0.out x11_2 p432 q432
               have hw432_3 := hx432_3
               have hw432_2 := hx432_2
               have hw432_1 := hx432_1
               have hw432_0 := hx432_0
               cases e432
               replace hx432_0 := pc_ hx432_0
               replace hx432_1 := pc_ hx432_1
               replace hx432_2 := pc_ hx432_2
               replace hx432_3 := pc_ hx432_3
               replace p432 := eq_true p432
               replace q432 := eq_true q432
               obtain ⟨Ao77, co77, eo77⟩ := Kd.R_slice HO_8.out
               (first | subst eo77 | (injection eo77 with f1_ f2_ f3_; have f4_ := f1_.symm; have f5_ := f3_.symm; clear f1_ f2_ f3_; subst f4_; subst f5_))
               have p433 : 0 ≤ (x10_1 : Int) := od_
               have q433 : x10_1 < (x8_2.length : Int) := od_
               obtain ⟨ad433, e433, hx433_0⟩ := Kd.at_int (Kd.R_reads' HO_8.out).2.2 x10_1 p433 q433
               cases e433
               replace p433 := eq_true p433
               replace q433 := eq_true q433
               refine start_ (n := 27) (S := fun w' => w'.cell? (ad432.add ((x11_2).toNat * 4)) = some (.int .i64 ((rd_T67 l0 x11_2).f0)) ∧ w'.cell? ⟨(ad432.add ((x11_2).toNat * 4)).block, (ad432.add ((x11_2).toNat * 4)).off + 1, none⟩ = some (.int .i64 ((rd_T67 l0 x11_2).f1)) ∧ w'.cell? ⟨(ad432.add ((x11_2).toNat * 4)).block, (ad432.add ((x11_2).toNat * 4)).off + 2, none⟩ = some (.int .i64 ((rd_T67 l0 x11_2).f2)) ∧ w'.cell? ⟨(ad432.add ((x11_2).toNat * 4)).block, (ad432.add ((x11_2).toNat * 4)).off + 3, none⟩ = some (.int .i64 ((rd_T67 l0 x11_2).f3)) ∧ w'.cell? (ad433.add (x10_1).toNat) = some (.int .i64 (rd x8_2 x10_1))) (ds := []) #[false, false, false, false, false, false, false, false, false, false, false, false, false, false, false, false, false, false, false, false, false, false, false, false, false, false, false] (by kernel_rfl) rfl rfl ⟨(pw_cell_below HB.out hw432_0), (pw_cell_below HB.out hw432_1), (pw_cell_below HB.out hw432_2), (pw_cell_below HB.out hw432_3), hx433_0⟩ (fun hHeld => ?_); refine with_tabW skiarearef06_search.tab12 skiarearef06_search.bits12 (fun HT_ HW_ => ?_)
               generalize wc.drew = w76 at HO_8 HO_9 HB hx432_0 hx432_1 hx432_2 hx432_3 hx433_0 hHeld ⊢
               refine pn_ 0 (some 72) ?_
               refine pn_ 1 (some 73) ?_
               refine pn_ 2 (some 74) ?_
               refine pn_ 3 (some 75) ?_
               refine pn_ 5 (some 77) ?_
               refine pn_ 6 (some 78) ?_
               refine pn_ 7 (some 79) ?_
               refine tk_ 4 (some 76) ?_ (hy := by rintro w' ⟨s0, s1, s2, s3, s4⟩; go_simp; with_reducible rfl)
               refine tk_ 8 (some 80) ?_ (hy := by rintro w' ⟨s0, s1, s2, s3, s4⟩; go_simp; with_reducible rfl)
               refine pn_ 9 (some 81) ?_
               refine pn_ 10 (some 82) ?_
               refine pu_ 11 (some 83) ?_
               refine pu_ 12 (some 84) ?_
               refine pu_ 13 (some 85) ?_
               refine pu_ 14 (some 86) ?_
               refine pu_ 15 (some 87) ?_
               refine pn_ 16 (some 88) ?_
               refine pn_ 17 (some 89) ?_
               refine pu_ 18 (some 90) ?_
               refine pu_ 19 (some 91) ?_
               refine pu_ 20 (some 92) ?_
               refine pu_ 21 (some 93) ?_
               refine pu_ 22 (some 94) ?_
               refine pu_ 23 (some 95) ?_
               refine pu_ 24 (some 96) ?_
               refine pu_ 25 (some 97) ?_
               refine pn_ 26 (some 98) ?_
               refine done_ (done_of HT_.out (by kernel_rfl)) ?_
               try go_wp2
               go_roundg kj10
               case measure => have := HK1.out; have := HK2.out; have := HJ10.out; omega
               case rel => exact ⟨(x8_2), (x9_2), (wrap64 (x11_2 + 1)), (by first | rfl | (simp; done) | (simp [*]; done)), H', ⟨by have := HK1.out; have := HK2.out; have := HJ10.out; omega⟩, ⟨by (with_reducible repeat (first | apply Kd.R_alloc | apply Kd.R_drewN | apply Kd.R_drew)); exact HO_8.out⟩, ⟨by (with_reducible repeat (first | apply Kd.R_alloc | apply Kd.R_drewN | apply Kd.R_drew)); exact HO_9.out⟩, ⟨by repeat (first | (with_reducible first | exact HB.out | apply below_alloc | apply pw_below_drewN | apply below_drew1) | exact HB.out)⟩⟩
             ·rw [if_neg c60] at H
              exact absurd H (by simp)
            ·rw [if_neg c59] at H
             exact absurd H (by simp)
           ·rw [if_neg c58] at H
            exact absurd H (by simp)
          ·rw [if_neg c57] at H
           exact absurd H (by simp)
      ·rw [if_neg c10] at H
       have c10b0 : decide (x11_2 < (l0.length : Int)) = false := decide_eq_false c10
       clear c10
       have H' := a_ H
       clear H
       go_wp2
       go_roundg k2
       case measure => have := HK1.out; have := HK2.out; omega
       case rel => exact ⟨(x8_2), (x9_2), (wrap64 (x10_1 + 1)), (by first | rfl | (simp; done) | (simp [*]; done)), H', ⟨by have := HK1.out; have := HK2.out; omega⟩, ⟨by (with_reducible repeat (first | apply Kd.R_alloc | apply Kd.R_drewN | apply Kd.R_drew)); exact HO_8.out⟩, ⟨by (with_reducible repeat (first | apply Kd.R_alloc | apply Kd.R_drewN | apply Kd.R_drew)); exact HO_9.out⟩, ⟨by repeat (first | (with_reducible first | exact HB.out | apply below_alloc | apply pw_below_drewN | apply below_drew1) | exact HB.out)⟩⟩
   ·rw [if_neg c8] at H
    have c8b0 : decide (x10_1 < (x8_1.length : Int)) = false := decide_eq_false c8
    clear c8
    simp only [Option.some.injEq, Prod.mk.injEq] at H
    obtain ⟨rfl, rfl⟩ := H
    obtain ⟨Ao78, co78, eo78⟩ := Kd.R_slice HO_8.out
    subst eo78
    go_wp2
    go_ret2
    exact ⟨_, _, by first | rfl | (simp [errW_none, errW_some] <;> rfl) | (simp [*, errW_none, errW_some] <;> rfl), by (with_reducible repeat (first | apply Kd.R_alloc | apply Kd.R_drewN | apply Kd.R_drew)); exact HO_8.out, by (with_reducible repeat (first | apply Kd.R_alloc | apply Kd.R_drewN | apply Kd.R_drew)); exact HO_9.out, by repeat (first | (with_reducible first | exact HB.out | apply below_alloc | apply pw_below_drewN | apply below_drew1) | exact HB.out)⟩

end Go.Proofs.Ytgfiidgigenibaa.Q
