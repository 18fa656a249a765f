-- written by wip/drive.py (this session's program) over the kit's print words
import Derived.Test.YtgfiidgigenibaaQ0
import Derived.Test.YtgfiidgigenibaaQ57
import Derived.Test.YtgfiidgigenibaaQ58
namespace Go.Proofs.Ytgfiidgigenibaa.Q
open Go.RowKit Go.Proofs.YtgfiidgigenibaaW.PrintWords Go.Proofs.YtgfiidgigenibaaW.PrintLast Go.Proofs.YtgfiidgigenibaaW.PrintMore
attribute [local go_sem] max2_int min2_int max_two min_two max_three min_three max_four min_four   -- for this text's walks alone
set_option linter.unusedVariables false
set_option linter.unusedSimpArgs false

/-! ### skiarearef06_Find: function 55 -/
mutual
def skiarearef06_Find.l0 : Nat → List (S67) → Int → Int → List Int → Option (List Int)
 | 0, _, _, _, _ => none
 | k + 1, x0, x1, x2, x7 => (skiarearef06_search.f k x0 x7 x1).bind fun bt458 => ((skiarearef06_way.f k x0 bt458.1 bt458.2 x2).bind fun t464 => (if (t464.length : Int) = 0 then (some x7) else (skiarearef06_Find.l1 k x0 x1 x2 x7 t464 1000001 0)))
def skiarearef06_Find.l1 : Nat → List (S67) → Int → Int → List Int → List Int → Int → Int → Option (List Int)
 | 0, _, _, _, _, _, _, _ => none
 | k + 1, x0, x1, x2, x7, x10, x11, x12 => if x12 < (x10.length : Int) then (if 0 ≤ x12 then (if (rd x10 x12) > 0 then (if 0 ≤ (wrap64 ((rd x10 x12) - 1)) then (if (wrap64 ((rd x10 x12) - 1)) < (x0.length : Int) then (if (wrap64 ((rd x10 x12) - 1)) < (x7.length : Int) then (skiarearef06_Find.l1 k x0 x1 x2 x7 x10 (mn x11 (wrap64 (((rd_T67 x0 (wrap64 ((rd x10 x12) - 1))).f3) - (rd x7 (wrap64 ((rd x10 x12) - 1)))))) (wrap64 (x12 + 1))) else (none)) else (none)) else (none)) else (if 0 ≤ (wrap64 ((wrap64 (-(rd x10 x12))) - 1)) then (if (wrap64 ((wrap64 (-(rd x10 x12))) - 1)) < (x7.length : Int) then (skiarearef06_Find.l1 k x0 x1 x2 x7 x10 (mn x11 (rd x7 (wrap64 ((wrap64 (-(rd x10 x12))) - 1)))) (wrap64 (x12 + 1))) else (none)) else (none))) else (none)) else (skiarearef06_Find.l2 k x0 x1 x2 x7 x10 x11 0)
def skiarearef06_Find.l2 : Nat → List (S67) → Int → Int → List Int → List Int → Int → Int → Option (List Int)
 | 0, _, _, _, _, _, _, _ => none
 | k + 1, x0, x1, x2, x7, x10, x11, x13 => if x13 < (x10.length : Int) then (if 0 ≤ x13 then (if (rd x10 x13) > 0 then (if 0 ≤ (wrap64 ((rd x10 x13) - 1)) then (if (wrap64 ((rd x10 x13) - 1)) < (x7.length : Int) then (skiarearef06_Find.l2 k x0 x1 x2 (x7.set ((wrap64 ((rd x10 x13) - 1)) : Int).toNat (wrap64 ((rd x7 (wrap64 ((rd x10 x13) - 1))) + x11))) x10 x11 (wrap64 (x13 + 1))) else (none)) else (none)) else (if 0 ≤ (wrap64 ((wrap64 (-(rd x10 x13))) - 1)) then (if (wrap64 ((wrap64 (-(rd x10 x13))) - 1)) < (x7.length : Int) then (skiarearef06_Find.l2 k x0 x1 x2 (x7.set ((wrap64 ((wrap64 (-(rd x10 x13))) - 1)) : Int).toNat (wrap64 ((rd x7 (wrap64 ((wrap64 (-(rd x10 x13))) - 1))) - x11))) x10 x11 (wrap64 (x13 + 1))) else (none)) else (none))) else (none)) else (skiarearef06_Find.l0 k x0 x1 x2 x7)
end
def skiarearef06_Find.f (k : Nat) (l0 : List (S67)) (a1 : Int) (a2 : Int) : Option (List Int) := if 0 ≤ (l0.length : Int) then (if ((l0.length : Int) : Int).toNat ≤ 35184372088832 then ((some (List.replicate ((l0.length : Int) : Int).toNat 0 : List Int)).bind fun y455 => (if a1 = a2 then (some y455) else (skiarearef06_Find.l0 k l0 a1 a2 y455))) else (none)) else (none)
theorem skiarearef06_Find.mono_l : ∀ k, (∀ y0 y1 y2 y3, LeO (skiarearef06_Find.l0 k y0 y1 y2 y3) (skiarearef06_Find.l0 (k + 1) y0 y1 y2 y3)) ∧ (∀ y0 y1 y2 y3 y4 y5 y6, LeO (skiarearef06_Find.l1 k y0 y1 y2 y3 y4 y5 y6) (skiarearef06_Find.l1 (k + 1) y0 y1 y2 y3 y4 y5 y6)) ∧ (∀ y0 y1 y2 y3 y4 y5 y6, LeO (skiarearef06_Find.l2 k y0 y1 y2 y3 y4 y5 y6) (skiarearef06_Find.l2 (k + 1) y0 y1 y2 y3 y4 y5 y6))
 | 0 => ⟨fun _ _ _ _ r h => by simp [skiarearef06_Find.l0] at h, fun _ _ _ _ _ _ _ r h => by simp [skiarearef06_Find.l1] at h, fun _ _ _ _ _ _ _ r h => by simp [skiarearef06_Find.l2] at h⟩
 | k + 1 => by
  obtain ⟨ih0, ih1, ih2⟩ := skiarearef06_Find.mono_l k
  refine ⟨?_, ?_, ?_⟩
  ·intro y0 y1 y2 y3
   unfold skiarearef06_Find.l0
   repeat' first
   | (with_reducible exact ih0 _ _ _ _)
   | (with_reducible exact ih1 _ _ _ _ _ _ _)
   | (with_reducible exact ih2 _ _ _ _ _ _ _)
   | (with_reducible exact skiarearef06_search.mono _ _ _ _)
   | (with_reducible exact skiarearef06_way.mono _ _ _ _ _)
   | (with_reducible exact LeO.refl _)
   | (with_reducible exact LeO.none _)
   | (with_reducible refine LeO.ite ?_ ?_)
   | (with_reducible refine LeO.bind ?_ (fun _ => ?_))
   | exact ih0 _ _ _ _
   | exact ih1 _ _ _ _ _ _ _
   | exact ih2 _ _ _ _ _ _ _
   | exact skiarearef06_search.mono _ _ _ _
   | exact skiarearef06_way.mono _ _ _ _ _
   | exact LeO.none _
   | refine LeO.ite ?_ ?_
   | refine LeO.bind ?_ (fun _ => ?_)
  ·intro y0 y1 y2 y3 y4 y5 y6
   unfold skiarearef06_Find.l1
   repeat' first
   | (with_reducible exact ih0 _ _ _ _)
   | (with_reducible exact ih1 _ _ _ _ _ _ _)
   | (with_reducible exact ih2 _ _ _ _ _ _ _)
   | (with_reducible exact skiarearef06_search.mono _ _ _ _)
   | (with_reducible exact skiarearef06_way.mono _ _ _ _ _)
   | (with_reducible exact LeO.refl _)
   | (with_reducible exact LeO.none _)
   | (with_reducible refine LeO.ite ?_ ?_)
   | (with_reducible refine LeO.bind ?_ (fun _ => ?_))
   | exact ih0 _ _ _ _
   | exact ih1 _ _ _ _ _ _ _
   | exact ih2 _ _ _ _ _ _ _
   | exact skiarearef06_search.mono _ _ _ _
   | exact skiarearef06_way.mono _ _ _ _ _
   | exact LeO.none _
   | refine LeO.ite ?_ ?_
   | refine LeO.bind ?_ (fun _ => ?_)
  ·intro y0 y1 y2 y3 y4 y5 y6
   unfold skiarearef06_Find.l2
   repeat' first
   | (with_reducible exact ih0 _ _ _ _)
   | (with_reducible exact ih1 _ _ _ _ _ _ _)
   | (with_reducible exact ih2 _ _ _ _ _ _ _)
   | (with_reducible exact skiarearef06_search.mono _ _ _ _)
   | (with_reducible exact skiarearef06_way.mono _ _ _ _ _)
   | (with_reducible exact LeO.refl _)
   | (with_reducible exact LeO.none _)
   | (with_reducible refine LeO.ite ?_ ?_)
   | (with_reducible refine LeO.bind ?_ (fun _ => ?_))
   | exact ih0 _ _ _ _
   | exact ih1 _ _ _ _ _ _ _
   | exact ih2 _ _ _ _ _ _ _
   | exact skiarearef06_search.mono _ _ _ _
   | exact skiarearef06_way.mono _ _ _ _ _
   | exact LeO.none _
   | refine LeO.ite ?_ ?_
   | refine LeO.bind ?_ (fun _ => ?_)
theorem skiarearef06_Find.mono : ∀ a0 a1 a2 k, LeO (skiarearef06_Find.f k a0 a1 a2) (skiarearef06_Find.f (k + 1) a0 a1 a2) := by
 intro a0 a1 a2 k
 obtain ⟨ih0, ih1, ih2⟩ := skiarearef06_Find.mono_l k
 unfold skiarearef06_Find.f
 repeat' first
   | (with_reducible exact ih0 _ _ _ _)
   | (with_reducible exact ih1 _ _ _ _ _ _ _)
   | (with_reducible exact ih2 _ _ _ _ _ _ _)
   | (with_reducible exact skiarearef06_search.mono _ _ _ _)
   | (with_reducible exact skiarearef06_way.mono _ _ _ _ _)
   | (with_reducible exact LeO.refl _)
   | (with_reducible exact LeO.none _)
   | (with_reducible refine LeO.ite ?_ ?_)
   | (with_reducible refine LeO.bind ?_ (fun _ => ?_))
   | exact ih0 _ _ _ _
   | exact ih1 _ _ _ _ _ _ _
   | exact ih2 _ _ _ _ _ _ _
   | exact skiarearef06_search.mono _ _ _ _
   | exact skiarearef06_way.mono _ _ _ _ _
   | exact LeO.none _
   | refine LeO.ite ?_ ?_
   | refine LeO.bind ?_ (fun _ => ?_)
def skiarearef06_Find.T13 : Bool × List (List Nat × List Nat) := (true, [([], []), ([], []), ([], []), ([], []), ([2, 3], [2, 3]), ([4], [4]), ([5], [5]), ([1, 6], [1, 6]), ([7], [7]), ([8], [8]), ([], []), ([], []), ([], []), ([11, 12], [11, 12]), ([13], [13]), ([14], [14]), ([10, 15], [10, 15]), ([16], [16]), ([9, 17], [9, 17]), ([0, 18], [0, 18]), ([19, 0, 1, 2, 3, 4, 5, 6, 7, 8, 9, 10, 11, 12, 13, 14, 15, 16, 17, 18, 19], [0, 19])])
def skiarearef06_Find.B13 : List Nat := [0, 0, 0, 0, 12, 28, 60, 126, 254, 510, 0, 0, 0, 6144, 14336, 30720, 64512, 130048, 262142, 524287, 1048575]
theorem skiarearef06_Find.tab13 : rtab .any (opsOf Try.f55 13) = skiarearef06_Find.T13 := by kernel_rfl
theorem skiarearef06_Find.bits13 : waitsOk skiarearef06_Find.T13.2 skiarearef06_Find.B13 = true := by kernel_rfl
def skiarearef06_Find.T19 : Bool × List (List Nat × List Nat) := (true, [([], []), ([], []), ([], []), ([1, 2], [1, 2]), ([3], [3]), ([4], [4]), ([], []), ([], []), ([], []), ([7, 8], [7, 8]), ([9], [9]), ([10], [10]), ([6, 11], [6, 11]), ([12], [12]), ([], []), ([13, 14], [13, 14]), ([0, 5, 0, 1, 2, 3, 4, 5, 6, 7, 8, 9, 10, 11, 12, 13, 14, 15], [0, 5]), ([16, 15, 0, 1, 2, 3, 4, 5, 6, 7, 8, 9, 10, 11, 12, 13, 14, 15], [15, 16])])
def skiarearef06_Find.B19 : List Nat := [0, 0, 0, 6, 14, 30, 0, 0, 0, 384, 896, 1920, 4032, 8128, 0, 32704, 65535, 131071]
theorem skiarearef06_Find.tab19 : rtab .any (opsOf Try.f55 19) = skiarearef06_Find.T19 := by kernel_rfl
theorem skiarearef06_Find.bits19 : waitsOk skiarearef06_Find.T19.2 skiarearef06_Find.B19 = true := by kernel_rfl
def skiarearef06_Find.T20 : Bool × List (List Nat × List Nat) := (true, [([], []), ([], []), ([], []), ([1, 2], [1, 2]), ([3], [3]), ([4], [4]), ([5], [5]), ([], []), ([], []), ([], []), ([8, 9], [8, 9]), ([10], [10]), ([11], [11]), ([12], [12]), ([7, 13], [7, 13]), ([14], [14]), ([], []), ([15, 16], [15, 16]), ([0, 6, 0, 1, 2, 3, 4, 5, 6, 7, 8, 9, 10, 11, 12, 13, 14, 15, 16, 17], [0, 6]), ([18, 17, 0, 1, 2, 3, 4, 5, 6, 7, 8, 9, 10, 11, 12, 13, 14, 15, 16, 17], [17, 18])])
def skiarearef06_Find.B20 : List Nat := [0, 0, 0, 6, 14, 30, 62, 0, 0, 0, 768, 1792, 3840, 7936, 16256, 32640, 0, 130944, 262143, 524287]
theorem skiarearef06_Find.tab20 : rtab .any (opsOf Try.f55 20) = skiarearef06_Find.T20 := by kernel_rfl
theorem skiarearef06_Find.bits20 : waitsOk skiarearef06_Find.T20.2 skiarearef06_Find.B20 = true := by kernel_rfl
set_option maxHeartbeats 8000000 in
set_option maxRecDepth 100000 in
theorem skiarearef06_Find.calls (k : Nat) (A0 : Option Addr) (c0 : Nat) (l0 : List (S67)) (a1 : Int) (a2 : Int) (r : List Int) (w : World) (hr0 : Kd.C k67 w A0 l0.length l0) (hc0 : l0.length ≤ c0) (h : skiarearef06_Find.f k l0 a1 a2 = some r) :
  Calls Try.prog 55 #[.slice A0 l0.length c0, .int .i64 a1, .int .i64 a2] w fun e w' => ∃ v0_ : Value, e = .returned (v0_) ∧ Kd.R (Kd.int .i64) 3 w' w.heap.size (fun _ => True) v0_ r ∧ Below w.heap.size w w' := by
 have HR0 := a_ hr0
 have HC0 := a_ hc0
 clear hr0 hc0
 have HB := a_ (Below.refl w.heap.size w)
 have H : (if 0 ≤ (l0.length : Int) then (if ((l0.length : Int) : Int).toNat ≤ 35184372088832 then ((some (List.replicate ((l0.length : Int) : Int).toNat 0 : List Int)).bind fun y455 => (if a1 = a2 then (some y455) else (skiarearef06_Find.l0 k l0 a1 a2 y455))) else (none)) else (none)) = some r := h
 clear h
 by_cases c4 : 0 ≤ (l0.length : Int)
 ·rw [if_pos c4] at H
  have c4b0 := eq_true c4
  have c4b1 : decide (0 ≤ (l0.length : Int)) = true := decide_eq_true c4
  clear c4
  by_cases c5 : ((l0.length : Int) : Int).toNat ≤ 35184372088832
  ·rw [if_pos c5] at H
   have c5b0 := eq_true c5
   have c5b1 : decide (((l0.length : Int) : Int).toNat ≤ 35184372088832) = true := decide_eq_true c5
   clear c5
   obtain ⟨y455, hy455⟩ : ∃ y_ : List Int, y_ = (List.replicate ((l0.length : Int) : Int).toNat 0) := ⟨_, rfl⟩
   replace H : (if a1 = a2 then (some y455) else (skiarearef06_Find.l0 k l0 a1 a2 y455)) = some r := by first | (rw [hy455]; with_reducible exact H) | (have H2_ := (Option.bind_some _ _).symm.trans H; rw [hy455]; with_reducible exact H2_) | (have H2_ := (Option.bind_some _ _).symm.trans H; with_reducible exact H2_) | with_reducible exact H | (rw [hy455]; exact H) | exact H
   have Ny455 := a_ hy455
   clear hy455
   by_cases c6 : a1 = a2
   ·rw [if_pos c6] at H
    have c6b0 : (a1 == a2) = true := beq_iff_eq.mpr c6
    have c6b1 : (a1 != a2) = false := bne_eq_false_iff_eq.mpr c6
    clear c6
    obtain rfl := Option.some.inj H
    go_enter Try.func55, Try.ntmps55
    go_wp2_with (first | ((with_reducible refine gate_dst (N := 16) rfl ?_); refine Kd.R_make (Kd.int .i64) _ 3 rfl (N := 16) rfl 36 _ _ rfl (l0.length : Int) rfl rfl Try.underlying36 (.int .i64 0) 8 info3 rfl (by decide) (by omega) 0 (ok := fun _ => True) (okp := fun _ => True) rfl (fun _ hk => hk) trivial (od_) (Nat.le_trans (Nat.mul_le_mul_right _ (od_ : (l0.length : Int).toNat ≤ 35184372088832)) (by omega)) (Below.refl _ _) (Nat.le_refl _) ?_; intro v456 w7 ho8 hb hg_ hnew_; clear hg_ hnew_; (first | rw [← Ny455.out] at ho8 | (simp only [Int.reduceToNat] at ho8; rw [← Ny455.out] at ho8)); have n0_ := a_ (Kd.R_lower ho8 (below_size bel_)); have n1_ := a_ (below_step bel_ hb); clear HB; have HO457 := n0_; have HB := n1_; clear n0_ n1_; clear hb ho8))
    go_ret
    exact ⟨_, by first | rfl | (simp [errW_none, errW_some] <;> rfl) | (simp [*, errW_none, errW_some] <;> rfl), by (with_reducible repeat (first | apply Kd.R_alloc | apply Kd.R_drewN | apply Kd.R_drew)); exact HO457.out, by repeat (first | (with_reducible first | exact HB.out | apply below_alloc | apply pw_below_drewN | apply below_drew1) | exact HB.out)⟩
   ·rw [if_neg c6] at H
    have c6b0 : (a1 == a2) = false := beq_eq_false_iff_ne.mpr c6
    have c6b1 : (a1 != a2) = true := bne_iff_ne.mpr c6
    have H' := a_ H
    clear H
    go_enter Try.func55, Try.ntmps55
    go_wp2_with (first | ((with_reducible refine gate_dst (N := 16) rfl ?_); refine Kd.R_make (Kd.int .i64) _ 3 rfl (N := 16) rfl 36 _ _ rfl (l0.length : Int) rfl rfl Try.underlying36 (.int .i64 0) 8 info3 rfl (by decide) (by omega) 0 (ok := fun _ => True) (okp := fun _ => True) rfl (fun _ hk => hk) trivial (od_) (Nat.le_trans (Nat.mul_le_mul_right _ (od_ : (l0.length : Int).toNat ≤ 35184372088832)) (by omega)) (Below.refl _ _) (Nat.le_refl _) ?_; intro v456 w9 ho10 hb hg_ hnew_; clear hg_ hnew_; (first | rw [← Ny455.out] at ho10 | (simp only [Int.reduceToNat] at ho10; rw [← Ny455.out] at ho10)); have n0_ := a_ (Kd.R_lower ho10 (below_size bel_)); have n1_ := a_ (below_step bel_ hb); clear HB; have HO457 := n0_; have HB := n1_; clear n0_ n1_; clear hb ho10))
    go_loopg [] k (fun kq w' => ∃ (x7_1 : List Int), Aside0 (skiarearef06_Find.l0 kq l0 a1 a2 x7_1 = some r) ∧ Aside0 (kq ≤ k) ∧ Aside0 (Kd.R (Kd.int .i64) 3 w' w.heap.size (fun _ => True) v456 x7_1) ∧ Aside0 (Below w.heap.size w w'))
    case atStart => exact ⟨(y455), H', ⟨Nat.le_refl _⟩, ⟨by (with_reducible repeat (first | apply Kd.R_alloc | apply Kd.R_drewN | apply Kd.R_drew)); exact HO457.out⟩, ⟨by repeat (first | (with_reducible first | exact HB.out | apply below_alloc | apply pw_below_drewN | apply below_drew1) | exact HB.out)⟩⟩
    case round =>
     clear H'
     try clear p2
     try clear c4
     try clear c4b0
     try clear c4b1
     try clear c5
     try clear c5b0
     try clear c5b1
     try clear c6
     try clear c6b0
     try clear c6b1
     obtain ⟨x7_1, HA, HK1, HO_7, HB⟩ := hrel
     cases gk with
     | zero => exact absurd HA.out (by simp [skiarearef06_Find.l0])
     | succ k1 =>
      have H := HA.out
      clear HA
      simp only [skiarearef06_Find.l0] at H
      replace H := Option.bind_eq_some_iff.mp H
      obtain ⟨⟨t458, t459⟩, A110, H⟩ := H
      replace H : ((skiarearef06_way.f k1 l0 t458 t459 a2).bind fun t464 => (if (t464.length : Int) = 0 then (some x7_1) else (skiarearef06_Find.l1 k1 l0 a1 a2 x7_1 t464 1000001 0))) = some r := H
      have A11 := a_ A110
      clear A110
      replace H := Option.bind_eq_some_iff.mp H
      obtain ⟨t464, A120, H⟩ := H
      replace H : (if (t464.length : Int) = 0 then (some x7_1) else (skiarearef06_Find.l1 k1 l0 a1 a2 x7_1 t464 1000001 0)) = some r := H
      have A12 := a_ A120
      clear A120
      by_cases c13 : (t464.length : Int) = 0
      ·rw [if_pos c13] at H
       have c13b0 : ((t464.length : Int) == 0) = true := beq_iff_eq.mpr c13
       have c13b1 : ((t464.length : Int) != 0) = false := bne_eq_false_iff_eq.mpr c13
       clear c13
       obtain rfl := Option.some.inj H
       obtain ⟨Ao14, co14, eo14⟩ := Kd.R_slice HO_7.out
       subst eo14
       go_wp2_with (first | ((with_reducible refine gate_callee (f := 65) rfl ?_); refine gs_ (some 25) Try.func65 #[.slice A0 l0.length c0, .slice Ao14 x7_1.length co14, .int .i64 a1] ?_; (with_reducible refine (skiarearef06_search.calls k1 _ _ l0 _ _ x7_1 a1 t458 t459 _ ?side1 ?side2 ?side3 ?side4 A11.out).mono ?_); (case side1 => exact kC_ (Kd.C_below HR0.out HB.out)); (case side2 => exact HC0.out); (case side3 => repeat (first | exact (Kd.R_reads' HO_7.out).2.2 | (with_reducible refine Kd.C_alloc ?_ _) | (with_reducible refine Kd.C_drewN ?_ _) | (with_reducible refine Kd.C_drew ?_))); (case side4 => exact (Kd.R_reads' HO_7.out).2.1); rintro e w15 ⟨v460, v462, rfl, ho0, ho1, hb⟩; refine ⟨_, rfl, ?_⟩; have n0_ := a_ (Kd.R_mono (Kd.R_told (Kd.R_told (Kd.R_old (kR_ HO_7.out) hb) (Kd.R_base ho0)) (Kd.R_base ho1)) (fun _ h_ => h_.1)); have n1_ := a_ (Kd.R_lower (Kd.R_new' ho0 (Kd.R_lt (kR_ HO_7.out))) (below_size bel_)); have n2_ := a_ (Kd.R_lower (Kd.R_new' ho1 (Kd.R_lt (kR_ HO_7.out))) (below_size bel_)); have n3_ := a_ (below_step bel_ hb); clear HO_7; clear HB; have HO_7 := n0_; have HO461 := n1_; have HO463 := n2_; have HB := n3_; clear n0_ n1_ n2_ n3_; (try clear hb); (try clear hb2); (try clear hk); (try clear hi); (try clear ho0); (try clear ho1); obtain ⟨Ao16, co16, eo16⟩ := Kd.R_slice HO461.out; subst eo16; obtain ⟨Ao17, co17, eo17⟩ := Kd.R_slice HO463.out; subst eo17) | ((with_reducible refine gate_callee (f := 66) rfl ?_); refine gs_ (some 32) Try.func66 #[.slice A0 l0.length c0, .slice Ao16 t458.length co16, .slice Ao17 t459.length co17, .int .i64 a2] ?_; (with_reducible refine (skiarearef06_way.calls k1 _ _ l0 _ _ t458 _ _ t459 a2 t464 _ ?side1 ?side2 ?side3 ?side4 ?side5 ?side6 A12.out).mono ?_); (case side1 => exact kC_ (Kd.C_below HR0.out HB.out)); (case side2 => exact HC0.out); (case side3 => repeat (first | exact (Kd.R_reads' HO461.out).2.2 | (with_reducible refine Kd.C_alloc ?_ _) | (with_reducible refine Kd.C_drewN ?_ _) | (with_reducible refine Kd.C_drew ?_))); (case side4 => exact (Kd.R_reads' HO461.out).2.1); (case side5 => repeat (first | exact (Kd.R_reads' HO463.out).2.2 | (with_reducible refine Kd.C_alloc ?_ _) | (with_reducible refine Kd.C_drewN ?_ _) | (with_reducible refine Kd.C_drew ?_))); (case side6 => exact (Kd.R_reads' HO463.out).2.1); rintro e w18 ⟨v465, rfl, ho0, hb⟩; refine ⟨_, rfl, ?_⟩; have n0_ := a_ (Kd.R_elder' (kR_ HO_7.out) (Kd.R_base ho0) hb); have n1_ := a_ (Kd.R_elder' (kR_ HO461.out) (Kd.R_base ho0) hb); have n2_ := a_ (Kd.R_elder' (kR_ HO463.out) (Kd.R_base ho0) hb); have n3_ := a_ (Kd.R_lower (Kd.R_new' (Kd.R_new' (Kd.R_new' ho0 (Kd.R_lt (kR_ HO_7.out))) (Kd.R_lt (kR_ HO461.out))) (Kd.R_lt (kR_ HO463.out))) (below_size bel_)); have n4_ := a_ (below_step bel_ hb); clear HO_7; clear HO461; clear HO463; clear HB; have HO_7 := n0_; have HO461 := n1_; have HO463 := n2_; have HO466 := n3_; have HB := n4_; clear n0_ n1_ n2_ n3_ n4_; (try clear hb); (try clear hb2); (try clear hk); (try clear hi); (try clear ho0); obtain ⟨Ao19, co19, eo19⟩ := Kd.R_slice HO466.out; subst eo19))
       go_ret
       exact ⟨_, by first | rfl | (simp [errW_none, errW_some] <;> rfl) | (simp [*, errW_none, errW_some] <;> rfl), by (with_reducible repeat (first | apply Kd.R_alloc | apply Kd.R_drewN | apply Kd.R_drew)); exact Kd.R_mono HO_7.out (fun _ hk => trivial), by repeat (first | (with_reducible first | exact HB.out | apply below_alloc | apply pw_below_drewN | apply below_drew1) | exact HB.out)⟩
      ·rw [if_neg c13] at H
       have c13b0 : ((t464.length : Int) == 0) = false := beq_eq_false_iff_ne.mpr c13
       have c13b1 : ((t464.length : Int) != 0) = true := bne_iff_ne.mpr c13
       have c13b2 : ¬ (t464 = []) := fun h_ => c13 (by rw [h_]; rfl)
       have H' := a_ H
       clear H
       obtain ⟨Ao20, co20, eo20⟩ := Kd.R_slice HO_7.out
       subst eo20
       go_wp2_with (first | ((with_reducible refine gate_callee (f := 65) rfl ?_); refine gs_ (some 25) Try.func65 #[.slice A0 l0.length c0, .slice Ao20 x7_1.length co20, .int .i64 a1] ?_; (with_reducible refine (skiarearef06_search.calls k1 _ _ l0 _ _ x7_1 a1 t458 t459 _ ?side1 ?side2 ?side3 ?side4 A11.out).mono ?_); (case side1 => exact kC_ (Kd.C_below HR0.out HB.out)); (case side2 => exact HC0.out); (case side3 => repeat (first | exact (Kd.R_reads' HO_7.out).2.2 | (with_reducible refine Kd.C_alloc ?_ _) | (with_reducible refine Kd.C_drewN ?_ _) | (with_reducible refine Kd.C_drew ?_))); (case side4 => exact (Kd.R_reads' HO_7.out).2.1); rintro e w21 ⟨v460, v462, rfl, ho0, ho1, hb⟩; refine ⟨_, rfl, ?_⟩; have n0_ := a_ (Kd.R_mono (Kd.R_told (Kd.R_told (Kd.R_old (kR_ HO_7.out) hb) (Kd.R_base ho0)) (Kd.R_base ho1)) (fun _ h_ => h_.1)); have n1_ := a_ (Kd.R_lower (Kd.R_new' ho0 (Kd.R_lt (kR_ HO_7.out))) (below_size bel_)); have n2_ := a_ (Kd.R_lower (Kd.R_new' ho1 (Kd.R_lt (kR_ HO_7.out))) (below_size bel_)); have n3_ := a_ (below_step bel_ hb); clear HO_7; clear HB; have HO_7 := n0_; have HO461 := n1_; have HO463 := n2_; have HB := n3_; clear n0_ n1_ n2_ n3_; (try clear hb); (try clear hb2); (try clear hk); (try clear hi); (try clear ho0); (try clear ho1); obtain ⟨Ao22, co22, eo22⟩ := Kd.R_slice HO461.out; subst eo22; obtain ⟨Ao23, co23, eo23⟩ := Kd.R_slice HO463.out; subst eo23) | ((with_reducible refine gate_callee (f := 66) rfl ?_); refine gs_ (some 32) Try.func66 #[.slice A0 l0.length c0, .slice Ao22 t458.length co22, .slice Ao23 t459.length co23, .int .i64 a2] ?_; (with_reducible refine (skiarearef06_way.calls k1 _ _ l0 _ _ t458 _ _ t459 a2 t464 _ ?side1 ?side2 ?side3 ?side4 ?side5 ?side6 A12.out).mono ?_); (case side1 => exact kC_ (Kd.C_below HR0.out HB.out)); (case side2 => exact HC0.out); (case side3 => repeat (first | exact (Kd.R_reads' HO461.out).2.2 | (with_reducible refine Kd.C_alloc ?_ _) | (with_reducible refine Kd.C_drewN ?_ _) | (with_reducible refine Kd.C_drew ?_))); (case side4 => exact (Kd.R_reads' HO461.out).2.1); (case side5 => repeat (first | exact (Kd.R_reads' HO463.out).2.2 | (with_reducible refine Kd.C_alloc ?_ _) | (with_reducible refine Kd.C_drewN ?_ _) | (with_reducible refine Kd.C_drew ?_))); (case side6 => exact (Kd.R_reads' HO463.out).2.1); rintro e w24 ⟨v465, rfl, ho0, hb⟩; refine ⟨_, rfl, ?_⟩; have n0_ := a_ (Kd.R_elder' (kR_ HO_7.out) (Kd.R_base ho0) hb); have n1_ := a_ (Kd.R_elder' (kR_ HO461.out) (Kd.R_base ho0) hb); have n2_ := a_ (Kd.R_elder' (kR_ HO463.out) (Kd.R_base ho0) hb); have n3_ := a_ (Kd.R_lower (Kd.R_new' (Kd.R_new' (Kd.R_new' ho0 (Kd.R_lt (kR_ HO_7.out))) (Kd.R_lt (kR_ HO461.out))) (Kd.R_lt (kR_ HO463.out))) (below_size bel_)); have n4_ := a_ (below_step bel_ hb); clear HO_7; clear HO461; clear HO463; clear HB; have HO_7 := n0_; have HO461 := n1_; have HO463 := n2_; have HO466 := n3_; have HB := n4_; clear n0_ n1_ n2_ n3_ n4_; (try clear hb); (try clear hb2); (try clear hk); (try clear hi); (try clear ho0); obtain ⟨Ao25, co25, eo25⟩ := Kd.R_slice HO466.out; subst eo25))
       go_loopg [11, 12] k1 (fun kq v11 v12 w' => ∃ (x11_2 : Int) (x12_2 : Int), v11 = .int .i64 x11_2 ∧ v12 = .int .i64 x12_2 ∧ Aside0 (skiarearef06_Find.l1 kq l0 a1 a2 x7_1 t464 x11_2 x12_2 = some r) ∧ Aside0 (kq ≤ k1) ∧ Aside0 (Kd.R (Kd.int .i64) 3 w' w.heap.size (fun k_ => some k_ ≠ ((.slice Ao25 t464.length co25) : Value).ownBlock) (.slice Ao20 x7_1.length co20) x7_1) ∧ Aside0 (Kd.R (Kd.int .i64) 3 w' w.heap.size (fun k_ => some k_ ≠ ((.slice Ao20 x7_1.length co20) : Value).ownBlock) (.slice Ao25 t464.length co25) t464) ∧ Aside0 (Below w.heap.size w w'))
       case atStart => exact ⟨(1000001), (0), (by first | rfl | (simp; done) | (simp [*]; done)), (by first | rfl | (simp; done) | (simp [*]; done)), H', ⟨Nat.le_refl _⟩, ⟨by (with_reducible repeat (first | apply Kd.R_alloc | apply Kd.R_drewN | apply Kd.R_drew)); exact Kd.R_mono HO_7.out (fun _ hk => hk.2)⟩, ⟨by (with_reducible repeat (first | apply Kd.R_alloc | apply Kd.R_drewN | apply Kd.R_drew)); exact Kd.R_mono HO466.out (fun _ hk => hk.1.1.2)⟩, ⟨by repeat (first | (with_reducible first | exact HB.out | apply below_alloc | apply pw_below_drewN | apply below_drew1) | exact HB.out)⟩⟩
       case round =>
        clear H'
        try clear c1
        try clear p2
        try clear c4
        try clear c4b0
        try clear c4b1
        try clear c5
        try clear c5b0
        try clear c5b1
        try clear c6
        try clear c6b0
        try clear c6b1
        try clear c13
        try clear c13b0
        try clear c13b1
        try clear c13b2
        try clear p2
        obtain ⟨x11_2, x12_2, rfl, rfl, HA, HK2, HO_7, HO_10, HB⟩ := hrel
        cases gk with
        | zero => exact absurd HA.out (by simp [skiarearef06_Find.l1])
        | succ k2 =>
         have H := HA.out
         clear HA
         simp only [skiarearef06_Find.l1] at H
         by_cases c26 : x12_2 < (t464.length : Int)
         ·rw [if_pos c26] at H
          have c26b0 : decide (x12_2 < (t464.length : Int)) = true := decide_eq_true c26
          clear c26
          by_cases c27 : 0 ≤ x12_2
          ·rw [if_pos c27] at H
           have c27b0 : decide (0 ≤ x12_2) = true := decide_eq_true c27
           clear c27
           by_cases c28 : (rd t464 x12_2) > 0
           ·rw [if_pos c28] at H
            have c28b0 : decide (0 < (rd t464 x12_2)) = true := decide_eq_true c28
            clear c28
            obtain ⟨ji29, hji29⟩ : ∃ j_ : Int, (wrap64 ((rd t464 x12_2) - 1)) = j_ := ⟨_, rfl⟩
            replace H : (if 0 ≤ (ji29) then (if (ji29) < (l0.length : Int) then (if (ji29) < (x7_1.length : Int) then (skiarearef06_Find.l1 k2 l0 a1 a2 x7_1 t464 (mn x11_2 (wrap64 (((rd_T67 l0 (ji29)).f3) - (rd x7_1 (ji29))))) (wrap64 (x12_2 + 1))) else (none)) else (none)) else (none)) = some r := by first | (rw [hji29] at H; exact H) | (simp only [hji29] at H ⊢; exact H)
            have hji29w : (IntKind.i64.wrap ((rd t464 x12_2) - 1)) = ji29 := (i64_w _).trans hji29
            by_cases c30 : 0 ≤ (ji29)
            ·rw [if_pos c30] at H
             have c30b0 : decide (0 ≤ (ji29)) = true := decide_eq_true c30
             clear c30
             by_cases c31 : (ji29) < (l0.length : Int)
             ·rw [if_pos c31] at H
              have c31b0 : decide ((ji29) < (l0.length : Int)) = true := decide_eq_true c31
              clear c31
              by_cases c32 : (ji29) < (x7_1.length : Int)
              ·rw [if_pos c32] at H
               have c32b0 : decide ((ji29) < (x7_1.length : Int)) = true := decide_eq_true c32
               clear c32
               obtain ⟨ji33, hji33⟩ : ∃ j_ : Int, (mn x11_2 (wrap64 (((rd_T67 l0 (ji29)).f3) - (rd x7_1 (ji29))))) = j_ := ⟨_, rfl⟩
               replace H : (skiarearef06_Find.l1 k2 l0 a1 a2 x7_1 t464 ji33 (wrap64 (x12_2 + 1))) = some r := by first | (rw [hji33] at H; exact H) | (simp only [hji33] at H ⊢; exact H)
               have hji33_ : (if (wrap64 (((rd_T67 l0 (ji29)).f3) - (rd x7_1 (ji29)))) < x11_2 then (wrap64 (((rd_T67 l0 (ji29)).f3) - (rd x7_1 (ji29)))) else x11_2) = ji33 := hji33
               have H' := a_ H
               clear H
               have p467 : 0 ≤ (x12_2 : Int) := od_
               have q467 : x12_2 < (t464.length : Int) := od_
               obtain ⟨ad467, e467, hx467_0⟩ := Kd.at_int (Kd.R_reads' HO_10.out).2.2 x12_2 p467 q467
               cases e467
               replace p467 := eq_true p467
               replace q467 := eq_true q467
               try go_wp2
               have n0_ := a_ (Kd.R_drew HO_7.out)
               have n1_ := a_ (Kd.R_drew HO_10.out)
               have n2_ := a_ (below_drew1 HB.out)
               clear HO_7
               clear HO_10
               clear HB
               have HO_7 := n0_
               have HO_10 := n1_
               have HB := n2_
               clear n0_ n1_ n2_
               have p468 : 0 ≤ (x12_2 : Int) := od_
               have q468 : x12_2 < (t464.length : Int) := od_
               obtain ⟨ad468, e468, hx468_0⟩ := Kd.at_int (Kd.R_reads' HO_10.out).2.2 x12_2 p468 q468
               obtain rfl : ad467 = ad468 := (by injection e468)
               replace p468 := eq_true p468
               replace q468 := eq_true q468
               have p469 : 0 ≤ ((ji29) : Int) := od_
               have q469 : (ji29) < (l0.length : Int) := od_
               obtain ⟨ad469, e469, hx469_0, hx469_1, hx469_2, hx469_3⟩ := at_T67 HR0.out (ji29) p469 q469
               have hw469_3 := hx469_3
               have hw469_2 := hx469_2
               have hw469_1 := hx469_1
               have hw469_0 := hx469_0
               cases e469
               replace hx469_0 := pc_ hx469_0
               replace hx469_1 := pc_ hx469_1
               replace hx469_2 := pc_ hx469_2
               replace hx469_3 := pc_ hx469_3
               replace p469 := eq_true p469
               replace q469 := eq_true q469
               have p470 : 0 ≤ (x12_2 : Int) := od_
               have q470 : x12_2 < (t464.length : Int) := od_
               obtain ⟨ad470, e470, hx470_0⟩ := Kd.at_int (Kd.R_reads' HO_10.out).2.2 x12_2 p470 q470
               obtain rfl : ad467 = ad470 := (by injection e470)
               replace p470 := eq_true p470
               replace q470 := eq_true q470
               have p471 : 0 ≤ ((ji29) : Int) := od_
               have q471 : (ji29) < (x7_1.length : Int) := od_
               obtain ⟨ad471, e471, hx471_0⟩ := Kd.at_int (Kd.R_reads' HO_7.out).2.2 (ji29) p471 q471
               cases e471
               replace p471 := eq_true p471
               replace q471 := eq_true q471
               refine start_ (n := 21) (S := fun w' => w'.cell? (ad467.add (x12_2).toNat) = some (.int .i64 (rd t464 x12_2)) ∧ w'.cell? (ad469.add (((ji29)).toNat * 4)) = some (.int .i64 ((rd_T67 l0 (ji29)).f0)) ∧ w'.cell? ⟨(ad469.add (((ji29)).toNat * 4)).block, (ad469.add (((ji29)).toNat * 4)).off + 1, none⟩ = some (.int .i64 ((rd_T67 l0 (ji29)).f1)) ∧ w'.cell? ⟨(ad469.add (((ji29)).toNat * 4)).block, (ad469.add (((ji29)).toNat * 4)).off + 2, none⟩ = some (.int .i64 ((rd_T67 l0 (ji29)).f2)) ∧ w'.cell? ⟨(ad469.add (((ji29)).toNat * 4)).block, (ad469.add (((ji29)).toNat * 4)).off + 3, none⟩ = some (.int .i64 ((rd_T67 l0 (ji29)).f3)) ∧ w'.cell? (ad467.add (x12_2).toNat) = some (.int .i64 (rd t464 x12_2)) ∧ w'.cell? (ad471.add ((ji29)).toNat) = some (.int .i64 (rd x7_1 (ji29)))) (ds := []) #[false, false, false, false, false, false, false, false, false, false, false, false, false, false, false, false, false, false, false, false, false] (by kernel_rfl) rfl rfl ⟨hx468_0, (pw_cell_below HB.out hw469_0), (pw_cell_below HB.out hw469_1), (pw_cell_below HB.out hw469_2), (pw_cell_below HB.out hw469_3), hx470_0, hx471_0⟩ (fun hHeld => ?_); refine with_tabW skiarearef06_Find.tab13 skiarearef06_Find.bits13 (fun HT_ HW_ => ?_)
               generalize wr.drew = w34 at HO_7 HO_10 HB hx468_0 hx469_0 hx469_1 hx469_2 hx469_3 hx470_0 hx471_0 hHeld ⊢
               refine pn_ 0 (some 48) ?_
               refine pn_ 1 (some 49) ?_
               refine pn_ 2 (some 50) ?_
               refine pn_ 3 (some 51) ?_
               refine pn_ 4 (some 52) ?_
               refine pn_ 10 (some 58) ?_
               refine pn_ 11 (some 59) ?_
               refine pn_ 12 (some 60) ?_
               refine pn_ 13 (some 61) ?_
               refine tk_ 5 (some 53) ?_ (hy := by rintro w' ⟨s0, s1, s2, s3, s4, s5, s6⟩; go_simp; with_reducible rfl)
               refine pn_ 6 (some 54) ?_
               refine pn_ 7 (some 55) ?_
               refine pn_ 8 (some 56) ?_
               refine tk_ 9 (some 57) ?_ (hy := by rintro w' ⟨s0, s1, s2, s3, s4, s5, s6⟩; go_simp; with_reducible rfl)
               refine tk_ 14 (some 62) ?_ (hy := by rintro w' ⟨s0, s1, s2, s3, s4, s5, s6⟩; go_simp; with_reducible rfl)
               refine pn_ 15 (some 63) ?_
               refine pn_ 16 (some 64) ?_
               refine tk_ 17 (some 65) ?_ (hy := by rintro w' ⟨s0, s1, s2, s3, s4, s5, s6⟩; go_simp; with_reducible rfl)
               refine pn_ 18 (some 66) ?_
               refine pn_ 19 (some 67) ?_
               refine pn_ 20 (some 11) ?_
               refine done_ (done_of HT_.out (by kernel_rfl)) ?_
               try go_wp2
               go_roundg k2
               case measure => have := HK1.out; have := HK2.out; omega
               case rel => exact ⟨(ji33), (wrap64 (x12_2 + 1)), (by first | rfl | (simp; done) | (simp only [← hji33] <;> (first | rfl | simp)) | (simp [*]; done)), (by first | rfl | (simp; done) | (simp [*]; done)), H', ⟨by have := HK1.out; have := HK2.out; omega⟩, ⟨by (with_reducible repeat (first | apply Kd.R_alloc | apply Kd.R_drewN | apply Kd.R_drew)); exact HO_7.out⟩, ⟨by (with_reducible repeat (first | apply Kd.R_alloc | apply Kd.R_drewN | apply Kd.R_drew)); exact HO_10.out⟩, ⟨by repeat (first | (with_reducible first | exact HB.out | apply below_alloc | apply pw_below_drewN | apply below_drew1) | exact HB.out)⟩⟩
              ·rw [if_neg c32] at H
               exact absurd H (by simp)
             ·rw [if_neg c31] at H
              exact absurd H (by simp)
            ·rw [if_neg c30] at H
             exact absurd H (by simp)
           ·rw [if_neg c28] at H
            have c28b0 : decide (0 < (rd t464 x12_2)) = false := decide_eq_false c28
            clear c28
            obtain ⟨ji35, hji35⟩ : ∃ j_ : Int, (wrap64 ((wrap64 (-(rd t464 x12_2))) - 1)) = j_ := ⟨_, rfl⟩
            replace H : (if 0 ≤ (ji35) then (if (ji35) < (x7_1.length : Int) then (skiarearef06_Find.l1 k2 l0 a1 a2 x7_1 t464 (mn x11_2 (rd x7_1 (ji35))) (wrap64 (x12_2 + 1))) else (none)) else (none)) = some r := by first | (rw [hji35] at H; exact H) | (simp only [hji35] at H ⊢; exact H)
            have hji35w : (IntKind.i64.wrap ((wrap64 (-(rd t464 x12_2))) - 1)) = ji35 := (i64_w _).trans hji35
            by_cases c36 : 0 ≤ (ji35)
            ·rw [if_pos c36] at H
             have c36b0 : decide (0 ≤ (ji35)) = true := decide_eq_true c36
             clear c36
             by_cases c37 : (ji35) < (x7_1.length : Int)
             ·rw [if_pos c37] at H
              have c37b0 : decide ((ji35) < (x7_1.length : Int)) = true := decide_eq_true c37
              clear c37
              obtain ⟨ji38, hji38⟩ : ∃ j_ : Int, (mn x11_2 (rd x7_1 (ji35))) = j_ := ⟨_, rfl⟩
              replace H : (skiarearef06_Find.l1 k2 l0 a1 a2 x7_1 t464 ji38 (wrap64 (x12_2 + 1))) = some r := by first | (rw [hji38] at H; exact H) | (simp only [hji38] at H ⊢; exact H)
              have hji38_ : (if (rd x7_1 (ji35)) < x11_2 then (rd x7_1 (ji35)) else x11_2) = ji38 := hji38
              have H' := a_ H
              clear H
              have p467 : 0 ≤ (x12_2 : Int) := od_
              have q467 : x12_2 < (t464.length : Int) := od_
              obtain ⟨ad467, e467, hx467_0⟩ := Kd.at_int (Kd.R_reads' HO_10.out).2.2 x12_2 p467 q467
              cases e467
              replace p467 := eq_true p467
              replace q467 := eq_true q467
              have p472 : 0 ≤ (x12_2 : Int) := od_
              have q472 : x12_2 < (t464.length : Int) := od_
              obtain ⟨ad472, e472, hx472_0⟩ := Kd.at_int (Kd.R_reads' HO_10.out).2.2 x12_2 p472 q472
              obtain rfl : ad467 = ad472 := (by injection e472)
              replace p472 := eq_true p472
              replace q472 := eq_true q472
              have p473 : 0 ≤ ((ji35) : Int) := od_
              have q473 : (ji35) < (x7_1.length : Int) := od_
              obtain ⟨ad473, e473, hx473_0⟩ := Kd.at_int (Kd.R_reads' HO_7.out).2.2 (ji35) p473 q473
              cases e473
              replace p473 := eq_true p473
              replace q473 := eq_true q473
              go_wp2
              go_roundg k2
              case measure => have := HK1.out; have := HK2.out; omega
              case rel => exact ⟨(ji38), (wrap64 (x12_2 + 1)), (by first | rfl | (simp; done) | (simp only [← hji38] <;> (first | rfl | simp)) | (simp [*]; done)), (by first | rfl | (simp; done) | (simp [*]; done)), H', ⟨by have := HK1.out; have := HK2.out; omega⟩, ⟨by (with_reducible repeat (first | apply Kd.R_alloc | apply Kd.R_drewN | apply Kd.R_drew)); exact HO_7.out⟩, ⟨by (with_reducible repeat (first | apply Kd.R_alloc | apply Kd.R_drewN | apply Kd.R_drew)); exact HO_10.out⟩, ⟨by repeat (first | (with_reducible first | exact HB.out | apply below_alloc | apply pw_below_drewN | apply below_drew1) | exact HB.out)⟩⟩
             ·rw [if_neg c37] at H
              exact absurd H (by simp)
            ·rw [if_neg c36] at H
             exact absurd H (by simp)
          ·rw [if_neg c27] at H
           exact absurd H (by simp)
         ·rw [if_neg c26] at H
          have c26b0 : decide (x12_2 < (t464.length : Int)) = false := decide_eq_false c26
          clear c26
          have H' := a_ H
          clear H
          go_wp2
          go_loopg [13] k2 (fun kq v13 w' => ∃ (x7_3 : List Int) (x13_3 : Int), v13 = .int .i64 x13_3 ∧ Aside0 (skiarearef06_Find.l2 kq l0 a1 a2 x7_3 t464 x11_2 x13_3 = some r) ∧ Aside0 (kq ≤ k2) ∧ Aside0 (Kd.R (Kd.int .i64) 3 w' w.heap.size (fun k_ => some k_ ≠ ((.slice Ao25 t464.length co25) : Value).ownBlock) (.slice Ao20 x7_1.length co20) x7_3) ∧ Aside0 (Kd.R (Kd.int .i64) 3 w' w.heap.size (fun k_ => some k_ ≠ ((.slice Ao20 x7_1.length co20) : Value).ownBlock) (.slice Ao25 t464.length co25) t464) ∧ Aside0 (Below w.heap.size w w'))
          case atStart => exact ⟨(x7_1), (0), (by first | rfl | (simp; done) | (simp [*]; done)), H', ⟨Nat.le_refl _⟩, ⟨by (with_reducible repeat (first | apply Kd.R_alloc | apply Kd.R_drewN | apply Kd.R_drew)); exact HO_7.out⟩, ⟨by (with_reducible repeat (first | apply Kd.R_alloc | apply Kd.R_drewN | apply Kd.R_drew)); exact HO_10.out⟩, ⟨by repeat (first | (with_reducible first | exact HB.out | apply below_alloc | apply pw_below_drewN | apply below_drew1) | exact HB.out)⟩⟩
          case round =>
           clear H'
           try clear c1
           try clear c2
           try clear p2
           try clear c3
           try clear c4
           try clear c4b0
           try clear c4b1
           try clear p4
           try clear q4
           try clear hx4
           try clear c5
           try clear c5b0
           try clear c5b1
           try clear c6
           try clear c6b0
           try clear c6b1
           try clear p6
           try clear c13
           try clear c13b0
           try clear c13b1
           try clear c13b2
           try clear c26
           try clear c26b0
           try clear c27
           try clear c27b0
           try clear c28
           try clear c28b0
           try clear c30
           try clear c30b0
           try clear c31
           try clear c31b0
           try clear c32
           try clear c32b0
           try clear c36
           try clear c36b0
           try clear c37
           try clear c37b0
           try clear hx467_0
           try clear hx468_0
           try clear hx469_0
           try clear hx469_1
           try clear hx469_2
           try clear hx469_3
           try clear hx470_0
           try clear hx471_0
           try clear hx472_0
           try clear hx473_0
           try clear p2
           try clear p467
           try clear p468
           try clear p469
           try clear p470
           try clear p471
           try clear p472
           try clear p473
           try clear q467
           try clear q468
           try clear q469
           try clear q470
           try clear q471
           try clear q472
           try clear q473
           obtain ⟨x7_3, x13_3, rfl, HA, HK3, HO_7, HO_10, HB⟩ := hrel
           have hl7_3 := (Kd.R_reads' HO_7.out).1
           rw [hl7_3] at HO_7
           (try simp only [hl7_3])
           (try simp only [hl7_3] at HO_10)
           cases gk with
           | zero => exact absurd HA.out (by simp [skiarearef06_Find.l2])
           | succ k3 =>
            have H := HA.out
            clear HA
            simp only [skiarearef06_Find.l2] at H
            by_cases c39 : x13_3 < (t464.length : Int)
            ·rw [if_pos c39] at H
             have c39b0 : decide (x13_3 < (t464.length : Int)) = true := decide_eq_true c39
             clear c39
             by_cases c40 : 0 ≤ x13_3
             ·rw [if_pos c40] at H
              have c40b0 : decide (0 ≤ x13_3) = true := decide_eq_true c40
              clear c40
              by_cases c41 : (rd t464 x13_3) > 0
              ·rw [if_pos c41] at H
               have c41b0 : decide (0 < (rd t464 x13_3)) = true := decide_eq_true c41
               clear c41
               obtain ⟨ji42, hji42⟩ : ∃ j_ : Int, (wrap64 ((rd t464 x13_3) - 1)) = j_ := ⟨_, rfl⟩
               replace H : (if 0 ≤ (ji42) then (if (ji42) < (x7_3.length : Int) then (skiarearef06_Find.l2 k3 l0 a1 a2 (x7_3.set ((ji42) : Int).toNat (wrap64 ((rd x7_3 (ji42)) + x11_2))) t464 x11_2 (wrap64 (x13_3 + 1))) else (none)) else (none)) = some r := by first | (rw [hji42] at H; exact H) | (simp only [hji42] at H ⊢; exact H)
               have hji42w : (IntKind.i64.wrap ((rd t464 x13_3) - 1)) = ji42 := (i64_w _).trans hji42
               by_cases c43 : 0 ≤ (ji42)
               ·rw [if_pos c43] at H
                have c43b0 : decide (0 ≤ (ji42)) = true := decide_eq_true c43
                clear c43
                by_cases c44 : (ji42) < (x7_3.length : Int)
                ·rw [if_pos c44] at H
                 have c44b0 : decide ((ji42) < (x7_3.length : Int)) = true := decide_eq_true c44
                 clear c44
                 obtain ⟨y478, hy478⟩ : ∃ y_ : List Int, y_ = (x7_3.set ((ji42) : Int).toNat (wrap64 ((rd x7_3 (ji42)) + x11_2))) := ⟨_, rfl⟩
                 replace H : (skiarearef06_Find.l2 k3 l0 a1 a2 y478 t464 x11_2 (wrap64 (x13_3 + 1))) = some r := by first | (rw [hy478]; with_reducible exact H) | (have H2_ := (Option.bind_some _ _).symm.trans H; rw [hy478]; with_reducible exact H2_) | (have H2_ := (Option.bind_some _ _).symm.trans H; with_reducible exact H2_) | with_reducible exact H | (rw [hy478]; exact H) | exact H
                 have Ny478 := a_ hy478
                 clear hy478
                 have H' := a_ H
                 clear H
                 have p474 : 0 ≤ (x13_3 : Int) := od_
                 have q474 : x13_3 < (t464.length : Int) := od_
                 obtain ⟨ad474, e474, hx474_0⟩ := Kd.at_int (Kd.R_reads' HO_10.out).2.2 x13_3 p474 q474
                 cases e474
                 replace p474 := eq_true p474
                 replace q474 := eq_true q474
                 try go_wp2
                 have n0_ := a_ (Kd.R_drew HO_7.out)
                 have n1_ := a_ (Kd.R_drew HO_10.out)
                 have n2_ := a_ (below_drew1 HB.out)
                 clear HO_7
                 clear HO_10
                 clear HB
                 have HO_7 := n0_
                 have HO_10 := n1_
                 have HB := n2_
                 clear n0_ n1_ n2_
                 have p475 : 0 ≤ (x13_3 : Int) := od_
                 have q475 : x13_3 < (t464.length : Int) := od_
                 obtain ⟨ad475, e475, hx475_0⟩ := Kd.at_int (Kd.R_reads' HO_10.out).2.2 x13_3 p475 q475
                 obtain rfl : ad474 = ad475 := (by injection e475)
                 replace p475 := eq_true p475
                 replace q475 := eq_true q475
                 have p476 : 0 ≤ (x13_3 : Int) := od_
                 have q476 : x13_3 < (t464.length : Int) := od_
                 obtain ⟨ad476, e476, hx476_0⟩ := Kd.at_int (Kd.R_reads' HO_10.out).2.2 x13_3 p476 q476
                 obtain rfl : ad474 = ad476 := (by injection e476)
                 replace p476 := eq_true p476
                 replace q476 := eq_true q476
                 have p477 : 0 ≤ ((ji42) : Int) := od_
                 have q477 : (ji42) < (x7_3.length : Int) := od_
                 obtain ⟨ad477, e477, hx477_0⟩ := Kd.at_int (Kd.R_reads' HO_7.out).2.2 (ji42) p477 q477
                 cases e477
                 replace p477 := eq_true p477
                 replace q477 := eq_true q477
                 have p45 : 0 ≤ ((ji42) : Int) := od_
                 have q45 : ((ji42) : Int) < ((x7_3.length : Int) : Int) := od_
                 obtain ⟨go45, co45, eo45, gb45, gl45, cl45, HG45⟩ := Kd.R_form HO_7.out (by omega)
                 (first | cases eo45 | (injection eo45 with ea_ en_ ec_; (first | subst ea_ | (injection ea_ with ea_; subst ea_)); subst ec_; clear en_))
                 have GB45 := a_ gb45
                 have GG45 := a_ HG45
                 clear gb45 gl45 HG45
                 (first | simp only [add_plain] at hx477_0 | skip)
                 obtain ⟨hx45_0, hf45_0⟩ := Kd.R_celln 0 HO_7.out ((ji42) : Int) p45 q45
                 replace p45 := eq_true p45
                 replace q45 := eq_true q45
                 have HP47 := Kd.R_putn HO_7.out ((ji42) : Int) (wrap64 ((rd x7_3 (ji42)) + x11_2))
                 rw [← Ny478.out] at HP47
                 have HQ47 := a_ HP47
                 clear HP47
                 refine start_ (n := 18) (S := fun w' => w'.cell? (ad474.add (x13_3).toNat) = some (.int .i64 (rd t464 x13_3)) ∧ w'.cell? (ad474.add (x13_3).toNat) = some (.int .i64 (rd t464 x13_3)) ∧ w'.cell? ⟨go45, ((ji42)).toNat, none⟩ = some (.int .i64 (rd x7_3 (ji42)))) (ds := [17]) #[false, false, false, false, false, false, false, false, false, false, false, false, false, false, false, false, false, false] (by kernel_rfl) rfl rfl ⟨hx475_0, hx476_0, hx477_0⟩ (fun hHeld => ?_); refine with_tabW skiarearef06_Find.tab19 skiarearef06_Find.bits19 (fun HT_ HW_ => ?_)
                 generalize wr.drew = w46 at HO_7 HO_10 HB GG45 HQ47 hf45_0 hx45_0 hx475_0 hx476_0 hx477_0 hHeld ⊢
                 refine pn_ 0 (some 90) ?_
                 refine pn_ 1 (some 91) ?_
                 refine pn_ 2 (some 92) ?_
                 refine pn_ 3 (some 93) ?_
                 refine pn_ 6 (some 96) ?_
                 refine pn_ 7 (some 97) ?_
                 refine pn_ 8 (some 98) ?_
                 refine pn_ 9 (some 99) ?_
                 refine pn_ 14 (some 104) ?_
                 refine tk_ 4 (some 94) ?_ (hy := by rintro w' ⟨s0, s1, s2⟩; go_simp; with_reducible rfl)
                 refine pn_ 5 (some 95) ?_
                 refine tk_ 10 (some 100) ?_ (hy := by rintro w' ⟨s0, s1, s2⟩; go_simp; with_reducible rfl)
                 refine pn_ 11 (some 101) ?_
                 refine pn_ 12 (some 102) ?_
                 refine tk_ 13 (some 103) ?_ (hy := by rintro w' ⟨s0, s1, s2⟩; go_simp; with_reducible rfl)
                 refine pn_ 15 (some 105) ?_
                 refine pn_ 16 (some 106) ?_
                 refine last_ (i := 17) (N := none) #[true, true, true, true, true, true, true, true, true, true, true, true, true, true, true, true, true, true] rfl rfl (one_of HT_.out (by kernel_rfl)) (by decide) (fun K hK => ?_)
                 refine skip_ (w1 := ?_) (by rfl) rfl ?_ ?_
                 rotate_left
                 ·go_simp
                  rfl
                 refine hK.out _ _ ?_
                 clear hK K
                 refine done_ (done_of HT_.out (by kernel_rfl)) ?_
                 try go_wp2
                 (try simp only [← hl7_3])
                 go_roundg k3
                 case measure => have := HK1.out; have := HK2.out; have := HK3.out; omega
                 case rel => exact ⟨(y478), (wrap64 (x13_3 + 1)), (by first | rfl | (simp; done) | (simp [*]; done)), H', ⟨by have := HK1.out; have := HK2.out; have := HK3.out; omega⟩, ⟨by (try simp only [hl7_3]); (with_reducible repeat (first | apply Kd.R_alloc | apply Kd.R_drewN | apply Kd.R_drew)); exact HQ47.out⟩, ⟨by (try simp only [hl7_3]); (with_reducible repeat (first | apply Kd.R_alloc | apply Kd.R_drewN | apply Kd.R_drew)); exact Kd.R_mono (Kd.R_far (p := ⟨go45, ((ji42) : Int).toNat, none⟩) (Kd.R_mono HO_10.out (fun k_ hk => (⟨hk, fun e_ => hk (by rw [e_]; rfl)⟩ : _ ∧ k_ ≠ go45))) (fun _ hk => hk.2) (.int .i64 (wrap64 ((rd x7_3 (ji42)) + x11_2)))) (fun _ hk => hk.1)⟩, ⟨by repeat (first | (with_reducible first | exact HB.out | apply below_alloc | apply pw_below_drewN | apply below_drew1 | refine below_set ?_ GB45.out) | exact HB.out)⟩⟩
                ·rw [if_neg c44] at H
                 exact absurd H (by simp)
               ·rw [if_neg c43] at H
                exact absurd H (by simp)
              ·rw [if_neg c41] at H
               have c41b0 : decide (0 < (rd t464 x13_3)) = false := decide_eq_false c41
               clear c41
               obtain ⟨ji48, hji48⟩ : ∃ j_ : Int, (wrap64 ((wrap64 (-(rd t464 x13_3))) - 1)) = j_ := ⟨_, rfl⟩
               replace H : (if 0 ≤ (ji48) then (if (ji48) < (x7_3.length : Int) then (skiarearef06_Find.l2 k3 l0 a1 a2 (x7_3.set ((ji48) : Int).toNat (wrap64 ((rd x7_3 (ji48)) - x11_2))) t464 x11_2 (wrap64 (x13_3 + 1))) else (none)) else (none)) = some r := by first | (rw [hji48] at H; exact H) | (simp only [hji48] at H ⊢; exact H)
               have hji48w : (IntKind.i64.wrap ((wrap64 (-(rd t464 x13_3))) - 1)) = ji48 := (i64_w _).trans hji48
               by_cases c49 : 0 ≤ (ji48)
               ·rw [if_pos c49] at H
                have c49b0 : decide (0 ≤ (ji48)) = true := decide_eq_true c49
                clear c49
                by_cases c50 : (ji48) < (x7_3.length : Int)
                ·rw [if_pos c50] at H
                 have c50b0 : decide ((ji48) < (x7_3.length : Int)) = true := decide_eq_true c50
                 clear c50
                 obtain ⟨y482, hy482⟩ : ∃ y_ : List Int, y_ = (x7_3.set ((ji48) : Int).toNat (wrap64 ((rd x7_3 (ji48)) - x11_2))) := ⟨_, rfl⟩
                 replace H : (skiarearef06_Find.l2 k3 l0 a1 a2 y482 t464 x11_2 (wrap64 (x13_3 + 1))) = some r := by first | (rw [hy482]; with_reducible exact H) | (have H2_ := (Option.bind_some _ _).symm.trans H; rw [hy482]; with_reducible exact H2_) | (have H2_ := (Option.bind_some _ _).symm.trans H; with_reducible exact H2_) | with_reducible exact H | (rw [hy482]; exact H) | exact H
                 have Ny482 := a_ hy482
                 clear hy482
                 have H' := a_ H
                 clear H
                 have p474 : 0 ≤ (x13_3 : Int) := od_
                 have q474 : x13_3 < (t464.length : Int) := od_
                 obtain ⟨ad474, e474, hx474_0⟩ := Kd.at_int (Kd.R_reads' HO_10.out).2.2 x13_3 p474 q474
                 cases e474
                 replace p474 := eq_true p474
                 replace q474 := eq_true q474
                 try go_wp2
                 have n0_ := a_ (Kd.R_drew HO_7.out)
                 have n1_ := a_ (Kd.R_drew HO_10.out)
                 have n2_ := a_ (below_drew1 HB.out)
                 clear HO_7
                 clear HO_10
                 clear HB
                 have HO_7 := n0_
                 have HO_10 := n1_
                 have HB := n2_
                 clear n0_ n1_ n2_
                 have p479 : 0 ≤ (x13_3 : Int) := od_
                 have q479 : x13_3 < (t464.length : Int) := od_
                 obtain ⟨ad479, e479, hx479_0⟩ := Kd.at_int (Kd.R_reads' HO_10.out).2.2 x13_3 p479 q479
                 obtain rfl : ad474 = ad479 := (by injection e479)
                 replace p479 := eq_true p479
                 replace q479 := eq_true q479
                 have p480 : 0 ≤ (x13_3 : Int) := od_
                 have q480 : x13_3 < (t464.length : Int) := od_
                 obtain ⟨ad480, e480, hx480_0⟩ := Kd.at_int (Kd.R_reads' HO_10.out).2.2 x13_3 p480 q480
                 obtain rfl : ad474 = ad480 := (by injection e480)
                 replace p480 := eq_true p480
                 replace q480 := eq_true q480
                 have p481 : 0 ≤ ((ji48) : Int) := od_
                 have q481 : (ji48) < (x7_3.length : Int) := od_
                 obtain ⟨ad481, e481, hx481_0⟩ := Kd.at_int (Kd.R_reads' HO_7.out).2.2 (ji48) p481 q481
                 cases e481
                 replace p481 := eq_true p481
                 replace q481 := eq_true q481
                 have p51 : 0 ≤ ((ji48) : Int) := od_
                 have q51 : ((ji48) : Int) < ((x7_3.length : Int) : Int) := od_
                 obtain ⟨go51, co51, eo51, gb51, gl51, cl51, HG51⟩ := Kd.R_form HO_7.out (by omega)
                 (first | cases eo51 | (injection eo51 with ea_ en_ ec_; (first | subst ea_ | (injection ea_ with ea_; subst ea_)); subst ec_; clear en_))
                 have GB51 := a_ gb51
                 have GG51 := a_ HG51
                 clear gb51 gl51 HG51
                 (first | simp only [add_plain] at hx481_0 | skip)
                 obtain ⟨hx51_0, hf51_0⟩ := Kd.R_celln 0 HO_7.out ((ji48) : Int) p51 q51
                 replace p51 := eq_true p51
                 replace q51 := eq_true q51
                 have HP53 := Kd.R_putn HO_7.out ((ji48) : Int) (wrap64 ((rd x7_3 (ji48)) - x11_2))
                 rw [← Ny482.out] at HP53
                 have HQ53 := a_ HP53
                 clear HP53
                 refine start_ (n := 20) (S := fun w' => w'.cell? (ad474.add (x13_3).toNat) = some (.int .i64 (rd t464 x13_3)) ∧ w'.cell? (ad474.add (x13_3).toNat) = some (.int .i64 (rd t464 x13_3)) ∧ w'.cell? ⟨go51, ((ji48)).toNat, none⟩ = some (.int .i64 (rd x7_3 (ji48)))) (ds := [19]) #[false, false, false, false, false, false, false, false, false, false, false, false, false, false, false, false, false, false, false, false] (by kernel_rfl) rfl rfl ⟨hx479_0, hx480_0, hx481_0⟩ (fun hHeld => ?_); refine with_tabW skiarearef06_Find.tab20 skiarearef06_Find.bits20 (fun HT_ HW_ => ?_)
                 generalize wr.drew = w52 at HO_7 HO_10 HB GG51 HQ53 hf51_0 hx479_0 hx480_0 hx481_0 hx51_0 hHeld ⊢
                 refine pn_ 0 (some 107) ?_
                 refine pn_ 1 (some 108) ?_
                 refine pn_ 2 (some 109) ?_
                 refine pn_ 3 (some 110) ?_
                 refine pn_ 7 (some 114) ?_
                 refine pn_ 8 (some 115) ?_
                 refine pn_ 9 (some 116) ?_
                 refine pn_ 10 (some 117) ?_
                 refine pn_ 16 (some 123) ?_
                 refine tk_ 4 (some 111) ?_ (hy := by rintro w' ⟨s0, s1, s2⟩; go_simp; with_reducible rfl)
                 refine pn_ 5 (some 112) ?_
                 refine pn_ 6 (some 113) ?_
                 refine tk_ 11 (some 118) ?_ (hy := by rintro w' ⟨s0, s1, s2⟩; go_simp; with_reducible rfl)
                 refine pn_ 12 (some 119) ?_
                 refine pn_ 13 (some 120) ?_
                 refine pn_ 14 (some 121) ?_
                 refine tk_ 15 (some 122) ?_ (hy := by rintro w' ⟨s0, s1, s2⟩; go_simp; with_reducible rfl)
                 refine pn_ 17 (some 124) ?_
                 refine pn_ 18 (some 125) ?_
                 refine last_ (i := 19) (N := none) #[true, true, true, true, true, true, true, true, true, true, true, true, true, true, true, true, true, true, true, true] rfl rfl (one_of HT_.out (by kernel_rfl)) (by decide) (fun K hK => ?_)
                 refine skip_ (w1 := ?_) (by rfl) rfl ?_ ?_
                 rotate_left
                 ·go_simp
                  rfl
                 refine hK.out _ _ ?_
                 clear hK K
                 refine done_ (done_of HT_.out (by kernel_rfl)) ?_
                 try go_wp2
                 (try simp only [← hl7_3])
                 go_roundg k3
                 case measure => have := HK1.out; have := HK2.out; have := HK3.out; omega
                 case rel => exact ⟨(y482), (wrap64 (x13_3 + 1)), (by first | rfl | (simp; done) | (simp [*]; done)), H', ⟨by have := HK1.out; have := HK2.out; have := HK3.out; omega⟩, ⟨by (try simp only [hl7_3]); (with_reducible repeat (first | apply Kd.R_alloc | apply Kd.R_drewN | apply Kd.R_drew)); exact HQ53.out⟩, ⟨by (try simp only [hl7_3]); (with_reducible repeat (first | apply Kd.R_alloc | apply Kd.R_drewN | apply Kd.R_drew)); exact Kd.R_mono (Kd.R_far (p := ⟨go51, ((ji48) : Int).toNat, none⟩) (Kd.R_mono HO_10.out (fun k_ hk => (⟨hk, fun e_ => hk (by rw [e_]; rfl)⟩ : _ ∧ k_ ≠ go51))) (fun _ hk => hk.2) (.int .i64 (wrap64 ((rd x7_3 (ji48)) - x11_2)))) (fun _ hk => hk.1)⟩, ⟨by repeat (first | (with_reducible first | exact HB.out | apply below_alloc | apply pw_below_drewN | apply below_drew1 | refine below_set ?_ GB51.out) | exact HB.out)⟩⟩
                ·rw [if_neg c50] at H
                 exact absurd H (by simp)
               ·rw [if_neg c49] at H
                exact absurd H (by simp)
             ·rw [if_neg c40] at H
              exact absurd H (by simp)
            ·rw [if_neg c39] at H
             have c39b0 : decide (x13_3 < (t464.length : Int)) = false := decide_eq_false c39
             clear c39
             have H' := a_ H
             clear H
             go_wp2
             (try simp only [← hl7_3])
             go_roundg k3
             case measure => have := HK1.out; have := HK2.out; have := HK3.out; omega
             case rel => exact ⟨(x7_3), H', ⟨by have := HK1.out; have := HK2.out; have := HK3.out; omega⟩, ⟨by (try simp only [hl7_3]); (with_reducible repeat (first | apply Kd.R_alloc | apply Kd.R_drewN | apply Kd.R_drew)); exact Kd.R_mono HO_7.out (fun _ hk => trivial)⟩, ⟨by repeat (first | (with_reducible first | exact HB.out | apply below_alloc | apply pw_below_drewN | apply below_drew1) | exact HB.out)⟩⟩
  ·rw [if_neg c5] at H
   exact absurd H (by simp)
 ·rw [if_neg c4] at H
  exact absurd H (by simp)

end Go.Proofs.Ytgfiidgigenibaa.Q
