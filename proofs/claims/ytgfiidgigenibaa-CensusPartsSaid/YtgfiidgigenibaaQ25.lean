-- written by wip/drive.py (this session's program) over the kit's print words
import Derived.Test.YtgfiidgigenibaaQ0
import Derived.Test.YtgfiidgigenibaaQ4
import Derived.Test.YtgfiidgigenibaaQ5
import Derived.Test.YtgfiidgigenibaaQ18
import Derived.Test.YtgfiidgigenibaaQ24
namespace Go.Proofs.Ytgfiidgigenibaa.Q
open Go.RowKit Go.Proofs.YtgfiidgigenibaaW.PrintWords Go.Proofs.YtgfiidgigenibaaW.PrintLast Go.Proofs.YtgfiidgigenibaaW.PrintMore
attribute [local go_sem] max2_int min2_int max_two min_two max_three min_three max_four min_four   -- for this text's walks alone
set_option linter.unusedVariables false
set_option linter.unusedSimpArgs false

/-! ### skiarealaw55_CensusParts: function 3 -/
mutual
def skiarealaw55_CensusParts.j0 : Nat → List (S28) → Int → Int → Bool → Option (Bool)
 | 0, _, _, _, _ => none
 | k + 1, x0, x1, x2, x35 => if x35 = true then (some true) else ((census_On.f k x0 x1).bind fun t191 => (skiarealaw55_CensusParts.l0 k x0 x1 x2 t191 (([] : List (S28))) 0))
def skiarealaw55_CensusParts.l0 : Nat → List (S28) → Int → Int → Int → List (S28) → Int → Option (Bool)
 | 0, _, _, _, _, _, _ => none
 | k + 1, x0, x1, x2, x7, x8, x9 => if x9 < (x0.length : Int) then (skiarealaw55_CensusParts.l1 k x0 x1 x2 x7 x8 x9 false 0) else ((census_On.f k x0 x2).bind fun t195 => (some (x7 == t195)))
def skiarealaw55_CensusParts.l1 : Nat → List (S28) → Int → Int → Int → List (S28) → Int → Bool → Int → Option (Bool)
 | 0, _, _, _, _, _, _, _, _ => none
 | k + 1, x0, x1, x2, x7, x8, x9, x10, x11 => if x11 < (x8.length : Int) then (if x10 = true then (skiarealaw55_CensusParts.l1 k x0 x1 x2 x7 x8 x9 true (wrap64 (x11 + 1))) else (if 0 ≤ x11 then (if 0 ≤ x9 then (if x9 < (x0.length : Int) then (if ((rd_T28 x8 x11).f0) = ((rd_T28 x0 x9).f0) then (skiarealaw55_CensusParts.l1 k x0 x1 x2 x7 x8 x9 (((rd_T28 x8 x11).f1) == ((rd_T28 x0 x9).f1)) (wrap64 (x11 + 1))) else (skiarealaw55_CensusParts.l1 k x0 x1 x2 x7 x8 x9 false (wrap64 (x11 + 1)))) else (none)) else (none)) else (none))) else (if x10 = true then (skiarealaw55_CensusParts.l0 k x0 x1 x2 x7 x8 (wrap64 (x9 + 1))) else (if 0 ≤ x9 then (if x9 < (x0.length : Int) then (if x8.length < 4398046511104 then ((some (x8 ++ [(⟨(rd_T28 x0 x9).f0, (rd_T28 x0 x9).f1, (rd_T28 x0 x9).f2, (rd_T28 x0 x9).f3⟩ : S28)] : List (S28))).bind fun y201 => ((census_Count.f k x0 ((rd_T28 x0 x9).f0) ((rd_T28 x0 x9).f1) (wrap64 (x1 + 1)) (wrap64 (x2 + 1))).bind fun t206 => (if ((rd_T28 x0 x9).f0) = 1 then (skiarealaw55_CensusParts.l0 k x0 x1 x2 (wrap64 (x7 + t206)) y201 (wrap64 (x9 + 1))) else (skiarealaw55_CensusParts.l0 k x0 x1 x2 (wrap64 (x7 - t206)) y201 (wrap64 (x9 + 1)))))) else (none)) else (none)) else (none)))
end
def skiarealaw55_CensusParts.f (k : Nat) (l0 : List (S28)) (a1 : Int) (a2 : Int) : Option (Bool) := (skiarealaw55_alive.f).bind fun t189 => (if t189 = true then (if (l0.length : Int) > 100 then (skiarealaw55_CensusParts.j0 k l0 a1 a2 true) else ((census_Right.f k l0).bind fun t190 => (if t190 = 0 then (if a1 < 0 then (skiarealaw55_CensusParts.j0 k l0 a1 a2 true) else (if a2 < a1 then (skiarealaw55_CensusParts.j0 k l0 a1 a2 true) else (skiarealaw55_CensusParts.j0 k l0 a1 a2 (decide (a2 > 20000000))))) else (skiarealaw55_CensusParts.j0 k l0 a1 a2 true)))) else (some false))
theorem skiarealaw55_CensusParts.mono_l : ∀ k, (∀ y0 y1 y2 y3, LeO (skiarealaw55_CensusParts.j0 k y0 y1 y2 y3) (skiarealaw55_CensusParts.j0 (k + 1) y0 y1 y2 y3)) ∧ (∀ y0 y1 y2 y3 y4 y5, LeO (skiarealaw55_CensusParts.l0 k y0 y1 y2 y3 y4 y5) (skiarealaw55_CensusParts.l0 (k + 1) y0 y1 y2 y3 y4 y5)) ∧ (∀ y0 y1 y2 y3 y4 y5 y6 y7, LeO (skiarealaw55_CensusParts.l1 k y0 y1 y2 y3 y4 y5 y6 y7) (skiarealaw55_CensusParts.l1 (k + 1) y0 y1 y2 y3 y4 y5 y6 y7))
 | 0 => ⟨fun _ _ _ _ r h => by simp [skiarealaw55_CensusParts.j0] at h, fun _ _ _ _ _ _ r h => by simp [skiarealaw55_CensusParts.l0] at h, fun _ _ _ _ _ _ _ _ r h => by simp [skiarealaw55_CensusParts.l1] at h⟩
 | k + 1 => by
  obtain ⟨ih0, ih1, ih2⟩ := skiarealaw55_CensusParts.mono_l k
  refine ⟨?_, ?_, ?_⟩
  ·intro y0 y1 y2 y3
   unfold skiarealaw55_CensusParts.j0
   repeat' first
   | (with_reducible exact ih0 _ _ _ _)
   | (with_reducible exact ih1 _ _ _ _ _ _)
   | (with_reducible exact ih2 _ _ _ _ _ _ _ _)
   | (with_reducible exact census_Count.mono _ _ _ _ _ _)
   | (with_reducible exact census_On.mono _ _ _)
   | (with_reducible exact census_Right.mono _ _)
   | (with_reducible exact LeO.refl _)
   | (with_reducible exact LeO.none _)
   | (with_reducible refine LeO.ite ?_ ?_)
   | (with_reducible refine LeO.bind ?_ (fun _ => ?_))
   | exact ih0 _ _ _ _
   | exact ih1 _ _ _ _ _ _
   | exact ih2 _ _ _ _ _ _ _ _
   | exact census_Count.mono _ _ _ _ _ _
   | exact census_On.mono _ _ _
   | exact census_Right.mono _ _
   | exact LeO.none _
   | refine LeO.ite ?_ ?_
   | refine LeO.bind ?_ (fun _ => ?_)
  ·intro y0 y1 y2 y3 y4 y5
   unfold skiarealaw55_CensusParts.l0
   repeat' first
   | (with_reducible exact ih0 _ _ _ _)
   | (with_reducible exact ih1 _ _ _ _ _ _)
   | (with_reducible exact ih2 _ _ _ _ _ _ _ _)
   | (with_reducible exact census_Count.mono _ _ _ _ _ _)
   | (with_reducible exact census_On.mono _ _ _)
   | (with_reducible exact census_Right.mono _ _)
   | (with_reducible exact LeO.refl _)
   | (with_reducible exact LeO.none _)
   | (with_reducible refine LeO.ite ?_ ?_)
   | (with_reducible refine LeO.bind ?_ (fun _ => ?_))
   | exact ih0 _ _ _ _
   | exact ih1 _ _ _ _ _ _
   | exact ih2 _ _ _ _ _ _ _ _
   | exact census_Count.mono _ _ _ _ _ _
   | exact census_On.mono _ _ _
   | exact census_Right.mono _ _
   | exact LeO.none _
   | refine LeO.ite ?_ ?_
   | refine LeO.bind ?_ (fun _ => ?_)
  ·intro y0 y1 y2 y3 y4 y5 y6 y7
   unfold skiarealaw55_CensusParts.l1
   repeat' first
   | (with_reducible exact ih0 _ _ _ _)
   | (with_reducible exact ih1 _ _ _ _ _ _)
   | (with_reducible exact ih2 _ _ _ _ _ _ _ _)
   | (with_reducible exact census_Count.mono _ _ _ _ _ _)
   | (with_reducible exact census_On.mono _ _ _)
   | (with_reducible exact census_Right.mono _ _)
   | (with_reducible exact LeO.refl _)
   | (with_reducible exact LeO.none _)
   | (with_reducible refine LeO.ite ?_ ?_)
   | (with_reducible refine LeO.bind ?_ (fun _ => ?_))
   | exact ih0 _ _ _ _
   | exact ih1 _ _ _ _ _ _
   | exact ih2 _ _ _ _ _ _ _ _
   | exact census_Count.mono _ _ _ _ _ _
   | exact census_On.mono _ _ _
   | exact census_Right.mono _ _
   | exact LeO.none _
   | refine LeO.ite ?_ ?_
   | refine LeO.bind ?_ (fun _ => ?_)
theorem skiarealaw55_CensusParts.mono : ∀ a0 a1 a2 k, LeO (skiarealaw55_CensusParts.f k a0 a1 a2) (skiarealaw55_CensusParts.f (k + 1) a0 a1 a2) := by
 intro a0 a1 a2 k
 obtain ⟨ih0, ih1, ih2⟩ := skiarealaw55_CensusParts.mono_l k
 unfold skiarealaw55_CensusParts.f
 repeat' first
   | (with_reducible exact ih0 _ _ _ _)
   | (with_reducible exact ih1 _ _ _ _ _ _)
   | (with_reducible exact ih2 _ _ _ _ _ _ _ _)
   | (with_reducible exact census_Count.mono _ _ _ _ _ _)
   | (with_reducible exact census_On.mono _ _ _)
   | (with_reducible exact census_Right.mono _ _)
   | (with_reducible exact LeO.refl _)
   | (with_reducible exact LeO.none _)
   | (with_reducible refine LeO.ite ?_ ?_)
   | (with_reducible refine LeO.bind ?_ (fun _ => ?_))
   | exact ih0 _ _ _ _
   | exact ih1 _ _ _ _ _ _
   | exact ih2 _ _ _ _ _ _ _ _
   | exact census_Count.mono _ _ _ _ _ _
   | exact census_On.mono _ _ _
   | exact census_Right.mono _ _
   | exact LeO.none _
   | refine LeO.ite ?_ ?_
   | refine LeO.bind ?_ (fun _ => ?_)
def skiarealaw55_CensusParts.T14 : Bool × List (List Nat × List Nat) := (true, [([], []), ([0], [0]), ([1], [1]), ([1], [1]), ([2, 3, 1], [1, 2, 3]), ([4, 1], [1, 4]), ([5, 1], [1, 5]), ([1], [1]), ([1], [1]), ([7, 8, 1], [1, 7, 8]), ([9, 1], [1, 9]), ([10, 1], [1, 10]), ([6, 11, 1], [1, 6, 11]), ([12, 1, 1], [1, 12]), ([13], [13]), ([13], [13]), ([14, 15, 13], [13, 14, 15]), ([16, 13], [13, 16]), ([17, 13], [13, 17]), ([13], [13]), ([13], [13]), ([19, 20, 13], [13, 19, 20]), ([21, 13], [13, 21]), ([22, 13], [13, 22]), ([18, 23, 13], [13, 18, 23]), ([13, 24, 1], [1, 13, 24]), ([1, 25], [1, 25]), ([26, 13, 0, 1, 2, 3, 4, 5, 6, 7, 8, 9, 10, 11, 12, 13, 14, 15, 16, 17, 18, 19, 20, 21, 22, 23, 24, 25, 26], [0, 26])])
def skiarealaw55_CensusParts.B14 : List Nat := [0, 1, 3, 3, 15, 31, 63, 3, 3, 387, 899, 1923, 4095, 8191, 16383, 16383, 65535, 131071, 262143, 16383, 16383, 1589247, 3686399, 7880703, 16777215, 33554431, 67108863, 134217727]
theorem skiarealaw55_CensusParts.tab14 : rtab .any (opsOf Try.f3 14) = skiarealaw55_CensusParts.T14 := by kernel_rfl
theorem skiarealaw55_CensusParts.bits14 : waitsOk skiarealaw55_CensusParts.T14.2 skiarealaw55_CensusParts.B14 = true := by kernel_rfl
def skiarealaw55_CensusParts.T17 : Bool × List (List Nat × List Nat) := (true, [([], []), ([], []), ([], []), ([1, 2], [1, 2]), ([3], [3]), ([4], [4]), ([], []), ([], []), ([6, 7], [6, 7]), ([8], [8]), ([9], [9]), ([], []), ([11], [11]), ([], []), ([13], [13]), ([12, 14], [12, 14]), ([0, 5, 10, 15], [0, 5, 10, 15]), ([16, 16, 0, 1, 2, 3, 4, 5, 6, 7, 8, 9, 10, 11, 12, 13, 14, 15, 16], [16])])
def skiarealaw55_CensusParts.B17 : List Nat := [0, 0, 0, 6, 14, 30, 0, 0, 192, 448, 960, 0, 2048, 0, 8192, 30720, 65535, 131071]
theorem skiarealaw55_CensusParts.tab17 : rtab .any (opsOf Try.f3 17) = skiarealaw55_CensusParts.T17 := by kernel_rfl
theorem skiarealaw55_CensusParts.bits17 : waitsOk skiarealaw55_CensusParts.T17.2 skiarealaw55_CensusParts.B17 = true := by kernel_rfl
set_option maxHeartbeats 8000000 in
set_option maxRecDepth 100000 in
theorem skiarealaw55_CensusParts.calls (k : Nat) (A0 : Option Addr) (c0 : Nat) (l0 : List (S28)) (a1 : Int) (a2 : Int) (w : World) (hr0 : Kd.C k28 w A0 l0.length l0) (hc0 : l0.length ≤ c0) (h : skiarealaw55_CensusParts.f k l0 a1 a2 = some true) :
  Calls Try.prog 3 #[.slice A0 l0.length c0, .int .i64 a1, .int .i64 a2] w fun e w' => e = .returned (.bool true) ∧ Below w.heap.size w w' := by
 have hu28 := Try.underlying28
 have hu31 := Try.underlying31
 have HR0 := a_ hr0
 have HC0 := a_ hc0
 clear hr0 hc0
 have HB := a_ (Below.refl w.heap.size w)
 have H : ((skiarealaw55_alive.f).bind fun t189 => (if t189 = true then (if (l0.length : Int) > 100 then (skiarealaw55_CensusParts.j0 k l0 a1 a2 true) else ((census_Right.f k l0).bind fun t190 => (if t190 = 0 then (if a1 < 0 then (skiarealaw55_CensusParts.j0 k l0 a1 a2 true) else (if a2 < a1 then (skiarealaw55_CensusParts.j0 k l0 a1 a2 true) else (skiarealaw55_CensusParts.j0 k l0 a1 a2 (decide (a2 > 20000000))))) else (skiarealaw55_CensusParts.j0 k l0 a1 a2 true)))) else (some false))) = some true := h
 clear h
 replace H := Option.bind_eq_some_iff.mp H
 obtain ⟨t189, A40, H⟩ := H
 replace H : (if t189 = true then (if (l0.length : Int) > 100 then (skiarealaw55_CensusParts.j0 k l0 a1 a2 true) else ((census_Right.f k l0).bind fun t190 => (if t190 = 0 then (if a1 < 0 then (skiarealaw55_CensusParts.j0 k l0 a1 a2 true) else (if a2 < a1 then (skiarealaw55_CensusParts.j0 k l0 a1 a2 true) else (skiarealaw55_CensusParts.j0 k l0 a1 a2 (decide (a2 > 20000000))))) else (skiarealaw55_CensusParts.j0 k l0 a1 a2 true)))) else (some false)) = some true := H
 have A4 := a_ A40
 clear A40
 by_cases c5 : t189 = true
 ·subst c5
  have H1 : (if (l0.length : Int) > 100 then (skiarealaw55_CensusParts.j0 k l0 a1 a2 true) else ((census_Right.f k l0).bind fun t190 => (if t190 = 0 then (if a1 < 0 then (skiarealaw55_CensusParts.j0 k l0 a1 a2 true) else (if a2 < a1 then (skiarealaw55_CensusParts.j0 k l0 a1 a2 true) else (skiarealaw55_CensusParts.j0 k l0 a1 a2 (decide (a2 > 20000000))))) else (skiarealaw55_CensusParts.j0 k l0 a1 a2 true)))) = some true := by rw [if_pos rfl] at H; exact H
  clear H
  have H := H1
  clear H1
  have HC6 := a_ H
  clear H
  go_enter Try.func3, Try.ntmps3
  go_upto_region 3 with (first | ((with_reducible refine gate_callee (f := 9) rfl ?_); refine gs_ (some 13) Try.func9 #[] ?_; (with_reducible refine (skiarealaw55_alive.calls  true _ A4.out).mono ?_); rintro e w7 ⟨rfl, hb⟩; refine ⟨_, rfl, ?_⟩; have n0_ := a_ (below_step bel_ hb); clear HB; have HB := n0_; clear n0_; (try clear hb); (try clear hb2); (try clear hk); (try clear hi)))
  (try simp only [Act.put, List.setIfInBounds_toArray, List.set_cons_zero, List.set_cons_succ])
  go_cut [35] (fun v35 wc => ∃ (kq : Nat) (x35_5 : Bool), v35 = .bool x35_5 ∧ Aside0 (skiarealaw55_CensusParts.j0 kq l0 a1 a2 x35_5 = some true) ∧ Aside0 (kq ≤ k) ∧ Aside0 (Below w.heap.size w wc))
  case first =>
   have H := HC6.out
   clear HC6
   by_cases c8 : (l0.length : Int) > 100
   ·rw [if_pos c8] at H
    have c8b0 : decide (100 < (l0.length : Int)) = true := decide_eq_true c8
    have c8b1 : decide (100 < l0.length) = true := decide_eq_true (by omega)
    clear c8
    (first | rw [c8b0] | (simp only [i64_w, i32_w]; rw [c8b0]) | skip)
    have H' := a_ H
    clear H
    go_wp2
    go_meet
    case rel => exact ⟨_, (true), (by first | rfl | (simp; done) | (simp [*]; done)), H', ⟨by first | omega | exact Nat.le_refl _⟩, ⟨by repeat (first | (with_reducible first | exact HB.out | apply below_alloc | apply pw_below_drewN | apply below_drew1) | exact HB.out)⟩⟩
   ·rw [if_neg c8] at H
    have c8b0 : decide (100 < (l0.length : Int)) = false := decide_eq_false c8
    have c8b1 : decide (100 < l0.length) = false := decide_eq_false (by omega)
    clear c8
    (first | rw [c8b0] | (simp only [i64_w, i32_w]; rw [c8b0]) | skip)
    replace H := Option.bind_eq_some_iff.mp H
    obtain ⟨t190, A90, H⟩ := H
    replace H : (if t190 = 0 then (if a1 < 0 then (skiarealaw55_CensusParts.j0 k l0 a1 a2 true) else (if a2 < a1 then (skiarealaw55_CensusParts.j0 k l0 a1 a2 true) else (skiarealaw55_CensusParts.j0 k l0 a1 a2 (decide (a2 > 20000000))))) else (skiarealaw55_CensusParts.j0 k l0 a1 a2 true)) = some true := H
    have A9 := a_ A90
    clear A90
    by_cases c10 : t190 = 0
    ·rw [if_pos c10] at H
     have c10b0 : (t190 == 0) = true := beq_iff_eq.mpr c10
     have c10b1 : (t190 != 0) = false := bne_eq_false_iff_eq.mpr c10
     clear c10
     by_cases c11 : a1 < 0
     ·rw [if_pos c11] at H
      have c11b0 : decide (a1 < 0) = true := decide_eq_true c11
      clear c11
      have H' := a_ H
      clear H
      go_wp2_with (first | (go_at_call 10; (with_reducible refine (census_Right.calls k _ _ l0 t190 _ ?side1 ?side2 A9.out).mono ?_); (case side1 => exact kC_ (Kd.C_below HR0.out HB.out)); (case side2 => exact HC0.out); rintro e w12 ⟨rfl, hb⟩; have n0_ := a_ (below_step bel_ hb); clear HB; have HB := n0_; clear n0_; (try clear hb); (try clear hb2); (try clear hk); (try clear hi)))
      go_meet
      case rel => exact ⟨_, (true), (by first | rfl | (simp; done) | (simp [*]; done)), H', ⟨by first | omega | exact Nat.le_refl _⟩, ⟨by repeat (first | (with_reducible first | exact HB.out | apply below_alloc | apply pw_below_drewN | apply below_drew1) | exact HB.out)⟩⟩
     ·rw [if_neg c11] at H
      have c11b0 : decide (a1 < 0) = false := decide_eq_false c11
      clear c11
      by_cases c13 : a2 < a1
      ·rw [if_pos c13] at H
       have c13b0 : decide (a2 < a1) = true := decide_eq_true c13
       clear c13
       have H' := a_ H
       clear H
       go_wp2_with (first | (go_at_call 10; (with_reducible refine (census_Right.calls k _ _ l0 t190 _ ?side1 ?side2 A9.out).mono ?_); (case side1 => exact kC_ (Kd.C_below HR0.out HB.out)); (case side2 => exact HC0.out); rintro e w14 ⟨rfl, hb⟩; have n0_ := a_ (below_step bel_ hb); clear HB; have HB := n0_; clear n0_; (try clear hb); (try clear hb2); (try clear hk); (try clear hi)))
       go_meet
       case rel => exact ⟨_, (true), (by first | rfl | (simp; done) | (simp [*]; done)), H', ⟨by first | omega | exact Nat.le_refl _⟩, ⟨by repeat (first | (with_reducible first | exact HB.out | apply below_alloc | apply pw_below_drewN | apply below_drew1) | exact HB.out)⟩⟩
      ·rw [if_neg c13] at H
       have c13b0 : decide (a2 < a1) = false := decide_eq_false c13
       clear c13
       have H' := a_ H
       clear H
       go_wp2_with (first | (go_at_call 10; (with_reducible refine (census_Right.calls k _ _ l0 t190 _ ?side1 ?side2 A9.out).mono ?_); (case side1 => exact kC_ (Kd.C_below HR0.out HB.out)); (case side2 => exact HC0.out); rintro e w15 ⟨rfl, hb⟩; have n0_ := a_ (below_step bel_ hb); clear HB; have HB := n0_; clear n0_; (try clear hb); (try clear hb2); (try clear hk); (try clear hi)))
       go_meet
       case rel => exact ⟨_, (decide (a2 > 20000000)), (by first | rfl | (simp; done) | (simp [*]; done)), H', ⟨by first | omega | exact Nat.le_refl _⟩, ⟨by repeat (first | (with_reducible first | exact HB.out | apply below_alloc | apply pw_below_drewN | apply below_drew1) | exact HB.out)⟩⟩
    ·rw [if_neg c10] at H
     have c10b0 : (t190 == 0) = false := beq_eq_false_iff_ne.mpr c10
     have c10b1 : (t190 != 0) = true := bne_iff_ne.mpr c10
     have H' := a_ H
     clear H
     go_wp2_with (first | (go_at_call 10; (with_reducible refine (census_Right.calls k _ _ l0 t190 _ ?side1 ?side2 A9.out).mono ?_); (case side1 => exact kC_ (Kd.C_below HR0.out HB.out)); (case side2 => exact HC0.out); rintro e w16 ⟨rfl, hb⟩; have n0_ := a_ (below_step bel_ hb); clear HB; have HB := n0_; clear n0_; (try clear hb); (try clear hb2); (try clear hk); (try clear hi)))
     go_meet
     case rel => exact ⟨_, (true), (by first | rfl | (simp; done) | (simp [*]; done)), H', ⟨by first | omega | exact Nat.le_refl _⟩, ⟨by repeat (first | (with_reducible first | exact HB.out | apply below_alloc | apply pw_below_drewN | apply below_drew1) | exact HB.out)⟩⟩
  case rest =>
   clear HC6
   try clear c1
   try clear p2
   try clear c3
   try clear c5
   try clear c8
   try clear c8b0
   try clear c8b1
   try clear c9
   try clear c10
   try clear c10b0
   try clear c10b1
   try clear c11
   try clear c11b0
   try clear c13
   try clear c13b0
   obtain ⟨kq, x35_5, rfl, HA, HJ5, HB⟩ := hcut
   cases kq with
   | zero => exact absurd HA.out (by simp [skiarealaw55_CensusParts.j0])
   | succ kj5 =>
    have H := HA.out
    clear HA
    simp only [skiarealaw55_CensusParts.j0] at H
    by_cases c17 : x35_5 = true
    ·subst c17
     have H1 : (some true) = some true := rfl
     clear H
     have H := H1
     clear H1
     clear H
     go_wp2
     go_ret
     exact ⟨by first | rfl | (rw [HTR.out]; rfl) | (exact congrArg (fun b => Ending.returned (Value.bool b)) HTR.out) | (simpa using HTR.out) | (simp [errW_none, errW_some] <;> rfl) | (simp [*, errW_none, errW_some] <;> rfl), by repeat (first | (with_reducible first | exact HB.out | apply below_alloc | apply pw_below_drewN | apply below_drew1) | exact HB.out)⟩
    ·replace c17 := Bool.eq_false_iff.mpr c17
     subst c17
     have H1 : ((census_On.f kj5 l0 a1).bind fun t191 => (skiarealaw55_CensusParts.l0 kj5 l0 a1 a2 t191 (([] : List (S28))) 0)) = some true := by rw [if_neg (show ¬ (false = true) by decide)] at H; exact H
     clear H
     have H := H1
     clear H1
     replace H := Option.bind_eq_some_iff.mp H
     obtain ⟨t191, A180, H⟩ := H
     replace H : (skiarealaw55_CensusParts.l0 kj5 l0 a1 a2 t191 (([] : List (S28))) 0) = some true := H
     have A18 := a_ A180
     clear A180
     obtain ⟨y192, hy192⟩ : ∃ y_ : List (S28), y_ = (([] : List (S28))) := ⟨_, rfl⟩
     replace H : (skiarealaw55_CensusParts.l0 kj5 l0 a1 a2 t191 y192 0) = some true := by first | (rw [hy192]; with_reducible exact H) | (have H2_ := (Option.bind_some _ _).symm.trans H; rw [hy192]; with_reducible exact H2_) | (have H2_ := (Option.bind_some _ _).symm.trans H; with_reducible exact H2_) | with_reducible exact H | (rw [hy192]; exact H) | exact H
     have Ny192 := a_ hy192
     clear hy192
     have H' := a_ H
     clear H
     go_wp2_with (first | ((with_reducible refine gate_callee (f := 11) rfl ?_); refine gs_ (some 38) Try.func11 #[.slice A0 l0.length c0, .int .i64 a1] ?_; (with_reducible refine (census_On.calls kj5 _ _ l0 a1 t191 _ ?side1 ?side2 A18.out).mono ?_); (case side1 => exact kC_ (Kd.C_below HR0.out HB.out)); (case side2 => exact HC0.out); rintro e w19 ⟨rfl, hb⟩; refine ⟨_, rfl, ?_⟩; have n0_ := a_ (below_step bel_ hb); clear HB; have HB := n0_; clear n0_; (try clear hb); (try clear hb2); (try clear hk); (try clear hi)) | ((with_reducible refine gate_dst (N := 39) rfl ?_); refine Kd.R_lit k28 _ 28 ?hg (N := 39) ?hd (xs := ([] : List (S28))) (inner := []) (ok := fun _ => True) (okp := fun _ => True) ?hr ?hp (fun _ hk => hk) trivial (Below.refl _ _) (Nat.le_refl _) (by simp) ?_; (case hd => rfl); (case hg => rfl); (case hr => first | (go_simp; done) | (go_simp; rfl)); (case hp => exact (Reps.none _ _)); intro v193 w20 ho21 hb hg_ hnew_; clear hg_ hnew_; (first | rw [← Ny192.out] at ho21 | (simp only [Int.reduceToNat] at ho21; rw [← Ny192.out] at ho21)); have n0_ := a_ (Kd.R_lower ho21 (below_size bel_)); have n1_ := a_ (below_step bel_ hb); clear HB; have HO194 := n0_; have HB := n1_; clear n0_ n1_; clear hb ho21))
     go_loopg [7, 8, 9] kj5 (fun kq v7 v8 v9 w' => ∃ (x7_2 : Int) (x8_2 : List (S28)) (x9_2 : Int), v7 = .int .i64 x7_2 ∧ v9 = .int .i64 x9_2 ∧ Aside0 (skiarealaw55_CensusParts.l0 kq l0 a1 a2 x7_2 x8_2 x9_2 = some true) ∧ Aside0 (kq ≤ kj5) ∧ Aside0 (Kd.R k28 28 w' w.heap.size (fun _ => True) v8 x8_2) ∧ Aside0 (Below w.heap.size w w'))
     case atStart => exact ⟨(t191), (y192), (0), (by first | rfl | (simp; done) | (simp [*]; done)), (by first | rfl | (simp; done) | (simp [*]; done)), H', ⟨Nat.le_refl _⟩, ⟨by (with_reducible repeat (first | apply Kd.R_alloc | apply Kd.R_drewN | apply Kd.R_drew)); exact HO194.out⟩, ⟨by repeat (first | (with_reducible first | exact HB.out | apply below_alloc | apply pw_below_drewN | apply below_drew1) | exact HB.out)⟩⟩
     case round =>
      clear H'
      try clear c1
      try clear p2
      try clear c3
      try clear c5
      try clear c8
      try clear c8b0
      try clear c8b1
      try clear c9
      try clear c10
      try clear c10b0
      try clear c10b1
      try clear c11
      try clear c11b0
      try clear c13
      try clear c13b0
      try clear c17
      try clear p2
      obtain ⟨x7_2, x8_2, x9_2, rfl, rfl, HA, HK2, HO_8, HB⟩ := hrel
      cases gk with
      | zero => exact absurd HA.out (by simp [skiarealaw55_CensusParts.l0])
      | succ k2 =>
       have H := HA.out
       clear HA
       simp only [skiarealaw55_CensusParts.l0] at H
       by_cases c22 : x9_2 < (l0.length : Int)
       ·rw [if_pos c22] at H
        have c22b0 : decide (x9_2 < (l0.length : Int)) = true := decide_eq_true c22
        clear c22
        have H' := a_ H
        clear H
        go_wp2
        go_loopg [10, 11] k2 (fun kq v10 v11 w' => ∃ (x10_3 : Bool) (x11_3 : Int), v10 = .bool x10_3 ∧ v11 = .int .i64 x11_3 ∧ Aside0 (skiarealaw55_CensusParts.l1 kq l0 a1 a2 x7_2 x8_2 x9_2 x10_3 x11_3 = some true) ∧ Aside0 (kq ≤ k2) ∧ Aside0 (Kd.R k28 28 w' w.heap.size (fun _ => True) u8 x8_2) ∧ Aside0 (Below w.heap.size w w'))
        case atStart => exact ⟨(false), (0), (by first | rfl | (simp; done) | (simp [*]; done)), (by first | rfl | (simp; done) | (simp [*]; done)), H', ⟨Nat.le_refl _⟩, ⟨by (with_reducible repeat (first | apply Kd.R_alloc | apply Kd.R_drewN | apply Kd.R_drew)); exact HO_8.out⟩, ⟨by repeat (first | (with_reducible first | exact HB.out | apply below_alloc | apply pw_below_drewN | apply below_drew1) | exact HB.out)⟩⟩
        case round =>
         clear H'
         try clear c1
         try clear c2
         try clear p2
         try clear c3
         try clear c5
         try clear c8
         try clear c8b0
         try clear c8b1
         try clear c9
         try clear c10
         try clear c10b0
         try clear c10b1
         try clear c11
         try clear c11b0
         try clear c13
         try clear c13b0
         try clear c17
         try clear c22
         try clear c22b0
         try clear p2
         obtain ⟨x10_3, x11_3, rfl, rfl, HA, HK3, HO_8, HB⟩ := hrel
         cases gk with
         | zero => exact absurd HA.out (by simp [skiarealaw55_CensusParts.l1])
         | succ k3 =>
          have H := HA.out
          clear HA
          simp only [skiarealaw55_CensusParts.l1] at H
          by_cases c23 : x11_3 < (x8_2.length : Int)
          ·rw [if_pos c23] at H
           have c23b0 : decide (x11_3 < (x8_2.length : Int)) = true := decide_eq_true c23
           clear c23
           by_cases c24 : x10_3 = true
           ·subst c24
            have H1 : (skiarealaw55_CensusParts.l1 k3 l0 a1 a2 x7_2 x8_2 x9_2 true (wrap64 (x11_3 + 1))) = some true := by rw [if_pos rfl] at H; exact H
            clear H
            have H := H1
            clear H1
            have H' := a_ H
            clear H
            obtain ⟨Ao25, co25, eo25⟩ := Kd.R_slice HO_8.out
            subst eo25
            try go_wp2
            have n0_ := a_ (Kd.R_drew HO_8.out)
            have n1_ := a_ (below_drew1 HB.out)
            clear HO_8
            clear HB
            have HO_8 := n0_
            have HB := n1_
            clear n0_ n1_
            refine start_ (n := 28) (S := fun w' => True) (ds := []) #[false, false, false, false, false, false, false, false, false, false, false, false, false, false, false, false, false, false, false, false, false, false, false, false, false, false, false, false] (by kernel_rfl) rfl rfl trivial (fun hHeld => ?_); refine with_tabW skiarealaw55_CensusParts.tab14 skiarealaw55_CensusParts.bits14 (fun HT_ HW_ => ?_)
            generalize wr.drew = w26 at HO_8 HB hHeld ⊢
            refine pq_ 0 (some 52) #[true, false, false, false, false, false, false, false, false, false, false, false, false, false, false, false, false, false, false, false, false, false, false, false, false, false, false, false] ?_
            refine pq_ 1 (some 53) #[true, true, false, false, false, false, false, false, false, false, false, false, false, false, false, false, false, false, false, false, false, false, false, false, false, false, false, false] ?_
            refine pure_ (i := 2) (N := some 54) (v := undef) (a' := ?_) #[true, true, true, false, false, false, false, false, false, false, false, false, false, false, false, false, false, false, false, false, false, false, false, false, false, false, false, false] rfl rfl (any_of HT_.out (by kernel_rfl)) (fun _ _ _ h => h) (Or.inr ⟨by rfl, rfl⟩) ?_ ?_
            rotate_left
            ·simp only [Act.put, List.setIfInBounds_toArray, List.set_cons_zero, List.set_cons_succ, i64_w, i32_w]
             rfl
            refine pure_ (i := 3) (N := some 55) (v := undef) (a' := ?_) #[true, true, true, true, false, false, false, false, false, false, false, false, false, false, false, false, false, false, false, false, false, false, false, false, false, false, false, false] rfl rfl (any_of HT_.out (by kernel_rfl)) (fun _ _ _ h => h) (Or.inr ⟨by rfl, rfl⟩) ?_ ?_
            rotate_left
            ·simp only [Act.put, List.setIfInBounds_toArray, List.set_cons_zero, List.set_cons_succ, i64_w, i32_w]
             rfl
            refine pure_ (i := 4) (N := some 56) (v := undef) (a' := ?_) #[true, true, true, true, true, false, false, false, false, false, false, false, false, false, false, false, false, false, false, false, false, false, false, false, false, false, false, false] rfl rfl (any_of HT_.out (by kernel_rfl)) (fun _ _ _ h => h) (Or.inr ⟨by rfl, rfl⟩) ?_ ?_
            rotate_left
            ·simp only [Act.put, List.setIfInBounds_toArray, List.set_cons_zero, List.set_cons_succ, i64_w, i32_w]
             rfl
            refine pure_ (i := 5) (N := some 57) (v := undef) (a' := ?_) #[true, true, true, true, true, true, false, false, false, false, false, false, false, false, false, false, false, false, false, false, false, false, false, false, false, false, false, false] rfl rfl (any_of HT_.out (by kernel_rfl)) (fun _ _ _ h => h) (Or.inr ⟨by rfl, rfl⟩) ?_ ?_
            rotate_left
            ·simp only [Act.put, List.setIfInBounds_toArray, List.set_cons_zero, List.set_cons_succ, i64_w, i32_w]
             rfl
            refine pure_ (i := 6) (N := some 58) (v := undef) (a' := ?_) #[true, true, true, true, true, true, true, false, false, false, false, false, false, false, false, false, false, false, false, false, false, false, false, false, false, false, false, false] rfl rfl (any_of HT_.out (by kernel_rfl)) (fun _ _ _ h => h) (Or.inr ⟨by rfl, rfl⟩) ?_ ?_
            rotate_left
            ·simp only [Act.put, List.setIfInBounds_toArray, List.set_cons_zero, List.set_cons_succ, i64_w, i32_w]
             rfl
            refine pure_ (i := 7) (N := some 59) (v := undef) (a' := ?_) #[true, true, true, true, true, true, true, true, false, false, false, false, false, false, false, false, false, false, false, false, false, false, false, false, false, false, false, false] rfl rfl (any_of HT_.out (by kernel_rfl)) (fun _ _ _ h => h) (Or.inr ⟨by rfl, rfl⟩) ?_ ?_
            rotate_left
            ·simp only [Act.put, List.setIfInBounds_toArray, List.set_cons_zero, List.set_cons_succ, i64_w, i32_w]
             rfl
            refine pure_ (i := 8) (N := some 60) (v := undef) (a' := ?_) #[true, true, true, true, true, true, true, true, true, false, false, false, false, false, false, false, false, false, false, false, false, false, false, false, false, false, false, false] rfl rfl (any_of HT_.out (by kernel_rfl)) (fun _ _ _ h => h) (Or.inr ⟨by rfl, rfl⟩) ?_ ?_
            rotate_left
            ·simp only [Act.put, List.setIfInBounds_toArray, List.set_cons_zero, List.set_cons_succ, i64_w, i32_w]
             rfl
            refine pure_ (i := 9) (N := some 61) (v := undef) (a' := ?_) #[true, true, true, true, true, true, true, true, true, true, false, false, false, false, false, false, false, false, false, false, false, false, false, false, false, false, false, false] rfl rfl (any_of HT_.out (by kernel_rfl)) (fun _ _ _ h => h) (Or.inr ⟨by rfl, rfl⟩) ?_ ?_
            rotate_left
            ·simp only [Act.put, List.setIfInBounds_toArray, List.set_cons_zero, List.set_cons_succ, i64_w, i32_w]
             rfl
            refine pure_ (i := 10) (N := some 62) (v := undef) (a' := ?_) #[true, true, true, true, true, true, true, true, true, true, true, false, false, false, false, false, false, false, false, false, false, false, false, false, false, false, false, false] rfl rfl (any_of HT_.out (by kernel_rfl)) (fun _ _ _ h => h) (Or.inr ⟨by rfl, rfl⟩) ?_ ?_
            rotate_left
            ·simp only [Act.put, List.setIfInBounds_toArray, List.set_cons_zero, List.set_cons_succ, i64_w, i32_w]
             rfl
            refine pure_ (i := 11) (N := some 63) (v := undef) (a' := ?_) #[true, true, true, true, true, true, true, true, true, true, true, true, false, false, false, false, false, false, false, false, false, false, false, false, false, false, false, false] rfl rfl (any_of HT_.out (by kernel_rfl)) (fun _ _ _ h => h) (Or.inr ⟨by rfl, rfl⟩) ?_ ?_
            rotate_left
            ·simp only [Act.put, List.setIfInBounds_toArray, List.set_cons_zero, List.set_cons_succ, i64_w, i32_w]
             rfl
            refine pure_ (i := 12) (N := some 64) (v := undef) (a' := ?_) #[true, true, true, true, true, true, true, true, true, true, true, true, true, false, false, false, false, false, false, false, false, false, false, false, false, false, false, false] rfl rfl (any_of HT_.out (by kernel_rfl)) (fun _ _ _ h => h) (Or.inr ⟨by rfl, rfl⟩) ?_ ?_
            rotate_left
            ·simp only [Act.put, List.setIfInBounds_toArray, List.set_cons_zero, List.set_cons_succ, i64_w, i32_w]
             rfl
            refine pure_ (i := 13) (N := some 65) (v := undef) (a' := ?_) #[true, true, true, true, true, true, true, true, true, true, true, true, true, true, false, false, false, false, false, false, false, false, false, false, false, false, false, false] rfl rfl (any_of HT_.out (by kernel_rfl)) (fun _ _ _ h => h) (Or.inr ⟨by rfl, rfl⟩) ?_ ?_
            rotate_left
            ·simp only [Act.put, List.setIfInBounds_toArray, List.set_cons_zero, List.set_cons_succ, i64_w, i32_w]
             rfl
            refine pure_ (i := 14) (N := some 66) (v := undef) (a' := ?_) #[true, true, true, true, true, true, true, true, true, true, true, true, true, true, true, false, false, false, false, false, false, false, false, false, false, false, false, false] rfl rfl (any_of HT_.out (by kernel_rfl)) (fun _ _ _ h => h) (Or.inr ⟨by rfl, rfl⟩) ?_ ?_
            rotate_left
            ·simp only [Act.put, List.setIfInBounds_toArray, List.set_cons_zero, List.set_cons_succ, i64_w, i32_w]
             rfl
            refine pure_ (i := 15) (N := some 67) (v := undef) (a' := ?_) #[true, true, true, true, true, true, true, true, true, true, true, true, true, true, true, true, false, false, false, false, false, false, false, false, false, false, false, false] rfl rfl (any_of HT_.out (by kernel_rfl)) (fun _ _ _ h => h) (Or.inr ⟨by rfl, rfl⟩) ?_ ?_
            rotate_left
            ·simp only [Act.put, List.setIfInBounds_toArray, List.set_cons_zero, List.set_cons_succ, i64_w, i32_w]
             rfl
            refine pure_ (i := 16) (N := some 68) (v := undef) (a' := ?_) #[true, true, true, true, true, true, true, true, true, true, true, true, true, true, true, true, true, false, false, false, false, false, false, false, false, false, false, false] rfl rfl (any_of HT_.out (by kernel_rfl)) (fun _ _ _ h => h) (Or.inr ⟨by rfl, rfl⟩) ?_ ?_
            rotate_left
            ·simp only [Act.put, List.setIfInBounds_toArray, List.set_cons_zero, List.set_cons_succ, i64_w, i32_w]
             rfl
            refine pure_ (i := 17) (N := some 69) (v := undef) (a' := ?_) #[true, true, true, true, true, true, true, true, true, true, true, true, true, true, true, true, true, true, false, false, false, false, false, false, false, false, false, false] rfl rfl (any_of HT_.out (by kernel_rfl)) (fun _ _ _ h => h) (Or.inr ⟨by rfl, rfl⟩) ?_ ?_
            rotate_left
            ·simp only [Act.put, List.setIfInBounds_toArray, List.set_cons_zero, List.set_cons_succ, i64_w, i32_w]
             rfl
            refine pure_ (i := 18) (N := some 70) (v := undef) (a' := ?_) #[true, true, true, true, true, true, true, true, true, true, true, true, true, true, true, true, true, true, true, false, false, false, false, false, false, false, false, false] rfl rfl (any_of HT_.out (by kernel_rfl)) (fun _ _ _ h => h) (Or.inr ⟨by rfl, rfl⟩) ?_ ?_
            rotate_left
            ·simp only [Act.put, List.setIfInBounds_toArray, List.set_cons_zero, List.set_cons_succ, i64_w, i32_w]
             rfl
            refine pure_ (i := 19) (N := some 71) (v := undef) (a' := ?_) #[true, true, true, true, true, true, true, true, true, true, true, true, true, true, true, true, true, true, true, true, false, false, false, false, false, false, false, false] rfl rfl (any_of HT_.out (by kernel_rfl)) (fun _ _ _ h => h) (Or.inr ⟨by rfl, rfl⟩) ?_ ?_
            rotate_left
            ·simp only [Act.put, List.setIfInBounds_toArray, List.set_cons_zero, List.set_cons_succ, i64_w, i32_w]
             rfl
            refine pure_ (i := 20) (N := some 72) (v := undef) (a' := ?_) #[true, true, true, true, true, true, true, true, true, true, true, true, true, true, true, true, true, true, true, true, true, false, false, false, false, false, false, false] rfl rfl (any_of HT_.out (by kernel_rfl)) (fun _ _ _ h => h) (Or.inr ⟨by rfl, rfl⟩) ?_ ?_
            rotate_left
            ·simp only [Act.put, List.setIfInBounds_toArray, List.set_cons_zero, List.set_cons_succ, i64_w, i32_w]
             rfl
            refine pure_ (i := 21) (N := some 73) (v := undef) (a' := ?_) #[true, true, true, true, true, true, true, true, true, true, true, true, true, true, true, true, true, true, true, true, true, true, false, false, false, false, false, false] rfl rfl (any_of HT_.out (by kernel_rfl)) (fun _ _ _ h => h) (Or.inr ⟨by rfl, rfl⟩) ?_ ?_
            rotate_left
            ·simp only [Act.put, List.setIfInBounds_toArray, List.set_cons_zero, List.set_cons_succ, i64_w, i32_w]
             rfl
            refine pure_ (i := 22) (N := some 74) (v := undef) (a' := ?_) #[true, true, true, true, true, true, true, true, true, true, true, true, true, true, true, true, true, true, true, true, true, true, true, false, false, false, false, false] rfl rfl (any_of HT_.out (by kernel_rfl)) (fun _ _ _ h => h) (Or.inr ⟨by rfl, rfl⟩) ?_ ?_
            rotate_left
            ·simp only [Act.put, List.setIfInBounds_toArray, List.set_cons_zero, List.set_cons_succ, i64_w, i32_w]
             rfl
            refine pure_ (i := 23) (N := some 75) (v := undef) (a' := ?_) #[true, true, true, true, true, true, true, true, true, true, true, true, true, true, true, true, true, true, true, true, true, true, true, true, false, false, false, false] rfl rfl (any_of HT_.out (by kernel_rfl)) (fun _ _ _ h => h) (Or.inr ⟨by rfl, rfl⟩) ?_ ?_
            rotate_left
            ·simp only [Act.put, List.setIfInBounds_toArray, List.set_cons_zero, List.set_cons_succ, i64_w, i32_w]
             rfl
            refine pure_ (i := 24) (N := some 76) (v := undef) (a' := ?_) #[true, true, true, true, true, true, true, true, true, true, true, true, true, true, true, true, true, true, true, true, true, true, true, true, true, false, false, false] rfl rfl (any_of HT_.out (by kernel_rfl)) (fun _ _ _ h => h) (Or.inr ⟨by rfl, rfl⟩) ?_ ?_
            rotate_left
            ·simp only [Act.put, List.setIfInBounds_toArray, List.set_cons_zero, List.set_cons_succ, i64_w, i32_w]
             rfl
            refine pure_ (i := 25) (N := some 77) (v := undef) (a' := ?_) #[true, true, true, true, true, true, true, true, true, true, true, true, true, true, true, true, true, true, true, true, true, true, true, true, true, true, false, false] rfl rfl (any_of HT_.out (by kernel_rfl)) (fun _ _ _ h => h) (Or.inr ⟨by rfl, rfl⟩) ?_ ?_
            rotate_left
            ·simp only [Act.put, List.setIfInBounds_toArray, List.set_cons_zero, List.set_cons_succ, i64_w, i32_w]
             rfl
            refine pq_ 26 (some 78) #[true, true, true, true, true, true, true, true, true, true, true, true, true, true, true, true, true, true, true, true, true, true, true, true, true, true, true, false] ?_
            refine pq_ 27 (some 10) #[true, true, true, true, true, true, true, true, true, true, true, true, true, true, true, true, true, true, true, true, true, true, true, true, true, true, true, true] ?_
            refine done_ (done_of HT_.out (by kernel_rfl)) ?_
            try go_wp2
            go_roundg k3
            case measure => have := HJ5.out; have := HK2.out; have := HK3.out; omega
            case rel => exact ⟨(true), (wrap64 (x11_3 + 1)), (by first | rfl | (simp; done) | (simp [*]; done)), (by first | rfl | (simp; done) | (simp [*]; done)), H', ⟨by have := HJ5.out; have := HK2.out; have := HK3.out; omega⟩, ⟨by (with_reducible repeat (first | apply Kd.R_alloc | apply Kd.R_drewN | apply Kd.R_drew)); exact HO_8.out⟩, ⟨by repeat (first | (with_reducible first | exact HB.out | apply below_alloc | apply pw_below_drewN | apply below_drew1) | exact HB.out)⟩⟩
           ·replace c24 := Bool.eq_false_iff.mpr c24
            subst c24
            have H1 : (if 0 ≤ x11_3 then (if 0 ≤ x9_2 then (if x9_2 < (l0.length : Int) then (if ((rd_T28 x8_2 x11_3).f0) = ((rd_T28 l0 x9_2).f0) then (skiarealaw55_CensusParts.l1 k3 l0 a1 a2 x7_2 x8_2 x9_2 (((rd_T28 x8_2 x11_3).f1) == ((rd_T28 l0 x9_2).f1)) (wrap64 (x11_3 + 1))) else (skiarealaw55_CensusParts.l1 k3 l0 a1 a2 x7_2 x8_2 x9_2 false (wrap64 (x11_3 + 1)))) else (none)) else (none)) else (none)) = some true := by rw [if_neg (show ¬ (false = true) by decide)] at H; exact H
            clear H
            have H := H1
            clear H1
            by_cases c27 : 0 ≤ x11_3
            ·rw [if_pos c27] at H
             have c27b0 : decide (0 ≤ x11_3) = true := decide_eq_true c27
             clear c27
             by_cases c28 : 0 ≤ x9_2
             ·rw [if_pos c28] at H
              have c28b0 : decide (0 ≤ x9_2) = true := decide_eq_true c28
              clear c28
              by_cases c29 : x9_2 < (l0.length : Int)
              ·rw [if_pos c29] at H
               have c29b0 : decide (x9_2 < (l0.length : Int)) = true := decide_eq_true c29
               clear c29
               by_cases c30 : ((rd_T28 x8_2 x11_3).f0) = ((rd_T28 l0 x9_2).f0)
               ·rw [if_pos c30] at H
                have c30b0 : (((rd_T28 x8_2 x11_3).f0) == ((rd_T28 l0 x9_2).f0)) = true := beq_iff_eq.mpr c30
                have c30b1 : (((rd_T28 x8_2 x11_3).f0) != ((rd_T28 l0 x9_2).f0)) = false := bne_eq_false_iff_eq.mpr c30
                clear c30
                have H' := a_ H
                clear H
                obtain ⟨Ao31, co31, eo31⟩ := Kd.R_slice HO_8.out
                subst eo31
                try go_wp2
                have n0_ := a_ (Kd.R_drew HO_8.out)
                have n1_ := a_ (below_drew1 HB.out)
                clear HO_8
                clear HB
                have HO_8 := n0_
                have HB := n1_
                clear n0_ n1_
                have p196 : 0 ≤ (x11_3 : Int) := od_
                have q196 : x11_3 < (x8_2.length : Int) := od_
                obtain ⟨ad196, e196, hx196_0, hx196_1, hx196_2, hx196_3⟩ := at_T28 (Kd.R_reads' HO_8.out).2.2 x11_3 p196 q196
                cases e196
                replace p196 := eq_true p196
                replace q196 := eq_true q196
                have p197 : 0 ≤ (x9_2 : Int) := od_
                have q197 : x9_2 < (l0.length : Int) := od_
                obtain ⟨ad197, e197, hx197_0, hx197_1, hx197_2, hx197_3⟩ := at_T28 HR0.out x9_2 p197 q197
                have hw197_3 := hx197_3
                have hw197_2 := hx197_2
                have hw197_1 := hx197_1
                have hw197_0 := hx197_0
                cases e197
                replace hx197_0 := pc_ hx197_0
                replace hx197_1 := pc_ hx197_1
                replace hx197_2 := pc_ hx197_2
                replace hx197_3 := pc_ hx197_3
                replace p197 := eq_true p197
                replace q197 := eq_true q197
                have p198 : 0 ≤ (x11_3 : Int) := od_
                have q198 : x11_3 < (x8_2.length : Int) := od_
                obtain ⟨ad198, e198, hx198_0, hx198_1, hx198_2, hx198_3⟩ := at_T28 (Kd.R_reads' HO_8.out).2.2 x11_3 p198 q198
                obtain rfl : ad196 = ad198 := (by injection e198)
                replace p198 := eq_true p198
                replace q198 := eq_true q198
                have p199 : 0 ≤ (x9_2 : Int) := od_
                have q199 : x9_2 < (l0.length : Int) := od_
                obtain ⟨ad199, e199, hx199_0, hx199_1, hx199_2, hx199_3⟩ := at_T28 HR0.out x9_2 p199 q199
                have hw199_3 := hx199_3
                have hw199_2 := hx199_2
                have hw199_1 := hx199_1
                have hw199_0 := hx199_0
                obtain rfl : ad197 = ad199 := (by injection e199)
                replace hx199_0 := pc_ hx199_0
                replace hx199_1 := pc_ hx199_1
                replace hx199_2 := pc_ hx199_2
                replace hx199_3 := pc_ hx199_3
                replace p199 := eq_true p199
                replace q199 := eq_true q199
                refine start_ (n := 28) (S := fun w' => w'.cell? (ad196.add ((x11_3).toNat * 4)) = some (.int .i64 ((rd_T28 x8_2 x11_3).f0)) ∧ w'.cell? ⟨(ad196.add ((x11_3).toNat * 4)).block, (ad196.add ((x11_3).toNat * 4)).off + 1, none⟩ = some (.int .i64 ((rd_T28 x8_2 x11_3).f1)) ∧ w'.cell? ⟨(ad196.add ((x11_3).toNat * 4)).block, (ad196.add ((x11_3).toNat * 4)).off + 2, none⟩ = some (.int .i64 ((rd_T28 x8_2 x11_3).f2)) ∧ w'.cell? ⟨(ad196.add ((x11_3).toNat * 4)).block, (ad196.add ((x11_3).toNat * 4)).off + 3, none⟩ = some (.int .i64 ((rd_T28 x8_2 x11_3).f3)) ∧ w'.cell? (ad197.add ((x9_2).toNat * 4)) = some (.int .i64 ((rd_T28 l0 x9_2).f0)) ∧ w'.cell? ⟨(ad197.add ((x9_2).toNat * 4)).block, (ad197.add ((x9_2).toNat * 4)).off + 1, none⟩ = some (.int .i64 ((rd_T28 l0 x9_2).f1)) ∧ w'.cell? ⟨(ad197.add ((x9_2).toNat * 4)).block, (ad197.add ((x9_2).toNat * 4)).off + 2, none⟩ = some (.int .i64 ((rd_T28 l0 x9_2).f2)) ∧ w'.cell? ⟨(ad197.add ((x9_2).toNat * 4)).block, (ad197.add ((x9_2).toNat * 4)).off + 3, none⟩ = some (.int .i64 ((rd_T28 l0 x9_2).f3)) ∧ w'.cell? (ad196.add ((x11_3).toNat * 4)) = some (.int .i64 ((rd_T28 x8_2 x11_3).f0)) ∧ w'.cell? ⟨(ad196.add ((x11_3).toNat * 4)).block, (ad196.add ((x11_3).toNat * 4)).off + 1, none⟩ = some (.int .i64 ((rd_T28 x8_2 x11_3).f1)) ∧ w'.cell? ⟨(ad196.add ((x11_3).toNat * 4)).block, (ad196.add ((x11_3).toNat * 4)).off + 2, none⟩ = some (.int .i64 ((rd_T28 x8_2 x11_3).f2)) ∧ w'.cell? ⟨(ad196.add ((x11_3).toNat * 4)).block, (ad196.add ((x11_3).toNat * 4)).off + 3, none⟩ = some (.int .i64 ((rd_T28 x8_2 x11_3).f3)) ∧ w'.cell? (ad197.add ((x9_2).toNat * 4)) = some (.int .i64 ((rd_T28 l0 x9_2).f0)) ∧ w'.cell? ⟨(ad197.add ((x9_2).toNat * 4)).block, (ad197.add ((x9_2).toNat * 4)).off + 1, none⟩ = some (.int .i64 ((rd_T28 l0 x9_2).f1)) ∧ w'.cell? ⟨(ad197.add ((x9_2).toNat * 4)).block, (ad197.add ((x9_2).toNat * 4)).off + 2, none⟩ = some (.int .i64 ((rd_T28 l0 x9_2).f2)) ∧ w'.cell? ⟨(ad197.add ((x9_2).toNat * 4)).block, (ad197.add ((x9_2).toNat * 4)).off + 3, none⟩ = some (.int .i64 ((rd_T28 l0 x9_2).f3))) (ds := []) #[false, false, false, false, false, false, false, false, false, false, false, false, false, false, false, false, false, false, false, false, false, false, false, false, false, false, false, false] (by kernel_rfl) rfl rfl ⟨hx196_0, hx196_1, hx196_2, hx196_3, (pw_cell_below HB.out hw197_0), (pw_cell_below HB.out hw197_1), (pw_cell_below HB.out hw197_2), (pw_cell_below HB.out hw197_3), hx198_0, hx198_1, hx198_2, hx198_3, (pw_cell_below HB.out hw199_0), (pw_cell_below HB.out hw199_1), (pw_cell_below HB.out hw199_2), (pw_cell_below HB.out hw199_3)⟩ (fun hHeld => ?_); refine with_tabW skiarealaw55_CensusParts.tab14 skiarealaw55_CensusParts.bits14 (fun HT_ HW_ => ?_)
                generalize wr.drew = w32 at HO_8 HB hx196_0 hx196_1 hx196_2 hx196_3 hx197_0 hx197_1 hx197_2 hx197_3 hx198_0 hx198_1 hx198_2 hx198_3 hx199_0 hx199_1 hx199_2 hx199_3 hHeld ⊢
                refine pq_ 0 (some 52) #[true, false, false, false, false, false, false, false, false, false, false, false, false, false, false, false, false, false, false, false, false, false, false, false, false, false, false, false] ?_
                refine pq_ 1 (some 53) #[true, true, false, false, false, false, false, false, false, false, false, false, false, false, false, false, false, false, false, false, false, false, false, false, false, false, false, false] ?_
                refine pq_ 2 (some 54) #[true, true, true, false, false, false, false, false, false, false, false, false, false, false, false, false, false, false, false, false, false, false, false, false, false, false, false, false] ?_
                refine pq_ 3 (some 55) #[true, true, true, true, false, false, false, false, false, false, false, false, false, false, false, false, false, false, false, false, false, false, false, false, false, false, false, false] ?_
                refine pq_ 4 (some 56) #[true, true, true, true, true, false, false, false, false, false, false, false, false, false, false, false, false, false, false, false, false, false, false, false, false, false, false, false] ?_
                refine pq_ 5 (some 57) #[true, true, true, true, true, true, false, false, false, false, false, false, false, false, false, false, false, false, false, false, false, false, false, false, false, false, false, false] ?_
                refine pq_ 7 (some 59) #[true, true, true, true, true, true, false, true, false, false, false, false, false, false, false, false, false, false, false, false, false, false, false, false, false, false, false, false] ?_
                refine pq_ 8 (some 60) #[true, true, true, true, true, true, false, true, true, false, false, false, false, false, false, false, false, false, false, false, false, false, false, false, false, false, false, false] ?_
                refine pq_ 9 (some 61) #[true, true, true, true, true, true, false, true, true, true, false, false, false, false, false, false, false, false, false, false, false, false, false, false, false, false, false, false] ?_
                refine pq_ 10 (some 62) #[true, true, true, true, true, true, false, true, true, true, true, false, false, false, false, false, false, false, false, false, false, false, false, false, false, false, false, false] ?_
                refine take_ (i := 6) (N := some 58) (v := ?_) (a' := ?_) #[true, true, true, true, true, true, true, true, true, true, true, false, false, false, false, false, false, false, false, false, false, false, false, false, false, false, false, false] rfl rfl (take_ofW HT_.out HW_.out (by kernel_rfl)) (fun _ _ _ h => h) (Or.inl ⟨by rfl, ?_⟩) hHeld ?_ ?_
                rotate_left
                ·rintro w' ⟨s0, s1, s2, s3, s4, s5, s6, s7, s8, s9, s10, s11, s12, s13, s14, s15⟩
                 go_simp
                 with_reducible rfl
                rotate_left
                ·simp only [Act.put, List.setIfInBounds_toArray, List.set_cons_zero, List.set_cons_succ, i64_w, i32_w]
                 rfl
                refine take_ (i := 11) (N := some 63) (v := ?_) (a' := ?_) #[true, true, true, true, true, true, true, true, true, true, true, true, false, false, false, false, false, false, false, false, false, false, false, false, false, false, false, false] rfl rfl (take_ofW HT_.out HW_.out (by kernel_rfl)) (fun _ _ _ h => h) (Or.inl ⟨by rfl, ?_⟩) hHeld ?_ ?_
                rotate_left
                ·rintro w' ⟨s0, s1, s2, s3, s4, s5, s6, s7, s8, s9, s10, s11, s12, s13, s14, s15⟩
                 go_simp
                 with_reducible rfl
                rotate_left
                ·simp only [Act.put, List.setIfInBounds_toArray, List.set_cons_zero, List.set_cons_succ, i64_w, i32_w]
                 rfl
                refine pq_ 12 (some 64) #[true, true, true, true, true, true, true, true, true, true, true, true, true, false, false, false, false, false, false, false, false, false, false, false, false, false, false, false] ?_
                refine pq_ 13 (some 65) #[true, true, true, true, true, true, true, true, true, true, true, true, true, true, false, false, false, false, false, false, false, false, false, false, false, false, false, false] ?_
                refine pq_ 14 (some 66) #[true, true, true, true, true, true, true, true, true, true, true, true, true, true, true, false, false, false, false, false, false, false, false, false, false, false, false, false] ?_
                refine pq_ 15 (some 67) #[true, true, true, true, true, true, true, true, true, true, true, true, true, true, true, true, false, false, false, false, false, false, false, false, false, false, false, false] ?_
                refine pq_ 16 (some 68) #[true, true, true, true, true, true, true, true, true, true, true, true, true, true, true, true, true, false, false, false, false, false, false, false, false, false, false, false] ?_
                refine pq_ 17 (some 69) #[true, true, true, true, true, true, true, true, true, true, true, true, true, true, true, true, true, true, false, false, false, false, false, false, false, false, false, false] ?_
                refine pq_ 19 (some 71) #[true, true, true, true, true, true, true, true, true, true, true, true, true, true, true, true, true, true, false, true, false, false, false, false, false, false, false, false] ?_
                refine pq_ 20 (some 72) #[true, true, true, true, true, true, true, true, true, true, true, true, true, true, true, true, true, true, false, true, true, false, false, false, false, false, false, false] ?_
                refine pq_ 21 (some 73) #[true, true, true, true, true, true, true, true, true, true, true, true, true, true, true, true, true, true, false, true, true, true, false, false, false, false, false, false] ?_
                refine pq_ 22 (some 74) #[true, true, true, true, true, true, true, true, true, true, true, true, true, true, true, true, true, true, false, true, true, true, true, false, false, false, false, false] ?_
                refine take_ (i := 18) (N := some 70) (v := ?_) (a' := ?_) #[true, true, true, true, true, true, true, true, true, true, true, true, true, true, true, true, true, true, true, true, true, true, true, false, false, false, false, false] rfl rfl (take_ofW HT_.out HW_.out (by kernel_rfl)) (fun _ _ _ h => h) (Or.inl ⟨by rfl, ?_⟩) hHeld ?_ ?_
                rotate_left
                ·rintro w' ⟨s0, s1, s2, s3, s4, s5, s6, s7, s8, s9, s10, s11, s12, s13, s14, s15⟩
                 go_simp
                 with_reducible rfl
                rotate_left
                ·simp only [Act.put, List.setIfInBounds_toArray, List.set_cons_zero, List.set_cons_succ, i64_w, i32_w]
                 rfl
                refine take_ (i := 23) (N := some 75) (v := ?_) (a' := ?_) #[true, true, true, true, true, true, true, true, true, true, true, true, true, true, true, true, true, true, true, true, true, true, true, true, false, false, false, false] rfl rfl (take_ofW HT_.out HW_.out (by kernel_rfl)) (fun _ _ _ h => h) (Or.inl ⟨by rfl, ?_⟩) hHeld ?_ ?_
                rotate_left
                ·rintro w' ⟨s0, s1, s2, s3, s4, s5, s6, s7, s8, s9, s10, s11, s12, s13, s14, s15⟩
                 go_simp
                 with_reducible rfl
                rotate_left
                ·simp only [Act.put, List.setIfInBounds_toArray, List.set_cons_zero, List.set_cons_succ, i64_w, i32_w]
                 rfl
                refine pq_ 24 (some 76) #[true, true, true, true, true, true, true, true, true, true, true, true, true, true, true, true, true, true, true, true, true, true, true, true, true, false, false, false] ?_
                refine pq_ 25 (some 77) #[true, true, true, true, true, true, true, true, true, true, true, true, true, true, true, true, true, true, true, true, true, true, true, true, true, true, false, false] ?_
                refine pq_ 26 (some 78) #[true, true, true, true, true, true, true, true, true, true, true, true, true, true, true, true, true, true, true, true, true, true, true, true, true, true, true, false] ?_
                refine pq_ 27 (some 10) #[true, true, true, true, true, true, true, true, true, true, true, true, true, true, true, true, true, true, true, true, true, true, true, true, true, true, true, true] ?_
                refine done_ (done_of HT_.out (by kernel_rfl)) ?_
                try go_wp2
                go_roundg k3
                case measure => have := HJ5.out; have := HK2.out; have := HK3.out; omega
                case rel => exact ⟨((((rd_T28 x8_2 x11_3).f1) == ((rd_T28 l0 x9_2).f1))), (wrap64 (x11_3 + 1)), (by first | rfl | (simp; done) | (simp [*]; done)), (by first | rfl | (simp; done) | (simp [*]; done)), H', ⟨by have := HJ5.out; have := HK2.out; have := HK3.out; omega⟩, ⟨by (with_reducible repeat (first | apply Kd.R_alloc | apply Kd.R_drewN | apply Kd.R_drew)); exact HO_8.out⟩, ⟨by repeat (first | (with_reducible first | exact HB.out | apply below_alloc | apply pw_below_drewN | apply below_drew1) | exact HB.out)⟩⟩
               ·rw [if_neg c30] at H
                have c30b0 : (((rd_T28 x8_2 x11_3).f0) == ((rd_T28 l0 x9_2).f0)) = false := beq_eq_false_iff_ne.mpr c30
                have c30b1 : (((rd_T28 x8_2 x11_3).f0) != ((rd_T28 l0 x9_2).f0)) = true := bne_iff_ne.mpr c30
                have H' := a_ H
                clear H
                obtain ⟨Ao33, co33, eo33⟩ := Kd.R_slice HO_8.out
                subst eo33
                try go_wp2
                have n0_ := a_ (Kd.R_drew HO_8.out)
                have n1_ := a_ (below_drew1 HB.out)
                clear HO_8
                clear HB
                have HO_8 := n0_
                have HB := n1_
                clear n0_ n1_
                have p196 : 0 ≤ (x11_3 : Int) := od_
                have q196 : x11_3 < (x8_2.length : Int) := od_
                obtain ⟨ad196, e196, hx196_0, hx196_1, hx196_2, hx196_3⟩ := at_T28 (Kd.R_reads' HO_8.out).2.2 x11_3 p196 q196
                cases e196
                replace p196 := eq_true p196
                replace q196 := eq_true q196
                have p197 : 0 ≤ (x9_2 : Int) := od_
                have q197 : x9_2 < (l0.length : Int) := od_
                obtain ⟨ad197, e197, hx197_0, hx197_1, hx197_2, hx197_3⟩ := at_T28 HR0.out x9_2 p197 q197
                have hw197_3 := hx197_3
                have hw197_2 := hx197_2
                have hw197_1 := hx197_1
                have hw197_0 := hx197_0
                cases e197
                replace hx197_0 := pc_ hx197_0
                replace hx197_1 := pc_ hx197_1
                replace hx197_2 := pc_ hx197_2
                replace hx197_3 := pc_ hx197_3
                replace p197 := eq_true p197
                replace q197 := eq_true q197
                refine start_ (n := 28) (S := fun w' => w'.cell? (ad196.add ((x11_3).toNat * 4)) = some (.int .i64 ((rd_T28 x8_2 x11_3).f0)) ∧ w'.cell? ⟨(ad196.add ((x11_3).toNat * 4)).block, (ad196.add ((x11_3).toNat * 4)).off + 1, none⟩ = some (.int .i64 ((rd_T28 x8_2 x11_3).f1)) ∧ w'.cell? ⟨(ad196.add ((x11_3).toNat * 4)).block, (ad196.add ((x11_3).toNat * 4)).off + 2, none⟩ = some (.int .i64 ((rd_T28 x8_2 x11_3).f2)) ∧ w'.cell? ⟨(ad196.add ((x11_3).toNat * 4)).block, (ad196.add ((x11_3).toNat * 4)).off + 3, none⟩ = some (.int .i64 ((rd_T28 x8_2 x11_3).f3)) ∧ w'.cell? (ad197.add ((x9_2).toNat * 4)) = some (.int .i64 ((rd_T28 l0 x9_2).f0)) ∧ w'.cell? ⟨(ad197.add ((x9_2).toNat * 4)).block, (ad197.add ((x9_2).toNat * 4)).off + 1, none⟩ = some (.int .i64 ((rd_T28 l0 x9_2).f1)) ∧ w'.cell? ⟨(ad197.add ((x9_2).toNat * 4)).block, (ad197.add ((x9_2).toNat * 4)).off + 2, none⟩ = some (.int .i64 ((rd_T28 l0 x9_2).f2)) ∧ w'.cell? ⟨(ad197.add ((x9_2).toNat * 4)).block, (ad197.add ((x9_2).toNat * 4)).off + 3, none⟩ = some (.int .i64 ((rd_T28 l0 x9_2).f3))) (ds := []) #[false, false, false, false, false, false, false, false, false, false, false, false, false, false, false, false, false, false, false, false, false, false, false, false, false, false, false, false] (by kernel_rfl) rfl rfl ⟨hx196_0, hx196_1, hx196_2, hx196_3, (pw_cell_below HB.out hw197_0), (pw_cell_below HB.out hw197_1), (pw_cell_below HB.out hw197_2), (pw_cell_below HB.out hw197_3)⟩ (fun hHeld => ?_); refine with_tabW skiarealaw55_CensusParts.tab14 skiarealaw55_CensusParts.bits14 (fun HT_ HW_ => ?_)
                generalize wr.drew = w34 at HO_8 HB hx196_0 hx196_1 hx196_2 hx196_3 hx197_0 hx197_1 hx197_2 hx197_3 hHeld ⊢
                refine pq_ 0 (some 52) #[true, false, false, false, false, false, false, false, false, false, false, false, false, false, false, false, false, false, false, false, false, false, false, false, false, false, false, false] ?_
                refine pq_ 1 (some 53) #[true, true, false, false, false, false, false, false, false, false, false, false, false, false, false, false, false, false, false, false, false, false, false, false, false, false, false, false] ?_
                refine pq_ 2 (some 54) #[true, true, true, false, false, false, false, false, false, false, false, false, false, false, false, false, false, false, false, false, false, false, false, false, false, false, false, false] ?_
                refine pq_ 3 (some 55) #[true, true, true, true, false, false, false, false, false, false, false, false, false, false, false, false, false, false, false, false, false, false, false, false, false, false, false, false] ?_
                refine pq_ 4 (some 56) #[true, true, true, true, true, false, false, false, false, false, false, false, false, false, false, false, false, false, false, false, false, false, false, false, false, false, false, false] ?_
                refine pq_ 5 (some 57) #[true, true, true, true, true, true, false, false, false, false, false, false, false, false, false, false, false, false, false, false, false, false, false, false, false, false, false, false] ?_
                refine pq_ 7 (some 59) #[true, true, true, true, true, true, false, true, false, false, false, false, false, false, false, false, false, false, false, false, false, false, false, false, false, false, false, false] ?_
                refine pq_ 8 (some 60) #[true, true, true, true, true, true, false, true, true, false, false, false, false, false, false, false, false, false, false, false, false, false, false, false, false, false, false, false] ?_
                refine pq_ 9 (some 61) #[true, true, true, true, true, true, false, true, true, true, false, false, false, false, false, false, false, false, false, false, false, false, false, false, false, false, false, false] ?_
                refine pq_ 10 (some 62) #[true, true, true, true, true, true, false, true, true, true, true, false, false, false, false, false, false, false, false, false, false, false, false, false, false, false, false, false] ?_
                refine take_ (i := 6) (N := some 58) (v := ?_) (a' := ?_) #[true, true, true, true, true, true, true, true, true, true, true, false, false, false, false, false, false, false, false, false, false, false, false, false, false, false, false, false] rfl rfl (take_ofW HT_.out HW_.out (by kernel_rfl)) (fun _ _ _ h => h) (Or.inl ⟨by rfl, ?_⟩) hHeld ?_ ?_
                rotate_left
                ·rintro w' ⟨s0, s1, s2, s3, s4, s5, s6, s7⟩
                 go_simp
                 with_reducible rfl
                rotate_left
                ·simp only [Act.put, List.setIfInBounds_toArray, List.set_cons_zero, List.set_cons_succ, i64_w, i32_w]
                 rfl
                refine take_ (i := 11) (N := some 63) (v := ?_) (a' := ?_) #[true, true, true, true, true, true, true, true, true, true, true, true, false, false, false, false, false, false, false, false, false, false, false, false, false, false, false, false] rfl rfl (take_ofW HT_.out HW_.out (by kernel_rfl)) (fun _ _ _ h => h) (Or.inl ⟨by rfl, ?_⟩) hHeld ?_ ?_
                rotate_left
                ·rintro w' ⟨s0, s1, s2, s3, s4, s5, s6, s7⟩
                 go_simp
                 with_reducible rfl
                rotate_left
                ·simp only [Act.put, List.setIfInBounds_toArray, List.set_cons_zero, List.set_cons_succ, i64_w, i32_w]
                 rfl
                refine pq_ 12 (some 64) #[true, true, true, true, true, true, true, true, true, true, true, true, true, false, false, false, false, false, false, false, false, false, false, false, false, false, false, false] ?_
                refine pq_ 13 (some 65) #[true, true, true, true, true, true, true, true, true, true, true, true, true, true, false, false, false, false, false, false, false, false, false, false, false, false, false, false] ?_
                refine pure_ (i := 14) (N := some 66) (v := undef) (a' := ?_) #[true, true, true, true, true, true, true, true, true, true, true, true, true, true, true, false, false, false, false, false, false, false, false, false, false, false, false, false] rfl rfl (any_of HT_.out (by kernel_rfl)) (fun _ _ _ h => h) (Or.inr ⟨by rfl, rfl⟩) ?_ ?_
                rotate_left
                ·simp only [Act.put, List.setIfInBounds_toArray, List.set_cons_zero, List.set_cons_succ, i64_w, i32_w]
                 rfl
                refine pure_ (i := 15) (N := some 67) (v := undef) (a' := ?_) #[true, true, true, true, true, true, true, true, true, true, true, true, true, true, true, true, false, false, false, false, false, false, false, false, false, false, false, false] rfl rfl (any_of HT_.out (by kernel_rfl)) (fun _ _ _ h => h) (Or.inr ⟨by rfl, rfl⟩) ?_ ?_
                rotate_left
                ·simp only [Act.put, List.setIfInBounds_toArray, List.set_cons_zero, List.set_cons_succ, i64_w, i32_w]
                 rfl
                refine pure_ (i := 16) (N := some 68) (v := undef) (a' := ?_) #[true, true, true, true, true, true, true, true, true, true, true, true, true, true, true, true, true, false, false, false, false, false, false, false, false, false, false, false] rfl rfl (any_of HT_.out (by kernel_rfl)) (fun _ _ _ h => h) (Or.inr ⟨by rfl, rfl⟩) ?_ ?_
                rotate_left
                ·simp only [Act.put, List.setIfInBounds_toArray, List.set_cons_zero, List.set_cons_succ, i64_w, i32_w]
                 rfl
                refine pure_ (i := 17) (N := some 69) (v := undef) (a' := ?_) #[true, true, true, true, true, true, true, true, true, true, true, true, true, true, true, true, true, true, false, false, false, false, false, false, false, false, false, false] rfl rfl (any_of HT_.out (by kernel_rfl)) (fun _ _ _ h => h) (Or.inr ⟨by rfl, rfl⟩) ?_ ?_
                rotate_left
                ·simp only [Act.put, List.setIfInBounds_toArray, List.set_cons_zero, List.set_cons_succ, i64_w, i32_w]
                 rfl
                refine pure_ (i := 18) (N := some 70) (v := undef) (a' := ?_) #[true, true, true, true, true, true, true, true, true, true, true, true, true, true, true, true, true, true, true, false, false, false, false, false, false, false, false, false] rfl rfl (any_of HT_.out (by kernel_rfl)) (fun _ _ _ h => h) (Or.inr ⟨by rfl, rfl⟩) ?_ ?_
                rotate_left
                ·simp only [Act.put, List.setIfInBounds_toArray, List.set_cons_zero, List.set_cons_succ, i64_w, i32_w]
                 rfl
                refine pure_ (i := 19) (N := some 71) (v := undef) (a' := ?_) #[true, true, true, true, true, true, true, true, true, true, true, true, true, true, true, true, true, true, true, true, false, false, false, false, false, false, false, false] rfl rfl (any_of HT_.out (by kernel_rfl)) (fun _ _ _ h => h) (Or.inr ⟨by rfl, rfl⟩) ?_ ?_
                rotate_left
                ·simp only [Act.put, List.setIfInBounds_toArray, List.set_cons_zero, List.set_cons_succ, i64_w, i32_w]
                 rfl
                refine pure_ (i := 20) (N := some 72) (v := undef) (a' := ?_) #[true, true, true, true, true, true, true, true, true, true, true, true, true, true, true, true, true, true, true, true, true, false, false, false, false, false, false, false] rfl rfl (any_of HT_.out (by kernel_rfl)) (fun _ _ _ h => h) (Or.inr ⟨by rfl, rfl⟩) ?_ ?_
                rotate_left
                ·simp only [Act.put, List.setIfInBounds_toArray, List.set_cons_zero, List.set_cons_succ, i64_w, i32_w]
                 rfl
                refine pure_ (i := 21) (N := some 73) (v := undef) (a' := ?_) #[true, true, true, true, true, true, true, true, true, true, true, true, true, true, true, true, true, true, true, true, true, true, false, false, false, false, false, false] rfl rfl (any_of HT_.out (by kernel_rfl)) (fun _ _ _ h => h) (Or.inr ⟨by rfl, rfl⟩) ?_ ?_
                rotate_left
                ·simp only [Act.put, List.setIfInBounds_toArray, List.set_cons_zero, List.set_cons_succ, i64_w, i32_w]
                 rfl
                refine pure_ (i := 22) (N := some 74) (v := undef) (a' := ?_) #[true, true, true, true, true, true, true, true, true, true, true, true, true, true, true, true, true, true, true, true, true, true, true, false, false, false, false, false] rfl rfl (any_of HT_.out (by kernel_rfl)) (fun _ _ _ h => h) (Or.inr ⟨by rfl, rfl⟩) ?_ ?_
                rotate_left
                ·simp only [Act.put, List.setIfInBounds_toArray, List.set_cons_zero, List.set_cons_succ, i64_w, i32_w]
                 rfl
                refine pure_ (i := 23) (N := some 75) (v := undef) (a' := ?_) #[true, true, true, true, true, true, true, true, true, true, true, true, true, true, true, true, true, true, true, true, true, true, true, true, false, false, false, false] rfl rfl (any_of HT_.out (by kernel_rfl)) (fun _ _ _ h => h) (Or.inr ⟨by rfl, rfl⟩) ?_ ?_
                rotate_left
                ·simp only [Act.put, List.setIfInBounds_toArray, List.set_cons_zero, List.set_cons_succ, i64_w, i32_w]
                 rfl
                refine pure_ (i := 24) (N := some 76) (v := undef) (a' := ?_) #[true, true, true, true, true, true, true, true, true, true, true, true, true, true, true, true, true, true, true, true, true, true, true, true, true, false, false, false] rfl rfl (any_of HT_.out (by kernel_rfl)) (fun _ _ _ h => h) (Or.inr ⟨by rfl, rfl⟩) ?_ ?_
                rotate_left
                ·simp only [Act.put, List.setIfInBounds_toArray, List.set_cons_zero, List.set_cons_succ, i64_w, i32_w]
                 rfl
                refine pq_ 25 (some 77) #[true, true, true, true, true, true, true, true, true, true, true, true, true, true, true, true, true, true, true, true, true, true, true, true, true, true, false, false] ?_
                refine pq_ 26 (some 78) #[true, true, true, true, true, true, true, true, true, true, true, true, true, true, true, true, true, true, true, true, true, true, true, true, true, true, true, false] ?_
                refine pq_ 27 (some 10) #[true, true, true, true, true, true, true, true, true, true, true, true, true, true, true, true, true, true, true, true, true, true, true, true, true, true, true, true] ?_
                refine done_ (done_of HT_.out (by kernel_rfl)) ?_
                try go_wp2
                go_roundg k3
                case measure => have := HJ5.out; have := HK2.out; have := HK3.out; omega
                case rel => exact ⟨(false), (wrap64 (x11_3 + 1)), (by first | rfl | (simp; done) | (simp [*]; done)), (by first | rfl | (simp; done) | (simp [*]; done)), H', ⟨by have := HJ5.out; have := HK2.out; have := HK3.out; omega⟩, ⟨by (with_reducible repeat (first | apply Kd.R_alloc | apply Kd.R_drewN | apply Kd.R_drew)); exact HO_8.out⟩, ⟨by repeat (first | (with_reducible first | exact HB.out | apply below_alloc | apply pw_below_drewN | apply below_drew1) | exact HB.out)⟩⟩
              ·rw [if_neg c29] at H
               exact absurd H (by simp)
             ·rw [if_neg c28] at H
              exact absurd H (by simp)
            ·rw [if_neg c27] at H
             exact absurd H (by simp)
          ·rw [if_neg c23] at H
           have c23b0 : decide (x11_3 < (x8_2.length : Int)) = false := decide_eq_false c23
           clear c23
           by_cases c35 : x10_3 = true
           ·subst c35
            have H1 : (skiarealaw55_CensusParts.l0 k3 l0 a1 a2 x7_2 x8_2 (wrap64 (x9_2 + 1))) = some true := by rw [if_pos rfl] at H; exact H
            clear H
            have H := H1
            clear H1
            have H' := a_ H
            clear H
            obtain ⟨Ao36, co36, eo36⟩ := Kd.R_slice HO_8.out
            subst eo36
            go_wp2
            go_roundg k3
            case measure => have := HJ5.out; have := HK2.out; have := HK3.out; omega
            case rel => exact ⟨(x7_2), (x8_2), (wrap64 (x9_2 + 1)), (by first | rfl | (simp; done) | (simp [*]; done)), (by first | rfl | (simp; done) | (simp [*]; done)), H', ⟨by have := HJ5.out; have := HK2.out; have := HK3.out; omega⟩, ⟨by (with_reducible repeat (first | apply Kd.R_alloc | apply Kd.R_drewN | apply Kd.R_drew)); exact HO_8.out⟩, ⟨by repeat (first | (with_reducible first | exact HB.out | apply below_alloc | apply pw_below_drewN | apply below_drew1) | exact HB.out)⟩⟩
           ·replace c35 := Bool.eq_false_iff.mpr c35
            subst c35
            have H1 : (if 0 ≤ x9_2 then (if x9_2 < (l0.length : Int) then (if x8_2.length < 4398046511104 then ((some (x8_2 ++ [(⟨(rd_T28 l0 x9_2).f0, (rd_T28 l0 x9_2).f1, (rd_T28 l0 x9_2).f2, (rd_T28 l0 x9_2).f3⟩ : S28)] : List (S28))).bind fun y201 => ((census_Count.f k3 l0 ((rd_T28 l0 x9_2).f0) ((rd_T28 l0 x9_2).f1) (wrap64 (a1 + 1)) (wrap64 (a2 + 1))).bind fun t206 => (if ((rd_T28 l0 x9_2).f0) = 1 then (skiarealaw55_CensusParts.l0 k3 l0 a1 a2 (wrap64 (x7_2 + t206)) y201 (wrap64 (x9_2 + 1))) else (skiarealaw55_CensusParts.l0 k3 l0 a1 a2 (wrap64 (x7_2 - t206)) y201 (wrap64 (x9_2 + 1)))))) else (none)) else (none)) else (none)) = some true := by rw [if_neg (show ¬ (false = true) by decide)] at H; exact H
            clear H
            have H := H1
            clear H1
            by_cases c37 : 0 ≤ x9_2
            ·rw [if_pos c37] at H
             have c37b0 : decide (0 ≤ x9_2) = true := decide_eq_true c37
             clear c37
             by_cases c38 : x9_2 < (l0.length : Int)
             ·rw [if_pos c38] at H
              have c38b0 : decide (x9_2 < (l0.length : Int)) = true := decide_eq_true c38
              clear c38
              by_cases c39 : x8_2.length < 4398046511104
              ·rw [if_pos c39] at H
               have LMc39 := a_ c39
               clear c39
               obtain ⟨y201, hy201⟩ : ∃ y_ : List (S28), y_ = (x8_2 ++ [(⟨(rd_T28 l0 x9_2).f0, (rd_T28 l0 x9_2).f1, (rd_T28 l0 x9_2).f2, (rd_T28 l0 x9_2).f3⟩ : S28)]) := ⟨_, rfl⟩
               replace H : ((census_Count.f k3 l0 ((rd_T28 l0 x9_2).f0) ((rd_T28 l0 x9_2).f1) (wrap64 (a1 + 1)) (wrap64 (a2 + 1))).bind fun t206 => (if ((rd_T28 l0 x9_2).f0) = 1 then (skiarealaw55_CensusParts.l0 k3 l0 a1 a2 (wrap64 (x7_2 + t206)) y201 (wrap64 (x9_2 + 1))) else (skiarealaw55_CensusParts.l0 k3 l0 a1 a2 (wrap64 (x7_2 - t206)) y201 (wrap64 (x9_2 + 1))))) = some true := by first | (rw [hy201]; with_reducible exact H) | (have H2_ := (Option.bind_some _ _).symm.trans H; rw [hy201]; with_reducible exact H2_) | (have H2_ := (Option.bind_some _ _).symm.trans H; with_reducible exact H2_) | with_reducible exact H | (rw [hy201]; exact H) | exact H
               have Ny201 := a_ hy201
               clear hy201
               replace H := Option.bind_eq_some_iff.mp H
               obtain ⟨t206, A400, H⟩ := H
               replace H : (if ((rd_T28 l0 x9_2).f0) = 1 then (skiarealaw55_CensusParts.l0 k3 l0 a1 a2 (wrap64 (x7_2 + t206)) y201 (wrap64 (x9_2 + 1))) else (skiarealaw55_CensusParts.l0 k3 l0 a1 a2 (wrap64 (x7_2 - t206)) y201 (wrap64 (x9_2 + 1)))) = some true := H
               have A40 := a_ A400
               clear A400
               by_cases c41 : ((rd_T28 l0 x9_2).f0) = 1
               ·rw [if_pos c41] at H
                have c41b0 : (((rd_T28 l0 x9_2).f0) == 1) = true := beq_iff_eq.mpr c41
                have c41b1 : (((rd_T28 l0 x9_2).f0) != 1) = false := bne_eq_false_iff_eq.mpr c41
                clear c41
                have H' := a_ H
                clear H
                obtain ⟨Ao42, co42, eo42⟩ := Kd.R_slice HO_8.out
                subst eo42
                have p200 : 0 ≤ (x9_2 : Int) := od_
                have q200 : x9_2 < (l0.length : Int) := od_
                obtain ⟨ad200, e200, hx200_0, hx200_1, hx200_2, hx200_3⟩ := at_T28 HR0.out x9_2 p200 q200
                cases e200
                replace hx200_0 := pc_ hx200_0
                replace hx200_1 := pc_ hx200_1
                replace hx200_2 := pc_ hx200_2
                replace hx200_3 := pc_ hx200_3
                replace p200 := eq_true p200
                replace q200 := eq_true q200
                try go_wp2_with (first | ((with_reducible refine gate_builtin (b := .append) (xs := #[.tmp 80, .tmp 85]) rfl ?_); at_builtin; refine Kd.R_append k28 (w0 := w) w.heap.size rfl (.tmp 80) (.tmp 85) 22 28 (.agg #[(.int .i64 0), (.int .i64 0), (.int .i64 0), (.int .i64 0)]) 32 rfl Try.underlying22 info28 rfl (by decide) (by omega) (.slice Ao42 x8_2.length co42) x8_2 (⟨(rd_T28 l0 x9_2).f0, (rd_T28 l0 x9_2).f1, (rd_T28 l0 x9_2).f2, (rd_T28 l0 x9_2).f3⟩ : S28) [.int .i64 ((rd_T28 l0 x9_2).f0), .int .i64 ((rd_T28 l0 x9_2).f1), .int .i64 ((rd_T28 l0 x9_2).f2), .int .i64 ((rd_T28 l0 x9_2).f3)] (fun _ => True) (fun _ => False) rfl rfl ?aP (fun _ hk => hk.elim) ?aF ?aO ?aB ?aS ?aL ?_; (case aP => exact k28_mkM _ _ _ (⟨(rd_T28 l0 x9_2).f0, (rd_T28 l0 x9_2).f1, (rd_T28 l0 x9_2).f2, (rd_T28 l0 x9_2).f3⟩ : S28)); (case aB => exact bel_); (case aF => exact (fun _ _ => trivial)); (case aO => exact (kR_ HO_8.out)); (case aS => exact (below_size bel_)); (case aL => have := LMc39.out; omega); intro v202 w43 ho hb hg hat; rw [← Ny201.out] at ho; have n0_ := a_ (hb); have n1_ := a_ (ho); clear HB; clear HO_8; have HB := n0_; have HO203 := n1_; clear n0_ n1_; clear ho hb hg hat))
                have n0_ := a_ (Kd.R_drew HO203.out)
                have n1_ := a_ (below_drew1 HB.out)
                clear HO203
                clear HB
                have HO203 := n0_
                have HB := n1_
                clear n0_ n1_
                have p204 : 0 ≤ (x9_2 : Int) := od_
                have q204 : x9_2 < (l0.length : Int) := od_
                obtain ⟨ad204, e204, hx204_0, hx204_1, hx204_2, hx204_3⟩ := at_T28 HR0.out x9_2 p204 q204
                have hw204_3 := hx204_3
                have hw204_2 := hx204_2
                have hw204_1 := hx204_1
                have hw204_0 := hx204_0
                obtain rfl : ad200 = ad204 := (by injection e204)
                replace hx204_0 := pc_ hx204_0
                replace hx204_1 := pc_ hx204_1
                replace hx204_2 := pc_ hx204_2
                replace hx204_3 := pc_ hx204_3
                replace p204 := eq_true p204
                replace q204 := eq_true q204
                have p205 : 0 ≤ (x9_2 : Int) := od_
                have q205 : x9_2 < (l0.length : Int) := od_
                obtain ⟨ad205, e205, hx205_0, hx205_1, hx205_2, hx205_3⟩ := at_T28 HR0.out x9_2 p205 q205
                have hw205_3 := hx205_3
                have hw205_2 := hx205_2
                have hw205_1 := hx205_1
                have hw205_0 := hx205_0
                obtain rfl : ad200 = ad205 := (by injection e205)
                replace hx205_0 := pc_ hx205_0
                replace hx205_1 := pc_ hx205_1
                replace hx205_2 := pc_ hx205_2
                replace hx205_3 := pc_ hx205_3
                replace p205 := eq_true p205
                replace q205 := eq_true q205
                refine start_ (n := 18) (S := fun w' => w'.cell? (ad200.add ((x9_2).toNat * 4)) = some (.int .i64 ((rd_T28 l0 x9_2).f0)) ∧ w'.cell? ⟨(ad200.add ((x9_2).toNat * 4)).block, (ad200.add ((x9_2).toNat * 4)).off + 1, none⟩ = some (.int .i64 ((rd_T28 l0 x9_2).f1)) ∧ w'.cell? ⟨(ad200.add ((x9_2).toNat * 4)).block, (ad200.add ((x9_2).toNat * 4)).off + 2, none⟩ = some (.int .i64 ((rd_T28 l0 x9_2).f2)) ∧ w'.cell? ⟨(ad200.add ((x9_2).toNat * 4)).block, (ad200.add ((x9_2).toNat * 4)).off + 3, none⟩ = some (.int .i64 ((rd_T28 l0 x9_2).f3)) ∧ w'.cell? (ad200.add ((x9_2).toNat * 4)) = some (.int .i64 ((rd_T28 l0 x9_2).f0)) ∧ w'.cell? ⟨(ad200.add ((x9_2).toNat * 4)).block, (ad200.add ((x9_2).toNat * 4)).off + 1, none⟩ = some (.int .i64 ((rd_T28 l0 x9_2).f1)) ∧ w'.cell? ⟨(ad200.add ((x9_2).toNat * 4)).block, (ad200.add ((x9_2).toNat * 4)).off + 2, none⟩ = some (.int .i64 ((rd_T28 l0 x9_2).f2)) ∧ w'.cell? ⟨(ad200.add ((x9_2).toNat * 4)).block, (ad200.add ((x9_2).toNat * 4)).off + 3, none⟩ = some (.int .i64 ((rd_T28 l0 x9_2).f3))) (ds := []) #[false, false, false, false, false, false, false, false, false, false, false, false, false, false, false, false, false, false] (by kernel_rfl) rfl rfl ⟨(pw_cell_below HB.out hw204_0), (pw_cell_below HB.out hw204_1), (pw_cell_below HB.out hw204_2), (pw_cell_below HB.out hw204_3), (pw_cell_below HB.out hw205_0), (pw_cell_below HB.out hw205_1), (pw_cell_below HB.out hw205_2), (pw_cell_below HB.out hw205_3)⟩ (fun hHeld => ?_); refine with_tabW skiarealaw55_CensusParts.tab17 skiarealaw55_CensusParts.bits17 (fun HT_ HW_ => ?_)
                generalize w43.drew = w44 at HO203 HB hx204_0 hx204_1 hx204_2 hx204_3 hx205_0 hx205_1 hx205_2 hx205_3 hHeld ⊢
                refine pq_ 0 (some 87) #[true, false, false, false, false, false, false, false, false, false, false, false, false, false, false, false, false, false] ?_
                refine pq_ 1 (some 88) #[true, true, false, false, false, false, false, false, false, false, false, false, false, false, false, false, false, false] ?_
                refine pq_ 2 (some 89) #[true, true, true, false, false, false, false, false, false, false, false, false, false, false, false, false, false, false] ?_
                refine pq_ 3 (some 90) #[true, true, true, true, false, false, false, false, false, false, false, false, false, false, false, false, false, false] ?_
                refine pq_ 4 (some 91) #[true, true, true, true, true, false, false, false, false, false, false, false, false, false, false, false, false, false] ?_
                refine pq_ 6 (some 93) #[true, true, true, true, true, false, true, false, false, false, false, false, false, false, false, false, false, false] ?_
                refine pq_ 7 (some 94) #[true, true, true, true, true, false, true, true, false, false, false, false, false, false, false, false, false, false] ?_
                refine pq_ 8 (some 95) #[true, true, true, true, true, false, true, true, true, false, false, false, false, false, false, false, false, false] ?_
                refine pq_ 9 (some 96) #[true, true, true, true, true, false, true, true, true, true, false, false, false, false, false, false, false, false] ?_
                refine pq_ 11 (some 98) #[true, true, true, true, true, false, true, true, true, true, false, true, false, false, false, false, false, false] ?_
                refine pq_ 12 (some 99) #[true, true, true, true, true, false, true, true, true, true, false, true, true, false, false, false, false, false] ?_
                refine pq_ 13 (some 100) #[true, true, true, true, true, false, true, true, true, true, false, true, true, true, false, false, false, false] ?_
                refine pq_ 14 (some 101) #[true, true, true, true, true, false, true, true, true, true, false, true, true, true, true, false, false, false] ?_
                refine pq_ 15 (some 102) #[true, true, true, true, true, false, true, true, true, true, false, true, true, true, true, true, false, false] ?_
                refine take_ (i := 5) (N := some 92) (v := ?_) (a' := ?_) #[true, true, true, true, true, true, true, true, true, true, false, true, true, true, true, true, false, false] rfl rfl (take_ofW HT_.out HW_.out (by kernel_rfl)) (fun _ _ _ h => h) (Or.inl ⟨by rfl, ?_⟩) hHeld ?_ ?_
                rotate_left
                ·rintro w' ⟨s0, s1, s2, s3, s4, s5, s6, s7⟩
                 go_simp
                 with_reducible rfl
                rotate_left
                ·simp only [Act.put, List.setIfInBounds_toArray, List.set_cons_zero, List.set_cons_succ, i64_w, i32_w]
                 rfl
                refine take_ (i := 10) (N := some 97) (v := ?_) (a' := ?_) #[true, true, true, true, true, true, true, true, true, true, true, true, true, true, true, true, false, false] rfl rfl (take_ofW HT_.out HW_.out (by kernel_rfl)) (fun _ _ _ h => h) (Or.inl ⟨by rfl, ?_⟩) hHeld ?_ ?_
                rotate_left
                ·rintro w' ⟨s0, s1, s2, s3, s4, s5, s6, s7⟩
                 go_simp
                 with_reducible rfl
                rotate_left
                ·simp only [Act.put, List.setIfInBounds_toArray, List.set_cons_zero, List.set_cons_succ, i64_w, i32_w]
                 rfl
                refine one_ (i := 16) (N := some 103) #[true, true, true, true, true, true, true, true, true, true, true, true, true, true, true, true, true, false] rfl rfl (one_of HT_.out (by kernel_rfl)) (by decide) (fun K hK => ?_)
                refine goes_ Try.func12 (by kernel_rfl) rfl #[.slice (some ad200) l0.length c0, .int .i64 ((rd_T28 l0 x9_2).f0), .int .i64 ((rd_T28 l0 x9_2).f1), .agg #[.int .i64 (wrap64 (a1 + 1)), .int .i64 (wrap64 (a2 + 1))]] (by rfl) rfl rfl (by (try simp only [List.map_toArray, List.map_cons, List.map_nil]); first | done | rfl | (simp only [List.length_drop, List.length_take]; rfl)) ?_
                with_reducible refine (census_Count.calls k3 _ _ l0 ((rd_T28 l0 x9_2).f0) ((rd_T28 l0 x9_2).f1) (wrap64 (a1 + 1)) (wrap64 (a2 + 1)) t206 _ ?side1 ?side2 A40.out).mono ?_
                (case side1 => exact kC_ (Kd.C_below HR0.out HB.out))
                (case side2 => exact HC0.out)
                rintro e w45 ⟨rfl, hb⟩
                refine ⟨_, rfl, ?_⟩
                have n0_ := a_ (Kd.R_below (kR_ HO203.out) hb)
                have n1_ := a_ (below_step bel_ hb)
                clear HO203
                clear HB
                have HO203 := n0_
                have HB := n1_
                clear n0_ n1_
                (try clear hb)
                (try clear hb2)
                (try clear hk)
                (try clear hi)
                refine hK.out _ _ ⟨(pw_cell_below HB.out hw204_0), (pw_cell_below HB.out hw204_1), (pw_cell_below HB.out hw204_2), (pw_cell_below HB.out hw204_3), (pw_cell_below HB.out hw205_0), (pw_cell_below HB.out hw205_1), (pw_cell_below HB.out hw205_2), (pw_cell_below HB.out hw205_3)⟩ (fun hHeld => ?_)
                clear hK K
                refine norm_ (a' := ?_) ?_ ?_
                rotate_left
                ·show Act.put _ (some 103) _ = _
                 simp only [Act.put, List.setIfInBounds_toArray, List.set_cons_zero, List.set_cons_succ, i64_w, i32_w]
                 rfl
                refine pq_ 17 (some 12) #[true, true, true, true, true, true, true, true, true, true, true, true, true, true, true, true, true, true] ?_
                refine done_ (done_of HT_.out (by kernel_rfl)) ?_
                have p207 : 0 ≤ (x9_2 : Int) := od_
                have q207 : x9_2 < (l0.length : Int) := od_
                obtain ⟨ad207, e207, hx207_0, hx207_1, hx207_2, hx207_3⟩ := at_T28 HR0.out x9_2 p207 q207
                obtain rfl : ad200 = ad207 := (by injection e207)
                replace hx207_0 := pc_ hx207_0
                replace hx207_1 := pc_ hx207_1
                replace hx207_2 := pc_ hx207_2
                replace hx207_3 := pc_ hx207_3
                replace p207 := eq_true p207
                replace q207 := eq_true q207
                try go_wp2
                go_roundg k3
                case measure => have := HJ5.out; have := HK2.out; have := HK3.out; omega
                case rel => exact ⟨(wrap64 (x7_2 + t206)), (y201), (wrap64 (x9_2 + 1)), (by first | rfl | (simp; done) | (simp [*]; done)), (by first | rfl | (simp; done) | (simp [*]; done)), H', ⟨by have := HJ5.out; have := HK2.out; have := HK3.out; omega⟩, ⟨by (with_reducible repeat (first | apply Kd.R_alloc | apply Kd.R_drewN | apply Kd.R_drew)); exact HO203.out⟩, ⟨by repeat (first | (with_reducible first | exact HB.out | apply below_alloc | apply pw_below_drewN | apply below_drew1) | exact HB.out)⟩⟩
               ·rw [if_neg c41] at H
                have c41b0 : (((rd_T28 l0 x9_2).f0) == 1) = false := beq_eq_false_iff_ne.mpr c41
                have c41b1 : (((rd_T28 l0 x9_2).f0) != 1) = true := bne_iff_ne.mpr c41
                have H' := a_ H
                clear H
                obtain ⟨Ao46, co46, eo46⟩ := Kd.R_slice HO_8.out
                subst eo46
                have p200 : 0 ≤ (x9_2 : Int) := od_
                have q200 : x9_2 < (l0.length : Int) := od_
                obtain ⟨ad200, e200, hx200_0, hx200_1, hx200_2, hx200_3⟩ := at_T28 HR0.out x9_2 p200 q200
                cases e200
                replace hx200_0 := pc_ hx200_0
                replace hx200_1 := pc_ hx200_1
                replace hx200_2 := pc_ hx200_2
                replace hx200_3 := pc_ hx200_3
                replace p200 := eq_true p200
                replace q200 := eq_true q200
                try go_wp2_with (first | ((with_reducible refine gate_builtin (b := .append) (xs := #[.tmp 80, .tmp 85]) rfl ?_); at_builtin; refine Kd.R_append k28 (w0 := w) w.heap.size rfl (.tmp 80) (.tmp 85) 22 28 (.agg #[(.int .i64 0), (.int .i64 0), (.int .i64 0), (.int .i64 0)]) 32 rfl Try.underlying22 info28 rfl (by decide) (by omega) (.slice Ao46 x8_2.length co46) x8_2 (⟨(rd_T28 l0 x9_2).f0, (rd_T28 l0 x9_2).f1, (rd_T28 l0 x9_2).f2, (rd_T28 l0 x9_2).f3⟩ : S28) [.int .i64 ((rd_T28 l0 x9_2).f0), .int .i64 ((rd_T28 l0 x9_2).f1), .int .i64 ((rd_T28 l0 x9_2).f2), .int .i64 ((rd_T28 l0 x9_2).f3)] (fun _ => True) (fun _ => False) rfl rfl ?aP (fun _ hk => hk.elim) ?aF ?aO ?aB ?aS ?aL ?_; (case aP => exact k28_mkM _ _ _ (⟨(rd_T28 l0 x9_2).f0, (rd_T28 l0 x9_2).f1, (rd_T28 l0 x9_2).f2, (rd_T28 l0 x9_2).f3⟩ : S28)); (case aB => exact bel_); (case aF => exact (fun _ _ => trivial)); (case aO => exact (kR_ HO_8.out)); (case aS => exact (below_size bel_)); (case aL => have := LMc39.out; omega); intro v202 w47 ho hb hg hat; rw [← Ny201.out] at ho; have n0_ := a_ (hb); have n1_ := a_ (ho); clear HB; clear HO_8; have HB := n0_; have HO203 := n1_; clear n0_ n1_; clear ho hb hg hat))
                have n0_ := a_ (Kd.R_drew HO203.out)
                have n1_ := a_ (below_drew1 HB.out)
                clear HO203
                clear HB
                have HO203 := n0_
                have HB := n1_
                clear n0_ n1_
                have p204 : 0 ≤ (x9_2 : Int) := od_
                have q204 : x9_2 < (l0.length : Int) := od_
                obtain ⟨ad204, e204, hx204_0, hx204_1, hx204_2, hx204_3⟩ := at_T28 HR0.out x9_2 p204 q204
                have hw204_3 := hx204_3
                have hw204_2 := hx204_2
                have hw204_1 := hx204_1
                have hw204_0 := hx204_0
                obtain rfl : ad200 = ad204 := (by injection e204)
                replace hx204_0 := pc_ hx204_0
                replace hx204_1 := pc_ hx204_1
                replace hx204_2 := pc_ hx204_2
                replace hx204_3 := pc_ hx204_3
                replace p204 := eq_true p204
                replace q204 := eq_true q204
                have p205 : 0 ≤ (x9_2 : Int) := od_
                have q205 : x9_2 < (l0.length : Int) := od_
                obtain ⟨ad205, e205, hx205_0, hx205_1, hx205_2, hx205_3⟩ := at_T28 HR0.out x9_2 p205 q205
                have hw205_3 := hx205_3
                have hw205_2 := hx205_2
                have hw205_1 := hx205_1
                have hw205_0 := hx205_0
                obtain rfl : ad200 = ad205 := (by injection e205)
                replace hx205_0 := pc_ hx205_0
                replace hx205_1 := pc_ hx205_1
                replace hx205_2 := pc_ hx205_2
                replace hx205_3 := pc_ hx205_3
                replace p205 := eq_true p205
                replace q205 := eq_true q205
                refine start_ (n := 18) (S := fun w' => w'.cell? (ad200.add ((x9_2).toNat * 4)) = some (.int .i64 ((rd_T28 l0 x9_2).f0)) ∧ w'.cell? ⟨(ad200.add ((x9_2).toNat * 4)).block, (ad200.add ((x9_2).toNat * 4)).off + 1, none⟩ = some (.int .i64 ((rd_T28 l0 x9_2).f1)) ∧ w'.cell? ⟨(ad200.add ((x9_2).toNat * 4)).block, (ad200.add ((x9_2).toNat * 4)).off + 2, none⟩ = some (.int .i64 ((rd_T28 l0 x9_2).f2)) ∧ w'.cell? ⟨(ad200.add ((x9_2).toNat * 4)).block, (ad200.add ((x9_2).toNat * 4)).off + 3, none⟩ = some (.int .i64 ((rd_T28 l0 x9_2).f3)) ∧ w'.cell? (ad200.add ((x9_2).toNat * 4)) = some (.int .i64 ((rd_T28 l0 x9_2).f0)) ∧ w'.cell? ⟨(ad200.add ((x9_2).toNat * 4)).block, (ad200.add ((x9_2).toNat * 4)).off + 1, none⟩ = some (.int .i64 ((rd_T28 l0 x9_2).f1)) ∧ w'.cell? ⟨(ad200.add ((x9_2).toNat * 4)).block, (ad200.add ((x9_2).toNat * 4)).off + 2, none⟩ = some (.int .i64 ((rd_T28 l0 x9_2).f2)) ∧ w'.cell? ⟨(ad200.add ((x9_2).toNat * 4)).block, (ad200.add ((x9_2).toNat * 4)).off + 3, none⟩ = some (.int .i64 ((rd_T28 l0 x9_2).f3))) (ds := []) #[false, false, false, false, false, false, false, false, false, false, false, false, false, false, false, false, false, false] (by kernel_rfl) rfl rfl ⟨(pw_cell_below HB.out hw204_0), (pw_cell_below HB.out hw204_1), (pw_cell_below HB.out hw204_2), (pw_cell_below HB.out hw204_3), (pw_cell_below HB.out hw205_0), (pw_cell_below HB.out hw205_1), (pw_cell_below HB.out hw205_2), (pw_cell_below HB.out hw205_3)⟩ (fun hHeld => ?_); refine with_tabW skiarealaw55_CensusParts.tab17 skiarealaw55_CensusParts.bits17 (fun HT_ HW_ => ?_)
                generalize w47.drew = w48 at HO203 HB hx204_0 hx204_1 hx204_2 hx204_3 hx205_0 hx205_1 hx205_2 hx205_3 hHeld ⊢
                refine pq_ 0 (some 87) #[true, false, false, false, false, false, false, false, false, false, false, false, false, false, false, false, false, false] ?_
                refine pq_ 1 (some 88) #[true, true, false, false, false, false, false, false, false, false, false, false, false, false, false, false, false, false] ?_
                refine pq_ 2 (some 89) #[true, true, true, false, false, false, false, false, false, false, false, false, false, false, false, false, false, false] ?_
                refine pq_ 3 (some 90) #[true, true, true, true, false, false, false, false, false, false, false, false, false, false, false, false, false, false] ?_
                refine pq_ 4 (some 91) #[true, true, true, true, true, false, false, false, false, false, false, false, false, false, false, false, false, false] ?_
                refine pq_ 6 (some 93) #[true, true, true, true, true, false, true, false, false, false, false, false, false, false, false, false, false, false] ?_
                refine pq_ 7 (some 94) #[true, true, true, true, true, false, true, true, false, false, false, false, false, false, false, false, false, false] ?_
                refine pq_ 8 (some 95) #[true, true, true, true, true, false, true, true, true, false, false, false, false, false, false, false, false, false] ?_
                refine pq_ 9 (some 96) #[true, true, true, true, true, false, true, true, true, true, false, false, false, false, false, false, false, false] ?_
                refine pq_ 11 (some 98) #[true, true, true, true, true, false, true, true, true, true, false, true, false, false, false, false, false, false] ?_
                refine pq_ 12 (some 99) #[true, true, true, true, true, false, true, true, true, true, false, true, true, false, false, false, false, false] ?_
                refine pq_ 13 (some 100) #[true, true, true, true, true, false, true, true, true, true, false, true, true, true, false, false, false, false] ?_
                refine pq_ 14 (some 101) #[true, true, true, true, true, false, true, true, true, true, false, true, true, true, true, false, false, false] ?_
                refine pq_ 15 (some 102) #[true, true, true, true, true, false, true, true, true, true, false, true, true, true, true, true, false, false] ?_
                refine take_ (i := 5) (N := some 92) (v := ?_) (a' := ?_) #[true, true, true, true, true, true, true, true, true, true, false, true, true, true, true, true, false, false] rfl rfl (take_ofW HT_.out HW_.out (by kernel_rfl)) (fun _ _ _ h => h) (Or.inl ⟨by rfl, ?_⟩) hHeld ?_ ?_
                rotate_left
                ·rintro w' ⟨s0, s1, s2, s3, s4, s5, s6, s7⟩
                 go_simp
                 with_reducible rfl
                rotate_left
                ·simp only [Act.put, List.setIfInBounds_toArray, List.set_cons_zero, List.set_cons_succ, i64_w, i32_w]
                 rfl
                refine take_ (i := 10) (N := some 97) (v := ?_) (a' := ?_) #[true, true, true, true, true, true, true, true, true, true, true, true, true, true, true, true, false, false] rfl rfl (take_ofW HT_.out HW_.out (by kernel_rfl)) (fun _ _ _ h => h) (Or.inl ⟨by rfl, ?_⟩) hHeld ?_ ?_
                rotate_left
                ·rintro w' ⟨s0, s1, s2, s3, s4, s5, s6, s7⟩
                 go_simp
                 with_reducible rfl
                rotate_left
                ·simp only [Act.put, List.setIfInBounds_toArray, List.set_cons_zero, List.set_cons_succ, i64_w, i32_w]
                 rfl
                refine one_ (i := 16) (N := some 103) #[true, true, true, true, true, true, true, true, true, true, true, true, true, true, true, true, true, false] rfl rfl (one_of HT_.out (by kernel_rfl)) (by decide) (fun K hK => ?_)
                refine goes_ Try.func12 (by kernel_rfl) rfl #[.slice (some ad200) l0.length c0, .int .i64 ((rd_T28 l0 x9_2).f0), .int .i64 ((rd_T28 l0 x9_2).f1), .agg #[.int .i64 (wrap64 (a1 + 1)), .int .i64 (wrap64 (a2 + 1))]] (by rfl) rfl rfl (by (try simp only [List.map_toArray, List.map_cons, List.map_nil]); first | done | rfl | (simp only [List.length_drop, List.length_take]; rfl)) ?_
                with_reducible refine (census_Count.calls k3 _ _ l0 ((rd_T28 l0 x9_2).f0) ((rd_T28 l0 x9_2).f1) (wrap64 (a1 + 1)) (wrap64 (a2 + 1)) t206 _ ?side1 ?side2 A40.out).mono ?_
                (case side1 => exact kC_ (Kd.C_below HR0.out HB.out))
                (case side2 => exact HC0.out)
                rintro e w49 ⟨rfl, hb⟩
                refine ⟨_, rfl, ?_⟩
                have n0_ := a_ (Kd.R_below (kR_ HO203.out) hb)
                have n1_ := a_ (below_step bel_ hb)
                clear HO203
                clear HB
                have HO203 := n0_
                have HB := n1_
                clear n0_ n1_
                (try clear hb)
                (try clear hb2)
                (try clear hk)
                (try clear hi)
                refine hK.out _ _ ⟨(pw_cell_below HB.out hw204_0), (pw_cell_below HB.out hw204_1), (pw_cell_below HB.out hw204_2), (pw_cell_below HB.out hw204_3), (pw_cell_below HB.out hw205_0), (pw_cell_below HB.out hw205_1), (pw_cell_below HB.out hw205_2), (pw_cell_below HB.out hw205_3)⟩ (fun hHeld => ?_)
                clear hK K
                refine norm_ (a' := ?_) ?_ ?_
                rotate_left
                ·show Act.put _ (some 103) _ = _
                 simp only [Act.put, List.setIfInBounds_toArray, List.set_cons_zero, List.set_cons_succ, i64_w, i32_w]
                 rfl
                refine pq_ 17 (some 12) #[true, true, true, true, true, true, true, true, true, true, true, true, true, true, true, true, true, true] ?_
                refine done_ (done_of HT_.out (by kernel_rfl)) ?_
                have p207 : 0 ≤ (x9_2 : Int) := od_
                have q207 : x9_2 < (l0.length : Int) := od_
                obtain ⟨ad207, e207, hx207_0, hx207_1, hx207_2, hx207_3⟩ := at_T28 HR0.out x9_2 p207 q207
                obtain rfl : ad200 = ad207 := (by injection e207)
                replace hx207_0 := pc_ hx207_0
                replace hx207_1 := pc_ hx207_1
                replace hx207_2 := pc_ hx207_2
                replace hx207_3 := pc_ hx207_3
                replace p207 := eq_true p207
                replace q207 := eq_true q207
                try go_wp2
                go_roundg k3
                case measure => have := HJ5.out; have := HK2.out; have := HK3.out; omega
                case rel => exact ⟨(wrap64 (x7_2 - t206)), (y201), (wrap64 (x9_2 + 1)), (by first | rfl | (simp; done) | (simp [*]; done)), (by first | rfl | (simp; done) | (simp [*]; done)), H', ⟨by have := HJ5.out; have := HK2.out; have := HK3.out; omega⟩, ⟨by (with_reducible repeat (first | apply Kd.R_alloc | apply Kd.R_drewN | apply Kd.R_drew)); exact HO203.out⟩, ⟨by repeat (first | (with_reducible first | exact HB.out | apply below_alloc | apply pw_below_drewN | apply below_drew1) | exact HB.out)⟩⟩
              ·rw [if_neg c39] at H
               exact absurd H (by simp)
             ·rw [if_neg c38] at H
              exact absurd H (by simp)
            ·rw [if_neg c37] at H
             exact absurd H (by simp)
       ·rw [if_neg c22] at H
        have c22b0 : decide (x9_2 < (l0.length : Int)) = false := decide_eq_false c22
        clear c22
        replace H := Option.bind_eq_some_iff.mp H
        obtain ⟨t195, A500, H⟩ := H
        replace H : (some (x7_2 == t195)) = some true := H
        have A50 := a_ A500
        clear A500
        have HTR := a_ (Option.some.inj H)
        clear H
        go_wp2_with (first | ((with_reducible refine gate_callee (f := 11) rfl ?_); refine gs_ (some 119) Try.func11 #[.slice A0 l0.length c0, .int .i64 a2] ?_; (with_reducible refine (census_On.calls k2 _ _ l0 a2 t195 _ ?side1 ?side2 A50.out).mono ?_); (case side1 => exact kC_ (Kd.C_below HR0.out HB.out)); (case side2 => exact HC0.out); rintro e w51 ⟨rfl, hb⟩; refine ⟨_, rfl, ?_⟩; have n0_ := a_ (Kd.R_below (kR_ HO_8.out) hb); have n1_ := a_ (below_step bel_ hb); clear HO_8; clear HB; have HO_8 := n0_; have HB := n1_; clear n0_ n1_; (try clear hb); (try clear hb2); (try clear hk); (try clear hi)))
        go_ret
        exact ⟨by first | rfl | (rw [HTR.out]; rfl) | (exact congrArg (fun b => Ending.returned (Value.bool b)) HTR.out) | (simpa using HTR.out) | (simp [errW_none, errW_some] <;> rfl) | (simp [*, errW_none, errW_some] <;> rfl), by repeat (first | (with_reducible first | exact HB.out | apply below_alloc | apply pw_below_drewN | apply below_drew1) | exact HB.out)⟩
 ·replace c5 := Bool.eq_false_iff.mpr c5
  subst c5
  have H1 : (some false) = some true := by rw [if_neg (show ¬ (false = true) by decide)] at H; exact H
  clear H
  have H := H1
  clear H1
  exact absurd H (by simp)

end Go.Proofs.Ytgfiidgigenibaa.Q
