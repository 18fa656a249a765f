-- written by wip/drive.py (this session's program) over the kit's print words
import Derived.Test.YtgfiidgigenibaaQ0
namespace Go.Proofs.Ytgfiidgigenibaa.Q
open Go.RowKit Go.Proofs.YtgfiidgigenibaaW.PrintWords Go.Proofs.YtgfiidgigenibaaW.PrintLast Go.Proofs.YtgfiidgigenibaaW.PrintMore
attribute [local go_sem] max2_int min2_int max_two min_two max_three min_three max_four min_four   -- for this text's walks alone
set_option linter.unusedVariables false
set_option linter.unusedSimpArgs false

/-! ### skiarearef06_net: function 64 -/
def skiarearef06_net.l0 : Nat → List (S67) → List Int → Int → Int → Int → Option (Int)
 | 0, _, _, _, _, _ => none
 | k + 1, x0, x1, x2, x7, x8 => if x8 < (x0.length : Int) then (if 0 ≤ x8 then (if ((rd_T67 x0 x8).f1) = x2 then (if x8 < (x1.length : Int) then (if ((rd_T67 x0 x8).f2) = x2 then (skiarearef06_net.l0 k x0 x1 x2 (wrap64 ((wrap64 (x7 + (rd x1 x8))) - (rd x1 x8))) (wrap64 (x8 + 1))) else (skiarearef06_net.l0 k x0 x1 x2 (wrap64 (x7 + (rd x1 x8))) (wrap64 (x8 + 1)))) else (none)) else (if ((rd_T67 x0 x8).f2) = x2 then (if x8 < (x1.length : Int) then (skiarearef06_net.l0 k x0 x1 x2 (wrap64 (x7 - (rd x1 x8))) (wrap64 (x8 + 1))) else (none)) else (skiarearef06_net.l0 k x0 x1 x2 x7 (wrap64 (x8 + 1))))) else (none)) else (some x7)
def skiarearef06_net.f (k : Nat) (l0 : List (S67)) (l1 : List Int) (a2 : Int) : Option (Int) := skiarearef06_net.l0 k l0 l1 a2 0 0
theorem skiarearef06_net.mono_l : ∀ k, (∀ y0 y1 y2 y3 y4, LeO (skiarearef06_net.l0 k y0 y1 y2 y3 y4) (skiarearef06_net.l0 (k + 1) y0 y1 y2 y3 y4))
 | 0 => fun _ _ _ _ _ r h => by simp [skiarearef06_net.l0] at h
 | k + 1 => by
  have ih0 := skiarearef06_net.mono_l k
  ·intro y0 y1 y2 y3 y4
   unfold skiarearef06_net.l0
   repeat' first
   | (with_reducible exact ih0 _ _ _ _ _)
   | (with_reducible exact LeO.refl _)
   | (with_reducible exact LeO.none _)
   | (with_reducible refine LeO.ite ?_ ?_)
   | (with_reducible refine LeO.bind ?_ (fun _ => ?_))
   | exact ih0 _ _ _ _ _
   | exact LeO.none _
   | refine LeO.ite ?_ ?_
   | refine LeO.bind ?_ (fun _ => ?_)
theorem skiarearef06_net.mono : ∀ a0 a1 a2 k, LeO (skiarearef06_net.f k a0 a1 a2) (skiarearef06_net.f (k + 1) a0 a1 a2) := by
 intro a0 a1 a2 k
 have ih0 := skiarearef06_net.mono_l k
 unfold skiarearef06_net.f
 repeat' first
   | (with_reducible exact ih0 _ _ _ _ _)
   | (with_reducible exact LeO.refl _)
   | (with_reducible exact LeO.none _)
   | (with_reducible refine LeO.ite ?_ ?_)
   | (with_reducible refine LeO.bind ?_ (fun _ => ?_))
   | exact ih0 _ _ _ _ _
   | exact LeO.none _
   | refine LeO.ite ?_ ?_
   | refine LeO.bind ?_ (fun _ => ?_)
set_option maxHeartbeats 8000000 in
set_option maxRecDepth 100000 in
theorem skiarearef06_net.calls (k : Nat) (A0 : Option Addr) (c0 : Nat) (l0 : List (S67)) (A1 : Option Addr) (c1 : Nat) (l1 : List Int) (a2 : Int) (r : Int) (w : World) (hr0 : Kd.C k67 w A0 l0.length l0) (hc0 : l0.length ≤ c0) (hr1 : Kd.C (Kd.int .i64) w A1 l1.length l1) (hc1 : l1.length ≤ c1) (h : skiarearef06_net.f k l0 l1 a2 = some r) :
  Calls Try.prog 64 #[.slice A0 l0.length c0, .slice A1 l1.length c1, .int .i64 a2] w fun e w' => e = .returned (.int .i64 r) ∧ Drawn0 w w' := by
 have HR0 := a_ hr0
 have HC0 := a_ hc0
 clear hr0 hc0
 have HR1 := a_ hr1
 have HC1 := a_ hc1
 clear hr1 hc1
 have H : (skiarearef06_net.l0 k l0 l1 a2 0 0) = some r := h
 clear h
 have H' := a_ H
 clear H
 go_enter Try.func64, Try.ntmps64
 go_wp2
 go_loopg [7, 8] k (fun kq v7 v8 w' => ∃ (x7_1 : Int) (x8_1 : Int), v7 = .int .i64 x7_1 ∧ v8 = .int .i64 x8_1 ∧ Aside0 (skiarearef06_net.l0 kq l0 l1 a2 x7_1 x8_1 = some r) ∧ Aside0 (kq ≤ k) ∧ Drawn0 w w')
 case atStart => exact ⟨(0), (0), (by first | rfl | (simp; done) | (simp [*]; done)), (by first | rfl | (simp; done) | (simp [*]; done)), H', ⟨Nat.le_refl _⟩, by repeat (first | exact Drawn0.refl _ | apply Drawn0.step)⟩
 case round =>
  clear H'
  try clear c1
  try clear p2
  obtain ⟨x7_1, x8_1, rfl, rfl, HA, HK1, ⟨m1, rfl⟩⟩ := hrel
  cases gk with
  | zero => exact absurd HA.out (by simp [skiarearef06_net.l0])
  | succ k1 =>
   have H := HA.out
   clear HA
   simp only [skiarearef06_net.l0] at H
   by_cases c4 : x8_1 < (l0.length : Int)
   ·rw [if_pos c4] at H
    have c4b0 : decide (x8_1 < (l0.length : Int)) = true := decide_eq_true c4
    clear c4
    by_cases c5 : 0 ≤ x8_1
    ·rw [if_pos c5] at H
     have c5b0 : decide (0 ≤ x8_1) = true := decide_eq_true c5
     clear c5
     by_cases c6 : ((rd_T67 l0 x8_1).f1) = a2
     ·rw [if_pos c6] at H
      have c6b0 : (((rd_T67 l0 x8_1).f1) == a2) = true := beq_iff_eq.mpr c6
      have c6b1 : (((rd_T67 l0 x8_1).f1) != a2) = false := bne_eq_false_iff_eq.mpr c6
      clear c6
      by_cases c7 : x8_1 < (l1.length : Int)
      ·rw [if_pos c7] at H
       have c7b0 : decide (x8_1 < (l1.length : Int)) = true := decide_eq_true c7
       clear c7
       by_cases c8 : ((rd_T67 l0 x8_1).f2) = a2
       ·rw [if_pos c8] at H
        have c8b0 : (((rd_T67 l0 x8_1).f2) == a2) = true := beq_iff_eq.mpr c8
        have c8b1 : (((rd_T67 l0 x8_1).f2) != a2) = false := bne_eq_false_iff_eq.mpr c8
        clear c8
        have H' := a_ H
        clear H
        have p393 : 0 ≤ (x8_1 : Int) := od_
        have q393 : x8_1 < (l0.length : Int) := od_
        obtain ⟨ad393, e393, hx393_0, hx393_1, hx393_2, hx393_3⟩ := at_T67 HR0.out x8_1 p393 q393
        cases e393
        replace p393 := eq_true p393
        replace q393 := eq_true q393
        have p394 : 0 ≤ (x8_1 : Int) := od_
        have q394 : x8_1 < (l1.length : Int) := od_
        obtain ⟨ad394, e394, hx394_0⟩ := Kd.at_int HR1.out x8_1 p394 q394
        cases e394
        replace p394 := eq_true p394
        replace q394 := eq_true q394
        have p395 : 0 ≤ (x8_1 : Int) := od_
        have q395 : x8_1 < (l0.length : Int) := od_
        obtain ⟨ad395, e395, hx395_0, hx395_1, hx395_2, hx395_3⟩ := at_T67 HR0.out x8_1 p395 q395
        obtain rfl : ad393 = ad395 := (by injection e395)
        replace p395 := eq_true p395
        replace q395 := eq_true q395
        have p396 : 0 ≤ (x8_1 : Int) := od_
        have q396 : x8_1 < (l1.length : Int) := od_
        obtain ⟨ad396, e396, hx396_0⟩ := Kd.at_int HR1.out x8_1 p396 q396
        obtain rfl : ad394 = ad396 := (by injection e396)
        replace p396 := eq_true p396
        replace q396 := eq_true q396
        go_wp2
        go_roundg k1
        case measure => have := HK1.out; omega
        case rel => exact ⟨(wrap64 ((wrap64 (x7_1 + (rd l1 x8_1))) - (rd l1 x8_1))), (wrap64 (x8_1 + 1)), (by first | rfl | (simp; done) | (simp [*]; done)), (by first | rfl | (simp; done) | (simp [*]; done)), H', ⟨by have := HK1.out; omega⟩, by repeat (first | exact Drawn0.refl _ | apply Drawn0.step)⟩
       ·rw [if_neg c8] at H
        have c8b0 : (((rd_T67 l0 x8_1).f2) == a2) = false := beq_eq_false_iff_ne.mpr c8
        have c8b1 : (((rd_T67 l0 x8_1).f2) != a2) = true := bne_iff_ne.mpr c8
        have H' := a_ H
        clear H
        have p393 : 0 ≤ (x8_1 : Int) := od_
        have q393 : x8_1 < (l0.length : Int) := od_
        obtain ⟨ad393, e393, hx393_0, hx393_1, hx393_2, hx393_3⟩ := at_T67 HR0.out x8_1 p393 q393
        cases e393
        replace p393 := eq_true p393
        replace q393 := eq_true q393
        have p394 : 0 ≤ (x8_1 : Int) := od_
        have q394 : x8_1 < (l1.length : Int) := od_
        obtain ⟨ad394, e394, hx394_0⟩ := Kd.at_int HR1.out x8_1 p394 q394
        cases e394
        replace p394 := eq_true p394
        replace q394 := eq_true q394
        have p395 : 0 ≤ (x8_1 : Int) := od_
        have q395 : x8_1 < (l0.length : Int) := od_
        obtain ⟨ad395, e395, hx395_0, hx395_1, hx395_2, hx395_3⟩ := at_T67 HR0.out x8_1 p395 q395
        obtain rfl : ad393 = ad395 := (by injection e395)
        replace p395 := eq_true p395
        replace q395 := eq_true q395
        go_wp2
        go_roundg k1
        case measure => have := HK1.out; omega
        case rel => exact ⟨(wrap64 (x7_1 + (rd l1 x8_1))), (wrap64 (x8_1 + 1)), (by first | rfl | (simp; done) | (simp [*]; done)), (by first | rfl | (simp; done) | (simp [*]; done)), H', ⟨by have := HK1.out; omega⟩, by repeat (first | exact Drawn0.refl _ | apply Drawn0.step)⟩
      ·rw [if_neg c7] at H
       exact absurd H (by simp)
     ·rw [if_neg c6] at H
      have c6b0 : (((rd_T67 l0 x8_1).f1) == a2) = false := beq_eq_false_iff_ne.mpr c6
      have c6b1 : (((rd_T67 l0 x8_1).f1) != a2) = true := bne_iff_ne.mpr c6
      by_cases c9 : ((rd_T67 l0 x8_1).f2) = a2
      ·rw [if_pos c9] at H
       have c9b0 : (((rd_T67 l0 x8_1).f2) == a2) = true := beq_iff_eq.mpr c9
       have c9b1 : (((rd_T67 l0 x8_1).f2) != a2) = false := bne_eq_false_iff_eq.mpr c9
       clear c9
       by_cases c10 : x8_1 < (l1.length : Int)
       ·rw [if_pos c10] at H
        have c10b0 : decide (x8_1 < (l1.length : Int)) = true := decide_eq_true c10
        clear c10
        have H' := a_ H
        clear H
        have p393 : 0 ≤ (x8_1 : Int) := od_
        have q393 : x8_1 < (l0.length : Int) := od_
        obtain ⟨ad393, e393, hx393_0, hx393_1, hx393_2, hx393_3⟩ := at_T67 HR0.out x8_1 p393 q393
        cases e393
        replace p393 := eq_true p393
        replace q393 := eq_true q393
        have p397 : 0 ≤ (x8_1 : Int) := od_
        have q397 : x8_1 < (l0.length : Int) := od_
        obtain ⟨ad397, e397, hx397_0, hx397_1, hx397_2, hx397_3⟩ := at_T67 HR0.out x8_1 p397 q397
        obtain rfl : ad393 = ad397 := (by injection e397)
        replace p397 := eq_true p397
        replace q397 := eq_true q397
        have p398 : 0 ≤ (x8_1 : Int) := od_
        have q398 : x8_1 < (l1.length : Int) := od_
        obtain ⟨ad398, e398, hx398_0⟩ := Kd.at_int HR1.out x8_1 p398 q398
        cases e398
        replace p398 := eq_true p398
        replace q398 := eq_true q398
        go_wp2
        go_roundg k1
        case measure => have := HK1.out; omega
        case rel => exact ⟨(wrap64 (x7_1 - (rd l1 x8_1))), (wrap64 (x8_1 + 1)), (by first | rfl | (simp; done) | (simp [*]; done)), (by first | rfl | (simp; done) | (simp [*]; done)), H', ⟨by have := HK1.out; omega⟩, by repeat (first | exact Drawn0.refl _ | apply Drawn0.step)⟩
       ·rw [if_neg c10] at H
        exact absurd H (by simp)
      ·rw [if_neg c9] at H
       have c9b0 : (((rd_T67 l0 x8_1).f2) == a2) = false := beq_eq_false_iff_ne.mpr c9
       have c9b1 : (((rd_T67 l0 x8_1).f2) != a2) = true := bne_iff_ne.mpr c9
       have H' := a_ H
       clear H
       have p393 : 0 ≤ (x8_1 : Int) := od_
       have q393 : x8_1 < (l0.length : Int) := od_
       obtain ⟨ad393, e393, hx393_0, hx393_1, hx393_2, hx393_3⟩ := at_T67 HR0.out x8_1 p393 q393
       cases e393
       replace p393 := eq_true p393
       replace q393 := eq_true q393
       have p397 : 0 ≤ (x8_1 : Int) := od_
       have q397 : x8_1 < (l0.length : Int) := od_
       obtain ⟨ad397, e397, hx397_0, hx397_1, hx397_2, hx397_3⟩ := at_T67 HR0.out x8_1 p397 q397
       obtain rfl : ad393 = ad397 := (by injection e397)
       replace p397 := eq_true p397
       replace q397 := eq_true q397
       go_wp2
       go_roundg k1
       case measure => have := HK1.out; omega
       case rel => exact ⟨(x7_1), (wrap64 (x8_1 + 1)), (by first | rfl | (simp; done) | (simp [*]; done)), (by first | rfl | (simp; done) | (simp [*]; done)), H', ⟨by have := HK1.out; omega⟩, by repeat (first | exact Drawn0.refl _ | apply Drawn0.step)⟩
    ·rw [if_neg c5] at H
     exact absurd H (by simp)
   ·rw [if_neg c4] at H
    have c4b0 : decide (x8_1 < (l0.length : Int)) = false := decide_eq_false c4
    clear c4
    obtain rfl := Option.some.inj H
    go_wp2
    go_ret
    exact ⟨by first | rfl | (simp; done) | (simp [*]; done), by repeat (first | exact Drawn0.refl _ | apply Drawn0.step)⟩

end Go.Proofs.Ytgfiidgigenibaa.Q
