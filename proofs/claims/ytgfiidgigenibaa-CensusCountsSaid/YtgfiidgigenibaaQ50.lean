-- written by wip/drive.py (this session's program) over the kit's print words
import Derived.Test.YtgfiidgigenibaaQ0
import Derived.Test.YtgfiidgigenibaaQ45
namespace Go.Proofs.Ytgfiidgigenibaa.Q
open Go.RowKit Go.Proofs.YtgfiidgigenibaaW.PrintWords Go.Proofs.YtgfiidgigenibaaW.PrintLast Go.Proofs.YtgfiidgigenibaaW.PrintMore
attribute [local go_sem] max2_int min2_int max_two min_two max_three min_three max_four min_four   -- for this text's walks alone
set_option linter.unusedVariables false
set_option linter.unusedSimpArgs false

/-! ### skiarearef55_On: function 21 -/
def skiarearef55_On.l0 : Nat → List (S28) → Int → Int → Int → Option (Int)
 | 0, _, _, _, _ => none
 | k + 1, x0, x1, x5, x6 => if x6 < (x0.length : Int) then (if 0 ≤ x6 then (if ((rd_T28 x0 x6).f3) ≤ x1 then ((skiarearef55_change.f ((rd_T28 x0 x6).f0) ((rd_T28 x0 x6).f1) ((rd_T28 x0 x6).f2) ((rd_T28 x0 x6).f3)).bind fun t384 => (skiarearef55_On.l0 k x0 x1 (wrap64 (x5 + t384)) (wrap64 (x6 + 1)))) else (skiarearef55_On.l0 k x0 x1 x5 (wrap64 (x6 + 1)))) else (none)) else (some x5)
def skiarearef55_On.f (k : Nat) (l0 : List (S28)) (a1 : Int) : Option (Int) := skiarearef55_On.l0 k l0 a1 0 0
theorem skiarearef55_On.mono_l : ∀ k, (∀ y0 y1 y2 y3, LeO (skiarearef55_On.l0 k y0 y1 y2 y3) (skiarearef55_On.l0 (k + 1) y0 y1 y2 y3))
 | 0 => fun _ _ _ _ r h => by simp [skiarearef55_On.l0] at h
 | k + 1 => by
  have ih0 := skiarearef55_On.mono_l k
  ·intro y0 y1 y2 y3
   unfold skiarearef55_On.l0
   repeat' first
   | (with_reducible exact ih0 _ _ _ _)
   | (with_reducible exact LeO.refl _)
   | (with_reducible exact LeO.none _)
   | (with_reducible refine LeO.ite ?_ ?_)
   | (with_reducible refine LeO.bind ?_ (fun _ => ?_))
   | exact ih0 _ _ _ _
   | exact LeO.none _
   | refine LeO.ite ?_ ?_
   | refine LeO.bind ?_ (fun _ => ?_)
theorem skiarearef55_On.mono : ∀ a0 a1 k, LeO (skiarearef55_On.f k a0 a1) (skiarearef55_On.f (k + 1) a0 a1) := by
 intro a0 a1 k
 have ih0 := skiarearef55_On.mono_l k
 unfold skiarearef55_On.f
 repeat' first
   | (with_reducible exact ih0 _ _ _ _)
   | (with_reducible exact LeO.refl _)
   | (with_reducible exact LeO.none _)
   | (with_reducible refine LeO.ite ?_ ?_)
   | (with_reducible refine LeO.bind ?_ (fun _ => ?_))
   | exact ih0 _ _ _ _
   | exact LeO.none _
   | refine LeO.ite ?_ ?_
   | refine LeO.bind ?_ (fun _ => ?_)
set_option maxHeartbeats 8000000 in
set_option maxRecDepth 100000 in
theorem skiarearef55_On.calls (k : Nat) (A0 : Option Addr) (c0 : Nat) (l0 : List (S28)) (a1 : Int) (r : Int) (w : World) (hr0 : Kd.C k28 w A0 l0.length l0) (hc0 : l0.length ≤ c0) (h : skiarearef55_On.f k l0 a1 = some r) :
  Calls Try.prog 21 #[.slice A0 l0.length c0, .int .i64 a1] w fun e w' => e = .returned (.int .i64 r) ∧ Below w.heap.size w w' := by
 have hu28 := Try.underlying28
 have HR0 := a_ hr0
 have HC0 := a_ hc0
 clear hr0 hc0
 have HB := a_ (Below.refl w.heap.size w)
 have H : (skiarearef55_On.l0 k l0 a1 0 0) = some r := h
 clear h
 have H' := a_ H
 clear H
 go_enter Try.func21, Try.ntmps21
 go_wp2
 go_loopg [5, 6] k (fun kq v5 v6 w' => ∃ (x5_1 : Int) (x6_1 : Int), v5 = .int .i64 x5_1 ∧ v6 = .int .i64 x6_1 ∧ Aside0 (skiarearef55_On.l0 kq l0 a1 x5_1 x6_1 = some r) ∧ Aside0 (kq ≤ k) ∧ Aside0 (Below w.heap.size w w'))
 case atStart => exact ⟨(0), (0), (by first | rfl | (simp; done) | (simp [*]; done)), (by first | rfl | (simp; done) | (simp [*]; done)), H', ⟨Nat.le_refl _⟩, ⟨by repeat (first | (with_reducible first | exact HB.out | apply below_alloc | apply pw_below_drewN | apply below_drew1) | exact HB.out)⟩⟩
 case round =>
  clear H'
  try clear c2
  try clear p2
  obtain ⟨x5_1, x6_1, rfl, rfl, HA, HK1, HB⟩ := hrel
  cases gk with
  | zero => exact absurd HA.out (by simp [skiarearef55_On.l0])
  | succ k1 =>
   have H := HA.out
   clear HA
   simp only [skiarearef55_On.l0] at H
   by_cases c3 : x6_1 < (l0.length : Int)
   ·rw [if_pos c3] at H
    have c3b0 : decide (x6_1 < (l0.length : Int)) = true := decide_eq_true c3
    clear c3
    by_cases c4 : 0 ≤ x6_1
    ·rw [if_pos c4] at H
     have c4b0 : decide (0 ≤ x6_1) = true := decide_eq_true c4
     clear c4
     by_cases c5 : ((rd_T28 l0 x6_1).f3) ≤ a1
     ·rw [if_pos c5] at H
      have c5b0 : decide (((rd_T28 l0 x6_1).f3) ≤ a1) = true := decide_eq_true c5
      clear c5
      replace H := Option.bind_eq_some_iff.mp H
      obtain ⟨t384, A60, H⟩ := H
      replace H : (skiarearef55_On.l0 k1 l0 a1 (wrap64 (x5_1 + t384)) (wrap64 (x6_1 + 1))) = some r := H
      have A6 := a_ A60
      clear A60
      have H' := a_ H
      clear H
      have p382 : 0 ≤ (x6_1 : Int) := od_
      have q382 : x6_1 < (l0.length : Int) := od_
      obtain ⟨ad382, e382, hx382_0, hx382_1, hx382_2, hx382_3⟩ := at_T28 HR0.out x6_1 p382 q382
      cases e382
      replace hx382_0 := pc_ hx382_0
      replace hx382_1 := pc_ hx382_1
      replace hx382_2 := pc_ hx382_2
      replace hx382_3 := pc_ hx382_3
      replace p382 := eq_true p382
      replace q382 := eq_true q382
      have p383 : 0 ≤ (x6_1 : Int) := od_
      have q383 : x6_1 < (l0.length : Int) := od_
      obtain ⟨ad383, e383, hx383_0, hx383_1, hx383_2, hx383_3⟩ := at_T28 HR0.out x6_1 p383 q383
      obtain rfl : ad382 = ad383 := (by injection e383)
      replace hx383_0 := pc_ hx383_0
      replace hx383_1 := pc_ hx383_1
      replace hx383_2 := pc_ hx383_2
      replace hx383_3 := pc_ hx383_3
      replace p383 := eq_true p383
      replace q383 := eq_true q383
      go_wp2_with (first | ((with_reducible refine gate_callee (f := 40) rfl ?_); refine gs_ (some 25) Try.func40 #[.agg #[.int .i64 ((rd_T28 l0 x6_1).f0), .int .i64 ((rd_T28 l0 x6_1).f1), .int .i64 ((rd_T28 l0 x6_1).f2), .int .i64 ((rd_T28 l0 x6_1).f3)]] ?_; (with_reducible refine (skiarearef55_change.calls ((rd_T28 l0 x6_1).f0) ((rd_T28 l0 x6_1).f1) ((rd_T28 l0 x6_1).f2) ((rd_T28 l0 x6_1).f3) t384 _ A6.out).mono ?_); rintro e w7 ⟨rfl, hb⟩; refine ⟨_, rfl, ?_⟩; have n0_ := a_ (below_step bel_ hb); clear HB; have HB := n0_; clear n0_; (try clear hb); (try clear hb2); (try clear hk); (try clear hi)))
      go_roundg k1
      case measure => have := HK1.out; omega
      case rel => exact ⟨(wrap64 (x5_1 + t384)), (wrap64 (x6_1 + 1)), (by first | rfl | (simp; done) | (simp [*]; done)), (by first | rfl | (simp; done) | (simp [*]; done)), H', ⟨by have := HK1.out; omega⟩, ⟨by repeat (first | (with_reducible first | exact HB.out | apply below_alloc | apply pw_below_drewN | apply below_drew1) | exact HB.out)⟩⟩
     ·rw [if_neg c5] at H
      have c5b0 : decide (((rd_T28 l0 x6_1).f3) ≤ a1) = false := decide_eq_false c5
      clear c5
      have H' := a_ H
      clear H
      have p382 : 0 ≤ (x6_1 : Int) := od_
      have q382 : x6_1 < (l0.length : Int) := od_
      obtain ⟨ad382, e382, hx382_0, hx382_1, hx382_2, hx382_3⟩ := at_T28 HR0.out x6_1 p382 q382
      cases e382
      replace hx382_0 := pc_ hx382_0
      replace hx382_1 := pc_ hx382_1
      replace hx382_2 := pc_ hx382_2
      replace hx382_3 := pc_ hx382_3
      replace p382 := eq_true p382
      replace q382 := eq_true q382
      go_wp2
      go_roundg k1
      case measure => have := HK1.out; omega
      case rel => exact ⟨(x5_1), (wrap64 (x6_1 + 1)), (by first | rfl | (simp; done) | (simp [*]; done)), (by first | rfl | (simp; done) | (simp [*]; done)), H', ⟨by have := HK1.out; omega⟩, ⟨by repeat (first | (with_reducible first | exact HB.out | apply below_alloc | apply pw_below_drewN | apply below_drew1) | exact HB.out)⟩⟩
    ·rw [if_neg c4] at H
     exact absurd H (by simp)
   ·rw [if_neg c3] at H
    have c3b0 : decide (x6_1 < (l0.length : Int)) = false := decide_eq_false c3
    clear c3
    obtain rfl := Option.some.inj H
    go_wp2
    go_ret
    exact ⟨by first | rfl | (simp [errW_none, errW_some] <;> rfl) | (simp [*, errW_none, errW_some] <;> rfl), by repeat (first | (with_reducible first | exact HB.out | apply below_alloc | apply pw_below_drewN | apply below_drew1) | exact HB.out)⟩

end Go.Proofs.Ytgfiidgigenibaa.Q
