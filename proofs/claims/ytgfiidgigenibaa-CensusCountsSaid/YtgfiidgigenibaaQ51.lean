-- written by wip/drive.py (this session's program) over the kit's print words
import Derived.Test.YtgfiidgigenibaaQ0
import Derived.Test.YtgfiidgigenibaaQ50
namespace Go.Proofs.Ytgfiidgigenibaa.Q
open Go.RowKit Go.Proofs.YtgfiidgigenibaaW.PrintWords Go.Proofs.YtgfiidgigenibaaW.PrintLast Go.Proofs.YtgfiidgigenibaaW.PrintMore
attribute [local go_sem] max2_int min2_int max_two min_two max_three min_three max_four min_four   -- for this text's walks alone
set_option linter.unusedVariables false
set_option linter.unusedSimpArgs false

/-! ### skiarearef55_Peak: function 23 -/
def skiarearef55_Peak.l0 : Nat → List (S28) → Int → Int → Option (Int)
 | 0, _, _, _ => none
 | k + 1, x0, x3, x4 => if x4 < (x0.length : Int) then (if 0 ≤ x4 then ((skiarearef55_On.f k x0 ((rd_T28 x0 x4).f3)).bind fun t386 => (if t386 > x3 then (skiarearef55_Peak.l0 k x0 t386 (wrap64 (x4 + 1))) else (skiarearef55_Peak.l0 k x0 x3 (wrap64 (x4 + 1))))) else (none)) else (some x3)
def skiarearef55_Peak.f (k : Nat) (l0 : List (S28)) : Option (Int) := skiarearef55_Peak.l0 k l0 0 0
theorem skiarearef55_Peak.mono_l : ∀ k, (∀ y0 y1 y2, LeO (skiarearef55_Peak.l0 k y0 y1 y2) (skiarearef55_Peak.l0 (k + 1) y0 y1 y2))
 | 0 => fun _ _ _ r h => by simp [skiarearef55_Peak.l0] at h
 | k + 1 => by
  have ih0 := skiarearef55_Peak.mono_l k
  ·intro y0 y1 y2
   unfold skiarearef55_Peak.l0
   repeat' first
   | (with_reducible exact ih0 _ _ _)
   | (with_reducible exact skiarearef55_On.mono _ _ _)
   | (with_reducible exact LeO.refl _)
   | (with_reducible exact LeO.none _)
   | (with_reducible refine LeO.ite ?_ ?_)
   | (with_reducible refine LeO.bind ?_ (fun _ => ?_))
   | exact ih0 _ _ _
   | exact skiarearef55_On.mono _ _ _
   | exact LeO.none _
   | refine LeO.ite ?_ ?_
   | refine LeO.bind ?_ (fun _ => ?_)
theorem skiarearef55_Peak.mono : ∀ a0 k, LeO (skiarearef55_Peak.f k a0) (skiarearef55_Peak.f (k + 1) a0) := by
 intro a0 k
 have ih0 := skiarearef55_Peak.mono_l k
 unfold skiarearef55_Peak.f
 repeat' first
   | (with_reducible exact ih0 _ _ _)
   | (with_reducible exact skiarearef55_On.mono _ _ _)
   | (with_reducible exact LeO.refl _)
   | (with_reducible exact LeO.none _)
   | (with_reducible refine LeO.ite ?_ ?_)
   | (with_reducible refine LeO.bind ?_ (fun _ => ?_))
   | exact ih0 _ _ _
   | exact skiarearef55_On.mono _ _ _
   | exact LeO.none _
   | refine LeO.ite ?_ ?_
   | refine LeO.bind ?_ (fun _ => ?_)
set_option maxHeartbeats 8000000 in
set_option maxRecDepth 100000 in
theorem skiarearef55_Peak.calls (k : Nat) (A0 : Option Addr) (c0 : Nat) (l0 : List (S28)) (r : Int) (w : World) (hr0 : Kd.C k28 w A0 l0.length l0) (hc0 : l0.length ≤ c0) (h : skiarearef55_Peak.f k l0 = some r) :
  Calls Try.prog 23 #[.slice A0 l0.length c0] w fun e w' => e = .returned (.int .i64 r) ∧ Below w.heap.size w w' := by
 have HR0 := a_ hr0
 have HC0 := a_ hc0
 clear hr0 hc0
 have HB := a_ (Below.refl w.heap.size w)
 have H : (skiarearef55_Peak.l0 k l0 0 0) = some r := h
 clear h
 have H' := a_ H
 clear H
 go_enter Try.func23, Try.ntmps23
 go_wp2
 go_loopg [3, 4] k (fun kq v3 v4 w' => ∃ (x3_1 : Int) (x4_1 : Int), v3 = .int .i64 x3_1 ∧ v4 = .int .i64 x4_1 ∧ Aside0 (skiarearef55_Peak.l0 kq l0 x3_1 x4_1 = some r) ∧ Aside0 (kq ≤ k) ∧ Aside0 (Below w.heap.size w w'))
 case atStart => exact ⟨(0), (0), (by first | rfl | (simp; done) | (simp [*]; done)), (by first | rfl | (simp; done) | (simp [*]; done)), H', ⟨Nat.le_refl _⟩, ⟨by repeat (first | (with_reducible first | exact HB.out | apply below_alloc | apply pw_below_drewN | apply below_drew1) | exact HB.out)⟩⟩
 case round =>
  clear H'
  obtain ⟨x3_1, x4_1, rfl, rfl, HA, HK1, HB⟩ := hrel
  cases gk with
  | zero => exact absurd HA.out (by simp [skiarearef55_Peak.l0])
  | succ k1 =>
   have H := HA.out
   clear HA
   simp only [skiarearef55_Peak.l0] at H
   by_cases c2 : x4_1 < (l0.length : Int)
   ·rw [if_pos c2] at H
    have c2b0 : decide (x4_1 < (l0.length : Int)) = true := decide_eq_true c2
    clear c2
    by_cases c3 : 0 ≤ x4_1
    ·rw [if_pos c3] at H
     have c3b0 : decide (0 ≤ x4_1) = true := decide_eq_true c3
     clear c3
     replace H := Option.bind_eq_some_iff.mp H
     obtain ⟨t386, A40, H⟩ := H
     replace H : (if t386 > x3_1 then (skiarearef55_Peak.l0 k1 l0 t386 (wrap64 (x4_1 + 1))) else (skiarearef55_Peak.l0 k1 l0 x3_1 (wrap64 (x4_1 + 1)))) = some r := H
     have A4 := a_ A40
     clear A40
     by_cases c5 : t386 > x3_1
     ·rw [if_pos c5] at H
      have c5b0 : decide (x3_1 < t386) = true := decide_eq_true c5
      clear c5
      have H' := a_ H
      clear H
      have p385 : 0 ≤ (x4_1 : Int) := od_
      have q385 : x4_1 < (l0.length : Int) := od_
      obtain ⟨ad385, e385, hx385_0, hx385_1, hx385_2, hx385_3⟩ := at_T28 HR0.out x4_1 p385 q385
      cases e385
      replace hx385_0 := pc_ hx385_0
      replace hx385_1 := pc_ hx385_1
      replace hx385_2 := pc_ hx385_2
      replace hx385_3 := pc_ hx385_3
      replace p385 := eq_true p385
      replace q385 := eq_true q385
      go_wp2_with (first | ((with_reducible refine gate_callee (f := 21) rfl ?_); refine gs_ (some 18) Try.func21 #[.slice (some ad385) l0.length c0, .int .i64 ((rd_T28 l0 x4_1).f3)] ?_; (with_reducible refine (skiarearef55_On.calls k1 _ _ l0 ((rd_T28 l0 x4_1).f3) t386 _ ?side1 ?side2 A4.out).mono ?_); (case side1 => exact kC_ (Kd.C_below HR0.out HB.out)); (case side2 => exact HC0.out); rintro e w6 ⟨rfl, hb⟩; refine ⟨_, rfl, ?_⟩; have n0_ := a_ (below_step bel_ hb); clear HB; have HB := n0_; clear n0_; (try clear hb); (try clear hb2); (try clear hk); (try clear hi)))
      go_roundg k1
      case measure => have := HK1.out; omega
      case rel => exact ⟨(t386), (wrap64 (x4_1 + 1)), (by first | rfl | (simp; done) | (simp [*]; done)), (by first | rfl | (simp; done) | (simp [*]; done)), H', ⟨by have := HK1.out; omega⟩, ⟨by repeat (first | (with_reducible first | exact HB.out | apply below_alloc | apply pw_below_drewN | apply below_drew1) | exact HB.out)⟩⟩
     ·rw [if_neg c5] at H
      have c5b0 : decide (x3_1 < t386) = false := decide_eq_false c5
      clear c5
      have H' := a_ H
      clear H
      have p385 : 0 ≤ (x4_1 : Int) := od_
      have q385 : x4_1 < (l0.length : Int) := od_
      obtain ⟨ad385, e385, hx385_0, hx385_1, hx385_2, hx385_3⟩ := at_T28 HR0.out x4_1 p385 q385
      cases e385
      replace hx385_0 := pc_ hx385_0
      replace hx385_1 := pc_ hx385_1
      replace hx385_2 := pc_ hx385_2
      replace hx385_3 := pc_ hx385_3
      replace p385 := eq_true p385
      replace q385 := eq_true q385
      go_wp2_with (first | ((with_reducible refine gate_callee (f := 21) rfl ?_); refine gs_ (some 18) Try.func21 #[.slice (some ad385) l0.length c0, .int .i64 ((rd_T28 l0 x4_1).f3)] ?_; (with_reducible refine (skiarearef55_On.calls k1 _ _ l0 ((rd_T28 l0 x4_1).f3) t386 _ ?side1 ?side2 A4.out).mono ?_); (case side1 => exact kC_ (Kd.C_below HR0.out HB.out)); (case side2 => exact HC0.out); rintro e w7 ⟨rfl, hb⟩; refine ⟨_, rfl, ?_⟩; have n0_ := a_ (below_step bel_ hb); clear HB; have HB := n0_; clear n0_; (try clear hb); (try clear hb2); (try clear hk); (try clear hi)))
      go_roundg k1
      case measure => have := HK1.out; omega
      case rel => exact ⟨(x3_1), (wrap64 (x4_1 + 1)), (by first | rfl | (simp; done) | (simp [*]; done)), (by first | rfl | (simp; done) | (simp [*]; done)), H', ⟨by have := HK1.out; omega⟩, ⟨by repeat (first | (with_reducible first | exact HB.out | apply below_alloc | apply pw_below_drewN | apply below_drew1) | exact HB.out)⟩⟩
    ·rw [if_neg c3] at H
     exact absurd H (by simp)
   ·rw [if_neg c2] at H
    have c2b0 : decide (x4_1 < (l0.length : Int)) = false := decide_eq_false c2
    clear c2
    obtain rfl := Option.some.inj H
    go_wp2
    go_ret
    exact ⟨by first | rfl | (simp [errW_none, errW_some] <;> rfl) | (simp [*, errW_none, errW_some] <;> rfl), by repeat (first | (with_reducible first | exact HB.out | apply below_alloc | apply pw_below_drewN | apply below_drew1) | exact HB.out)⟩

end Go.Proofs.Ytgfiidgigenibaa.Q
