-- written by wip/drive.py (this session's program) over the kit's print words
import Derived.Test.YtgfiidgigenibaaQ0
import Derived.Test.YtgfiidgigenibaaQ4
import Derived.Test.YtgfiidgigenibaaQ18
import Derived.Test.YtgfiidgigenibaaQ21
import Derived.Test.YtgfiidgigenibaaQ24
namespace Go.Proofs.Ytgfiidgigenibaa.Q
open Go.RowKit Go.Proofs.YtgfiidgigenibaaW.PrintWords Go.Proofs.YtgfiidgigenibaaW.PrintLast Go.Proofs.YtgfiidgigenibaaW.PrintMore
attribute [local go_sem] max2_int min2_int max_two min_two max_three min_three max_four min_four   -- for this text's walks alone
set_option linter.unusedVariables false
set_option linter.unusedSimpArgs false

/-! ### skiarealaw55_CensusBounds: function 8 -/
mutual
def skiarealaw55_CensusBounds.j0 : Nat → List (S28) → Int → Bool → Option (Bool)
 | 0, _, _, _ => none
 | k + 1, x0, x1, x19 => if x19 = true then (some true) else (skiarealaw55_CensusBounds.l0 k x0 x1 0 0 false 0)
def skiarealaw55_CensusBounds.l0 : Nat → List (S28) → Int → Int → Int → Bool → Int → Option (Bool)
 | 0, _, _, _, _, _, _ => none
 | k + 1, x0, x1, x5, x6, x7, x8 => if x8 < (x0.length : Int) then (if 0 ≤ x8 then (if ((rd_T28 x0 x8).f3) > x1 then (skiarealaw55_CensusBounds.l0 k x0 x1 x5 x6 x7 (wrap64 (x8 + 1))) else (if x7 = true then (if ((rd_T28 x0 x8).f0) = 1 then (skiarealaw55_CensusBounds.l0 k x0 x1 (wrap64 (x5 + ((rd_T28 x0 x8).f2))) x6 true (wrap64 (x8 + 1))) else (skiarealaw55_CensusBounds.l0 k x0 x1 x5 (wrap64 (x6 + ((rd_T28 x0 x8).f2))) true (wrap64 (x8 + 1)))) else (if ((rd_T28 x0 x8).f0) = 1 then (skiarealaw55_CensusBounds.l0 k x0 x1 (wrap64 (x5 + ((rd_T28 x0 x8).f2))) x6 (((rd_T28 x0 x8).f3) == x1) (wrap64 (x8 + 1))) else (skiarealaw55_CensusBounds.l0 k x0 x1 x5 (wrap64 (x6 + ((rd_T28 x0 x8).f2))) (((rd_T28 x0 x8).f3) == x1) (wrap64 (x8 + 1)))))) else (none)) else ((census_On.f k x0 x1).bind fun t489 => (if t489 < 0 then (some false) else (if t489 = (wrap64 (x5 - x6)) then (if t489 > x5 then (some false) else ((census_Peak.f k x0).bind fun t490 => (if t489 > t490 then (some false) else (if x7 = true then (some true) else (if x1 < 1 then (some true) else ((census_On.f k x0 (wrap64 (x1 - 1))).bind fun t491 => (some (t491 == t489)))))))) else (some false))))
end
def skiarealaw55_CensusBounds.f (k : Nat) (l0 : List (S28)) (a1 : Int) : Option (Bool) := (skiarealaw55_alive.f).bind fun t479 => (if t479 = true then (if (l0.length : Int) > 100 then (skiarealaw55_CensusBounds.j0 k l0 a1 true) else ((census_Right.f k l0).bind fun t480 => (skiarealaw55_CensusBounds.j0 k l0 a1 (t480 != 0)))) else (some false))
theorem skiarealaw55_CensusBounds.mono_l : ∀ k, (∀ y0 y1 y2, LeO (skiarealaw55_CensusBounds.j0 k y0 y1 y2) (skiarealaw55_CensusBounds.j0 (k + 1) y0 y1 y2)) ∧ (∀ y0 y1 y2 y3 y4 y5, LeO (skiarealaw55_CensusBounds.l0 k y0 y1 y2 y3 y4 y5) (skiarealaw55_CensusBounds.l0 (k + 1) y0 y1 y2 y3 y4 y5))
 | 0 => ⟨fun _ _ _ r h => by simp [skiarealaw55_CensusBounds.j0] at h, fun _ _ _ _ _ _ r h => by simp [skiarealaw55_CensusBounds.l0] at h⟩
 | k + 1 => by
  obtain ⟨ih0, ih1⟩ := skiarealaw55_CensusBounds.mono_l k
  refine ⟨?_, ?_⟩
  ·intro y0 y1 y2
   unfold skiarealaw55_CensusBounds.j0
   repeat' first
   | (with_reducible exact ih0 _ _ _)
   | (with_reducible exact ih1 _ _ _ _ _ _)
   | (with_reducible exact census_On.mono _ _ _)
   | (with_reducible exact census_Peak.mono _ _)
   | (with_reducible exact census_Right.mono _ _)
   | (with_reducible exact LeO.refl _)
   | (with_reducible exact LeO.none _)
   | (with_reducible refine LeO.ite ?_ ?_)
   | (with_reducible refine LeO.bind ?_ (fun _ => ?_))
   | exact ih0 _ _ _
   | exact ih1 _ _ _ _ _ _
   | exact census_On.mono _ _ _
   | exact census_Peak.mono _ _
   | exact census_Right.mono _ _
   | exact LeO.none _
   | refine LeO.ite ?_ ?_
   | refine LeO.bind ?_ (fun _ => ?_)
  ·intro y0 y1 y2 y3 y4 y5
   unfold skiarealaw55_CensusBounds.l0
   repeat' first
   | (with_reducible exact ih0 _ _ _)
   | (with_reducible exact ih1 _ _ _ _ _ _)
   | (with_reducible exact census_On.mono _ _ _)
   | (with_reducible exact census_Peak.mono _ _)
   | (with_reducible exact census_Right.mono _ _)
   | (with_reducible exact LeO.refl _)
   | (with_reducible exact LeO.none _)
   | (with_reducible refine LeO.ite ?_ ?_)
   | (with_reducible refine LeO.bind ?_ (fun _ => ?_))
   | exact ih0 _ _ _
   | exact ih1 _ _ _ _ _ _
   | exact census_On.mono _ _ _
   | exact census_Peak.mono _ _
   | exact census_Right.mono _ _
   | exact LeO.none _
   | refine LeO.ite ?_ ?_
   | refine LeO.bind ?_ (fun _ => ?_)
theorem skiarealaw55_CensusBounds.mono : ∀ a0 a1 k, LeO (skiarealaw55_CensusBounds.f k a0 a1) (skiarealaw55_CensusBounds.f (k + 1) a0 a1) := by
 intro a0 a1 k
 obtain ⟨ih0, ih1⟩ := skiarealaw55_CensusBounds.mono_l k
 unfold skiarealaw55_CensusBounds.f
 repeat' first
   | (with_reducible exact ih0 _ _ _)
   | (with_reducible exact ih1 _ _ _ _ _ _)
   | (with_reducible exact census_On.mono _ _ _)
   | (with_reducible exact census_Peak.mono _ _)
   | (with_reducible exact census_Right.mono _ _)
   | (with_reducible exact LeO.refl _)
   | (with_reducible exact LeO.none _)
   | (with_reducible refine LeO.ite ?_ ?_)
   | (with_reducible refine LeO.bind ?_ (fun _ => ?_))
   | exact ih0 _ _ _
   | exact ih1 _ _ _ _ _ _
   | exact census_On.mono _ _ _
   | exact census_Peak.mono _ _
   | exact census_Right.mono _ _
   | exact LeO.none _
   | refine LeO.ite ?_ ?_
   | refine LeO.bind ?_ (fun _ => ?_)
set_option maxHeartbeats 8000000 in
set_option maxRecDepth 100000 in
theorem skiarealaw55_CensusBounds.calls (k : Nat) (A0 : Option Addr) (c0 : Nat) (l0 : List (S28)) (a1 : Int) (w : World) (hr0 : Kd.C k28 w A0 l0.length l0) (hc0 : l0.length ≤ c0) (h : skiarealaw55_CensusBounds.f k l0 a1 = some true) :
  Calls Try.prog 8 #[.slice A0 l0.length c0, .int .i64 a1] w fun e w' => e = .returned (.bool true) ∧ Below w.heap.size w w' := by
 have HR0 := a_ hr0
 have HC0 := a_ hc0
 clear hr0 hc0
 have HB := a_ (Below.refl w.heap.size w)
 have H : ((skiarealaw55_alive.f).bind fun t479 => (if t479 = true then (if (l0.length : Int) > 100 then (skiarealaw55_CensusBounds.j0 k l0 a1 true) else ((census_Right.f k l0).bind fun t480 => (skiarealaw55_CensusBounds.j0 k l0 a1 (t480 != 0)))) else (some false))) = some true := h
 clear h
 replace H := Option.bind_eq_some_iff.mp H
 obtain ⟨t479, A30, H⟩ := H
 replace H : (if t479 = true then (if (l0.length : Int) > 100 then (skiarealaw55_CensusBounds.j0 k l0 a1 true) else ((census_Right.f k l0).bind fun t480 => (skiarealaw55_CensusBounds.j0 k l0 a1 (t480 != 0)))) else (some false)) = some true := H
 have A3 := a_ A30
 clear A30
 by_cases c4 : t479 = true
 ·subst c4
  have H1 : (if (l0.length : Int) > 100 then (skiarealaw55_CensusBounds.j0 k l0 a1 true) else ((census_Right.f k l0).bind fun t480 => (skiarealaw55_CensusBounds.j0 k l0 a1 (t480 != 0)))) = some true := by rw [if_pos rfl] at H; exact H
  clear H
  have H := H1
  clear H1
  have HC5 := a_ H
  clear H
  go_enter Try.func8, Try.ntmps8
  go_upto_region 3 with (first | ((with_reducible refine gate_callee (f := 9) rfl ?_); refine gs_ (some 10) Try.func9 #[] ?_; (with_reducible refine (skiarealaw55_alive.calls  true _ A3.out).mono ?_); rintro e w6 ⟨rfl, hb⟩; refine ⟨_, rfl, ?_⟩; have n0_ := a_ (below_step bel_ hb); clear HB; have HB := n0_; clear n0_; (try clear hb); (try clear hb2); (try clear hk); (try clear hi)))
  (try simp only [Act.put, List.setIfInBounds_toArray, List.set_cons_zero, List.set_cons_succ])
  go_cut [19] (fun v19 wc => ∃ (kq : Nat) (x19_4 : Bool), v19 = .bool x19_4 ∧ Aside0 (skiarealaw55_CensusBounds.j0 kq l0 a1 x19_4 = some true) ∧ Aside0 (kq ≤ k) ∧ Aside0 (Below w.heap.size w wc))
  case first =>
   have H := HC5.out
   clear HC5
   by_cases c7 : (l0.length : Int) > 100
   ·rw [if_pos c7] at H
    have c7b0 : decide (100 < (l0.length : Int)) = true := decide_eq_true c7
    have c7b1 : decide (100 < l0.length) = true := decide_eq_true (by omega)
    clear c7
    (first | rw [c7b0] | (simp only [i64_w, i32_w]; rw [c7b0]) | skip)
    have H' := a_ H
    clear H
    go_wp2
    go_meet
    case rel => exact ⟨_, (true), (by first | rfl | (simp; done) | (simp [*]; done)), H', ⟨by first | omega | exact Nat.le_refl _⟩, ⟨by repeat (first | (with_reducible first | exact HB.out | apply below_alloc | apply pw_below_drewN | apply below_drew1) | exact HB.out)⟩⟩
   ·rw [if_neg c7] at H
    have c7b0 : decide (100 < (l0.length : Int)) = false := decide_eq_false c7
    have c7b1 : decide (100 < l0.length) = false := decide_eq_false (by omega)
    clear c7
    (first | rw [c7b0] | (simp only [i64_w, i32_w]; rw [c7b0]) | skip)
    replace H := Option.bind_eq_some_iff.mp H
    obtain ⟨t480, A80, H⟩ := H
    replace H : (skiarealaw55_CensusBounds.j0 k l0 a1 (t480 != 0)) = some true := H
    have A8 := a_ A80
    clear A80
    have H' := a_ H
    clear H
    go_wp2_with (first | (go_at_call 10; (with_reducible refine (census_Right.calls k _ _ l0 t480 _ ?side1 ?side2 A8.out).mono ?_); (case side1 => exact kC_ (Kd.C_below HR0.out HB.out)); (case side2 => exact HC0.out); rintro e w9 ⟨rfl, hb⟩; have n0_ := a_ (below_step bel_ hb); clear HB; have HB := n0_; clear n0_; (try clear hb); (try clear hb2); (try clear hk); (try clear hi)))
    go_meet
    case rel => exact ⟨_, ((t480 != 0)), (by first | rfl | (simp; done) | (simp [*]; done)), H', ⟨by first | omega | exact Nat.le_refl _⟩, ⟨by repeat (first | (with_reducible first | exact HB.out | apply below_alloc | apply pw_below_drewN | apply below_drew1) | exact HB.out)⟩⟩
  case rest =>
   clear HC5
   try clear p2
   try clear c4
   try clear c7
   try clear c7b0
   try clear c7b1
   try clear c8
   try clear c9
   obtain ⟨kq, x19_4, rfl, HA, HJ4, HB⟩ := hcut
   cases kq with
   | zero => exact absurd HA.out (by simp [skiarealaw55_CensusBounds.j0])
   | succ kj4 =>
    have H := HA.out
    clear HA
    simp only [skiarealaw55_CensusBounds.j0] at H
    by_cases c10 : x19_4 = true
    ·subst c10
     have H1 : (some true) = some true := rfl
     clear H
     have H := H1
     clear H1
     clear H
     go_wp2
     go_ret
     exact ⟨by first | rfl | (rw [HTR.out]; rfl) | (exact congrArg (fun b => Ending.returned (Value.bool b)) HTR.out) | (simpa using HTR.out) | (simp [errW_none, errW_some] <;> rfl) | (simp [*, errW_none, errW_some] <;> rfl), by repeat (first | (with_reducible first | exact HB.out | apply below_alloc | apply pw_below_drewN | apply below_drew1) | exact HB.out)⟩
    ·replace c10 := Bool.eq_false_iff.mpr c10
     subst c10
     have H1 : (skiarealaw55_CensusBounds.l0 kj4 l0 a1 0 0 false 0) = some true := by rw [if_neg (show ¬ (false = true) by decide)] at H; exact H
     clear H
     have H := H1
     clear H1
     have H' := a_ H
     clear H
     go_wp2
     go_loopg [5, 6, 7, 8] kj4 (fun kq v5 v6 v7 v8 w' => ∃ (x5_2 : Int) (x6_2 : Int) (x7_2 : Bool) (x8_2 : Int), v5 = .int .i64 x5_2 ∧ v6 = .int .i64 x6_2 ∧ v7 = .bool x7_2 ∧ v8 = .int .i64 x8_2 ∧ Aside0 (skiarealaw55_CensusBounds.l0 kq l0 a1 x5_2 x6_2 x7_2 x8_2 = some true) ∧ Aside0 (kq ≤ kj4) ∧ Aside0 (Below w.heap.size w w'))
     case atStart => exact ⟨(0), (0), (false), (0), (by first | rfl | (simp; done) | (simp [*]; done)), (by first | rfl | (simp; done) | (simp [*]; done)), (by first | rfl | (simp; done) | (simp [*]; done)), (by first | rfl | (simp; done) | (simp [*]; done)), H', ⟨Nat.le_refl _⟩, ⟨by repeat (first | (with_reducible first | exact HB.out | apply below_alloc | apply pw_below_drewN | apply below_drew1) | exact HB.out)⟩⟩
     case round =>
      clear H'
      try clear c1
      try clear p2
      try clear c4
      try clear c7
      try clear c7b0
      try clear c7b1
      try clear c8
      try clear c9
      try clear c10
      try clear p2
      obtain ⟨x5_2, x6_2, x7_2, x8_2, rfl, rfl, rfl, rfl, HA, HK2, HB⟩ := hrel
      cases gk with
      | zero => exact absurd HA.out (by simp [skiarealaw55_CensusBounds.l0])
      | succ k2 =>
       have H := HA.out
       clear HA
       simp only [skiarealaw55_CensusBounds.l0] at H
       by_cases c11 : x8_2 < (l0.length : Int)
       ·rw [if_pos c11] at H
        have c11b0 : decide (x8_2 < (l0.length : Int)) = true := decide_eq_true c11
        clear c11
        by_cases c12 : 0 ≤ x8_2
        ·rw [if_pos c12] at H
         have c12b0 : decide (0 ≤ x8_2) = true := decide_eq_true c12
         clear c12
         by_cases c13 : ((rd_T28 l0 x8_2).f3) > a1
         ·rw [if_pos c13] at H
          have c13b0 : decide (a1 < ((rd_T28 l0 x8_2).f3)) = true := decide_eq_true c13
          clear c13
          have H' := a_ H
          clear H
          have p481 : 0 ≤ (x8_2 : Int) := od_
          have q481 : x8_2 < (l0.length : Int) := od_
          obtain ⟨ad481, e481, hx481_0, hx481_1, hx481_2, hx481_3⟩ := at_T28 HR0.out x8_2 p481 q481
          cases e481
          replace hx481_0 := pc_ hx481_0
          replace hx481_1 := pc_ hx481_1
          replace hx481_2 := pc_ hx481_2
          replace hx481_3 := pc_ hx481_3
          replace p481 := eq_true p481
          replace q481 := eq_true q481
          go_wp2
          go_roundg k2
          case measure => have := HJ4.out; have := HK2.out; omega
          case rel => exact ⟨(x5_2), (x6_2), (x7_2), (wrap64 (x8_2 + 1)), (by first | rfl | (simp; done) | (simp [*]; done)), (by first | rfl | (simp; done) | (simp [*]; done)), (by first | rfl | (simp; done) | (simp [*]; done)), (by first | rfl | (simp; done) | (simp [*]; done)), H', ⟨by have := HJ4.out; have := HK2.out; omega⟩, ⟨by repeat (first | (with_reducible first | exact HB.out | apply below_alloc | apply pw_below_drewN | apply below_drew1) | exact HB.out)⟩⟩
         ·rw [if_neg c13] at H
          have c13b0 : decide (a1 < ((rd_T28 l0 x8_2).f3)) = false := decide_eq_false c13
          clear c13
          by_cases c14 : x7_2 = true
          ·subst c14
           have H1 : (if ((rd_T28 l0 x8_2).f0) = 1 then (skiarealaw55_CensusBounds.l0 k2 l0 a1 (wrap64 (x5_2 + ((rd_T28 l0 x8_2).f2))) x6_2 true (wrap64 (x8_2 + 1))) else (skiarealaw55_CensusBounds.l0 k2 l0 a1 x5_2 (wrap64 (x6_2 + ((rd_T28 l0 x8_2).f2))) true (wrap64 (x8_2 + 1)))) = some true := by rw [if_pos rfl] at H; exact H
           clear H
           have H := H1
           clear H1
           by_cases c15 : ((rd_T28 l0 x8_2).f0) = 1
           ·rw [if_pos c15] at H
            have c15b0 : (((rd_T28 l0 x8_2).f0) == 1) = true := beq_iff_eq.mpr c15
            have c15b1 : (((rd_T28 l0 x8_2).f0) != 1) = false := bne_eq_false_iff_eq.mpr c15
            clear c15
            have H' := a_ H
            clear H
            have p481 : 0 ≤ (x8_2 : Int) := od_
            have q481 : x8_2 < (l0.length : Int) := od_
            obtain ⟨ad481, e481, hx481_0, hx481_1, hx481_2, hx481_3⟩ := at_T28 HR0.out x8_2 p481 q481
            cases e481
            replace hx481_0 := pc_ hx481_0
            replace hx481_1 := pc_ hx481_1
            replace hx481_2 := pc_ hx481_2
            replace hx481_3 := pc_ hx481_3
            replace p481 := eq_true p481
            replace q481 := eq_true q481
            have p482 : 0 ≤ (x8_2 : Int) := od_
            have q482 : x8_2 < (l0.length : Int) := od_
            obtain ⟨ad482, e482, hx482_0, hx482_1, hx482_2, hx482_3⟩ := at_T28 HR0.out x8_2 p482 q482
            obtain rfl : ad481 = ad482 := (by injection e482)
            replace hx482_0 := pc_ hx482_0
            replace hx482_1 := pc_ hx482_1
            replace hx482_2 := pc_ hx482_2
            replace hx482_3 := pc_ hx482_3
            replace p482 := eq_true p482
            replace q482 := eq_true q482
            have p483 : 0 ≤ (x8_2 : Int) := od_
            have q483 : x8_2 < (l0.length : Int) := od_
            obtain ⟨ad483, e483, hx483_0, hx483_1, hx483_2, hx483_3⟩ := at_T28 HR0.out x8_2 p483 q483
            obtain rfl : ad481 = ad483 := (by injection e483)
            replace hx483_0 := pc_ hx483_0
            replace hx483_1 := pc_ hx483_1
            replace hx483_2 := pc_ hx483_2
            replace hx483_3 := pc_ hx483_3
            replace p483 := eq_true p483
            replace q483 := eq_true q483
            go_wp2
            go_roundg k2
            case measure => have := HJ4.out; have := HK2.out; omega
            case rel => exact ⟨(wrap64 (x5_2 + ((rd_T28 l0 x8_2).f2))), (x6_2), (true), (wrap64 (x8_2 + 1)), (by first | rfl | (simp; done) | (simp [*]; done)), (by first | rfl | (simp; done) | (simp [*]; done)), (by first | rfl | (simp; done) | (simp [*]; done)), (by first | rfl | (simp; done) | (simp [*]; done)), H', ⟨by have := HJ4.out; have := HK2.out; omega⟩, ⟨by repeat (first | (with_reducible first | exact HB.out | apply below_alloc | apply pw_below_drewN | apply below_drew1) | exact HB.out)⟩⟩
           ·rw [if_neg c15] at H
            have c15b0 : (((rd_T28 l0 x8_2).f0) == 1) = false := beq_eq_false_iff_ne.mpr c15
            have c15b1 : (((rd_T28 l0 x8_2).f0) != 1) = true := bne_iff_ne.mpr c15
            have H' := a_ H
            clear H
            have p481 : 0 ≤ (x8_2 : Int) := od_
            have q481 : x8_2 < (l0.length : Int) := od_
            obtain ⟨ad481, e481, hx481_0, hx481_1, hx481_2, hx481_3⟩ := at_T28 HR0.out x8_2 p481 q481
            cases e481
            replace hx481_0 := pc_ hx481_0
            replace hx481_1 := pc_ hx481_1
            replace hx481_2 := pc_ hx481_2
            replace hx481_3 := pc_ hx481_3
            replace p481 := eq_true p481
            replace q481 := eq_true q481
            have p482 : 0 ≤ (x8_2 : Int) := od_
            have q482 : x8_2 < (l0.length : Int) := od_
            obtain ⟨ad482, e482, hx482_0, hx482_1, hx482_2, hx482_3⟩ := at_T28 HR0.out x8_2 p482 q482
            obtain rfl : ad481 = ad482 := (by injection e482)
            replace hx482_0 := pc_ hx482_0
            replace hx482_1 := pc_ hx482_1
            replace hx482_2 := pc_ hx482_2
            replace hx482_3 := pc_ hx482_3
            replace p482 := eq_true p482
            replace q482 := eq_true q482
            have p484 : 0 ≤ (x8_2 : Int) := od_
            have q484 : x8_2 < (l0.length : Int) := od_
            obtain ⟨ad484, e484, hx484_0, hx484_1, hx484_2, hx484_3⟩ := at_T28 HR0.out x8_2 p484 q484
            obtain rfl : ad481 = ad484 := (by injection e484)
            replace hx484_0 := pc_ hx484_0
            replace hx484_1 := pc_ hx484_1
            replace hx484_2 := pc_ hx484_2
            replace hx484_3 := pc_ hx484_3
            replace p484 := eq_true p484
            replace q484 := eq_true q484
            go_wp2
            go_roundg k2
            case measure => have := HJ4.out; have := HK2.out; omega
            case rel => exact ⟨(x5_2), (wrap64 (x6_2 + ((rd_T28 l0 x8_2).f2))), (true), (wrap64 (x8_2 + 1)), (by first | rfl | (simp; done) | (simp [*]; done)), (by first | rfl | (simp; done) | (simp [*]; done)), (by first | rfl | (simp; done) | (simp [*]; done)), (by first | rfl | (simp; done) | (simp [*]; done)), H', ⟨by have := HJ4.out; have := HK2.out; omega⟩, ⟨by repeat (first | (with_reducible first | exact HB.out | apply below_alloc | apply pw_below_drewN | apply below_drew1) | exact HB.out)⟩⟩
          ·replace c14 := Bool.eq_false_iff.mpr c14
           subst c14
           have H1 : (if ((rd_T28 l0 x8_2).f0) = 1 then (skiarealaw55_CensusBounds.l0 k2 l0 a1 (wrap64 (x5_2 + ((rd_T28 l0 x8_2).f2))) x6_2 (((rd_T28 l0 x8_2).f3) == a1) (wrap64 (x8_2 + 1))) else (skiarealaw55_CensusBounds.l0 k2 l0 a1 x5_2 (wrap64 (x6_2 + ((rd_T28 l0 x8_2).f2))) (((rd_T28 l0 x8_2).f3) == a1) (wrap64 (x8_2 + 1)))) = some true := by rw [if_neg (show ¬ (false = true) by decide)] at H; exact H
           clear H
           have H := H1
           clear H1
           by_cases c16 : ((rd_T28 l0 x8_2).f0) = 1
           ·rw [if_pos c16] at H
            have c16b0 : (((rd_T28 l0 x8_2).f0) == 1) = true := beq_iff_eq.mpr c16
            have c16b1 : (((rd_T28 l0 x8_2).f0) != 1) = false := bne_eq_false_iff_eq.mpr c16
            clear c16
            have H' := a_ H
            clear H
            have p481 : 0 ≤ (x8_2 : Int) := od_
            have q481 : x8_2 < (l0.length : Int) := od_
            obtain ⟨ad481, e481, hx481_0, hx481_1, hx481_2, hx481_3⟩ := at_T28 HR0.out x8_2 p481 q481
            cases e481
            replace hx481_0 := pc_ hx481_0
            replace hx481_1 := pc_ hx481_1
            replace hx481_2 := pc_ hx481_2
            replace hx481_3 := pc_ hx481_3
            replace p481 := eq_true p481
            replace q481 := eq_true q481
            have p485 : 0 ≤ (x8_2 : Int) := od_
            have q485 : x8_2 < (l0.length : Int) := od_
            obtain ⟨ad485, e485, hx485_0, hx485_1, hx485_2, hx485_3⟩ := at_T28 HR0.out x8_2 p485 q485
            obtain rfl : ad481 = ad485 := (by injection e485)
            replace hx485_0 := pc_ hx485_0
            replace hx485_1 := pc_ hx485_1
            replace hx485_2 := pc_ hx485_2
            replace hx485_3 := pc_ hx485_3
            replace p485 := eq_true p485
            replace q485 := eq_true q485
            have p486 : 0 ≤ (x8_2 : Int) := od_
            have q486 : x8_2 < (l0.length : Int) := od_
            obtain ⟨ad486, e486, hx486_0, hx486_1, hx486_2, hx486_3⟩ := at_T28 HR0.out x8_2 p486 q486
            obtain rfl : ad481 = ad486 := (by injection e486)
            replace hx486_0 := pc_ hx486_0
            replace hx486_1 := pc_ hx486_1
            replace hx486_2 := pc_ hx486_2
            replace hx486_3 := pc_ hx486_3
            replace p486 := eq_true p486
            replace q486 := eq_true q486
            have p487 : 0 ≤ (x8_2 : Int) := od_
            have q487 : x8_2 < (l0.length : Int) := od_
            obtain ⟨ad487, e487, hx487_0, hx487_1, hx487_2, hx487_3⟩ := at_T28 HR0.out x8_2 p487 q487
            obtain rfl : ad481 = ad487 := (by injection e487)
            replace hx487_0 := pc_ hx487_0
            replace hx487_1 := pc_ hx487_1
            replace hx487_2 := pc_ hx487_2
            replace hx487_3 := pc_ hx487_3
            replace p487 := eq_true p487
            replace q487 := eq_true q487
            go_wp2
            go_roundg k2
            case measure => have := HJ4.out; have := HK2.out; omega
            case rel => exact ⟨(wrap64 (x5_2 + ((rd_T28 l0 x8_2).f2))), (x6_2), ((((rd_T28 l0 x8_2).f3) == a1)), (wrap64 (x8_2 + 1)), (by first | rfl | (simp; done) | (simp [*]; done)), (by first | rfl | (simp; done) | (simp [*]; done)), (by first | rfl | (simp; done) | (simp [*]; done)), (by first | rfl | (simp; done) | (simp [*]; done)), H', ⟨by have := HJ4.out; have := HK2.out; omega⟩, ⟨by repeat (first | (with_reducible first | exact HB.out | apply below_alloc | apply pw_below_drewN | apply below_drew1) | exact HB.out)⟩⟩
           ·rw [if_neg c16] at H
            have c16b0 : (((rd_T28 l0 x8_2).f0) == 1) = false := beq_eq_false_iff_ne.mpr c16
            have c16b1 : (((rd_T28 l0 x8_2).f0) != 1) = true := bne_iff_ne.mpr c16
            have H' := a_ H
            clear H
            have p481 : 0 ≤ (x8_2 : Int) := od_
            have q481 : x8_2 < (l0.length : Int) := od_
            obtain ⟨ad481, e481, hx481_0, hx481_1, hx481_2, hx481_3⟩ := at_T28 HR0.out x8_2 p481 q481
            cases e481
            replace hx481_0 := pc_ hx481_0
            replace hx481_1 := pc_ hx481_1
            replace hx481_2 := pc_ hx481_2
            replace hx481_3 := pc_ hx481_3
            replace p481 := eq_true p481
            replace q481 := eq_true q481
            have p485 : 0 ≤ (x8_2 : Int) := od_
            have q485 : x8_2 < (l0.length : Int) := od_
            obtain ⟨ad485, e485, hx485_0, hx485_1, hx485_2, hx485_3⟩ := at_T28 HR0.out x8_2 p485 q485
            obtain rfl : ad481 = ad485 := (by injection e485)
            replace hx485_0 := pc_ hx485_0
            replace hx485_1 := pc_ hx485_1
            replace hx485_2 := pc_ hx485_2
            replace hx485_3 := pc_ hx485_3
            replace p485 := eq_true p485
            replace q485 := eq_true q485
            have p486 : 0 ≤ (x8_2 : Int) := od_
            have q486 : x8_2 < (l0.length : Int) := od_
            obtain ⟨ad486, e486, hx486_0, hx486_1, hx486_2, hx486_3⟩ := at_T28 HR0.out x8_2 p486 q486
            obtain rfl : ad481 = ad486 := (by injection e486)
            replace hx486_0 := pc_ hx486_0
            replace hx486_1 := pc_ hx486_1
            replace hx486_2 := pc_ hx486_2
            replace hx486_3 := pc_ hx486_3
            replace p486 := eq_true p486
            replace q486 := eq_true q486
            have p488 : 0 ≤ (x8_2 : Int) := od_
            have q488 : x8_2 < (l0.length : Int) := od_
            obtain ⟨ad488, e488, hx488_0, hx488_1, hx488_2, hx488_3⟩ := at_T28 HR0.out x8_2 p488 q488
            obtain rfl : ad481 = ad488 := (by injection e488)
            replace hx488_0 := pc_ hx488_0
            replace hx488_1 := pc_ hx488_1
            replace hx488_2 := pc_ hx488_2
            replace hx488_3 := pc_ hx488_3
            replace p488 := eq_true p488
            replace q488 := eq_true q488
            go_wp2
            go_roundg k2
            case measure => have := HJ4.out; have := HK2.out; omega
            case rel => exact ⟨(x5_2), (wrap64 (x6_2 + ((rd_T28 l0 x8_2).f2))), ((((rd_T28 l0 x8_2).f3) == a1)), (wrap64 (x8_2 + 1)), (by first | rfl | (simp; done) | (simp [*]; done)), (by first | rfl | (simp; done) | (simp [*]; done)), (by first | rfl | (simp; done) | (simp [*]; done)), (by first | rfl | (simp; done) | (simp [*]; done)), H', ⟨by have := HJ4.out; have := HK2.out; omega⟩, ⟨by repeat (first | (with_reducible first | exact HB.out | apply below_alloc | apply pw_below_drewN | apply below_drew1) | exact HB.out)⟩⟩
        ·rw [if_neg c12] at H
         exact absurd H (by simp)
       ·rw [if_neg c11] at H
        have c11b0 : decide (x8_2 < (l0.length : Int)) = false := decide_eq_false c11
        clear c11
        replace H := Option.bind_eq_some_iff.mp H
        obtain ⟨t489, A170, H⟩ := H
        replace H : (if t489 < 0 then (some false) else (if t489 = (wrap64 (x5_2 - x6_2)) then (if t489 > x5_2 then (some false) else ((census_Peak.f k2 l0).bind fun t490 => (if t489 > t490 then (some false) else (if x7_2 = true then (some true) else (if a1 < 1 then (some true) else ((census_On.f k2 l0 (wrap64 (a1 - 1))).bind fun t491 => (some (t491 == t489)))))))) else (some false))) = some true := H
        have A17 := a_ A170
        clear A170
        by_cases c18 : t489 < 0
        ·rw [if_pos c18] at H
         have c18b0 : decide (t489 < 0) = true := decide_eq_true c18
         clear c18
         exact absurd H (by simp)
        ·rw [if_neg c18] at H
         have c18b0 : decide (t489 < 0) = false := decide_eq_false c18
         clear c18
         by_cases c19 : t489 = (wrap64 (x5_2 - x6_2))
         ·rw [if_pos c19] at H
          have c19b0 : (t489 == (wrap64 (x5_2 - x6_2))) = true := beq_iff_eq.mpr c19
          have c19b1 : (t489 != (wrap64 (x5_2 - x6_2))) = false := bne_eq_false_iff_eq.mpr c19
          clear c19
          by_cases c20 : t489 > x5_2
          ·rw [if_pos c20] at H
           have c20b0 : decide (x5_2 < t489) = true := decide_eq_true c20
           clear c20
           exact absurd H (by simp)
          ·rw [if_neg c20] at H
           have c20b0 : decide (x5_2 < t489) = false := decide_eq_false c20
           clear c20
           replace H := Option.bind_eq_some_iff.mp H
           obtain ⟨t490, A210, H⟩ := H
           replace H : (if t489 > t490 then (some false) else (if x7_2 = true then (some true) else (if a1 < 1 then (some true) else ((census_On.f k2 l0 (wrap64 (a1 - 1))).bind fun t491 => (some (t491 == t489)))))) = some true := H
           have A21 := a_ A210
           clear A210
           by_cases c22 : t489 > t490
           ·rw [if_pos c22] at H
            have c22b0 : decide (t490 < t489) = true := decide_eq_true c22
            clear c22
            exact absurd H (by simp)
           ·rw [if_neg c22] at H
            have c22b0 : decide (t490 < t489) = false := decide_eq_false c22
            clear c22
            by_cases c23 : x7_2 = true
            ·subst c23
             have H1 : (some true) = some true := rfl
             clear H
             have H := H1
             clear H1
             clear H
             go_wp2_with (first | ((with_reducible refine gate_callee (f := 11) rfl ?_); refine gs_ (some 65) Try.func11 #[.slice A0 l0.length c0, .int .i64 a1] ?_; (with_reducible refine (census_On.calls k2 _ _ l0 a1 t489 _ ?side1 ?side2 A17.out).mono ?_); (case side1 => exact kC_ (Kd.C_below HR0.out HB.out)); (case side2 => exact HC0.out); rintro e w24 ⟨rfl, hb⟩; refine ⟨_, rfl, ?_⟩; have n0_ := a_ (below_step bel_ hb); clear HB; have HB := n0_; clear n0_; (try clear hb); (try clear hb2); (try clear hk); (try clear hi)) | (go_at_call 22; (with_reducible refine (census_Peak.calls k2 _ _ l0 t490 _ ?side1 ?side2 A21.out).mono ?_); (case side1 => exact kC_ (Kd.C_below HR0.out HB.out)); (case side2 => exact HC0.out); rintro e w25 ⟨rfl, hb⟩; have n0_ := a_ (below_step bel_ hb); clear HB; have HB := n0_; clear n0_; (try clear hb); (try clear hb2); (try clear hk); (try clear hi)))
             go_ret
             exact ⟨by first | rfl | (rw [HTR.out]; rfl) | (exact congrArg (fun b => Ending.returned (Value.bool b)) HTR.out) | (simpa using HTR.out) | (simp [errW_none, errW_some] <;> rfl) | (simp [*, errW_none, errW_some] <;> rfl), by repeat (first | (with_reducible first | exact HB.out | apply below_alloc | apply pw_below_drewN | apply below_drew1) | exact HB.out)⟩
            ·replace c23 := Bool.eq_false_iff.mpr c23
             subst c23
             have H1 : (if a1 < 1 then (some true) else ((census_On.f k2 l0 (wrap64 (a1 - 1))).bind fun t491 => (some (t491 == t489)))) = some true := by rw [if_neg (show ¬ (false = true) by decide)] at H; exact H
             clear H
             have H := H1
             clear H1
             by_cases c26 : a1 < 1
             ·rw [if_pos c26] at H
              have c26b0 : decide (a1 < 1) = true := decide_eq_true c26
              clear c26
              clear H
              go_wp2_with (first | ((with_reducible refine gate_callee (f := 11) rfl ?_); refine gs_ (some 65) Try.func11 #[.slice A0 l0.length c0, .int .i64 a1] ?_; (with_reducible refine (census_On.calls k2 _ _ l0 a1 t489 _ ?side1 ?side2 A17.out).mono ?_); (case side1 => exact kC_ (Kd.C_below HR0.out HB.out)); (case side2 => exact HC0.out); rintro e w27 ⟨rfl, hb⟩; refine ⟨_, rfl, ?_⟩; have n0_ := a_ (below_step bel_ hb); clear HB; have HB := n0_; clear n0_; (try clear hb); (try clear hb2); (try clear hk); (try clear hi)) | (go_at_call 22; (with_reducible refine (census_Peak.calls k2 _ _ l0 t490 _ ?side1 ?side2 A21.out).mono ?_); (case side1 => exact kC_ (Kd.C_below HR0.out HB.out)); (case side2 => exact HC0.out); rintro e w28 ⟨rfl, hb⟩; have n0_ := a_ (below_step bel_ hb); clear HB; have HB := n0_; clear n0_; (try clear hb); (try clear hb2); (try clear hk); (try clear hi)))
              go_ret
              exact ⟨by first | rfl | (rw [HTR.out]; rfl) | (exact congrArg (fun b => Ending.returned (Value.bool b)) HTR.out) | (simpa using HTR.out) | (simp [errW_none, errW_some] <;> rfl) | (simp [*, errW_none, errW_some] <;> rfl), by repeat (first | (with_reducible first | exact HB.out | apply below_alloc | apply pw_below_drewN | apply below_drew1) | exact HB.out)⟩
             ·rw [if_neg c26] at H
              have c26b0 : decide (a1 < 1) = false := decide_eq_false c26
              clear c26
              replace H := Option.bind_eq_some_iff.mp H
              obtain ⟨t491, A290, H⟩ := H
              replace H : (some (t491 == t489)) = some true := H
              have A29 := a_ A290
              clear A290
              have HTR := a_ (Option.some.inj H)
              clear H
              go_wp2_with (first | ((with_reducible refine gate_callee (f := 11) rfl ?_); refine gs_ (some 65) Try.func11 #[.slice A0 l0.length c0, .int .i64 a1] ?_; (with_reducible refine (census_On.calls k2 _ _ l0 a1 t489 _ ?side1 ?side2 A17.out).mono ?_); (case side1 => exact kC_ (Kd.C_below HR0.out HB.out)); (case side2 => exact HC0.out); rintro e w30 ⟨rfl, hb⟩; refine ⟨_, rfl, ?_⟩; have n0_ := a_ (below_step bel_ hb); clear HB; have HB := n0_; clear n0_; (try clear hb); (try clear hb2); (try clear hk); (try clear hi)) | (go_at_call 22; (with_reducible refine (census_Peak.calls k2 _ _ l0 t490 _ ?side1 ?side2 A21.out).mono ?_); (case side1 => exact kC_ (Kd.C_below HR0.out HB.out)); (case side2 => exact HC0.out); rintro e w31 ⟨rfl, hb⟩; have n0_ := a_ (below_step bel_ hb); clear HB; have HB := n0_; clear n0_; (try clear hb); (try clear hb2); (try clear hk); (try clear hi)) | (go_at_call 11; (with_reducible refine (census_On.calls k2 _ _ l0 (wrap64 (a1 - 1)) t491 _ ?side1 ?side2 A29.out).mono ?_); (case side1 => exact kC_ (Kd.C_below HR0.out HB.out)); (case side2 => exact HC0.out); rintro e w32 ⟨rfl, hb⟩; have n0_ := a_ (below_step bel_ hb); clear HB; have HB := n0_; clear n0_; (try clear hb); (try clear hb2); (try clear hk); (try clear hi)))
              go_ret
              exact ⟨by first | rfl | (rw [HTR.out]; rfl) | (exact congrArg (fun b => Ending.returned (Value.bool b)) HTR.out) | (simpa using HTR.out) | (simp [errW_none, errW_some] <;> rfl) | (simp [*, errW_none, errW_some] <;> rfl), by repeat (first | (with_reducible first | exact HB.out | apply below_alloc | apply pw_below_drewN | apply below_drew1) | exact HB.out)⟩
         ·rw [if_neg c19] at H
          have c19b0 : (t489 == (wrap64 (x5_2 - x6_2))) = false := beq_eq_false_iff_ne.mpr c19
          have c19b1 : (t489 != (wrap64 (x5_2 - x6_2))) = true := bne_iff_ne.mpr c19
          exact absurd H (by simp)
 ·replace c4 := Bool.eq_false_iff.mpr c4
  subst c4
  have H1 : (some false) = some true := by rw [if_neg (show ¬ (false = true) by decide)] at H; exact H
  clear H
  have H := H1
  clear H1
  exact absurd H (by simp)

end Go.Proofs.Ytgfiidgigenibaa.Q
