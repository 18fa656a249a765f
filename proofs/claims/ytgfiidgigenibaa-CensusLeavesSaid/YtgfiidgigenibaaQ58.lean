-- written by wip/drive.py (this session's program) over the kit's print words
import Derived.Test.YtgfiidgigenibaaQ0
namespace Go.Proofs.Ytgfiidgigenibaa.Q
open Go.RowKit Go.Proofs.YtgfiidgigenibaaW.PrintWords Go.Proofs.YtgfiidgigenibaaW.PrintLast Go.Proofs.YtgfiidgigenibaaW.PrintMore
attribute [local go_sem] max2_int min2_int max_two min_two max_three min_three max_four min_four   -- for this text's walks alone
set_option linter.unusedVariables false
set_option linter.unusedSimpArgs false

/-! ### skiarearef06_way: function 66 -/
mutual
def skiarearef06_way.l0 : Nat → List (S67) → List Int → List Int → Int → List Int → Int → Option (List Int)
 | 0, _, _, _, _, _, _ => none
 | k + 1, x0, x1, x2, x3, x9, x10 => if x10 ≥ 0 then (if 0 ≤ x10 then (if x10 < (x1.length : Int) then (if (rd x1 x10) = x3 then (if x10 < (x2.length : Int) then (skiarearef06_way.j1 k x0 x1 x2 x3 x9 x10 ((rd x2 x10) == 0)) else (none)) else (skiarearef06_way.j1 k x0 x1 x2 x3 x9 x10 true)) else (none)) else (none)) else (some x9)
def skiarearef06_way.j1 : Nat → List (S67) → List Int → List Int → Int → List Int → Int → Bool → Option (List Int)
 | 0, _, _, _, _, _, _, _ => none
 | k + 1, x0, x1, x2, x3, x9, x10, x30 => if x30 = true then (skiarearef06_way.l0 k x0 x1 x2 x3 x9 (wrap64 (x10 - 1))) else (if 0 ≤ x10 then (if x10 < (x2.length : Int) then (if x9.length < 17592186044416 then ((some (x9 ++ [rd x2 x10] : List Int)).bind fun y447 => (if (rd x2 x10) > 0 then (if 0 ≤ (wrap64 ((rd x2 x10) - 1)) then (if (wrap64 ((rd x2 x10) - 1)) < (x0.length : Int) then (skiarearef06_way.l0 k x0 x1 x2 ((rd_T67 x0 (wrap64 ((rd x2 x10) - 1))).f1) y447 (wrap64 (x10 - 1))) else (none)) else (none)) else (if 0 ≤ (wrap64 ((wrap64 (-(rd x2 x10))) - 1)) then (if (wrap64 ((wrap64 (-(rd x2 x10))) - 1)) < (x0.length : Int) then (skiarearef06_way.l0 k x0 x1 x2 ((rd_T67 x0 (wrap64 ((wrap64 (-(rd x2 x10))) - 1))).f2) y447 (wrap64 (x10 - 1))) else (none)) else (none)))) else (none)) else (none)) else (none))
end
def skiarearef06_way.f (k : Nat) (l0 : List (S67)) (l1 : List Int) (l2 : List Int) (a3 : Int) : Option (List Int) := skiarearef06_way.l0 k l0 l1 l2 a3 ([] : List Int) (wrap64 ((l1.length : Int) - 1))
theorem skiarearef06_way.mono_l : ∀ k, (∀ y0 y1 y2 y3 y4 y5, LeO (skiarearef06_way.l0 k y0 y1 y2 y3 y4 y5) (skiarearef06_way.l0 (k + 1) y0 y1 y2 y3 y4 y5)) ∧ (∀ y0 y1 y2 y3 y4 y5 y6, LeO (skiarearef06_way.j1 k y0 y1 y2 y3 y4 y5 y6) (skiarearef06_way.j1 (k + 1) y0 y1 y2 y3 y4 y5 y6))
 | 0 => ⟨fun _ _ _ _ _ _ r h => by simp [skiarearef06_way.l0] at h, fun _ _ _ _ _ _ _ r h => by simp [skiarearef06_way.j1] at h⟩
 | k + 1 => by
  obtain ⟨ih0, ih1⟩ := skiarearef06_way.mono_l k
  refine ⟨?_, ?_⟩
  ·intro y0 y1 y2 y3 y4 y5
   unfold skiarearef06_way.l0
   repeat' first
   | (with_reducible exact ih0 _ _ _ _ _ _)
   | (with_reducible exact ih1 _ _ _ _ _ _ _)
   | (with_reducible exact LeO.refl _)
   | (with_reducible exact LeO.none _)
   | (with_reducible refine LeO.ite ?_ ?_)
   | (with_reducible refine LeO.bind ?_ (fun _ => ?_))
   | exact ih0 _ _ _ _ _ _
   | exact ih1 _ _ _ _ _ _ _
   | exact LeO.none _
   | refine LeO.ite ?_ ?_
   | refine LeO.bind ?_ (fun _ => ?_)
  ·intro y0 y1 y2 y3 y4 y5 y6
   unfold skiarearef06_way.j1
   repeat' first
   | (with_reducible exact ih0 _ _ _ _ _ _)
   | (with_reducible exact ih1 _ _ _ _ _ _ _)
   | (with_reducible exact LeO.refl _)
   | (with_reducible exact LeO.none _)
   | (with_reducible refine LeO.ite ?_ ?_)
   | (with_reducible refine LeO.bind ?_ (fun _ => ?_))
   | exact ih0 _ _ _ _ _ _
   | exact ih1 _ _ _ _ _ _ _
   | exact LeO.none _
   | refine LeO.ite ?_ ?_
   | refine LeO.bind ?_ (fun _ => ?_)
theorem skiarearef06_way.mono : ∀ a0 a1 a2 a3 k, LeO (skiarearef06_way.f k a0 a1 a2 a3) (skiarearef06_way.f (k + 1) a0 a1 a2 a3) := by
 intro a0 a1 a2 a3 k
 obtain ⟨ih0, ih1⟩ := skiarearef06_way.mono_l k
 unfold skiarearef06_way.f
 repeat' first
   | (with_reducible exact ih0 _ _ _ _ _ _)
   | (with_reducible exact ih1 _ _ _ _ _ _ _)
   | (with_reducible exact LeO.refl _)
   | (with_reducible exact LeO.none _)
   | (with_reducible refine LeO.ite ?_ ?_)
   | (with_reducible refine LeO.bind ?_ (fun _ => ?_))
   | exact ih0 _ _ _ _ _ _
   | exact ih1 _ _ _ _ _ _ _
   | exact LeO.none _
   | refine LeO.ite ?_ ?_
   | refine LeO.bind ?_ (fun _ => ?_)
set_option maxHeartbeats 8000000 in
set_option maxRecDepth 100000 in
theorem skiarearef06_way.calls (k : Nat) (A0 : Option Addr) (c0 : Nat) (l0 : List (S67)) (A1 : Option Addr) (c1 : Nat) (l1 : List Int) (A2 : Option Addr) (c2 : Nat) (l2 : List Int) (a3 : Int) (r : List Int) (w : World) (hr0 : Kd.C k67 w A0 l0.length l0) (hc0 : l0.length ≤ c0) (hr1 : Kd.C (Kd.int .i64) w A1 l1.length l1) (hc1 : l1.length ≤ c1) (hr2 : Kd.C (Kd.int .i64) w A2 l2.length l2) (hc2 : l2.length ≤ c2) (h : skiarearef06_way.f k l0 l1 l2 a3 = some r) :
  Calls Try.prog 66 #[.slice A0 l0.length c0, .slice A1 l1.length c1, .slice A2 l2.length c2, .int .i64 a3] w fun e w' => ∃ v0_ : Value, e = .returned (v0_) ∧ Kd.R (Kd.int .i64) 3 w' w.heap.size (fun _ => True) v0_ r ∧ Below w.heap.size w w' := by
 have HR0 := a_ hr0
 have HC0 := a_ hc0
 clear hr0 hc0
 have HR1 := a_ hr1
 have HC1 := a_ hc1
 clear hr1 hc1
 have HR2 := a_ hr2
 have HC2 := a_ hc2
 clear hr2 hc2
 have HB := a_ (Below.refl w.heap.size w)
 have H : (skiarearef06_way.l0 k l0 l1 l2 a3 ([] : List Int) (wrap64 ((l1.length : Int) - 1))) = some r := h
 clear h
 have H' := a_ H
 clear H
 go_enter Try.func66, Try.ntmps66
 go_wp2
 go_loopg [3, 9, 10] k (fun kq v3 v9 v10 w' => ∃ (x3_1 : Int) (x9_1 : List Int) (x10_1 : Int), v3 = .int .i64 x3_1 ∧ v10 = .int .i64 x10_1 ∧ Aside0 (skiarearef06_way.l0 kq l0 l1 l2 x3_1 x9_1 x10_1 = some r) ∧ Aside0 (kq ≤ k) ∧ Aside0 (Kd.R (Kd.int .i64) 3 w' w.heap.size (fun _ => True) v9 x9_1) ∧ Aside0 (Below w.heap.size w w'))
 case atStart => exact ⟨(a3), (([] : List Int)), (wrap64 ((l1.length : Int) - 1)), (by first | rfl | (simp; done) | (simp [*]; done)), (by first | rfl | (simp; done) | (simp [*]; done)), H', ⟨Nat.le_refl _⟩, ⟨by first | exact Kd.R_nil _ _ _ _ _ | exact Kd.N_nil _ _ _ _ _ | exact Kd.V_nil _ _ _ _ _ | exact Kd.Q_nil _ _ _ _ _ | exact Kd.S_nil _ _ _ _ _⟩, ⟨by repeat (first | (with_reducible first | exact HB.out | apply below_alloc | apply pw_below_drewN | apply below_drew1) | exact HB.out)⟩⟩
 case round =>
  clear H'
  try clear c1
  try clear c2
  try clear p2
  obtain ⟨x3_1, x9_1, x10_1, rfl, rfl, HA, HK1, HO_9, HB⟩ := hrel
  cases gk with
  | zero => exact absurd HA.out (by simp [skiarearef06_way.l0])
  | succ k1 =>
   have H := HA.out
   clear HA
   simp only [skiarearef06_way.l0] at H
   by_cases c5 : x10_1 ≥ 0
   ·rw [if_pos c5] at H
    have c5b0 : decide (0 ≤ x10_1) = true := decide_eq_true c5
    clear c5
    have HC6 := a_ H
    clear H
    go_upto_region 5 with (fail)
    go_cut [30] (fun v30 wc => ∃ (kq : Nat) (x30_5 : Bool), v30 = .bool x30_5 ∧ Aside0 (skiarearef06_way.j1 kq l0 l1 l2 x3_1 x9_1 x10_1 x30_5 = some r) ∧ Aside0 (kq ≤ k1) ∧ Aside0 (Kd.R (Kd.int .i64) 3 wc w.heap.size (fun _ => True) u9 x9_1) ∧ Aside0 (Below w.heap.size w wc))
    case first =>
     have H := HC6.out
     clear HC6
     by_cases c7 : 0 ≤ x10_1
     ·rw [if_pos c7] at H
      have c7b0 : decide (0 ≤ x10_1) = true := decide_eq_true c7
      clear c7
      (first | rw [c7b0] | (simp only [i64_w, i32_w]; rw [c7b0]) | skip)
      by_cases c8 : x10_1 < (l1.length : Int)
      ·rw [if_pos c8] at H
       have c8b0 : decide (x10_1 < (l1.length : Int)) = true := decide_eq_true c8
       clear c8
       by_cases c9 : (rd l1 x10_1) = x3_1
       ·rw [if_pos c9] at H
        have c9b0 : ((rd l1 x10_1) == x3_1) = true := beq_iff_eq.mpr c9
        have c9b1 : ((rd l1 x10_1) != x3_1) = false := bne_eq_false_iff_eq.mpr c9
        clear c9
        by_cases c10 : x10_1 < (l2.length : Int)
        ·rw [if_pos c10] at H
         have c10b0 : decide (x10_1 < (l2.length : Int)) = true := decide_eq_true c10
         clear c10
         have H' := a_ H
         clear H
         have p444 : 0 ≤ (x10_1 : Int) := od_
         have q444 : x10_1 < (l1.length : Int) := od_
         obtain ⟨ad444, e444, hx444_0⟩ := Kd.at_int HR1.out x10_1 p444 q444
         cases e444
         replace hx444_0 := pc_ hx444_0
         replace p444 := eq_true p444
         replace q444 := eq_true q444
         have p445 : 0 ≤ (x10_1 : Int) := od_
         have q445 : x10_1 < (l2.length : Int) := od_
         obtain ⟨ad445, e445, hx445_0⟩ := Kd.at_int HR2.out x10_1 p445 q445
         cases e445
         replace hx445_0 := pc_ hx445_0
         replace p445 := eq_true p445
         replace q445 := eq_true q445
         go_wp2
         go_meet
         case rel => exact ⟨_, (((rd l2 x10_1) == 0)), (by first | rfl | (simp; done) | (simp [*]; done)), H', ⟨by have := HK1.out; first | omega | exact Nat.le_refl _⟩, ⟨by (with_reducible repeat (first | apply Kd.R_alloc | apply Kd.R_drewN | apply Kd.R_drew)); exact HO_9.out⟩, ⟨by repeat (first | (with_reducible first | exact HB.out | apply below_alloc | apply pw_below_drewN | apply below_drew1) | exact HB.out)⟩⟩
        ·rw [if_neg c10] at H
         exact absurd H (by simp)
       ·rw [if_neg c9] at H
        have c9b0 : ((rd l1 x10_1) == x3_1) = false := beq_eq_false_iff_ne.mpr c9
        have c9b1 : ((rd l1 x10_1) != x3_1) = true := bne_iff_ne.mpr c9
        have H' := a_ H
        clear H
        have p444 : 0 ≤ (x10_1 : Int) := od_
        have q444 : x10_1 < (l1.length : Int) := od_
        obtain ⟨ad444, e444, hx444_0⟩ := Kd.at_int HR1.out x10_1 p444 q444
        cases e444
        replace hx444_0 := pc_ hx444_0
        replace p444 := eq_true p444
        replace q444 := eq_true q444
        go_wp2
        go_meet
        case rel => exact ⟨_, (true), (by first | rfl | (simp; done) | (simp [*]; done)), H', ⟨by have := HK1.out; first | omega | exact Nat.le_refl _⟩, ⟨by (with_reducible repeat (first | apply Kd.R_alloc | apply Kd.R_drewN | apply Kd.R_drew)); exact HO_9.out⟩, ⟨by repeat (first | (with_reducible first | exact HB.out | apply below_alloc | apply pw_below_drewN | apply below_drew1) | exact HB.out)⟩⟩
      ·rw [if_neg c8] at H
       exact absurd H (by simp)
     ·rw [if_neg c7] at H
      exact absurd H (by simp)
    case rest =>
     clear HC6
     try clear c1
     try clear c2
     try clear p2
     try clear p4
     try clear q4
     try clear hx4
     try clear c5
     try clear c5b0
     try clear c6
     try clear p6
     try clear c7
     try clear c7b0
     try clear c8
     try clear c8b0
     try clear c9
     try clear c9b0
     try clear c9b1
     try clear c10
     try clear c10b0
     try clear hx444_0
     try clear hx445_0
     try clear p2
     try clear p444
     try clear p445
     try clear q444
     try clear q445
     obtain ⟨kq, x30_5, rfl, HA, HJ5, HO_9, HB⟩ := hcut
     cases kq with
     | zero => exact absurd HA.out (by simp [skiarearef06_way.j1])
     | succ kj5 =>
      have H := HA.out
      clear HA
      simp only [skiarearef06_way.j1] at H
      by_cases c11 : x30_5 = true
      ·subst c11
       have H1 : (skiarearef06_way.l0 kj5 l0 l1 l2 x3_1 x9_1 (wrap64 (x10_1 - 1))) = some r := by rw [if_pos rfl] at H; exact H
       clear H
       have H := H1
       clear H1
       have H' := a_ H
       clear H
       go_wp2
       go_roundg kj5
       case measure => have := HK1.out; have := HJ5.out; omega
       case rel => exact ⟨(x3_1), (x9_1), (wrap64 (x10_1 - 1)), (by first | rfl | (simp; done) | (simp [*]; done)), (by first | rfl | (simp; done) | (simp [*]; done)), H', ⟨by have := HK1.out; have := HJ5.out; omega⟩, ⟨by (with_reducible repeat (first | apply Kd.R_alloc | apply Kd.R_drewN | apply Kd.R_drew)); exact HO_9.out⟩, ⟨by repeat (first | (with_reducible first | exact HB.out | apply below_alloc | apply pw_below_drewN | apply below_drew1) | exact HB.out)⟩⟩
      ·replace c11 := Bool.eq_false_iff.mpr c11
       subst c11
       have H1 : (if 0 ≤ x10_1 then (if x10_1 < (l2.length : Int) then (if x9_1.length < 17592186044416 then ((some (x9_1 ++ [rd l2 x10_1] : List Int)).bind fun y447 => (if (rd l2 x10_1) > 0 then (if 0 ≤ (wrap64 ((rd l2 x10_1) - 1)) then (if (wrap64 ((rd l2 x10_1) - 1)) < (l0.length : Int) then (skiarearef06_way.l0 kj5 l0 l1 l2 ((rd_T67 l0 (wrap64 ((rd l2 x10_1) - 1))).f1) y447 (wrap64 (x10_1 - 1))) else (none)) else (none)) else (if 0 ≤ (wrap64 ((wrap64 (-(rd l2 x10_1))) - 1)) then (if (wrap64 ((wrap64 (-(rd l2 x10_1))) - 1)) < (l0.length : Int) then (skiarearef06_way.l0 kj5 l0 l1 l2 ((rd_T67 l0 (wrap64 ((wrap64 (-(rd l2 x10_1))) - 1))).f2) y447 (wrap64 (x10_1 - 1))) else (none)) else (none)))) else (none)) else (none)) else (none)) = some r := by rw [if_neg (show ¬ (false = true) by decide)] at H; exact H
       clear H
       have H := H1
       clear H1
       by_cases c12 : 0 ≤ x10_1
       ·rw [if_pos c12] at H
        have c12b0 : decide (0 ≤ x10_1) = true := decide_eq_true c12
        clear c12
        by_cases c13 : x10_1 < (l2.length : Int)
        ·rw [if_pos c13] at H
         have c13b0 : decide (x10_1 < (l2.length : Int)) = true := decide_eq_true c13
         clear c13
         by_cases c14 : x9_1.length < 17592186044416
         ·rw [if_pos c14] at H
          have LMc14 := a_ c14
          clear c14
          obtain ⟨y447, hy447⟩ : ∃ y_ : List Int, y_ = (x9_1 ++ [rd l2 x10_1]) := ⟨_, rfl⟩
          replace H : (if (rd l2 x10_1) > 0 then (if 0 ≤ (wrap64 ((rd l2 x10_1) - 1)) then (if (wrap64 ((rd l2 x10_1) - 1)) < (l0.length : Int) then (skiarearef06_way.l0 kj5 l0 l1 l2 ((rd_T67 l0 (wrap64 ((rd l2 x10_1) - 1))).f1) y447 (wrap64 (x10_1 - 1))) else (none)) else (none)) else (if 0 ≤ (wrap64 ((wrap64 (-(rd l2 x10_1))) - 1)) then (if (wrap64 ((wrap64 (-(rd l2 x10_1))) - 1)) < (l0.length : Int) then (skiarearef06_way.l0 kj5 l0 l1 l2 ((rd_T67 l0 (wrap64 ((wrap64 (-(rd l2 x10_1))) - 1))).f2) y447 (wrap64 (x10_1 - 1))) else (none)) else (none))) = some r := by first | (rw [hy447]; with_reducible exact H) | (have H2_ := (Option.bind_some _ _).symm.trans H; rw [hy447]; with_reducible exact H2_) | (have H2_ := (Option.bind_some _ _).symm.trans H; with_reducible exact H2_) | with_reducible exact H | (rw [hy447]; exact H) | exact H
          have Ny447 := a_ hy447
          clear hy447
          by_cases c15 : (rd l2 x10_1) > 0
          ·rw [if_pos c15] at H
           have c15b0 : decide (0 < (rd l2 x10_1)) = true := decide_eq_true c15
           clear c15
           obtain ⟨ji16, hji16⟩ : ∃ j_ : Int, (wrap64 ((rd l2 x10_1) - 1)) = j_ := ⟨_, rfl⟩
           replace H : (if 0 ≤ (ji16) then (if (ji16) < (l0.length : Int) then (skiarearef06_way.l0 kj5 l0 l1 l2 ((rd_T67 l0 (ji16)).f1) y447 (wrap64 (x10_1 - 1))) else (none)) else (none)) = some r := by first | (rw [hji16] at H; exact H) | (simp only [hji16] at H ⊢; exact H)
           have hji16w : (IntKind.i64.wrap ((rd l2 x10_1) - 1)) = ji16 := (i64_w _).trans hji16
           by_cases c17 : 0 ≤ (ji16)
           ·rw [if_pos c17] at H
            have c17b0 : decide (0 ≤ (ji16)) = true := decide_eq_true c17
            clear c17
            by_cases c18 : (ji16) < (l0.length : Int)
            ·rw [if_pos c18] at H
             have c18b0 : decide ((ji16) < (l0.length : Int)) = true := decide_eq_true c18
             clear c18
             have H' := a_ H
             clear H
             have p446 : 0 ≤ (x10_1 : Int) := od_
             have q446 : x10_1 < (l2.length : Int) := od_
             obtain ⟨ad446, e446, hx446_0⟩ := Kd.at_int HR2.out x10_1 p446 q446
             cases e446
             replace hx446_0 := pc_ hx446_0
             replace p446 := eq_true p446
             replace q446 := eq_true q446
             go_wp2_with (first | ((with_reducible refine gate_builtin (b := .append) (xs := #[.tmp 31, .tmp 36]) rfl ?_); at_builtin; refine Kd.R_append (Kd.int .i64) (w0 := w) w.heap.size rfl (.tmp 31) (.tmp 36) 36 3 (.int .i64 0) 8 rfl Try.underlying36 info3 rfl (by decide) (by omega) u9 x9_1 (rd l2 x10_1) [.int .i64 (rd l2 x10_1)] (fun _ => True) (fun _ => False) rfl rfl ?aP (fun _ hk => hk.elim) ?aF ?aO ?aB ?aS ?aL ?_; (case aP => exact rfl); (case aB => exact bel_); (case aF => exact (fun _ _ => trivial)); (case aO => exact (kR_ HO_9.out)); (case aS => exact (below_size bel_)); (case aL => have := LMc14.out; omega); intro v448 w19 ho hb hg hat; rw [← Ny447.out] at ho; have n0_ := a_ (hb); have n1_ := a_ (ho); clear HB; clear HO_9; have HB := n0_; have HO449 := n1_; clear n0_ n1_; clear ho hb hg hat; have p450 : 0 ≤ (x10_1 : Int) := od_; have q450 : x10_1 < (l2.length : Int) := od_; obtain ⟨ad450, e450, hx450_0⟩ := Kd.at_int HR2.out x10_1 p450 q450; obtain rfl : ad446 = ad450 := (by injection e450); replace hx450_0 := pc_ hx450_0; replace p450 := eq_true p450; replace q450 := eq_true q450; have p451 : 0 ≤ (x10_1 : Int) := od_; have q451 : x10_1 < (l2.length : Int) := od_; obtain ⟨ad451, e451, hx451_0⟩ := Kd.at_int HR2.out x10_1 p451 q451; obtain rfl : ad446 = ad451 := (by injection e451); replace hx451_0 := pc_ hx451_0; replace p451 := eq_true p451; replace q451 := eq_true q451; have p452 : 0 ≤ ((ji16) : Int) := od_; have q452 : (ji16) < (l0.length : Int) := od_; obtain ⟨ad452, e452, hx452_0, hx452_1, hx452_2, hx452_3⟩ := at_T67 HR0.out (ji16) p452 q452; cases e452; replace hx452_0 := pc_ hx452_0; replace hx452_1 := pc_ hx452_1; replace hx452_2 := pc_ hx452_2; replace hx452_3 := pc_ hx452_3; replace p452 := eq_true p452; replace q452 := eq_true q452))
             go_roundg kj5
             case measure => have := HK1.out; have := HJ5.out; omega
             case rel => exact ⟨((rd_T67 l0 (ji16)).f1), (y447), (wrap64 (x10_1 - 1)), (by first | rfl | (simp; done) | (simp only [← hji16] <;> (first | rfl | simp)) | (simp [*]; done)), (by first | rfl | (simp; done) | (simp [*]; done)), H', ⟨by have := HK1.out; have := HJ5.out; omega⟩, ⟨by (with_reducible repeat (first | apply Kd.R_alloc | apply Kd.R_drewN | apply Kd.R_drew)); exact HO449.out⟩, ⟨by repeat (first | (with_reducible first | exact HB.out | apply below_alloc | apply pw_below_drewN | apply below_drew1) | exact HB.out)⟩⟩
            ·rw [if_neg c18] at H
             exact absurd H (by simp)
           ·rw [if_neg c17] at H
            exact absurd H (by simp)
          ·rw [if_neg c15] at H
           have c15b0 : decide (0 < (rd l2 x10_1)) = false := decide_eq_false c15
           clear c15
           obtain ⟨ji20, hji20⟩ : ∃ j_ : Int, (wrap64 ((wrap64 (-(rd l2 x10_1))) - 1)) = j_ := ⟨_, rfl⟩
           replace H : (if 0 ≤ (ji20) then (if (ji20) < (l0.length : Int) then (skiarearef06_way.l0 kj5 l0 l1 l2 ((rd_T67 l0 (ji20)).f2) y447 (wrap64 (x10_1 - 1))) else (none)) else (none)) = some r := by first | (rw [hji20] at H; exact H) | (simp only [hji20] at H ⊢; exact H)
           have hji20w : (IntKind.i64.wrap ((wrap64 (-(rd l2 x10_1))) - 1)) = ji20 := (i64_w _).trans hji20
           by_cases c21 : 0 ≤ (ji20)
           ·rw [if_pos c21] at H
            have c21b0 : decide (0 ≤ (ji20)) = true := decide_eq_true c21
            clear c21
            by_cases c22 : (ji20) < (l0.length : Int)
            ·rw [if_pos c22] at H
             have c22b0 : decide ((ji20) < (l0.length : Int)) = true := decide_eq_true c22
             clear c22
             have H' := a_ H
             clear H
             have p446 : 0 ≤ (x10_1 : Int) := od_
             have q446 : x10_1 < (l2.length : Int) := od_
             obtain ⟨ad446, e446, hx446_0⟩ := Kd.at_int HR2.out x10_1 p446 q446
             cases e446
             replace hx446_0 := pc_ hx446_0
             replace p446 := eq_true p446
             replace q446 := eq_true q446
             go_wp2_with (first | ((with_reducible refine gate_builtin (b := .append) (xs := #[.tmp 31, .tmp 36]) rfl ?_); at_builtin; refine Kd.R_append (Kd.int .i64) (w0 := w) w.heap.size rfl (.tmp 31) (.tmp 36) 36 3 (.int .i64 0) 8 rfl Try.underlying36 info3 rfl (by decide) (by omega) u9 x9_1 (rd l2 x10_1) [.int .i64 (rd l2 x10_1)] (fun _ => True) (fun _ => False) rfl rfl ?aP (fun _ hk => hk.elim) ?aF ?aO ?aB ?aS ?aL ?_; (case aP => exact rfl); (case aB => exact bel_); (case aF => exact (fun _ _ => trivial)); (case aO => exact (kR_ HO_9.out)); (case aS => exact (below_size bel_)); (case aL => have := LMc14.out; omega); intro v448 w23 ho hb hg hat; rw [← Ny447.out] at ho; have n0_ := a_ (hb); have n1_ := a_ (ho); clear HB; clear HO_9; have HB := n0_; have HO449 := n1_; clear n0_ n1_; clear ho hb hg hat; have p450 : 0 ≤ (x10_1 : Int) := od_; have q450 : x10_1 < (l2.length : Int) := od_; obtain ⟨ad450, e450, hx450_0⟩ := Kd.at_int HR2.out x10_1 p450 q450; obtain rfl : ad446 = ad450 := (by injection e450); replace hx450_0 := pc_ hx450_0; replace p450 := eq_true p450; replace q450 := eq_true q450; have p453 : 0 ≤ (x10_1 : Int) := od_; have q453 : x10_1 < (l2.length : Int) := od_; obtain ⟨ad453, e453, hx453_0⟩ := Kd.at_int HR2.out x10_1 p453 q453; obtain rfl : ad446 = ad453 := (by injection e453); replace hx453_0 := pc_ hx453_0; replace p453 := eq_true p453; replace q453 := eq_true q453; have p454 : 0 ≤ ((ji20) : Int) := od_; have q454 : (ji20) < (l0.length : Int) := od_; obtain ⟨ad454, e454, hx454_0, hx454_1, hx454_2, hx454_3⟩ := at_T67 HR0.out (ji20) p454 q454; cases e454; replace hx454_0 := pc_ hx454_0; replace hx454_1 := pc_ hx454_1; replace hx454_2 := pc_ hx454_2; replace hx454_3 := pc_ hx454_3; replace p454 := eq_true p454; replace q454 := eq_true q454))
             go_roundg kj5
             case measure => have := HK1.out; have := HJ5.out; omega
             case rel => exact ⟨((rd_T67 l0 (ji20)).f2), (y447), (wrap64 (x10_1 - 1)), (by first | rfl | (simp; done) | (simp only [← hji20] <;> (first | rfl | simp)) | (simp [*]; done)), (by first | rfl | (simp; done) | (simp [*]; done)), H', ⟨by have := HK1.out; have := HJ5.out; omega⟩, ⟨by (with_reducible repeat (first | apply Kd.R_alloc | apply Kd.R_drewN | apply Kd.R_drew)); exact HO449.out⟩, ⟨by repeat (first | (with_reducible first | exact HB.out | apply below_alloc | apply pw_below_drewN | apply below_drew1) | exact HB.out)⟩⟩
            ·rw [if_neg c22] at H
             exact absurd H (by simp)
           ·rw [if_neg c21] at H
            exact absurd H (by simp)
         ·rw [if_neg c14] at H
          exact absurd H (by simp)
        ·rw [if_neg c13] at H
         exact absurd H (by simp)
       ·rw [if_neg c12] at H
        exact absurd H (by simp)
   ·rw [if_neg c5] at H
    have c5b0 : decide (0 ≤ x10_1) = false := decide_eq_false c5
    clear c5
    obtain rfl := Option.some.inj H
    go_wp2
    go_ret
    exact ⟨_, by first | rfl | (simp [errW_none, errW_some] <;> rfl) | (simp [*, errW_none, errW_some] <;> rfl), by (with_reducible repeat (first | apply Kd.R_alloc | apply Kd.R_drewN | apply Kd.R_drew)); exact HO_9.out, by repeat (first | (with_reducible first | exact HB.out | apply below_alloc | apply pw_below_drewN | apply below_drew1) | exact HB.out)⟩

end Go.Proofs.Ytgfiidgigenibaa.Q
