-- written by wip/drive.py (this session's program) over the kit's print words
import Derived.Test.YtgfiidgigenibaaQ0
import Derived.Test.YtgfiidgigenibaaQ27
import Derived.Test.YtgfiidgigenibaaQ31
import Derived.Test.YtgfiidgigenibaaQ32
import Derived.Test.YtgfiidgigenibaaQ33
namespace Go.Proofs.Ytgfiidgigenibaa.Q
open Go.RowKit Go.Proofs.YtgfiidgigenibaaW.PrintWords Go.Proofs.YtgfiidgigenibaaW.PrintLast Go.Proofs.YtgfiidgigenibaaW.PrintMore
attribute [local go_sem] max2_int min2_int max_two min_two max_three min_three max_four min_four   -- for this text's walks alone
set_option linter.unusedVariables false
set_option linter.unusedSimpArgs false

/-! ### skiarearef10_Right: function 31 -/
def skiarearef10_Right.j0 : Nat → Bool → List (S62) → List (S82) → List (S44) → List Int → Option (Int)
 | 0, _, _, _, _, _ => none
 | k + 1, x27, x260000, x260001, x260002, x260003 => if x27 = true then (some 4) else ((skiarearef10_nodes.f k x260000).bind fun t260 => (if t260 = 0 then ((skiarearef10_lifts.f k x260000 x260001 x260002 x260003).bind fun t261 => (if t261 = 0 then ((skiarearef10_runs.f k x260000 x260001 x260002 x260003).bind fun t262 => (if t262 = 0 then ((skiarearef10_bases.f k x260000 x260001 x260002 x260003).bind fun t263 => (some t263)) else (some t262))) else (some t261))) else (some t260)))
def skiarearef10_Right.f (k : Nat) (l0_0 : List (S62)) (l0_1 : List (S82)) (l0_2 : List (S44)) (l0_3 : List Int) : Option (Int) := if (l0_0.length : Int) > 64 then (skiarearef10_Right.j0 k true l0_0 l0_1 l0_2 l0_3) else (if (l0_1.length : Int) > 32 then (skiarearef10_Right.j0 k true l0_0 l0_1 l0_2 l0_3) else (if (l0_2.length : Int) > 64 then (skiarearef10_Right.j0 k true l0_0 l0_1 l0_2 l0_3) else (skiarearef10_Right.j0 k (decide ((l0_3.length : Int) > 64)) l0_0 l0_1 l0_2 l0_3)))
theorem skiarearef10_Right.mono_l : ∀ k, (∀ y0 y1 y2 y3 y4, LeO (skiarearef10_Right.j0 k y0 y1 y2 y3 y4) (skiarearef10_Right.j0 (k + 1) y0 y1 y2 y3 y4))
 | 0 => fun _ _ _ _ _ r h => by simp [skiarearef10_Right.j0] at h
 | k + 1 => by
  have ih0 := skiarearef10_Right.mono_l k
  ·intro y0 y1 y2 y3 y4
   unfold skiarearef10_Right.j0
   repeat' first
   | (with_reducible exact ih0 _ _ _ _ _)
   | (with_reducible exact skiarearef10_bases.mono _ _ _ _ _)
   | (with_reducible exact skiarearef10_lifts.mono _ _ _ _ _)
   | (with_reducible exact skiarearef10_nodes.mono _ _)
   | (with_reducible exact skiarearef10_runs.mono _ _ _ _ _)
   | (with_reducible exact LeO.refl _)
   | (with_reducible exact LeO.none _)
   | (with_reducible refine LeO.ite ?_ ?_)
   | (with_reducible refine LeO.bind ?_ (fun _ => ?_))
   | exact ih0 _ _ _ _ _
   | exact skiarearef10_bases.mono _ _ _ _ _
   | exact skiarearef10_lifts.mono _ _ _ _ _
   | exact skiarearef10_nodes.mono _ _
   | exact skiarearef10_runs.mono _ _ _ _ _
   | exact LeO.none _
   | refine LeO.ite ?_ ?_
   | refine LeO.bind ?_ (fun _ => ?_)
theorem skiarearef10_Right.mono : ∀ a0 a1 a2 a3 k, LeO (skiarearef10_Right.f k a0 a1 a2 a3) (skiarearef10_Right.f (k + 1) a0 a1 a2 a3) := by
 intro a0 a1 a2 a3 k
 have ih0 := skiarearef10_Right.mono_l k
 unfold skiarearef10_Right.f
 repeat' first
   | (with_reducible exact ih0 _ _ _ _ _)
   | (with_reducible exact skiarearef10_bases.mono _ _ _ _ _)
   | (with_reducible exact skiarearef10_lifts.mono _ _ _ _ _)
   | (with_reducible exact skiarearef10_nodes.mono _ _)
   | (with_reducible exact skiarearef10_runs.mono _ _ _ _ _)
   | (with_reducible exact LeO.refl _)
   | (with_reducible exact LeO.none _)
   | (with_reducible refine LeO.ite ?_ ?_)
   | (with_reducible refine LeO.bind ?_ (fun _ => ?_))
   | exact ih0 _ _ _ _ _
   | exact skiarearef10_bases.mono _ _ _ _ _
   | exact skiarearef10_lifts.mono _ _ _ _ _
   | exact skiarearef10_nodes.mono _ _
   | exact skiarearef10_runs.mono _ _ _ _ _
   | exact LeO.none _
   | refine LeO.ite ?_ ?_
   | refine LeO.bind ?_ (fun _ => ?_)
set_option maxHeartbeats 8000000 in
set_option maxRecDepth 100000 in
theorem skiarearef10_Right.calls (k : Nat) (A0_0 : Option Addr) (c0_0 : Nat) (l0_0 : List (S62)) (A0_1 : Option Addr) (c0_1 : Nat) (l0_1 : List (S82)) (A0_2 : Option Addr) (c0_2 : Nat) (l0_2 : List (S44)) (A0_3 : Option Addr) (c0_3 : Nat) (l0_3 : List Int) (r : Int) (w : World) (hr0_0 : Kd.C k62 w A0_0 l0_0.length l0_0) (hc0_0 : l0_0.length ≤ c0_0) (hr0_1 : Kd.C k82 w A0_1 l0_1.length l0_1) (hc0_1 : l0_1.length ≤ c0_1) (hr0_2 : Kd.C k44 w A0_2 l0_2.length l0_2) (hc0_2 : l0_2.length ≤ c0_2) (hr0_3 : Kd.C (Kd.int .i64) w A0_3 l0_3.length l0_3) (hc0_3 : l0_3.length ≤ c0_3) (h : skiarearef10_Right.f k l0_0 l0_1 l0_2 l0_3 = some r) :
  Calls Try.prog 31 #[.agg #[.slice A0_0 l0_0.length c0_0, .slice A0_1 l0_1.length c0_1, .slice A0_2 l0_2.length c0_2, .slice A0_3 l0_3.length c0_3]] w fun e w' => e = .returned (.int .i64 r) ∧ Below w.heap.size w w' := by
 have hu38 := Try.underlying38
 have HR0_0 := a_ hr0_0
 have HC0_0 := a_ hc0_0
 clear hr0_0 hc0_0
 have HR0_1 := a_ hr0_1
 have HC0_1 := a_ hc0_1
 clear hr0_1 hc0_1
 have HR0_2 := a_ hr0_2
 have HC0_2 := a_ hc0_2
 clear hr0_2 hc0_2
 have HR0_3 := a_ hr0_3
 have HC0_3 := a_ hc0_3
 clear hr0_3 hc0_3
 have HB := a_ (Below.refl w.heap.size w)
 have H : (if (l0_0.length : Int) > 64 then (skiarearef10_Right.j0 k true l0_0 l0_1 l0_2 l0_3) else (if (l0_1.length : Int) > 32 then (skiarearef10_Right.j0 k true l0_0 l0_1 l0_2 l0_3) else (if (l0_2.length : Int) > 64 then (skiarearef10_Right.j0 k true l0_0 l0_1 l0_2 l0_3) else (skiarearef10_Right.j0 k (decide ((l0_3.length : Int) > 64)) l0_0 l0_1 l0_2 l0_3)))) = some r := h
 clear h
 have HC2 := a_ H
 clear H
 go_enter Try.func31, Try.ntmps31
 go_upto_region 1 with (first | ((with_reducible refine gate_dst (N := 1) rfl ?_); (try (refine gate_guard (by rfl) ?_; dsimp only)); refine box_event ?hg (N := 1) ?hd (cs := #[.slice A0_0 l0_0.length c0_0, .slice A0_1 l0_1.length c0_1, .slice A0_2 l0_2.length c0_2, .slice A0_3 l0_3.length c0_3]) (t := 38) ?hr ?_; (case hd => rfl); (case hg => rfl); (case hr => first | (go_simp; done) | (go_simp; rfl)); intro gb259 hg w3 hbox hb; have n0_ := a_ (below_step bel_ hb); have n1_ := a_ (hbox); have n2_ := a_ (bz_ hg : w.heap.size ≤ gb259); have n3_ := a_ (bz_ hg : w.heap.size ≤ gb259); clear HB; have HB := n0_; have BK259 := n1_; have GW259 := n2_; have GE259 := n3_; clear n0_ n1_ n2_ n3_; clear hb hbox hg))
 (try simp only [Act.put, List.setIfInBounds_toArray, List.set_cons_zero, List.set_cons_succ])
 go_cut [27] (fun v27 wc => ∃ (kq : Nat) (x27_1 : Bool), v27 = .bool x27_1 ∧ Aside0 (skiarearef10_Right.j0 kq x27_1 l0_0 l0_1 l0_2 l0_3 = some r) ∧ Aside0 (kq ≤ k) ∧ Aside0 (wc.heap[gb259]? = some (.cells #[(.slice A0_0 l0_0.length c0_0), (.slice A0_1 l0_1.length c0_1), (.slice A0_2 l0_2.length c0_2), (.slice A0_3 l0_3.length c0_3)] 38 (0, 0))) ∧ Aside0 (Below w.heap.size w wc))
 case first =>
  have H := HC2.out
  clear HC2
  by_cases c4 : (l0_0.length : Int) > 64
  ·rw [if_pos c4] at H
   have c4b0 : decide (64 < (l0_0.length : Int)) = true := decide_eq_true c4
   have c4b1 : decide (64 < l0_0.length) = true := decide_eq_true (by omega)
   clear c4
   (first | rw [c4b0] | (simp only [i64_w, i32_w]; rw [c4b0]) | skip)
   have H' := a_ H
   clear H
   have hcz5_0 := cz_ BK259 0
   have hcz5_1 := cz_ BK259 1
   have hcz5_2 := cz_ BK259 2
   have hcz5_3 := cz_ BK259 3
   have hfz5_0 := fz_ BK259 0
   have hfz5_1 := fz_ BK259 1
   have hfz5_2 := fz_ BK259 2
   have hfz5_3 := fz_ BK259 3
   go_wp2
   go_meet
   case rel => exact ⟨_, (true), (by first | rfl | (simp; done) | (simp [*]; done)), H', ⟨by first | omega | exact Nat.le_refl _⟩, ⟨by exact BK259.out⟩, ⟨by repeat (first | (with_reducible first | exact HB.out | apply below_alloc | apply pw_below_drewN | apply below_drew1 | refine below_set ?_ GE259.out) | exact HB.out)⟩⟩
  ·rw [if_neg c4] at H
   have c4b0 : decide (64 < (l0_0.length : Int)) = false := decide_eq_false c4
   have c4b1 : decide (64 < l0_0.length) = false := decide_eq_false (by omega)
   clear c4
   (first | rw [c4b0] | (simp only [i64_w, i32_w]; rw [c4b0]) | skip)
   by_cases c6 : (l0_1.length : Int) > 32
   ·rw [if_pos c6] at H
    have c6b0 : decide (32 < (l0_1.length : Int)) = true := decide_eq_true c6
    have c6b1 : decide (32 < l0_1.length) = true := decide_eq_true (by omega)
    clear c6
    have H' := a_ H
    clear H
    have hcz7_0 := cz_ BK259 0
    have hcz7_1 := cz_ BK259 1
    have hcz7_2 := cz_ BK259 2
    have hcz7_3 := cz_ BK259 3
    have hfz7_0 := fz_ BK259 0
    have hfz7_1 := fz_ BK259 1
    have hfz7_2 := fz_ BK259 2
    have hfz7_3 := fz_ BK259 3
    go_wp2
    go_meet
    case rel => exact ⟨_, (true), (by first | rfl | (simp; done) | (simp [*]; done)), H', ⟨by first | omega | exact Nat.le_refl _⟩, ⟨by exact BK259.out⟩, ⟨by repeat (first | (with_reducible first | exact HB.out | apply below_alloc | apply pw_below_drewN | apply below_drew1 | refine below_set ?_ GE259.out) | exact HB.out)⟩⟩
   ·rw [if_neg c6] at H
    have c6b0 : decide (32 < (l0_1.length : Int)) = false := decide_eq_false c6
    have c6b1 : decide (32 < l0_1.length) = false := decide_eq_false (by omega)
    clear c6
    by_cases c8 : (l0_2.length : Int) > 64
    ·rw [if_pos c8] at H
     have c8b0 : decide (64 < (l0_2.length : Int)) = true := decide_eq_true c8
     have c8b1 : decide (64 < l0_2.length) = true := decide_eq_true (by omega)
     clear c8
     have H' := a_ H
     clear H
     have hcz9_0 := cz_ BK259 0
     have hcz9_1 := cz_ BK259 1
     have hcz9_2 := cz_ BK259 2
     have hcz9_3 := cz_ BK259 3
     have hfz9_0 := fz_ BK259 0
     have hfz9_1 := fz_ BK259 1
     have hfz9_2 := fz_ BK259 2
     have hfz9_3 := fz_ BK259 3
     go_wp2
     go_meet
     case rel => exact ⟨_, (true), (by first | rfl | (simp; done) | (simp [*]; done)), H', ⟨by first | omega | exact Nat.le_refl _⟩, ⟨by exact BK259.out⟩, ⟨by repeat (first | (with_reducible first | exact HB.out | apply below_alloc | apply pw_below_drewN | apply below_drew1 | refine below_set ?_ GE259.out) | exact HB.out)⟩⟩
    ·rw [if_neg c8] at H
     have c8b0 : decide (64 < (l0_2.length : Int)) = false := decide_eq_false c8
     have c8b1 : decide (64 < l0_2.length) = false := decide_eq_false (by omega)
     clear c8
     have H' := a_ H
     clear H
     have hcz10_0 := cz_ BK259 0
     have hcz10_1 := cz_ BK259 1
     have hcz10_2 := cz_ BK259 2
     have hcz10_3 := cz_ BK259 3
     have hfz10_0 := fz_ BK259 0
     have hfz10_1 := fz_ BK259 1
     have hfz10_2 := fz_ BK259 2
     have hfz10_3 := fz_ BK259 3
     go_wp2
     go_meet
     case rel => exact ⟨_, (decide ((l0_3.length : Int) > 64)), (by first | rfl | (simp; done) | (simp [*]; done)), H', ⟨by first | omega | exact Nat.le_refl _⟩, ⟨by exact BK259.out⟩, ⟨by repeat (first | (with_reducible first | exact HB.out | apply below_alloc | apply pw_below_drewN | apply below_drew1 | refine below_set ?_ GE259.out) | exact HB.out)⟩⟩
 case rest =>
  clear HC2
  try clear p2
  try clear c3
  try clear c4
  try clear c4b0
  try clear c4b1
  try clear c6
  try clear c6b0
  try clear c6b1
  try clear c8
  try clear c8b0
  try clear c8b1
  try clear hcz10_0
  try clear hcz10_1
  try clear hcz10_2
  try clear hcz10_3
  try clear hcz5_0
  try clear hcz5_1
  try clear hcz5_2
  try clear hcz5_3
  try clear hcz7_0
  try clear hcz7_1
  try clear hcz7_2
  try clear hcz7_3
  try clear hcz9_0
  try clear hcz9_1
  try clear hcz9_2
  try clear hcz9_3
  try clear hfz10_0
  try clear hfz10_1
  try clear hfz10_2
  try clear hfz10_3
  try clear hfz5_0
  try clear hfz5_1
  try clear hfz5_2
  try clear hfz5_3
  try clear hfz7_0
  try clear hfz7_1
  try clear hfz7_2
  try clear hfz7_3
  try clear hfz9_0
  try clear hfz9_1
  try clear hfz9_2
  try clear hfz9_3
  obtain ⟨kq, x27_1, rfl, HA, HJ1, BK259, HB⟩ := hcut
  cases kq with
  | zero => exact absurd HA.out (by simp [skiarearef10_Right.j0])
  | succ kj1 =>
   have H := HA.out
   clear HA
   simp only [skiarearef10_Right.j0] at H
   by_cases c11 : x27_1 = true
   ·subst c11
    have H1 : (some 4) = some r := by rw [if_pos rfl] at H; exact H
    clear H
    have H := H1
    clear H1
    obtain rfl := Option.some.inj H
    go_wp2
    go_ret
    exact ⟨by first | rfl | (simp [errW_none, errW_some] <;> rfl) | (simp [*, errW_none, errW_some] <;> rfl), by repeat (first | (with_reducible first | exact HB.out | apply below_alloc | apply pw_below_drewN | apply below_drew1 | refine below_set ?_ GE259.out) | exact HB.out)⟩
   ·replace c11 := Bool.eq_false_iff.mpr c11
    subst c11
    have H1 : ((skiarearef10_nodes.f kj1 l0_0).bind fun t260 => (if t260 = 0 then ((skiarearef10_lifts.f kj1 l0_0 l0_1 l0_2 l0_3).bind fun t261 => (if t261 = 0 then ((skiarearef10_runs.f kj1 l0_0 l0_1 l0_2 l0_3).bind fun t262 => (if t262 = 0 then ((skiarearef10_bases.f kj1 l0_0 l0_1 l0_2 l0_3).bind fun t263 => (some t263)) else (some t262))) else (some t261))) else (some t260))) = some r := by rw [if_neg (show ¬ (false = true) by decide)] at H; exact H
    clear H
    have H := H1
    clear H1
    replace H := Option.bind_eq_some_iff.mp H
    obtain ⟨t260, A120, H⟩ := H
    replace H : (if t260 = 0 then ((skiarearef10_lifts.f kj1 l0_0 l0_1 l0_2 l0_3).bind fun t261 => (if t261 = 0 then ((skiarearef10_runs.f kj1 l0_0 l0_1 l0_2 l0_3).bind fun t262 => (if t262 = 0 then ((skiarearef10_bases.f kj1 l0_0 l0_1 l0_2 l0_3).bind fun t263 => (some t263)) else (some t262))) else (some t261))) else (some t260)) = some r := H
    have A12 := a_ A120
    clear A120
    by_cases c13 : t260 = 0
    ·rw [if_pos c13] at H
     have c13b0 : (t260 == 0) = true := beq_iff_eq.mpr c13
     have c13b1 : (t260 != 0) = false := bne_eq_false_iff_eq.mpr c13
     clear c13
     replace H := Option.bind_eq_some_iff.mp H
     obtain ⟨t261, A140, H⟩ := H
     replace H : (if t261 = 0 then ((skiarearef10_runs.f kj1 l0_0 l0_1 l0_2 l0_3).bind fun t262 => (if t262 = 0 then ((skiarearef10_bases.f kj1 l0_0 l0_1 l0_2 l0_3).bind fun t263 => (some t263)) else (some t262))) else (some t261)) = some r := H
     have A14 := a_ A140
     clear A140
     by_cases c15 : t261 = 0
     ·rw [if_pos c15] at H
      have c15b0 : (t261 == 0) = true := beq_iff_eq.mpr c15
      have c15b1 : (t261 != 0) = false := bne_eq_false_iff_eq.mpr c15
      clear c15
      replace H := Option.bind_eq_some_iff.mp H
      obtain ⟨t262, A160, H⟩ := H
      replace H : (if t262 = 0 then ((skiarearef10_bases.f kj1 l0_0 l0_1 l0_2 l0_3).bind fun t263 => (some t263)) else (some t262)) = some r := H
      have A16 := a_ A160
      clear A160
      by_cases c17 : t262 = 0
      ·rw [if_pos c17] at H
       have c17b0 : (t262 == 0) = true := beq_iff_eq.mpr c17
       have c17b1 : (t262 != 0) = false := bne_eq_false_iff_eq.mpr c17
       clear c17
       replace H := Option.bind_eq_some_iff.mp H
       obtain ⟨t263, A180, H⟩ := H
       replace H : (some t263) = some r := H
       have A18 := a_ A180
       clear A180
       obtain rfl := Option.some.inj H
       have hcz19_0 := cz_ BK259 0
       have hcz19_1 := cz_ BK259 1
       have hcz19_2 := cz_ BK259 2
       have hcz19_3 := cz_ BK259 3
       have hfz19_0 := fz_ BK259 0
       have hfz19_1 := fz_ BK259 1
       have hfz19_2 := fz_ BK259 2
       have hfz19_3 := fz_ BK259 3
       go_wp2_with (first | ((with_reducible refine gate_callee (f := 43) rfl ?_); refine gs_ (some 30) Try.func43 #[.slice A0_0 l0_0.length c0_0] ?_; (with_reducible refine (skiarearef10_nodes.calls kj1 _ _ l0_0 t260 _ ?side1 ?side2 A12.out).mono ?_); (case side1 => exact kC_ (Kd.C_below HR0_0.out HB.out)); (case side2 => exact HC0_0.out); rintro e w' ⟨rfl, ⟨nd, rfl⟩⟩; refine ⟨_, rfl, ?_⟩) | ((with_reducible refine gate_callee (f := 44) rfl ?_); refine gs_ (some 35) Try.func44 #[.agg #[.slice A0_0 l0_0.length c0_0, .slice A0_1 l0_1.length c0_1, .slice A0_2 l0_2.length c0_2, .slice A0_3 l0_3.length c0_3]] ?_; (with_reducible refine (skiarearef10_lifts.calls kj1 _ _ l0_0 _ _ l0_1 _ _ l0_2 _ _ l0_3 t261 _ ?side1 ?side2 ?side3 ?side4 ?side5 ?side6 ?side7 ?side8 A14.out).mono ?_); (case side1 => exact kC_ (Kd.C_below HR0_0.out bel_)); (case side2 => exact HC0_0.out); (case side3 => exact kC_ (Kd.C_below HR0_1.out bel_)); (case side4 => exact HC0_1.out); (case side5 => exact kC_ (Kd.C_below HR0_2.out bel_)); (case side6 => exact HC0_2.out); (case side7 => exact kC_ (Kd.C_below HR0_3.out bel_)); (case side8 => exact HC0_3.out); rintro e w20 ⟨rfl, hb⟩; refine ⟨_, rfl, ?_⟩; have n0_ := a_ (blk_below (bk_ BK259.out) hb); have n1_ := a_ (below_step bel_ hb); clear BK259; clear HB; have BK259 := n0_; have HB := n1_; clear n0_ n1_; (try clear hb); (try clear hb2); (try clear hk); (try clear hi); have hcz21_0 := cz_ BK259 0; have hcz21_1 := cz_ BK259 1; have hcz21_2 := cz_ BK259 2; have hcz21_3 := cz_ BK259 3; have hfz21_0 := fz_ BK259 0; have hfz21_1 := fz_ BK259 1; have hfz21_2 := fz_ BK259 2; have hfz21_3 := fz_ BK259 3) | ((with_reducible refine gate_callee (f := 45) rfl ?_); refine gs_ (some 40) Try.func45 #[.agg #[.slice A0_0 l0_0.length c0_0, .slice A0_1 l0_1.length c0_1, .slice A0_2 l0_2.length c0_2, .slice A0_3 l0_3.length c0_3]] ?_; (with_reducible refine (skiarearef10_runs.calls kj1 _ _ l0_0 _ _ l0_1 _ _ l0_2 _ _ l0_3 t262 _ ?side1 ?side2 ?side3 ?side4 ?side5 ?side6 ?side7 ?side8 A16.out).mono ?_); (case side1 => exact kC_ (Kd.C_below HR0_0.out HB.out)); (case side2 => exact HC0_0.out); (case side3 => exact kC_ (Kd.C_below HR0_1.out HB.out)); (case side4 => exact HC0_1.out); (case side5 => exact kC_ (Kd.C_below HR0_2.out HB.out)); (case side6 => exact HC0_2.out); (case side7 => exact kC_ (Kd.C_below HR0_3.out HB.out)); (case side8 => exact HC0_3.out); rintro e w22 ⟨rfl, hb⟩; refine ⟨_, rfl, ?_⟩; have n0_ := a_ (blk_below (bk_ BK259.out) hb); have n1_ := a_ (below_step bel_ hb); clear BK259; clear HB; have BK259 := n0_; have HB := n1_; clear n0_ n1_; (try clear hb); (try clear hb2); (try clear hk); (try clear hi); have hcz23_0 := cz_ BK259 0; have hcz23_1 := cz_ BK259 1; have hcz23_2 := cz_ BK259 2; have hcz23_3 := cz_ BK259 3; have hfz23_0 := fz_ BK259 0; have hfz23_1 := fz_ BK259 1; have hfz23_2 := fz_ BK259 2; have hfz23_3 := fz_ BK259 3) | ((with_reducible refine gate_callee (f := 46) rfl ?_); refine gs_ (some 45) Try.func46 #[.agg #[.slice A0_0 l0_0.length c0_0, .slice A0_1 l0_1.length c0_1, .slice A0_2 l0_2.length c0_2, .slice A0_3 l0_3.length c0_3]] ?_; (with_reducible refine (skiarearef10_bases.calls kj1 _ _ l0_0 _ _ l0_1 _ _ l0_2 _ _ l0_3 t263 _ ?side1 ?side2 ?side3 ?side4 ?side5 ?side6 ?side7 ?side8 A18.out).mono ?_); (case side1 => exact kC_ (Kd.C_below HR0_0.out HB.out)); (case side2 => exact HC0_0.out); (case side3 => exact kC_ (Kd.C_below HR0_1.out HB.out)); (case side4 => exact HC0_1.out); (case side5 => exact kC_ (Kd.C_below HR0_2.out HB.out)); (case side6 => exact HC0_2.out); (case side7 => exact kC_ (Kd.C_below HR0_3.out HB.out)); (case side8 => exact HC0_3.out); rintro e w24 ⟨rfl, hb⟩; refine ⟨_, rfl, ?_⟩; have n0_ := a_ (blk_below (bk_ BK259.out) hb); have n1_ := a_ (below_step bel_ hb); clear BK259; clear HB; have BK259 := n0_; have HB := n1_; clear n0_ n1_; (try clear hb); (try clear hb2); (try clear hk); (try clear hi)))
       go_ret
       exact ⟨by first | rfl | (simp [errW_none, errW_some] <;> rfl) | (simp [*, errW_none, errW_some] <;> rfl), by repeat (first | (with_reducible first | exact HB.out | apply below_alloc | apply pw_below_drewN | apply below_drew1 | refine below_set ?_ GE259.out) | exact HB.out)⟩
      ·rw [if_neg c17] at H
       have c17b0 : (t262 == 0) = false := beq_eq_false_iff_ne.mpr c17
       have c17b1 : (t262 != 0) = true := bne_iff_ne.mpr c17
       obtain rfl := Option.some.inj H
       have hcz25_0 := cz_ BK259 0
       have hcz25_1 := cz_ BK259 1
       have hcz25_2 := cz_ BK259 2
       have hcz25_3 := cz_ BK259 3
       have hfz25_0 := fz_ BK259 0
       have hfz25_1 := fz_ BK259 1
       have hfz25_2 := fz_ BK259 2
       have hfz25_3 := fz_ BK259 3
       go_wp2_with (first | ((with_reducible refine gate_callee (f := 43) rfl ?_); refine gs_ (some 30) Try.func43 #[.slice A0_0 l0_0.length c0_0] ?_; (with_reducible refine (skiarearef10_nodes.calls kj1 _ _ l0_0 t260 _ ?side1 ?side2 A12.out).mono ?_); (case side1 => exact kC_ (Kd.C_below HR0_0.out HB.out)); (case side2 => exact HC0_0.out); rintro e w' ⟨rfl, ⟨nd, rfl⟩⟩; refine ⟨_, rfl, ?_⟩) | ((with_reducible refine gate_callee (f := 44) rfl ?_); refine gs_ (some 35) Try.func44 #[.agg #[.slice A0_0 l0_0.length c0_0, .slice A0_1 l0_1.length c0_1, .slice A0_2 l0_2.length c0_2, .slice A0_3 l0_3.length c0_3]] ?_; (with_reducible refine (skiarearef10_lifts.calls kj1 _ _ l0_0 _ _ l0_1 _ _ l0_2 _ _ l0_3 t261 _ ?side1 ?side2 ?side3 ?side4 ?side5 ?side6 ?side7 ?side8 A14.out).mono ?_); (case side1 => exact kC_ (Kd.C_below HR0_0.out bel_)); (case side2 => exact HC0_0.out); (case side3 => exact kC_ (Kd.C_below HR0_1.out bel_)); (case side4 => exact HC0_1.out); (case side5 => exact kC_ (Kd.C_below HR0_2.out bel_)); (case side6 => exact HC0_2.out); (case side7 => exact kC_ (Kd.C_below HR0_3.out bel_)); (case side8 => exact HC0_3.out); rintro e w26 ⟨rfl, hb⟩; refine ⟨_, rfl, ?_⟩; have n0_ := a_ (blk_below (bk_ BK259.out) hb); have n1_ := a_ (below_step bel_ hb); clear BK259; clear HB; have BK259 := n0_; have HB := n1_; clear n0_ n1_; (try clear hb); (try clear hb2); (try clear hk); (try clear hi); have hcz27_0 := cz_ BK259 0; have hcz27_1 := cz_ BK259 1; have hcz27_2 := cz_ BK259 2; have hcz27_3 := cz_ BK259 3; have hfz27_0 := fz_ BK259 0; have hfz27_1 := fz_ BK259 1; have hfz27_2 := fz_ BK259 2; have hfz27_3 := fz_ BK259 3) | ((with_reducible refine gate_callee (f := 45) rfl ?_); refine gs_ (some 40) Try.func45 #[.agg #[.slice A0_0 l0_0.length c0_0, .slice A0_1 l0_1.length c0_1, .slice A0_2 l0_2.length c0_2, .slice A0_3 l0_3.length c0_3]] ?_; (with_reducible refine (skiarearef10_runs.calls kj1 _ _ l0_0 _ _ l0_1 _ _ l0_2 _ _ l0_3 t262 _ ?side1 ?side2 ?side3 ?side4 ?side5 ?side6 ?side7 ?side8 A16.out).mono ?_); (case side1 => exact kC_ (Kd.C_below HR0_0.out HB.out)); (case side2 => exact HC0_0.out); (case side3 => exact kC_ (Kd.C_below HR0_1.out HB.out)); (case side4 => exact HC0_1.out); (case side5 => exact kC_ (Kd.C_below HR0_2.out HB.out)); (case side6 => exact HC0_2.out); (case side7 => exact kC_ (Kd.C_below HR0_3.out HB.out)); (case side8 => exact HC0_3.out); rintro e w28 ⟨rfl, hb⟩; refine ⟨_, rfl, ?_⟩; have n0_ := a_ (blk_below (bk_ BK259.out) hb); have n1_ := a_ (below_step bel_ hb); clear BK259; clear HB; have BK259 := n0_; have HB := n1_; clear n0_ n1_; (try clear hb); (try clear hb2); (try clear hk); (try clear hi)))
       go_ret
       exact ⟨by first | rfl | (simp [errW_none, errW_some] <;> rfl) | (simp [*, errW_none, errW_some] <;> rfl), by repeat (first | (with_reducible first | exact HB.out | apply below_alloc | apply pw_below_drewN | apply below_drew1 | refine below_set ?_ GE259.out) | exact HB.out)⟩
     ·rw [if_neg c15] at H
      have c15b0 : (t261 == 0) = false := beq_eq_false_iff_ne.mpr c15
      have c15b1 : (t261 != 0) = true := bne_iff_ne.mpr c15
      obtain rfl := Option.some.inj H
      have hcz29_0 := cz_ BK259 0
      have hcz29_1 := cz_ BK259 1
      have hcz29_2 := cz_ BK259 2
      have hcz29_3 := cz_ BK259 3
      have hfz29_0 := fz_ BK259 0
      have hfz29_1 := fz_ BK259 1
      have hfz29_2 := fz_ BK259 2
      have hfz29_3 := fz_ BK259 3
      go_wp2_with (first | ((with_reducible refine gate_callee (f := 43) rfl ?_); refine gs_ (some 30) Try.func43 #[.slice A0_0 l0_0.length c0_0] ?_; (with_reducible refine (skiarearef10_nodes.calls kj1 _ _ l0_0 t260 _ ?side1 ?side2 A12.out).mono ?_); (case side1 => exact kC_ (Kd.C_below HR0_0.out HB.out)); (case side2 => exact HC0_0.out); rintro e w' ⟨rfl, ⟨nd, rfl⟩⟩; refine ⟨_, rfl, ?_⟩) | ((with_reducible refine gate_callee (f := 44) rfl ?_); refine gs_ (some 35) Try.func44 #[.agg #[.slice A0_0 l0_0.length c0_0, .slice A0_1 l0_1.length c0_1, .slice A0_2 l0_2.length c0_2, .slice A0_3 l0_3.length c0_3]] ?_; (with_reducible refine (skiarearef10_lifts.calls kj1 _ _ l0_0 _ _ l0_1 _ _ l0_2 _ _ l0_3 t261 _ ?side1 ?side2 ?side3 ?side4 ?side5 ?side6 ?side7 ?side8 A14.out).mono ?_); (case side1 => exact kC_ (Kd.C_below HR0_0.out bel_)); (case side2 => exact HC0_0.out); (case side3 => exact kC_ (Kd.C_below HR0_1.out bel_)); (case side4 => exact HC0_1.out); (case side5 => exact kC_ (Kd.C_below HR0_2.out bel_)); (case side6 => exact HC0_2.out); (case side7 => exact kC_ (Kd.C_below HR0_3.out bel_)); (case side8 => exact HC0_3.out); rintro e w30 ⟨rfl, hb⟩; refine ⟨_, rfl, ?_⟩; have n0_ := a_ (blk_below (bk_ BK259.out) hb); have n1_ := a_ (below_step bel_ hb); clear BK259; clear HB; have BK259 := n0_; have HB := n1_; clear n0_ n1_; (try clear hb); (try clear hb2); (try clear hk); (try clear hi)))
      go_ret
      exact ⟨by first | rfl | (simp [errW_none, errW_some] <;> rfl) | (simp [*, errW_none, errW_some] <;> rfl), by repeat (first | (with_reducible first | exact HB.out | apply below_alloc | apply pw_below_drewN | apply below_drew1 | refine below_set ?_ GE259.out) | exact HB.out)⟩
    ·rw [if_neg c13] at H
     have c13b0 : (t260 == 0) = false := beq_eq_false_iff_ne.mpr c13
     have c13b1 : (t260 != 0) = true := bne_iff_ne.mpr c13
     obtain rfl := Option.some.inj H
     have hcz31_0 := cz_ BK259 0
     have hcz31_1 := cz_ BK259 1
     have hcz31_2 := cz_ BK259 2
     have hcz31_3 := cz_ BK259 3
     have hfz31_0 := fz_ BK259 0
     have hfz31_1 := fz_ BK259 1
     have hfz31_2 := fz_ BK259 2
     have hfz31_3 := fz_ BK259 3
     go_wp2_with (first | ((with_reducible refine gate_callee (f := 43) rfl ?_); refine gs_ (some 30) Try.func43 #[.slice A0_0 l0_0.length c0_0] ?_; (with_reducible refine (skiarearef10_nodes.calls kj1 _ _ l0_0 t260 _ ?side1 ?side2 A12.out).mono ?_); (case side1 => exact kC_ (Kd.C_below HR0_0.out HB.out)); (case side2 => exact HC0_0.out); rintro e w' ⟨rfl, ⟨nd, rfl⟩⟩; refine ⟨_, rfl, ?_⟩))
     go_ret
     exact ⟨by first | rfl | (simp [errW_none, errW_some] <;> rfl) | (simp [*, errW_none, errW_some] <;> rfl), by repeat (first | (with_reducible first | exact HB.out | apply below_alloc | apply pw_below_drewN | apply below_drew1 | refine below_set ?_ GE259.out) | exact HB.out)⟩

end Go.Proofs.Ytgfiidgigenibaa.Q
