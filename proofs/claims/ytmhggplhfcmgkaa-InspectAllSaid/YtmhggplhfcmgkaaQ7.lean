-- written by wip/drive.py (this session's program) over the kit's print words
import Derived.Test.YtmhggplhfcmgkaaQ0
import Derived.Test.YtmhggplhfcmgkaaQ5
import Derived.Test.YtmhggplhfcmgkaaQ6
namespace Go.Proofs.Ytmhggplhfcmgkaa.Q
open Go.RowKit Go.Proofs.YtmhggplhfcmgkaaW.PrintWords Go.Proofs.YtmhggplhfcmgkaaW.PrintLast Go.Proofs.YtmhggplhfcmgkaaW.PrintMore
attribute [local go_sem] max2_int min2_int max_two min_two max_three min_three max_four min_four   -- for this text's walks alone
set_option linter.unusedVariables false
set_option linter.unusedSimpArgs false

/-! ### inspect_Right: function 19 -/
mutual
def inspect_Right.j0 : Nat → Bool → List Int → Int → List (S35) → Option (Int)
 | 0, _, _, _, _ => none
 | k + 1, x16, x107000, x107001, x107002 => if x16 = true then (some 4) else (if x107001 < 1 then (inspect_Right.j1 k true x107000 x107001 x107002) else (inspect_Right.j1 k (decide (x107001 > 604800)) x107000 x107001 x107002))
def inspect_Right.j1 : Nat → Bool → List Int → Int → List (S35) → Option (Int)
 | 0, _, _, _, _ => none
 | k + 1, x24, x107000, x107001, x107002 => if x24 = true then (some 2) else ((inspect_items.f k x107000).bind fun t107 => (if t107 = 0 then (inspect_Right.l0 k 0 x107002 (x107002.length : Int) 0 x107000 x107001 x107002) else (some t107)))
def inspect_Right.l0 : Nat → Int → List (S35) → Int → Int → List Int → Int → List (S35) → Option (Int)
 | 0, _, _, _, _, _, _, _ => none
 | k + 1, x4, x32, x33, x34, x107000, x107001, x107002 => if x34 < x33 then (if 0 ≤ x34 then (if x34 < (x32.length : Int) then ((slices_Contains_int_int.f k x107000 ((rd_T35 x32 x34).f0)).bind fun t110 => (if t110 = true then (if ((rd_T35 x32 x34).f1) < 1 then (inspect_Right.j3 k x4 x32 x33 x34 true x107000 x107001 x107002 ((rd_T35 x32 x34).f0) ((rd_T35 x32 x34).f1) ((rd_T35 x32 x34).f2)) else (inspect_Right.j3 k x4 x32 x33 x34 (decide (((rd_T35 x32 x34).f1) > 9999)) x107000 x107001 x107002 ((rd_T35 x32 x34).f0) ((rd_T35 x32 x34).f1) ((rd_T35 x32 x34).f2))) else (some 8))) else (none)) else (none)) else (some 0)
def inspect_Right.j3 : Nat → Int → List (S35) → Int → Int → Bool → List Int → Int → List (S35) → Int → Int → Int → Option (Int)
 | 0, _, _, _, _, _, _, _, _, _, _, _ => none
 | k + 1, x4, x32, x33, x34, x45, x107000, x107001, x107002, x110000, x110001, x110002 => if x45 = true then (some 17) else (if x110002 < 0 then (inspect_Right.j4 k x4 x32 x33 x34 true x107000 x107001 x107002 x110000 x110001 x110002) else (inspect_Right.j4 k x4 x32 x33 x34 (decide (x110002 > 20000000)) x107000 x107001 x107002 x110000 x110001 x110002))
def inspect_Right.j4 : Nat → Int → List (S35) → Int → Int → Bool → List Int → Int → List (S35) → Int → Int → Int → Option (Int)
 | 0, _, _, _, _, _, _, _, _, _, _, _ => none
 | k + 1, x4, x32, x33, x34, x54, x107000, x107001, x107002, x110000, x110001, x110002 => if x54 = true then (some 2) else (if x110002 < x4 then (some 11) else (inspect_Right.l0 k x110002 x32 x33 (wrap64 (x34 + 1)) x107000 x107001 x107002))
end
def inspect_Right.f (k : Nat) (l0_0 : List Int) (a0_1 : Int) (l0_2 : List (S35)) : Option (Int) := if (l0_0.length : Int) > 64 then (inspect_Right.j0 k true l0_0 a0_1 l0_2) else (inspect_Right.j0 k (decide ((l0_2.length : Int) > 200)) l0_0 a0_1 l0_2)
theorem inspect_Right.mono_l : ∀ k, (∀ y0 y1 y2 y3, LeO (inspect_Right.j0 k y0 y1 y2 y3) (inspect_Right.j0 (k + 1) y0 y1 y2 y3)) ∧ (∀ y0 y1 y2 y3, LeO (inspect_Right.j1 k y0 y1 y2 y3) (inspect_Right.j1 (k + 1) y0 y1 y2 y3)) ∧ (∀ y0 y1 y2 y3 y4 y5 y6, LeO (inspect_Right.l0 k y0 y1 y2 y3 y4 y5 y6) (inspect_Right.l0 (k + 1) y0 y1 y2 y3 y4 y5 y6)) ∧ (∀ y0 y1 y2 y3 y4 y5 y6 y7 y8 y9 y10, LeO (inspect_Right.j3 k y0 y1 y2 y3 y4 y5 y6 y7 y8 y9 y10) (inspect_Right.j3 (k + 1) y0 y1 y2 y3 y4 y5 y6 y7 y8 y9 y10)) ∧ (∀ y0 y1 y2 y3 y4 y5 y6 y7 y8 y9 y10, LeO (inspect_Right.j4 k y0 y1 y2 y3 y4 y5 y6 y7 y8 y9 y10) (inspect_Right.j4 (k + 1) y0 y1 y2 y3 y4 y5 y6 y7 y8 y9 y10))
 | 0 => ⟨fun _ _ _ _ r h => by simp [inspect_Right.j0] at h, fun _ _ _ _ r h => by simp [inspect_Right.j1] at h, fun _ _ _ _ _ _ _ r h => by simp [inspect_Right.l0] at h, fun _ _ _ _ _ _ _ _ _ _ _ r h => by simp [inspect_Right.j3] at h, fun _ _ _ _ _ _ _ _ _ _ _ r h => by simp [inspect_Right.j4] at h⟩
 | k + 1 => by
  obtain ⟨ih0, ih1, ih2, ih3, ih4⟩ := inspect_Right.mono_l k
  refine ⟨?_, ?_, ?_, ?_, ?_⟩
  ·intro y0 y1 y2 y3
   unfold inspect_Right.j0
   repeat' first
   | (with_reducible exact ih0 _ _ _ _)
   | (with_reducible exact ih1 _ _ _ _)
   | (with_reducible exact ih2 _ _ _ _ _ _ _)
   | (with_reducible exact ih3 _ _ _ _ _ _ _ _ _ _ _)
   | (with_reducible exact ih4 _ _ _ _ _ _ _ _ _ _ _)
   | (with_reducible exact inspect_items.mono _ _)
   | (with_reducible exact slices_Contains_int_int.mono _ _ _)
   | (with_reducible exact LeO.refl _)
   | (with_reducible exact LeO.none _)
   | (with_reducible refine LeO.ite ?_ ?_)
   | (with_reducible refine LeO.bind ?_ (fun _ => ?_))
   | exact ih0 _ _ _ _
   | exact ih1 _ _ _ _
   | exact ih2 _ _ _ _ _ _ _
   | exact ih3 _ _ _ _ _ _ _ _ _ _ _
   | exact ih4 _ _ _ _ _ _ _ _ _ _ _
   | exact inspect_items.mono _ _
   | exact slices_Contains_int_int.mono _ _ _
   | exact LeO.none _
   | refine LeO.ite ?_ ?_
   | refine LeO.bind ?_ (fun _ => ?_)
  ·intro y0 y1 y2 y3
   unfold inspect_Right.j1
   repeat' first
   | (with_reducible exact ih0 _ _ _ _)
   | (with_reducible exact ih1 _ _ _ _)
   | (with_reducible exact ih2 _ _ _ _ _ _ _)
   | (with_reducible exact ih3 _ _ _ _ _ _ _ _ _ _ _)
   | (with_reducible exact ih4 _ _ _ _ _ _ _ _ _ _ _)
   | (with_reducible exact inspect_items.mono _ _)
   | (with_reducible exact slices_Contains_int_int.mono _ _ _)
   | (with_reducible exact LeO.refl _)
   | (with_reducible exact LeO.none _)
   | (with_reducible refine LeO.ite ?_ ?_)
   | (with_reducible refine LeO.bind ?_ (fun _ => ?_))
   | exact ih0 _ _ _ _
   | exact ih1 _ _ _ _
   | exact ih2 _ _ _ _ _ _ _
   | exact ih3 _ _ _ _ _ _ _ _ _ _ _
   | exact ih4 _ _ _ _ _ _ _ _ _ _ _
   | exact inspect_items.mono _ _
   | exact slices_Contains_int_int.mono _ _ _
   | exact LeO.none _
   | refine LeO.ite ?_ ?_
   | refine LeO.bind ?_ (fun _ => ?_)
  ·intro y0 y1 y2 y3 y4 y5 y6
   unfold inspect_Right.l0
   repeat' first
   | (with_reducible exact ih0 _ _ _ _)
   | (with_reducible exact ih1 _ _ _ _)
   | (with_reducible exact ih2 _ _ _ _ _ _ _)
   | (with_reducible exact ih3 _ _ _ _ _ _ _ _ _ _ _)
   | (with_reducible exact ih4 _ _ _ _ _ _ _ _ _ _ _)
   | (with_reducible exact inspect_items.mono _ _)
   | (with_reducible exact slices_Contains_int_int.mono _ _ _)
   | (with_reducible exact LeO.refl _)
   | (with_reducible exact LeO.none _)
   | (with_reducible refine LeO.ite ?_ ?_)
   | (with_reducible refine LeO.bind ?_ (fun _ => ?_))
   | exact ih0 _ _ _ _
   | exact ih1 _ _ _ _
   | exact ih2 _ _ _ _ _ _ _
   | exact ih3 _ _ _ _ _ _ _ _ _ _ _
   | exact ih4 _ _ _ _ _ _ _ _ _ _ _
   | exact inspect_items.mono _ _
   | exact slices_Contains_int_int.mono _ _ _
   | exact LeO.none _
   | refine LeO.ite ?_ ?_
   | refine LeO.bind ?_ (fun _ => ?_)
  ·intro y0 y1 y2 y3 y4 y5 y6 y7 y8 y9 y10
   unfold inspect_Right.j3
   repeat' first
   | (with_reducible exact ih0 _ _ _ _)
   | (with_reducible exact ih1 _ _ _ _)
   | (with_reducible exact ih2 _ _ _ _ _ _ _)
   | (with_reducible exact ih3 _ _ _ _ _ _ _ _ _ _ _)
   | (with_reducible exact ih4 _ _ _ _ _ _ _ _ _ _ _)
   | (with_reducible exact inspect_items.mono _ _)
   | (with_reducible exact slices_Contains_int_int.mono _ _ _)
   | (with_reducible exact LeO.refl _)
   | (with_reducible exact LeO.none _)
   | (with_reducible refine LeO.ite ?_ ?_)
   | (with_reducible refine LeO.bind ?_ (fun _ => ?_))
   | exact ih0 _ _ _ _
   | exact ih1 _ _ _ _
   | exact ih2 _ _ _ _ _ _ _
   | exact ih3 _ _ _ _ _ _ _ _ _ _ _
   | exact ih4 _ _ _ _ _ _ _ _ _ _ _
   | exact inspect_items.mono _ _
   | exact slices_Contains_int_int.mono _ _ _
   | exact LeO.none _
   | refine LeO.ite ?_ ?_
   | refine LeO.bind ?_ (fun _ => ?_)
  ·intro y0 y1 y2 y3 y4 y5 y6 y7 y8 y9 y10
   unfold inspect_Right.j4
   repeat' first
   | (with_reducible exact ih0 _ _ _ _)
   | (with_reducible exact ih1 _ _ _ _)
   | (with_reducible exact ih2 _ _ _ _ _ _ _)
   | (with_reducible exact ih3 _ _ _ _ _ _ _ _ _ _ _)
   | (with_reducible exact ih4 _ _ _ _ _ _ _ _ _ _ _)
   | (with_reducible exact inspect_items.mono _ _)
   | (with_reducible exact slices_Contains_int_int.mono _ _ _)
   | (with_reducible exact LeO.refl _)
   | (with_reducible exact LeO.none _)
   | (with_reducible refine LeO.ite ?_ ?_)
   | (with_reducible refine LeO.bind ?_ (fun _ => ?_))
   | exact ih0 _ _ _ _
   | exact ih1 _ _ _ _
   | exact ih2 _ _ _ _ _ _ _
   | exact ih3 _ _ _ _ _ _ _ _ _ _ _
   | exact ih4 _ _ _ _ _ _ _ _ _ _ _
   | exact inspect_items.mono _ _
   | exact slices_Contains_int_int.mono _ _ _
   | exact LeO.none _
   | refine LeO.ite ?_ ?_
   | refine LeO.bind ?_ (fun _ => ?_)
theorem inspect_Right.mono : ∀ a0 a1 a2 k, LeO (inspect_Right.f k a0 a1 a2) (inspect_Right.f (k + 1) a0 a1 a2) := by
 intro a0 a1 a2 k
 obtain ⟨ih0, ih1, ih2, ih3, ih4⟩ := inspect_Right.mono_l k
 unfold inspect_Right.f
 repeat' first
   | (with_reducible exact ih0 _ _ _ _)
   | (with_reducible exact ih1 _ _ _ _)
   | (with_reducible exact ih2 _ _ _ _ _ _ _)
   | (with_reducible exact ih3 _ _ _ _ _ _ _ _ _ _ _)
   | (with_reducible exact ih4 _ _ _ _ _ _ _ _ _ _ _)
   | (with_reducible exact inspect_items.mono _ _)
   | (with_reducible exact slices_Contains_int_int.mono _ _ _)
   | (with_reducible exact LeO.refl _)
   | (with_reducible exact LeO.none _)
   | (with_reducible refine LeO.ite ?_ ?_)
   | (with_reducible refine LeO.bind ?_ (fun _ => ?_))
   | exact ih0 _ _ _ _
   | exact ih1 _ _ _ _
   | exact ih2 _ _ _ _ _ _ _
   | exact ih3 _ _ _ _ _ _ _ _ _ _ _
   | exact ih4 _ _ _ _ _ _ _ _ _ _ _
   | exact inspect_items.mono _ _
   | exact slices_Contains_int_int.mono _ _ _
   | exact LeO.none _
   | refine LeO.ite ?_ ?_
   | refine LeO.bind ?_ (fun _ => ?_)
set_option maxHeartbeats 8000000 in
set_option maxRecDepth 100000 in
theorem inspect_Right.calls (k : Nat) (A0_0 : Option Addr) (c0_0 : Nat) (l0_0 : List Int) (a0_1 : Int) (A0_2 : Option Addr) (c0_2 : Nat) (l0_2 : List (S35)) (r : Int) (w : World) (hr0_0 : Kd.C (Kd.int .i64) w A0_0 l0_0.length l0_0) (hc0_0 : l0_0.length ≤ c0_0) (hr0_2 : Kd.C k35 w A0_2 l0_2.length l0_2) (hc0_2 : l0_2.length ≤ c0_2) (h : inspect_Right.f k l0_0 a0_1 l0_2 = some r) :
  Calls Try.prog 19 #[.agg #[.slice A0_0 l0_0.length c0_0, .int .i64 a0_1, .slice A0_2 l0_2.length c0_2]] w fun e w' => e = .returned (.int .i64 r) ∧ Below w.heap.size w w' := by
 have hu25 := Try.underlying25
 have hu35 := Try.underlying35
 have HR0_0 := a_ hr0_0
 have HC0_0 := a_ hc0_0
 clear hr0_0 hc0_0
 have HR0_2 := a_ hr0_2
 have HC0_2 := a_ hc0_2
 clear hr0_2 hc0_2
 have HB := a_ (Below.refl w.heap.size w)
 have H : (if (l0_0.length : Int) > 64 then (inspect_Right.j0 k true l0_0 a0_1 l0_2) else (inspect_Right.j0 k (decide ((l0_2.length : Int) > 200)) l0_0 a0_1 l0_2)) = some r := h
 clear h
 have HC2 := a_ H
 clear H
 go_enter Try.func19, Try.ntmps19
 go_upto_region 1 with (first | ((with_reducible refine gate_dst (N := 1) rfl ?_); (try (refine gate_guard (by rfl) ?_; dsimp only)); refine box_event ?hg (N := 1) ?hd (cs := #[.slice A0_0 l0_0.length c0_0, .int .i64 a0_1, .slice A0_2 l0_2.length c0_2]) (t := 25) ?hr ?_; (case hd => rfl); (case hg => rfl); (case hr => first | (go_simp; done) | (go_simp; rfl)); intro gb106 hg w3 hbox hb; have n0_ := a_ (below_step bel_ hb); have n1_ := a_ (hbox); have n2_ := a_ (bz_ hg : w.heap.size ≤ gb106); have n3_ := a_ (bz_ hg : w.heap.size ≤ gb106); clear HB; have HB := n0_; have BK106 := n1_; have GW106 := n2_; have GE106 := n3_; clear n0_ n1_ n2_ n3_; clear hb hbox hg))
 (try simp only [Act.put, List.setIfInBounds_toArray, List.set_cons_zero, List.set_cons_succ])
 go_cut [16] (fun v16 wc => ∃ (kq : Nat) (x16_1 : Bool), v16 = .bool x16_1 ∧ Aside0 (inspect_Right.j0 kq x16_1 l0_0 a0_1 l0_2 = some r) ∧ Aside0 (kq ≤ k) ∧ Aside0 (wc.heap[gb106]? = some (.cells #[(.slice A0_0 l0_0.length c0_0), .int .i64 a0_1, (.slice A0_2 l0_2.length c0_2)] 25 (0, 0))) ∧ Aside0 (Below w.heap.size w wc))
 case first =>
  have H := HC2.out
  clear HC2
  by_cases c4 : (l0_0.length : Int) > 64
  ·rw [if_pos c4] at H
   have c4b0 : decide (64 < (l0_0.length : Int)) = true := decide_eq_true c4
   have c4b1 : decide (64 < l0_0.length) = true := decide_eq_true (by omega)
   clear c4
   (first | rw [c4b0] | (simp only [i64_w, i32_w]; rw [c4b0]) | skip)
   have H' := a_ H
   clear H
   have hcz5_0 := cz_ BK106 0
   have hcz5_1 := cz_ BK106 1
   have hcz5_2 := cz_ BK106 2
   have hfz5_0 := fz_ BK106 0
   have hfz5_1 := fz_ BK106 1
   have hfz5_2 := fz_ BK106 2
   go_wp2
   go_meet
   case rel => exact ⟨_, (true), (by first | rfl | (simp; done) | (simp [*]; done)), H', ⟨by first | omega | exact Nat.le_refl _⟩, ⟨by exact BK106.out⟩, ⟨by repeat (first | (with_reducible first | exact HB.out | apply below_alloc | apply pw_below_drewN | apply below_drew1 | refine below_set ?_ GE106.out) | exact HB.out)⟩⟩
  ·rw [if_neg c4] at H
   have c4b0 : decide (64 < (l0_0.length : Int)) = false := decide_eq_false c4
   have c4b1 : decide (64 < l0_0.length) = false := decide_eq_false (by omega)
   clear c4
   (first | rw [c4b0] | (simp only [i64_w, i32_w]; rw [c4b0]) | skip)
   have H' := a_ H
   clear H
   have hcz6_0 := cz_ BK106 0
   have hcz6_1 := cz_ BK106 1
   have hcz6_2 := cz_ BK106 2
   have hfz6_0 := fz_ BK106 0
   have hfz6_1 := fz_ BK106 1
   have hfz6_2 := fz_ BK106 2
   go_wp2
   go_meet
   case rel => exact ⟨_, (decide ((l0_2.length : Int) > 200)), (by first | rfl | (simp; done) | (simp [*]; done)), H', ⟨by first | omega | exact Nat.le_refl _⟩, ⟨by exact BK106.out⟩, ⟨by repeat (first | (with_reducible first | exact HB.out | apply below_alloc | apply pw_below_drewN | apply below_drew1 | refine below_set ?_ GE106.out) | exact HB.out)⟩⟩
 case rest =>
  clear HC2
  try clear c1
  try clear p2
  try clear c4
  try clear c4b0
  try clear c4b1
  try clear hcz5_0
  try clear hcz5_1
  try clear hcz5_2
  try clear hcz6_0
  try clear hcz6_1
  try clear hcz6_2
  try clear hfz5_0
  try clear hfz5_1
  try clear hfz5_2
  try clear hfz6_0
  try clear hfz6_1
  try clear hfz6_2
  obtain ⟨kq, x16_1, rfl, HA, HJ1, BK106, HB⟩ := hcut
  cases kq with
  | zero => exact absurd HA.out (by simp [inspect_Right.j0])
  | succ kj1 =>
   have H := HA.out
   clear HA
   simp only [inspect_Right.j0] at H
   by_cases c7 : x16_1 = true
   ·subst c7
    have H1 : (some 4) = some r := by rw [if_pos rfl] at H; exact H
    clear H
    have H := H1
    clear H1
    obtain rfl := Option.some.inj H
    go_wp2
    go_ret
    exact ⟨by first | rfl | (simp [errW_none, errW_some] <;> rfl) | (simp [*, errW_none, errW_some] <;> rfl), by repeat (first | (with_reducible first | exact HB.out | apply below_alloc | apply pw_below_drewN | apply below_drew1 | refine below_set ?_ GE106.out) | exact HB.out)⟩
   ·replace c7 := Bool.eq_false_iff.mpr c7
    subst c7
    have H1 : (if a0_1 < 1 then (inspect_Right.j1 kj1 true l0_0 a0_1 l0_2) else (inspect_Right.j1 kj1 (decide (a0_1 > 604800)) l0_0 a0_1 l0_2)) = some r := by rw [if_neg (show ¬ (false = true) by decide)] at H; exact H
    clear H
    have H := H1
    clear H1
    have HC8 := a_ H
    clear H
    go_upto_region 3 with (fail)
    go_cut [24] (fun v24 wc => ∃ (kq : Nat) (x24_7 : Bool), v24 = .bool x24_7 ∧ Aside0 (inspect_Right.j1 kq x24_7 l0_0 a0_1 l0_2 = some r) ∧ Aside0 (kq ≤ kj1) ∧ Aside0 (wc.heap[gb106]? = some (.cells #[(.slice A0_0 l0_0.length c0_0), .int .i64 a0_1, (.slice A0_2 l0_2.length c0_2)] 25 (0, 0))) ∧ Aside0 (Below w.heap.size w wc))
    case first =>
     have H := HC8.out
     clear HC8
     by_cases c9 : a0_1 < 1
     ·rw [if_pos c9] at H
      have c9b0 : decide (a0_1 < 1) = true := decide_eq_true c9
      clear c9
      (first | rw [c9b0] | (simp only [i64_w, i32_w]; rw [c9b0]) | skip)
      have H' := a_ H
      clear H
      have hcz10_0 := cz_ BK106 0
      have hcz10_1 := cz_ BK106 1
      have hcz10_2 := cz_ BK106 2
      have hfz10_0 := fz_ BK106 0
      have hfz10_1 := fz_ BK106 1
      have hfz10_2 := fz_ BK106 2
      go_wp2
      go_meet
      case rel => exact ⟨_, (true), (by first | rfl | (simp; done) | (simp [*]; done)), H', ⟨by have := HJ1.out; first | omega | exact Nat.le_refl _⟩, ⟨by exact BK106.out⟩, ⟨by repeat (first | (with_reducible first | exact HB.out | apply below_alloc | apply pw_below_drewN | apply below_drew1 | refine below_set ?_ GE106.out) | exact HB.out)⟩⟩
     ·rw [if_neg c9] at H
      have c9b0 : decide (a0_1 < 1) = false := decide_eq_false c9
      clear c9
      (first | rw [c9b0] | (simp only [i64_w, i32_w]; rw [c9b0]) | skip)
      have H' := a_ H
      clear H
      have hcz11_0 := cz_ BK106 0
      have hcz11_1 := cz_ BK106 1
      have hcz11_2 := cz_ BK106 2
      have hfz11_0 := fz_ BK106 0
      have hfz11_1 := fz_ BK106 1
      have hfz11_2 := fz_ BK106 2
      go_wp2
      go_meet
      case rel => exact ⟨_, (decide (a0_1 > 604800)), (by first | rfl | (simp; done) | (simp [*]; done)), H', ⟨by have := HJ1.out; first | omega | exact Nat.le_refl _⟩, ⟨by exact BK106.out⟩, ⟨by repeat (first | (with_reducible first | exact HB.out | apply below_alloc | apply pw_below_drewN | apply below_drew1 | refine below_set ?_ GE106.out) | exact HB.out)⟩⟩
    case rest =>
     clear HC8
     try clear c1
     try clear p2
     try clear c4
     try clear c4b0
     try clear c4b1
     try clear c7
     try clear c9
     try clear c9b0
     try clear hcz10_0
     try clear hcz10_1
     try clear hcz10_2
     try clear hcz11_0
     try clear hcz11_1
     try clear hcz11_2
     try clear hcz5_0
     try clear hcz5_1
     try clear hcz5_2
     try clear hcz6_0
     try clear hcz6_1
     try clear hcz6_2
     try clear hfz10_0
     try clear hfz10_1
     try clear hfz10_2
     try clear hfz11_0
     try clear hfz11_1
     try clear hfz11_2
     try clear hfz5_0
     try clear hfz5_1
     try clear hfz5_2
     try clear hfz6_0
     try clear hfz6_1
     try clear hfz6_2
     try clear p2
     obtain ⟨kq, x24_7, rfl, HA, HJ7, BK106, HB⟩ := hcut
     cases kq with
     | zero => exact absurd HA.out (by simp [inspect_Right.j1])
     | succ kj7 =>
      have H := HA.out
      clear HA
      simp only [inspect_Right.j1] at H
      by_cases c12 : x24_7 = true
      ·subst c12
       have H1 : (some 2) = some r := by rw [if_pos rfl] at H; exact H
       clear H
       have H := H1
       clear H1
       obtain rfl := Option.some.inj H
       go_wp2
       go_ret
       exact ⟨by first | rfl | (simp [errW_none, errW_some] <;> rfl) | (simp [*, errW_none, errW_some] <;> rfl), by repeat (first | (with_reducible first | exact HB.out | apply below_alloc | apply pw_below_drewN | apply below_drew1 | refine below_set ?_ GE106.out) | exact HB.out)⟩
      ·replace c12 := Bool.eq_false_iff.mpr c12
       subst c12
       have H1 : ((inspect_items.f kj7 l0_0).bind fun t107 => (if t107 = 0 then (inspect_Right.l0 kj7 0 l0_2 (l0_2.length : Int) 0 l0_0 a0_1 l0_2) else (some t107))) = some r := by rw [if_neg (show ¬ (false = true) by decide)] at H; exact H
       clear H
       have H := H1
       clear H1
       replace H := Option.bind_eq_some_iff.mp H
       obtain ⟨t107, A130, H⟩ := H
       replace H : (if t107 = 0 then (inspect_Right.l0 kj7 0 l0_2 (l0_2.length : Int) 0 l0_0 a0_1 l0_2) else (some t107)) = some r := H
       have A13 := a_ A130
       clear A130
       by_cases c14 : t107 = 0
       ·rw [if_pos c14] at H
        have c14b0 : (t107 == 0) = true := beq_iff_eq.mpr c14
        have c14b1 : (t107 != 0) = false := bne_eq_false_iff_eq.mpr c14
        clear c14
        have H' := a_ H
        clear H
        have hcz15_0 := cz_ BK106 0
        have hcz15_1 := cz_ BK106 1
        have hcz15_2 := cz_ BK106 2
        have hfz15_0 := fz_ BK106 0
        have hfz15_1 := fz_ BK106 1
        have hfz15_2 := fz_ BK106 2
        go_wp2_with (first | ((with_reducible refine gate_callee (f := 54) rfl ?_); refine gs_ (some 27) Try.func54 #[.slice A0_0 l0_0.length c0_0] ?_; (with_reducible refine (inspect_items.calls kj7 _ _ l0_0 t107 _ ?side1 ?side2 A13.out).mono ?_); (case side1 => exact kC_ (Kd.C_below HR0_0.out HB.out)); (case side2 => exact HC0_0.out); rintro e w' ⟨rfl, ⟨nd, rfl⟩⟩; refine ⟨_, rfl, ?_⟩))
        go_loopg [4, 34] kj7 (fun kq v4 v34 w' => ∃ (x4_3 : Int) (x34_3 : Int), v4 = .int .i64 x4_3 ∧ v34 = .int .i64 x34_3 ∧ Aside0 (inspect_Right.l0 kq x4_3 l0_2 (l0_2.length : Int) x34_3 l0_0 a0_1 l0_2 = some r) ∧ Aside0 (kq ≤ kj7) ∧ Aside0 (w'.heap[gb106]? = some (.cells #[(.slice A0_0 l0_0.length c0_0), .int .i64 a0_1, (.slice A0_2 l0_2.length c0_2)] 25 (0, 0))) ∧ Aside0 (Below w.heap.size w w'))
        case atStart => exact ⟨(0), (0), (by first | rfl | (simp; done) | (simp [*]; done)), (by first | rfl | (simp; done) | (simp [*]; done)), H', ⟨Nat.le_refl _⟩, ⟨by exact BK106.out⟩, ⟨by repeat (first | (with_reducible first | exact HB.out | apply below_alloc | apply pw_below_drewN | apply below_drew1 | refine below_set ?_ GE106.out) | exact HB.out)⟩⟩
        case round =>
         clear H'
         try clear c1
         try clear p2
         try clear c4
         try clear c4b0
         try clear c4b1
         try clear c5
         try clear c7
         try clear c9
         try clear c9b0
         try clear c12
         try clear c14
         try clear c14b0
         try clear c14b1
         try clear hcz10_0
         try clear hcz10_1
         try clear hcz10_2
         try clear hcz11_0
         try clear hcz11_1
         try clear hcz11_2
         try clear hcz15_0
         try clear hcz15_1
         try clear hcz15_2
         try clear hcz5_0
         try clear hcz5_1
         try clear hcz5_2
         try clear hcz6_0
         try clear hcz6_1
         try clear hcz6_2
         try clear hfz10_0
         try clear hfz10_1
         try clear hfz10_2
         try clear hfz11_0
         try clear hfz11_1
         try clear hfz11_2
         try clear hfz15_0
         try clear hfz15_1
         try clear hfz15_2
         try clear hfz5_0
         try clear hfz5_1
         try clear hfz5_2
         try clear hfz6_0
         try clear hfz6_1
         try clear hfz6_2
         try clear p2
         obtain ⟨x4_3, x34_3, rfl, rfl, HA, HK3, BK106, HB⟩ := hrel
         cases gk with
         | zero => exact absurd HA.out (by simp [inspect_Right.l0])
         | succ k3 =>
          have H := HA.out
          clear HA
          simp only [inspect_Right.l0] at H
          by_cases c16 : x34_3 < (l0_2.length : Int)
          ·rw [if_pos c16] at H
           have c16b0 : decide (x34_3 < (l0_2.length : Int)) = true := decide_eq_true c16
           clear c16
           by_cases c17 : 0 ≤ x34_3
           ·rw [if_pos c17] at H
            have c17b0 : decide (0 ≤ x34_3) = true := decide_eq_true c17
            clear c17
            by_cases c18 : x34_3 < (l0_2.length : Int)
            ·rw [if_pos c18] at H
             have c18b0 : decide (x34_3 < (l0_2.length : Int)) = true := decide_eq_true c18
             clear c18
             replace H := Option.bind_eq_some_iff.mp H
             obtain ⟨t110, A190, H⟩ := H
             replace H : (if t110 = true then (if ((rd_T35 l0_2 x34_3).f1) < 1 then (inspect_Right.j3 k3 x4_3 l0_2 (l0_2.length : Int) x34_3 true l0_0 a0_1 l0_2 ((rd_T35 l0_2 x34_3).f0) ((rd_T35 l0_2 x34_3).f1) ((rd_T35 l0_2 x34_3).f2)) else (inspect_Right.j3 k3 x4_3 l0_2 (l0_2.length : Int) x34_3 (decide (((rd_T35 l0_2 x34_3).f1) > 9999)) l0_0 a0_1 l0_2 ((rd_T35 l0_2 x34_3).f0) ((rd_T35 l0_2 x34_3).f1) ((rd_T35 l0_2 x34_3).f2))) else (some 8)) = some r := H
             have A19 := a_ A190
             clear A190
             by_cases c20 : t110 = true
             ·subst c20
              have H1 : (if ((rd_T35 l0_2 x34_3).f1) < 1 then (inspect_Right.j3 k3 x4_3 l0_2 (l0_2.length : Int) x34_3 true l0_0 a0_1 l0_2 ((rd_T35 l0_2 x34_3).f0) ((rd_T35 l0_2 x34_3).f1) ((rd_T35 l0_2 x34_3).f2)) else (inspect_Right.j3 k3 x4_3 l0_2 (l0_2.length : Int) x34_3 (decide (((rd_T35 l0_2 x34_3).f1) > 9999)) l0_0 a0_1 l0_2 ((rd_T35 l0_2 x34_3).f0) ((rd_T35 l0_2 x34_3).f1) ((rd_T35 l0_2 x34_3).f2))) = some r := by rw [if_pos rfl] at H; exact H
              clear H
              have H := H1
              clear H1
              have HC21 := a_ H
              clear H
              have p108 : 0 ≤ (x34_3 : Int) := od_
              have q108 : x34_3 < (l0_2.length : Int) := od_
              obtain ⟨ad108, e108, hx108_0, hx108_1, hx108_2⟩ := at_T35 HR0_2.out x34_3 p108 q108
              cases e108
              replace hx108_0 := pc_ hx108_0
              replace hx108_1 := pc_ hx108_1
              replace hx108_2 := pc_ hx108_2
              replace p108 := eq_true p108
              replace q108 := eq_true q108
              go_upto_region 14 with (first | ((with_reducible refine gate_dst (N := 6) rfl ?_); (try (refine gate_guard (by rfl) ?_; dsimp only)); refine box_event ?hg (N := 6) ?hd (cs := #[.int .i64 0, .int .i64 0, .int .i64 0]) (t := 35) ?hr ?_; (case hd => rfl); (case hg => rfl); (case hr => first | (go_simp; done) | (go_simp; rfl)); intro gb109 hg w22 hbox hb; have n0_ := a_ (blk_below (bk_ BK106.out) hb); have n1_ := a_ (below_step bel_ hb); have n2_ := a_ (hbox); have n3_ := a_ (bz_ hg : w.heap.size ≤ gb109); have n4_ := a_ (bz_ hg : w.heap.size ≤ gb109); have n5_ := a_ (nl_ hg (bk_ BK106.out)); have n6_ := a_ (ng_ hg (bk_ BK106.out)); clear BK106; clear HB; have BK106 := n0_; have HB := n1_; have BK109 := n2_; have GW109 := n3_; have GE109 := n4_; have NB106_109 := n5_; have NB109_106 := n6_; clear n0_ n1_ n2_ n3_ n4_ n5_ n6_; clear hb hbox hg; have hnb23 := NB109_106.out; have hnc23 := NB106_109.out; have hcz24_0 := cz_ BK109 0; have hcz24_1 := cz_ BK109 1; have hcz24_2 := cz_ BK109 2; have hfz24_0 := fz_ BK109 0; have hfz24_1 := fz_ BK109 1; have hfz24_2 := fz_ BK109 2; have hcz25_0 := cz_ BK106 0; have hcz25_1 := cz_ BK106 1; have hcz25_2 := cz_ BK106 2; have hfz25_0 := fz_ BK106 0; have hfz25_1 := fz_ BK106 1; have hfz25_2 := fz_ BK106 2) | ((with_reducible refine gate_callee (f := 55) rfl ?_); refine gs_ (some 43) Try.func55 #[.slice A0_0 l0_0.length c0_0, .int .i64 ((rd_T35 l0_2 x34_3).f0)] ?_; (with_reducible refine (slices_Contains_int_int.calls k3 _ _ l0_0 ((rd_T35 l0_2 x34_3).f0) true _ ?side1 ?side2 A19.out).mono ?_); (case side1 => exact Kd.C_below HR0_0.out bel_); (case side2 => exact HC0_0.out); rintro e w' ⟨rfl, ⟨nd, rfl⟩⟩; refine ⟨_, rfl, ?_⟩))
              (try simp only [Act.put, List.setIfInBounds_toArray, List.set_cons_zero, List.set_cons_succ])
              go_cut [45] (fun v45 wc => ∃ (kq : Nat) (x45_20 : Bool), v45 = .bool x45_20 ∧ Aside0 (inspect_Right.j3 kq x4_3 l0_2 (l0_2.length : Int) x34_3 x45_20 l0_0 a0_1 l0_2 ((rd_T35 l0_2 x34_3).f0) ((rd_T35 l0_2 x34_3).f1) ((rd_T35 l0_2 x34_3).f2) = some r) ∧ Aside0 (kq ≤ k3) ∧ Aside0 (wc.heap[gb106]? = some (.cells #[(.slice A0_0 l0_0.length c0_0), .int .i64 a0_1, (.slice (some ad108) l0_2.length c0_2)] 25 (0, 0))) ∧ Aside0 (wc.heap[gb109]? = some (.cells #[.int .i64 ((rd_T35 l0_2 x34_3).f0), .int .i64 ((rd_T35 l0_2 x34_3).f1), .int .i64 ((rd_T35 l0_2 x34_3).f2)] 35 (0, 0))) ∧ Aside0 (Below w.heap.size w wc))
              case first =>
               have H := HC21.out
               clear HC21
               by_cases c26 : ((rd_T35 l0_2 x34_3).f1) < 1
               ·rw [if_pos c26] at H
                have c26b0 : decide (((rd_T35 l0_2 x34_3).f1) < 1) = true := decide_eq_true c26
                clear c26
                (first | rw [c26b0] | (simp only [i64_w, i32_w]; rw [c26b0]) | skip)
                have H' := a_ H
                clear H
                have hnb27 := NB109_106.out
                have hnc27 := NB106_109.out
                have hcz28_0 := cz_ BK109 0
                have hcz28_1 := cz_ BK109 1
                have hcz28_2 := cz_ BK109 2
                have hfz28_0 := fz_ BK109 0
                have hfz28_1 := fz_ BK109 1
                have hfz28_2 := fz_ BK109 2
                go_wp2
                go_meet
                case rel => exact ⟨_, (true), (by first | rfl | (simp; done) | (simp [*]; done)), H', ⟨by have := HJ1.out; have := HJ7.out; have := HK3.out; first | omega | exact Nat.le_refl _⟩, ⟨by refine blk_far ?_ NB106_109.out _; refine blk_far ?_ NB106_109.out _; refine blk_far ?_ NB106_109.out _; exact BK106.out⟩, ⟨by refine blk_put (cs := #[.int .i64 ((rd_T35 l0_2 x34_3).f0), .int .i64 ((rd_T35 l0_2 x34_3).f1), .int .i64 0]) ?_ 2 _ rfl; refine blk_put (cs := #[.int .i64 ((rd_T35 l0_2 x34_3).f0), .int .i64 0, .int .i64 0]) ?_ 1 _ rfl; refine blk_put (cs := #[.int .i64 0, .int .i64 0, .int .i64 0]) ?_ 0 _ rfl; exact BK109.out⟩, ⟨by repeat (first | (with_reducible first | exact HB.out | apply below_alloc | apply pw_below_drewN | apply below_drew1 | refine below_set ?_ GE106.out | refine below_set ?_ GE109.out) | exact HB.out)⟩⟩
               ·rw [if_neg c26] at H
                have c26b0 : decide (((rd_T35 l0_2 x34_3).f1) < 1) = false := decide_eq_false c26
                clear c26
                (first | rw [c26b0] | (simp only [i64_w, i32_w]; rw [c26b0]) | skip)
                have H' := a_ H
                clear H
                have hnb29 := NB109_106.out
                have hnc29 := NB106_109.out
                have hcz30_0 := cz_ BK109 0
                have hcz30_1 := cz_ BK109 1
                have hcz30_2 := cz_ BK109 2
                have hfz30_0 := fz_ BK109 0
                have hfz30_1 := fz_ BK109 1
                have hfz30_2 := fz_ BK109 2
                go_wp2
                go_meet
                case rel => exact ⟨_, (decide (((rd_T35 l0_2 x34_3).f1) > 9999)), (by first | rfl | (simp; done) | (simp [*]; done)), H', ⟨by have := HJ1.out; have := HJ7.out; have := HK3.out; first | omega | exact Nat.le_refl _⟩, ⟨by refine blk_far ?_ NB106_109.out _; refine blk_far ?_ NB106_109.out _; refine blk_far ?_ NB106_109.out _; exact BK106.out⟩, ⟨by refine blk_put (cs := #[.int .i64 ((rd_T35 l0_2 x34_3).f0), .int .i64 ((rd_T35 l0_2 x34_3).f1), .int .i64 0]) ?_ 2 _ rfl; refine blk_put (cs := #[.int .i64 ((rd_T35 l0_2 x34_3).f0), .int .i64 0, .int .i64 0]) ?_ 1 _ rfl; refine blk_put (cs := #[.int .i64 0, .int .i64 0, .int .i64 0]) ?_ 0 _ rfl; exact BK109.out⟩, ⟨by repeat (first | (with_reducible first | exact HB.out | apply below_alloc | apply pw_below_drewN | apply below_drew1 | refine below_set ?_ GE106.out | refine below_set ?_ GE109.out) | exact HB.out)⟩⟩
              case rest =>
               clear HC21
               try clear c1
               try clear p1
               try clear q1
               try clear hx1
               try clear c2
               try clear p2
               try clear c4
               try clear c4b0
               try clear c4b1
               try clear c5
               try clear c7
               try clear c9
               try clear c9b0
               try clear p10
               try clear q10
               try clear hx10
               try clear c12
               try clear c14
               try clear c14b0
               try clear c14b1
               try clear c16
               try clear c16b0
               try clear c17
               try clear c17b0
               try clear c18
               try clear c18b0
               try clear c19
               try clear c20
               try clear c23
               try clear c26
               try clear c26b0
               try clear c27
               try clear c29
               try clear hcz10_0
               try clear hcz10_1
               try clear hcz10_2
               try clear hcz11_0
               try clear hcz11_1
               try clear hcz11_2
               try clear hcz15_0
               try clear hcz15_1
               try clear hcz15_2
               try clear hcz24_0
               try clear hcz24_1
               try clear hcz24_2
               try clear hcz25_0
               try clear hcz25_1
               try clear hcz25_2
               try clear hcz28_0
               try clear hcz28_1
               try clear hcz28_2
               try clear hcz30_0
               try clear hcz30_1
               try clear hcz30_2
               try clear hcz5_0
               try clear hcz5_1
               try clear hcz5_2
               try clear hcz6_0
               try clear hcz6_1
               try clear hcz6_2
               try clear hfz10_0
               try clear hfz10_1
               try clear hfz10_2
               try clear hfz11_0
               try clear hfz11_1
               try clear hfz11_2
               try clear hfz15_0
               try clear hfz15_1
               try clear hfz15_2
               try clear hfz24_0
               try clear hfz24_1
               try clear hfz24_2
               try clear hfz25_0
               try clear hfz25_1
               try clear hfz25_2
               try clear hfz28_0
               try clear hfz28_1
               try clear hfz28_2
               try clear hfz30_0
               try clear hfz30_1
               try clear hfz30_2
               try clear hfz5_0
               try clear hfz5_1
               try clear hfz5_2
               try clear hfz6_0
               try clear hfz6_1
               try clear hfz6_2
               try clear hx108_0
               try clear hx108_1
               try clear hx108_2
               try clear p108
               try clear p2
               try clear q108
               obtain ⟨kq, x45_20, rfl, HA, HJ20, BK106, BK109, HB⟩ := hcut
               cases kq with
               | zero => exact absurd HA.out (by simp [inspect_Right.j3])
               | succ kj20 =>
                have H := HA.out
                clear HA
                simp only [inspect_Right.j3] at H
                by_cases c31 : x45_20 = true
                ·subst c31
                 have H1 : (some 17) = some r := by rw [if_pos rfl] at H; exact H
                 clear H
                 have H := H1
                 clear H1
                 obtain rfl := Option.some.inj H
                 go_wp2
                 go_ret
                 exact ⟨by first | rfl | (simp [errW_none, errW_some] <;> rfl) | (simp [*, errW_none, errW_some] <;> rfl), by repeat (first | (with_reducible first | exact HB.out | apply below_alloc | apply pw_below_drewN | apply below_drew1 | refine below_set ?_ GE106.out | refine below_set ?_ GE109.out) | exact HB.out)⟩
                ·replace c31 := Bool.eq_false_iff.mpr c31
                 subst c31
                 have H1 : (if ((rd_T35 l0_2 x34_3).f2) < 0 then (inspect_Right.j4 kj20 x4_3 l0_2 (l0_2.length : Int) x34_3 true l0_0 a0_1 l0_2 ((rd_T35 l0_2 x34_3).f0) ((rd_T35 l0_2 x34_3).f1) ((rd_T35 l0_2 x34_3).f2)) else (inspect_Right.j4 kj20 x4_3 l0_2 (l0_2.length : Int) x34_3 (decide (((rd_T35 l0_2 x34_3).f2) > 20000000)) l0_0 a0_1 l0_2 ((rd_T35 l0_2 x34_3).f0) ((rd_T35 l0_2 x34_3).f1) ((rd_T35 l0_2 x34_3).f2))) = some r := by rw [if_neg (show ¬ (false = true) by decide)] at H; exact H
                 clear H
                 have H := H1
                 clear H1
                 have HC32 := a_ H
                 clear H
                 go_upto_region 16 with (fail)
                 go_cut [54] (fun v54 wc => ∃ (kq : Nat) (x54_31 : Bool), v54 = .bool x54_31 ∧ Aside0 (inspect_Right.j4 kq x4_3 l0_2 (l0_2.length : Int) x34_3 x54_31 l0_0 a0_1 l0_2 ((rd_T35 l0_2 x34_3).f0) ((rd_T35 l0_2 x34_3).f1) ((rd_T35 l0_2 x34_3).f2) = some r) ∧ Aside0 (kq ≤ kj20) ∧ Aside0 (wc.heap[gb106]? = some (.cells #[(.slice A0_0 l0_0.length c0_0), .int .i64 a0_1, (.slice (some ad108) l0_2.length c0_2)] 25 (0, 0))) ∧ Aside0 (wc.heap[gb109]? = some (.cells #[.int .i64 ((rd_T35 l0_2 x34_3).f0), .int .i64 ((rd_T35 l0_2 x34_3).f1), .int .i64 ((rd_T35 l0_2 x34_3).f2)] 35 (0, 0))) ∧ Aside0 (Below w.heap.size w wc))
                 case first =>
                  have H := HC32.out
                  clear HC32
                  by_cases c33 : ((rd_T35 l0_2 x34_3).f2) < 0
                  ·rw [if_pos c33] at H
                   have c33b0 : decide (((rd_T35 l0_2 x34_3).f2) < 0) = true := decide_eq_true c33
                   clear c33
                   (first | rw [c33b0] | (simp only [i64_w, i32_w]; rw [c33b0]) | skip)
                   have H' := a_ H
                   clear H
                   have hnb34 := NB109_106.out
                   have hnc34 := NB106_109.out
                   have hcz35_0 := cz_ BK109 0
                   have hcz35_1 := cz_ BK109 1
                   have hcz35_2 := cz_ BK109 2
                   have hfz35_0 := fz_ BK109 0
                   have hfz35_1 := fz_ BK109 1
                   have hfz35_2 := fz_ BK109 2
                   go_wp2
                   go_meet
                   case rel => exact ⟨_, (true), (by first | rfl | (simp; done) | (simp [*]; done)), H', ⟨by have := HJ1.out; have := HJ7.out; have := HK3.out; have := HJ20.out; first | omega | exact Nat.le_refl _⟩, ⟨by exact BK106.out⟩, ⟨by exact BK109.out⟩, ⟨by repeat (first | (with_reducible first | exact HB.out | apply below_alloc | apply pw_below_drewN | apply below_drew1 | refine below_set ?_ GE106.out | refine below_set ?_ GE109.out) | exact HB.out)⟩⟩
                  ·rw [if_neg c33] at H
                   have c33b0 : decide (((rd_T35 l0_2 x34_3).f2) < 0) = false := decide_eq_false c33
                   clear c33
                   (first | rw [c33b0] | (simp only [i64_w, i32_w]; rw [c33b0]) | skip)
                   have H' := a_ H
                   clear H
                   have hnb36 := NB109_106.out
                   have hnc36 := NB106_109.out
                   have hcz37_0 := cz_ BK109 0
                   have hcz37_1 := cz_ BK109 1
                   have hcz37_2 := cz_ BK109 2
                   have hfz37_0 := fz_ BK109 0
                   have hfz37_1 := fz_ BK109 1
                   have hfz37_2 := fz_ BK109 2
                   go_wp2
                   go_meet
                   case rel => exact ⟨_, (decide (((rd_T35 l0_2 x34_3).f2) > 20000000)), (by first | rfl | (simp; done) | (simp [*]; done)), H', ⟨by have := HJ1.out; have := HJ7.out; have := HK3.out; have := HJ20.out; first | omega | exact Nat.le_refl _⟩, ⟨by exact BK106.out⟩, ⟨by exact BK109.out⟩, ⟨by repeat (first | (with_reducible first | exact HB.out | apply below_alloc | apply pw_below_drewN | apply below_drew1 | refine below_set ?_ GE106.out | refine below_set ?_ GE109.out) | exact HB.out)⟩⟩
                 case rest =>
                  clear HC32
                  try clear c1
                  try clear p1
                  try clear q1
                  try clear hx1
                  try clear c2
                  try clear p2
                  try clear c3
                  try clear c4
                  try clear c4b0
                  try clear c4b1
                  try clear c5
                  try clear c7
                  try clear c9
                  try clear c9b0
                  try clear p10
                  try clear q10
                  try clear hx10
                  try clear c12
                  try clear c14
                  try clear c14b0
                  try clear c14b1
                  try clear c16
                  try clear c16b0
                  try clear c17
                  try clear c17b0
                  try clear c18
                  try clear c18b0
                  try clear c19
                  try clear c20
                  try clear c23
                  try clear c26
                  try clear c26b0
                  try clear c27
                  try clear c29
                  try clear c31
                  try clear c33
                  try clear c33b0
                  try clear c34
                  try clear c36
                  try clear hcz10_0
                  try clear hcz10_1
                  try clear hcz10_2
                  try clear hcz11_0
                  try clear hcz11_1
                  try clear hcz11_2
                  try clear hcz15_0
                  try clear hcz15_1
                  try clear hcz15_2
                  try clear hcz24_0
                  try clear hcz24_1
                  try clear hcz24_2
                  try clear hcz25_0
                  try clear hcz25_1
                  try clear hcz25_2
                  try clear hcz28_0
                  try clear hcz28_1
                  try clear hcz28_2
                  try clear hcz30_0
                  try clear hcz30_1
                  try clear hcz30_2
                  try clear hcz35_0
                  try clear hcz35_1
                  try clear hcz35_2
                  try clear hcz37_0
                  try clear hcz37_1
                  try clear hcz37_2
                  try clear hcz5_0
                  try clear hcz5_1
                  try clear hcz5_2
                  try clear hcz6_0
                  try clear hcz6_1
                  try clear hcz6_2
                  try clear hfz10_0
                  try clear hfz10_1
                  try clear hfz10_2
                  try clear hfz11_0
                  try clear hfz11_1
                  try clear hfz11_2
                  try clear hfz15_0
                  try clear hfz15_1
                  try clear hfz15_2
                  try clear hfz24_0
                  try clear hfz24_1
                  try clear hfz24_2
                  try clear hfz25_0
                  try clear hfz25_1
                  try clear hfz25_2
                  try clear hfz28_0
                  try clear hfz28_1
                  try clear hfz28_2
                  try clear hfz30_0
                  try clear hfz30_1
                  try clear hfz30_2
                  try clear hfz35_0
                  try clear hfz35_1
                  try clear hfz35_2
                  try clear hfz37_0
                  try clear hfz37_1
                  try clear hfz37_2
                  try clear hfz5_0
                  try clear hfz5_1
                  try clear hfz5_2
                  try clear hfz6_0
                  try clear hfz6_1
                  try clear hfz6_2
                  try clear hx108_0
                  try clear hx108_1
                  try clear hx108_2
                  try clear p1
                  try clear p10
                  try clear p108
                  try clear p2
                  try clear q1
                  try clear q10
                  try clear q108
                  obtain ⟨kq, x54_31, rfl, HA, HJ31, BK106, BK109, HB⟩ := hcut
                  cases kq with
                  | zero => exact absurd HA.out (by simp [inspect_Right.j4])
                  | succ kj31 =>
                   have H := HA.out
                   clear HA
                   simp only [inspect_Right.j4] at H
                   by_cases c38 : x54_31 = true
                   ·subst c38
                    have H1 : (some 2) = some r := by rw [if_pos rfl] at H; exact H
                    clear H
                    have H := H1
                    clear H1
                    obtain rfl := Option.some.inj H
                    go_wp2
                    go_ret
                    exact ⟨by first | rfl | (simp [errW_none, errW_some] <;> rfl) | (simp [*, errW_none, errW_some] <;> rfl), by repeat (first | (with_reducible first | exact HB.out | apply below_alloc | apply pw_below_drewN | apply below_drew1 | refine below_set ?_ GE106.out | refine below_set ?_ GE109.out) | exact HB.out)⟩
                   ·replace c38 := Bool.eq_false_iff.mpr c38
                    subst c38
                    have H1 : (if ((rd_T35 l0_2 x34_3).f2) < x4_3 then (some 11) else (inspect_Right.l0 kj31 ((rd_T35 l0_2 x34_3).f2) l0_2 (l0_2.length : Int) (wrap64 (x34_3 + 1)) l0_0 a0_1 l0_2)) = some r := by rw [if_neg (show ¬ (false = true) by decide)] at H; exact H
                    clear H
                    have H := H1
                    clear H1
                    by_cases c39 : ((rd_T35 l0_2 x34_3).f2) < x4_3
                    ·rw [if_pos c39] at H
                     have c39b0 : decide (((rd_T35 l0_2 x34_3).f2) < x4_3) = true := decide_eq_true c39
                     clear c39
                     obtain rfl := Option.some.inj H
                     have hnb40 := NB109_106.out
                     have hnc40 := NB106_109.out
                     have hcz41_0 := cz_ BK109 0
                     have hcz41_1 := cz_ BK109 1
                     have hcz41_2 := cz_ BK109 2
                     have hfz41_0 := fz_ BK109 0
                     have hfz41_1 := fz_ BK109 1
                     have hfz41_2 := fz_ BK109 2
                     go_wp2
                     go_ret
                     exact ⟨by first | rfl | (simp [errW_none, errW_some] <;> rfl) | (simp [*, errW_none, errW_some] <;> rfl), by repeat (first | (with_reducible first | exact HB.out | apply below_alloc | apply pw_below_drewN | apply below_drew1 | refine below_set ?_ GE106.out | refine below_set ?_ GE109.out) | exact HB.out)⟩
                    ·rw [if_neg c39] at H
                     have c39b0 : decide (((rd_T35 l0_2 x34_3).f2) < x4_3) = false := decide_eq_false c39
                     clear c39
                     have H' := a_ H
                     clear H
                     have hnb42 := NB109_106.out
                     have hnc42 := NB106_109.out
                     have hcz43_0 := cz_ BK109 0
                     have hcz43_1 := cz_ BK109 1
                     have hcz43_2 := cz_ BK109 2
                     have hfz43_0 := fz_ BK109 0
                     have hfz43_1 := fz_ BK109 1
                     have hfz43_2 := fz_ BK109 2
                     go_wp2
                     go_roundg kj31
                     case measure => have := HJ1.out; have := HJ7.out; have := HK3.out; have := HJ20.out; have := HJ31.out; omega
                     case rel => exact ⟨(((rd_T35 l0_2 x34_3).f2)), (wrap64 (x34_3 + 1)), (by first | rfl | (simp; done) | (simp [*]; done)), (by first | rfl | (simp; done) | (simp [*]; done)), H', ⟨by have := HJ1.out; have := HJ7.out; have := HK3.out; have := HJ20.out; have := HJ31.out; omega⟩, ⟨by exact BK106.out⟩, ⟨by repeat (first | (with_reducible first | exact HB.out | apply below_alloc | apply pw_below_drewN | apply below_drew1 | refine below_set ?_ GE106.out | refine below_set ?_ GE109.out) | exact HB.out)⟩⟩
             ·replace c20 := Bool.eq_false_iff.mpr c20
              subst c20
              have H1 : (some 8) = some r := by rw [if_neg (show ¬ (false = true) by decide)] at H; exact H
              clear H
              have H := H1
              clear H1
              obtain rfl := Option.some.inj H
              have p108 : 0 ≤ (x34_3 : Int) := od_
              have q108 : x34_3 < (l0_2.length : Int) := od_
              obtain ⟨ad108, e108, hx108_0, hx108_1, hx108_2⟩ := at_T35 HR0_2.out x34_3 p108 q108
              cases e108
              replace hx108_0 := pc_ hx108_0
              replace hx108_1 := pc_ hx108_1
              replace hx108_2 := pc_ hx108_2
              replace p108 := eq_true p108
              replace q108 := eq_true q108
              go_wp2_with (first | ((with_reducible refine gate_dst (N := 6) rfl ?_); (try (refine gate_guard (by rfl) ?_; dsimp only)); refine box_event ?hg (N := 6) ?hd (cs := #[.int .i64 0, .int .i64 0, .int .i64 0]) (t := 35) ?hr ?_; (case hd => rfl); (case hg => rfl); (case hr => first | (go_simp; done) | (go_simp; rfl)); intro gb109 hg w44 hbox hb; have n0_ := a_ (blk_below (bk_ BK106.out) hb); have n1_ := a_ (below_step bel_ hb); have n2_ := a_ (hbox); have n3_ := a_ (bz_ hg : w.heap.size ≤ gb109); have n4_ := a_ (bz_ hg : w.heap.size ≤ gb109); have n5_ := a_ (nl_ hg (bk_ BK106.out)); have n6_ := a_ (ng_ hg (bk_ BK106.out)); clear BK106; clear HB; have BK106 := n0_; have HB := n1_; have BK109 := n2_; have GW109 := n3_; have GE109 := n4_; have NB106_109 := n5_; have NB109_106 := n6_; clear n0_ n1_ n2_ n3_ n4_ n5_ n6_; clear hb hbox hg; have hnb45 := NB109_106.out; have hnc45 := NB106_109.out; have hcz46_0 := cz_ BK109 0; have hcz46_1 := cz_ BK109 1; have hcz46_2 := cz_ BK109 2; have hfz46_0 := fz_ BK109 0; have hfz46_1 := fz_ BK109 1; have hfz46_2 := fz_ BK109 2; have hcz47_0 := cz_ BK106 0; have hcz47_1 := cz_ BK106 1; have hcz47_2 := cz_ BK106 2; have hfz47_0 := fz_ BK106 0; have hfz47_1 := fz_ BK106 1; have hfz47_2 := fz_ BK106 2) | ((with_reducible refine gate_callee (f := 55) rfl ?_); refine gs_ (some 43) Try.func55 #[.slice A0_0 l0_0.length c0_0, .int .i64 ((rd_T35 l0_2 x34_3).f0)] ?_; (with_reducible refine (slices_Contains_int_int.calls k3 _ _ l0_0 ((rd_T35 l0_2 x34_3).f0) false _ ?side1 ?side2 A19.out).mono ?_); (case side1 => exact Kd.C_below HR0_0.out bel_); (case side2 => exact HC0_0.out); rintro e w' ⟨rfl, ⟨nd, rfl⟩⟩; refine ⟨_, rfl, ?_⟩))
              go_ret
              exact ⟨by first | rfl | (simp [errW_none, errW_some] <;> rfl) | (simp [*, errW_none, errW_some] <;> rfl), by repeat (first | (with_reducible first | exact HB.out | apply below_alloc | apply pw_below_drewN | apply below_drew1 | refine below_set ?_ GE106.out | refine below_set ?_ GE109.out) | exact HB.out)⟩
            ·rw [if_neg c18] at H
             exact absurd H (by simp)
           ·rw [if_neg c17] at H
            exact absurd H (by simp)
          ·rw [if_neg c16] at H
           have c16b0 : decide (x34_3 < (l0_2.length : Int)) = false := decide_eq_false c16
           clear c16
           obtain rfl := Option.some.inj H
           go_wp2
           go_ret
           exact ⟨by first | rfl | (simp [errW_none, errW_some] <;> rfl) | (simp [*, errW_none, errW_some] <;> rfl), by repeat (first | (with_reducible first | exact HB.out | apply below_alloc | apply pw_below_drewN | apply below_drew1 | refine below_set ?_ GE106.out) | exact HB.out)⟩
       ·rw [if_neg c14] at H
        have c14b0 : (t107 == 0) = false := beq_eq_false_iff_ne.mpr c14
        have c14b1 : (t107 != 0) = true := bne_iff_ne.mpr c14
        obtain rfl := Option.some.inj H
        have hcz48_0 := cz_ BK106 0
        have hcz48_1 := cz_ BK106 1
        have hcz48_2 := cz_ BK106 2
        have hfz48_0 := fz_ BK106 0
        have hfz48_1 := fz_ BK106 1
        have hfz48_2 := fz_ BK106 2
        go_wp2_with (first | ((with_reducible refine gate_callee (f := 54) rfl ?_); refine gs_ (some 27) Try.func54 #[.slice A0_0 l0_0.length c0_0] ?_; (with_reducible refine (inspect_items.calls kj7 _ _ l0_0 t107 _ ?side1 ?side2 A13.out).mono ?_); (case side1 => exact kC_ (Kd.C_below HR0_0.out HB.out)); (case side2 => exact HC0_0.out); rintro e w' ⟨rfl, ⟨nd, rfl⟩⟩; refine ⟨_, rfl, ?_⟩))
        go_ret
        exact ⟨by first | rfl | (simp [errW_none, errW_some] <;> rfl) | (simp [*, errW_none, errW_some] <;> rfl), by repeat (first | (with_reducible first | exact HB.out | apply below_alloc | apply pw_below_drewN | apply below_drew1 | refine below_set ?_ GE106.out) | exact HB.out)⟩

end Go.Proofs.Ytmhggplhfcmgkaa.Q
