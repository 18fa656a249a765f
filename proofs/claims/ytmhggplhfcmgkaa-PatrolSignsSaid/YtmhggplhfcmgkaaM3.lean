/- Walks and plain laws that this claim bears (this session's). -/
import Derived.Test.YtmhggplhfcmgkaaM1
namespace Go.Proofs.Ytmhggplhfcmgkaa.Q
open Go.RowKit Go.Proofs.YtmhggplhfcmgkaaW.PrintWords Go.Proofs.YtmhggplhfcmgkaaW.PrintLast Go.Proofs.YtmhggplhfcmgkaaW.PrintMore
attribute [local go_sem] max2_int min2_int max_two min_two max_three min_three max_four min_four   -- for this text's walks alone
set_option linter.unusedVariables false
set_option linter.unusedSimpArgs false
mutual
def patrol_Right.j0 : Nat → Bool → List (S63) → List (S56) → Option (Int)
 | 0, _, _, _ => none
 | k + 1, x17, x388000, x388001 => if x17 = true then (some 4) else (patrol_Right.l0 k x388000 (x388000.length : Int) 0 x388000 x388001)
def patrol_Right.l0 : Nat → List (S63) → Int → Int → List (S63) → List (S56) → Option (Int)
 | 0, _, _, _, _, _ => none
 | k + 1, x19, x20, x21, x388000, x388001 => if x21 < x20 then (if 0 ≤ x21 then (if x21 < (x19.length : Int) then ((patrol_within.f ((rd_T63 x19 x21).f0) 1 9999).bind fun t390 => (if t390 = true then (if x21 > 0 then (if 0 ≤ (wrap64 (x21 - 1)) then (if (wrap64 (x21 - 1)) < (x388000.length : Int) then (patrol_Right.j2 k x19 x20 x21 (decide (((rd_T63 x19 x21).f0) ≤ ((rd_T63 x388000 (wrap64 (x21 - 1))).f0))) x388000 x388001 ((rd_T63 x19 x21).f0) ((rd_T63 x19 x21).f1.f0) ((rd_T63 x19 x21).f1.f1) ((rd_T63 x19 x21).f1.f2)) else (none)) else (none)) else (patrol_Right.j2 k x19 x20 x21 false x388000 x388001 ((rd_T63 x19 x21).f0) ((rd_T63 x19 x21).f1.f0) ((rd_T63 x19 x21).f1.f1) ((rd_T63 x19 x21).f1.f2))) else (some 2))) else (none)) else (none)) else (patrol_Right.l1 k x388001 (x388001.length : Int) 0 x388000 x388001)
def patrol_Right.j2 : Nat → List (S63) → Int → Int → Bool → List (S63) → List (S56) → Int → List Int → Int → List (S35) → Option (Int)
 | 0, _, _, _, _, _, _, _, _, _, _ => none
 | k + 1, x19, x20, x21, x43, x388000, x388001, x390000, x390001, x390002, x390003 => if x43 = true then (some 11) else ((inspect_Right.f k x390001 x390002 x390003).bind fun t392 => (if t392 = 0 then (patrol_Right.l0 k x19 x20 (wrap64 (x21 + 1)) x388000 x388001) else (some t392)))
def patrol_Right.l1 : Nat → List (S56) → Int → Int → List (S63) → List (S56) → Option (Int)
 | 0, _, _, _, _, _ => none
 | k + 1, x52, x53, x54, x388000, x388001 => if x54 < x53 then (if 0 ≤ x54 then (if x54 < (x52.length : Int) then ((patrol_within.f ((rd_T56 x52 x54).f0) 1 9999).bind fun t395 => (if t395 = true then ((patrol_within.f ((rd_T56 x52 x54).f2) 0 20000000).bind fun t396 => (patrol_Right.j4 k x54 x52 x53 x54 (!t396) x388000 x388001 ((rd_T56 x52 x54).f0) ((rd_T56 x52 x54).f1) ((rd_T56 x52 x54).f2))) else (patrol_Right.j4 k x54 x52 x53 x54 true x388000 x388001 ((rd_T56 x52 x54).f0) ((rd_T56 x52 x54).f1) ((rd_T56 x52 x54).f2)))) else (none)) else (none)) else (some 0)
def patrol_Right.j4 : Nat → Int → List (S56) → Int → Int → Bool → List (S63) → List (S56) → Int → Int → Int → Option (Int)
 | 0, _, _, _, _, _, _, _, _, _, _ => none
 | k + 1, x6, x52, x53, x54, x59, x388000, x388001, x395000, x395001, x395002 => if x59 = true then (some 2) else (if 0 ≤ x6 then (if x6 ≤ (x388001.length : Int) then ((patrol_hazard.f (x388001.take (x6 : Int).toNat) x395000).bind fun t401 => (if t401 ≥ 0 then (some 7) else ((patrol_list.f x388000 x395001).bind fun t402 => (if t402 < 0 then (some 8) else (patrol_Right.l1 k x52 x53 (wrap64 (x54 + 1)) x388000 x388001))))) else (none)) else (none))
end
def patrol_Right.f (k : Nat) (l0_0 : List (S63)) (l0_1 : List (S56)) : Option (Int) := if (l0_0.length : Int) > 64 then (patrol_Right.j0 k true l0_0 l0_1) else (patrol_Right.j0 k (decide ((l0_1.length : Int) > 200)) l0_0 l0_1)
theorem patrol_Right.mono_l : ∀ k, (∀ y0 y1 y2, LeO (patrol_Right.j0 k y0 y1 y2) (patrol_Right.j0 (k + 1) y0 y1 y2)) ∧ (∀ y0 y1 y2 y3 y4, LeO (patrol_Right.l0 k y0 y1 y2 y3 y4) (patrol_Right.l0 (k + 1) y0 y1 y2 y3 y4)) ∧ (∀ y0 y1 y2 y3 y4 y5 y6 y7 y8 y9, LeO (patrol_Right.j2 k y0 y1 y2 y3 y4 y5 y6 y7 y8 y9) (patrol_Right.j2 (k + 1) y0 y1 y2 y3 y4 y5 y6 y7 y8 y9)) ∧ (∀ y0 y1 y2 y3 y4, LeO (patrol_Right.l1 k y0 y1 y2 y3 y4) (patrol_Right.l1 (k + 1) y0 y1 y2 y3 y4)) ∧ (∀ y0 y1 y2 y3 y4 y5 y6 y7 y8 y9, LeO (patrol_Right.j4 k y0 y1 y2 y3 y4 y5 y6 y7 y8 y9) (patrol_Right.j4 (k + 1) y0 y1 y2 y3 y4 y5 y6 y7 y8 y9))
 | 0 => ⟨fun _ _ _ r h => by simp [patrol_Right.j0] at h, fun _ _ _ _ _ r h => by simp [patrol_Right.l0] at h, fun _ _ _ _ _ _ _ _ _ _ r h => by simp [patrol_Right.j2] at h, fun _ _ _ _ _ r h => by simp [patrol_Right.l1] at h, fun _ _ _ _ _ _ _ _ _ _ r h => by simp [patrol_Right.j4] at h⟩
 | k + 1 => by
  obtain ⟨ih0, ih1, ih2, ih3, ih4⟩ := patrol_Right.mono_l k
  refine ⟨?_, ?_, ?_, ?_, ?_⟩
  ·intro y0 y1 y2
   unfold patrol_Right.j0
   repeat' first
   | (with_reducible exact ih0 _ _ _)
   | (with_reducible exact ih1 _ _ _ _ _)
   | (with_reducible exact ih2 _ _ _ _ _ _ _ _ _ _)
   | (with_reducible exact ih3 _ _ _ _ _)
   | (with_reducible exact ih4 _ _ _ _ _ _ _ _ _ _)
   | (with_reducible exact inspect_Right.mono _ _ _ _)
   | (with_reducible exact LeO.refl _)
   | (with_reducible exact LeO.none _)
   | (with_reducible refine LeO.ite ?_ ?_)
   | (with_reducible refine LeO.bind ?_ (fun _ => ?_))
   | exact ih0 _ _ _
   | exact ih1 _ _ _ _ _
   | exact ih2 _ _ _ _ _ _ _ _ _ _
   | exact ih3 _ _ _ _ _
   | exact ih4 _ _ _ _ _ _ _ _ _ _
   | exact inspect_Right.mono _ _ _ _
   | exact LeO.none _
   | refine LeO.ite ?_ ?_
   | refine LeO.bind ?_ (fun _ => ?_)
  ·intro y0 y1 y2 y3 y4
   unfold patrol_Right.l0
   repeat' first
   | (with_reducible exact ih0 _ _ _)
   | (with_reducible exact ih1 _ _ _ _ _)
   | (with_reducible exact ih2 _ _ _ _ _ _ _ _ _ _)
   | (with_reducible exact ih3 _ _ _ _ _)
   | (with_reducible exact ih4 _ _ _ _ _ _ _ _ _ _)
   | (with_reducible exact inspect_Right.mono _ _ _ _)
   | (with_reducible exact LeO.refl _)
   | (with_reducible exact LeO.none _)
   | (with_reducible refine LeO.ite ?_ ?_)
   | (with_reducible refine LeO.bind ?_ (fun _ => ?_))
   | exact ih0 _ _ _
   | exact ih1 _ _ _ _ _
   | exact ih2 _ _ _ _ _ _ _ _ _ _
   | exact ih3 _ _ _ _ _
   | exact ih4 _ _ _ _ _ _ _ _ _ _
   | exact inspect_Right.mono _ _ _ _
   | exact LeO.none _
   | refine LeO.ite ?_ ?_
   | refine LeO.bind ?_ (fun _ => ?_)
  ·intro y0 y1 y2 y3 y4 y5 y6 y7 y8 y9
   unfold patrol_Right.j2
   repeat' first
   | (with_reducible exact ih0 _ _ _)
   | (with_reducible exact ih1 _ _ _ _ _)
   | (with_reducible exact ih2 _ _ _ _ _ _ _ _ _ _)
   | (with_reducible exact ih3 _ _ _ _ _)
   | (with_reducible exact ih4 _ _ _ _ _ _ _ _ _ _)
   | (with_reducible exact inspect_Right.mono _ _ _ _)
   | (with_reducible exact LeO.refl _)
   | (with_reducible exact LeO.none _)
   | (with_reducible refine LeO.ite ?_ ?_)
   | (with_reducible refine LeO.bind ?_ (fun _ => ?_))
   | exact ih0 _ _ _
   | exact ih1 _ _ _ _ _
   | exact ih2 _ _ _ _ _ _ _ _ _ _
   | exact ih3 _ _ _ _ _
   | exact ih4 _ _ _ _ _ _ _ _ _ _
   | exact inspect_Right.mono _ _ _ _
   | exact LeO.none _
   | refine LeO.ite ?_ ?_
   | refine LeO.bind ?_ (fun _ => ?_)
  ·intro y0 y1 y2 y3 y4
   unfold patrol_Right.l1
   repeat' first
   | (with_reducible exact ih0 _ _ _)
   | (with_reducible exact ih1 _ _ _ _ _)
   | (with_reducible exact ih2 _ _ _ _ _ _ _ _ _ _)
   | (with_reducible exact ih3 _ _ _ _ _)
   | (with_reducible exact ih4 _ _ _ _ _ _ _ _ _ _)
   | (with_reducible exact inspect_Right.mono _ _ _ _)
   | (with_reducible exact LeO.refl _)
   | (with_reducible exact LeO.none _)
   | (with_reducible refine LeO.ite ?_ ?_)
   | (with_reducible refine LeO.bind ?_ (fun _ => ?_))
   | exact ih0 _ _ _
   | exact ih1 _ _ _ _ _
   | exact ih2 _ _ _ _ _ _ _ _ _ _
   | exact ih3 _ _ _ _ _
   | exact ih4 _ _ _ _ _ _ _ _ _ _
   | exact inspect_Right.mono _ _ _ _
   | exact LeO.none _
   | refine LeO.ite ?_ ?_
   | refine LeO.bind ?_ (fun _ => ?_)
  ·intro y0 y1 y2 y3 y4 y5 y6 y7 y8 y9
   unfold patrol_Right.j4
   repeat' first
   | (with_reducible exact ih0 _ _ _)
   | (with_reducible exact ih1 _ _ _ _ _)
   | (with_reducible exact ih2 _ _ _ _ _ _ _ _ _ _)
   | (with_reducible exact ih3 _ _ _ _ _)
   | (with_reducible exact ih4 _ _ _ _ _ _ _ _ _ _)
   | (with_reducible exact inspect_Right.mono _ _ _ _)
   | (with_reducible exact LeO.refl _)
   | (with_reducible exact LeO.none _)
   | (with_reducible refine LeO.ite ?_ ?_)
   | (with_reducible refine LeO.bind ?_ (fun _ => ?_))
   | exact ih0 _ _ _
   | exact ih1 _ _ _ _ _
   | exact ih2 _ _ _ _ _ _ _ _ _ _
   | exact ih3 _ _ _ _ _
   | exact ih4 _ _ _ _ _ _ _ _ _ _
   | exact inspect_Right.mono _ _ _ _
   | exact LeO.none _
   | refine LeO.ite ?_ ?_
   | refine LeO.bind ?_ (fun _ => ?_)
theorem patrol_Right.mono : ∀ a0 a1 k, LeO (patrol_Right.f k a0 a1) (patrol_Right.f (k + 1) a0 a1) := by
 intro a0 a1 k
 obtain ⟨ih0, ih1, ih2, ih3, ih4⟩ := patrol_Right.mono_l k
 unfold patrol_Right.f
 repeat' first
   | (with_reducible exact ih0 _ _ _)
   | (with_reducible exact ih1 _ _ _ _ _)
   | (with_reducible exact ih2 _ _ _ _ _ _ _ _ _ _)
   | (with_reducible exact ih3 _ _ _ _ _)
   | (with_reducible exact ih4 _ _ _ _ _ _ _ _ _ _)
   | (with_reducible exact inspect_Right.mono _ _ _ _)
   | (with_reducible exact LeO.refl _)
   | (with_reducible exact LeO.none _)
   | (with_reducible refine LeO.ite ?_ ?_)
   | (with_reducible refine LeO.bind ?_ (fun _ => ?_))
   | exact ih0 _ _ _
   | exact ih1 _ _ _ _ _
   | exact ih2 _ _ _ _ _ _ _ _ _ _
   | exact ih3 _ _ _ _ _
   | exact ih4 _ _ _ _ _ _ _ _ _ _
   | exact inspect_Right.mono _ _ _ _
   | exact LeO.none _
   | refine LeO.ite ?_ ?_
   | refine LeO.bind ?_ (fun _ => ?_)
def patrol_Right.T8 : Bool × List (List Nat × List Nat) := (true, [([], []), ([0], [0]), ([1], [1]), ([2], [2]), ([3, 2], [2, 3]), ([2], [2]), ([5, 2], [2, 5]), ([2], [2]), ([7, 2], [2, 7]), ([6, 8, 2], [2, 6, 8]), ([9, 2], [2, 9]), ([10, 2], [2, 10]), ([4, 11, 2], [2, 4, 11]), ([2, 12], [2, 12])])
def patrol_Right.B8 : List Nat := [0, 1, 3, 7, 15, 7, 39, 7, 135, 487, 999, 2023, 4095, 8191]
theorem patrol_Right.tab8 : rtab .any (opsOf Try.f36 8) = patrol_Right.T8 := by kernel_rfl
theorem patrol_Right.bits8 : waitsOk patrol_Right.T8.2 patrol_Right.B8 = true := by kernel_rfl
def patrol_Right.T19 : Bool × List (List Nat × List Nat) := (true, [([], []), ([0], [0]), ([], []), ([1, 2], [1, 2]), ([], []), ([4], [4]), ([3, 5], [3, 5]), ([6], [6]), ([7, 6], [7])])
def patrol_Right.B19 : List Nat := [0, 1, 0, 7, 0, 16, 63, 127, 255]
theorem patrol_Right.tab19 : rtab .any (opsOf Try.f36 19) = patrol_Right.T19 := by kernel_rfl
theorem patrol_Right.bits19 : waitsOk patrol_Right.T19.2 patrol_Right.B19 = true := by kernel_rfl
set_option maxHeartbeats 8000000 in
set_option maxRecDepth 100000 in
theorem patrol_Right.calls (k : Nat) (A0_0 : Option Addr) (c0_0 : Nat) (l0_0 : List (S63)) (A0_1 : Option Addr) (c0_1 : Nat) (l0_1 : List (S56)) (r : Int) (w : World) (hr0_0 : Kd.C k63 w A0_0 l0_0.length l0_0) (hc0_0 : l0_0.length ≤ c0_0) (hr0_1 : Kd.C k56 w A0_1 l0_1.length l0_1) (hc0_1 : l0_1.length ≤ c0_1) (h : patrol_Right.f k l0_0 l0_1 = some r) :
  Calls Try.prog 36 #[.agg #[.slice A0_0 l0_0.length c0_0, .slice A0_1 l0_1.length c0_1]] w fun e w' => e = .returned (.int .i64 r) ∧ Below w.heap.size w w' := by
 have hu48 := Try.underlying48
 have hu63 := Try.underlying63
 have hu25 := Try.underlying25
 have hu56 := Try.underlying56
 have HR0_0 := a_ hr0_0
 have HC0_0 := a_ hc0_0
 clear hr0_0 hc0_0
 have HR0_1 := a_ hr0_1
 have HC0_1 := a_ hc0_1
 clear hr0_1 hc0_1
 have HB := a_ (Below.refl w.heap.size w)
 have H : (if (l0_0.length : Int) > 64 then (patrol_Right.j0 k true l0_0 l0_1) else (patrol_Right.j0 k (decide ((l0_1.length : Int) > 200)) l0_0 l0_1)) = some r := h
 clear h
 have HC2 := a_ H
 clear H
 go_enter Try.func36, Try.ntmps36
 go_upto_region 1 with (first | ((with_reducible refine gate_dst (N := 1) rfl ?_); (try (refine gate_guard (by rfl) ?_; dsimp only)); refine box_event ?hg (N := 1) ?hd (cs := #[.slice A0_0 l0_0.length c0_0, .slice A0_1 l0_1.length c0_1]) (t := 48) ?hr ?_; (case hd => rfl); (case hg => rfl); (case hr => first | (go_simp; done) | (go_simp; rfl)); intro gb387 hg w3 hbox hb; have n0_ := a_ (below_step bel_ hb); have n1_ := a_ (hbox); have n2_ := a_ (bz_ hg : w.heap.size ≤ gb387); have n3_ := a_ (bz_ hg : w.heap.size ≤ gb387); clear HB; have HB := n0_; have BK387 := n1_; have GW387 := n2_; have GE387 := n3_; clear n0_ n1_ n2_ n3_; clear hb hbox hg))
 (try simp only [Act.put, List.setIfInBounds_toArray, List.set_cons_zero, List.set_cons_succ])
 go_cut [17] (fun v17 wc => ∃ (kq : Nat) (x17_1 : Bool), v17 = .bool x17_1 ∧ Aside0 (patrol_Right.j0 kq x17_1 l0_0 l0_1 = some r) ∧ Aside0 (kq ≤ k) ∧ Aside0 (wc.heap[gb387]? = some (.cells #[(.slice A0_0 l0_0.length c0_0), (.slice A0_1 l0_1.length c0_1)] 48 (0, 0))) ∧ Aside0 (Below w.heap.size w wc))
 case first =>
  have H := HC2.out
  clear HC2
  by_cases c4 : (l0_0.length : Int) > 64
  ·rw [if_pos c4] at H
   have c4b0 : decide (64 < (l0_0.length : Int)) = true := decide_eq_true c4
   have c4b1 : decide (64 < l0_0.length) = true := decide_eq_true (by omega)
   clear c4
   (first | rw [c4b0] | (simp only [i64_w, i32_w]; rw [c4b0]) | skip)
   have H' := a_ H
   clear H
   have hcz5_0 := cz_ BK387 0
   have hcz5_1 := cz_ BK387 1
   have hfz5_0 := fz_ BK387 0
   have hfz5_1 := fz_ BK387 1
   go_wp2
   go_meet
   case rel => exact ⟨_, (true), (by first | rfl | (simp; done) | (simp [*]; done)), H', ⟨by first | omega | exact Nat.le_refl _⟩, ⟨by exact BK387.out⟩, ⟨by repeat (first | (with_reducible first | exact HB.out | apply below_alloc | apply pw_below_drewN | apply below_drew1 | refine below_set ?_ GE387.out) | exact HB.out)⟩⟩
  ·rw [if_neg c4] at H
   have c4b0 : decide (64 < (l0_0.length : Int)) = false := decide_eq_false c4
   have c4b1 : decide (64 < l0_0.length) = false := decide_eq_false (by omega)
   clear c4
   (first | rw [c4b0] | (simp only [i64_w, i32_w]; rw [c4b0]) | skip)
   have H' := a_ H
   clear H
   have hcz6_0 := cz_ BK387 0
   have hcz6_1 := cz_ BK387 1
   have hfz6_0 := fz_ BK387 0
   have hfz6_1 := fz_ BK387 1
   go_wp2
   go_meet
   case rel => exact ⟨_, (decide ((l0_1.length : Int) > 200)), (by first | rfl | (simp; done) | (simp [*]; done)), H', ⟨by first | omega | exact Nat.le_refl _⟩, ⟨by exact BK387.out⟩, ⟨by repeat (first | (with_reducible first | exact HB.out | apply below_alloc | apply pw_below_drewN | apply below_drew1 | refine below_set ?_ GE387.out) | exact HB.out)⟩⟩
 case rest =>
  clear HC2
  try clear p2
  try clear c3
  try clear c4
  try clear c4b0
  try clear c4b1
  try clear hcz5_0
  try clear hcz5_1
  try clear hcz6_0
  try clear hcz6_1
  try clear hfz5_0
  try clear hfz5_1
  try clear hfz6_0
  try clear hfz6_1
  obtain ⟨kq, x17_1, rfl, HA, HJ1, BK387, HB⟩ := hcut
  cases kq with
  | zero => exact absurd HA.out (by simp [patrol_Right.j0])
  | succ kj1 =>
   have H := HA.out
   clear HA
   simp only [patrol_Right.j0] at H
   by_cases c7 : x17_1 = true
   ·subst c7
    have H1 : (some 4) = some r := by rw [if_pos rfl] at H; exact H
    clear H
    have H := H1
    clear H1
    obtain rfl := Option.some.inj H
    go_wp2
    go_ret
    exact ⟨by first | rfl | (simp [errW_none, errW_some] <;> rfl) | (simp [*, errW_none, errW_some] <;> rfl), by repeat (first | (with_reducible first | exact HB.out | apply below_alloc | apply pw_below_drewN | apply below_drew1 | refine below_set ?_ GE387.out) | exact HB.out)⟩
   ·replace c7 := Bool.eq_false_iff.mpr c7
    subst c7
    have H1 : (patrol_Right.l0 kj1 l0_0 (l0_0.length : Int) 0 l0_0 l0_1) = some r := by rw [if_neg (show ¬ (false = true) by decide)] at H; exact H
    clear H
    have H := H1
    clear H1
    have H' := a_ H
    clear H
    have hcz8_0 := cz_ BK387 0
    have hcz8_1 := cz_ BK387 1
    have hfz8_0 := fz_ BK387 0
    have hfz8_1 := fz_ BK387 1
    go_wp2
    go_loopg [21] kj1 (fun kq v21 w' => ∃ (x21_2 : Int), v21 = .int .i64 x21_2 ∧ Aside0 (patrol_Right.l0 kq l0_0 (l0_0.length : Int) x21_2 l0_0 l0_1 = some r) ∧ Aside0 (kq ≤ kj1) ∧ Aside0 (w'.heap[gb387]? = some (.cells #[(.slice A0_0 l0_0.length c0_0), (.slice A0_1 l0_1.length c0_1)] 48 (0, 0))) ∧ Aside0 (Below w.heap.size w w'))
    case atStart => exact ⟨(0), (by first | rfl | (simp; done) | (simp [*]; done)), H', ⟨Nat.le_refl _⟩, ⟨by exact BK387.out⟩, ⟨by repeat (first | (with_reducible first | exact HB.out | apply below_alloc | apply pw_below_drewN | apply below_drew1 | refine below_set ?_ GE387.out) | exact HB.out)⟩⟩
    case round =>
     clear H'
     try clear p2
     try clear c3
     try clear c4
     try clear c4b0
     try clear c4b1
     try clear c7
     try clear hcz5_0
     try clear hcz5_1
     try clear hcz6_0
     try clear hcz6_1
     try clear hcz8_0
     try clear hcz8_1
     try clear hfz5_0
     try clear hfz5_1
     try clear hfz6_0
     try clear hfz6_1
     try clear hfz8_0
     try clear hfz8_1
     try clear p2
     obtain ⟨x21_2, rfl, HA, HK2, BK387, HB⟩ := hrel
     cases gk with
     | zero => exact absurd HA.out (by simp [patrol_Right.l0])
     | succ k2 =>
      have H := HA.out
      clear HA
      simp only [patrol_Right.l0] at H
      by_cases c9 : x21_2 < (l0_0.length : Int)
      ·rw [if_pos c9] at H
       have c9b0 : decide (x21_2 < (l0_0.length : Int)) = true := decide_eq_true c9
       clear c9
       by_cases c10 : 0 ≤ x21_2
       ·rw [if_pos c10] at H
        have c10b0 : decide (0 ≤ x21_2) = true := decide_eq_true c10
        clear c10
        by_cases c11 : x21_2 < (l0_0.length : Int)
        ·rw [if_pos c11] at H
         have c11b0 : decide (x21_2 < (l0_0.length : Int)) = true := decide_eq_true c11
         clear c11
         replace H := Option.bind_eq_some_iff.mp H
         obtain ⟨t390, A120, H⟩ := H
         replace H : (if t390 = true then (if x21_2 > 0 then (if 0 ≤ (wrap64 (x21_2 - 1)) then (if (wrap64 (x21_2 - 1)) < (l0_0.length : Int) then (patrol_Right.j2 k2 l0_0 (l0_0.length : Int) x21_2 (decide (((rd_T63 l0_0 x21_2).f0) ≤ ((rd_T63 l0_0 (wrap64 (x21_2 - 1))).f0))) l0_0 l0_1 ((rd_T63 l0_0 x21_2).f0) ((rd_T63 l0_0 x21_2).f1.f0) ((rd_T63 l0_0 x21_2).f1.f1) ((rd_T63 l0_0 x21_2).f1.f2)) else (none)) else (none)) else (patrol_Right.j2 k2 l0_0 (l0_0.length : Int) x21_2 false l0_0 l0_1 ((rd_T63 l0_0 x21_2).f0) ((rd_T63 l0_0 x21_2).f1.f0) ((rd_T63 l0_0 x21_2).f1.f1) ((rd_T63 l0_0 x21_2).f1.f2))) else (some 2)) = some r := H
         have A12 := a_ A120
         clear A120
         by_cases c13 : t390 = true
         ·subst c13
          have H1 : (if x21_2 > 0 then (if 0 ≤ (wrap64 (x21_2 - 1)) then (if (wrap64 (x21_2 - 1)) < (l0_0.length : Int) then (patrol_Right.j2 k2 l0_0 (l0_0.length : Int) x21_2 (decide (((rd_T63 l0_0 x21_2).f0) ≤ ((rd_T63 l0_0 (wrap64 (x21_2 - 1))).f0))) l0_0 l0_1 ((rd_T63 l0_0 x21_2).f0) ((rd_T63 l0_0 x21_2).f1.f0) ((rd_T63 l0_0 x21_2).f1.f1) ((rd_T63 l0_0 x21_2).f1.f2)) else (none)) else (none)) else (patrol_Right.j2 k2 l0_0 (l0_0.length : Int) x21_2 false l0_0 l0_1 ((rd_T63 l0_0 x21_2).f0) ((rd_T63 l0_0 x21_2).f1.f0) ((rd_T63 l0_0 x21_2).f1.f1) ((rd_T63 l0_0 x21_2).f1.f2))) = some r := by rw [if_pos rfl] at H; exact H
          clear H
          have H := H1
          clear H1
          have HC14 := a_ H
          clear H
          have p388 : 0 ≤ (x21_2 : Int) := od_
          have q388 : x21_2 < (l0_0.length : Int) := od_
          obtain ⟨ad388, A388_1, c388_1, A388_3, c388_3, e388, hx388_0, hx388_1, hx388_2, hx388_3, hl388_1, hi388_1, hl388_3, hi388_3⟩ := at_T63 HR0_0.out x21_2 p388 q388
          cases e388
          replace hx388_0 := pc_ hx388_0
          replace hx388_1 := pc_ hx388_1
          replace hx388_2 := pc_ hx388_2
          replace hx388_3 := pc_ hx388_3
          have HR388_1 := a_ hi388_1
          have HC388_1 := a_ hl388_1
          clear hi388_1 hl388_1
          have HR388_3 := a_ hi388_3
          have HC388_3 := a_ hl388_3
          clear hi388_3 hl388_3
          replace p388 := eq_true p388
          replace q388 := eq_true q388
          go_upto_region 8 with (first | ((with_reducible refine gate_dst (N := 4) rfl ?_); (try (refine gate_guard (by rfl) ?_; dsimp only)); refine box_event ?hg (N := 4) ?hd (cs := #[.int .i64 0, .slice none 0 0, .int .i64 0, .slice none 0 0]) (t := 63) ?hr ?_; (case hd => rfl); (case hg => rfl); (case hr => first | (go_simp; done) | (go_simp; rfl)); intro gb389 hg w15 hbox hb; have n0_ := a_ (blk_below (bk_ BK387.out) hb); have n1_ := a_ (below_step bel_ hb); have n2_ := a_ (hbox); have n3_ := a_ (bz_ hg : w.heap.size ≤ gb389); have n4_ := a_ (bz_ hg : w.heap.size ≤ gb389); have n5_ := a_ (nl_ hg (bk_ BK387.out)); have n6_ := a_ (ng_ hg (bk_ BK387.out)); clear BK387; clear HB; have BK387 := n0_; have HB := n1_; have BK389 := n2_; have GW389 := n3_; have GE389 := n4_; have NB387_389 := n5_; have NB389_387 := n6_; clear n0_ n1_ n2_ n3_ n4_ n5_ n6_; clear hb hbox hg; have hnb16 := NB389_387.out; have hnc16 := NB387_389.out; have hcz17_0 := cz_ BK389 0; have hcz17_1 := cz_ BK389 1; have hcz17_2 := cz_ BK389 2; have hcz17_3 := cz_ BK389 3; have hfz17_0 := fz_ BK389 0; have hfz17_1 := fz_ BK389 1; have hfz17_2 := fz_ BK389 2; have hfz17_3 := fz_ BK389 3) | ((with_reducible refine gate_callee (f := 65) rfl ?_); refine gs_ (some 28) Try.func65 #[.int .i64 ((rd_T63 l0_0 x21_2).f0), .int .i64 1, .int .i64 9999] ?_; (with_reducible refine (patrol_within.calls ((rd_T63 l0_0 x21_2).f0) 1 9999 true _ A12.out).mono ?_); rintro e w' ⟨rfl, ⟨nd, rfl⟩⟩; refine ⟨_, rfl, ?_⟩))
          (try simp only [Act.put, List.setIfInBounds_toArray, List.set_cons_zero, List.set_cons_succ])
          go_cut [43] (fun v43 wc => ∃ (kq : Nat) (x43_13 : Bool), v43 = .bool x43_13 ∧ Aside0 (patrol_Right.j2 kq l0_0 (l0_0.length : Int) x21_2 x43_13 l0_0 l0_1 ((rd_T63 l0_0 x21_2).f0) ((rd_T63 l0_0 x21_2).f1.f0) ((rd_T63 l0_0 x21_2).f1.f1) ((rd_T63 l0_0 x21_2).f1.f2) = some r) ∧ Aside0 (kq ≤ k2) ∧ Aside0 (wc.heap[gb387]? = some (.cells #[(.slice (some ad388) l0_0.length c0_0), (.slice A0_1 l0_1.length c0_1)] 48 (0, 0))) ∧ Aside0 (wc.heap[gb389]? = some (.cells #[.int .i64 ((rd_T63 l0_0 x21_2).f0), (.slice A388_1 ((rd_T63 l0_0 x21_2).f1.f0).length c388_1), .int .i64 ((rd_T63 l0_0 x21_2).f1.f1), (.slice A388_3 ((rd_T63 l0_0 x21_2).f1.f2).length c388_3)] 63 (0, 0))) ∧ Aside0 (Below w.heap.size w wc))
          case first =>
           have H := HC14.out
           clear HC14
           by_cases c18 : x21_2 > 0
           ·rw [if_pos c18] at H
            have c18b0 : decide (0 < x21_2) = true := decide_eq_true c18
            clear c18
            (first | rw [c18b0] | (simp only [i64_w, i32_w]; rw [c18b0]) | skip)
            obtain ⟨ji19, hji19⟩ : ∃ j_ : Int, (wrap64 (x21_2 - 1)) = j_ := ⟨_, rfl⟩
            replace H : (if 0 ≤ (ji19) then (if (ji19) < (l0_0.length : Int) then (patrol_Right.j2 k2 l0_0 (l0_0.length : Int) x21_2 (decide (((rd_T63 l0_0 x21_2).f0) ≤ ((rd_T63 l0_0 (ji19)).f0))) l0_0 l0_1 ((rd_T63 l0_0 x21_2).f0) ((rd_T63 l0_0 x21_2).f1.f0) ((rd_T63 l0_0 x21_2).f1.f1) ((rd_T63 l0_0 x21_2).f1.f2)) else (none)) else (none)) = some r := by first | (rw [hji19] at H; exact H) | (simp only [hji19] at H ⊢; exact H)
            have hji19w : (IntKind.i64.wrap (x21_2 - 1)) = ji19 := (i64_w _).trans hji19
            by_cases c20 : 0 ≤ (ji19)
            ·rw [if_pos c20] at H
             have c20b0 : decide (0 ≤ (ji19)) = true := decide_eq_true c20
             clear c20
             by_cases c21 : (ji19) < (l0_0.length : Int)
             ·rw [if_pos c21] at H
              have c21b0 : decide ((ji19) < (l0_0.length : Int)) = true := decide_eq_true c21
              clear c21
              have H' := a_ H
              clear H
              try go_wp2
              have n0_ : Aside0 (((((w15.setCell ⟨gb389, 0, none⟩ (.int .i64 ((rd_T63 l0_0 x21_2).f0))).setCell ⟨gb389, 1, none⟩ (.slice A388_1 ((rd_T63 l0_0 x21_2).f1.f0).length c388_1)).setCell ⟨gb389, 2, none⟩ (.int .i64 ((rd_T63 l0_0 x21_2).f1.f1))).setCell ⟨gb389, 3, none⟩ (.slice A388_3 ((rd_T63 l0_0 x21_2).f1.f2).length c388_3)).heap[gb387]? = some (.cells #[.slice (some ad388) l0_0.length c0_0, .slice A0_1 l0_1.length c0_1] 48 (0, 0))) := ⟨by refine blk_far ?_ NB387_389.out _; refine blk_far ?_ NB387_389.out _; refine blk_far ?_ NB387_389.out _; refine blk_far ?_ NB387_389.out _; exact BK387.out⟩
              have n1_ : Aside0 (((((w15.setCell ⟨gb389, 0, none⟩ (.int .i64 ((rd_T63 l0_0 x21_2).f0))).setCell ⟨gb389, 1, none⟩ (.slice A388_1 ((rd_T63 l0_0 x21_2).f1.f0).length c388_1)).setCell ⟨gb389, 2, none⟩ (.int .i64 ((rd_T63 l0_0 x21_2).f1.f1))).setCell ⟨gb389, 3, none⟩ (.slice A388_3 ((rd_T63 l0_0 x21_2).f1.f2).length c388_3)).heap[gb389]? = some (.cells #[.int .i64 ((rd_T63 l0_0 x21_2).f0), .slice A388_1 ((rd_T63 l0_0 x21_2).f1.f0).length c388_1, .int .i64 ((rd_T63 l0_0 x21_2).f1.f1), .slice A388_3 ((rd_T63 l0_0 x21_2).f1.f2).length c388_3] 63 (0, 0))) := ⟨by refine blk_put (cs := #[.int .i64 ((rd_T63 l0_0 x21_2).f0), .slice A388_1 ((rd_T63 l0_0 x21_2).f1.f0).length c388_1, .int .i64 ((rd_T63 l0_0 x21_2).f1.f1), .slice none 0 0]) ?_ 3 _ rfl; refine blk_put (cs := #[.int .i64 ((rd_T63 l0_0 x21_2).f0), .slice A388_1 ((rd_T63 l0_0 x21_2).f1.f0).length c388_1, .int .i64 0, .slice none 0 0]) ?_ 2 _ rfl; refine blk_put (cs := #[.int .i64 ((rd_T63 l0_0 x21_2).f0), .slice none 0 0, .int .i64 0, .slice none 0 0]) ?_ 1 _ rfl; refine blk_put (cs := #[.int .i64 0, .slice none 0 0, .int .i64 0, .slice none 0 0]) ?_ 0 _ rfl; exact BK389.out⟩
              have n2_ : Aside0 (Below w.heap.size w ((((w15.setCell ⟨gb389, 0, none⟩ (.int .i64 ((rd_T63 l0_0 x21_2).f0))).setCell ⟨gb389, 1, none⟩ (.slice A388_1 ((rd_T63 l0_0 x21_2).f1.f0).length c388_1)).setCell ⟨gb389, 2, none⟩ (.int .i64 ((rd_T63 l0_0 x21_2).f1.f1))).setCell ⟨gb389, 3, none⟩ (.slice A388_3 ((rd_T63 l0_0 x21_2).f1.f2).length c388_3))) := ⟨by repeat (first | (with_reducible first | exact HB.out | apply below_alloc | apply pw_below_drewN | apply below_drew1 | refine below_set ?_ GE387.out | refine below_set ?_ GE389.out) | exact HB.out)⟩
              (try clear BK387)
              (try clear BK389)
              (try clear HB)
              generalize ((((w15.setCell ⟨gb389, 0, none⟩ (.int .i64 ((rd_T63 l0_0 x21_2).f0))).setCell ⟨gb389, 1, none⟩ (.slice A388_1 ((rd_T63 l0_0 x21_2).f1.f0).length c388_1)).setCell ⟨gb389, 2, none⟩ (.int .i64 ((rd_T63 l0_0 x21_2).f1.f1))).setCell ⟨gb389, 3, none⟩ (.slice A388_3 ((rd_T63 l0_0 x21_2).f1.f2).length c388_3)) = w22 at n0_ n1_ n2_ ⊢
              try (replace n0_ := a_ (blk_drewN n0_.out nd); replace n1_ := a_ (blk_drewN n1_.out nd); replace n2_ := a_ (pw_below_drewN n2_.out nd); generalize w22.drewN nd = w22 at n0_ n1_ n2_ ⊢)
              have BK387 := n0_
              have BK389 := n1_
              have HB := n2_
              clear n0_ n1_ n2_
              have n0_ := a_ (blk_drew BK387.out)
              have n1_ := a_ (blk_drew BK389.out)
              have n2_ := a_ (below_drew1 HB.out)
              clear BK387
              clear BK389
              clear HB
              have BK387 := n0_
              have BK389 := n1_
              have HB := n2_
              clear n0_ n1_ n2_
              have p391 : 0 ≤ ((ji19) : Int) := od_
              have q391 : (ji19) < (l0_0.length : Int) := od_
              obtain ⟨ad391, A391_1, c391_1, A391_3, c391_3, e391, hx391_0, hx391_1, hx391_2, hx391_3, hl391_1, hi391_1, hl391_3, hi391_3⟩ := at_T63 HR0_0.out (ji19) p391 q391
              have hw391_3 := hx391_3
              have hw391_2 := hx391_2
              have hw391_1 := hx391_1
              have hw391_0 := hx391_0
              obtain rfl : ad388 = ad391 := (by injection e391)
              replace hx391_0 := pc_ hx391_0
              replace hx391_1 := pc_ hx391_1
              replace hx391_2 := pc_ hx391_2
              replace hx391_3 := pc_ hx391_3
              have HR391_1 := a_ hi391_1
              have HC391_1 := a_ hl391_1
              clear hi391_1 hl391_1
              have HR391_3 := a_ hi391_3
              have HC391_3 := a_ hl391_3
              clear hi391_3 hl391_3
              replace p391 := eq_true p391
              replace q391 := eq_true q391
              refine start_ (n := 14) (S := fun w' => w'.cell? ⟨gb389, 0, none⟩ = some (.int .i64 ((rd_T63 l0_0 x21_2).f0)) ∧ w'.cell? ⟨gb389, 1, none⟩ = some (.slice A388_1 ((rd_T63 l0_0 x21_2).f1.f0).length c388_1) ∧ w'.cell? ⟨gb389, 2, none⟩ = some (.int .i64 ((rd_T63 l0_0 x21_2).f1.f1)) ∧ w'.cell? ⟨gb389, 3, none⟩ = some (.slice A388_3 ((rd_T63 l0_0 x21_2).f1.f2).length c388_3) ∧ w'.cell? ⟨gb387, 0, none⟩ = some (.slice (some ad388) l0_0.length c0_0) ∧ w'.cell? ⟨gb387, 1, none⟩ = some (.slice A0_1 l0_1.length c0_1) ∧ w'.cell? (ad388.add (((ji19)).toNat * 4)) = some (.int .i64 ((rd_T63 l0_0 (ji19)).f0)) ∧ w'.cell? ⟨(ad388.add (((ji19)).toNat * 4)).block, (ad388.add (((ji19)).toNat * 4)).off + 1, none⟩ = some (.slice A391_1 ((rd_T63 l0_0 (ji19)).f1.f0).length c391_1) ∧ w'.cell? ⟨(ad388.add (((ji19)).toNat * 4)).block, (ad388.add (((ji19)).toNat * 4)).off + 2, none⟩ = some (.int .i64 ((rd_T63 l0_0 (ji19)).f1.f1)) ∧ w'.cell? ⟨(ad388.add (((ji19)).toNat * 4)).block, (ad388.add (((ji19)).toNat * 4)).off + 3, none⟩ = some (.slice A391_3 ((rd_T63 l0_0 (ji19)).f1.f2).length c391_3)) (ds := []) #[false, false, false, false, false, false, false, false, false, false, false, false, false, false] (by kernel_rfl) rfl rfl ⟨(blk_cell BK389.out 0).trans rfl, (blk_cell BK389.out 1).trans rfl, (blk_cell BK389.out 2).trans rfl, (blk_cell BK389.out 3).trans rfl, (blk_cell BK387.out 0).trans rfl, (blk_cell BK387.out 1).trans rfl, (pw_cell_below HB.out hw391_0), (pw_cell_below HB.out hw391_1), (pw_cell_below HB.out hw391_2), (pw_cell_below HB.out hw391_3)⟩ (fun hHeld => ?_); refine with_tabW patrol_Right.tab8 patrol_Right.bits8 (fun HT_ HW_ => ?_)
              generalize w22.drew = w23 at BK387 BK389 HB HR391_1 HR391_3 hx391_0 hx391_1 hx391_2 hx391_3 hHeld ⊢
              refine pq_ 0 (some 30) #[true, false, false, false, false, false, false, false, false, false, false, false, false, false] ?_
              refine pq_ 1 (some 31) #[true, true, false, false, false, false, false, false, false, false, false, false, false, false] ?_
              refine pq_ 2 (some 32) #[true, true, true, false, false, false, false, false, false, false, false, false, false, false] ?_
              refine pq_ 3 (some 33) #[true, true, true, true, false, false, false, false, false, false, false, false, false, false] ?_
              refine pq_ 5 (some 35) #[true, true, true, true, false, true, false, false, false, false, false, false, false, false] ?_
              refine pq_ 7 (some 37) #[true, true, true, true, false, true, false, true, false, false, false, false, false, false] ?_
              refine pq_ 8 (some 38) #[true, true, true, true, false, true, false, true, true, false, false, false, false, false] ?_
              refine take_ (i := 4) (N := some 34) (v := ?_) (a' := ?_) #[true, true, true, true, true, true, false, true, true, false, false, false, false, false] rfl rfl (take_ofW HT_.out HW_.out (by kernel_rfl)) (fun _ _ _ h => h) (Or.inl ⟨by rfl, ?_⟩) hHeld ?_ ?_
              rotate_left
              ·rintro w' ⟨s0, s1, s2, s3, s4, s5, s6, s7, s8, s9⟩
               go_simp
               with_reducible rfl
              rotate_left
              ·simp only [Act.put, List.setIfInBounds_toArray, List.set_cons_zero, List.set_cons_succ, i64_w, i32_w]
               rfl
              refine take_ (i := 6) (N := some 36) (v := ?_) (a' := ?_) #[true, true, true, true, true, true, true, true, true, false, false, false, false, false] rfl rfl (take_ofW HT_.out HW_.out (by kernel_rfl)) (fun _ _ _ h => h) (Or.inl ⟨by rfl, ?_⟩) hHeld ?_ ?_
              rotate_left
              ·rintro w' ⟨s0, s1, s2, s3, s4, s5, s6, s7, s8, s9⟩
               go_simp
               with_reducible rfl
              rotate_left
              ·simp only [Act.put, List.setIfInBounds_toArray, List.set_cons_zero, List.set_cons_succ, i64_w, i32_w]
               rfl
              refine pq_ 9 (some 39) #[true, true, true, true, true, true, true, true, true, true, false, false, false, false] ?_
              refine pq_ 10 (some 40) #[true, true, true, true, true, true, true, true, true, true, true, false, false, false] ?_
              refine take_ (i := 11) (N := some 41) (v := ?_) (a' := ?_) #[true, true, true, true, true, true, true, true, true, true, true, true, false, false] rfl rfl (take_ofW HT_.out HW_.out (by kernel_rfl)) (fun _ _ _ h => h) (Or.inl ⟨by rfl, ?_⟩) hHeld ?_ ?_
              rotate_left
              ·rintro w' ⟨s0, s1, s2, s3, s4, s5, s6, s7, s8, s9⟩
               go_simp
               with_reducible rfl
              rotate_left
              ·simp only [Act.put, List.setIfInBounds_toArray, List.set_cons_zero, List.set_cons_succ, i64_w, i32_w]
               rfl
              refine pq_ 12 (some 42) #[true, true, true, true, true, true, true, true, true, true, true, true, true, false] ?_
              refine pq_ 13 (some 43) #[true, true, true, true, true, true, true, true, true, true, true, true, true, true] ?_
              refine done_ (done_of HT_.out (by kernel_rfl)) ?_
              try go_wp2
              go_meet
              case rel => exact ⟨_, (decide (((rd_T63 l0_0 x21_2).f0) ≤ ((rd_T63 l0_0 (ji19)).f0))), (by first | rfl | (simp; done) | (simp only [← hji19] <;> (first | rfl | simp)) | (simp [*]; done)), H', ⟨by have := HJ1.out; have := HK2.out; first | omega | exact Nat.le_refl _⟩, ⟨by exact BK387.out⟩, ⟨by exact BK389.out⟩, ⟨by repeat (first | (with_reducible first | exact HB.out | apply below_alloc | apply pw_below_drewN | apply below_drew1 | refine below_set ?_ GE387.out | refine below_set ?_ GE389.out) | exact HB.out)⟩⟩
             ·rw [if_neg c21] at H
              exact absurd H (by simp)
            ·rw [if_neg c20] at H
             exact absurd H (by simp)
           ·rw [if_neg c18] at H
            have c18b0 : decide (0 < x21_2) = false := decide_eq_false c18
            clear c18
            (first | rw [c18b0] | (simp only [i64_w, i32_w]; rw [c18b0]) | skip)
            have H' := a_ H
            clear H
            try go_wp2
            have n0_ : Aside0 (((((w15.setCell ⟨gb389, 0, none⟩ (.int .i64 ((rd_T63 l0_0 x21_2).f0))).setCell ⟨gb389, 1, none⟩ (.slice A388_1 ((rd_T63 l0_0 x21_2).f1.f0).length c388_1)).setCell ⟨gb389, 2, none⟩ (.int .i64 ((rd_T63 l0_0 x21_2).f1.f1))).setCell ⟨gb389, 3, none⟩ (.slice A388_3 ((rd_T63 l0_0 x21_2).f1.f2).length c388_3)).heap[gb387]? = some (.cells #[.slice (some ad388) l0_0.length c0_0, .slice A0_1 l0_1.length c0_1] 48 (0, 0))) := ⟨by refine blk_far ?_ NB387_389.out _; refine blk_far ?_ NB387_389.out _; refine blk_far ?_ NB387_389.out _; refine blk_far ?_ NB387_389.out _; exact BK387.out⟩
            have n1_ : Aside0 (((((w15.setCell ⟨gb389, 0, none⟩ (.int .i64 ((rd_T63 l0_0 x21_2).f0))).setCell ⟨gb389, 1, none⟩ (.slice A388_1 ((rd_T63 l0_0 x21_2).f1.f0).length c388_1)).setCell ⟨gb389, 2, none⟩ (.int .i64 ((rd_T63 l0_0 x21_2).f1.f1))).setCell ⟨gb389, 3, none⟩ (.slice A388_3 ((rd_T63 l0_0 x21_2).f1.f2).length c388_3)).heap[gb389]? = some (.cells #[.int .i64 ((rd_T63 l0_0 x21_2).f0), .slice A388_1 ((rd_T63 l0_0 x21_2).f1.f0).length c388_1, .int .i64 ((rd_T63 l0_0 x21_2).f1.f1), .slice A388_3 ((rd_T63 l0_0 x21_2).f1.f2).length c388_3] 63 (0, 0))) := ⟨by refine blk_put (cs := #[.int .i64 ((rd_T63 l0_0 x21_2).f0), .slice A388_1 ((rd_T63 l0_0 x21_2).f1.f0).length c388_1, .int .i64 ((rd_T63 l0_0 x21_2).f1.f1), .slice none 0 0]) ?_ 3 _ rfl; refine blk_put (cs := #[.int .i64 ((rd_T63 l0_0 x21_2).f0), .slice A388_1 ((rd_T63 l0_0 x21_2).f1.f0).length c388_1, .int .i64 0, .slice none 0 0]) ?_ 2 _ rfl; refine blk_put (cs := #[.int .i64 ((rd_T63 l0_0 x21_2).f0), .slice none 0 0, .int .i64 0, .slice none 0 0]) ?_ 1 _ rfl; refine blk_put (cs := #[.int .i64 0, .slice none 0 0, .int .i64 0, .slice none 0 0]) ?_ 0 _ rfl; exact BK389.out⟩
            have n2_ : Aside0 (Below w.heap.size w ((((w15.setCell ⟨gb389, 0, none⟩ (.int .i64 ((rd_T63 l0_0 x21_2).f0))).setCell ⟨gb389, 1, none⟩ (.slice A388_1 ((rd_T63 l0_0 x21_2).f1.f0).length c388_1)).setCell ⟨gb389, 2, none⟩ (.int .i64 ((rd_T63 l0_0 x21_2).f1.f1))).setCell ⟨gb389, 3, none⟩ (.slice A388_3 ((rd_T63 l0_0 x21_2).f1.f2).length c388_3))) := ⟨by repeat (first | (with_reducible first | exact HB.out | apply below_alloc | apply pw_below_drewN | apply below_drew1 | refine below_set ?_ GE387.out | refine below_set ?_ GE389.out) | exact HB.out)⟩
            (try clear BK387)
            (try clear BK389)
            (try clear HB)
            generalize ((((w15.setCell ⟨gb389, 0, none⟩ (.int .i64 ((rd_T63 l0_0 x21_2).f0))).setCell ⟨gb389, 1, none⟩ (.slice A388_1 ((rd_T63 l0_0 x21_2).f1.f0).length c388_1)).setCell ⟨gb389, 2, none⟩ (.int .i64 ((rd_T63 l0_0 x21_2).f1.f1))).setCell ⟨gb389, 3, none⟩ (.slice A388_3 ((rd_T63 l0_0 x21_2).f1.f2).length c388_3)) = w24 at n0_ n1_ n2_ ⊢
            try (replace n0_ := a_ (blk_drewN n0_.out nd); replace n1_ := a_ (blk_drewN n1_.out nd); replace n2_ := a_ (pw_below_drewN n2_.out nd); generalize w24.drewN nd = w24 at n0_ n1_ n2_ ⊢)
            have BK387 := n0_
            have BK389 := n1_
            have HB := n2_
            clear n0_ n1_ n2_
            have n0_ := a_ (blk_drew BK387.out)
            have n1_ := a_ (blk_drew BK389.out)
            have n2_ := a_ (below_drew1 HB.out)
            clear BK387
            clear BK389
            clear HB
            have BK387 := n0_
            have BK389 := n1_
            have HB := n2_
            clear n0_ n1_ n2_
            refine start_ (n := 14) (S := fun w' => True) (ds := []) #[false, false, false, false, false, false, false, false, false, false, false, false, false, false] (by kernel_rfl) rfl rfl trivial (fun hHeld => ?_); refine with_tabW patrol_Right.tab8 patrol_Right.bits8 (fun HT_ HW_ => ?_)
            generalize w24.drew = w25 at BK387 BK389 HB hHeld ⊢
            refine pq_ 0 (some 30) #[true, false, false, false, false, false, false, false, false, false, false, false, false, false] ?_
            refine pq_ 1 (some 31) #[true, true, false, false, false, false, false, false, false, false, false, false, false, false] ?_
            refine pq_ 2 (some 32) #[true, true, true, false, false, false, false, false, false, false, false, false, false, false] ?_
            refine pure_ (i := 3) (N := some 33) (v := undef) (a' := ?_) #[true, true, true, true, false, false, false, false, false, false, false, false, false, false] rfl rfl (any_of HT_.out (by kernel_rfl)) (fun _ _ _ h => h) (Or.inr ⟨by rfl, rfl⟩) ?_ ?_
            rotate_left
            ·simp only [Act.put, List.setIfInBounds_toArray, List.set_cons_zero, List.set_cons_succ, i64_w, i32_w]
             rfl
            refine pure_ (i := 4) (N := some 34) (v := undef) (a' := ?_) #[true, true, true, true, true, false, false, false, false, false, false, false, false, false] rfl rfl (any_of HT_.out (by kernel_rfl)) (fun _ _ _ h => h) (Or.inr ⟨by rfl, rfl⟩) ?_ ?_
            rotate_left
            ·simp only [Act.put, List.setIfInBounds_toArray, List.set_cons_zero, List.set_cons_succ, i64_w, i32_w]
             rfl
            refine pure_ (i := 5) (N := some 35) (v := undef) (a' := ?_) #[true, true, true, true, true, true, false, false, false, false, false, false, false, false] rfl rfl (any_of HT_.out (by kernel_rfl)) (fun _ _ _ h => h) (Or.inr ⟨by rfl, rfl⟩) ?_ ?_
            rotate_left
            ·simp only [Act.put, List.setIfInBounds_toArray, List.set_cons_zero, List.set_cons_succ, i64_w, i32_w]
             rfl
            refine pure_ (i := 6) (N := some 36) (v := undef) (a' := ?_) #[true, true, true, true, true, true, true, false, false, false, false, false, false, false] rfl rfl (any_of HT_.out (by kernel_rfl)) (fun _ _ _ h => h) (Or.inr ⟨by rfl, rfl⟩) ?_ ?_
            rotate_left
            ·simp only [Act.put, List.setIfInBounds_toArray, List.set_cons_zero, List.set_cons_succ, i64_w, i32_w]
             rfl
            refine pure_ (i := 7) (N := some 37) (v := undef) (a' := ?_) #[true, true, true, true, true, true, true, true, false, false, false, false, false, false] rfl rfl (any_of HT_.out (by kernel_rfl)) (fun _ _ _ h => h) (Or.inr ⟨by rfl, rfl⟩) ?_ ?_
            rotate_left
            ·simp only [Act.put, List.setIfInBounds_toArray, List.set_cons_zero, List.set_cons_succ, i64_w, i32_w]
             rfl
            refine pure_ (i := 8) (N := some 38) (v := undef) (a' := ?_) #[true, true, true, true, true, true, true, true, true, false, false, false, false, false] rfl rfl (any_of HT_.out (by kernel_rfl)) (fun _ _ _ h => h) (Or.inr ⟨by rfl, rfl⟩) ?_ ?_
            rotate_left
            ·simp only [Act.put, List.setIfInBounds_toArray, List.set_cons_zero, List.set_cons_succ, i64_w, i32_w]
             rfl
            refine pure_ (i := 9) (N := some 39) (v := undef) (a' := ?_) #[true, true, true, true, true, true, true, true, true, true, false, false, false, false] rfl rfl (any_of HT_.out (by kernel_rfl)) (fun _ _ _ h => h) (Or.inr ⟨by rfl, rfl⟩) ?_ ?_
            rotate_left
            ·simp only [Act.put, List.setIfInBounds_toArray, List.set_cons_zero, List.set_cons_succ, i64_w, i32_w]
             rfl
            refine pure_ (i := 10) (N := some 40) (v := undef) (a' := ?_) #[true, true, true, true, true, true, true, true, true, true, true, false, false, false] rfl rfl (any_of HT_.out (by kernel_rfl)) (fun _ _ _ h => h) (Or.inr ⟨by rfl, rfl⟩) ?_ ?_
            rotate_left
            ·simp only [Act.put, List.setIfInBounds_toArray, List.set_cons_zero, List.set_cons_succ, i64_w, i32_w]
             rfl
            refine pure_ (i := 11) (N := some 41) (v := undef) (a' := ?_) #[true, true, true, true, true, true, true, true, true, true, true, true, false, false] rfl rfl (any_of HT_.out (by kernel_rfl)) (fun _ _ _ h => h) (Or.inr ⟨by rfl, rfl⟩) ?_ ?_
            rotate_left
            ·simp only [Act.put, List.setIfInBounds_toArray, List.set_cons_zero, List.set_cons_succ, i64_w, i32_w]
             rfl
            refine pure_ (i := 12) (N := some 42) (v := undef) (a' := ?_) #[true, true, true, true, true, true, true, true, true, true, true, true, true, false] rfl rfl (any_of HT_.out (by kernel_rfl)) (fun _ _ _ h => h) (Or.inr ⟨by rfl, rfl⟩) ?_ ?_
            rotate_left
            ·simp only [Act.put, List.setIfInBounds_toArray, List.set_cons_zero, List.set_cons_succ, i64_w, i32_w]
             rfl
            refine pq_ 13 (some 43) #[true, true, true, true, true, true, true, true, true, true, true, true, true, true] ?_
            refine done_ (done_of HT_.out (by kernel_rfl)) ?_
            try go_wp2
            go_meet
            case rel => exact ⟨_, (false), (by first | rfl | (simp; done) | (simp [*]; done)), H', ⟨by have := HJ1.out; have := HK2.out; first | omega | exact Nat.le_refl _⟩, ⟨by exact BK387.out⟩, ⟨by exact BK389.out⟩, ⟨by repeat (first | (with_reducible first | exact HB.out | apply below_alloc | apply pw_below_drewN | apply below_drew1 | refine below_set ?_ GE387.out | refine below_set ?_ GE389.out) | exact HB.out)⟩⟩
          case rest =>
           clear HC14
           try clear c1
           try clear c2
           try clear p2
           try clear c3
           try clear p3
           try clear q3
           try clear hx3
           try clear c4
           try clear c4b0
           try clear c4b1
           try clear c6
           try clear p6
           try clear c7
           try clear c9
           try clear c9b0
           try clear c10
           try clear c10b0
           try clear c11
           try clear c11b0
           try clear c13
           try clear c16
           try clear c18
           try clear c18b0
           try clear c20
           try clear c20b0
           try clear c21
           try clear c21b0
           try clear hcz17_0
           try clear hcz17_1
           try clear hcz17_2
           try clear hcz17_3
           try clear hcz5_0
           try clear hcz5_1
           try clear hcz6_0
           try clear hcz6_1
           try clear hcz8_0
           try clear hcz8_1
           try clear hfz17_0
           try clear hfz17_1
           try clear hfz17_2
           try clear hfz17_3
           try clear hfz5_0
           try clear hfz5_1
           try clear hfz6_0
           try clear hfz6_1
           try clear hfz8_0
           try clear hfz8_1
           try clear hx388_0
           try clear hx388_1
           try clear hx388_2
           try clear hx388_3
           try clear hx391_0
           try clear hx391_1
           try clear hx391_2
           try clear hx391_3
           try clear p2
           try clear p388
           try clear p391
           try clear q388
           try clear q391
           obtain ⟨kq, x43_13, rfl, HA, HJ13, BK387, BK389, HB⟩ := hcut
           cases kq with
           | zero => exact absurd HA.out (by simp [patrol_Right.j2])
           | succ kj13 =>
            have H := HA.out
            clear HA
            simp only [patrol_Right.j2] at H
            by_cases c26 : x43_13 = true
            ·subst c26
             have H1 : (some 11) = some r := by rw [if_pos rfl] at H; exact H
             clear H
             have H := H1
             clear H1
             obtain rfl := Option.some.inj H
             go_wp2
             go_ret
             exact ⟨by first | rfl | (simp [errW_none, errW_some] <;> rfl) | (simp [*, errW_none, errW_some] <;> rfl), by repeat (first | (with_reducible first | exact HB.out | apply below_alloc | apply pw_below_drewN | apply below_drew1 | refine below_set ?_ GE387.out | refine below_set ?_ GE389.out) | exact HB.out)⟩
            ·replace c26 := Bool.eq_false_iff.mpr c26
             subst c26
             have H1 : ((inspect_Right.f kj13 ((rd_T63 l0_0 x21_2).f1.f0) ((rd_T63 l0_0 x21_2).f1.f1) ((rd_T63 l0_0 x21_2).f1.f2)).bind fun t392 => (if t392 = 0 then (patrol_Right.l0 kj13 l0_0 (l0_0.length : Int) (wrap64 (x21_2 + 1)) l0_0 l0_1) else (some t392))) = some r := by rw [if_neg (show ¬ (false = true) by decide)] at H; exact H
             clear H
             have H := H1
             clear H1
             replace H := Option.bind_eq_some_iff.mp H
             obtain ⟨t392, A270, H⟩ := H
             replace H : (if t392 = 0 then (patrol_Right.l0 kj13 l0_0 (l0_0.length : Int) (wrap64 (x21_2 + 1)) l0_0 l0_1) else (some t392)) = some r := H
             have A27 := a_ A270
             clear A270
             by_cases c28 : t392 = 0
             ·rw [if_pos c28] at H
              have c28b0 : (t392 == 0) = true := beq_iff_eq.mpr c28
              have c28b1 : (t392 != 0) = false := bne_eq_false_iff_eq.mpr c28
              clear c28
              have H' := a_ H
              clear H
              have hnb29 := NB389_387.out
              have hnc29 := NB387_389.out
              have hcz30_0 := cz_ BK389 0
              have hcz30_1 := cz_ BK389 1
              have hcz30_2 := cz_ BK389 2
              have hcz30_3 := cz_ BK389 3
              have hfz30_0 := fz_ BK389 0
              have hfz30_1 := fz_ BK389 1
              have hfz30_2 := fz_ BK389 2
              have hfz30_3 := fz_ BK389 3
              go_wp2_with (first | ((with_reducible refine gate_callee (f := 19) rfl ?_); refine gs_ (some 46) Try.func19 #[.agg #[.slice A388_1 ((rd_T63 l0_0 x21_2).f1.f0).length c388_1, .int .i64 ((rd_T63 l0_0 x21_2).f1.f1), .slice A388_3 ((rd_T63 l0_0 x21_2).f1.f2).length c388_3]] ?_; (with_reducible refine (inspect_Right.calls kj13 _ _ ((rd_T63 l0_0 x21_2).f1.f0) ((rd_T63 l0_0 x21_2).f1.f1) _ _ ((rd_T63 l0_0 x21_2).f1.f2) t392 _ ?side1 ?side2 ?side3 ?side4 A27.out).mono ?_); (case side1 => exact kC_ (Kd.C_below HR388_1.out HB.out)); (case side2 => exact HC388_1.out); (case side3 => exact kC_ (Kd.C_below HR388_3.out HB.out)); (case side4 => exact HC388_3.out); rintro e w31 ⟨rfl, hb⟩; refine ⟨_, rfl, ?_⟩; have n0_ := a_ (blk_below (bk_ BK387.out) hb); have n1_ := a_ (blk_below (bk_ BK389.out) hb); have n2_ := a_ (below_step bel_ hb); clear BK387; clear BK389; clear HB; have BK387 := n0_; have BK389 := n1_; have HB := n2_; clear n0_ n1_ n2_; (try clear hb); (try clear hb2); (try clear hk); (try clear hi)))
              go_roundg kj13
              case measure => have := HJ1.out; have := HK2.out; have := HJ13.out; omega
              case rel => exact ⟨(wrap64 (x21_2 + 1)), (by first | rfl | (simp; done) | (simp [*]; done)), H', ⟨by have := HJ1.out; have := HK2.out; have := HJ13.out; omega⟩, ⟨by exact BK387.out⟩, ⟨by repeat (first | (with_reducible first | exact HB.out | apply below_alloc | apply pw_below_drewN | apply below_drew1 | refine below_set ?_ GE387.out | refine below_set ?_ GE389.out) | exact HB.out)⟩⟩
             ·rw [if_neg c28] at H
              have c28b0 : (t392 == 0) = false := beq_eq_false_iff_ne.mpr c28
              have c28b1 : (t392 != 0) = true := bne_iff_ne.mpr c28
              obtain rfl := Option.some.inj H
              have hnb32 := NB389_387.out
              have hnc32 := NB387_389.out
              have hcz33_0 := cz_ BK389 0
              have hcz33_1 := cz_ BK389 1
              have hcz33_2 := cz_ BK389 2
              have hcz33_3 := cz_ BK389 3
              have hfz33_0 := fz_ BK389 0
              have hfz33_1 := fz_ BK389 1
              have hfz33_2 := fz_ BK389 2
              have hfz33_3 := fz_ BK389 3
              go_wp2_with (first | ((with_reducible refine gate_callee (f := 19) rfl ?_); refine gs_ (some 46) Try.func19 #[.agg #[.slice A388_1 ((rd_T63 l0_0 x21_2).f1.f0).length c388_1, .int .i64 ((rd_T63 l0_0 x21_2).f1.f1), .slice A388_3 ((rd_T63 l0_0 x21_2).f1.f2).length c388_3]] ?_; (with_reducible refine (inspect_Right.calls kj13 _ _ ((rd_T63 l0_0 x21_2).f1.f0) ((rd_T63 l0_0 x21_2).f1.f1) _ _ ((rd_T63 l0_0 x21_2).f1.f2) t392 _ ?side1 ?side2 ?side3 ?side4 A27.out).mono ?_); (case side1 => exact kC_ (Kd.C_below HR388_1.out HB.out)); (case side2 => exact HC388_1.out); (case side3 => exact kC_ (Kd.C_below HR388_3.out HB.out)); (case side4 => exact HC388_3.out); rintro e w34 ⟨rfl, hb⟩; refine ⟨_, rfl, ?_⟩; have n0_ := a_ (blk_below (bk_ BK387.out) hb); have n1_ := a_ (blk_below (bk_ BK389.out) hb); have n2_ := a_ (below_step bel_ hb); clear BK387; clear BK389; clear HB; have BK387 := n0_; have BK389 := n1_; have HB := n2_; clear n0_ n1_ n2_; (try clear hb); (try clear hb2); (try clear hk); (try clear hi)))
              go_ret
              exact ⟨by first | rfl | (simp [errW_none, errW_some] <;> rfl) | (simp [*, errW_none, errW_some] <;> rfl), by repeat (first | (with_reducible first | exact HB.out | apply below_alloc | apply pw_below_drewN | apply below_drew1 | refine below_set ?_ GE387.out | refine below_set ?_ GE389.out) | exact HB.out)⟩
         ·replace c13 := Bool.eq_false_iff.mpr c13
          subst c13
          have H1 : (some 2) = some r := by rw [if_neg (show ¬ (false = true) by decide)] at H; exact H
          clear H
          have H := H1
          clear H1
          obtain rfl := Option.some.inj H
          have p388 : 0 ≤ (x21_2 : Int) := od_
          have q388 : x21_2 < (l0_0.length : Int) := od_
          obtain ⟨ad388, A388_1, c388_1, A388_3, c388_3, e388, hx388_0, hx388_1, hx388_2, hx388_3, hl388_1, hi388_1, hl388_3, hi388_3⟩ := at_T63 HR0_0.out x21_2 p388 q388
          cases e388
          replace hx388_0 := pc_ hx388_0
          replace hx388_1 := pc_ hx388_1
          replace hx388_2 := pc_ hx388_2
          replace hx388_3 := pc_ hx388_3
          have HR388_1 := a_ hi388_1
          have HC388_1 := a_ hl388_1
          clear hi388_1 hl388_1
          have HR388_3 := a_ hi388_3
          have HC388_3 := a_ hl388_3
          clear hi388_3 hl388_3
          replace p388 := eq_true p388
          replace q388 := eq_true q388
          go_wp2_with (first | ((with_reducible refine gate_dst (N := 4) rfl ?_); (try (refine gate_guard (by rfl) ?_; dsimp only)); refine box_event ?hg (N := 4) ?hd (cs := #[.int .i64 0, .slice none 0 0, .int .i64 0, .slice none 0 0]) (t := 63) ?hr ?_; (case hd => rfl); (case hg => rfl); (case hr => first | (go_simp; done) | (go_simp; rfl)); intro gb389 hg w35 hbox hb; have n0_ := a_ (blk_below (bk_ BK387.out) hb); have n1_ := a_ (below_step bel_ hb); have n2_ := a_ (hbox); have n3_ := a_ (bz_ hg : w.heap.size ≤ gb389); have n4_ := a_ (bz_ hg : w.heap.size ≤ gb389); have n5_ := a_ (nl_ hg (bk_ BK387.out)); have n6_ := a_ (ng_ hg (bk_ BK387.out)); clear BK387; clear HB; have BK387 := n0_; have HB := n1_; have BK389 := n2_; have GW389 := n3_; have GE389 := n4_; have NB387_389 := n5_; have NB389_387 := n6_; clear n0_ n1_ n2_ n3_ n4_ n5_ n6_; clear hb hbox hg; have hnb36 := NB389_387.out; have hnc36 := NB387_389.out; have hcz37_0 := cz_ BK389 0; have hcz37_1 := cz_ BK389 1; have hcz37_2 := cz_ BK389 2; have hcz37_3 := cz_ BK389 3; have hfz37_0 := fz_ BK389 0; have hfz37_1 := fz_ BK389 1; have hfz37_2 := fz_ BK389 2; have hfz37_3 := fz_ BK389 3) | ((with_reducible refine gate_callee (f := 65) rfl ?_); refine gs_ (some 28) Try.func65 #[.int .i64 ((rd_T63 l0_0 x21_2).f0), .int .i64 1, .int .i64 9999] ?_; (with_reducible refine (patrol_within.calls ((rd_T63 l0_0 x21_2).f0) 1 9999 false _ A12.out).mono ?_); rintro e w' ⟨rfl, ⟨nd, rfl⟩⟩; refine ⟨_, rfl, ?_⟩))
          go_ret
          exact ⟨by first | rfl | (simp [errW_none, errW_some] <;> rfl) | (simp [*, errW_none, errW_some] <;> rfl), by repeat (first | (with_reducible first | exact HB.out | apply below_alloc | apply pw_below_drewN | apply below_drew1 | refine below_set ?_ GE387.out | refine below_set ?_ GE389.out) | exact HB.out)⟩
        ·rw [if_neg c11] at H
         exact absurd H (by simp)
       ·rw [if_neg c10] at H
        exact absurd H (by simp)
      ·rw [if_neg c9] at H
       have c9b0 : decide (x21_2 < (l0_0.length : Int)) = false := decide_eq_false c9
       clear c9
       have H' := a_ H
       clear H
       have hcz38_0 := cz_ BK387 0
       have hcz38_1 := cz_ BK387 1
       have hfz38_0 := fz_ BK387 0
       have hfz38_1 := fz_ BK387 1
       go_wp2
       go_loopg [54] k2 (fun kq v54 w' => ∃ (x54_3 : Int), v54 = .int .i64 x54_3 ∧ Aside0 (patrol_Right.l1 kq l0_1 (l0_1.length : Int) x54_3 l0_0 l0_1 = some r) ∧ Aside0 (kq ≤ k2) ∧ Aside0 (w'.heap[gb387]? = some (.cells #[(.slice A0_0 l0_0.length c0_0), (.slice A0_1 l0_1.length c0_1)] 48 (0, 0))) ∧ Aside0 (Below w.heap.size w w'))
       case atStart => exact ⟨(0), (by first | rfl | (simp; done) | (simp [*]; done)), H', ⟨Nat.le_refl _⟩, ⟨by exact BK387.out⟩, ⟨by repeat (first | (with_reducible first | exact HB.out | apply below_alloc | apply pw_below_drewN | apply below_drew1 | refine below_set ?_ GE387.out) | exact HB.out)⟩⟩
       case round =>
        clear H'
        try clear c1
        try clear c2
        try clear p2
        try clear c3
        try clear p3
        try clear q3
        try clear hx3
        try clear c4
        try clear c4b0
        try clear c4b1
        try clear c6
        try clear p6
        try clear c7
        try clear c9
        try clear c9b0
        try clear c10
        try clear c10b0
        try clear c11
        try clear c11b0
        try clear c13
        try clear c16
        try clear c18
        try clear c18b0
        try clear c19
        try clear c20
        try clear c20b0
        try clear c21
        try clear c21b0
        try clear c26
        try clear c28
        try clear c28b0
        try clear c28b1
        try clear c29
        try clear c32
        try clear c36
        try clear c38
        try clear p38
        try clear q38
        try clear hx38
        try clear hcz17_0
        try clear hcz17_1
        try clear hcz17_2
        try clear hcz17_3
        try clear hcz30_0
        try clear hcz30_1
        try clear hcz30_2
        try clear hcz30_3
        try clear hcz33_0
        try clear hcz33_1
        try clear hcz33_2
        try clear hcz33_3
        try clear hcz37_0
        try clear hcz37_1
        try clear hcz37_2
        try clear hcz37_3
        try clear hcz38_0
        try clear hcz38_1
        try clear hcz5_0
        try clear hcz5_1
        try clear hcz6_0
        try clear hcz6_1
        try clear hcz8_0
        try clear hcz8_1
        try clear hfz17_0
        try clear hfz17_1
        try clear hfz17_2
        try clear hfz17_3
        try clear hfz30_0
        try clear hfz30_1
        try clear hfz30_2
        try clear hfz30_3
        try clear hfz33_0
        try clear hfz33_1
        try clear hfz33_2
        try clear hfz33_3
        try clear hfz37_0
        try clear hfz37_1
        try clear hfz37_2
        try clear hfz37_3
        try clear hfz38_0
        try clear hfz38_1
        try clear hfz5_0
        try clear hfz5_1
        try clear hfz6_0
        try clear hfz6_1
        try clear hfz8_0
        try clear hfz8_1
        try clear hx388_0
        try clear hx388_1
        try clear hx388_2
        try clear hx388_3
        try clear hx391_0
        try clear hx391_1
        try clear hx391_2
        try clear hx391_3
        try clear p2
        try clear p3
        try clear p388
        try clear p391
        try clear p6
        try clear q3
        try clear q388
        try clear q391
        obtain ⟨x54_3, rfl, HA, HK3, BK387, HB⟩ := hrel
        cases gk with
        | zero => exact absurd HA.out (by simp [patrol_Right.l1])
        | succ k3 =>
         have H := HA.out
         clear HA
         simp only [patrol_Right.l1] at H
         by_cases c39 : x54_3 < (l0_1.length : Int)
         ·rw [if_pos c39] at H
          have c39b0 : decide (x54_3 < (l0_1.length : Int)) = true := decide_eq_true c39
          clear c39
          by_cases c40 : 0 ≤ x54_3
          ·rw [if_pos c40] at H
           have c40b0 : decide (0 ≤ x54_3) = true := decide_eq_true c40
           clear c40
           by_cases c41 : x54_3 < (l0_1.length : Int)
           ·rw [if_pos c41] at H
            have c41b0 : decide (x54_3 < (l0_1.length : Int)) = true := decide_eq_true c41
            clear c41
            have HC42 := a_ H
            clear H
            have p393 : 0 ≤ (x54_3 : Int) := od_
            have q393 : x54_3 < (l0_1.length : Int) := od_
            obtain ⟨ad393, e393, hx393_0, hx393_1, hx393_2⟩ := at_T56 HR0_1.out x54_3 p393 q393
            cases e393
            replace hx393_0 := pc_ hx393_0
            replace hx393_1 := pc_ hx393_1
            replace hx393_2 := pc_ hx393_2
            replace p393 := eq_true p393
            replace q393 := eq_true q393
            go_upto_region 17 with (first | ((with_reducible refine gate_dst (N := 7) rfl ?_); (try (refine gate_guard (by rfl) ?_; dsimp only)); refine box_event ?hg (N := 7) ?hd (cs := #[.int .i64 0, .int .i64 0, .int .i64 0]) (t := 56) ?hr ?_; (case hd => rfl); (case hg => rfl); (case hr => first | (go_simp; done) | (go_simp; rfl)); intro gb394 hg w43 hbox hb; have n0_ := a_ (blk_below (bk_ BK387.out) hb); have n1_ := a_ (below_step bel_ hb); have n2_ := a_ (hbox); have n3_ := a_ (bz_ hg : w.heap.size ≤ gb394); have n4_ := a_ (bz_ hg : w.heap.size ≤ gb394); have n5_ := a_ (nl_ hg (bk_ BK387.out)); have n6_ := a_ (ng_ hg (bk_ BK387.out)); clear BK387; clear HB; have BK387 := n0_; have HB := n1_; have BK394 := n2_; have GW394 := n3_; have GE394 := n4_; have NB387_394 := n5_; have NB394_387 := n6_; clear n0_ n1_ n2_ n3_ n4_ n5_ n6_; clear hb hbox hg; have hnb44 := NB394_387.out; have hnc44 := NB387_394.out; have hcz45_0 := cz_ BK394 0; have hcz45_1 := cz_ BK394 1; have hcz45_2 := cz_ BK394 2; have hfz45_0 := fz_ BK394 0; have hfz45_1 := fz_ BK394 1; have hfz45_2 := fz_ BK394 2))
            (try simp only [Act.put, List.setIfInBounds_toArray, List.set_cons_zero, List.set_cons_succ])
            go_cut [59] (fun v59 wc => ∃ (kq : Nat) (x59_41 : Bool), v59 = .bool x59_41 ∧ Aside0 (patrol_Right.j4 kq x54_3 l0_1 (l0_1.length : Int) x54_3 x59_41 l0_0 l0_1 ((rd_T56 l0_1 x54_3).f0) ((rd_T56 l0_1 x54_3).f1) ((rd_T56 l0_1 x54_3).f2) = some r) ∧ Aside0 (kq ≤ k3) ∧ Aside0 (wc.heap[gb387]? = some (.cells #[(.slice A0_0 l0_0.length c0_0), (.slice (some ad393) l0_1.length c0_1)] 48 (0, 0))) ∧ Aside0 (wc.heap[gb394]? = some (.cells #[.int .i64 ((rd_T56 l0_1 x54_3).f0), .int .i64 ((rd_T56 l0_1 x54_3).f1), .int .i64 ((rd_T56 l0_1 x54_3).f2)] 56 (0, 0))) ∧ Aside0 (Below w.heap.size w wc))
            case first =>
             have H := HC42.out
             clear HC42
             replace H := Option.bind_eq_some_iff.mp H
             obtain ⟨t395, A460, H⟩ := H
             replace H : (if t395 = true then ((patrol_within.f ((rd_T56 l0_1 x54_3).f2) 0 20000000).bind fun t396 => (patrol_Right.j4 k3 x54_3 l0_1 (l0_1.length : Int) x54_3 (!t396) l0_0 l0_1 ((rd_T56 l0_1 x54_3).f0) ((rd_T56 l0_1 x54_3).f1) ((rd_T56 l0_1 x54_3).f2))) else (patrol_Right.j4 k3 x54_3 l0_1 (l0_1.length : Int) x54_3 true l0_0 l0_1 ((rd_T56 l0_1 x54_3).f0) ((rd_T56 l0_1 x54_3).f1) ((rd_T56 l0_1 x54_3).f2))) = some r := H
             have A46 := a_ A460
             clear A460
             by_cases c47 : t395 = true
             ·subst c47
              have H1 : ((patrol_within.f ((rd_T56 l0_1 x54_3).f2) 0 20000000).bind fun t396 => (patrol_Right.j4 k3 x54_3 l0_1 (l0_1.length : Int) x54_3 (!t396) l0_0 l0_1 ((rd_T56 l0_1 x54_3).f0) ((rd_T56 l0_1 x54_3).f1) ((rd_T56 l0_1 x54_3).f2))) = some r := by rw [if_pos rfl] at H; exact H
              clear H
              have H := H1
              clear H1
              replace H := Option.bind_eq_some_iff.mp H
              obtain ⟨t396, A480, H⟩ := H
              replace H : (patrol_Right.j4 k3 x54_3 l0_1 (l0_1.length : Int) x54_3 (!t396) l0_0 l0_1 ((rd_T56 l0_1 x54_3).f0) ((rd_T56 l0_1 x54_3).f1) ((rd_T56 l0_1 x54_3).f2)) = some r := H
              have A48 := a_ A480
              clear A480
              have H' := a_ H
              clear H
              have hnb49 := NB394_387.out
              have hnc49 := NB387_394.out
              have hcz50_0 := cz_ BK394 0
              have hcz50_1 := cz_ BK394 1
              have hcz50_2 := cz_ BK394 2
              have hfz50_0 := fz_ BK394 0
              have hfz50_1 := fz_ BK394 1
              have hfz50_2 := fz_ BK394 2
              go_wp2_with (first | ((with_reducible refine gate_callee (f := 65) rfl ?_); refine gs_ (some 62) Try.func65 #[.int .i64 ((rd_T56 l0_1 x54_3).f0), .int .i64 1, .int .i64 9999] ?_; (with_reducible refine (patrol_within.calls ((rd_T56 l0_1 x54_3).f0) 1 9999 true _ A46.out).mono ?_); rintro e w' ⟨rfl, ⟨nd, rfl⟩⟩; refine ⟨_, rfl, ?_⟩) | (go_at_call 65; (with_reducible refine (patrol_within.calls ((rd_T56 l0_1 x54_3).f2) 0 20000000 t396 _ A48.out).mono ?_); rintro e w' ⟨rfl, ⟨nd, rfl⟩⟩))
              go_meet
              case rel => exact ⟨_, (!t396), (by first | rfl | (simp; done) | (simp [*]; done)), H', ⟨by have := HJ1.out; have := HK2.out; have := HK3.out; first | omega | exact Nat.le_refl _⟩, ⟨by refine blk_far ?_ NB387_394.out _; refine blk_far ?_ NB387_394.out _; refine blk_far ?_ NB387_394.out _; exact BK387.out⟩, ⟨by refine blk_put (cs := #[.int .i64 ((rd_T56 l0_1 x54_3).f0), .int .i64 ((rd_T56 l0_1 x54_3).f1), .int .i64 0]) ?_ 2 _ rfl; refine blk_put (cs := #[.int .i64 ((rd_T56 l0_1 x54_3).f0), .int .i64 0, .int .i64 0]) ?_ 1 _ rfl; refine blk_put (cs := #[.int .i64 0, .int .i64 0, .int .i64 0]) ?_ 0 _ rfl; exact BK394.out⟩, ⟨by repeat (first | (with_reducible first | exact HB.out | apply below_alloc | apply pw_below_drewN | apply below_drew1 | refine below_set ?_ GE387.out | refine below_set ?_ GE394.out) | exact HB.out)⟩⟩
             ·replace c47 := Bool.eq_false_iff.mpr c47
              subst c47
              have H1 : (patrol_Right.j4 k3 x54_3 l0_1 (l0_1.length : Int) x54_3 true l0_0 l0_1 ((rd_T56 l0_1 x54_3).f0) ((rd_T56 l0_1 x54_3).f1) ((rd_T56 l0_1 x54_3).f2)) = some r := by rw [if_neg (show ¬ (false = true) by decide)] at H; exact H
              clear H
              have H := H1
              clear H1
              have H' := a_ H
              clear H
              have hnb51 := NB394_387.out
              have hnc51 := NB387_394.out
              have hcz52_0 := cz_ BK394 0
              have hcz52_1 := cz_ BK394 1
              have hcz52_2 := cz_ BK394 2
              have hfz52_0 := fz_ BK394 0
              have hfz52_1 := fz_ BK394 1
              have hfz52_2 := fz_ BK394 2
              go_wp2_with (first | ((with_reducible refine gate_callee (f := 65) rfl ?_); refine gs_ (some 62) Try.func65 #[.int .i64 ((rd_T56 l0_1 x54_3).f0), .int .i64 1, .int .i64 9999] ?_; (with_reducible refine (patrol_within.calls ((rd_T56 l0_1 x54_3).f0) 1 9999 false _ A46.out).mono ?_); rintro e w' ⟨rfl, ⟨nd, rfl⟩⟩; refine ⟨_, rfl, ?_⟩))
              go_meet
              case rel => exact ⟨_, (true), (by first | rfl | (simp; done) | (simp [*]; done)), H', ⟨by have := HJ1.out; have := HK2.out; have := HK3.out; first | omega | exact Nat.le_refl _⟩, ⟨by refine blk_far ?_ NB387_394.out _; refine blk_far ?_ NB387_394.out _; refine blk_far ?_ NB387_394.out _; exact BK387.out⟩, ⟨by refine blk_put (cs := #[.int .i64 ((rd_T56 l0_1 x54_3).f0), .int .i64 ((rd_T56 l0_1 x54_3).f1), .int .i64 0]) ?_ 2 _ rfl; refine blk_put (cs := #[.int .i64 ((rd_T56 l0_1 x54_3).f0), .int .i64 0, .int .i64 0]) ?_ 1 _ rfl; refine blk_put (cs := #[.int .i64 0, .int .i64 0, .int .i64 0]) ?_ 0 _ rfl; exact BK394.out⟩, ⟨by repeat (first | (with_reducible first | exact HB.out | apply below_alloc | apply pw_below_drewN | apply below_drew1 | refine below_set ?_ GE387.out | refine below_set ?_ GE394.out) | exact HB.out)⟩⟩
            case rest =>
             clear HC42
             try clear c1
             try clear c2
             try clear p2
             try clear c3
             try clear p3
             try clear q3
             try clear hx3
             try clear c4
             try clear c4b0
             try clear c4b1
             try clear c5
             try clear c6
             try clear p6
             try clear c7
             try clear c9
             try clear c9b0
             try clear c10
             try clear c10b0
             try clear c11
             try clear c11b0
             try clear c13
             try clear c16
             try clear c18
             try clear c18b0
             try clear c19
             try clear c20
             try clear c20b0
             try clear c21
             try clear c21b0
             try clear c26
             try clear c28
             try clear c28b0
             try clear c28b1
             try clear c29
             try clear c32
             try clear c36
             try clear c38
             try clear p38
             try clear q38
             try clear hx38
             try clear c39
             try clear c39b0
             try clear p39
             try clear q39
             try clear hx39
             try clear c40
             try clear c40b0
             try clear c41
             try clear c41b0
             try clear c44
             try clear c47
             try clear c49
             try clear c51
             try clear hcz17_0
             try clear hcz17_1
             try clear hcz17_2
             try clear hcz17_3
             try clear hcz30_0
             try clear hcz30_1
             try clear hcz30_2
             try clear hcz30_3
             try clear hcz33_0
             try clear hcz33_1
             try clear hcz33_2
             try clear hcz33_3
             try clear hcz37_0
             try clear hcz37_1
             try clear hcz37_2
             try clear hcz37_3
             try clear hcz38_0
             try clear hcz38_1
             try clear hcz45_0
             try clear hcz45_1
             try clear hcz45_2
             try clear hcz50_0
             try clear hcz50_1
             try clear hcz50_2
             try clear hcz52_0
             try clear hcz52_1
             try clear hcz52_2
             try clear hcz5_0
             try clear hcz5_1
             try clear hcz6_0
             try clear hcz6_1
             try clear hcz8_0
             try clear hcz8_1
             try clear hfz17_0
             try clear hfz17_1
             try clear hfz17_2
             try clear hfz17_3
             try clear hfz30_0
             try clear hfz30_1
             try clear hfz30_2
             try clear hfz30_3
             try clear hfz33_0
             try clear hfz33_1
             try clear hfz33_2
             try clear hfz33_3
             try clear hfz37_0
             try clear hfz37_1
             try clear hfz37_2
             try clear hfz37_3
             try clear hfz38_0
             try clear hfz38_1
             try clear hfz45_0
             try clear hfz45_1
             try clear hfz45_2
             try clear hfz50_0
             try clear hfz50_1
             try clear hfz50_2
             try clear hfz52_0
             try clear hfz52_1
             try clear hfz52_2
             try clear hfz5_0
             try clear hfz5_1
             try clear hfz6_0
             try clear hfz6_1
             try clear hfz8_0
             try clear hfz8_1
             try clear hx388_0
             try clear hx388_1
             try clear hx388_2
             try clear hx388_3
             try clear hx391_0
             try clear hx391_1
             try clear hx391_2
             try clear hx391_3
             try clear hx393_0
             try clear hx393_1
             try clear hx393_2
             try clear p2
             try clear p3
             try clear p38
             try clear p388
             try clear p391
             try clear p393
             try clear p6
             try clear q3
             try clear q38
             try clear q388
             try clear q391
             try clear q393
             obtain ⟨kq, x59_41, rfl, HA, HJ41, BK387, BK394, HB⟩ := hcut
             cases kq with
             | zero => exact absurd HA.out (by simp [patrol_Right.j4])
             | succ kj41 =>
              have H := HA.out
              clear HA
              simp only [patrol_Right.j4] at H
              by_cases c53 : x59_41 = true
              ·subst c53
               have H1 : (some 2) = some r := by rw [if_pos rfl] at H; exact H
               clear H
               have H := H1
               clear H1
               obtain rfl := Option.some.inj H
               go_wp2
               go_ret
               exact ⟨by first | rfl | (simp [errW_none, errW_some] <;> rfl) | (simp [*, errW_none, errW_some] <;> rfl), by repeat (first | (with_reducible first | exact HB.out | apply below_alloc | apply pw_below_drewN | apply below_drew1 | refine below_set ?_ GE387.out | refine below_set ?_ GE394.out) | exact HB.out)⟩
              ·replace c53 := Bool.eq_false_iff.mpr c53
               subst c53
               have H1 : (if 0 ≤ x54_3 then (if x54_3 ≤ (l0_1.length : Int) then ((patrol_hazard.f (l0_1.take (x54_3 : Int).toNat) ((rd_T56 l0_1 x54_3).f0)).bind fun t401 => (if t401 ≥ 0 then (some 7) else ((patrol_list.f l0_0 ((rd_T56 l0_1 x54_3).f1)).bind fun t402 => (if t402 < 0 then (some 8) else (patrol_Right.l1 kj41 l0_1 (l0_1.length : Int) (wrap64 (x54_3 + 1)) l0_0 l0_1))))) else (none)) else (none)) = some r := by rw [if_neg (show ¬ (false = true) by decide)] at H; exact H
               clear H
               have H := H1
               clear H1
               by_cases c54 : 0 ≤ x54_3
               ·rw [if_pos c54] at H
                have c54b0 := eq_true c54
                have c54b1 : decide (0 ≤ x54_3) = true := decide_eq_true c54
                clear c54
                by_cases c55 : x54_3 ≤ (l0_1.length : Int)
                ·rw [if_pos c55] at H
                 have c55b0 := eq_true c55
                 have c55b1 : decide (x54_3 ≤ (l0_1.length : Int)) = true := decide_eq_true c55
                 clear c55
                 obtain ⟨y397, hy397⟩ : ∃ y_ : List (S56), y_ = (l0_1.take (x54_3 : Int).toNat) := ⟨_, rfl⟩
                 replace H : ((patrol_hazard.f y397 ((rd_T56 l0_1 x54_3).f0)).bind fun t401 => (if t401 ≥ 0 then (some 7) else ((patrol_list.f l0_0 ((rd_T56 l0_1 x54_3).f1)).bind fun t402 => (if t402 < 0 then (some 8) else (patrol_Right.l1 kj41 l0_1 (l0_1.length : Int) (wrap64 (x54_3 + 1)) l0_0 l0_1))))) = some r := by first | (rw [hy397]; with_reducible exact H) | (have H2_ := (Option.bind_some _ _).symm.trans H; rw [hy397]; with_reducible exact H2_) | (have H2_ := (Option.bind_some _ _).symm.trans H; with_reducible exact H2_) | with_reducible exact H | (rw [hy397]; exact H) | exact H
                 have Ny397 := a_ hy397
                 clear hy397
                 replace H := Option.bind_eq_some_iff.mp H
                 obtain ⟨t401, A560, H⟩ := H
                 replace H : (if t401 ≥ 0 then (some 7) else ((patrol_list.f l0_0 ((rd_T56 l0_1 x54_3).f1)).bind fun t402 => (if t402 < 0 then (some 8) else (patrol_Right.l1 kj41 l0_1 (l0_1.length : Int) (wrap64 (x54_3 + 1)) l0_0 l0_1)))) = some r := H
                 have A56 := a_ A560
                 clear A560
                 by_cases c57 : t401 ≥ 0
                 ·rw [if_pos c57] at H
                  have c57b0 : decide (0 ≤ t401) = true := decide_eq_true c57
                  clear c57
                  obtain rfl := Option.some.inj H
                  try go_wp2
                  have n0_ := a_ (blk_drew BK387.out)
                  have n1_ := a_ (blk_drew BK394.out)
                  have n2_ := a_ (below_drew1 HB.out)
                  clear BK387
                  clear BK394
                  clear HB
                  have BK387 := n0_
                  have BK394 := n1_
                  have HB := n2_
                  clear n0_ n1_ n2_
                  have q59 : (x54_3 : Int) ≤ ((l0_1.length : Int) : Int) := od_
                  obtain ⟨i059, hi059, _, hsz59, _⟩ := info_parts info56
                  have hroom59 : l0_1.length ≤ c0_1 := HC0_1.out
                  have hC59 : Kd.C k56 _ (some ad393) l0_1.length l0_1 := HR0_1.out
                  have hcut59 := cut_to (P := Try.prog) 46 56 .i64 Try.underlying46 hi059 (some ad393) l0_1.length c0_1 x54_3 (od_) q59 hroom59
                  have hr59 := Kd.C_take (m := (x54_3 : Int).toNat) hC59 (by omega)
                  have hy59 : y397.length = (x54_3 : Int).toNat := (by rw [Ny397.out, List.length_take]; omega)
                  rw [← Ny397.out] at hr59
                  rw [← hy59] at hcut59
                  have HR400 := a_ hr59
                  have HC400 := a_ (show y397.length ≤ c0_1 from by omega)
                  clear hr59 hC59 hroom59 hi059 hsz59
                  have KY59 := a_ hy59
                  clear hy59
                  replace q59 := eq_true q59
                  refine start_ (n := 9) (S := fun w' => w'.cell? ⟨gb387, 0, none⟩ = some (.slice A0_0 l0_0.length c0_0) ∧ w'.cell? ⟨gb387, 1, none⟩ = some (.slice (some ad393) l0_1.length c0_1) ∧ w'.cell? ⟨gb394, 0, none⟩ = some (.int .i64 ((rd_T56 l0_1 x54_3).f0)) ∧ w'.cell? ⟨gb394, 1, none⟩ = some (.int .i64 ((rd_T56 l0_1 x54_3).f1)) ∧ w'.cell? ⟨gb394, 2, none⟩ = some (.int .i64 ((rd_T56 l0_1 x54_3).f2))) (ds := []) #[false, false, false, false, false, false, false, false, false] (by kernel_rfl) rfl rfl ⟨(blk_cell BK387.out 0).trans rfl, (blk_cell BK387.out 1).trans rfl, (blk_cell BK394.out 0).trans rfl, (blk_cell BK394.out 1).trans rfl, (blk_cell BK394.out 2).trans rfl⟩ (fun hHeld => ?_); refine with_tabW patrol_Right.tab19 patrol_Right.bits19 (fun HT_ HW_ => ?_)
                  generalize wc.drew = w58 at BK387 BK394 HB HR400 hHeld ⊢
                  refine pq_ 0 (some 71) #[true, false, false, false, false, false, false, false, false] ?_
                  refine pq_ 2 (some 73) #[true, false, true, false, false, false, false, false, false] ?_
                  refine pq_ 4 (some 75) #[true, false, true, false, true, false, false, false, false] ?_
                  refine take_ (i := 1) (N := some 72) (v := ?_) (a' := ?_) #[true, true, true, false, true, false, false, false, false] rfl rfl (take_ofW HT_.out HW_.out (by kernel_rfl)) (fun _ _ _ h => h) (Or.inl ⟨by rfl, ?_⟩) hHeld ?_ ?_
                  rotate_left
                  ·rintro w' ⟨s0, s1, s2, s3, s4⟩
                   go_simp
                   with_reducible rfl
                  rotate_left
                  ·simp only [Act.put, List.setIfInBounds_toArray, List.set_cons_zero, List.set_cons_succ, i64_w, i32_w]
                   rfl
                  refine pq_ 3 (some 74) #[true, true, true, true, true, false, false, false, false] ?_
                  refine take_ (i := 5) (N := some 76) (v := ?_) (a' := ?_) #[true, true, true, true, true, true, false, false, false] rfl rfl (take_ofW HT_.out HW_.out (by kernel_rfl)) (fun _ _ _ h => h) (Or.inl ⟨by rfl, ?_⟩) hHeld ?_ ?_
                  rotate_left
                  ·rintro w' ⟨s0, s1, s2, s3, s4⟩
                   go_simp
                   with_reducible rfl
                  rotate_left
                  ·simp only [Act.put, List.setIfInBounds_toArray, List.set_cons_zero, List.set_cons_succ, i64_w, i32_w]
                   rfl
                  refine one_ (i := 6) (N := some 77) #[true, true, true, true, true, true, true, false, false] rfl rfl (one_of HT_.out (by kernel_rfl)) (by decide) (fun K hK => ?_)
                  refine goes_ Try.func66 (by kernel_rfl) rfl #[.slice (some ad393) y397.length c0_1, .int .i64 ((rd_T56 l0_1 x54_3).f0)] (by rfl) rfl rfl (by (try simp only [List.map_toArray, List.map_cons, List.map_nil]); first | done | rfl | (simp only [List.length_drop, List.length_take]; rfl)) ?_
                  with_reducible refine (patrol_hazard.calls _ _ y397 ((rd_T56 l0_1 x54_3).f0) t401 _ ?side1 ?side2 A56.out).mono ?_
                  (case side1 => exact kC_ (Kd.C_below HR400.out HB.out))
                  (case side2 => exact HC400.out)
                  rintro e w60 ⟨rfl, hb⟩
                  refine ⟨_, rfl, ?_⟩
                  have n0_ := a_ (blk_below (bk_ BK387.out) hb)
                  have n1_ := a_ (blk_below (bk_ BK394.out) hb)
                  have n2_ := a_ (below_step bel_ hb)
                  clear BK387
                  clear BK394
                  clear HB
                  have BK387 := n0_
                  have BK394 := n1_
                  have HB := n2_
                  clear n0_ n1_ n2_
                  (try clear hb)
                  (try clear hb2)
                  (try clear hk)
                  (try clear hi)
                  refine hK.out _ _ ⟨(blk_cell BK387.out 0).trans rfl, (blk_cell BK387.out 1).trans rfl, (blk_cell BK394.out 0).trans rfl, (blk_cell BK394.out 1).trans rfl, (blk_cell BK394.out 2).trans rfl⟩ (fun hHeld => ?_)
                  clear hK K
                  refine norm_ (a' := ?_) ?_ ?_
                  rotate_left
                  ·show Act.put _ (some 77) _ = _
                   simp only [Act.put, List.setIfInBounds_toArray, List.set_cons_zero, List.set_cons_succ, i64_w, i32_w]
                   rfl
                  refine pq_ 7 (some 78) #[true, true, true, true, true, true, true, true, false] ?_
                  refine pq_ 8 (some 70) #[true, true, true, true, true, true, true, true, true] ?_
                  refine done_ (done_of HT_.out (by kernel_rfl)) ?_
                  try go_wp2
                  go_ret
                  exact ⟨by first | rfl | (simp [errW_none, errW_some] <;> rfl) | (simp [*, errW_none, errW_some] <;> rfl), by repeat (first | (with_reducible first | exact HB.out | apply below_alloc | apply pw_below_drewN | apply below_drew1 | refine below_set ?_ GE387.out | refine below_set ?_ GE394.out) | exact HB.out)⟩
                 ·rw [if_neg c57] at H
                  have c57b0 : decide (0 ≤ t401) = false := decide_eq_false c57
                  clear c57
                  replace H := Option.bind_eq_some_iff.mp H
                  obtain ⟨t402, A610, H⟩ := H
                  replace H : (if t402 < 0 then (some 8) else (patrol_Right.l1 kj41 l0_1 (l0_1.length : Int) (wrap64 (x54_3 + 1)) l0_0 l0_1)) = some r := H
                  have A61 := a_ A610
                  clear A610
                  by_cases c62 : t402 < 0
                  ·rw [if_pos c62] at H
                   have c62b0 : decide (t402 < 0) = true := decide_eq_true c62
                   clear c62
                   obtain rfl := Option.some.inj H
                   try go_wp2
                   have n0_ := a_ (blk_drew BK387.out)
                   have n1_ := a_ (blk_drew BK394.out)
                   have n2_ := a_ (below_drew1 HB.out)
                   clear BK387
                   clear BK394
                   clear HB
                   have BK387 := n0_
                   have BK394 := n1_
                   have HB := n2_
                   clear n0_ n1_ n2_
                   have q64 : (x54_3 : Int) ≤ ((l0_1.length : Int) : Int) := od_
                   obtain ⟨i064, hi064, _, hsz64, _⟩ := info_parts info56
                   have hroom64 : l0_1.length ≤ c0_1 := HC0_1.out
                   have hC64 : Kd.C k56 _ (some ad393) l0_1.length l0_1 := HR0_1.out
                   have hcut64 := cut_to (P := Try.prog) 46 56 .i64 Try.underlying46 hi064 (some ad393) l0_1.length c0_1 x54_3 (od_) q64 hroom64
                   have hr64 := Kd.C_take (m := (x54_3 : Int).toNat) hC64 (by omega)
                   have hy64 : y397.length = (x54_3 : Int).toNat := (by rw [Ny397.out, List.length_take]; omega)
                   rw [← Ny397.out] at hr64
                   rw [← hy64] at hcut64
                   have HR400 := a_ hr64
                   have HC400 := a_ (show y397.length ≤ c0_1 from by omega)
                   clear hr64 hC64 hroom64 hi064 hsz64
                   have KY64 := a_ hy64
                   clear hy64
                   replace q64 := eq_true q64
                   refine start_ (n := 9) (S := fun w' => w'.cell? ⟨gb387, 0, none⟩ = some (.slice A0_0 l0_0.length c0_0) ∧ w'.cell? ⟨gb387, 1, none⟩ = some (.slice (some ad393) l0_1.length c0_1) ∧ w'.cell? ⟨gb394, 0, none⟩ = some (.int .i64 ((rd_T56 l0_1 x54_3).f0)) ∧ w'.cell? ⟨gb394, 1, none⟩ = some (.int .i64 ((rd_T56 l0_1 x54_3).f1)) ∧ w'.cell? ⟨gb394, 2, none⟩ = some (.int .i64 ((rd_T56 l0_1 x54_3).f2))) (ds := []) #[false, false, false, false, false, false, false, false, false] (by kernel_rfl) rfl rfl ⟨(blk_cell BK387.out 0).trans rfl, (blk_cell BK387.out 1).trans rfl, (blk_cell BK394.out 0).trans rfl, (blk_cell BK394.out 1).trans rfl, (blk_cell BK394.out 2).trans rfl⟩ (fun hHeld => ?_); refine with_tabW patrol_Right.tab19 patrol_Right.bits19 (fun HT_ HW_ => ?_)
                   generalize wc.drew = w63 at BK387 BK394 HB HR400 hHeld ⊢
                   refine pq_ 0 (some 71) #[true, false, false, false, false, false, false, false, false] ?_
                   refine pq_ 2 (some 73) #[true, false, true, false, false, false, false, false, false] ?_
                   refine pq_ 4 (some 75) #[true, false, true, false, true, false, false, false, false] ?_
                   refine take_ (i := 1) (N := some 72) (v := ?_) (a' := ?_) #[true, true, true, false, true, false, false, false, false] rfl rfl (take_ofW HT_.out HW_.out (by kernel_rfl)) (fun _ _ _ h => h) (Or.inl ⟨by rfl, ?_⟩) hHeld ?_ ?_
                   rotate_left
                   ·rintro w' ⟨s0, s1, s2, s3, s4⟩
                    go_simp
                    with_reducible rfl
                   rotate_left
                   ·simp only [Act.put, List.setIfInBounds_toArray, List.set_cons_zero, List.set_cons_succ, i64_w, i32_w]
                    rfl
                   refine pq_ 3 (some 74) #[true, true, true, true, true, false, false, false, false] ?_
                   refine take_ (i := 5) (N := some 76) (v := ?_) (a' := ?_) #[true, true, true, true, true, true, false, false, false] rfl rfl (take_ofW HT_.out HW_.out (by kernel_rfl)) (fun _ _ _ h => h) (Or.inl ⟨by rfl, ?_⟩) hHeld ?_ ?_
                   rotate_left
                   ·rintro w' ⟨s0, s1, s2, s3, s4⟩
                    go_simp
                    with_reducible rfl
                   rotate_left
                   ·simp only [Act.put, List.setIfInBounds_toArray, List.set_cons_zero, List.set_cons_succ, i64_w, i32_w]
                    rfl
                   refine one_ (i := 6) (N := some 77) #[true, true, true, true, true, true, true, false, false] rfl rfl (one_of HT_.out (by kernel_rfl)) (by decide) (fun K hK => ?_)
                   refine goes_ Try.func66 (by kernel_rfl) rfl #[.slice (some ad393) y397.length c0_1, .int .i64 ((rd_T56 l0_1 x54_3).f0)] (by rfl) rfl rfl (by (try simp only [List.map_toArray, List.map_cons, List.map_nil]); first | done | rfl | (simp only [List.length_drop, List.length_take]; rfl)) ?_
                   with_reducible refine (patrol_hazard.calls _ _ y397 ((rd_T56 l0_1 x54_3).f0) t401 _ ?side1 ?side2 A56.out).mono ?_
                   (case side1 => exact kC_ (Kd.C_below HR400.out HB.out))
                   (case side2 => exact HC400.out)
                   rintro e w65 ⟨rfl, hb⟩
                   refine ⟨_, rfl, ?_⟩
                   have n0_ := a_ (blk_below (bk_ BK387.out) hb)
                   have n1_ := a_ (blk_below (bk_ BK394.out) hb)
                   have n2_ := a_ (below_step bel_ hb)
                   clear BK387
                   clear BK394
                   clear HB
                   have BK387 := n0_
                   have BK394 := n1_
                   have HB := n2_
                   clear n0_ n1_ n2_
                   (try clear hb)
                   (try clear hb2)
                   (try clear hk)
                   (try clear hi)
                   refine hK.out _ _ ⟨(blk_cell BK387.out 0).trans rfl, (blk_cell BK387.out 1).trans rfl, (blk_cell BK394.out 0).trans rfl, (blk_cell BK394.out 1).trans rfl, (blk_cell BK394.out 2).trans rfl⟩ (fun hHeld => ?_)
                   clear hK K
                   refine norm_ (a' := ?_) ?_ ?_
                   rotate_left
                   ·show Act.put _ (some 77) _ = _
                    simp only [Act.put, List.setIfInBounds_toArray, List.set_cons_zero, List.set_cons_succ, i64_w, i32_w]
                    rfl
                   refine pq_ 7 (some 78) #[true, true, true, true, true, true, true, true, false] ?_
                   refine pq_ 8 (some 70) #[true, true, true, true, true, true, true, true, true] ?_
                   refine done_ (done_of HT_.out (by kernel_rfl)) ?_
                   have hnb66 := NB387_394.out
                   have hnc66 := NB394_387.out
                   have hcz67_0 := cz_ BK387 0
                   have hcz67_1 := cz_ BK387 1
                   have hfz67_0 := fz_ BK387 0
                   have hfz67_1 := fz_ BK387 1
                   have hcz68_0 := cz_ BK394 0
                   have hcz68_1 := cz_ BK394 1
                   have hcz68_2 := cz_ BK394 2
                   have hfz68_0 := fz_ BK394 0
                   have hfz68_1 := fz_ BK394 1
                   have hfz68_2 := fz_ BK394 2
                   try go_wp2_with (first | ((with_reducible refine gate_callee (f := 67) rfl ?_); refine gs_ (some 84) Try.func67 #[.slice A0_0 l0_0.length c0_0, .int .i64 ((rd_T56 l0_1 x54_3).f1)] ?_; (with_reducible refine (patrol_list.calls _ _ l0_0 ((rd_T56 l0_1 x54_3).f1) t402 _ ?side1 ?side2 A61.out).mono ?_); (case side1 => exact kC_ (Kd.C_below HR0_0.out HB.out)); (case side2 => exact HC0_0.out); rintro e w69 ⟨rfl, hb⟩; refine ⟨_, rfl, ?_⟩; have n0_ := a_ (blk_below (bk_ BK387.out) hb); have n1_ := a_ (blk_below (bk_ BK394.out) hb); have n2_ := a_ (below_step bel_ hb); clear BK387; clear BK394; clear HB; have BK387 := n0_; have BK394 := n1_; have HB := n2_; clear n0_ n1_ n2_; (try clear hb); (try clear hb2); (try clear hk); (try clear hi)))
                   go_ret
                   exact ⟨by first | rfl | (simp [errW_none, errW_some] <;> rfl) | (simp [*, errW_none, errW_some] <;> rfl), by repeat (first | (with_reducible first | exact HB.out | apply below_alloc | apply pw_below_drewN | apply below_drew1 | refine below_set ?_ GE387.out | refine below_set ?_ GE394.out) | exact HB.out)⟩
                  ·rw [if_neg c62] at H
                   have c62b0 : decide (t402 < 0) = false := decide_eq_false c62
                   clear c62
                   have H' := a_ H
                   clear H
                   try go_wp2
                   have n0_ := a_ (blk_drew BK387.out)
                   have n1_ := a_ (blk_drew BK394.out)
                   have n2_ := a_ (below_drew1 HB.out)
                   clear BK387
                   clear BK394
                   clear HB
                   have BK387 := n0_
                   have BK394 := n1_
                   have HB := n2_
                   clear n0_ n1_ n2_
                   have q71 : (x54_3 : Int) ≤ ((l0_1.length : Int) : Int) := od_
                   obtain ⟨i071, hi071, _, hsz71, _⟩ := info_parts info56
                   have hroom71 : l0_1.length ≤ c0_1 := HC0_1.out
                   have hC71 : Kd.C k56 _ (some ad393) l0_1.length l0_1 := HR0_1.out
                   have hcut71 := cut_to (P := Try.prog) 46 56 .i64 Try.underlying46 hi071 (some ad393) l0_1.length c0_1 x54_3 (od_) q71 hroom71
                   have hr71 := Kd.C_take (m := (x54_3 : Int).toNat) hC71 (by omega)
                   have hy71 : y397.length = (x54_3 : Int).toNat := (by rw [Ny397.out, List.length_take]; omega)
                   rw [← Ny397.out] at hr71
                   rw [← hy71] at hcut71
                   have HR400 := a_ hr71
                   have HC400 := a_ (show y397.length ≤ c0_1 from by omega)
                   clear hr71 hC71 hroom71 hi071 hsz71
                   have KY71 := a_ hy71
                   clear hy71
                   replace q71 := eq_true q71
                   refine start_ (n := 9) (S := fun w' => w'.cell? ⟨gb387, 0, none⟩ = some (.slice A0_0 l0_0.length c0_0) ∧ w'.cell? ⟨gb387, 1, none⟩ = some (.slice (some ad393) l0_1.length c0_1) ∧ w'.cell? ⟨gb394, 0, none⟩ = some (.int .i64 ((rd_T56 l0_1 x54_3).f0)) ∧ w'.cell? ⟨gb394, 1, none⟩ = some (.int .i64 ((rd_T56 l0_1 x54_3).f1)) ∧ w'.cell? ⟨gb394, 2, none⟩ = some (.int .i64 ((rd_T56 l0_1 x54_3).f2))) (ds := []) #[false, false, false, false, false, false, false, false, false] (by kernel_rfl) rfl rfl ⟨(blk_cell BK387.out 0).trans rfl, (blk_cell BK387.out 1).trans rfl, (blk_cell BK394.out 0).trans rfl, (blk_cell BK394.out 1).trans rfl, (blk_cell BK394.out 2).trans rfl⟩ (fun hHeld => ?_); refine with_tabW patrol_Right.tab19 patrol_Right.bits19 (fun HT_ HW_ => ?_)
                   generalize wc.drew = w70 at BK387 BK394 HB HR400 hHeld ⊢
                   refine pq_ 0 (some 71) #[true, false, false, false, false, false, false, false, false] ?_
                   refine pq_ 2 (some 73) #[true, false, true, false, false, false, false, false, false] ?_
                   refine pq_ 4 (some 75) #[true, false, true, false, true, false, false, false, false] ?_
                   refine take_ (i := 1) (N := some 72) (v := ?_) (a' := ?_) #[true, true, true, false, true, false, false, false, false] rfl rfl (take_ofW HT_.out HW_.out (by kernel_rfl)) (fun _ _ _ h => h) (Or.inl ⟨by rfl, ?_⟩) hHeld ?_ ?_
                   rotate_left
                   ·rintro w' ⟨s0, s1, s2, s3, s4⟩
                    go_simp
                    with_reducible rfl
                   rotate_left
                   ·simp only [Act.put, List.setIfInBounds_toArray, List.set_cons_zero, List.set_cons_succ, i64_w, i32_w]
                    rfl
                   refine pq_ 3 (some 74) #[true, true, true, true, true, false, false, false, false] ?_
                   refine take_ (i := 5) (N := some 76) (v := ?_) (a' := ?_) #[true, true, true, true, true, true, false, false, false] rfl rfl (take_ofW HT_.out HW_.out (by kernel_rfl)) (fun _ _ _ h => h) (Or.inl ⟨by rfl, ?_⟩) hHeld ?_ ?_
                   rotate_left
                   ·rintro w' ⟨s0, s1, s2, s3, s4⟩
                    go_simp
                    with_reducible rfl
                   rotate_left
                   ·simp only [Act.put, List.setIfInBounds_toArray, List.set_cons_zero, List.set_cons_succ, i64_w, i32_w]
                    rfl
                   refine one_ (i := 6) (N := some 77) #[true, true, true, true, true, true, true, false, false] rfl rfl (one_of HT_.out (by kernel_rfl)) (by decide) (fun K hK => ?_)
                   refine goes_ Try.func66 (by kernel_rfl) rfl #[.slice (some ad393) y397.length c0_1, .int .i64 ((rd_T56 l0_1 x54_3).f0)] (by rfl) rfl rfl (by (try simp only [List.map_toArray, List.map_cons, List.map_nil]); first | done | rfl | (simp only [List.length_drop, List.length_take]; rfl)) ?_
                   with_reducible refine (patrol_hazard.calls _ _ y397 ((rd_T56 l0_1 x54_3).f0) t401 _ ?side1 ?side2 A56.out).mono ?_
                   (case side1 => exact kC_ (Kd.C_below HR400.out HB.out))
                   (case side2 => exact HC400.out)
                   rintro e w72 ⟨rfl, hb⟩
                   refine ⟨_, rfl, ?_⟩
                   have n0_ := a_ (blk_below (bk_ BK387.out) hb)
                   have n1_ := a_ (blk_below (bk_ BK394.out) hb)
                   have n2_ := a_ (below_step bel_ hb)
                   clear BK387
                   clear BK394
                   clear HB
                   have BK387 := n0_
                   have BK394 := n1_
                   have HB := n2_
                   clear n0_ n1_ n2_
                   (try clear hb)
                   (try clear hb2)
                   (try clear hk)
                   (try clear hi)
                   refine hK.out _ _ ⟨(blk_cell BK387.out 0).trans rfl, (blk_cell BK387.out 1).trans rfl, (blk_cell BK394.out 0).trans rfl, (blk_cell BK394.out 1).trans rfl, (blk_cell BK394.out 2).trans rfl⟩ (fun hHeld => ?_)
                   clear hK K
                   refine norm_ (a' := ?_) ?_ ?_
                   rotate_left
                   ·show Act.put _ (some 77) _ = _
                    simp only [Act.put, List.setIfInBounds_toArray, List.set_cons_zero, List.set_cons_succ, i64_w, i32_w]
                    rfl
                   refine pq_ 7 (some 78) #[true, true, true, true, true, true, true, true, false] ?_
                   refine pq_ 8 (some 70) #[true, true, true, true, true, true, true, true, true] ?_
                   refine done_ (done_of HT_.out (by kernel_rfl)) ?_
                   have hnb73 := NB387_394.out
                   have hnc73 := NB394_387.out
                   have hcz74_0 := cz_ BK387 0
                   have hcz74_1 := cz_ BK387 1
                   have hfz74_0 := fz_ BK387 0
                   have hfz74_1 := fz_ BK387 1
                   have hcz75_0 := cz_ BK394 0
                   have hcz75_1 := cz_ BK394 1
                   have hcz75_2 := cz_ BK394 2
                   have hfz75_0 := fz_ BK394 0
                   have hfz75_1 := fz_ BK394 1
                   have hfz75_2 := fz_ BK394 2
                   try go_wp2_with (first | ((with_reducible refine gate_callee (f := 67) rfl ?_); refine gs_ (some 84) Try.func67 #[.slice A0_0 l0_0.length c0_0, .int .i64 ((rd_T56 l0_1 x54_3).f1)] ?_; (with_reducible refine (patrol_list.calls _ _ l0_0 ((rd_T56 l0_1 x54_3).f1) t402 _ ?side1 ?side2 A61.out).mono ?_); (case side1 => exact kC_ (Kd.C_below HR0_0.out HB.out)); (case side2 => exact HC0_0.out); rintro e w76 ⟨rfl, hb⟩; refine ⟨_, rfl, ?_⟩; have n0_ := a_ (blk_below (bk_ BK387.out) hb); have n1_ := a_ (blk_below (bk_ BK394.out) hb); have n2_ := a_ (below_step bel_ hb); clear BK387; clear BK394; clear HB; have BK387 := n0_; have BK394 := n1_; have HB := n2_; clear n0_ n1_ n2_; (try clear hb); (try clear hb2); (try clear hk); (try clear hi)))
                   go_roundg kj41
                   case measure => have := HJ1.out; have := HK2.out; have := HK3.out; have := HJ41.out; omega
                   case rel => exact ⟨(wrap64 (x54_3 + 1)), (by first | rfl | (simp; done) | (simp [*]; done)), H', ⟨by have := HJ1.out; have := HK2.out; have := HK3.out; have := HJ41.out; omega⟩, ⟨by exact BK387.out⟩, ⟨by repeat (first | (with_reducible first | exact HB.out | apply below_alloc | apply pw_below_drewN | apply below_drew1 | refine below_set ?_ GE387.out | refine below_set ?_ GE394.out) | exact HB.out)⟩⟩
                ·rw [if_neg c55] at H
                 exact absurd H (by simp)
               ·rw [if_neg c54] at H
                exact absurd H (by simp)
           ·rw [if_neg c41] at H
            exact absurd H (by simp)
          ·rw [if_neg c40] at H
           exact absurd H (by simp)
         ·rw [if_neg c39] at H
          have c39b0 : decide (x54_3 < (l0_1.length : Int)) = false := decide_eq_false c39
          clear c39
          obtain rfl := Option.some.inj H
          go_wp2
          go_ret
          exact ⟨by first | rfl | (simp [errW_none, errW_some] <;> rfl) | (simp [*, errW_none, errW_some] <;> rfl), by repeat (first | (with_reducible first | exact HB.out | apply below_alloc | apply pw_below_drewN | apply below_drew1 | refine below_set ?_ GE387.out) | exact HB.out)⟩
end Go.Proofs.Ytmhggplhfcmgkaa.Q
