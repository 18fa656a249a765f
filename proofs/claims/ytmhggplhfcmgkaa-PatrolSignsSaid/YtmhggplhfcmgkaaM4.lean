/- Walks and plain laws that this claim bears (this session's). -/
import Derived.Test.YtmhggplhfcmgkaaM0
namespace Go.Proofs.Ytmhggplhfcmgkaa.Q
open Go.RowKit Go.Proofs.YtmhggplhfcmgkaaW.PrintWords Go.Proofs.YtmhggplhfcmgkaaW.PrintLast Go.Proofs.YtmhggplhfcmgkaaW.PrintMore
attribute [local go_sem] max2_int min2_int max_two min_two max_three min_three max_four min_four   -- for this text's walks alone
set_option linter.unusedVariables false
set_option linter.unusedSimpArgs false
mutual
def skiarealaw53_small.l0 : Nat → Int → List (S63) → List (S56) → Option (Bool)
 | 0, _, _, _ => none
 | k + 1, x3, x525000, x525001 => if x3 < (x525000.length : Int) then (skiarealaw53_small.j1 k x3 (decide (x3 < 71)) x525000 x525001) else (skiarealaw53_small.j1 k x3 false x525000 x525001)
def skiarealaw53_small.j1 : Nat → Int → Bool → List (S63) → List (S56) → Option (Bool)
 | 0, _, _, _, _ => none
 | k + 1, x3, x12, x525000, x525001 => if x12 = true then (if 0 ≤ x3 then (if x3 < (x525000.length : Int) then (if (((rd_T63 x525000 x3).f1.f0).length : Int) > 70 then (some false) else (if (((rd_T63 x525000 x3).f1.f2).length : Int) > 210 then (some false) else (skiarealaw53_small.l0 k (wrap64 (x3 + 1)) x525000 x525001))) else (none)) else (none)) else (if (x525000.length : Int) ≤ 70 then (some (decide ((x525001.length : Int) ≤ 210))) else (some false))
end
def skiarealaw53_small.f (k : Nat) (l0_0 : List (S63)) (l0_1 : List (S56)) : Option (Bool) := skiarealaw53_small.l0 k 0 l0_0 l0_1
theorem skiarealaw53_small.mono_l : ∀ k, (∀ y0 y1 y2, LeO (skiarealaw53_small.l0 k y0 y1 y2) (skiarealaw53_small.l0 (k + 1) y0 y1 y2)) ∧ (∀ y0 y1 y2 y3, LeO (skiarealaw53_small.j1 k y0 y1 y2 y3) (skiarealaw53_small.j1 (k + 1) y0 y1 y2 y3))
 | 0 => ⟨fun _ _ _ r h => by simp [skiarealaw53_small.l0] at h, fun _ _ _ _ r h => by simp [skiarealaw53_small.j1] at h⟩
 | k + 1 => by
  obtain ⟨ih0, ih1⟩ := skiarealaw53_small.mono_l k
  refine ⟨?_, ?_⟩
  ·intro y0 y1 y2
   unfold skiarealaw53_small.l0
   repeat' first
   | (with_reducible exact ih0 _ _ _)
   | (with_reducible exact ih1 _ _ _ _)
   | (with_reducible exact LeO.refl _)
   | (with_reducible exact LeO.none _)
   | (with_reducible refine LeO.ite ?_ ?_)
   | (with_reducible refine LeO.bind ?_ (fun _ => ?_))
   | exact ih0 _ _ _
   | exact ih1 _ _ _ _
   | exact LeO.none _
   | refine LeO.ite ?_ ?_
   | refine LeO.bind ?_ (fun _ => ?_)
  ·intro y0 y1 y2 y3
   unfold skiarealaw53_small.j1
   repeat' first
   | (with_reducible exact ih0 _ _ _)
   | (with_reducible exact ih1 _ _ _ _)
   | (with_reducible exact LeO.refl _)
   | (with_reducible exact LeO.none _)
   | (with_reducible refine LeO.ite ?_ ?_)
   | (with_reducible refine LeO.bind ?_ (fun _ => ?_))
   | exact ih0 _ _ _
   | exact ih1 _ _ _ _
   | exact LeO.none _
   | refine LeO.ite ?_ ?_
   | refine LeO.bind ?_ (fun _ => ?_)
theorem skiarealaw53_small.mono : ∀ a0 a1 k, LeO (skiarealaw53_small.f k a0 a1) (skiarealaw53_small.f (k + 1) a0 a1) := by
 intro a0 a1 k
 obtain ⟨ih0, ih1⟩ := skiarealaw53_small.mono_l k
 unfold skiarealaw53_small.f
 repeat' first
   | (with_reducible exact ih0 _ _ _)
   | (with_reducible exact ih1 _ _ _ _)
   | (with_reducible exact LeO.refl _)
   | (with_reducible exact LeO.none _)
   | (with_reducible refine LeO.ite ?_ ?_)
   | (with_reducible refine LeO.bind ?_ (fun _ => ?_))
   | exact ih0 _ _ _
   | exact ih1 _ _ _ _
   | exact LeO.none _
   | refine LeO.ite ?_ ?_
   | refine LeO.bind ?_ (fun _ => ?_)
set_option maxHeartbeats 8000000 in
set_option maxRecDepth 100000 in
theorem skiarealaw53_small.calls (k : Nat) (A0_0 : Option Addr) (c0_0 : Nat) (l0_0 : List (S63)) (A0_1 : Option Addr) (c0_1 : Nat) (l0_1 : List (S56)) (r : Bool) (w : World) (hr0_0 : Kd.C k63 w A0_0 l0_0.length l0_0) (hc0_0 : l0_0.length ≤ c0_0) (hr0_1 : Kd.C k56 w A0_1 l0_1.length l0_1) (hc0_1 : l0_1.length ≤ c0_1) (h : skiarealaw53_small.f k l0_0 l0_1 = some r) :
  Calls Try.prog 35 #[.agg #[.slice A0_0 l0_0.length c0_0, .slice A0_1 l0_1.length c0_1]] w fun e w' => e = .returned (.bool r) ∧ Below w.heap.size w w' := by
 have hu48 := Try.underlying48
 have HR0_0 := a_ hr0_0
 have HC0_0 := a_ hc0_0
 clear hr0_0 hc0_0
 have HR0_1 := a_ hr0_1
 have HC0_1 := a_ hc0_1
 clear hr0_1 hc0_1
 have HB := a_ (Below.refl w.heap.size w)
 have H : (skiarealaw53_small.l0 k 0 l0_0 l0_1) = some r := h
 clear h
 have H' := a_ H
 clear H
 go_enter Try.func35, Try.ntmps35
 go_wp2_with (first | ((with_reducible refine gate_dst (N := 1) rfl ?_); (try (refine gate_guard (by rfl) ?_; dsimp only)); refine box_event ?hg (N := 1) ?hd (cs := #[.slice A0_0 l0_0.length c0_0, .slice A0_1 l0_1.length c0_1]) (t := 48) ?hr ?_; (case hd => rfl); (case hg => rfl); (case hr => first | (go_simp; done) | (go_simp; rfl)); intro gb524 hg w2 hbox hb; have n0_ := a_ (below_step bel_ hb); have n1_ := a_ (hbox); have n2_ := a_ (bz_ hg : w.heap.size ≤ gb524); have n3_ := a_ (bz_ hg : w.heap.size ≤ gb524); clear HB; have HB := n0_; have BK524 := n1_; have GW524 := n2_; have GE524 := n3_; clear n0_ n1_ n2_ n3_; clear hb hbox hg))
 go_loopg [3] k (fun kq v3 w' => ∃ (x3_1 : Int), v3 = .int .i64 x3_1 ∧ Aside0 (skiarealaw53_small.l0 kq x3_1 l0_0 l0_1 = some r) ∧ Aside0 (kq ≤ k) ∧ Aside0 (w'.heap[gb524]? = some (.cells #[(.slice A0_0 l0_0.length c0_0), (.slice A0_1 l0_1.length c0_1)] 48 (0, 0))) ∧ Aside0 (Below w.heap.size w w'))
 case atStart => exact ⟨(0), (by first | rfl | (simp; done) | (simp [*]; done)), H', ⟨Nat.le_refl _⟩, ⟨by exact BK524.out⟩, ⟨by repeat (first | (with_reducible first | exact HB.out | apply below_alloc | apply pw_below_drewN | apply below_drew1 | refine below_set ?_ GE524.out) | exact HB.out)⟩⟩
 case round =>
  clear H'
  try clear p2
  obtain ⟨x3_1, rfl, HA, HK1, BK524, HB⟩ := hrel
  cases gk with
  | zero => exact absurd HA.out (by simp [skiarealaw53_small.l0])
  | succ k1 =>
   have H := HA.out
   clear HA
   simp only [skiarealaw53_small.l0] at H
   have HC3 := a_ H
   clear H
   go_upto_region 2 with (fail)
   go_cut [12] (fun v12 wc => ∃ (kq : Nat) (x12_2 : Bool), v12 = .bool x12_2 ∧ Aside0 (skiarealaw53_small.j1 kq x3_1 x12_2 l0_0 l0_1 = some r) ∧ Aside0 (kq ≤ k1) ∧ Aside0 (wc.heap[gb524]? = some (.cells #[(.slice A0_0 l0_0.length c0_0), (.slice A0_1 l0_1.length c0_1)] 48 (0, 0))) ∧ Aside0 (Below w.heap.size w wc))
   case first =>
    have H := HC3.out
    clear HC3
    by_cases c4 : x3_1 < (l0_0.length : Int)
    ·rw [if_pos c4] at H
     have c4b0 : decide (x3_1 < (l0_0.length : Int)) = true := decide_eq_true c4
     clear c4
     (first | rw [c4b0] | (simp only [i64_w, i32_w]; rw [c4b0]) | skip)
     have H' := a_ H
     clear H
     have hcz5_0 := cz_ BK524 0
     have hcz5_1 := cz_ BK524 1
     have hfz5_0 := fz_ BK524 0
     have hfz5_1 := fz_ BK524 1
     go_wp2
     go_meet
     case rel => exact ⟨_, (decide (x3_1 < 71)), (by first | rfl | (simp; done) | (simp [*]; done)), H', ⟨by have := HK1.out; first | omega | exact Nat.le_refl _⟩, ⟨by exact BK524.out⟩, ⟨by repeat (first | (with_reducible first | exact HB.out | apply below_alloc | apply pw_below_drewN | apply below_drew1 | refine below_set ?_ GE524.out) | exact HB.out)⟩⟩
    ·rw [if_neg c4] at H
     have c4b0 : decide (x3_1 < (l0_0.length : Int)) = false := decide_eq_false c4
     clear c4
     (first | rw [c4b0] | (simp only [i64_w, i32_w]; rw [c4b0]) | skip)
     have H' := a_ H
     clear H
     have hcz6_0 := cz_ BK524 0
     have hcz6_1 := cz_ BK524 1
     have hfz6_0 := fz_ BK524 0
     have hfz6_1 := fz_ BK524 1
     go_wp2
     go_meet
     case rel => exact ⟨_, (false), (by first | rfl | (simp; done) | (simp [*]; done)), H', ⟨by have := HK1.out; first | omega | exact Nat.le_refl _⟩, ⟨by exact BK524.out⟩, ⟨by repeat (first | (with_reducible first | exact HB.out | apply below_alloc | apply pw_below_drewN | apply below_drew1 | refine below_set ?_ GE524.out) | exact HB.out)⟩⟩
   case rest =>
    clear HC3
    try clear p2
    try clear c3
    try clear c4
    try clear c4b0
    try clear hcz5_0
    try clear hcz5_1
    try clear hcz6_0
    try clear hcz6_1
    try clear hfz5_0
    try clear hfz5_1
    try clear hfz6_0
    try clear hfz6_1
    try clear p2
    obtain ⟨kq, x12_2, rfl, HA, HJ2, BK524, HB⟩ := hcut
    cases kq with
    | zero => exact absurd HA.out (by simp [skiarealaw53_small.j1])
    | succ kj2 =>
     have H := HA.out
     clear HA
     simp only [skiarealaw53_small.j1] at H
     by_cases c7 : x12_2 = true
     ·subst c7
      have H1 : (if 0 ≤ x3_1 then (if x3_1 < (l0_0.length : Int) then (if (((rd_T63 l0_0 x3_1).f1.f0).length : Int) > 70 then (some false) else (if (((rd_T63 l0_0 x3_1).f1.f2).length : Int) > 210 then (some false) else (skiarealaw53_small.l0 kj2 (wrap64 (x3_1 + 1)) l0_0 l0_1))) else (none)) else (none)) = some r := by rw [if_pos rfl] at H; exact H
      clear H
      have H := H1
      clear H1
      by_cases c8 : 0 ≤ x3_1
      ·rw [if_pos c8] at H
       have c8b0 : decide (0 ≤ x3_1) = true := decide_eq_true c8
       clear c8
       by_cases c9 : x3_1 < (l0_0.length : Int)
       ·rw [if_pos c9] at H
        have c9b0 : decide (x3_1 < (l0_0.length : Int)) = true := decide_eq_true c9
        clear c9
        by_cases c10 : (((rd_T63 l0_0 x3_1).f1.f0).length : Int) > 70
        ·rw [if_pos c10] at H
         have c10b0 : decide (70 < (((rd_T63 l0_0 x3_1).f1.f0).length : Int)) = true := decide_eq_true c10
         have c10b1 : decide (70 < ((rd_T63 l0_0 x3_1).f1.f0).length) = true := decide_eq_true (by omega)
         clear c10
         obtain rfl := Option.some.inj H
         have hcz11_0 := cz_ BK524 0
         have hcz11_1 := cz_ BK524 1
         have hfz11_0 := fz_ BK524 0
         have hfz11_1 := fz_ BK524 1
         have p525 : 0 ≤ (x3_1 : Int) := od_
         have q525 : x3_1 < (l0_0.length : Int) := od_
         obtain ⟨ad525, A525_1, c525_1, A525_3, c525_3, e525, hx525_0, hx525_1, hx525_2, hx525_3, hl525_1, hi525_1, hl525_3, hi525_3⟩ := at_T63 HR0_0.out x3_1 p525 q525
         cases e525
         replace hx525_0 := pc_ hx525_0
         replace hx525_1 := pc_ hx525_1
         replace hx525_2 := pc_ hx525_2
         replace hx525_3 := pc_ hx525_3
         have HR525_1 := a_ hi525_1
         have HC525_1 := a_ hl525_1
         clear hi525_1 hl525_1
         have HR525_3 := a_ hi525_3
         have HC525_3 := a_ hl525_3
         clear hi525_3 hl525_3
         replace p525 := eq_true p525
         replace q525 := eq_true q525
         go_wp2
         go_ret
         exact ⟨by first | rfl | (simp [errW_none, errW_some] <;> rfl) | (simp [*, errW_none, errW_some] <;> rfl), by repeat (first | (with_reducible first | exact HB.out | apply below_alloc | apply pw_below_drewN | apply below_drew1 | refine below_set ?_ GE524.out) | exact HB.out)⟩
        ·rw [if_neg c10] at H
         have c10b0 : decide (70 < (((rd_T63 l0_0 x3_1).f1.f0).length : Int)) = false := decide_eq_false c10
         have c10b1 : decide (70 < ((rd_T63 l0_0 x3_1).f1.f0).length) = false := decide_eq_false (by omega)
         clear c10
         by_cases c12 : (((rd_T63 l0_0 x3_1).f1.f2).length : Int) > 210
         ·rw [if_pos c12] at H
          have c12b0 : decide (210 < (((rd_T63 l0_0 x3_1).f1.f2).length : Int)) = true := decide_eq_true c12
          have c12b1 : decide (210 < ((rd_T63 l0_0 x3_1).f1.f2).length) = true := decide_eq_true (by omega)
          clear c12
          obtain rfl := Option.some.inj H
          have hcz13_0 := cz_ BK524 0
          have hcz13_1 := cz_ BK524 1
          have hfz13_0 := fz_ BK524 0
          have hfz13_1 := fz_ BK524 1
          have p525 : 0 ≤ (x3_1 : Int) := od_
          have q525 : x3_1 < (l0_0.length : Int) := od_
          obtain ⟨ad525, A525_1, c525_1, A525_3, c525_3, e525, hx525_0, hx525_1, hx525_2, hx525_3, hl525_1, hi525_1, hl525_3, hi525_3⟩ := at_T63 HR0_0.out x3_1 p525 q525
          cases e525
          replace hx525_0 := pc_ hx525_0
          replace hx525_1 := pc_ hx525_1
          replace hx525_2 := pc_ hx525_2
          replace hx525_3 := pc_ hx525_3
          have HR525_1 := a_ hi525_1
          have HC525_1 := a_ hl525_1
          clear hi525_1 hl525_1
          have HR525_3 := a_ hi525_3
          have HC525_3 := a_ hl525_3
          clear hi525_3 hl525_3
          replace p525 := eq_true p525
          replace q525 := eq_true q525
          have p526 : 0 ≤ (x3_1 : Int) := od_
          have q526 : x3_1 < (l0_0.length : Int) := od_
          obtain ⟨ad526, A526_1, c526_1, A526_3, c526_3, e526, hx526_0, hx526_1, hx526_2, hx526_3, hl526_1, hi526_1, hl526_3, hi526_3⟩ := at_T63 HR0_0.out x3_1 p526 q526
          obtain rfl : ad525 = ad526 := (by injection e526)
          replace hx526_0 := pc_ hx526_0
          replace hx526_1 := pc_ hx526_1
          replace hx526_2 := pc_ hx526_2
          replace hx526_3 := pc_ hx526_3
          have HR526_1 := a_ hi526_1
          have HC526_1 := a_ hl526_1
          clear hi526_1 hl526_1
          have HR526_3 := a_ hi526_3
          have HC526_3 := a_ hl526_3
          clear hi526_3 hl526_3
          replace p526 := eq_true p526
          replace q526 := eq_true q526
          have ea_ := Option.some.inj (hx525_1.symm.trans hx526_1)
          injection ea_ with ea_ en_ ec_
          subst ea_
          subst ec_
          clear en_
          have ea_ := Option.some.inj (hx525_3.symm.trans hx526_3)
          injection ea_ with ea_ en_ ec_
          subst ea_
          subst ec_
          clear en_
          go_wp2
          go_ret
          exact ⟨by first | rfl | (simp [errW_none, errW_some] <;> rfl) | (simp [*, errW_none, errW_some] <;> rfl), by repeat (first | (with_reducible first | exact HB.out | apply below_alloc | apply pw_below_drewN | apply below_drew1 | refine below_set ?_ GE524.out) | exact HB.out)⟩
         ·rw [if_neg c12] at H
          have c12b0 : decide (210 < (((rd_T63 l0_0 x3_1).f1.f2).length : Int)) = false := decide_eq_false c12
          have c12b1 : decide (210 < ((rd_T63 l0_0 x3_1).f1.f2).length) = false := decide_eq_false (by omega)
          clear c12
          have H' := a_ H
          clear H
          have hcz14_0 := cz_ BK524 0
          have hcz14_1 := cz_ BK524 1
          have hfz14_0 := fz_ BK524 0
          have hfz14_1 := fz_ BK524 1
          have p525 : 0 ≤ (x3_1 : Int) := od_
          have q525 : x3_1 < (l0_0.length : Int) := od_
          obtain ⟨ad525, A525_1, c525_1, A525_3, c525_3, e525, hx525_0, hx525_1, hx525_2, hx525_3, hl525_1, hi525_1, hl525_3, hi525_3⟩ := at_T63 HR0_0.out x3_1 p525 q525
          cases e525
          replace hx525_0 := pc_ hx525_0
          replace hx525_1 := pc_ hx525_1
          replace hx525_2 := pc_ hx525_2
          replace hx525_3 := pc_ hx525_3
          have HR525_1 := a_ hi525_1
          have HC525_1 := a_ hl525_1
          clear hi525_1 hl525_1
          have HR525_3 := a_ hi525_3
          have HC525_3 := a_ hl525_3
          clear hi525_3 hl525_3
          replace p525 := eq_true p525
          replace q525 := eq_true q525
          have p526 : 0 ≤ (x3_1 : Int) := od_
          have q526 : x3_1 < (l0_0.length : Int) := od_
          obtain ⟨ad526, A526_1, c526_1, A526_3, c526_3, e526, hx526_0, hx526_1, hx526_2, hx526_3, hl526_1, hi526_1, hl526_3, hi526_3⟩ := at_T63 HR0_0.out x3_1 p526 q526
          obtain rfl : ad525 = ad526 := (by injection e526)
          replace hx526_0 := pc_ hx526_0
          replace hx526_1 := pc_ hx526_1
          replace hx526_2 := pc_ hx526_2
          replace hx526_3 := pc_ hx526_3
          have HR526_1 := a_ hi526_1
          have HC526_1 := a_ hl526_1
          clear hi526_1 hl526_1
          have HR526_3 := a_ hi526_3
          have HC526_3 := a_ hl526_3
          clear hi526_3 hl526_3
          replace p526 := eq_true p526
          replace q526 := eq_true q526
          have ea_ := Option.some.inj (hx525_1.symm.trans hx526_1)
          injection ea_ with ea_ en_ ec_
          subst ea_
          subst ec_
          clear en_
          have ea_ := Option.some.inj (hx525_3.symm.trans hx526_3)
          injection ea_ with ea_ en_ ec_
          subst ea_
          subst ec_
          clear en_
          go_wp2
          go_roundg kj2
          case measure => have := HK1.out; have := HJ2.out; omega
          case rel => exact ⟨(wrap64 (x3_1 + 1)), (by first | rfl | (simp; done) | (simp [*]; done)), H', ⟨by have := HK1.out; have := HJ2.out; omega⟩, ⟨by exact BK524.out⟩, ⟨by repeat (first | (with_reducible first | exact HB.out | apply below_alloc | apply pw_below_drewN | apply below_drew1 | refine below_set ?_ GE524.out) | exact HB.out)⟩⟩
       ·rw [if_neg c9] at H
        exact absurd H (by simp)
      ·rw [if_neg c8] at H
       exact absurd H (by simp)
     ·replace c7 := Bool.eq_false_iff.mpr c7
      subst c7
      have H1 : (if (l0_0.length : Int) ≤ 70 then (some (decide ((l0_1.length : Int) ≤ 210))) else (some false)) = some r := by rw [if_neg (show ¬ (false = true) by decide)] at H; exact H
      clear H
      have H := H1
      clear H1
      by_cases c15 : (l0_0.length : Int) ≤ 70
      ·rw [if_pos c15] at H
       have c15b0 : decide ((l0_0.length : Int) ≤ 70) = true := decide_eq_true c15
       have c15b1 : decide (l0_0.length ≤ 70) = true := decide_eq_true (by omega)
       clear c15
       obtain rfl := Option.some.inj H
       have hcz16_0 := cz_ BK524 0
       have hcz16_1 := cz_ BK524 1
       have hfz16_0 := fz_ BK524 0
       have hfz16_1 := fz_ BK524 1
       go_wp2
       go_ret
       exact ⟨by first | rfl | (simp [errW_none, errW_some] <;> rfl) | (simp [*, errW_none, errW_some] <;> rfl), by repeat (first | (with_reducible first | exact HB.out | apply below_alloc | apply pw_below_drewN | apply below_drew1 | refine below_set ?_ GE524.out) | exact HB.out)⟩
      ·rw [if_neg c15] at H
       have c15b0 : decide ((l0_0.length : Int) ≤ 70) = false := decide_eq_false c15
       have c15b1 : decide (l0_0.length ≤ 70) = false := decide_eq_false (by omega)
       clear c15
       obtain rfl := Option.some.inj H
       have hcz17_0 := cz_ BK524 0
       have hcz17_1 := cz_ BK524 1
       have hfz17_0 := fz_ BK524 0
       have hfz17_1 := fz_ BK524 1
       go_wp2
       go_ret
       exact ⟨by first | rfl | (simp [errW_none, errW_some] <;> rfl) | (simp [*, errW_none, errW_some] <;> rfl), by repeat (first | (with_reducible first | exact HB.out | apply below_alloc | apply pw_below_drewN | apply below_drew1 | refine below_set ?_ GE524.out) | exact HB.out)⟩
def patrol_Ready.f (l0_0 : List S63) (l0_1 : List S56) (a1 : Int) (a2 : Int) : Option Bool :=
 if 0 ≤ idxFrom (fun x : S63 => decide (x.f0 = a1)) l0_0 0 then (inspect_Done.f (rd_T63 l0_0 (idxFrom (fun x : S63 => decide (x.f0 = a1)) l0_0 0)).f1.f0 (rd_T63 l0_0 (idxFrom (fun x : S63 => decide (x.f0 = a1)) l0_0 0)).f1.f1 (rd_T63 l0_0 (idxFrom (fun x : S63 => decide (x.f0 = a1)) l0_0 0)).f1.f2 a2).bind fun d => if d = true then some (!(l0_1.any fun h : S56 => decide (h.f1 = a1))) else some false
 else some false
set_option maxHeartbeats 4000000 in
theorem patrol_Ready.calls (A0_0 : Option Addr) (c0_0 : Nat) (l0_0 : List S63) (A0_1 : Option Addr) (c0_1 : Nat) (l0_1 : List S56) (a1 : Int) (a2 : Int) (r : Bool) (w : World) (hr0_0 : Kd.C k63 w A0_0 l0_0.length l0_0) (hc0_0 : l0_0.length ≤ c0_0) (hr0_1 : Kd.C k56 w A0_1 l0_1.length l0_1) (hc0_1 : l0_1.length ≤ c0_1) (h : patrol_Ready.f l0_0 l0_1 a1 a2 = some r) :
  Calls Try.prog 46 #[.agg #[.slice A0_0 l0_0.length c0_0, .slice A0_1 l0_1.length c0_1], .int .i64 a1, .int .i64 a2] w fun e w' => e = .returned (.bool r) ∧ Below w.heap.size w w' := by
 have hu48 := Try.underlying48
 have hu63 := Try.underlying63
 have hmf : ∀ (fn : Fn) (first cap : Array Value) (w : World), (Instr.makeFunc fn first cap).run Try.prog w = .ok (.func fn first cap) w := fun _ _ _ _ => rfl
 have HR0_0 := a_ hr0_0
 have HC0_0 := a_ hc0_0
 have HR0_1 := a_ hr0_1
 have HC0_1 := a_ hc0_1
 clear hr0_0 hc0_0 hr0_1 hc0_1
 unfold patrol_Ready.f at h
 obtain ⟨z, hz⟩ : ∃ z, idxFrom (fun x : S63 => decide (x.f0 = a1)) l0_0 0 = z := ⟨_, rfl⟩
 rw [hz] at h
 have HZ := a_ hz
 have hz1 := idxFrom_lt (fun x : S63 => decide (x.f0 = a1)) l0_0 0
 rw [hz] at hz1
 have HZ1 : Aside0 (z < l0_0.length) := ⟨by omega⟩
 clear hz hz1
 have HB := a_ (Below.refl w.heap.size w)
 have HPL : Aside0 (∀ W, Below w.heap.size w W → Calls Try.prog 67 #[.slice A0_0 l0_0.length c0_0, .int .i64 a1] W fun e w' => e = .returned (.int .i64 z) ∧ Below W.heap.size W w') := ⟨fun W hb => patrol_list.calls A0_0 c0_0 l0_0 a1 z W (Kd.C_below HR0_0.out hb) HC0_0.out (by unfold patrol_list.f; rw [HZ.out])⟩
 by_cases hzn : 0 ≤ z
 ·rw [if_pos hzn] at h
  obtain ⟨d, A1, H⟩ := Option.bind_eq_some_iff.mp h
  clear h
  have HD := a_ A1
  clear A1
  have dz : decide (0 ≤ z) = true := decide_eq_true hzn
  have pz := eq_true hzn
  have qz := eq_true HZ1.out
  obtain ⟨ad, A1, c1, A3, c3, e, y0, y1, y2, y3, i1, i2, i3, i4⟩ := at_T63 HR0_0.out z hzn HZ1.out
  cases e
  have Y0 := a_ y0
  have Y1 := a_ y1
  have Y2 := a_ y2
  have Y3 := a_ y3
  have I1 := a_ i1
  have I2 := a_ i2
  have I3 := a_ i3
  have I4 := a_ i4
  clear y0 y1 y2 y3 i1 i2 i3 i4 hzn
  cases d with
  | false =>
   obtain rfl : false = r := by simpa using H
   clear H
   go_enter Try.func46, Try.ntmps46
   go_wp2_with (first | ((with_reducible refine gate_dst (N := 3) rfl ?_); refine box_event ?hg (N := 3) ?hd (cs := #[.slice (some ad) l0_0.length c0_0, .slice A0_1 l0_1.length c0_1]) (t := 48) ?hr ?_; (case hd => rfl); (case hg => rfl); (case hr => first | (go_simp; done) | (go_simp; rfl)); intro gb hg w_gb hbox hb; have n0_ := a_ (below_step bel_ hb); have n1_ := a_ (hbox); have n2_ := a_ ((by rw [hg]; exact (below_size bel_) : w.heap.size ≤ gb)); clear HB; have HB := n0_; have BKgb := n1_; have GEgb := n2_; clear n0_ n1_ n2_; clear hb hbox hg; have hczgb_0 : w_gb.cell? ⟨gb, 0, none⟩ = some (.slice (some ad) l0_0.length c0_0) := (blk_cell BKgb.out 0).trans rfl; have hczgb_1 : w_gb.cell? ⟨gb, 1, none⟩ = some (.slice A0_1 l0_1.length c0_1) := (blk_cell BKgb.out 1).trans rfl; have hfzgb_0 := blk_frozen BKgb.out 0; have hfzgb_1 := blk_frozen BKgb.out 1) | ((with_reducible refine gate_dst (N := 4) rfl ?_); refine box_event ?hg (N := 4) ?hd (cs := #[.int .i64 a1]) (t := 3) ?hr ?_; (case hd => rfl); (case hg => rfl); (case hr => first | (go_simp; done) | (go_simp; rfl)); intro gc hg w_gc hbox hb; have n0_ := a_ (below_step bel_ hb); have n1_ := a_ (hbox); have n2_ := a_ ((by rw [hg]; exact (below_size bel_) : w.heap.size ≤ gc)); clear HB; have HB := n0_; have BKgc := n1_; have GEgc := n2_; clear n0_ n1_ n2_; have m_gb := a_ (blk_below BKgb.out hb); clear BKgb; (try clear hczgb_0 hczgb_1); (try clear hfzgb_0 hfzgb_1); have BKgb := m_gb; clear m_gb; have hczgb_0 : w_gc.cell? ⟨gb, 0, none⟩ = some (.slice (some ad) l0_0.length c0_0) := (blk_cell BKgb.out 0).trans rfl; have hczgb_1 : w_gc.cell? ⟨gb, 1, none⟩ = some (.slice A0_1 l0_1.length c0_1) := (blk_cell BKgb.out 1).trans rfl; have hfzgb_0 := blk_frozen BKgb.out 0; have hfzgb_1 := blk_frozen BKgb.out 1; clear hb hbox hg; have hczgc_0 : w_gc.cell? ⟨gc, 0, none⟩ = some (.int .i64 a1) := (blk_cell BKgc.out 0).trans rfl; have hfzgc_0 := blk_frozen BKgc.out 0) | (go_at_call 67; (with_reducible refine (HPL.out _ HB.out).mono ?_); rintro e w5 ⟨rfl, hb⟩; have n0_ := a_ (below_step HB.out hb); clear HB; have HB := n0_; clear n0_; have m_gb := a_ (blk_below BKgb.out hb); clear BKgb; (try clear hczgb_0 hczgb_1); (try clear hfzgb_0 hfzgb_1); have BKgb := m_gb; clear m_gb; have hczgb_0 : w5.cell? ⟨gb, 0, none⟩ = some (.slice (some ad) l0_0.length c0_0) := (blk_cell BKgb.out 0).trans rfl; have hczgb_1 : w5.cell? ⟨gb, 1, none⟩ = some (.slice A0_1 l0_1.length c0_1) := (blk_cell BKgb.out 1).trans rfl; have hfzgb_0 := blk_frozen BKgb.out 0; have hfzgb_1 := blk_frozen BKgb.out 1; have m_gc := a_ (blk_below BKgc.out hb); clear BKgc; (try clear hczgc_0); (try clear hfzgc_0); have BKgc := m_gc; clear m_gc; have hczgc_0 : w5.cell? ⟨gc, 0, none⟩ = some (.int .i64 a1) := (blk_cell BKgc.out 0).trans rfl; have hfzgc_0 := blk_frozen BKgc.out 0; clear hb; have yy1 := (HB.out.cell (World.block_lt_of_cell? w _ Y1.out)).trans Y1.out; have yy2 := (HB.out.cell (World.block_lt_of_cell? w _ Y2.out)).trans Y2.out; have yy3 := (HB.out.cell (World.block_lt_of_cell? w _ Y3.out)).trans Y3.out) | (go_at_call 29; (with_reducible refine (inspect_Done.calls A1 c1 (rd_T63 l0_0 z).f1.f0 (rd_T63 l0_0 z).f1.f1 A3 c3 (rd_T63 l0_0 z).f1.f2 a2 false _ ?s1 I1.out ?s2 I3.out HD.out).mono ?_); (case s1 => exact Kd.C_below I2.out HB.out); (case s2 => exact Kd.C_below I4.out HB.out); rintro e w6 ⟨rfl, hb⟩; clear yy1 yy2 yy3; have n0_ := a_ (below_step HB.out hb); clear HB; have HB := n0_; clear n0_; have m_gb := a_ (blk_below BKgb.out hb); clear BKgb; (try clear hczgb_0 hczgb_1); (try clear hfzgb_0 hfzgb_1); have BKgb := m_gb; clear m_gb; have hczgb_0 : w6.cell? ⟨gb, 0, none⟩ = some (.slice (some ad) l0_0.length c0_0) := (blk_cell BKgb.out 0).trans rfl; have hczgb_1 : w6.cell? ⟨gb, 1, none⟩ = some (.slice A0_1 l0_1.length c0_1) := (blk_cell BKgb.out 1).trans rfl; have hfzgb_0 := blk_frozen BKgb.out 0; have hfzgb_1 := blk_frozen BKgb.out 1; have m_gc := a_ (blk_below BKgc.out hb); clear BKgc; (try clear hczgc_0); (try clear hfzgc_0); have BKgc := m_gc; clear m_gc; have hczgc_0 : w6.cell? ⟨gc, 0, none⟩ = some (.int .i64 a1) := (blk_cell BKgc.out 0).trans rfl; have hfzgc_0 := blk_frozen BKgc.out 0; clear hb))
   go_ret
   exact ⟨rfl, HB.out⟩
  | true =>
   have HH : Aside0 ((l0_1.any fun h : S56 => decide (h.f1 = a1)) = !r) := ⟨by have := Option.some.inj (show some (!(l0_1.any fun h : S56 => decide (h.f1 = a1))) = some r by simpa using H); rw [← this]; simp⟩
   clear H
   cases r
   all_goals
    go_enter Try.func46, Try.ntmps46
    go_wp2_with (first | ((with_reducible refine gate_dst (N := 3) rfl ?_); refine box_event ?hg (N := 3) ?hd (cs := #[.slice (some ad) l0_0.length c0_0, .slice A0_1 l0_1.length c0_1]) (t := 48) ?hr ?_; (case hd => rfl); (case hg => rfl); (case hr => first | (go_simp; done) | (go_simp; rfl)); intro gb hg w_gb hbox hb; have n0_ := a_ (below_step bel_ hb); have n1_ := a_ (hbox); have n2_ := a_ ((by rw [hg]; exact (below_size bel_) : w.heap.size ≤ gb)); clear HB; have HB := n0_; have BKgb := n1_; have GEgb := n2_; clear n0_ n1_ n2_; clear hb hbox hg; have hczgb_0 : w_gb.cell? ⟨gb, 0, none⟩ = some (.slice (some ad) l0_0.length c0_0) := (blk_cell BKgb.out 0).trans rfl; have hczgb_1 : w_gb.cell? ⟨gb, 1, none⟩ = some (.slice A0_1 l0_1.length c0_1) := (blk_cell BKgb.out 1).trans rfl; have hfzgb_0 := blk_frozen BKgb.out 0; have hfzgb_1 := blk_frozen BKgb.out 1) | ((with_reducible refine gate_dst (N := 4) rfl ?_); refine box_event ?hg (N := 4) ?hd (cs := #[.int .i64 a1]) (t := 3) ?hr ?_; (case hd => rfl); (case hg => rfl); (case hr => first | (go_simp; done) | (go_simp; rfl)); intro gc hg w_gc hbox hb; have n0_ := a_ (below_step bel_ hb); have n1_ := a_ (hbox); have n2_ := a_ ((by rw [hg]; exact (below_size bel_) : w.heap.size ≤ gc)); clear HB; have HB := n0_; have BKgc := n1_; have GEgc := n2_; clear n0_ n1_ n2_; have m_gb := a_ (blk_below BKgb.out hb); clear BKgb; (try clear hczgb_0 hczgb_1); (try clear hfzgb_0 hfzgb_1); have BKgb := m_gb; clear m_gb; have hczgb_0 : w_gc.cell? ⟨gb, 0, none⟩ = some (.slice (some ad) l0_0.length c0_0) := (blk_cell BKgb.out 0).trans rfl; have hczgb_1 : w_gc.cell? ⟨gb, 1, none⟩ = some (.slice A0_1 l0_1.length c0_1) := (blk_cell BKgb.out 1).trans rfl; have hfzgb_0 := blk_frozen BKgb.out 0; have hfzgb_1 := blk_frozen BKgb.out 1; clear hb hbox hg; have hczgc_0 : w_gc.cell? ⟨gc, 0, none⟩ = some (.int .i64 a1) := (blk_cell BKgc.out 0).trans rfl; have hfzgc_0 := blk_frozen BKgc.out 0) | (go_at_call 67; (with_reducible refine (HPL.out _ HB.out).mono ?_); rintro e w5 ⟨rfl, hb⟩; have n0_ := a_ (below_step HB.out hb); clear HB; have HB := n0_; clear n0_; have m_gb := a_ (blk_below BKgb.out hb); clear BKgb; (try clear hczgb_0 hczgb_1); (try clear hfzgb_0 hfzgb_1); have BKgb := m_gb; clear m_gb; have hczgb_0 : w5.cell? ⟨gb, 0, none⟩ = some (.slice (some ad) l0_0.length c0_0) := (blk_cell BKgb.out 0).trans rfl; have hczgb_1 : w5.cell? ⟨gb, 1, none⟩ = some (.slice A0_1 l0_1.length c0_1) := (blk_cell BKgb.out 1).trans rfl; have hfzgb_0 := blk_frozen BKgb.out 0; have hfzgb_1 := blk_frozen BKgb.out 1; have m_gc := a_ (blk_below BKgc.out hb); clear BKgc; (try clear hczgc_0); (try clear hfzgc_0); have BKgc := m_gc; clear m_gc; have hczgc_0 : w5.cell? ⟨gc, 0, none⟩ = some (.int .i64 a1) := (blk_cell BKgc.out 0).trans rfl; have hfzgc_0 := blk_frozen BKgc.out 0; clear hb; have yy1 := (HB.out.cell (World.block_lt_of_cell? w _ Y1.out)).trans Y1.out; have yy2 := (HB.out.cell (World.block_lt_of_cell? w _ Y2.out)).trans Y2.out; have yy3 := (HB.out.cell (World.block_lt_of_cell? w _ Y3.out)).trans Y3.out) | (go_at_call 29; (with_reducible refine (inspect_Done.calls A1 c1 (rd_T63 l0_0 z).f1.f0 (rd_T63 l0_0 z).f1.f1 A3 c3 (rd_T63 l0_0 z).f1.f2 a2 true _ ?s1 I1.out ?s2 I3.out HD.out).mono ?_); (case s1 => exact Kd.C_below I2.out HB.out); (case s2 => exact Kd.C_below I4.out HB.out); rintro e w6 ⟨rfl, hb⟩; clear yy1 yy2 yy3; have n0_ := a_ (below_step HB.out hb); clear HB; have HB := n0_; clear n0_; have m_gb := a_ (blk_below BKgb.out hb); clear BKgb; (try clear hczgb_0 hczgb_1); (try clear hfzgb_0 hfzgb_1); have BKgb := m_gb; clear m_gb; have hczgb_0 : w6.cell? ⟨gb, 0, none⟩ = some (.slice (some ad) l0_0.length c0_0) := (blk_cell BKgb.out 0).trans rfl; have hczgb_1 : w6.cell? ⟨gb, 1, none⟩ = some (.slice A0_1 l0_1.length c0_1) := (blk_cell BKgb.out 1).trans rfl; have hfzgb_0 := blk_frozen BKgb.out 0; have hfzgb_1 := blk_frozen BKgb.out 1; have m_gc := a_ (blk_below BKgc.out hb); clear BKgc; (try clear hczgc_0); (try clear hfzgc_0); have BKgc := m_gc; clear m_gc; have hczgc_0 : w6.cell? ⟨gc, 0, none⟩ = some (.int .i64 a1) := (blk_cell BKgc.out 0).trans rfl; have hfzgc_0 := blk_frozen BKgc.out 0; clear hb) | (go_at_call 73; (with_reducible refine (any56_72 gc (fun h : S56 => decide (h.f1 = a1)) A0_1 c0_1 l0_1 _ ?s1 HC0_1.out ?s2 _ HH.out).mono ?_); (case s1 => exact Kd.C_below HR0_1.out HB.out); (case s2 => exact fun W x b hbW hpx => rdy72_calls x gc a1 b W (pw_cell_below hbW ((blk_cell BKgc.out 0).trans rfl)) hpx); rintro e w7 ⟨rfl, hb⟩; have n0_ := a_ (below_step HB.out hb); clear HB; have HB := n0_; clear n0_; have m_gb := a_ (blk_below BKgb.out hb); clear BKgb; (try clear hczgb_0 hczgb_1); (try clear hfzgb_0 hfzgb_1); have BKgb := m_gb; clear m_gb; have hczgb_0 : w7.cell? ⟨gb, 0, none⟩ = some (.slice (some ad) l0_0.length c0_0) := (blk_cell BKgb.out 0).trans rfl; have hczgb_1 : w7.cell? ⟨gb, 1, none⟩ = some (.slice A0_1 l0_1.length c0_1) := (blk_cell BKgb.out 1).trans rfl; have hfzgb_0 := blk_frozen BKgb.out 0; have hfzgb_1 := blk_frozen BKgb.out 1; have m_gc := a_ (blk_below BKgc.out hb); clear BKgc; (try clear hczgc_0); (try clear hfzgc_0); have BKgc := m_gc; clear m_gc; have hczgc_0 : w7.cell? ⟨gc, 0, none⟩ = some (.int .i64 a1) := (blk_cell BKgc.out 0).trans rfl; have hfzgc_0 := blk_frozen BKgc.out 0; clear hb))
    go_ret
    exact ⟨rfl, HB.out⟩
 ·rw [if_neg hzn] at h
  obtain rfl : false = r := by simpa using h
  have dz : decide (0 ≤ z) = false := decide_eq_false hzn
  clear h hzn
  go_enter Try.func46, Try.ntmps46
  go_wp2_with (first | ((with_reducible refine gate_dst (N := 3) rfl ?_); refine box_event ?hg (N := 3) ?hd (cs := #[.slice A0_0 l0_0.length c0_0, .slice A0_1 l0_1.length c0_1]) (t := 48) ?hr ?_; (case hd => rfl); (case hg => rfl); (case hr => first | (go_simp; done) | (go_simp; rfl)); intro gb hg w_gb hbox hb; have n0_ := a_ (below_step bel_ hb); have n1_ := a_ (hbox); have n2_ := a_ ((by rw [hg]; exact (below_size bel_) : w.heap.size ≤ gb)); clear HB; have HB := n0_; have BKgb := n1_; have GEgb := n2_; clear n0_ n1_ n2_; clear hb hbox hg; have hczgb_0 : w_gb.cell? ⟨gb, 0, none⟩ = some (.slice A0_0 l0_0.length c0_0) := (blk_cell BKgb.out 0).trans rfl; have hczgb_1 : w_gb.cell? ⟨gb, 1, none⟩ = some (.slice A0_1 l0_1.length c0_1) := (blk_cell BKgb.out 1).trans rfl; have hfzgb_0 := blk_frozen BKgb.out 0; have hfzgb_1 := blk_frozen BKgb.out 1) | ((with_reducible refine gate_dst (N := 4) rfl ?_); refine box_event ?hg (N := 4) ?hd (cs := #[.int .i64 a1]) (t := 3) ?hr ?_; (case hd => rfl); (case hg => rfl); (case hr => first | (go_simp; done) | (go_simp; rfl)); intro gc hg w_gc hbox hb; have n0_ := a_ (below_step bel_ hb); have n1_ := a_ (hbox); have n2_ := a_ ((by rw [hg]; exact (below_size bel_) : w.heap.size ≤ gc)); clear HB; have HB := n0_; have BKgc := n1_; have GEgc := n2_; clear n0_ n1_ n2_; have m_gb := a_ (blk_below BKgb.out hb); clear BKgb; (try clear hczgb_0 hczgb_1); (try clear hfzgb_0 hfzgb_1); have BKgb := m_gb; clear m_gb; have hczgb_0 : w_gc.cell? ⟨gb, 0, none⟩ = some (.slice A0_0 l0_0.length c0_0) := (blk_cell BKgb.out 0).trans rfl; have hczgb_1 : w_gc.cell? ⟨gb, 1, none⟩ = some (.slice A0_1 l0_1.length c0_1) := (blk_cell BKgb.out 1).trans rfl; have hfzgb_0 := blk_frozen BKgb.out 0; have hfzgb_1 := blk_frozen BKgb.out 1; clear hb hbox hg; have hczgc_0 : w_gc.cell? ⟨gc, 0, none⟩ = some (.int .i64 a1) := (blk_cell BKgc.out 0).trans rfl; have hfzgc_0 := blk_frozen BKgc.out 0) | (go_at_call 67; (with_reducible refine (HPL.out _ HB.out).mono ?_); rintro e w' ⟨rfl, hb⟩; have n0_ := a_ (below_step HB.out hb); clear HB; have HB := n0_; clear n0_; have m_gb := a_ (blk_below BKgb.out hb); clear BKgb; (try clear hczgb_0 hczgb_1); (try clear hfzgb_0 hfzgb_1); have BKgb := m_gb; clear m_gb; have hczgb_0 : w'.cell? ⟨gb, 0, none⟩ = some (.slice A0_0 l0_0.length c0_0) := (blk_cell BKgb.out 0).trans rfl; have hczgb_1 : w'.cell? ⟨gb, 1, none⟩ = some (.slice A0_1 l0_1.length c0_1) := (blk_cell BKgb.out 1).trans rfl; have hfzgb_0 := blk_frozen BKgb.out 0; have hfzgb_1 := blk_frozen BKgb.out 1; have m_gc := a_ (blk_below BKgc.out hb); clear BKgc; (try clear hczgc_0); (try clear hfzgc_0); have BKgc := m_gc; clear m_gc; have hczgc_0 : w'.cell? ⟨gc, 0, none⟩ = some (.int .i64 a1) := (blk_cell BKgc.out 0).trans rfl; have hfzgc_0 := blk_frozen BKgc.out 0; clear hb))
  go_ret
  exact ⟨rfl, HB.out⟩
def patrol_Open.l0 : Nat → Int → List Int → List (S63) → Int → Int → List (S63) → List (S56) → Option (List Int)
 | 0, _, _, _, _, _, _, _ => none
 | k + 1, x1, x5, x9, x10, x11, x441000, x441001 => if x11 < x10 then (if 0 ≤ x11 then (if x11 < (x9.length : Int) then ((patrol_Ready.f x441000 x441001 ((rd_T63 x9 x11).f0) x1).bind fun t443 => (if t443 = true then (patrol_Open.l0 k x1 x5 x9 x10 (wrap64 (x11 + 1)) x441000 x441001) else (if x5.length < 17592186044416 then (patrol_Open.l0 k x1 (x5 ++ [(rd_T63 x9 x11).f0]) x9 x10 (wrap64 (x11 + 1)) x441000 x441001) else (none)))) else (none)) else (none)) else (some x5)
def patrol_Open.f (k : Nat) (l0_0 : List (S63)) (l0_1 : List (S56)) (a1 : Int) : Option (List Int) := patrol_Open.l0 k a1 ([] : List Int) l0_0 (l0_0.length : Int) 0 l0_0 l0_1
theorem patrol_Open.mono_l : ∀ k, (∀ y0 y1 y2 y3 y4 y5 y6, LeO (patrol_Open.l0 k y0 y1 y2 y3 y4 y5 y6) (patrol_Open.l0 (k + 1) y0 y1 y2 y3 y4 y5 y6))
 | 0 => fun _ _ _ _ _ _ _ r h => by simp [patrol_Open.l0] at h
 | k + 1 => by
  have ih0 := patrol_Open.mono_l k
  ·intro y0 y1 y2 y3 y4 y5 y6
   unfold patrol_Open.l0
   repeat' first
   | (with_reducible exact ih0 _ _ _ _ _ _ _)
   | (with_reducible exact LeO.refl _)
   | (with_reducible exact LeO.none _)
   | (with_reducible refine LeO.ite ?_ ?_)
   | (with_reducible refine LeO.bind ?_ (fun _ => ?_))
   | exact ih0 _ _ _ _ _ _ _
   | exact LeO.none _
   | refine LeO.ite ?_ ?_
   | refine LeO.bind ?_ (fun _ => ?_)
theorem patrol_Open.mono : ∀ a0 a1 a2 k, LeO (patrol_Open.f k a0 a1 a2) (patrol_Open.f (k + 1) a0 a1 a2) := by
 intro a0 a1 a2 k
 have ih0 := patrol_Open.mono_l k
 unfold patrol_Open.f
 repeat' first
   | (with_reducible exact ih0 _ _ _ _ _ _ _)
   | (with_reducible exact LeO.refl _)
   | (with_reducible exact LeO.none _)
   | (with_reducible refine LeO.ite ?_ ?_)
   | (with_reducible refine LeO.bind ?_ (fun _ => ?_))
   | exact ih0 _ _ _ _ _ _ _
   | exact LeO.none _
   | refine LeO.ite ?_ ?_
   | refine LeO.bind ?_ (fun _ => ?_)
set_option maxHeartbeats 8000000 in
set_option maxRecDepth 100000 in
theorem patrol_Open.calls (k : Nat) (A0_0 : Option Addr) (c0_0 : Nat) (l0_0 : List (S63)) (A0_1 : Option Addr) (c0_1 : Nat) (l0_1 : List (S56)) (a1 : Int) (r : List Int) (w : World) (hr0_0 : Kd.C k63 w A0_0 l0_0.length l0_0) (hc0_0 : l0_0.length ≤ c0_0) (hr0_1 : Kd.C k56 w A0_1 l0_1.length l0_1) (hc0_1 : l0_1.length ≤ c0_1) (h : patrol_Open.f k l0_0 l0_1 a1 = some r) :
  Calls Try.prog 49 #[.agg #[.slice A0_0 l0_0.length c0_0, .slice A0_1 l0_1.length c0_1], .int .i64 a1] w fun e w' => ∃ v0_ : Value, e = .returned (v0_) ∧ Kd.R (Kd.int .i64) 3 w' w.heap.size (fun _ => True) v0_ r ∧ Below w.heap.size w w' := by
 have hu48 := Try.underlying48
 have hu63 := Try.underlying63
 have HR0_0 := a_ hr0_0
 have HC0_0 := a_ hc0_0
 clear hr0_0 hc0_0
 have HR0_1 := a_ hr0_1
 have HC0_1 := a_ hc0_1
 clear hr0_1 hc0_1
 have HB := a_ (Below.refl w.heap.size w)
 have H : (patrol_Open.l0 k a1 ([] : List Int) l0_0 (l0_0.length : Int) 0 l0_0 l0_1) = some r := h
 clear h
 have H' := a_ H
 clear H
 go_enter Try.func49, Try.ntmps49
 go_wp2_with (first | ((with_reducible refine gate_dst (N := 2) rfl ?_); refine box_event ?hg (N := 2) ?hd (cs := #[.slice A0_0 l0_0.length c0_0, .slice A0_1 l0_1.length c0_1]) (t := 48) ?hr ?_; (case hd => rfl); (case hg => rfl); (case hr => first | (go_simp; done) | (go_simp; rfl)); intro gb440 hg w3 hbox hb; have n0_ := a_ (below_step bel_ hb); have n1_ := a_ (hbox); have n2_ := a_ (bz_ hg : w.heap.size ≤ gb440); have n3_ := a_ (bz_ hg : w.heap.size ≤ gb440); clear HB; have HB := n0_; have BK440 := n1_; have GW440 := n2_; have GE440 := n3_; clear n0_ n1_ n2_ n3_; clear hb hbox hg; have hcz4_0 := cz_ BK440 0; have hcz4_1 := cz_ BK440 1; have hfz4_0 := fz_ BK440 0; have hfz4_1 := fz_ BK440 1))
 go_loopg [5, 11] k (fun kq v5 v11 w' => ∃ (x5_1 : List Int) (x11_1 : Int), v11 = .int .i64 x11_1 ∧ Aside0 (patrol_Open.l0 kq a1 x5_1 l0_0 (l0_0.length : Int) x11_1 l0_0 l0_1 = some r) ∧ Aside0 (kq ≤ k) ∧ Aside0 (Kd.R (Kd.int .i64) 3 w' w.heap.size (fun _ => True) v5 x5_1) ∧ Aside0 (w'.heap[gb440]? = some (.cells #[(.slice A0_0 l0_0.length c0_0), (.slice A0_1 l0_1.length c0_1)] 48 (0, 0))) ∧ Aside0 (Below w.heap.size w w'))
 case atStart => exact ⟨(([] : List Int)), (0), (by first | rfl | (simp; done) | (simp [*]; done)), H', ⟨Nat.le_refl _⟩, ⟨by first | exact Kd.R_nil _ _ _ _ _ | exact Kd.N_nil _ _ _ _ _ | exact Kd.V_nil _ _ _ _ _ | exact Kd.Q_nil _ _ _ _ _ | exact Kd.S_nil _ _ _ _ _⟩, ⟨by exact BK440.out⟩, ⟨by repeat (first | (with_reducible first | exact HB.out | apply below_alloc | apply pw_below_drewN | apply below_drew1 | refine below_set ?_ GE440.out) | exact HB.out)⟩⟩
 case round =>
  clear H'
  try clear p2
  try clear c4
  try clear hcz4_0
  try clear hcz4_1
  try clear hfz4_0
  try clear hfz4_1
  obtain ⟨x5_1, x11_1, rfl, HA, HK1, HO_5, BK440, HB⟩ := hrel
  cases gk with
  | zero => exact absurd HA.out (by simp [patrol_Open.l0])
  | succ k1 =>
   have H := HA.out
   clear HA
   simp only [patrol_Open.l0] at H
   by_cases c5 : x11_1 < (l0_0.length : Int)
   ·rw [if_pos c5] at H
    have c5b0 : decide (x11_1 < (l0_0.length : Int)) = true := decide_eq_true c5
    clear c5
    by_cases c6 : 0 ≤ x11_1
    ·rw [if_pos c6] at H
     have c6b0 : decide (0 ≤ x11_1) = true := decide_eq_true c6
     clear c6
     by_cases c7 : x11_1 < (l0_0.length : Int)
     ·rw [if_pos c7] at H
      have c7b0 : decide (x11_1 < (l0_0.length : Int)) = true := decide_eq_true c7
      clear c7
      replace H := Option.bind_eq_some_iff.mp H
      obtain ⟨t443, A80, H⟩ := H
      replace H : (if t443 = true then (patrol_Open.l0 k1 a1 x5_1 l0_0 (l0_0.length : Int) (wrap64 (x11_1 + 1)) l0_0 l0_1) else (if x5_1.length < 17592186044416 then (patrol_Open.l0 k1 a1 (x5_1 ++ [(rd_T63 l0_0 x11_1).f0]) l0_0 (l0_0.length : Int) (wrap64 (x11_1 + 1)) l0_0 l0_1) else (none))) = some r := H
      have A8 := a_ A80
      clear A80
      by_cases c9 : t443 = true
      ·subst c9
       have H1 : (patrol_Open.l0 k1 a1 x5_1 l0_0 (l0_0.length : Int) (wrap64 (x11_1 + 1)) l0_0 l0_1) = some r := by rw [if_pos rfl] at H; exact H
       clear H
       have H := H1
       clear H1
       have H' := a_ H
       clear H
       have p441 : 0 ≤ (x11_1 : Int) := od_
       have q441 : x11_1 < (l0_0.length : Int) := od_
       obtain ⟨ad441, A441_1, c441_1, A441_3, c441_3, e441, hx441_0, hx441_1, hx441_2, hx441_3, hl441_1, hi441_1, hl441_3, hi441_3⟩ := at_T63 HR0_0.out x11_1 p441 q441
       cases e441
       replace hx441_0 := pc_ hx441_0
       replace hx441_1 := pc_ hx441_1
       replace hx441_2 := pc_ hx441_2
       replace hx441_3 := pc_ hx441_3
       have HR441_1 := a_ hi441_1
       have HC441_1 := a_ hl441_1
       clear hi441_1 hl441_1
       have HR441_3 := a_ hi441_3
       have HC441_3 := a_ hl441_3
       clear hi441_3 hl441_3
       replace p441 := eq_true p441
       replace q441 := eq_true q441
       go_wp2_with (first | ((with_reducible refine gate_dst (N := 7) rfl ?_); refine box_event ?hg (N := 7) ?hd (cs := #[.int .i64 0, .slice none 0 0, .int .i64 0, .slice none 0 0]) (t := 63) ?hr ?_; (case hd => rfl); (case hg => rfl); (case hr => first | (go_simp; done) | (go_simp; rfl)); intro gb442 hg w10 hbox hb; have n0_ := a_ (Kd.R_below (kR_ HO_5.out) hb); have n1_ := a_ (blk_below (bk_ BK440.out) hb); have n2_ := a_ (below_step bel_ hb); have n3_ := a_ (hbox); have n4_ := a_ (bz_ hg : w.heap.size ≤ gb442); have n5_ := a_ (bz_ hg : w.heap.size ≤ gb442); have n6_ := a_ (nl_ hg (bk_ BK440.out)); have n7_ := a_ (ng_ hg (bk_ BK440.out)); clear HO_5; clear BK440; clear HB; have HO_5 := n0_; have BK440 := n1_; have HB := n2_; have BK442 := n3_; have GW442 := n4_; have GE442 := n5_; have NB440_442 := n6_; have NB442_440 := n7_; clear n0_ n1_ n2_ n3_ n4_ n5_ n6_ n7_; clear hb hbox hg; have hnb11 := NB442_440.out; have hnc11 := NB440_442.out; have hcz12_0 := cz_ BK442 0; have hcz12_1 := cz_ BK442 1; have hcz12_2 := cz_ BK442 2; have hcz12_3 := cz_ BK442 3; have hfz12_0 := fz_ BK442 0; have hfz12_1 := fz_ BK442 1; have hfz12_2 := fz_ BK442 2; have hfz12_3 := fz_ BK442 3; have hcz13_0 := cz_ BK440 0; have hcz13_1 := cz_ BK440 1; have hfz13_0 := fz_ BK440 0; have hfz13_1 := fz_ BK440 1) | ((with_reducible refine gate_callee (f := 46) rfl ?_); refine gs_ (some 19) Try.func46 #[.agg #[.slice (some ad441) l0_0.length c0_0, .slice A0_1 l0_1.length c0_1], .int .i64 ((rd_T63 l0_0 x11_1).f0), .int .i64 a1] ?_; (with_reducible refine (patrol_Ready.calls _ _ l0_0 _ _ l0_1 ((rd_T63 l0_0 x11_1).f0) a1 true _ ?side1 ?side2 ?side3 ?side4 A8.out).mono ?_); (case side1 => exact Kd.C_below HR0_0.out bel_); (case side2 => exact HC0_0.out); (case side3 => exact Kd.C_below HR0_1.out bel_); (case side4 => exact HC0_1.out); rintro e w14 ⟨rfl, hb⟩; refine ⟨_, rfl, ?_⟩; have n0_ := a_ (Kd.R_below (by (with_reducible repeat (first | apply Kd.R_alloc | apply Kd.R_drewN | apply Kd.R_drew)); exact (Kd.R_mono (Kd.R_far (p := ⟨gb442, 3, none⟩) (Kd.R_far (p := ⟨gb442, 2, none⟩) (Kd.R_far (p := ⟨gb442, 1, none⟩) (Kd.R_far (p := ⟨gb442, 0, none⟩) (Kd.R_types HO_5.out BK442.out (by decide)) (fun _ hk => hk.2) (.int .i64 ((rd_T63 l0_0 x11_1).f0))) (fun _ hk => hk.2) (.slice A441_1 ((rd_T63 l0_0 x11_1).f1.f0).length c441_1)) (fun _ hk => hk.2) (.int .i64 ((rd_T63 l0_0 x11_1).f1.f1))) (fun _ hk => hk.2) (.slice A441_3 ((rd_T63 l0_0 x11_1).f1.f2).length c441_3)) (fun _ h_ => h_.1))) hb); have n1_ := a_ (blk_below (g := gb440) (o := .cells #[.slice (some ad441) l0_0.length c0_0, .slice A0_1 l0_1.length c0_1] 48 (0, 0)) (by refine blk_far ?_ NB440_442.out _; refine blk_far ?_ NB440_442.out _; refine blk_far ?_ NB440_442.out _; refine blk_far ?_ NB440_442.out _; exact BK440.out) hb); have n2_ := a_ (blk_below (g := gb442) (o := .cells #[.int .i64 ((rd_T63 l0_0 x11_1).f0), .slice A441_1 ((rd_T63 l0_0 x11_1).f1.f0).length c441_1, .int .i64 ((rd_T63 l0_0 x11_1).f1.f1), .slice A441_3 ((rd_T63 l0_0 x11_1).f1.f2).length c441_3] 63 (0, 0)) (by refine blk_put (cs := #[.int .i64 ((rd_T63 l0_0 x11_1).f0), .slice A441_1 ((rd_T63 l0_0 x11_1).f1.f0).length c441_1, .int .i64 ((rd_T63 l0_0 x11_1).f1.f1), .slice none 0 0]) ?_ 3 _ rfl; refine blk_put (cs := #[.int .i64 ((rd_T63 l0_0 x11_1).f0), .slice A441_1 ((rd_T63 l0_0 x11_1).f1.f0).length c441_1, .int .i64 0, .slice none 0 0]) ?_ 2 _ rfl; refine blk_put (cs := #[.int .i64 ((rd_T63 l0_0 x11_1).f0), .slice none 0 0, .int .i64 0, .slice none 0 0]) ?_ 1 _ rfl; refine blk_put (cs := #[.int .i64 0, .slice none 0 0, .int .i64 0, .slice none 0 0]) ?_ 0 _ rfl; exact BK442.out) hb); have n3_ := a_ (below_step bel_ hb); clear HO_5; clear BK440; clear BK442; clear HB; have HO_5 := n0_; have BK440 := n1_; have BK442 := n2_; have HB := n3_; clear n0_ n1_ n2_ n3_; (try clear hb); (try clear hb2); (try clear hk); (try clear hi)))
       go_roundg k1
       case measure => have := HK1.out; omega
       case rel => exact ⟨(x5_1), (wrap64 (x11_1 + 1)), (by first | rfl | (simp; done) | (simp [*]; done)), H', ⟨by have := HK1.out; omega⟩, ⟨by (with_reducible repeat (first | apply Kd.R_alloc | apply Kd.R_drewN | apply Kd.R_drew)); exact HO_5.out⟩, ⟨by exact BK440.out⟩, ⟨by repeat (first | (with_reducible first | exact HB.out | apply below_alloc | apply pw_below_drewN | apply below_drew1 | refine below_set ?_ GE440.out | refine below_set ?_ GE442.out) | exact HB.out)⟩⟩
      ·replace c9 := Bool.eq_false_iff.mpr c9
       subst c9
       have H1 : (if x5_1.length < 17592186044416 then (patrol_Open.l0 k1 a1 (x5_1 ++ [(rd_T63 l0_0 x11_1).f0]) l0_0 (l0_0.length : Int) (wrap64 (x11_1 + 1)) l0_0 l0_1) else (none)) = some r := by rw [if_neg (show ¬ (false = true) by decide)] at H; exact H
       clear H
       have H := H1
       clear H1
       by_cases c15 : x5_1.length < 17592186044416
       ·rw [if_pos c15] at H
        have LMc15 := a_ c15
        clear c15
        obtain ⟨y444, hy444⟩ : ∃ y_ : List Int, y_ = (x5_1 ++ [(rd_T63 l0_0 x11_1).f0]) := ⟨_, rfl⟩
        replace H : (patrol_Open.l0 k1 a1 y444 l0_0 (l0_0.length : Int) (wrap64 (x11_1 + 1)) l0_0 l0_1) = some r := by first | (rw [hy444]; with_reducible exact H) | (have H2_ := (Option.bind_some _ _).symm.trans H; rw [hy444]; with_reducible exact H2_) | (have H2_ := (Option.bind_some _ _).symm.trans H; with_reducible exact H2_) | with_reducible exact H | (rw [hy444]; exact H) | exact H
        have Ny444 := a_ hy444
        clear hy444
        have H' := a_ H
        clear H
        have p441 : 0 ≤ (x11_1 : Int) := od_
        have q441 : x11_1 < (l0_0.length : Int) := od_
        obtain ⟨ad441, A441_1, c441_1, A441_3, c441_3, e441, hx441_0, hx441_1, hx441_2, hx441_3, hl441_1, hi441_1, hl441_3, hi441_3⟩ := at_T63 HR0_0.out x11_1 p441 q441
        cases e441
        replace hx441_0 := pc_ hx441_0
        replace hx441_1 := pc_ hx441_1
        replace hx441_2 := pc_ hx441_2
        replace hx441_3 := pc_ hx441_3
        have HR441_1 := a_ hi441_1
        have HC441_1 := a_ hl441_1
        clear hi441_1 hl441_1
        have HR441_3 := a_ hi441_3
        have HC441_3 := a_ hl441_3
        clear hi441_3 hl441_3
        replace p441 := eq_true p441
        replace q441 := eq_true q441
        go_wp2_with (first | ((with_reducible refine gate_dst (N := 7) rfl ?_); refine box_event ?hg (N := 7) ?hd (cs := #[.int .i64 0, .slice none 0 0, .int .i64 0, .slice none 0 0]) (t := 63) ?hr ?_; (case hd => rfl); (case hg => rfl); (case hr => first | (go_simp; done) | (go_simp; rfl)); intro gb442 hg w16 hbox hb; have n0_ := a_ (Kd.R_below (kR_ HO_5.out) hb); have n1_ := a_ (blk_below (bk_ BK440.out) hb); have n2_ := a_ (below_step bel_ hb); have n3_ := a_ (hbox); have n4_ := a_ (bz_ hg : w.heap.size ≤ gb442); have n5_ := a_ (bz_ hg : w.heap.size ≤ gb442); have n6_ := a_ (nl_ hg (bk_ BK440.out)); have n7_ := a_ (ng_ hg (bk_ BK440.out)); clear HO_5; clear BK440; clear HB; have HO_5 := n0_; have BK440 := n1_; have HB := n2_; have BK442 := n3_; have GW442 := n4_; have GE442 := n5_; have NB440_442 := n6_; have NB442_440 := n7_; clear n0_ n1_ n2_ n3_ n4_ n5_ n6_ n7_; clear hb hbox hg; have hnb17 := NB442_440.out; have hnc17 := NB440_442.out; have hcz18_0 := cz_ BK442 0; have hcz18_1 := cz_ BK442 1; have hcz18_2 := cz_ BK442 2; have hcz18_3 := cz_ BK442 3; have hfz18_0 := fz_ BK442 0; have hfz18_1 := fz_ BK442 1; have hfz18_2 := fz_ BK442 2; have hfz18_3 := fz_ BK442 3; have hcz19_0 := cz_ BK440 0; have hcz19_1 := cz_ BK440 1; have hfz19_0 := fz_ BK440 0; have hfz19_1 := fz_ BK440 1) | ((with_reducible refine gate_callee (f := 46) rfl ?_); refine gs_ (some 19) Try.func46 #[.agg #[.slice (some ad441) l0_0.length c0_0, .slice A0_1 l0_1.length c0_1], .int .i64 ((rd_T63 l0_0 x11_1).f0), .int .i64 a1] ?_; (with_reducible refine (patrol_Ready.calls _ _ l0_0 _ _ l0_1 ((rd_T63 l0_0 x11_1).f0) a1 false _ ?side1 ?side2 ?side3 ?side4 A8.out).mono ?_); (case side1 => exact Kd.C_below HR0_0.out bel_); (case side2 => exact HC0_0.out); (case side3 => exact Kd.C_below HR0_1.out bel_); (case side4 => exact HC0_1.out); rintro e w20 ⟨rfl, hb⟩; refine ⟨_, rfl, ?_⟩; have n0_ := a_ (Kd.R_below (by (with_reducible repeat (first | apply Kd.R_alloc | apply Kd.R_drewN | apply Kd.R_drew)); exact (Kd.R_mono (Kd.R_far (p := ⟨gb442, 3, none⟩) (Kd.R_far (p := ⟨gb442, 2, none⟩) (Kd.R_far (p := ⟨gb442, 1, none⟩) (Kd.R_far (p := ⟨gb442, 0, none⟩) (Kd.R_types HO_5.out BK442.out (by decide)) (fun _ hk => hk.2) (.int .i64 ((rd_T63 l0_0 x11_1).f0))) (fun _ hk => hk.2) (.slice A441_1 ((rd_T63 l0_0 x11_1).f1.f0).length c441_1)) (fun _ hk => hk.2) (.int .i64 ((rd_T63 l0_0 x11_1).f1.f1))) (fun _ hk => hk.2) (.slice A441_3 ((rd_T63 l0_0 x11_1).f1.f2).length c441_3)) (fun _ h_ => h_.1))) hb); have n1_ := a_ (blk_below (g := gb440) (o := .cells #[.slice (some ad441) l0_0.length c0_0, .slice A0_1 l0_1.length c0_1] 48 (0, 0)) (by refine blk_far ?_ NB440_442.out _; refine blk_far ?_ NB440_442.out _; refine blk_far ?_ NB440_442.out _; refine blk_far ?_ NB440_442.out _; exact BK440.out) hb); have n2_ := a_ (blk_below (g := gb442) (o := .cells #[.int .i64 ((rd_T63 l0_0 x11_1).f0), .slice A441_1 ((rd_T63 l0_0 x11_1).f1.f0).length c441_1, .int .i64 ((rd_T63 l0_0 x11_1).f1.f1), .slice A441_3 ((rd_T63 l0_0 x11_1).f1.f2).length c441_3] 63 (0, 0)) (by refine blk_put (cs := #[.int .i64 ((rd_T63 l0_0 x11_1).f0), .slice A441_1 ((rd_T63 l0_0 x11_1).f1.f0).length c441_1, .int .i64 ((rd_T63 l0_0 x11_1).f1.f1), .slice none 0 0]) ?_ 3 _ rfl; refine blk_put (cs := #[.int .i64 ((rd_T63 l0_0 x11_1).f0), .slice A441_1 ((rd_T63 l0_0 x11_1).f1.f0).length c441_1, .int .i64 0, .slice none 0 0]) ?_ 2 _ rfl; refine blk_put (cs := #[.int .i64 ((rd_T63 l0_0 x11_1).f0), .slice none 0 0, .int .i64 0, .slice none 0 0]) ?_ 1 _ rfl; refine blk_put (cs := #[.int .i64 0, .slice none 0 0, .int .i64 0, .slice none 0 0]) ?_ 0 _ rfl; exact BK442.out) hb); have n3_ := a_ (below_step bel_ hb); clear HO_5; clear BK440; clear BK442; clear HB; have HO_5 := n0_; have BK440 := n1_; have BK442 := n2_; have HB := n3_; clear n0_ n1_ n2_ n3_; (try clear hb); (try clear hb2); (try clear hk); (try clear hi); have hcz21_0 := cz_ BK442 0; have hcz21_1 := cz_ BK442 1; have hcz21_2 := cz_ BK442 2; have hcz21_3 := cz_ BK442 3; have hfz21_0 := fz_ BK442 0; have hfz21_1 := fz_ BK442 1; have hfz21_2 := fz_ BK442 2; have hfz21_3 := fz_ BK442 3) | ((with_reducible refine gate_builtin (b := .append) (xs := #[.tmp 21, .tmp 24]) rfl ?_); at_builtin; refine Kd.R_append (Kd.int .i64) (w0 := w) w.heap.size rfl (.tmp 21) (.tmp 24) 22 3 (.int .i64 0) 8 rfl Try.underlying22 info3 rfl (by decide) (by omega) u5 x5_1 ((rd_T63 l0_0 x11_1).f0) [.int .i64 ((rd_T63 l0_0 x11_1).f0)] (fun _ => True) (fun _ => False) rfl rfl ?aP (fun _ hk => hk.elim) ?aF ?aO ?aB ?aS ?aL ?_; (case aP => exact rfl); (case aB => exact bel_); (case aF => exact (fun _ _ => trivial)); (case aO => exact (kR_ HO_5.out)); (case aS => exact (below_size bel_)); (case aL => have := LMc15.out; omega); intro v445 w22 ho hb hg hat; rw [← Ny444.out] at ho; have n0_ := a_ (blk_grown (bk_ BK440.out) hg (Kd.R_ne HO_5.out BK440.out (by decide))); have n1_ := a_ (blk_grown (bk_ BK442.out) hg (Kd.R_ne HO_5.out BK442.out (by decide))); have n2_ := a_ (hb); have n3_ := a_ (ho); clear BK440; clear BK442; clear HB; clear HO_5; have BK440 := n0_; have BK442 := n1_; have HB := n2_; have HO446 := n3_; clear n0_ n1_ n2_ n3_; clear ho hb hg hat))
        go_roundg k1
        case measure => have := HK1.out; omega
        case rel => exact ⟨(y444), (wrap64 (x11_1 + 1)), (by first | rfl | (simp; done) | (simp [*]; done)), H', ⟨by have := HK1.out; omega⟩, ⟨by (with_reducible repeat (first | apply Kd.R_alloc | apply Kd.R_drewN | apply Kd.R_drew)); exact HO446.out⟩, ⟨by exact BK440.out⟩, ⟨by repeat (first | (with_reducible first | exact HB.out | apply below_alloc | apply pw_below_drewN | apply below_drew1 | refine below_set ?_ GE440.out | refine below_set ?_ GE442.out) | exact HB.out)⟩⟩
       ·rw [if_neg c15] at H
        exact absurd H (by simp)
     ·rw [if_neg c7] at H
      exact absurd H (by simp)
    ·rw [if_neg c6] at H
     exact absurd H (by simp)
   ·rw [if_neg c5] at H
    have c5b0 : decide (x11_1 < (l0_0.length : Int)) = false := decide_eq_false c5
    clear c5
    obtain rfl := Option.some.inj H
    go_wp2
    go_ret
    exact ⟨_, by first | rfl | (simp [errW_none, errW_some] <;> rfl) | (simp [*, errW_none, errW_some] <;> rfl), by (with_reducible repeat (first | apply Kd.R_alloc | apply Kd.R_drewN | apply Kd.R_drew)); exact HO_5.out, by repeat (first | (with_reducible first | exact HB.out | apply below_alloc | apply pw_below_drewN | apply below_drew1 | refine below_set ?_ GE440.out) | exact HB.out)⟩
def skiarearef53_Own_s.l0 : Nat → Int → List (S63) → List (S56) → List (S63) → Option ((List (S63)) × (List (S56)))
 | 0, _, _, _, _ => none
 | k + 1, x4, x549000, x549001, x551000 => if x4 < (x549000.length : Int) then (if 0 ≤ x4 then (if ([] : List Int).length + ((rd_T63 x549000 x4).f1.f0).length < 17592186044416 then (if ([] : List (S35)).length + ((rd_T63 x549000 x4).f1.f2).length < 5864062014805 then (if x551000.length < 2199023255552 then (skiarearef53_Own_s.l0 k (wrap64 (x4 + 1)) x549000 x549001 (x551000 ++ [(⟨(rd_T63 x549000 x4).f0, (⟨(([] : List Int) ++ ((rd_T63 x549000 x4).f1.f0)), (rd_T63 x549000 x4).f1.f1, (([] : List (S35)) ++ ((rd_T63 x549000 x4).f1.f2))⟩ : S25)⟩ : S63)])) else (none)) else (none)) else (none)) else (none)) else (if ([] : List (S56)).length + x549001.length < 5864062014805 then (some (x551000, (([] : List (S56)) ++ x549001))) else (none))
def skiarearef53_Own_s.f (k : Nat) (l0_0 : List (S63)) (l0_1 : List (S56)) : Option ((List (S63)) × (List (S56))) := skiarearef53_Own_s.l0 k 0 l0_0 l0_1 ([] : List (S63))
theorem skiarearef53_Own_s.mono_l : ∀ k, (∀ y0 y1 y2 y3, LeO (skiarearef53_Own_s.l0 k y0 y1 y2 y3) (skiarearef53_Own_s.l0 (k + 1) y0 y1 y2 y3))
 | 0 => fun _ _ _ _ r h => by simp [skiarearef53_Own_s.l0] at h
 | k + 1 => by
  have ih0 := skiarearef53_Own_s.mono_l k
  ·intro y0 y1 y2 y3
   unfold skiarearef53_Own_s.l0
   repeat' first
   | (with_reducible exact ih0 _ _ _ _)
   | (with_reducible exact LeO.refl _)
   | (with_reducible exact LeO.none _)
   | (with_reducible refine LeO.ite ?_ ?_)
   | (with_reducible refine LeO.bind ?_ (fun _ => ?_))
   | exact ih0 _ _ _ _
   | exact LeO.none _
   | refine LeO.ite ?_ ?_
   | refine LeO.bind ?_ (fun _ => ?_)
theorem skiarearef53_Own_s.mono : ∀ a0 a1 k, LeO (skiarearef53_Own_s.f k a0 a1) (skiarearef53_Own_s.f (k + 1) a0 a1) := by
 intro a0 a1 k
 have ih0 := skiarearef53_Own_s.mono_l k
 unfold skiarearef53_Own_s.f
 repeat' first
   | (with_reducible exact ih0 _ _ _ _)
   | (with_reducible exact LeO.refl _)
   | (with_reducible exact LeO.none _)
   | (with_reducible refine LeO.ite ?_ ?_)
   | (with_reducible refine LeO.bind ?_ (fun _ => ?_))
   | exact ih0 _ _ _ _
   | exact LeO.none _
   | refine LeO.ite ?_ ?_
   | refine LeO.bind ?_ (fun _ => ?_)
set_option maxHeartbeats 8000000 in
set_option maxRecDepth 100000 in
theorem skiarearef53_Own_s.calls (k : Nat) (A0_0 : Option Addr) (c0_0 : Nat) (l0_0 : List (S63)) (A0_1 : Option Addr) (c0_1 : Nat) (l0_1 : List (S56)) (r1 : List (S63)) (r2 : List (S56)) (w : World) (hr0_0 : Kd.C k63 w A0_0 l0_0.length l0_0) (hc0_0 : l0_0.length ≤ c0_0) (hr0_1 : Kd.C k56 w A0_1 l0_1.length l0_1) (hc0_1 : l0_1.length ≤ c0_1) (h : skiarearef53_Own_s.f k l0_0 l0_1 = some (r1, r2)) :
  Calls Try.prog 70 #[.agg #[.slice A0_0 l0_0.length c0_0, .slice A0_1 l0_1.length c0_1]] w fun e w' => ∃ v0_ v1_ : Value, e = .returned (.agg #[v0_, v1_]) ∧ Kd.S k63 63 w' w.heap.size (fun _ => True) v0_ r1 ∧ Kd.R k56 56 w' w.heap.size (fun _ => True) v1_ r2 ∧ Below w.heap.size w w' := by
 have hu48 := Try.underlying48
 have hu63 := Try.underlying63
 have HR0_0 := a_ hr0_0
 have HC0_0 := a_ hc0_0
 clear hr0_0 hc0_0
 have HR0_1 := a_ hr0_1
 have HC0_1 := a_ hc0_1
 clear hr0_1 hc0_1
 have HB := a_ (Below.refl w.heap.size w)
 have H : (skiarearef53_Own_s.l0 k 0 l0_0 l0_1 ([] : List (S63))) = some (r1, r2) := h
 clear h
 have H' := a_ H
 clear H
 go_enter Try.func70, Try.ntmps70
 go_wp2_with (first | ((with_reducible refine gate_dst (N := 1) rfl ?_); refine box_event ?hg (N := 1) ?hd (cs := #[.slice A0_0 l0_0.length c0_0, .slice A0_1 l0_1.length c0_1]) (t := 48) ?hr ?_; (case hd => rfl); (case hg => rfl); (case hr => first | (go_simp; done) | (go_simp; rfl)); intro gb548 hg w2 hbox hb; have n0_ := a_ (below_step bel_ hb); have n1_ := a_ (hbox); have n2_ := a_ (bz_ hg : w.heap.size ≤ gb548); have n3_ := a_ (bz_ hg : w.heap.size ≤ gb548); clear HB; have HB := n0_; have BK548 := n1_; have GW548 := n2_; have GE548 := n3_; clear n0_ n1_ n2_ n3_; clear hb hbox hg) | ((with_reducible refine gate_dst (N := 2) rfl ?_); refine box_event ?hg (N := 2) ?hd (cs := #[.slice none 0 0, .slice none 0 0]) (t := 48) ?hr ?_; (case hd => rfl); (case hg => rfl); (case hr => first | (go_simp; done) | (go_simp; rfl)); intro gb549 hg w3 hbox hb; have n0_ := a_ (blk_below (bk_ BK548.out) hb); have n1_ := a_ (below_step bel_ hb); have n2_ := a_ (hbox); have n3_ := a_ (bz_ hg : w.heap.size ≤ gb549); have n4_ := a_ (bz_ hg : w.heap.size ≤ gb549); have n5_ := a_ (nl_ hg (bk_ BK548.out)); have n6_ := a_ (ng_ hg (bk_ BK548.out)); clear BK548; clear HB; have BK548 := n0_; have HB := n1_; have BK549 := n2_; have GW549 := n3_; have GE549 := n4_; have NB548_549 := n5_; have NB549_548 := n6_; clear n0_ n1_ n2_ n3_ n4_ n5_ n6_; clear hb hbox hg) | ((with_reducible refine gate_dst (N := 3) rfl ?_); refine box_event ?hg (N := 3) ?hd (cs := #[.slice none 0 0, .slice none 0 0]) (t := 48) ?hr ?_; (case hd => rfl); (case hg => rfl); (case hr => first | (go_simp; done) | (go_simp; rfl)); intro gb550 hg w4 hbox hb; have n0_ := a_ (blk_below (bk_ BK548.out) hb); have n1_ := a_ (blk_below (bk_ BK549.out) hb); have n2_ := a_ (below_step bel_ hb); have n3_ := a_ (hbox); have n4_ := a_ (bz_ hg : w.heap.size ≤ gb550); have n5_ := a_ (bz_ hg : w.heap.size ≤ gb550); have n6_ := a_ (nl_ hg (bk_ BK548.out)); have n7_ := a_ (ng_ hg (bk_ BK548.out)); have n8_ := a_ (nl_ hg (bk_ BK549.out)); have n9_ := a_ (ng_ hg (bk_ BK549.out)); clear BK548; clear BK549; clear HB; have BK548 := n0_; have BK549 := n1_; have HB := n2_; have BK550 := n3_; have GW550 := n4_; have GE550 := n5_; have NB548_550 := n6_; have NB550_548 := n7_; have NB549_550 := n8_; have NB550_549 := n9_; clear n0_ n1_ n2_ n3_ n4_ n5_ n6_ n7_ n8_ n9_; clear hb hbox hg))
 go_loopg [4] k (fun kq v4 w' => ∃ (x4_1 : Int) (x551000_1 : List (S63)) (u551000 : Value), v4 = .int .i64 x4_1 ∧ Aside0 (skiarearef53_Own_s.l0 kq x4_1 l0_0 l0_1 x551000_1 = some (r1, r2)) ∧ Aside0 (kq ≤ k) ∧ Aside0 (Kd.S k63 63 w' w.heap.size (fun _ => True) u551000 x551000_1) ∧ Aside0 (w'.heap[gb548]? = some (.cells #[(.slice A0_0 l0_0.length c0_0), (.slice A0_1 l0_1.length c0_1)] 48 (0, 0))) ∧ Aside0 (w'.heap[gb549]? = some (.cells #[(.slice none 0 0), (.slice none 0 0)] 48 (0, 0))) ∧ Aside0 (w'.heap[gb550]? = some (.cells #[u551000, (.slice none 0 0)] 48 (0, 0))) ∧ Aside0 (Below w.heap.size w w'))
 case atStart => exact ⟨(0), (([] : List (S63))), (.slice none 0 0), (by first | rfl | (simp; done) | (simp [*]; done)), H', ⟨Nat.le_refl _⟩, ⟨by first | exact Kd.S_nil _ _ _ _ _ | exact Kd.N_nil _ _ _ _ _ | exact Kd.V_nil _ _ _ _ _ | exact Kd.Q_nil _ _ _ _ _ | exact Kd.R_nil _ _ _ _ _⟩, ⟨by exact BK548.out⟩, ⟨by exact BK549.out⟩, ⟨by exact BK550.out⟩, ⟨by repeat (first | (with_reducible first | exact HB.out | apply below_alloc | apply pw_below_drewN | apply below_drew1 | refine below_set ?_ GE548.out | refine below_set ?_ GE549.out | refine below_set ?_ GE550.out) | exact HB.out)⟩⟩
 case round =>
  clear H'
  try clear p2
  obtain ⟨x4_1, x551000_1, u551000, rfl, HA, HK1, HO_551000, BK548, BK549, BK550, HB⟩ := hrel
  cases gk with
  | zero => exact absurd HA.out (by simp [skiarearef53_Own_s.l0])
  | succ k1 =>
   have H := HA.out
   clear HA
   simp only [skiarearef53_Own_s.l0] at H
   by_cases c5 : x4_1 < (l0_0.length : Int)
   ·rw [if_pos c5] at H
    have c5b0 : decide (x4_1 < (l0_0.length : Int)) = true := decide_eq_true c5
    clear c5
    by_cases c6 : 0 ≤ x4_1
    ·rw [if_pos c6] at H
     have c6b0 : decide (0 ≤ x4_1) = true := decide_eq_true c6
     clear c6
     by_cases c7 : ([] : List Int).length + ((rd_T63 l0_0 x4_1).f1.f0).length < 17592186044416
     ·rw [if_pos c7] at H
      have LMc7 := a_ c7
      clear c7
      obtain ⟨y553, hy553⟩ : ∃ y_ : List Int, y_ = (([] : List Int) ++ ((rd_T63 l0_0 x4_1).f1.f0)) := ⟨_, rfl⟩
      replace H : (if ([] : List (S35)).length + ((rd_T63 l0_0 x4_1).f1.f2).length < 5864062014805 then (if x551000_1.length < 2199023255552 then (skiarearef53_Own_s.l0 k1 (wrap64 (x4_1 + 1)) l0_0 l0_1 (x551000_1 ++ [(⟨(rd_T63 l0_0 x4_1).f0, (⟨y553, (rd_T63 l0_0 x4_1).f1.f1, (([] : List (S35)) ++ ((rd_T63 l0_0 x4_1).f1.f2))⟩ : S25)⟩ : S63)])) else (none)) else (none)) = some (r1, r2) := by first | (rw [hy553]; with_reducible exact H) | (have H2_ := (Option.bind_some _ _).symm.trans H; rw [hy553]; with_reducible exact H2_) | (have H2_ := (Option.bind_some _ _).symm.trans H; with_reducible exact H2_) | with_reducible exact H | (rw [hy553]; exact H) | exact H
      have Ny553 := a_ hy553
      clear hy553
      by_cases c8 : ([] : List (S35)).length + ((rd_T63 l0_0 x4_1).f1.f2).length < 5864062014805
      ·rw [if_pos c8] at H
       have LMc8 := a_ c8
       clear c8
       obtain ⟨y556, hy556⟩ : ∃ y_ : List (S35), y_ = (([] : List (S35)) ++ ((rd_T63 l0_0 x4_1).f1.f2)) := ⟨_, rfl⟩
       replace H : (if x551000_1.length < 2199023255552 then (skiarearef53_Own_s.l0 k1 (wrap64 (x4_1 + 1)) l0_0 l0_1 (x551000_1 ++ [(⟨(rd_T63 l0_0 x4_1).f0, (⟨y553, (rd_T63 l0_0 x4_1).f1.f1, y556⟩ : S25)⟩ : S63)])) else (none)) = some (r1, r2) := by first | (rw [hy556]; with_reducible exact H) | (have H2_ := (Option.bind_some _ _).symm.trans H; rw [hy556]; with_reducible exact H2_) | (have H2_ := (Option.bind_some _ _).symm.trans H; with_reducible exact H2_) | with_reducible exact H | (rw [hy556]; exact H) | exact H
       have Ny556 := a_ hy556
       clear hy556
       by_cases c9 : x551000_1.length < 2199023255552
       ·rw [if_pos c9] at H
        have LMc9 := a_ c9
        clear c9
        obtain ⟨y559, hy559⟩ : ∃ y_ : List (S63), y_ = (x551000_1 ++ [(⟨(rd_T63 l0_0 x4_1).f0, (⟨y553, (rd_T63 l0_0 x4_1).f1.f1, y556⟩ : S25)⟩ : S63)]) := ⟨_, rfl⟩
        replace H : (skiarearef53_Own_s.l0 k1 (wrap64 (x4_1 + 1)) l0_0 l0_1 y559) = some (r1, r2) := by first | (rw [hy559]; with_reducible exact H) | (have H2_ := (Option.bind_some _ _).symm.trans H; rw [hy559]; with_reducible exact H2_) | (have H2_ := (Option.bind_some _ _).symm.trans H; with_reducible exact H2_) | with_reducible exact H | (rw [hy559]; exact H) | exact H
        have Ny559 := a_ hy559
        clear hy559
        have H' := a_ H
        clear H
        have hnb10 := NB548_549.out
        have hnc10 := NB549_548.out
        have hnb11 := NB548_550.out
        have hnc11 := NB550_548.out
        have hcz12_0 := cz_ BK548 0
        have hcz12_1 := cz_ BK548 1
        have hfz12_0 := fz_ BK548 0
        have hfz12_1 := fz_ BK548 1
        have p551 : 0 ≤ (x4_1 : Int) := od_
        have q551 : x4_1 < (l0_0.length : Int) := od_
        obtain ⟨ad551, A551_1, c551_1, A551_3, c551_3, e551, hx551_0, hx551_1, hx551_2, hx551_3, hl551_1, hi551_1, hl551_3, hi551_3⟩ := at_T63 HR0_0.out x4_1 p551 q551
        cases e551
        replace hx551_0 := pc_ hx551_0
        replace hx551_1 := pc_ hx551_1
        replace hx551_2 := pc_ hx551_2
        replace hx551_3 := pc_ hx551_3
        have HR551_1 := a_ hi551_1
        have HC551_1 := a_ hl551_1
        clear hi551_1 hl551_1
        have HR551_3 := a_ hi551_3
        have HC551_3 := a_ hl551_3
        clear hi551_3 hl551_3
        replace p551 := eq_true p551
        replace q551 := eq_true q551
        go_wp2_with (first | ((with_reducible refine gate_dst (N := 5) rfl ?_); refine box_event ?hg (N := 5) ?hd (cs := #[.int .i64 0, .slice none 0 0, .int .i64 0, .slice none 0 0]) (t := 63) ?hr ?_; (case hd => rfl); (case hg => rfl); (case hr => first | (go_simp; done) | (go_simp; rfl)); intro gb552 hg w13 hbox hb; have n0_ := a_ (Kd.S_below (Kd.S_elderB (kS_ HO_551000.out) gb552 (Nat.le_of_eq hg.symm)) hb); have n1_ := a_ (blk_below (bk_ BK548.out) hb); have n2_ := a_ (blk_below (bk_ BK549.out) hb); have n3_ := a_ (blk_below (bk_ BK550.out) hb); have n4_ := a_ (below_step bel_ hb); have n5_ := a_ (hbox); have n6_ := a_ (bz_ hg : w.heap.size ≤ gb552); have n7_ := a_ (bz_ hg : w.heap.size ≤ gb552); have n8_ := a_ (nl_ hg (bk_ BK548.out)); have n9_ := a_ (ng_ hg (bk_ BK548.out)); have n10_ := a_ (nl_ hg (bk_ BK549.out)); have n11_ := a_ (ng_ hg (bk_ BK549.out)); have n12_ := a_ (nl_ hg (bk_ BK550.out)); have n13_ := a_ (ng_ hg (bk_ BK550.out)); clear HO_551000; clear BK548; clear BK549; clear BK550; clear HB; have HO_551000 := n0_; have BK548 := n1_; have BK549 := n2_; have BK550 := n3_; have HB := n4_; have BK552 := n5_; have GW552 := n6_; have GE552 := n7_; have NB548_552 := n8_; have NB552_548 := n9_; have NB549_552 := n10_; have NB552_549 := n11_; have NB550_552 := n12_; have NB552_550 := n13_; clear n0_ n1_ n2_ n3_ n4_ n5_ n6_ n7_ n8_ n9_ n10_ n11_ n12_ n13_; clear hb hbox hg; have hnb14 := NB552_548.out; have hnc14 := NB548_552.out; have hnb15 := NB552_549.out; have hnc15 := NB549_552.out; have hnb16 := NB552_550.out; have hnc16 := NB550_552.out; have hcz17_0 := cz_ BK552 0; have hcz17_1 := cz_ BK552 1; have hcz17_2 := cz_ BK552 2; have hcz17_3 := cz_ BK552 3; have hfz17_0 := fz_ BK552 0; have hfz17_1 := fz_ BK552 1; have hfz17_2 := fz_ BK552 2; have hfz17_3 := fz_ BK552 3) | ((with_reducible refine gate_builtin (b := .append) (xs := #[.const (.slice none 0 0), .tmp 20]) rfl ?_); at_builtin; refine Kd.R_append_rows (Kd.int .i64) (w0 := w) w.heap.size rfl (.const (.slice none 0 0)) (.tmp 20) 22 3 (.int .i64 0) 8 rfl Try.underlying22 info3 rfl (by decide) (by omega) (.slice none 0 0) ([] : List Int) ((rd_T63 l0_0 x4_1).f1.f0) _ _ _ (fun _ => True) (fun _ => False) rfl rfl ?aO ?aR (fun _ _ h => h) (fun _ h => h.elim) ?aF ?aB ?aS ?aL ?_; (case aR => exact Kd.C_below HR551_1.out bel_); (case aB => exact bel_); (case aF => exact (fun _ _ => trivial)); (case aO => exact ((Kd.R_nil _ _ _ _ (fun _ => True)))); (case aS => exact (below_size bel_)); (case aL => have := LMc7.out; omega); intro v554 w18 ho hb hg hat; rw [← Ny553.out] at ho; have n0_ := a_ (Kd.S_after (Kd.S_apart_nil (by (with_reducible repeat (first | apply Kd.S_alloc | apply Kd.S_drewN | apply Kd.S_drew)); exact (Kd.S_mono (Kd.S_far (p := ⟨gb552, 3, none⟩) (Kd.S_far (p := ⟨gb552, 2, none⟩) (Kd.S_far (p := ⟨gb552, 1, none⟩) (Kd.S_far (p := ⟨gb552, 0, none⟩) (Kd.S_mono HO_551000.out (fun k_ hk => (⟨hk, hk.2⟩ : _ ∧ k_ ≠ gb552))) (fun _ hk => hk.2) (.int .i64 ((rd_T63 l0_0 x4_1).f0))) (fun _ hk => hk.2) (.slice A551_1 ((rd_T63 l0_0 x4_1).f1.f0).length c551_1)) (fun _ hk => hk.2) (.int .i64 ((rd_T63 l0_0 x4_1).f1.f1))) (fun _ hk => hk.2) (.slice A551_3 ((rd_T63 l0_0 x4_1).f1.f2).length c551_3)) (fun _ h_ => h_.1)))) hg hat); have n1_ := a_ (blk_grown (g := gb548) (o := .cells #[.slice (some ad551) l0_0.length c0_0, .slice A0_1 l0_1.length c0_1] 48 (0, 0)) (by refine blk_far ?_ NB548_552.out _; refine blk_far ?_ NB548_552.out _; refine blk_far ?_ NB548_552.out _; refine blk_far ?_ NB548_552.out _; exact BK548.out) hg (by simp [Value.ownBlock])); have n2_ := a_ (blk_grown (g := gb549) (o := .cells #[.slice none 0 0, .slice none 0 0] 48 (0, 0)) (by refine blk_far ?_ NB549_552.out _; refine blk_far ?_ NB549_552.out _; refine blk_far ?_ NB549_552.out _; refine blk_far ?_ NB549_552.out _; exact BK549.out) hg (by simp [Value.ownBlock])); have n3_ := a_ (blk_grown (g := gb550) (o := .cells #[u551000, .slice none 0 0] 48 (0, 0)) (by refine blk_far ?_ NB550_552.out _; refine blk_far ?_ NB550_552.out _; refine blk_far ?_ NB550_552.out _; refine blk_far ?_ NB550_552.out _; exact BK550.out) hg (by simp [Value.ownBlock])); have n4_ := a_ (blk_grown (g := gb552) (o := .cells #[.int .i64 ((rd_T63 l0_0 x4_1).f0), .slice A551_1 ((rd_T63 l0_0 x4_1).f1.f0).length c551_1, .int .i64 ((rd_T63 l0_0 x4_1).f1.f1), .slice A551_3 ((rd_T63 l0_0 x4_1).f1.f2).length c551_3] 63 (0, 0)) (by refine blk_put (cs := #[.int .i64 ((rd_T63 l0_0 x4_1).f0), .slice A551_1 ((rd_T63 l0_0 x4_1).f1.f0).length c551_1, .int .i64 ((rd_T63 l0_0 x4_1).f1.f1), .slice none 0 0]) ?_ 3 _ rfl; refine blk_put (cs := #[.int .i64 ((rd_T63 l0_0 x4_1).f0), .slice A551_1 ((rd_T63 l0_0 x4_1).f1.f0).length c551_1, .int .i64 0, .slice none 0 0]) ?_ 2 _ rfl; refine blk_put (cs := #[.int .i64 ((rd_T63 l0_0 x4_1).f0), .slice none 0 0, .int .i64 0, .slice none 0 0]) ?_ 1 _ rfl; refine blk_put (cs := #[.int .i64 0, .slice none 0 0, .int .i64 0, .slice none 0 0]) ?_ 0 _ rfl; exact BK552.out) hg (by simp [Value.ownBlock])); have n5_ := a_ (hb); have n6_ := a_ (ho); clear HO_551000; clear BK548; clear BK549; clear BK550; clear BK552; clear HB; have HO_551000 := n0_; have BK548 := n1_; have BK549 := n2_; have BK550 := n3_; have BK552 := n4_; have HB := n5_; have HO555 := n6_; clear n0_ n1_ n2_ n3_ n4_ n5_ n6_; clear ho hb hg hat; obtain ⟨Ao19, co19, eo19⟩ := Kd.R_slice HO555.out; subst eo19; have hcz20_0 := cz_ BK552 0; have hcz20_1 := cz_ BK552 1; have hcz20_2 := cz_ BK552 2; have hcz20_3 := cz_ BK552 3; have hfz20_0 := fz_ BK552 0; have hfz20_1 := fz_ BK552 1; have hfz20_2 := fz_ BK552 2; have hfz20_3 := fz_ BK552 3) | ((with_reducible refine gate_builtin (b := .append) (xs := #[.const (.slice none 0 0), .tmp 26]) rfl ?_); at_builtin; refine Kd.R_append_rows k35 (w0 := w) w.heap.size rfl (.const (.slice none 0 0)) (.tmp 26) 23 35 (.agg #[(.int .i64 0), (.int .i64 0), (.int .i64 0)]) 24 rfl Try.underlying23 info35 rfl (by decide) (by omega) (.slice none 0 0) ([] : List (S35)) ((rd_T63 l0_0 x4_1).f1.f2) _ _ _ (fun _ => True) (fun _ => False) rfl rfl ?aO ?aR (fun _ _ h => h) (fun _ h => h.elim) ?aF ?aB ?aS ?aL ?_; (case aR => exact Kd.C_below HR551_3.out bel_); (case aB => exact bel_); (case aF => exact (fun _ _ => trivial)); (case aO => exact ((Kd.R_nil _ _ _ _ (fun _ => True)))); (case aS => exact (below_size bel_)); (case aL => have := LMc8.out; omega); intro v557 w21 ho hb hg hat; rw [← Ny556.out] at ho; have n0_ := a_ (Kd.S_after (Kd.S_apart_nil (by (with_reducible repeat (first | apply Kd.S_alloc | apply Kd.S_drewN | apply Kd.S_drew)); exact (Kd.S_mono (Kd.S_far (p := ⟨gb552, 1, none⟩) (Kd.S_mono HO_551000.out (fun k_ hk => (⟨hk, hk.1.2⟩ : _ ∧ k_ ≠ gb552))) (fun _ hk => hk.2) (.slice Ao19 y553.length co19)) (fun _ h_ => h_.1)))) hg hat); have n1_ := a_ (blk_grown (g := gb548) (o := .cells #[.slice (some ad551) l0_0.length c0_0, .slice A0_1 l0_1.length c0_1] 48 (0, 0)) (by refine blk_far ?_ NB548_552.out _; exact BK548.out) hg (by simp [Value.ownBlock])); have n2_ := a_ (blk_grown (g := gb549) (o := .cells #[.slice none 0 0, .slice none 0 0] 48 (0, 0)) (by refine blk_far ?_ NB549_552.out _; exact BK549.out) hg (by simp [Value.ownBlock])); have n3_ := a_ (blk_grown (g := gb550) (o := .cells #[u551000, .slice none 0 0] 48 (0, 0)) (by refine blk_far ?_ NB550_552.out _; exact BK550.out) hg (by simp [Value.ownBlock])); have n4_ := a_ (blk_grown (g := gb552) (o := .cells #[.int .i64 ((rd_T63 l0_0 x4_1).f0), .slice Ao19 y553.length co19, .int .i64 ((rd_T63 l0_0 x4_1).f1.f1), .slice A551_3 ((rd_T63 l0_0 x4_1).f1.f2).length c551_3] 63 (0, 0)) (by refine blk_put (cs := #[.int .i64 ((rd_T63 l0_0 x4_1).f0), .slice A551_1 ((rd_T63 l0_0 x4_1).f1.f0).length c551_1, .int .i64 ((rd_T63 l0_0 x4_1).f1.f1), .slice A551_3 ((rd_T63 l0_0 x4_1).f1.f2).length c551_3]) ?_ 1 _ rfl; exact BK552.out) hg (by simp [Value.ownBlock])); have n5_ := a_ (Kd.R_grown (by (with_reducible repeat (first | apply Kd.R_alloc | apply Kd.R_drewN | apply Kd.R_drew)); exact (Kd.R_mono (Kd.R_far (p := ⟨gb552, 1, none⟩) (Kd.R_types HO555.out BK552.out (by decide)) (fun _ hk => hk.2) (.slice Ao19 y553.length co19)) (fun _ h_ => h_.1))) hg (fun _ _ => by simp [Value.ownBlock])); have n6_ := a_ (hb); have n7_ := a_ (ho); clear HO_551000; clear BK548; clear BK549; clear BK550; clear BK552; clear HO555; clear HB; have HO_551000 := n0_; have BK548 := n1_; have BK549 := n2_; have BK550 := n3_; have BK552 := n4_; have HO555 := n5_; have HB := n6_; have HO558 := n7_; clear n0_ n1_ n2_ n3_ n4_ n5_ n6_ n7_; clear ho hb hg hat; obtain ⟨Ao22, co22, eo22⟩ := Kd.R_slice HO558.out; subst eo22; have hcz23_0 := cz_ BK552 0; have hcz23_1 := cz_ BK552 1; have hcz23_2 := cz_ BK552 2; have hcz23_3 := cz_ BK552 3; have hfz23_0 := fz_ BK552 0; have hfz23_1 := fz_ BK552 1; have hfz23_2 := fz_ BK552 2; have hfz23_3 := fz_ BK552 3) | ((with_reducible refine gate_store (t := 23) (p := 29) rfl ?_); refine store_event (t := 23) (p := 29) (v := ?vo_w24) (w1 := (w21.setCell ⟨gb552, 3, none⟩ (.slice Ao22 y556.length co22))) ?hg ?ho ?hn ?hr ?_; (case ho => rfl); (case hg => rfl); (case hn => rfl); (case hr => first | (go_simp; done) | (go_simp; rfl)); intro w24 hw; have n0_ : Aside0 (Kd.S k63 63 w24 w.heap.size (fun k_ => some k_ ≠ (.slice Ao19 y553.length co19 : Value).ownBlock ∧ some k_ ≠ (.slice Ao22 y556.length co22 : Value).ownBlock ∧ k_ ≠ gb552) u551000 x551000_1) := ⟨(by rw [hw]; exact (by (with_reducible repeat (first | apply Kd.S_alloc | apply Kd.S_drewN | apply Kd.S_drew)); exact Kd.S_mono (Kd.S_far (p := ⟨gb552, 3, none⟩) (Kd.S_mono HO_551000.out (fun k_ hk => (⟨hk, hk.1.1.2⟩ : _ ∧ k_ ≠ gb552))) (fun _ hk => hk.2) (.slice Ao22 y556.length co22)) (fun _ hk => ⟨hk.1.1.2, ⟨hk.1.2, hk.1.1.1.2⟩⟩)))⟩; have n1_ : Aside0 (Kd.R (Kd.int .i64) 3 w24 w.heap.size (fun _ => True) (.slice Ao19 y553.length co19) y553) := ⟨(by rw [hw]; exact (by (with_reducible repeat (first | apply Kd.R_alloc | apply Kd.R_drewN | apply Kd.R_drew)); exact Kd.R_mono (Kd.R_far (p := ⟨gb552, 3, none⟩) (Kd.R_types HO555.out BK552.out (by decide)) (fun _ hk => hk.2) (.slice Ao22 y556.length co22)) (fun _ hk => trivial)))⟩; have n2_ : Aside0 (Kd.R k35 35 w24 w.heap.size (fun _ => True) (.slice Ao22 y556.length co22) y556) := ⟨(by rw [hw]; exact (by (with_reducible repeat (first | apply Kd.R_alloc | apply Kd.R_drewN | apply Kd.R_drew)); exact Kd.R_mono (Kd.R_far (p := ⟨gb552, 3, none⟩) (Kd.R_types HO558.out BK552.out (by decide)) (fun _ hk => hk.2) (.slice Ao22 y556.length co22)) (fun _ hk => trivial)))⟩; have n3_ : Aside0 (w24.heap[gb548]? = some (.cells #[.slice (some ad551) l0_0.length c0_0, .slice A0_1 l0_1.length c0_1] 48 (0, 0))) := ⟨(by rw [hw]; exact (by refine blk_far ?_ NB548_552.out _; exact BK548.out))⟩; have n4_ : Aside0 (w24.heap[gb549]? = some (.cells #[.slice none 0 0, .slice none 0 0] 48 (0, 0))) := ⟨(by rw [hw]; exact (by refine blk_far ?_ NB549_552.out _; exact BK549.out))⟩; have n5_ : Aside0 (w24.heap[gb550]? = some (.cells #[u551000, .slice none 0 0] 48 (0, 0))) := ⟨(by rw [hw]; exact (by refine blk_far ?_ NB550_552.out _; exact BK550.out))⟩; have n6_ : Aside0 (w24.heap[gb552]? = some (.cells #[.int .i64 ((rd_T63 l0_0 x4_1).f0), .slice Ao19 y553.length co19, .int .i64 ((rd_T63 l0_0 x4_1).f1.f1), .slice Ao22 y556.length co22] 63 (0, 0))) := ⟨(by rw [hw]; exact (by refine blk_put (cs := #[.int .i64 ((rd_T63 l0_0 x4_1).f0), .slice Ao19 y553.length co19, .int .i64 ((rd_T63 l0_0 x4_1).f1.f1), .slice A551_3 ((rd_T63 l0_0 x4_1).f1.f2).length c551_3]) ?_ 3 _ rfl; exact BK552.out))⟩; have n7_ : Aside0 (Below w.heap.size w w24) := ⟨(by rw [hw]; exact bel_)⟩; clear hw; clear HO_551000; clear HO555; clear HO558; clear BK548; clear BK549; clear BK550; clear BK552; clear HB; have HO_551000 := n0_; have HO555 := n1_; have HO558 := n2_; have BK548 := n3_; have BK549 := n4_; have BK550 := n5_; have BK552 := n6_; have HB := n7_; clear n0_ n1_ n2_ n3_ n4_ n5_ n6_ n7_; have hnb25 := NB550_549.out; have hnc25 := NB549_550.out; have hcz26_0 := cz_ BK550 0; have hcz26_1 := cz_ BK550 1; have hfz26_0 := fz_ BK550 0; have hfz26_1 := fz_ BK550 1; have hcz27_0 := cz_ BK552 0; have hcz27_1 := cz_ BK552 1; have hcz27_2 := cz_ BK552 2; have hcz27_3 := cz_ BK552 3; have hfz27_0 := fz_ BK552 0; have hfz27_1 := fz_ BK552 1; have hfz27_2 := fz_ BK552 2; have hfz27_3 := fz_ BK552 3) | ((with_reducible refine gate_builtin (b := .append) (xs := #[.tmp 31, .tmp 33]) rfl ?_); at_builtin; refine Kd.S_append k63 (w0 := w) w.heap.size rfl (.tmp 31) (.tmp 33) 45 63 (.agg #[(.int .i64 0), (.slice none 0 0), (.int .i64 0), (.slice none 0 0)]) 64 rfl Try.underlying45 info63 rfl (by decide) (by omega) u551000 x551000_1 (⟨(rd_T63 l0_0 x4_1).f0, (⟨y553, (rd_T63 l0_0 x4_1).f1.f1, y556⟩ : S25)⟩ : S63) [.int .i64 ((rd_T63 l0_0 x4_1).f0), .slice Ao19 y553.length co19, .int .i64 ((rd_T63 l0_0 x4_1).f1.f1), .slice Ao22 y556.length co22] (fun k_ => k_ ≠ gb552) (fun k_ => some k_ = (.slice Ao19 y553.length co19 : Value).ownBlock ∨ some k_ = (.slice Ao22 y556.length co22 : Value).ownBlock) rfl rfl ?aP (fun k_ hk_ => hk_.elim (fun h_ => ((Kd.R_mono (ok' := fun k_ => ((fun k_ => k_ ≠ gb552)) k_ ∧ some k_ ≠ (u551000 : Value).ownBlock) (Kd.R_types (Kd.R_apart' (HO555.out) (Kd.S_typed HO_551000.out) (by decide)) BK552.out (by decide)) (fun k_ hk => ⟨hk.2, hk.1.2⟩))).1 k_ h_.symm) (fun h_ => ((Kd.R_mono (ok' := fun k_ => ((fun k_ => k_ ≠ gb552)) k_ ∧ some k_ ≠ (u551000 : Value).ownBlock) (Kd.R_types (Kd.R_apart' (HO558.out) (Kd.S_typed HO_551000.out) (by decide)) BK552.out (by decide)) (fun k_ hk => ⟨hk.2, hk.1.2⟩))).1 k_ h_.symm)) ?aF ?aO ?aB ?aS ?aL ?_; (case aP => exact k63_mkM _ _ _ (⟨(rd_T63 l0_0 x4_1).f0, (⟨y553, (rd_T63 l0_0 x4_1).f1.f1, y556⟩ : S25)⟩ : S63) (Kd.R_mono (Kd.R_tight rfl (Kd.R_mono (ok' := fun k_ => ((fun k_ => k_ ≠ gb552)) k_ ∧ some k_ ≠ (u551000 : Value).ownBlock) (Kd.R_types (Kd.R_apart' (HO555.out) (Kd.S_typed HO_551000.out) (by decide)) BK552.out (by decide)) (fun k_ hk => ⟨hk.2, hk.1.2⟩))) (fun _ h_ => Or.inl h_)) (Kd.R_mono (Kd.R_tight rfl (Kd.R_mono (ok' := fun k_ => ((fun k_ => k_ ≠ gb552)) k_ ∧ some k_ ≠ (u551000 : Value).ownBlock) (Kd.R_types (Kd.R_apart' (HO558.out) (Kd.S_typed HO_551000.out) (by decide)) BK552.out (by decide)) (fun k_ hk => ⟨hk.2, hk.1.2⟩))) (fun _ h_ => Or.inr (h_)))); (case aB => exact bel_); (case aF => exact (fun k_ hk => Kd.freshB (bk_ BK552.out) k_ hk)); (case aO => exact (by (with_reducible repeat (first | apply Kd.S_alloc | apply Kd.S_drewN | apply Kd.S_drew)); exact Kd.S_mono HO_551000.out (fun k_ hk => ⟨hk.2.2, fun e_ => e_.elim (fun h_ => hk.1 h_) (fun h_ => hk.2.1 h_)⟩))); (case aS => exact (below_size bel_)); (case aL => have := LMc9.out; omega); intro v560 w28 ho hb hg hat; rw [← Ny559.out] at ho; have n0_ := a_ (blk_grown (bk_ BK548.out) hg (Kd.S_ne HO_551000.out BK548.out (by decide))); have n1_ := a_ (blk_grown (bk_ BK549.out) hg (Kd.S_ne HO_551000.out BK549.out (by decide))); have n2_ := a_ (blk_grown (bk_ BK550.out) hg (Kd.S_ne HO_551000.out BK550.out (by decide))); have n3_ := a_ (blk_grown (bk_ BK552.out) hg (Kd.S_away HO_551000.out (fun _ hk => hk.2.2))); have n4_ := a_ (hb); have n5_ := a_ (ho); clear BK548; clear BK549; clear BK550; clear BK552; clear HB; clear HO_551000; clear HO555; clear HO558; have BK548 := n0_; have BK549 := n1_; have BK550 := n2_; have BK552 := n3_; have HB := n4_; have HO561 := n5_; clear n0_ n1_ n2_ n3_ n4_ n5_; clear ho hb hg hat; obtain ⟨Ao29, co29, eo29⟩ := Kd.S_slice HO561.out; subst eo29; have hcz30_0 := cz_ BK550 0; have hcz30_1 := cz_ BK550 1; have hfz30_0 := fz_ BK550 0; have hfz30_1 := fz_ BK550 1))
        go_roundg k1
        case measure => have := HK1.out; omega
        case rel => exact ⟨(wrap64 (x4_1 + 1)), (y559), (.slice Ao29 y559.length co29), (by first | rfl | (simp; done) | (simp [*]; done)), H', ⟨by have := HK1.out; omega⟩, ⟨by (with_reducible repeat (first | apply Kd.S_alloc | apply Kd.S_drewN | apply Kd.S_drew)); exact Kd.S_mono (Kd.S_far (p := ⟨gb550, 0, none⟩) (Kd.S_types HO561.out BK550.out (by decide)) (fun _ hk => hk.2) (.slice Ao29 y559.length co29)) (fun _ hk => trivial)⟩, ⟨by refine blk_far ?_ NB548_550.out _; exact BK548.out⟩, ⟨by refine blk_far ?_ NB549_550.out _; exact BK549.out⟩, ⟨by refine blk_put (cs := #[u551000, .slice none 0 0]) ?_ 0 _ rfl; exact BK550.out⟩, ⟨by repeat (first | (with_reducible first | exact HB.out | apply below_alloc | apply pw_below_drewN | apply below_drew1 | refine below_set ?_ GE548.out | refine below_set ?_ GE549.out | refine below_set ?_ GE550.out | refine below_set ?_ GE552.out) | exact HB.out)⟩⟩
       ·rw [if_neg c9] at H
        exact absurd H (by simp)
      ·rw [if_neg c8] at H
       exact absurd H (by simp)
     ·rw [if_neg c7] at H
      exact absurd H (by simp)
    ·rw [if_neg c6] at H
     exact absurd H (by simp)
   ·rw [if_neg c5] at H
    have c5b0 : decide (x4_1 < (l0_0.length : Int)) = false := decide_eq_false c5
    clear c5
    by_cases c31 : ([] : List (S56)).length + l0_1.length < 5864062014805
    ·rw [if_pos c31] at H
     have LMc31 := a_ c31
     clear c31
     obtain ⟨y562, hy562⟩ : ∃ y_ : List (S56), y_ = (([] : List (S56)) ++ l0_1) := ⟨_, rfl⟩
     replace H : (some (x551000_1, y562)) = some (r1, r2) := by first | (rw [hy562]; with_reducible exact H) | (have H2_ := (Option.bind_some _ _).symm.trans H; rw [hy562]; with_reducible exact H2_) | (have H2_ := (Option.bind_some _ _).symm.trans H; with_reducible exact H2_) | with_reducible exact H | (rw [hy562]; exact H) | exact H
     have Ny562 := a_ hy562
     clear hy562
     simp only [Option.some.injEq, Prod.mk.injEq] at H
     obtain ⟨rfl, rfl⟩ := H
     have hnb32 := NB548_549.out
     have hnc32 := NB549_548.out
     have hnb33 := NB548_550.out
     have hnc33 := NB550_548.out
     have hcz34_0 := cz_ BK548 0
     have hcz34_1 := cz_ BK548 1
     have hfz34_0 := fz_ BK548 0
     have hfz34_1 := fz_ BK548 1
     go_wp2_with (first | ((with_reducible refine gate_builtin (b := .append) (xs := #[.const (.slice none 0 0), .tmp 37]) rfl ?_); at_builtin; refine Kd.R_append_rows k56 (w0 := w) w.heap.size rfl (.const (.slice none 0 0)) (.tmp 37) 46 56 (.agg #[(.int .i64 0), (.int .i64 0), (.int .i64 0)]) 24 rfl Try.underlying46 info56 rfl (by decide) (by omega) (.slice none 0 0) ([] : List (S56)) l0_1 _ _ _ (fun _ => True) (fun _ => False) rfl rfl ?aO ?aR (fun _ _ h => h) (fun _ h => h.elim) ?aF ?aB ?aS ?aL ?_; (case aR => exact kC_ (Kd.C_below HR0_1.out HB.out)); (case aB => exact bel_); (case aF => exact (fun _ _ => trivial)); (case aO => exact ((Kd.R_nil _ _ _ _ (fun _ => True)))); (case aS => exact (below_size bel_)); (case aL => have := LMc31.out; omega); intro v563 w35 ho hb hg hat; rw [← Ny562.out] at ho; have n0_ := a_ (Kd.S_grown (kS_ HO_551000.out) hg (fun _ _ => by simp [Value.ownBlock])); have n1_ := a_ (blk_grown (bk_ BK548.out) hg (by simp [Value.ownBlock])); have n2_ := a_ (blk_grown (bk_ BK549.out) hg (by simp [Value.ownBlock])); have n3_ := a_ (blk_grown (bk_ BK550.out) hg (by simp [Value.ownBlock])); have n4_ := a_ (hb); have n5_ := a_ (ho); clear HO_551000; clear BK548; clear BK549; clear BK550; clear HB; have HO_551000 := n0_; have BK548 := n1_; have BK549 := n2_; have BK550 := n3_; have HB := n4_; have HO564 := n5_; clear n0_ n1_ n2_ n3_ n4_ n5_; clear ho hb hg hat; obtain ⟨Ao36, co36, eo36⟩ := Kd.R_slice HO564.out; subst eo36; have hnb37 := NB550_549.out; have hnc37 := NB549_550.out; have hcz38_0 := cz_ BK550 0; have hcz38_1 := cz_ BK550 1; have hfz38_0 := fz_ BK550 0; have hfz38_1 := fz_ BK550 1; obtain ⟨Ao39, co39, eo39⟩ := Kd.S_slice HO_551000.out; subst eo39; have hcz40_0 := cz_ BK549 0; have hcz40_1 := cz_ BK549 1; have hfz40_0 := fz_ BK549 0; have hfz40_1 := fz_ BK549 1))
     refine bodyPost_ret (results_cell_row rfl _ _ gb549 48 #[.slice Ao39 x551000_1.length co39, .slice Ao36 y562.length co36] (0, 0) _ rfl (by refine blk_put (cs := #[.slice Ao39 x551000_1.length co39, .slice none 0 0]) ?_ 1 _ rfl; refine blk_put (cs := #[.slice none 0 0, .slice none 0 0]) ?_ 0 _ rfl; refine blk_far ?_ NB549_550.out _; exact BK549.out) Try.underlying48 rfl (by kernel_rfl)) rfl ?_
     exact ⟨_, _, by first | rfl | (simp [errW_none, errW_some] <;> rfl) | (simp [*, errW_none, errW_some] <;> rfl), by (with_reducible repeat (first | apply Kd.S_alloc | apply Kd.S_drewN | apply Kd.S_drew)); exact Kd.S_mono (Kd.S_far (p := ⟨gb549, 1, none⟩) (Kd.S_far (p := ⟨gb549, 0, none⟩) (Kd.S_far (p := ⟨gb550, 1, none⟩) (Kd.S_types (Kd.S_types HO_551000.out BK550.out (by decide)) BK549.out (by decide)) (fun _ hk => hk.1.2) (.slice Ao36 y562.length co36)) (fun _ hk => hk.2) (.slice Ao39 x551000_1.length co39)) (fun _ hk => hk.2) (.slice Ao36 y562.length co36)) (fun _ hk => trivial), by (with_reducible repeat (first | apply Kd.R_alloc | apply Kd.R_drewN | apply Kd.R_drew)); exact Kd.R_mono (Kd.R_far (p := ⟨gb549, 1, none⟩) (Kd.R_far (p := ⟨gb549, 0, none⟩) (Kd.R_far (p := ⟨gb550, 1, none⟩) (Kd.R_types (Kd.R_types HO564.out BK550.out (by decide)) BK549.out (by decide)) (fun _ hk => hk.1.2) (.slice Ao36 y562.length co36)) (fun _ hk => hk.2) (.slice Ao39 x551000_1.length co39)) (fun _ hk => hk.2) (.slice Ao36 y562.length co36)) (fun _ hk => trivial), by repeat (first | (with_reducible first | exact HB.out | apply below_alloc | apply pw_below_drewN | apply below_drew1 | refine below_set ?_ GE548.out | refine below_set ?_ GE549.out | refine below_set ?_ GE550.out) | exact HB.out)⟩
    ·rw [if_neg c31] at H
     exact absurd H (by simp)

def skiarearef53_Own.f (k : Nat) (l0_0 : List S63) (l0_1 : List S56) : Option (List S63 × List S56) := skiarearef53_Own_s.f k l0_0 l0_1
theorem skiarearef53_Own.mono : ∀ a0 a1 k, LeO (skiarearef53_Own.f k a0 a1) (skiarearef53_Own.f (k + 1) a0 a1) := skiarearef53_Own_s.mono
theorem skiarearef53_Own.calls (k : Nat) (A0_0 : Option Addr) (c0_0 : Nat) (l0_0 : List (S63)) (A0_1 : Option Addr) (c0_1 : Nat) (l0_1 : List (S56)) (r1 : List (S63)) (r2 : List (S56)) (w : World) (hr0_0 : Kd.C k63 w A0_0 l0_0.length l0_0) (hc0_0 : l0_0.length ≤ c0_0) (hr0_1 : Kd.C k56 w A0_1 l0_1.length l0_1) (hc0_1 : l0_1.length ≤ c0_1) (h : skiarearef53_Own.f k l0_0 l0_1 = some (r1, r2)) :
  Calls Try.prog 70 #[.agg #[.slice A0_0 l0_0.length c0_0, .slice A0_1 l0_1.length c0_1]] w fun e w' => ∃ v0_ v1_ : Value, e = .returned (.agg #[v0_, v1_]) ∧ Kd.N k63 63 w' w.heap.size (fun k_ => (w.heap.size ≤ k_) ∧ some k_ ≠ (v1_ : Value).ownBlock) v0_ r1 ∧ Kd.R k56 56 w' w.heap.size (fun k_ => (w.heap.size ≤ k_)) v1_ r2 ∧ Below w.heap.size w w' :=
 (skiarearef53_Own_s.calls k A0_0 c0_0 l0_0 A0_1 c0_1 l0_1 r1 r2 w hr0_0 hc0_0 hr0_1 hc0_1 h).mono fun e w' ⟨v0, v1, he, hS, hR, hb⟩ => ⟨v0, v1, he, Kd.N_mono (Kd.S_N (Kd.S_apart' (Kd.S_bound hS) (Kd.R_typed hR) (by decide))) (fun k hk => ⟨hk.1.2.1, hk.2⟩), Kd.R_mono (Kd.R_bound hR) (fun k hk => hk.2.1), hb⟩
theorem eqA35 (d : Nat) (w : World) (x0 y0 : Int) (x1 y1 : Int) (x2 y2 : Int) :
  (Op.equalIn (d + 2) 35 (.agg #[.int .i64 x0, .int .i64 x1, .int .i64 x2]) (.agg #[.int .i64 y0, .int .i64 y1, .int .i64 y2])).run Try.prog w = .ok (x0 == y0 && (x1 == y1 && (x2 == y2))) w := by
 refine eqA_of Try.underlying35 (by kernel_rfl) ?_
 refine eqf_cons (by rfl) (by go_simp; rfl) (by go_simp; rfl) (by go_simp) ?_
 refine eqf_cons (by rfl) (by go_simp; rfl) (by go_simp; rfl) (by go_simp) ?_
 exact eqf_last (by rfl) (by go_simp; rfl) (by go_simp; rfl) (by go_simp)
def skiarearef19_SameInts.l0 : Nat → List Int → List Int → Int → Option (Bool)
 | 0, _, _, _ => none
 | k + 1, x0, x1, x5 => if x5 < (x0.length : Int) then (if 0 ≤ x5 then (if x5 < (x1.length : Int) then (if (rd x0 x5) = (rd x1 x5) then (skiarearef19_SameInts.l0 k x0 x1 (wrap64 (x5 + 1))) else (some false)) else (none)) else (none)) else (some true)
def skiarearef19_SameInts.f (k : Nat) (l0 : List Int) (l1 : List Int) : Option (Bool) := if (l0.length : Int) = (l1.length : Int) then (skiarearef19_SameInts.l0 k l0 l1 0) else (some false)
theorem skiarearef19_SameInts.mono_l : ∀ k, (∀ y0 y1 y2, LeO (skiarearef19_SameInts.l0 k y0 y1 y2) (skiarearef19_SameInts.l0 (k + 1) y0 y1 y2))
 | 0 => fun _ _ _ r h => by simp [skiarearef19_SameInts.l0] at h
 | k + 1 => by
  have ih0 := skiarearef19_SameInts.mono_l k
  ·intro y0 y1 y2
   unfold skiarearef19_SameInts.l0
   repeat' first
   | (with_reducible exact ih0 _ _ _)
   | (with_reducible exact LeO.refl _)
   | (with_reducible exact LeO.none _)
   | (with_reducible refine LeO.ite ?_ ?_)
   | (with_reducible refine LeO.bind ?_ (fun _ => ?_))
   | exact ih0 _ _ _
   | exact LeO.none _
   | refine LeO.ite ?_ ?_
   | refine LeO.bind ?_ (fun _ => ?_)
theorem skiarearef19_SameInts.mono : ∀ a0 a1 k, LeO (skiarearef19_SameInts.f k a0 a1) (skiarearef19_SameInts.f (k + 1) a0 a1) := by
 intro a0 a1 k
 have ih0 := skiarearef19_SameInts.mono_l k
 unfold skiarearef19_SameInts.f
 repeat' first
   | (with_reducible exact ih0 _ _ _)
   | (with_reducible exact LeO.refl _)
   | (with_reducible exact LeO.none _)
   | (with_reducible refine LeO.ite ?_ ?_)
   | (with_reducible refine LeO.bind ?_ (fun _ => ?_))
   | exact ih0 _ _ _
   | exact LeO.none _
   | refine LeO.ite ?_ ?_
   | refine LeO.bind ?_ (fun _ => ?_)
set_option maxHeartbeats 8000000 in
set_option maxRecDepth 100000 in
theorem skiarearef19_SameInts.calls (k : Nat) (A0 : Option Addr) (c0 : Nat) (l0 : List Int) (A1 : Option Addr) (c1 : Nat) (l1 : List Int) (r : Bool) (w : World) (hr0 : Kd.C (Kd.int .i64) w A0 l0.length l0) (hc0 : l0.length ≤ c0) (hr1 : Kd.C (Kd.int .i64) w A1 l1.length l1) (hc1 : l1.length ≤ c1) (h : skiarearef19_SameInts.f k l0 l1 = some r) :
  Calls Try.prog 26 #[.slice A0 l0.length c0, .slice A1 l1.length c1] w fun e w' => e = .returned (.bool r) ∧ Drawn0 w w' := by
 have HR0 := a_ hr0
 have HC0 := a_ hc0
 clear hr0 hc0
 have HR1 := a_ hr1
 have HC1 := a_ hc1
 clear hr1 hc1
 have H : (if (l0.length : Int) = (l1.length : Int) then (skiarearef19_SameInts.l0 k l0 l1 0) else (some false)) = some r := h
 clear h
 by_cases c3 : (l0.length : Int) = (l1.length : Int)
 ·rw [if_pos c3] at H
  have c3b0 : ((l0.length : Int) == (l1.length : Int)) = true := beq_iff_eq.mpr c3
  have c3b1 : ((l0.length : Int) != (l1.length : Int)) = false := bne_eq_false_iff_eq.mpr c3
  have c3b2 : (l0.length == l1.length) = true := by first | simpa using c3 | (simp at c3 ⊢; omega)
  clear c3
  have H' := a_ H
  clear H
  go_enter Try.func26, Try.ntmps26
  go_wp2
  repeat (go_quiet (fail); try go_wp2)
  go_loopg [5] k (fun kq v5 w' => ∃ (x5_1 : Int), v5 = .int .i64 x5_1 ∧ Aside0 (skiarearef19_SameInts.l0 kq l0 l1 x5_1 = some r) ∧ Aside0 (kq ≤ k) ∧ Drawn0 w w')
  case atStart => exact ⟨(0), (by first | rfl | (simp; done) | (simp [*]; done)), H', ⟨Nat.le_refl _⟩, by repeat (first | exact Drawn0.refl _ | apply Drawn0.step)⟩
  case round =>
   clear H'
   try clear c1
   try clear c2
   try clear p2
   try clear c3
   try clear c3b0
   try clear c3b1
   try clear c3b2
   obtain ⟨x5_1, rfl, HA, HK1, ⟨m1, rfl⟩⟩ := hrel
   cases gk with
   | zero => exact absurd HA.out (by simp [skiarearef19_SameInts.l0])
   | succ k1 =>
    have H := HA.out
    clear HA
    simp only [skiarearef19_SameInts.l0] at H
    by_cases c4 : x5_1 < (l0.length : Int)
    ·rw [if_pos c4] at H
     have c4b0 : decide (x5_1 < (l0.length : Int)) = true := decide_eq_true c4
     clear c4
     by_cases c5 : 0 ≤ x5_1
     ·rw [if_pos c5] at H
      have c5b0 : decide (0 ≤ x5_1) = true := decide_eq_true c5
      clear c5
      by_cases c6 : x5_1 < (l1.length : Int)
      ·rw [if_pos c6] at H
       have c6b0 : decide (x5_1 < (l1.length : Int)) = true := decide_eq_true c6
       clear c6
       by_cases c7 : (rd l0 x5_1) = (rd l1 x5_1)
       ·rw [if_pos c7] at H
        have c7b0 : ((rd l0 x5_1) == (rd l1 x5_1)) = true := beq_iff_eq.mpr c7
        have c7b1 : ((rd l0 x5_1) != (rd l1 x5_1)) = false := bne_eq_false_iff_eq.mpr c7
        clear c7
        have H' := a_ H
        clear H
        have p126 : 0 ≤ (x5_1 : Int) := od_
        have q126 : x5_1 < (l0.length : Int) := od_
        obtain ⟨ad126, e126, hx126_0⟩ := Kd.at_int HR0.out x5_1 p126 q126
        cases e126
        replace p126 := eq_true p126
        replace q126 := eq_true q126
        have p127 : 0 ≤ (x5_1 : Int) := od_
        have q127 : x5_1 < (l1.length : Int) := od_
        obtain ⟨ad127, e127, hx127_0⟩ := Kd.at_int HR1.out x5_1 p127 q127
        cases e127
        replace p127 := eq_true p127
        replace q127 := eq_true q127
        go_wp2
        repeat (go_quiet (fail); try go_wp2)
        go_roundg k1
        case measure => have := HK1.out; omega
        case rel => exact ⟨(wrap64 (x5_1 + 1)), (by first | rfl | (simp; done) | (simp [*]; done)), H', ⟨by have := HK1.out; omega⟩, by repeat (first | exact Drawn0.refl _ | apply Drawn0.step)⟩
       ·rw [if_neg c7] at H
        have c7b0 : ((rd l0 x5_1) == (rd l1 x5_1)) = false := beq_eq_false_iff_ne.mpr c7
        have c7b1 : ((rd l0 x5_1) != (rd l1 x5_1)) = true := bne_iff_ne.mpr c7
        obtain rfl := Option.some.inj H
        have p126 : 0 ≤ (x5_1 : Int) := od_
        have q126 : x5_1 < (l0.length : Int) := od_
        obtain ⟨ad126, e126, hx126_0⟩ := Kd.at_int HR0.out x5_1 p126 q126
        cases e126
        replace p126 := eq_true p126
        replace q126 := eq_true q126
        have p127 : 0 ≤ (x5_1 : Int) := od_
        have q127 : x5_1 < (l1.length : Int) := od_
        obtain ⟨ad127, e127, hx127_0⟩ := Kd.at_int HR1.out x5_1 p127 q127
        cases e127
        replace p127 := eq_true p127
        replace q127 := eq_true q127
        go_wp2
        repeat (go_quiet (fail); try go_wp2)
        go_ret
        exact ⟨by first | rfl | (simp; done) | (simp [*]; done), by repeat (first | exact Drawn0.refl _ | apply Drawn0.step)⟩
      ·rw [if_neg c6] at H
       exact absurd H (by simp)
     ·rw [if_neg c5] at H
      exact absurd H (by simp)
    ·rw [if_neg c4] at H
     have c4b0 : decide (x5_1 < (l0.length : Int)) = false := decide_eq_false c4
     clear c4
     obtain rfl := Option.some.inj H
     go_wp2
     repeat (go_quiet (fail); try go_wp2)
     go_ret
     exact ⟨by first | rfl | (simp; done) | (simp [*]; done), by repeat (first | exact Drawn0.refl _ | apply Drawn0.step)⟩
 ·rw [if_neg c3] at H
  have c3b0 : ((l0.length : Int) == (l1.length : Int)) = false := beq_eq_false_iff_ne.mpr c3
  have c3b1 : ((l0.length : Int) != (l1.length : Int)) = true := bne_iff_ne.mpr c3
  have c3b2 : (l0.length == l1.length) = false := by first | simpa using c3 | (simp at c3 ⊢; omega)
  obtain rfl := Option.some.inj H
  go_enter Try.func26, Try.ntmps26
  go_wp2
  repeat (go_quiet (fail); try go_wp2)
  go_ret
  exact ⟨by first | rfl | (simp; done) | (simp [*]; done), by repeat (first | exact Drawn0.refl _ | apply Drawn0.step)⟩
theorem eqA56 (d : Nat) (w : World) (x0 y0 : Int) (x1 y1 : Int) (x2 y2 : Int) :
  (Op.equalIn (d + 2) 56 (.agg #[.int .i64 x0, .int .i64 x1, .int .i64 x2]) (.agg #[.int .i64 y0, .int .i64 y1, .int .i64 y2])).run Try.prog w = .ok (x0 == y0 && (x1 == y1 && (x2 == y2))) w := by
 refine eqA_of Try.underlying56 (by kernel_rfl) ?_
 refine eqf_cons (by rfl) (by go_simp; rfl) (by go_simp; rfl) (by go_simp) ?_
 refine eqf_cons (by rfl) (by go_simp; rfl) (by go_simp; rfl) (by go_simp) ?_
 exact eqf_last (by rfl) (by go_simp; rfl) (by go_simp; rfl) (by go_simp)
def skiarearef19_in.f (a0 : Int) (a1 : Int) (a2 : Int) : Option (Bool) := if a0 ≥ a1 then (some (decide (a0 ≤ a2))) else (some false)
set_option maxHeartbeats 8000000 in
set_option maxRecDepth 100000 in
theorem skiarearef19_in.calls (a0 : Int) (a1 : Int) (a2 : Int) (r : Bool) (w : World) (h : skiarearef19_in.f a0 a1 a2 = some r) :
  Calls Try.prog 56 #[.int .i64 a0, .int .i64 a1, .int .i64 a2] w fun e w' => e = .returned (.bool r) ∧ Drawn0 w w' := by
 have H : (if a0 ≥ a1 then (some (decide (a0 ≤ a2))) else (some false)) = some r := h
 clear h
 by_cases c4 : a0 ≥ a1
 ·rw [if_pos c4] at H
  have c4b0 : decide (a1 ≤ a0) = true := decide_eq_true c4
  clear c4
  obtain rfl := Option.some.inj H
  go_enter Try.func56, Try.ntmps56
  go_wp2
  go_ret
  exact ⟨by first | rfl | (simp; done) | (simp [*]; done), by repeat (first | exact Drawn0.refl _ | apply Drawn0.step)⟩
 ·rw [if_neg c4] at H
  have c4b0 : decide (a1 ≤ a0) = false := decide_eq_false c4
  clear c4
  obtain rfl := Option.some.inj H
  go_enter Try.func56, Try.ntmps56
  go_wp2
  go_ret
  exact ⟨by first | rfl | (simp; done) | (simp [*]; done), by repeat (first | exact Drawn0.refl _ | apply Drawn0.step)⟩
def skiarearef19_Has.l0 : Nat → List Int → Int → Int → Option (Bool)
 | 0, _, _, _ => none
 | k + 1, x0, x1, x5 => if x5 < (x0.length : Int) then (if 0 ≤ x5 then (if (rd x0 x5) = x1 then (some true) else (skiarearef19_Has.l0 k x0 x1 (wrap64 (x5 + 1)))) else (none)) else (some false)
def skiarearef19_Has.f (k : Nat) (l0 : List Int) (a1 : Int) : Option (Bool) := skiarearef19_Has.l0 k l0 a1 0
theorem skiarearef19_Has.mono_l : ∀ k, (∀ y0 y1 y2, LeO (skiarearef19_Has.l0 k y0 y1 y2) (skiarearef19_Has.l0 (k + 1) y0 y1 y2))
 | 0 => fun _ _ _ r h => by simp [skiarearef19_Has.l0] at h
 | k + 1 => by
  have ih0 := skiarearef19_Has.mono_l k
  ·intro y0 y1 y2
   unfold skiarearef19_Has.l0
   repeat' first
   | (with_reducible exact ih0 _ _ _)
   | (with_reducible exact LeO.refl _)
   | (with_reducible exact LeO.none _)
   | (with_reducible refine LeO.ite ?_ ?_)
   | (with_reducible refine LeO.bind ?_ (fun _ => ?_))
   | exact ih0 _ _ _
   | exact LeO.none _
   | refine LeO.ite ?_ ?_
   | refine LeO.bind ?_ (fun _ => ?_)
theorem skiarearef19_Has.mono : ∀ a0 a1 k, LeO (skiarearef19_Has.f k a0 a1) (skiarearef19_Has.f (k + 1) a0 a1) := by
 intro a0 a1 k
 have ih0 := skiarearef19_Has.mono_l k
 unfold skiarearef19_Has.f
 repeat' first
   | (with_reducible exact ih0 _ _ _)
   | (with_reducible exact LeO.refl _)
   | (with_reducible exact LeO.none _)
   | (with_reducible refine LeO.ite ?_ ?_)
   | (with_reducible refine LeO.bind ?_ (fun _ => ?_))
   | exact ih0 _ _ _
   | exact LeO.none _
   | refine LeO.ite ?_ ?_
   | refine LeO.bind ?_ (fun _ => ?_)
set_option maxHeartbeats 8000000 in
set_option maxRecDepth 100000 in
theorem skiarearef19_Has.calls (k : Nat) (A0 : Option Addr) (c0 : Nat) (l0 : List Int) (a1 : Int) (r : Bool) (w : World) (hr0 : Kd.C (Kd.int .i64) w A0 l0.length l0) (hc0 : l0.length ≤ c0) (h : skiarearef19_Has.f k l0 a1 = some r) :
  Calls Try.prog 57 #[.slice A0 l0.length c0, .int .i64 a1] w fun e w' => e = .returned (.bool r) ∧ Drawn0 w w' := by
 have HR0 := a_ hr0
 have HC0 := a_ hc0
 clear hr0 hc0
 have H : (skiarearef19_Has.l0 k l0 a1 0) = some r := h
 clear h
 have H' := a_ H
 clear H
 go_enter Try.func57, Try.ntmps57
 go_wp2
 go_loopg [5] k (fun kq v5 w' => ∃ (x5_1 : Int), v5 = .int .i64 x5_1 ∧ Aside0 (skiarearef19_Has.l0 kq l0 a1 x5_1 = some r) ∧ Aside0 (kq ≤ k) ∧ Drawn0 w w')
 case atStart => exact ⟨(0), (by first | rfl | (simp; done) | (simp [*]; done)), H', ⟨Nat.le_refl _⟩, by repeat (first | exact Drawn0.refl _ | apply Drawn0.step)⟩
 case round =>
  clear H'
  try clear p2
  obtain ⟨x5_1, rfl, HA, HK1, ⟨m1, rfl⟩⟩ := hrel
  cases gk with
  | zero => exact absurd HA.out (by simp [skiarearef19_Has.l0])
  | succ k1 =>
   have H := HA.out
   clear HA
   simp only [skiarearef19_Has.l0] at H
   by_cases c3 : x5_1 < (l0.length : Int)
   ·rw [if_pos c3] at H
    have c3b0 : decide (x5_1 < (l0.length : Int)) = true := decide_eq_true c3
    clear c3
    by_cases c4 : 0 ≤ x5_1
    ·rw [if_pos c4] at H
     have c4b0 : decide (0 ≤ x5_1) = true := decide_eq_true c4
     clear c4
     by_cases c5 : (rd l0 x5_1) = a1
     ·rw [if_pos c5] at H
      have c5b0 : ((rd l0 x5_1) == a1) = true := beq_iff_eq.mpr c5
      have c5b1 : ((rd l0 x5_1) != a1) = false := bne_eq_false_iff_eq.mpr c5
      clear c5
      obtain rfl := Option.some.inj H
      have p223 : 0 ≤ (x5_1 : Int) := od_
      have q223 : x5_1 < (l0.length : Int) := od_
      obtain ⟨ad223, e223, hx223_0⟩ := Kd.at_int HR0.out x5_1 p223 q223
      cases e223
      replace p223 := eq_true p223
      replace q223 := eq_true q223
      go_wp2
      go_ret
      exact ⟨by first | rfl | (simp; done) | (simp [*]; done), by repeat (first | exact Drawn0.refl _ | apply Drawn0.step)⟩
     ·rw [if_neg c5] at H
      have c5b0 : ((rd l0 x5_1) == a1) = false := beq_eq_false_iff_ne.mpr c5
      have c5b1 : ((rd l0 x5_1) != a1) = true := bne_iff_ne.mpr c5
      have H' := a_ H
      clear H
      have p223 : 0 ≤ (x5_1 : Int) := od_
      have q223 : x5_1 < (l0.length : Int) := od_
      obtain ⟨ad223, e223, hx223_0⟩ := Kd.at_int HR0.out x5_1 p223 q223
      cases e223
      replace p223 := eq_true p223
      replace q223 := eq_true q223
      go_wp2
      go_roundg k1
      case measure => have := HK1.out; omega
      case rel => exact ⟨(wrap64 (x5_1 + 1)), (by first | rfl | (simp; done) | (simp [*]; done)), H', ⟨by have := HK1.out; omega⟩, by repeat (first | exact Drawn0.refl _ | apply Drawn0.step)⟩
    ·rw [if_neg c4] at H
     exact absurd H (by simp)
   ·rw [if_neg c3] at H
    have c3b0 : decide (x5_1 < (l0.length : Int)) = false := decide_eq_false c3
    clear c3
    obtain rfl := Option.some.inj H
    go_wp2
    go_ret
    exact ⟨by first | rfl | (simp; done) | (simp [*]; done), by repeat (first | exact Drawn0.refl _ | apply Drawn0.step)⟩
end Go.Proofs.Ytmhggplhfcmgkaa.Q
