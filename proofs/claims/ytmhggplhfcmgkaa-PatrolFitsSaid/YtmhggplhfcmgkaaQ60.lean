-- written by wip/drive.py (this session's program) over the kit's print words
import Derived.Test.YtmhggplhfcmgkaaQ0
namespace Go.Proofs.Ytmhggplhfcmgkaa.Q
open Go.RowKit Go.Proofs.YtmhggplhfcmgkaaW.PrintWords Go.Proofs.YtmhggplhfcmgkaaW.PrintLast Go.Proofs.YtmhggplhfcmgkaaW.PrintMore
attribute [local go_sem] max2_int min2_int max_two min_two max_three min_three max_four min_four   -- for this text's walks alone
set_option linter.unusedVariables false
set_option linter.unusedSimpArgs false

/-! ### skiarealaw53_small: function 35 -/
mutual
def skiarealaw53_small.l0 : Nat → Int → List (S63) → List (S56) → Option (Bool)
 | 0, _, _, _ => none
 | k + 1, x3, x525000, x525001 => if x3 < (x525000.length : Int) then (skiarealaw53_small.j1 k x3 (decide (x3 < 71)) x525000 x525001) else (skiarealaw53_small.j1 k x3 false x525000 x525001)
def skiarealaw53_small.j1 : Nat → Int → Bool → List (S63) → List (S56) → Option (Bool)
 | 0, _, _, _, _ => none
 | k + 1, x3, x12, x525000, x525001 => if x12 = true then (if 0 ≤ x3 then (if x3 < (x525000.length : Int) then (if (((rd_T63 x525000 x3).f1.f0).length : Int) > 70 then (some false) else (if (((rd_T63 x525000 x3).f1.f2).length : Int) > 210 then (some false) else (skiarealaw53_small.l0 k (wrap64 (x3 + 1)) x525000 x525001))) else (none)) else (none)) else (if (x525000.length : Int) ≤ 70 then (some (decide ((x525001.length : Int) ≤ 210))) else (some false))
end
def skiarealaw53_small.f (k : Nat) (l0_0 : List (S63)) (l0_1 : List (S56)) : Option (Bool) := skiarealaw53_small.l0 k 0 l0_0 l0_1
theorem skiarealaw53_small.mono_l : ∀ k, (∀ y0 y1 y2, LeO (skiarealaw53_small.l0 k y0 y1 y2) (skiarealaw53_small.l0 (k + 1) y0 y1 y2)) ∧ (∀ y0 y1 y2 y3, LeO (skiarealaw53_small.j1 k y0 y1 y2 y3) (skiarealaw53_small.j1 (k + 1) y0 y1 y2 y3))
 | 0 => ⟨fun _ _ _ r h => by simp [skiarealaw53_small.l0] at h, fun _ _ _ _ r h => by simp [skiarealaw53_small.j1] at h⟩
 | k + 1 => by
  obtain ⟨ih0, ih1⟩ := skiarealaw53_small.mono_l k
  refine ⟨?_, ?_⟩
  ·intro y0 y1 y2
   unfold skiarealaw53_small.l0
   repeat' first
   | (with_reducible exact ih0 _ _ _)
   | (with_reducible exact ih1 _ _ _ _)
   | (with_reducible exact LeO.refl _)
   | (with_reducible exact LeO.none _)
   | (with_reducible refine LeO.ite ?_ ?_)
   | (with_reducible refine LeO.bind ?_ (fun _ => ?_))
   | exact ih0 _ _ _
   | exact ih1 _ _ _ _
   | exact LeO.none _
   | refine LeO.ite ?_ ?_
   | refine LeO.bind ?_ (fun _ => ?_)
  ·intro y0 y1 y2 y3
   unfold skiarealaw53_small.j1
   repeat' first
   | (with_reducible exact ih0 _ _ _)
   | (with_reducible exact ih1 _ _ _ _)
   | (with_reducible exact LeO.refl _)
   | (with_reducible exact LeO.none _)
   | (with_reducible refine LeO.ite ?_ ?_)
   | (with_reducible refine LeO.bind ?_ (fun _ => ?_))
   | exact ih0 _ _ _
   | exact ih1 _ _ _ _
   | exact LeO.none _
   | refine LeO.ite ?_ ?_
   | refine LeO.bind ?_ (fun _ => ?_)
theorem skiarealaw53_small.mono : ∀ a0 a1 k, LeO (skiarealaw53_small.f k a0 a1) (skiarealaw53_small.f (k + 1) a0 a1) := by
 intro a0 a1 k
 obtain ⟨ih0, ih1⟩ := skiarealaw53_small.mono_l k
 unfold skiarealaw53_small.f
 repeat' first
   | (with_reducible exact ih0 _ _ _)
   | (with_reducible exact ih1 _ _ _ _)
   | (with_reducible exact LeO.refl _)
   | (with_reducible exact LeO.none _)
   | (with_reducible refine LeO.ite ?_ ?_)
   | (with_reducible refine LeO.bind ?_ (fun _ => ?_))
   | exact ih0 _ _ _
   | exact ih1 _ _ _ _
   | exact LeO.none _
   | refine LeO.ite ?_ ?_
   | refine LeO.bind ?_ (fun _ => ?_)
set_option maxHeartbeats 8000000 in
set_option maxRecDepth 100000 in
theorem skiarealaw53_small.calls (k : Nat) (A0_0 : Option Addr) (c0_0 : Nat) (l0_0 : List (S63)) (A0_1 : Option Addr) (c0_1 : Nat) (l0_1 : List (S56)) (r : Bool) (w : World) (hr0_0 : Kd.C k63 w A0_0 l0_0.length l0_0) (hc0_0 : l0_0.length ≤ c0_0) (hr0_1 : Kd.C k56 w A0_1 l0_1.length l0_1) (hc0_1 : l0_1.length ≤ c0_1) (h : skiarealaw53_small.f k l0_0 l0_1 = some r) :
  Calls Try.prog 35 #[.agg #[.slice A0_0 l0_0.length c0_0, .slice A0_1 l0_1.length c0_1]] w fun e w' => e = .returned (.bool r) ∧ Below w.heap.size w w' := by
 have hu48 := Try.underlying48
 have HR0_0 := Aside0.mk hr0_0
 have HC0_0 := Aside0.mk hc0_0
 clear hr0_0 hc0_0
 have HR0_1 := Aside0.mk hr0_1
 have HC0_1 := Aside0.mk hc0_1
 clear hr0_1 hc0_1
 have HB := Aside0.mk (Below.refl w.heap.size w)
 have H : (skiarealaw53_small.l0 k 0 l0_0 l0_1) = some r := h
 clear h
 have H' := Aside0.mk H
 clear H
 go_enter Try.func35, Try.ntmps35
 go_wp2_with (first | ((with_reducible refine gate_dst (N := 1) rfl ?_); (try (refine gate_guard (by rfl) ?_; dsimp only)); refine box_event ?hg (N := 1) ?hd (cs := #[.slice A0_0 l0_0.length c0_0, .slice A0_1 l0_1.length c0_1]) (t := 48) ?hr ?_; (case hd => rfl); (case hg => rfl); (case hr => first | (go_simp; done) | (go_simp; rfl)); intro gb524 hg w2 hbox hb; have n0_ := Aside0.mk (below_step bel_ hb); have n1_ := Aside0.mk (hbox); have n2_ := Aside0.mk ((by rw [hg]; exact (below_size bel_) : w.heap.size ≤ gb524)); have n3_ := Aside0.mk ((by rw [hg]; exact (below_size bel_) : w.heap.size ≤ gb524)); clear HB; have HB := n0_; have BK524 := n1_; have GW524 := n2_; have GE524 := n3_; clear n0_ n1_ n2_ n3_; clear hb hbox hg))
 go_loopg [3] k (fun kq v3 w' => ∃ (x3_1 : Int), v3 = .int .i64 x3_1 ∧ Aside0 (skiarealaw53_small.l0 kq x3_1 l0_0 l0_1 = some r) ∧ Aside0 (kq ≤ k) ∧ Aside0 (w'.heap[gb524]? = some (.cells #[(.slice A0_0 l0_0.length c0_0), (.slice A0_1 l0_1.length c0_1)] 48 (0, 0))) ∧ Aside0 (Below w.heap.size w w'))
 case atStart => exact ⟨(0), (by first | rfl | (simp; done) | (simp [*]; done)), H', ⟨Nat.le_refl _⟩, ⟨by exact BK524.out⟩, ⟨by repeat (first | (with_reducible first | exact HB.out | apply below_alloc | apply pw_below_drewN | apply below_drew1 | refine below_set ?_ GE524.out) | exact HB.out)⟩⟩
 case round =>
  clear H'
  try clear p2
  obtain ⟨x3_1, rfl, HA, HK1, BK524, HB⟩ := hrel
  cases gk with
  | zero => exact absurd HA.out (by simp [skiarealaw53_small.l0])
  | succ k1 =>
   have H := HA.out
   clear HA
   simp only [skiarealaw53_small.l0] at H
   have HC3 := Aside0.mk H
   clear H
   go_upto_region 2 with (fail)
   go_cut [12] (fun v12 wc => ∃ (kq : Nat) (x12_2 : Bool), v12 = .bool x12_2 ∧ Aside0 (skiarealaw53_small.j1 kq x3_1 x12_2 l0_0 l0_1 = some r) ∧ Aside0 (kq ≤ k1) ∧ Aside0 (wc.heap[gb524]? = some (.cells #[(.slice A0_0 l0_0.length c0_0), (.slice A0_1 l0_1.length c0_1)] 48 (0, 0))) ∧ Aside0 (Below w.heap.size w wc))
   case first =>
    have H := HC3.out
    clear HC3
    by_cases c4 : x3_1 < (l0_0.length : Int)
    ·rw [if_pos c4] at H
     have c4b0 : decide (x3_1 < (l0_0.length : Int)) = true := decide_eq_true c4
     clear c4
     (first | rw [c4b0] | (simp only [i64_w, i32_w]; rw [c4b0]) | skip)
     have H' := Aside0.mk H
     clear H
     have hcz5_0 : wr.cell? ⟨gb524, 0, none⟩ = some (.slice A0_0 l0_0.length c0_0) := (blk_cell BK524.out 0).trans rfl
     have hcz5_1 : wr.cell? ⟨gb524, 1, none⟩ = some (.slice A0_1 l0_1.length c0_1) := (blk_cell BK524.out 1).trans rfl
     have hfz5_0 := blk_frozen BK524.out 0
     have hfz5_1 := blk_frozen BK524.out 1
     go_wp2
     go_meet
     case rel => exact ⟨_, (decide (x3_1 < 71)), (by first | rfl | (simp; done) | (simp [*]; done)), H', ⟨by have := HK1.out; first | omega | exact Nat.le_refl _⟩, ⟨by exact BK524.out⟩, ⟨by repeat (first | (with_reducible first | exact HB.out | apply below_alloc | apply pw_below_drewN | apply below_drew1 | refine below_set ?_ GE524.out) | exact HB.out)⟩⟩
    ·rw [if_neg c4] at H
     have c4b0 : decide (x3_1 < (l0_0.length : Int)) = false := decide_eq_false c4
     clear c4
     (first | rw [c4b0] | (simp only [i64_w, i32_w]; rw [c4b0]) | skip)
     have H' := Aside0.mk H
     clear H
     have hcz6_0 : wr.cell? ⟨gb524, 0, none⟩ = some (.slice A0_0 l0_0.length c0_0) := (blk_cell BK524.out 0).trans rfl
     have hcz6_1 : wr.cell? ⟨gb524, 1, none⟩ = some (.slice A0_1 l0_1.length c0_1) := (blk_cell BK524.out 1).trans rfl
     have hfz6_0 := blk_frozen BK524.out 0
     have hfz6_1 := blk_frozen BK524.out 1
     go_wp2
     go_meet
     case rel => exact ⟨_, (false), (by first | rfl | (simp; done) | (simp [*]; done)), H', ⟨by have := HK1.out; first | omega | exact Nat.le_refl _⟩, ⟨by exact BK524.out⟩, ⟨by repeat (first | (with_reducible first | exact HB.out | apply below_alloc | apply pw_below_drewN | apply below_drew1 | refine below_set ?_ GE524.out) | exact HB.out)⟩⟩
   case rest =>
    clear HC3
    try clear p2
    try clear c3
    try clear c4
    try clear c4b0
    try clear hcz5_0
    try clear hcz5_1
    try clear hcz6_0
    try clear hcz6_1
    try clear hfz5_0
    try clear hfz5_1
    try clear hfz6_0
    try clear hfz6_1
    try clear p2
    obtain ⟨kq, x12_2, rfl, HA, HJ2, BK524, HB⟩ := hcut
    cases kq with
    | zero => exact absurd HA.out (by simp [skiarealaw53_small.j1])
    | succ kj2 =>
     have H := HA.out
     clear HA
     simp only [skiarealaw53_small.j1] at H
     by_cases c7 : x12_2 = true
     ·subst c7
      have H1 : (if 0 ≤ x3_1 then (if x3_1 < (l0_0.length : Int) then (if (((rd_T63 l0_0 x3_1).f1.f0).length : Int) > 70 then (some false) else (if (((rd_T63 l0_0 x3_1).f1.f2).length : Int) > 210 then (some false) else (skiarealaw53_small.l0 kj2 (wrap64 (x3_1 + 1)) l0_0 l0_1))) else (none)) else (none)) = some r := by rw [if_pos rfl] at H; exact H
      clear H
      have H := H1
      clear H1
      by_cases c8 : 0 ≤ x3_1
      ·rw [if_pos c8] at H
       have c8b0 : decide (0 ≤ x3_1) = true := decide_eq_true c8
       clear c8
       by_cases c9 : x3_1 < (l0_0.length : Int)
       ·rw [if_pos c9] at H
        have c9b0 : decide (x3_1 < (l0_0.length : Int)) = true := decide_eq_true c9
        clear c9
        by_cases c10 : (((rd_T63 l0_0 x3_1).f1.f0).length : Int) > 70
        ·rw [if_pos c10] at H
         have c10b0 : decide (70 < (((rd_T63 l0_0 x3_1).f1.f0).length : Int)) = true := decide_eq_true c10
         have c10b1 : decide (70 < ((rd_T63 l0_0 x3_1).f1.f0).length) = true := decide_eq_true (by omega)
         clear c10
         obtain rfl := Option.some.inj H
         have hcz11_0 : wc.cell? ⟨gb524, 0, none⟩ = some (.slice A0_0 l0_0.length c0_0) := (blk_cell BK524.out 0).trans rfl
         have hcz11_1 : wc.cell? ⟨gb524, 1, none⟩ = some (.slice A0_1 l0_1.length c0_1) := (blk_cell BK524.out 1).trans rfl
         have hfz11_0 := blk_frozen BK524.out 0
         have hfz11_1 := blk_frozen BK524.out 1
         have p525 : 0 ≤ (x3_1 : Int) := of_decide_eq_true (by first | (with_reducible assumption) | assumption)
         have q525 : x3_1 < (l0_0.length : Int) := of_decide_eq_true (by first | (with_reducible assumption) | assumption)
         obtain ⟨ad525, A525_1, c525_1, A525_3, c525_3, e525, hx525_0, hx525_1, hx525_2, hx525_3, hl525_1, hi525_1, hl525_3, hi525_3⟩ := at_T63 HR0_0.out x3_1 p525 q525
         cases e525
         replace hx525_0 := (HB.out.cell (World.block_lt_of_cell? w _ hx525_0)).trans hx525_0
         replace hx525_1 := (HB.out.cell (World.block_lt_of_cell? w _ hx525_1)).trans hx525_1
         replace hx525_2 := (HB.out.cell (World.block_lt_of_cell? w _ hx525_2)).trans hx525_2
         replace hx525_3 := (HB.out.cell (World.block_lt_of_cell? w _ hx525_3)).trans hx525_3
         have HR525_1 := Aside0.mk hi525_1
         have HC525_1 := Aside0.mk hl525_1
         clear hi525_1 hl525_1
         have HR525_3 := Aside0.mk hi525_3
         have HC525_3 := Aside0.mk hl525_3
         clear hi525_3 hl525_3
         replace p525 := eq_true p525
         replace q525 := eq_true q525
         go_wp2
         go_ret
         exact ⟨by first | rfl | (simp [errW_none, errW_some] <;> rfl) | (simp [*, errW_none, errW_some] <;> rfl), by repeat (first | (with_reducible first | exact HB.out | apply below_alloc | apply pw_below_drewN | apply below_drew1 | refine below_set ?_ GE524.out) | exact HB.out)⟩
        ·rw [if_neg c10] at H
         have c10b0 : decide (70 < (((rd_T63 l0_0 x3_1).f1.f0).length : Int)) = false := decide_eq_false c10
         have c10b1 : decide (70 < ((rd_T63 l0_0 x3_1).f1.f0).length) = false := decide_eq_false (by omega)
         clear c10
         by_cases c12 : (((rd_T63 l0_0 x3_1).f1.f2).length : Int) > 210
         ·rw [if_pos c12] at H
          have c12b0 : decide (210 < (((rd_T63 l0_0 x3_1).f1.f2).length : Int)) = true := decide_eq_true c12
          have c12b1 : decide (210 < ((rd_T63 l0_0 x3_1).f1.f2).length) = true := decide_eq_true (by omega)
          clear c12
          obtain rfl := Option.some.inj H
          have hcz13_0 : wc.cell? ⟨gb524, 0, none⟩ = some (.slice A0_0 l0_0.length c0_0) := (blk_cell BK524.out 0).trans rfl
          have hcz13_1 : wc.cell? ⟨gb524, 1, none⟩ = some (.slice A0_1 l0_1.length c0_1) := (blk_cell BK524.out 1).trans rfl
          have hfz13_0 := blk_frozen BK524.out 0
          have hfz13_1 := blk_frozen BK524.out 1
          have p525 : 0 ≤ (x3_1 : Int) := of_decide_eq_true (by first | (with_reducible assumption) | assumption)
          have q525 : x3_1 < (l0_0.length : Int) := of_decide_eq_true (by first | (with_reducible assumption) | assumption)
          obtain ⟨ad525, A525_1, c525_1, A525_3, c525_3, e525, hx525_0, hx525_1, hx525_2, hx525_3, hl525_1, hi525_1, hl525_3, hi525_3⟩ := at_T63 HR0_0.out x3_1 p525 q525
          cases e525
          replace hx525_0 := (HB.out.cell (World.block_lt_of_cell? w _ hx525_0)).trans hx525_0
          replace hx525_1 := (HB.out.cell (World.block_lt_of_cell? w _ hx525_1)).trans hx525_1
          replace hx525_2 := (HB.out.cell (World.block_lt_of_cell? w _ hx525_2)).trans hx525_2
          replace hx525_3 := (HB.out.cell (World.block_lt_of_cell? w _ hx525_3)).trans hx525_3
          have HR525_1 := Aside0.mk hi525_1
          have HC525_1 := Aside0.mk hl525_1
          clear hi525_1 hl525_1
          have HR525_3 := Aside0.mk hi525_3
          have HC525_3 := Aside0.mk hl525_3
          clear hi525_3 hl525_3
          replace p525 := eq_true p525
          replace q525 := eq_true q525
          have p526 : 0 ≤ (x3_1 : Int) := of_decide_eq_true (by first | (with_reducible assumption) | assumption)
          have q526 : x3_1 < (l0_0.length : Int) := of_decide_eq_true (by first | (with_reducible assumption) | assumption)
          obtain ⟨ad526, A526_1, c526_1, A526_3, c526_3, e526, hx526_0, hx526_1, hx526_2, hx526_3, hl526_1, hi526_1, hl526_3, hi526_3⟩ := at_T63 HR0_0.out x3_1 p526 q526
          obtain rfl : ad525 = ad526 := (by injection e526)
          replace hx526_0 := (HB.out.cell (World.block_lt_of_cell? w _ hx526_0)).trans hx526_0
          replace hx526_1 := (HB.out.cell (World.block_lt_of_cell? w _ hx526_1)).trans hx526_1
          replace hx526_2 := (HB.out.cell (World.block_lt_of_cell? w _ hx526_2)).trans hx526_2
          replace hx526_3 := (HB.out.cell (World.block_lt_of_cell? w _ hx526_3)).trans hx526_3
          have HR526_1 := Aside0.mk hi526_1
          have HC526_1 := Aside0.mk hl526_1
          clear hi526_1 hl526_1
          have HR526_3 := Aside0.mk hi526_3
          have HC526_3 := Aside0.mk hl526_3
          clear hi526_3 hl526_3
          replace p526 := eq_true p526
          replace q526 := eq_true q526
          have ea_ := Option.some.inj (hx525_1.symm.trans hx526_1)
          injection ea_ with ea_ en_ ec_
          subst ea_
          subst ec_
          clear en_
          have ea_ := Option.some.inj (hx525_3.symm.trans hx526_3)
          injection ea_ with ea_ en_ ec_
          subst ea_
          subst ec_
          clear en_
          go_wp2
          go_ret
          exact ⟨by first | rfl | (simp [errW_none, errW_some] <;> rfl) | (simp [*, errW_none, errW_some] <;> rfl), by repeat (first | (with_reducible first | exact HB.out | apply below_alloc | apply pw_below_drewN | apply below_drew1 | refine below_set ?_ GE524.out) | exact HB.out)⟩
         ·rw [if_neg c12] at H
          have c12b0 : decide (210 < (((rd_T63 l0_0 x3_1).f1.f2).length : Int)) = false := decide_eq_false c12
          have c12b1 : decide (210 < ((rd_T63 l0_0 x3_1).f1.f2).length) = false := decide_eq_false (by omega)
          clear c12
          have H' := Aside0.mk H
          clear H
          have hcz14_0 : wc.cell? ⟨gb524, 0, none⟩ = some (.slice A0_0 l0_0.length c0_0) := (blk_cell BK524.out 0).trans rfl
          have hcz14_1 : wc.cell? ⟨gb524, 1, none⟩ = some (.slice A0_1 l0_1.length c0_1) := (blk_cell BK524.out 1).trans rfl
          have hfz14_0 := blk_frozen BK524.out 0
          have hfz14_1 := blk_frozen BK524.out 1
          have p525 : 0 ≤ (x3_1 : Int) := of_decide_eq_true (by first | (with_reducible assumption) | assumption)
          have q525 : x3_1 < (l0_0.length : Int) := of_decide_eq_true (by first | (with_reducible assumption) | assumption)
          obtain ⟨ad525, A525_1, c525_1, A525_3, c525_3, e525, hx525_0, hx525_1, hx525_2, hx525_3, hl525_1, hi525_1, hl525_3, hi525_3⟩ := at_T63 HR0_0.out x3_1 p525 q525
          cases e525
          replace hx525_0 := (HB.out.cell (World.block_lt_of_cell? w _ hx525_0)).trans hx525_0
          replace hx525_1 := (HB.out.cell (World.block_lt_of_cell? w _ hx525_1)).trans hx525_1
          replace hx525_2 := (HB.out.cell (World.block_lt_of_cell? w _ hx525_2)).trans hx525_2
          replace hx525_3 := (HB.out.cell (World.block_lt_of_cell? w _ hx525_3)).trans hx525_3
          have HR525_1 := Aside0.mk hi525_1
          have HC525_1 := Aside0.mk hl525_1
          clear hi525_1 hl525_1
          have HR525_3 := Aside0.mk hi525_3
          have HC525_3 := Aside0.mk hl525_3
          clear hi525_3 hl525_3
          replace p525 := eq_true p525
          replace q525 := eq_true q525
          have p526 : 0 ≤ (x3_1 : Int) := of_decide_eq_true (by first | (with_reducible assumption) | assumption)
          have q526 : x3_1 < (l0_0.length : Int) := of_decide_eq_true (by first | (with_reducible assumption) | assumption)
          obtain ⟨ad526, A526_1, c526_1, A526_3, c526_3, e526, hx526_0, hx526_1, hx526_2, hx526_3, hl526_1, hi526_1, hl526_3, hi526_3⟩ := at_T63 HR0_0.out x3_1 p526 q526
          obtain rfl : ad525 = ad526 := (by injection e526)
          replace hx526_0 := (HB.out.cell (World.block_lt_of_cell? w _ hx526_0)).trans hx526_0
          replace hx526_1 := (HB.out.cell (World.block_lt_of_cell? w _ hx526_1)).trans hx526_1
          replace hx526_2 := (HB.out.cell (World.block_lt_of_cell? w _ hx526_2)).trans hx526_2
          replace hx526_3 := (HB.out.cell (World.block_lt_of_cell? w _ hx526_3)).trans hx526_3
          have HR526_1 := Aside0.mk hi526_1
          have HC526_1 := Aside0.mk hl526_1
          clear hi526_1 hl526_1
          have HR526_3 := Aside0.mk hi526_3
          have HC526_3 := Aside0.mk hl526_3
          clear hi526_3 hl526_3
          replace p526 := eq_true p526
          replace q526 := eq_true q526
          have ea_ := Option.some.inj (hx525_1.symm.trans hx526_1)
          injection ea_ with ea_ en_ ec_
          subst ea_
          subst ec_
          clear en_
          have ea_ := Option.some.inj (hx525_3.symm.trans hx526_3)
          injection ea_ with ea_ en_ ec_
          subst ea_
          subst ec_
          clear en_
          go_wp2
          go_roundg kj2
          case measure => have := HK1.out; have := HJ2.out; omega
          case rel => exact ⟨(wrap64 (x3_1 + 1)), (by first | rfl | (simp; done) | (simp [*]; done)), H', ⟨by have := HK1.out; have := HJ2.out; omega⟩, ⟨by exact BK524.out⟩, ⟨by repeat (first | (with_reducible first | exact HB.out | apply below_alloc | apply pw_below_drewN | apply below_drew1 | refine below_set ?_ GE524.out) | exact HB.out)⟩⟩
       ·rw [if_neg c9] at H
        exact absurd H (by simp)
      ·rw [if_neg c8] at H
       exact absurd H (by simp)
     ·replace c7 := Bool.eq_false_iff.mpr c7
      subst c7
      have H1 : (if (l0_0.length : Int) ≤ 70 then (some (decide ((l0_1.length : Int) ≤ 210))) else (some false)) = some r := by rw [if_neg (show ¬ (false = true) by decide)] at H; exact H
      clear H
      have H := H1
      clear H1
      by_cases c15 : (l0_0.length : Int) ≤ 70
      ·rw [if_pos c15] at H
       have c15b0 : decide ((l0_0.length : Int) ≤ 70) = true := decide_eq_true c15
       have c15b1 : decide (l0_0.length ≤ 70) = true := decide_eq_true (by omega)
       clear c15
       obtain rfl := Option.some.inj H
       have hcz16_0 : wc.cell? ⟨gb524, 0, none⟩ = some (.slice A0_0 l0_0.length c0_0) := (blk_cell BK524.out 0).trans rfl
       have hcz16_1 : wc.cell? ⟨gb524, 1, none⟩ = some (.slice A0_1 l0_1.length c0_1) := (blk_cell BK524.out 1).trans rfl
       have hfz16_0 := blk_frozen BK524.out 0
       have hfz16_1 := blk_frozen BK524.out 1
       go_wp2
       go_ret
       exact ⟨by first | rfl | (simp [errW_none, errW_some] <;> rfl) | (simp [*, errW_none, errW_some] <;> rfl), by repeat (first | (with_reducible first | exact HB.out | apply below_alloc | apply pw_below_drewN | apply below_drew1 | refine below_set ?_ GE524.out) | exact HB.out)⟩
      ·rw [if_neg c15] at H
       have c15b0 : decide ((l0_0.length : Int) ≤ 70) = false := decide_eq_false c15
       have c15b1 : decide (l0_0.length ≤ 70) = false := decide_eq_false (by omega)
       clear c15
       obtain rfl := Option.some.inj H
       have hcz17_0 : wc.cell? ⟨gb524, 0, none⟩ = some (.slice A0_0 l0_0.length c0_0) := (blk_cell BK524.out 0).trans rfl
       have hcz17_1 : wc.cell? ⟨gb524, 1, none⟩ = some (.slice A0_1 l0_1.length c0_1) := (blk_cell BK524.out 1).trans rfl
       have hfz17_0 := blk_frozen BK524.out 0
       have hfz17_1 := blk_frozen BK524.out 1
       go_wp2
       go_ret
       exact ⟨by first | rfl | (simp [errW_none, errW_some] <;> rfl) | (simp [*, errW_none, errW_some] <;> rfl), by repeat (first | (with_reducible first | exact HB.out | apply below_alloc | apply pw_below_drewN | apply below_drew1 | refine below_set ?_ GE524.out) | exact HB.out)⟩

end Go.Proofs.Ytmhggplhfcmgkaa.Q
