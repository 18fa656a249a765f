-- written by wip/drive.py (this session's program) over the kit's print words
import Derived.Test.YtmhggplhfcmgkaaQ0
namespace Go.Proofs.Ytmhggplhfcmgkaa.Q
open Go.RowKit Go.Proofs.YtmhggplhfcmgkaaW.PrintWords Go.Proofs.YtmhggplhfcmgkaaW.PrintLast Go.Proofs.YtmhggplhfcmgkaaW.PrintMore
attribute [local go_sem] max2_int min2_int max_two min_two max_three min_three max_four min_four   -- for this text's walks alone
set_option linter.unusedVariables false
set_option linter.unusedSimpArgs false

/-! ### skiarealaw53_latest: function 52 -/
mutual
def skiarealaw53_latest.l0 : Nat → Int → Int → Int → List (S63) → List (S56) → Option (Bool)
 | 0, _, _, _, _, _ => none
 | k + 1, x1, x2, x7, x732000, x732001 => if x7 < (x732000.length : Int) then (skiarealaw53_latest.l1 k x1 x2 x7 0 x732000 x732001) else (some true)
def skiarealaw53_latest.l1 : Nat → Int → Int → Int → Int → List (S63) → List (S56) → Option (Bool)
 | 0, _, _, _, _, _, _ => none
 | k + 1, x1, x2, x7, x8, x732000, x732001 => if 0 ≤ x7 then (if x7 < (x732000.length : Int) then (if x8 < (((rd_T63 x732000 x7).f1.f2).length : Int) then (skiarealaw53_latest.j2 k x1 x2 x7 x8 (((rd_T63 x732000 x7).f0) == x1) x732000 x732001) else (skiarealaw53_latest.j2 k x1 x2 x7 x8 false x732000 x732001)) else (none)) else (none)
def skiarealaw53_latest.j2 : Nat → Int → Int → Int → Int → Bool → List (S63) → List (S56) → Option (Bool)
 | 0, _, _, _, _, _, _, _ => none
 | k + 1, x1, x2, x7, x8, x35, x732000, x732001 => if x35 = true then (if 0 ≤ x7 then (if x7 < (x732000.length : Int) then (if 0 ≤ x8 then (if x8 < (((rd_T63 x732000 x7).f1.f2).length : Int) then (if ((rd_T35 ((rd_T63 x732000 x7).f1.f2) x8).f2) > x2 then (some false) else (skiarealaw53_latest.l1 k x1 x2 x7 (wrap64 (x8 + 1)) x732000 x732001)) else (none)) else (none)) else (none)) else (none)) else (skiarealaw53_latest.l0 k x1 x2 (wrap64 (x7 + 1)) x732000 x732001)
end
def skiarealaw53_latest.f (k : Nat) (l0_0 : List (S63)) (l0_1 : List (S56)) (a1 : Int) (a2 : Int) : Option (Bool) := skiarealaw53_latest.l0 k a1 a2 0 l0_0 l0_1
theorem skiarealaw53_latest.mono_l : ∀ k, (∀ y0 y1 y2 y3 y4, LeO (skiarealaw53_latest.l0 k y0 y1 y2 y3 y4) (skiarealaw53_latest.l0 (k + 1) y0 y1 y2 y3 y4)) ∧ (∀ y0 y1 y2 y3 y4 y5, LeO (skiarealaw53_latest.l1 k y0 y1 y2 y3 y4 y5) (skiarealaw53_latest.l1 (k + 1) y0 y1 y2 y3 y4 y5)) ∧ (∀ y0 y1 y2 y3 y4 y5 y6, LeO (skiarealaw53_latest.j2 k y0 y1 y2 y3 y4 y5 y6) (skiarealaw53_latest.j2 (k + 1) y0 y1 y2 y3 y4 y5 y6))
 | 0 => ⟨fun _ _ _ _ _ r h => by simp [skiarealaw53_latest.l0] at h, fun _ _ _ _ _ _ r h => by simp [skiarealaw53_latest.l1] at h, fun _ _ _ _ _ _ _ r h => by simp [skiarealaw53_latest.j2] at h⟩
 | k + 1 => by
  obtain ⟨ih0, ih1, ih2⟩ := skiarealaw53_latest.mono_l k
  refine ⟨?_, ?_, ?_⟩
  ·intro y0 y1 y2 y3 y4
   unfold skiarealaw53_latest.l0
   repeat' first
   | (with_reducible exact ih0 _ _ _ _ _)
   | (with_reducible exact ih1 _ _ _ _ _ _)
   | (with_reducible exact ih2 _ _ _ _ _ _ _)
   | (with_reducible exact LeO.refl _)
   | (with_reducible exact LeO.none _)
   | (with_reducible refine LeO.ite ?_ ?_)
   | (with_reducible refine LeO.bind ?_ (fun _ => ?_))
   | exact ih0 _ _ _ _ _
   | exact ih1 _ _ _ _ _ _
   | exact ih2 _ _ _ _ _ _ _
   | exact LeO.none _
   | refine LeO.ite ?_ ?_
   | refine LeO.bind ?_ (fun _ => ?_)
  ·intro y0 y1 y2 y3 y4 y5
   unfold skiarealaw53_latest.l1
   repeat' first
   | (with_reducible exact ih0 _ _ _ _ _)
   | (with_reducible exact ih1 _ _ _ _ _ _)
   | (with_reducible exact ih2 _ _ _ _ _ _ _)
   | (with_reducible exact LeO.refl _)
   | (with_reducible exact LeO.none _)
   | (with_reducible refine LeO.ite ?_ ?_)
   | (with_reducible refine LeO.bind ?_ (fun _ => ?_))
   | exact ih0 _ _ _ _ _
   | exact ih1 _ _ _ _ _ _
   | exact ih2 _ _ _ _ _ _ _
   | exact LeO.none _
   | refine LeO.ite ?_ ?_
   | refine LeO.bind ?_ (fun _ => ?_)
  ·intro y0 y1 y2 y3 y4 y5 y6
   unfold skiarealaw53_latest.j2
   repeat' first
   | (with_reducible exact ih0 _ _ _ _ _)
   | (with_reducible exact ih1 _ _ _ _ _ _)
   | (with_reducible exact ih2 _ _ _ _ _ _ _)
   | (with_reducible exact LeO.refl _)
   | (with_reducible exact LeO.none _)
   | (with_reducible refine LeO.ite ?_ ?_)
   | (with_reducible refine LeO.bind ?_ (fun _ => ?_))
   | exact ih0 _ _ _ _ _
   | exact ih1 _ _ _ _ _ _
   | exact ih2 _ _ _ _ _ _ _
   | exact LeO.none _
   | refine LeO.ite ?_ ?_
   | refine LeO.bind ?_ (fun _ => ?_)
theorem skiarealaw53_latest.mono : ∀ a0 a1 a2 a3 k, LeO (skiarealaw53_latest.f k a0 a1 a2 a3) (skiarealaw53_latest.f (k + 1) a0 a1 a2 a3) := by
 intro a0 a1 a2 a3 k
 obtain ⟨ih0, ih1, ih2⟩ := skiarealaw53_latest.mono_l k
 unfold skiarealaw53_latest.f
 repeat' first
   | (with_reducible exact ih0 _ _ _ _ _)
   | (with_reducible exact ih1 _ _ _ _ _ _)
   | (with_reducible exact ih2 _ _ _ _ _ _ _)
   | (with_reducible exact LeO.refl _)
   | (with_reducible exact LeO.none _)
   | (with_reducible refine LeO.ite ?_ ?_)
   | (with_reducible refine LeO.bind ?_ (fun _ => ?_))
   | exact ih0 _ _ _ _ _
   | exact ih1 _ _ _ _ _ _
   | exact ih2 _ _ _ _ _ _ _
   | exact LeO.none _
   | refine LeO.ite ?_ ?_
   | refine LeO.bind ?_ (fun _ => ?_)
set_option maxHeartbeats 8000000 in
set_option maxRecDepth 100000 in
theorem skiarealaw53_latest.calls (k : Nat) (A0_0 : Option Addr) (c0_0 : Nat) (l0_0 : List (S63)) (A0_1 : Option Addr) (c0_1 : Nat) (l0_1 : List (S56)) (a1 : Int) (a2 : Int) (r : Bool) (w : World) (hr0_0 : Kd.C k63 w A0_0 l0_0.length l0_0) (hc0_0 : l0_0.length ≤ c0_0) (hr0_1 : Kd.C k56 w A0_1 l0_1.length l0_1) (hc0_1 : l0_1.length ≤ c0_1) (h : skiarealaw53_latest.f k l0_0 l0_1 a1 a2 = some r) :
  Calls Try.prog 52 #[.agg #[.slice A0_0 l0_0.length c0_0, .slice A0_1 l0_1.length c0_1], .int .i64 a1, .int .i64 a2] w fun e w' => e = .returned (.bool r) ∧ Below w.heap.size w w' := by
 have hu48 := Try.underlying48
 have HR0_0 := Aside0.mk hr0_0
 have HC0_0 := Aside0.mk hc0_0
 clear hr0_0 hc0_0
 have HR0_1 := Aside0.mk hr0_1
 have HC0_1 := Aside0.mk hc0_1
 clear hr0_1 hc0_1
 have HB := Aside0.mk (Below.refl w.heap.size w)
 have H : (skiarealaw53_latest.l0 k a1 a2 0 l0_0 l0_1) = some r := h
 clear h
 have H' := Aside0.mk H
 clear H
 go_enter Try.func52, Try.ntmps52
 go_wp2_with (first | ((with_reducible refine gate_dst (N := 3) rfl ?_); refine box_event ?hg (N := 3) ?hd (cs := #[.slice A0_0 l0_0.length c0_0, .slice A0_1 l0_1.length c0_1]) (t := 48) ?hr ?_; (case hd => rfl); (case hg => rfl); (case hr => first | (go_simp; done) | (go_simp; rfl)); intro gb731 hg w4 hbox hb; have n0_ := Aside0.mk (below_step bel_ hb); have n1_ := Aside0.mk (hbox); have n2_ := Aside0.mk ((by rw [hg]; exact (below_size bel_) : w.heap.size ≤ gb731)); have n3_ := Aside0.mk ((by rw [hg]; exact (below_size bel_) : w.heap.size ≤ gb731)); clear HB; have HB := n0_; have BK731 := n1_; have GW731 := n2_; have GE731 := n3_; clear n0_ n1_ n2_ n3_; clear hb hbox hg))
 go_loopg [7] k (fun kq v7 w' => ∃ (x7_1 : Int), v7 = .int .i64 x7_1 ∧ Aside0 (skiarealaw53_latest.l0 kq a1 a2 x7_1 l0_0 l0_1 = some r) ∧ Aside0 (kq ≤ k) ∧ Aside0 (w'.heap[gb731]? = some (.cells #[(.slice A0_0 l0_0.length c0_0), (.slice A0_1 l0_1.length c0_1)] 48 (0, 0))) ∧ Aside0 (Below w.heap.size w w'))
 case atStart => exact ⟨(0), (by first | rfl | (simp; done) | (simp [*]; done)), H', ⟨Nat.le_refl _⟩, ⟨by exact BK731.out⟩, ⟨by repeat (first | (with_reducible first | exact HB.out | apply below_alloc | apply pw_below_drewN | apply below_drew1 | refine below_set ?_ GE731.out) | exact HB.out)⟩⟩
 case round =>
  clear H'
  try clear p2
  obtain ⟨x7_1, rfl, HA, HK1, BK731, HB⟩ := hrel
  cases gk with
  | zero => exact absurd HA.out (by simp [skiarealaw53_latest.l0])
  | succ k1 =>
   have H := HA.out
   clear HA
   simp only [skiarealaw53_latest.l0] at H
   by_cases c5 : x7_1 < (l0_0.length : Int)
   ·rw [if_pos c5] at H
    have c5b0 : decide (x7_1 < (l0_0.length : Int)) = true := decide_eq_true c5
    clear c5
    have H' := Aside0.mk H
    clear H
    have hcz6_0 : wr.cell? ⟨gb731, 0, none⟩ = some (.slice A0_0 l0_0.length c0_0) := (blk_cell BK731.out 0).trans rfl
    have hcz6_1 : wr.cell? ⟨gb731, 1, none⟩ = some (.slice A0_1 l0_1.length c0_1) := (blk_cell BK731.out 1).trans rfl
    have hfz6_0 := blk_frozen BK731.out 0
    have hfz6_1 := blk_frozen BK731.out 1
    go_wp2
    go_loopg [8] k1 (fun kq v8 w' => ∃ (x8_2 : Int), v8 = .int .i64 x8_2 ∧ Aside0 (skiarealaw53_latest.l1 kq a1 a2 x7_1 x8_2 l0_0 l0_1 = some r) ∧ Aside0 (kq ≤ k1) ∧ Aside0 (w'.heap[gb731]? = some (.cells #[(.slice A0_0 l0_0.length c0_0), (.slice A0_1 l0_1.length c0_1)] 48 (0, 0))) ∧ Aside0 (Below w.heap.size w w'))
    case atStart => exact ⟨(0), (by first | rfl | (simp; done) | (simp [*]; done)), H', ⟨Nat.le_refl _⟩, ⟨by exact BK731.out⟩, ⟨by repeat (first | (with_reducible first | exact HB.out | apply below_alloc | apply pw_below_drewN | apply below_drew1 | refine below_set ?_ GE731.out) | exact HB.out)⟩⟩
    case round =>
     clear H'
     try clear p2
     try clear c5
     try clear c5b0
     try clear hcz6_0
     try clear hcz6_1
     try clear hfz6_0
     try clear hfz6_1
     try clear p2
     obtain ⟨x8_2, rfl, HA, HK2, BK731, HB⟩ := hrel
     cases gk with
     | zero => exact absurd HA.out (by simp [skiarealaw53_latest.l1])
     | succ k2 =>
      have H := HA.out
      clear HA
      simp only [skiarealaw53_latest.l1] at H
      have HC7 := Aside0.mk H
      clear H
      go_upto_region 5 with (fail)
      go_cut [35] (fun v35 wc => ∃ (kq : Nat) (x35_6 : Bool), v35 = .bool x35_6 ∧ Aside0 (skiarealaw53_latest.j2 kq a1 a2 x7_1 x8_2 x35_6 l0_0 l0_1 = some r) ∧ Aside0 (kq ≤ k2) ∧ Aside0 (wc.heap[gb731]? = some (.cells #[(.slice A0_0 l0_0.length c0_0), (.slice A0_1 l0_1.length c0_1)] 48 (0, 0))) ∧ Aside0 (Below w.heap.size w wc))
      case first =>
       have H := HC7.out
       clear HC7
       by_cases c8 : 0 ≤ x7_1
       ·rw [if_pos c8] at H
        have c8b0 : decide (0 ≤ x7_1) = true := decide_eq_true c8
        clear c8
        (first | rw [c8b0] | (simp only [i64_w, i32_w]; rw [c8b0]) | skip)
        by_cases c9 : x7_1 < (l0_0.length : Int)
        ·rw [if_pos c9] at H
         have c9b0 : decide (x7_1 < (l0_0.length : Int)) = true := decide_eq_true c9
         clear c9
         by_cases c10 : x8_2 < (((rd_T63 l0_0 x7_1).f1.f2).length : Int)
         ·rw [if_pos c10] at H
          have c10b0 : decide (x8_2 < (((rd_T63 l0_0 x7_1).f1.f2).length : Int)) = true := decide_eq_true c10
          clear c10
          have H' := Aside0.mk H
          clear H
          have hcz11_0 : wr.cell? ⟨gb731, 0, none⟩ = some (.slice A0_0 l0_0.length c0_0) := (blk_cell BK731.out 0).trans rfl
          have hcz11_1 : wr.cell? ⟨gb731, 1, none⟩ = some (.slice A0_1 l0_1.length c0_1) := (blk_cell BK731.out 1).trans rfl
          have hfz11_0 := blk_frozen BK731.out 0
          have hfz11_1 := blk_frozen BK731.out 1
          have p732 : 0 ≤ (x7_1 : Int) := of_decide_eq_true (by first | (with_reducible assumption) | assumption)
          have q732 : x7_1 < (l0_0.length : Int) := of_decide_eq_true (by first | (with_reducible assumption) | assumption)
          obtain ⟨ad732, A732_1, c732_1, A732_3, c732_3, e732, hx732_0, hx732_1, hx732_2, hx732_3, hl732_1, hi732_1, hl732_3, hi732_3⟩ := at_T63 HR0_0.out x7_1 p732 q732
          cases e732
          replace hx732_0 := (HB.out.cell (World.block_lt_of_cell? w _ hx732_0)).trans hx732_0
          replace hx732_1 := (HB.out.cell (World.block_lt_of_cell? w _ hx732_1)).trans hx732_1
          replace hx732_2 := (HB.out.cell (World.block_lt_of_cell? w _ hx732_2)).trans hx732_2
          replace hx732_3 := (HB.out.cell (World.block_lt_of_cell? w _ hx732_3)).trans hx732_3
          have HR732_1 := Aside0.mk hi732_1
          have HC732_1 := Aside0.mk hl732_1
          clear hi732_1 hl732_1
          have HR732_3 := Aside0.mk hi732_3
          have HC732_3 := Aside0.mk hl732_3
          clear hi732_3 hl732_3
          replace p732 := eq_true p732
          replace q732 := eq_true q732
          have p733 : 0 ≤ (x7_1 : Int) := of_decide_eq_true (by first | (with_reducible assumption) | assumption)
          have q733 : x7_1 < (l0_0.length : Int) := of_decide_eq_true (by first | (with_reducible assumption) | assumption)
          obtain ⟨ad733, A733_1, c733_1, A733_3, c733_3, e733, hx733_0, hx733_1, hx733_2, hx733_3, hl733_1, hi733_1, hl733_3, hi733_3⟩ := at_T63 HR0_0.out x7_1 p733 q733
          obtain rfl : ad732 = ad733 := (by injection e733)
          replace hx733_0 := (HB.out.cell (World.block_lt_of_cell? w _ hx733_0)).trans hx733_0
          replace hx733_1 := (HB.out.cell (World.block_lt_of_cell? w _ hx733_1)).trans hx733_1
          replace hx733_2 := (HB.out.cell (World.block_lt_of_cell? w _ hx733_2)).trans hx733_2
          replace hx733_3 := (HB.out.cell (World.block_lt_of_cell? w _ hx733_3)).trans hx733_3
          have HR733_1 := Aside0.mk hi733_1
          have HC733_1 := Aside0.mk hl733_1
          clear hi733_1 hl733_1
          have HR733_3 := Aside0.mk hi733_3
          have HC733_3 := Aside0.mk hl733_3
          clear hi733_3 hl733_3
          replace p733 := eq_true p733
          replace q733 := eq_true q733
          have ea_ := Option.some.inj (hx732_1.symm.trans hx733_1)
          injection ea_ with ea_ en_ ec_
          subst ea_
          subst ec_
          clear en_
          have ea_ := Option.some.inj (hx732_3.symm.trans hx733_3)
          injection ea_ with ea_ en_ ec_
          subst ea_
          subst ec_
          clear en_
          go_wp2
          go_meet
          case rel => exact ⟨_, ((((rd_T63 l0_0 x7_1).f0) == a1)), (by first | rfl | (simp; done) | (simp [*]; done)), H', ⟨by have := HK1.out; have := HK2.out; first | omega | exact Nat.le_refl _⟩, ⟨by exact BK731.out⟩, ⟨by repeat (first | (with_reducible first | exact HB.out | apply below_alloc | apply pw_below_drewN | apply below_drew1 | refine below_set ?_ GE731.out) | exact HB.out)⟩⟩
         ·rw [if_neg c10] at H
          have c10b0 : decide (x8_2 < (((rd_T63 l0_0 x7_1).f1.f2).length : Int)) = false := decide_eq_false c10
          clear c10
          have H' := Aside0.mk H
          clear H
          have hcz12_0 : wr.cell? ⟨gb731, 0, none⟩ = some (.slice A0_0 l0_0.length c0_0) := (blk_cell BK731.out 0).trans rfl
          have hcz12_1 : wr.cell? ⟨gb731, 1, none⟩ = some (.slice A0_1 l0_1.length c0_1) := (blk_cell BK731.out 1).trans rfl
          have hfz12_0 := blk_frozen BK731.out 0
          have hfz12_1 := blk_frozen BK731.out 1
          have p732 : 0 ≤ (x7_1 : Int) := of_decide_eq_true (by first | (with_reducible assumption) | assumption)
          have q732 : x7_1 < (l0_0.length : Int) := of_decide_eq_true (by first | (with_reducible assumption) | assumption)
          obtain ⟨ad732, A732_1, c732_1, A732_3, c732_3, e732, hx732_0, hx732_1, hx732_2, hx732_3, hl732_1, hi732_1, hl732_3, hi732_3⟩ := at_T63 HR0_0.out x7_1 p732 q732
          cases e732
          replace hx732_0 := (HB.out.cell (World.block_lt_of_cell? w _ hx732_0)).trans hx732_0
          replace hx732_1 := (HB.out.cell (World.block_lt_of_cell? w _ hx732_1)).trans hx732_1
          replace hx732_2 := (HB.out.cell (World.block_lt_of_cell? w _ hx732_2)).trans hx732_2
          replace hx732_3 := (HB.out.cell (World.block_lt_of_cell? w _ hx732_3)).trans hx732_3
          have HR732_1 := Aside0.mk hi732_1
          have HC732_1 := Aside0.mk hl732_1
          clear hi732_1 hl732_1
          have HR732_3 := Aside0.mk hi732_3
          have HC732_3 := Aside0.mk hl732_3
          clear hi732_3 hl732_3
          replace p732 := eq_true p732
          replace q732 := eq_true q732
          go_wp2
          go_meet
          case rel => exact ⟨_, (false), (by first | rfl | (simp; done) | (simp [*]; done)), H', ⟨by have := HK1.out; have := HK2.out; first | omega | exact Nat.le_refl _⟩, ⟨by exact BK731.out⟩, ⟨by repeat (first | (with_reducible first | exact HB.out | apply below_alloc | apply pw_below_drewN | apply below_drew1 | refine below_set ?_ GE731.out) | exact HB.out)⟩⟩
        ·rw [if_neg c9] at H
         exact absurd H (by simp)
       ·rw [if_neg c8] at H
        exact absurd H (by simp)
      case rest =>
       clear HC7
       try clear c1
       try clear p2
       try clear c5
       try clear c5b0
       try clear c7
       try clear p7
       try clear q7
       try clear hx7
       try clear c8
       try clear c8b0
       try clear c9
       try clear c9b0
       try clear c10
       try clear c10b0
       try clear hcz11_0
       try clear hcz11_1
       try clear hcz12_0
       try clear hcz12_1
       try clear hcz6_0
       try clear hcz6_1
       try clear hfz11_0
       try clear hfz11_1
       try clear hfz12_0
       try clear hfz12_1
       try clear hfz6_0
       try clear hfz6_1
       try clear hx732_0
       try clear hx732_1
       try clear hx732_2
       try clear hx732_3
       try clear hx733_0
       try clear hx733_1
       try clear hx733_2
       try clear hx733_3
       try clear p2
       try clear p732
       try clear p733
       try clear q732
       try clear q733
       obtain ⟨kq, x35_6, rfl, HA, HJ6, BK731, HB⟩ := hcut
       cases kq with
       | zero => exact absurd HA.out (by simp [skiarealaw53_latest.j2])
       | succ kj6 =>
        have H := HA.out
        clear HA
        simp only [skiarealaw53_latest.j2] at H
        by_cases c13 : x35_6 = true
        ·subst c13
         have H1 : (if 0 ≤ x7_1 then (if x7_1 < (l0_0.length : Int) then (if 0 ≤ x8_2 then (if x8_2 < (((rd_T63 l0_0 x7_1).f1.f2).length : Int) then (if ((rd_T35 ((rd_T63 l0_0 x7_1).f1.f2) x8_2).f2) > a2 then (some false) else (skiarealaw53_latest.l1 kj6 a1 a2 x7_1 (wrap64 (x8_2 + 1)) l0_0 l0_1)) else (none)) else (none)) else (none)) else (none)) = some r := by rw [if_pos rfl] at H; exact H
         clear H
         have H := H1
         clear H1
         by_cases c14 : 0 ≤ x7_1
         ·rw [if_pos c14] at H
          have c14b0 : decide (0 ≤ x7_1) = true := decide_eq_true c14
          clear c14
          by_cases c15 : x7_1 < (l0_0.length : Int)
          ·rw [if_pos c15] at H
           have c15b0 : decide (x7_1 < (l0_0.length : Int)) = true := decide_eq_true c15
           clear c15
           by_cases c16 : 0 ≤ x8_2
           ·rw [if_pos c16] at H
            have c16b0 : decide (0 ≤ x8_2) = true := decide_eq_true c16
            clear c16
            by_cases c17 : x8_2 < (((rd_T63 l0_0 x7_1).f1.f2).length : Int)
            ·rw [if_pos c17] at H
             have c17b0 : decide (x8_2 < (((rd_T63 l0_0 x7_1).f1.f2).length : Int)) = true := decide_eq_true c17
             clear c17
             by_cases c18 : ((rd_T35 ((rd_T63 l0_0 x7_1).f1.f2) x8_2).f2) > a2
             ·rw [if_pos c18] at H
              have c18b0 : decide (a2 < ((rd_T35 ((rd_T63 l0_0 x7_1).f1.f2) x8_2).f2)) = true := decide_eq_true c18
              clear c18
              obtain rfl := Option.some.inj H
              have hcz19_0 : wc.cell? ⟨gb731, 0, none⟩ = some (.slice A0_0 l0_0.length c0_0) := (blk_cell BK731.out 0).trans rfl
              have hcz19_1 : wc.cell? ⟨gb731, 1, none⟩ = some (.slice A0_1 l0_1.length c0_1) := (blk_cell BK731.out 1).trans rfl
              have hfz19_0 := blk_frozen BK731.out 0
              have hfz19_1 := blk_frozen BK731.out 1
              have p734 : 0 ≤ (x7_1 : Int) := of_decide_eq_true (by first | (with_reducible assumption) | assumption)
              have q734 : x7_1 < (l0_0.length : Int) := of_decide_eq_true (by first | (with_reducible assumption) | assumption)
              obtain ⟨ad734, A734_1, c734_1, A734_3, c734_3, e734, hx734_0, hx734_1, hx734_2, hx734_3, hl734_1, hi734_1, hl734_3, hi734_3⟩ := at_T63 HR0_0.out x7_1 p734 q734
              cases e734
              replace hx734_0 := (HB.out.cell (World.block_lt_of_cell? w _ hx734_0)).trans hx734_0
              replace hx734_1 := (HB.out.cell (World.block_lt_of_cell? w _ hx734_1)).trans hx734_1
              replace hx734_2 := (HB.out.cell (World.block_lt_of_cell? w _ hx734_2)).trans hx734_2
              replace hx734_3 := (HB.out.cell (World.block_lt_of_cell? w _ hx734_3)).trans hx734_3
              have HR734_1 := Aside0.mk hi734_1
              have HC734_1 := Aside0.mk hl734_1
              clear hi734_1 hl734_1
              have HR734_3 := Aside0.mk hi734_3
              have HC734_3 := Aside0.mk hl734_3
              clear hi734_3 hl734_3
              replace p734 := eq_true p734
              replace q734 := eq_true q734
              have p735 : 0 ≤ (x8_2 : Int) := of_decide_eq_true (by first | (with_reducible assumption) | assumption)
              have q735 : x8_2 < (((rd_T63 l0_0 x7_1).f1.f2).length : Int) := of_decide_eq_true (by first | (with_reducible assumption) | assumption)
              obtain ⟨ad735, e735, hx735_0, hx735_1, hx735_2⟩ := at_T35 HR734_3.out x8_2 p735 q735
              cases e735
              replace hx735_0 := (HB.out.cell (World.block_lt_of_cell? w _ hx735_0)).trans hx735_0
              replace hx735_1 := (HB.out.cell (World.block_lt_of_cell? w _ hx735_1)).trans hx735_1
              replace hx735_2 := (HB.out.cell (World.block_lt_of_cell? w _ hx735_2)).trans hx735_2
              replace p735 := eq_true p735
              replace q735 := eq_true q735
              go_wp2
              go_ret
              exact ⟨by first | rfl | (simp [errW_none, errW_some] <;> rfl) | (simp [*, errW_none, errW_some] <;> rfl), by repeat (first | (with_reducible first | exact HB.out | apply below_alloc | apply pw_below_drewN | apply below_drew1 | refine below_set ?_ GE731.out) | exact HB.out)⟩
             ·rw [if_neg c18] at H
              have c18b0 : decide (a2 < ((rd_T35 ((rd_T63 l0_0 x7_1).f1.f2) x8_2).f2)) = false := decide_eq_false c18
              clear c18
              have H' := Aside0.mk H
              clear H
              have hcz20_0 : wc.cell? ⟨gb731, 0, none⟩ = some (.slice A0_0 l0_0.length c0_0) := (blk_cell BK731.out 0).trans rfl
              have hcz20_1 : wc.cell? ⟨gb731, 1, none⟩ = some (.slice A0_1 l0_1.length c0_1) := (blk_cell BK731.out 1).trans rfl
              have hfz20_0 := blk_frozen BK731.out 0
              have hfz20_1 := blk_frozen BK731.out 1
              have p734 : 0 ≤ (x7_1 : Int) := of_decide_eq_true (by first | (with_reducible assumption) | assumption)
              have q734 : x7_1 < (l0_0.length : Int) := of_decide_eq_true (by first | (with_reducible assumption) | assumption)
              obtain ⟨ad734, A734_1, c734_1, A734_3, c734_3, e734, hx734_0, hx734_1, hx734_2, hx734_3, hl734_1, hi734_1, hl734_3, hi734_3⟩ := at_T63 HR0_0.out x7_1 p734 q734
              cases e734
              replace hx734_0 := (HB.out.cell (World.block_lt_of_cell? w _ hx734_0)).trans hx734_0
              replace hx734_1 := (HB.out.cell (World.block_lt_of_cell? w _ hx734_1)).trans hx734_1
              replace hx734_2 := (HB.out.cell (World.block_lt_of_cell? w _ hx734_2)).trans hx734_2
              replace hx734_3 := (HB.out.cell (World.block_lt_of_cell? w _ hx734_3)).trans hx734_3
              have HR734_1 := Aside0.mk hi734_1
              have HC734_1 := Aside0.mk hl734_1
              clear hi734_1 hl734_1
              have HR734_3 := Aside0.mk hi734_3
              have HC734_3 := Aside0.mk hl734_3
              clear hi734_3 hl734_3
              replace p734 := eq_true p734
              replace q734 := eq_true q734
              have p735 : 0 ≤ (x8_2 : Int) := of_decide_eq_true (by first | (with_reducible assumption) | assumption)
              have q735 : x8_2 < (((rd_T63 l0_0 x7_1).f1.f2).length : Int) := of_decide_eq_true (by first | (with_reducible assumption) | assumption)
              obtain ⟨ad735, e735, hx735_0, hx735_1, hx735_2⟩ := at_T35 HR734_3.out x8_2 p735 q735
              cases e735
              replace hx735_0 := (HB.out.cell (World.block_lt_of_cell? w _ hx735_0)).trans hx735_0
              replace hx735_1 := (HB.out.cell (World.block_lt_of_cell? w _ hx735_1)).trans hx735_1
              replace hx735_2 := (HB.out.cell (World.block_lt_of_cell? w _ hx735_2)).trans hx735_2
              replace p735 := eq_true p735
              replace q735 := eq_true q735
              go_wp2
              go_roundg kj6
              case measure => have := HK1.out; have := HK2.out; have := HJ6.out; omega
              case rel => exact ⟨(wrap64 (x8_2 + 1)), (by first | rfl | (simp; done) | (simp [*]; done)), H', ⟨by have := HK1.out; have := HK2.out; have := HJ6.out; omega⟩, ⟨by exact BK731.out⟩, ⟨by repeat (first | (with_reducible first | exact HB.out | apply below_alloc | apply pw_below_drewN | apply below_drew1 | refine below_set ?_ GE731.out) | exact HB.out)⟩⟩
            ·rw [if_neg c17] at H
             exact absurd H (by simp)
           ·rw [if_neg c16] at H
            exact absurd H (by simp)
          ·rw [if_neg c15] at H
           exact absurd H (by simp)
         ·rw [if_neg c14] at H
          exact absurd H (by simp)
        ·replace c13 := Bool.eq_false_iff.mpr c13
         subst c13
         have H1 : (skiarealaw53_latest.l0 kj6 a1 a2 (wrap64 (x7_1 + 1)) l0_0 l0_1) = some r := by rw [if_neg (show ¬ (false = true) by decide)] at H; exact H
         clear H
         have H := H1
         clear H1
         have H' := Aside0.mk H
         clear H
         go_wp2
         go_roundg kj6
         case measure => have := HK1.out; have := HK2.out; have := HJ6.out; omega
         case rel => exact ⟨(wrap64 (x7_1 + 1)), (by first | rfl | (simp; done) | (simp [*]; done)), H', ⟨by have := HK1.out; have := HK2.out; have := HJ6.out; omega⟩, ⟨by exact BK731.out⟩, ⟨by repeat (first | (with_reducible first | exact HB.out | apply below_alloc | apply pw_below_drewN | apply below_drew1 | refine below_set ?_ GE731.out) | exact HB.out)⟩⟩
   ·rw [if_neg c5] at H
    have c5b0 : decide (x7_1 < (l0_0.length : Int)) = false := decide_eq_false c5
    clear c5
    obtain rfl := Option.some.inj H
    have hcz21_0 : wr.cell? ⟨gb731, 0, none⟩ = some (.slice A0_0 l0_0.length c0_0) := (blk_cell BK731.out 0).trans rfl
    have hcz21_1 : wr.cell? ⟨gb731, 1, none⟩ = some (.slice A0_1 l0_1.length c0_1) := (blk_cell BK731.out 1).trans rfl
    have hfz21_0 := blk_frozen BK731.out 0
    have hfz21_1 := blk_frozen BK731.out 1
    go_wp2
    go_ret
    exact ⟨by first | rfl | (simp [errW_none, errW_some] <;> rfl) | (simp [*, errW_none, errW_some] <;> rfl), by repeat (first | (with_reducible first | exact HB.out | apply below_alloc | apply pw_below_drewN | apply below_drew1 | refine below_set ?_ GE731.out) | exact HB.out)⟩

end Go.Proofs.Ytmhggplhfcmgkaa.Q
