-- written by wip/drive.py (this session's program) over the kit's print words
import Derived.Test.YtmhggplhfcmgkaaQ0
namespace Go.Proofs.Ytmhggplhfcmgkaa.Q
open Go.RowKit Go.Proofs.YtmhggplhfcmgkaaW.PrintWords Go.Proofs.YtmhggplhfcmgkaaW.PrintLast Go.Proofs.YtmhggplhfcmgkaaW.PrintMore
attribute [local go_sem] max2_int min2_int max_two min_two max_three min_three max_four min_four   -- for this text's walks alone
set_option linter.unusedVariables false
set_option linter.unusedSimpArgs false

/-! ### skiarearef53_at: function 68 -/
def skiarearef53_at.l0 : Nat → Int → Int → List (S63) → List (S56) → Option (Int)
 | 0, _, _, _, _ => none
 | k + 1, x1, x5, x528000, x528001 => if x5 < (x528000.length : Int) then (if 0 ≤ x5 then (if ((rd_T63 x528000 x5).f0) = x1 then (some x5) else (skiarearef53_at.l0 k x1 (wrap64 (x5 + 1)) x528000 x528001)) else (none)) else (some (-1))
def skiarearef53_at.f (k : Nat) (l0_0 : List (S63)) (l0_1 : List (S56)) (a1 : Int) : Option (Int) := skiarearef53_at.l0 k a1 0 l0_0 l0_1
theorem skiarearef53_at.mono_l : ∀ k, (∀ y0 y1 y2 y3, LeO (skiarearef53_at.l0 k y0 y1 y2 y3) (skiarearef53_at.l0 (k + 1) y0 y1 y2 y3))
 | 0 => fun _ _ _ _ r h => by simp [skiarearef53_at.l0] at h
 | k + 1 => by
  have ih0 := skiarearef53_at.mono_l k
  ·intro y0 y1 y2 y3
   unfold skiarearef53_at.l0
   repeat' first
   | (with_reducible exact ih0 _ _ _ _)
   | (with_reducible exact LeO.refl _)
   | (with_reducible exact LeO.none _)
   | (with_reducible refine LeO.ite ?_ ?_)
   | (with_reducible refine LeO.bind ?_ (fun _ => ?_))
   | exact ih0 _ _ _ _
   | exact LeO.none _
   | refine LeO.ite ?_ ?_
   | refine LeO.bind ?_ (fun _ => ?_)
theorem skiarearef53_at.mono : ∀ a0 a1 a2 k, LeO (skiarearef53_at.f k a0 a1 a2) (skiarearef53_at.f (k + 1) a0 a1 a2) := by
 intro a0 a1 a2 k
 have ih0 := skiarearef53_at.mono_l k
 unfold skiarearef53_at.f
 repeat' first
   | (with_reducible exact ih0 _ _ _ _)
   | (with_reducible exact LeO.refl _)
   | (with_reducible exact LeO.none _)
   | (with_reducible refine LeO.ite ?_ ?_)
   | (with_reducible refine LeO.bind ?_ (fun _ => ?_))
   | exact ih0 _ _ _ _
   | exact LeO.none _
   | refine LeO.ite ?_ ?_
   | refine LeO.bind ?_ (fun _ => ?_)
set_option maxHeartbeats 8000000 in
set_option maxRecDepth 100000 in
theorem skiarearef53_at.calls (k : Nat) (A0_0 : Option Addr) (c0_0 : Nat) (l0_0 : List (S63)) (A0_1 : Option Addr) (c0_1 : Nat) (l0_1 : List (S56)) (a1 : Int) (r : Int) (w : World) (hr0_0 : Kd.C k63 w A0_0 l0_0.length l0_0) (hc0_0 : l0_0.length ≤ c0_0) (hr0_1 : Kd.C k56 w A0_1 l0_1.length l0_1) (hc0_1 : l0_1.length ≤ c0_1) (h : skiarearef53_at.f k l0_0 l0_1 a1 = some r) :
  Calls Try.prog 68 #[.agg #[.slice A0_0 l0_0.length c0_0, .slice A0_1 l0_1.length c0_1], .int .i64 a1] w fun e w' => e = .returned (.int .i64 r) ∧ Below w.heap.size w w' := by
 have hu48 := Try.underlying48
 have HR0_0 := Aside0.mk hr0_0
 have HC0_0 := Aside0.mk hc0_0
 clear hr0_0 hc0_0
 have HR0_1 := Aside0.mk hr0_1
 have HC0_1 := Aside0.mk hc0_1
 clear hr0_1 hc0_1
 have HB := Aside0.mk (Below.refl w.heap.size w)
 have H : (skiarearef53_at.l0 k a1 0 l0_0 l0_1) = some r := h
 clear h
 have H' := Aside0.mk H
 clear H
 go_enter Try.func68, Try.ntmps68
 go_wp2_with (first | ((with_reducible refine gate_dst (N := 2) rfl ?_); refine box_event ?hg (N := 2) ?hd (cs := #[.slice A0_0 l0_0.length c0_0, .slice A0_1 l0_1.length c0_1]) (t := 48) ?hr ?_; (case hd => rfl); (case hg => rfl); (case hr => first | (go_simp; done) | (go_simp; rfl)); intro gb527 hg w3 hbox hb; have n0_ := Aside0.mk (below_step bel_ hb); have n1_ := Aside0.mk (hbox); have n2_ := Aside0.mk ((by rw [hg]; exact (below_size bel_) : w.heap.size ≤ gb527)); have n3_ := Aside0.mk ((by rw [hg]; exact (below_size bel_) : w.heap.size ≤ gb527)); clear HB; have HB := n0_; have BK527 := n1_; have GW527 := n2_; have GE527 := n3_; clear n0_ n1_ n2_ n3_; clear hb hbox hg))
 go_loopg [5] k (fun kq v5 w' => ∃ (x5_1 : Int), v5 = .int .i64 x5_1 ∧ Aside0 (skiarearef53_at.l0 kq a1 x5_1 l0_0 l0_1 = some r) ∧ Aside0 (kq ≤ k) ∧ Aside0 (w'.heap[gb527]? = some (.cells #[(.slice A0_0 l0_0.length c0_0), (.slice A0_1 l0_1.length c0_1)] 48 (0, 0))) ∧ Aside0 (Below w.heap.size w w'))
 case atStart => exact ⟨(0), (by first | rfl | (simp; done) | (simp [*]; done)), H', ⟨Nat.le_refl _⟩, ⟨by exact BK527.out⟩, ⟨by repeat (first | (with_reducible first | exact HB.out | apply below_alloc | apply pw_below_drewN | apply below_drew1 | refine below_set ?_ GE527.out) | exact HB.out)⟩⟩
 case round =>
  clear H'
  try clear p2
  obtain ⟨x5_1, rfl, HA, HK1, BK527, HB⟩ := hrel
  cases gk with
  | zero => exact absurd HA.out (by simp [skiarearef53_at.l0])
  | succ k1 =>
   have H := HA.out
   clear HA
   simp only [skiarearef53_at.l0] at H
   by_cases c4 : x5_1 < (l0_0.length : Int)
   ·rw [if_pos c4] at H
    have c4b0 : decide (x5_1 < (l0_0.length : Int)) = true := decide_eq_true c4
    clear c4
    by_cases c5 : 0 ≤ x5_1
    ·rw [if_pos c5] at H
     have c5b0 : decide (0 ≤ x5_1) = true := decide_eq_true c5
     clear c5
     by_cases c6 : ((rd_T63 l0_0 x5_1).f0) = a1
     ·rw [if_pos c6] at H
      have c6b0 : (((rd_T63 l0_0 x5_1).f0) == a1) = true := beq_iff_eq.mpr c6
      have c6b1 : (((rd_T63 l0_0 x5_1).f0) != a1) = false := bne_eq_false_iff_eq.mpr c6
      clear c6
      obtain rfl := Option.some.inj H
      have hcz7_0 : wr.cell? ⟨gb527, 0, none⟩ = some (.slice A0_0 l0_0.length c0_0) := (blk_cell BK527.out 0).trans rfl
      have hcz7_1 : wr.cell? ⟨gb527, 1, none⟩ = some (.slice A0_1 l0_1.length c0_1) := (blk_cell BK527.out 1).trans rfl
      have hfz7_0 := blk_frozen BK527.out 0
      have hfz7_1 := blk_frozen BK527.out 1
      have p528 : 0 ≤ (x5_1 : Int) := of_decide_eq_true (by first | (with_reducible assumption) | assumption)
      have q528 : x5_1 < (l0_0.length : Int) := of_decide_eq_true (by first | (with_reducible assumption) | assumption)
      obtain ⟨ad528, A528_1, c528_1, A528_3, c528_3, e528, hx528_0, hx528_1, hx528_2, hx528_3, hl528_1, hi528_1, hl528_3, hi528_3⟩ := at_T63 HR0_0.out x5_1 p528 q528
      cases e528
      replace hx528_0 := (HB.out.cell (World.block_lt_of_cell? w _ hx528_0)).trans hx528_0
      replace hx528_1 := (HB.out.cell (World.block_lt_of_cell? w _ hx528_1)).trans hx528_1
      replace hx528_2 := (HB.out.cell (World.block_lt_of_cell? w _ hx528_2)).trans hx528_2
      replace hx528_3 := (HB.out.cell (World.block_lt_of_cell? w _ hx528_3)).trans hx528_3
      have HR528_1 := Aside0.mk hi528_1
      have HC528_1 := Aside0.mk hl528_1
      clear hi528_1 hl528_1
      have HR528_3 := Aside0.mk hi528_3
      have HC528_3 := Aside0.mk hl528_3
      clear hi528_3 hl528_3
      replace p528 := eq_true p528
      replace q528 := eq_true q528
      go_wp2
      go_ret
      exact ⟨by first | rfl | (simp [errW_none, errW_some] <;> rfl) | (simp [*, errW_none, errW_some] <;> rfl), by repeat (first | (with_reducible first | exact HB.out | apply below_alloc | apply pw_below_drewN | apply below_drew1 | refine below_set ?_ GE527.out) | exact HB.out)⟩
     ·rw [if_neg c6] at H
      have c6b0 : (((rd_T63 l0_0 x5_1).f0) == a1) = false := beq_eq_false_iff_ne.mpr c6
      have c6b1 : (((rd_T63 l0_0 x5_1).f0) != a1) = true := bne_iff_ne.mpr c6
      have H' := Aside0.mk H
      clear H
      have hcz8_0 : wr.cell? ⟨gb527, 0, none⟩ = some (.slice A0_0 l0_0.length c0_0) := (blk_cell BK527.out 0).trans rfl
      have hcz8_1 : wr.cell? ⟨gb527, 1, none⟩ = some (.slice A0_1 l0_1.length c0_1) := (blk_cell BK527.out 1).trans rfl
      have hfz8_0 := blk_frozen BK527.out 0
      have hfz8_1 := blk_frozen BK527.out 1
      have p528 : 0 ≤ (x5_1 : Int) := of_decide_eq_true (by first | (with_reducible assumption) | assumption)
      have q528 : x5_1 < (l0_0.length : Int) := of_decide_eq_true (by first | (with_reducible assumption) | assumption)
      obtain ⟨ad528, A528_1, c528_1, A528_3, c528_3, e528, hx528_0, hx528_1, hx528_2, hx528_3, hl528_1, hi528_1, hl528_3, hi528_3⟩ := at_T63 HR0_0.out x5_1 p528 q528
      cases e528
      replace hx528_0 := (HB.out.cell (World.block_lt_of_cell? w _ hx528_0)).trans hx528_0
      replace hx528_1 := (HB.out.cell (World.block_lt_of_cell? w _ hx528_1)).trans hx528_1
      replace hx528_2 := (HB.out.cell (World.block_lt_of_cell? w _ hx528_2)).trans hx528_2
      replace hx528_3 := (HB.out.cell (World.block_lt_of_cell? w _ hx528_3)).trans hx528_3
      have HR528_1 := Aside0.mk hi528_1
      have HC528_1 := Aside0.mk hl528_1
      clear hi528_1 hl528_1
      have HR528_3 := Aside0.mk hi528_3
      have HC528_3 := Aside0.mk hl528_3
      clear hi528_3 hl528_3
      replace p528 := eq_true p528
      replace q528 := eq_true q528
      go_wp2
      go_roundg k1
      case measure => have := HK1.out; omega
      case rel => exact ⟨(wrap64 (x5_1 + 1)), (by first | rfl | (simp; done) | (simp [*]; done)), H', ⟨by have := HK1.out; omega⟩, ⟨by exact BK527.out⟩, ⟨by repeat (first | (with_reducible first | exact HB.out | apply below_alloc | apply pw_below_drewN | apply below_drew1 | refine below_set ?_ GE527.out) | exact HB.out)⟩⟩
    ·rw [if_neg c5] at H
     exact absurd H (by simp)
   ·rw [if_neg c4] at H
    have c4b0 : decide (x5_1 < (l0_0.length : Int)) = false := decide_eq_false c4
    clear c4
    obtain rfl := Option.some.inj H
    have hcz9_0 : wr.cell? ⟨gb527, 0, none⟩ = some (.slice A0_0 l0_0.length c0_0) := (blk_cell BK527.out 0).trans rfl
    have hcz9_1 : wr.cell? ⟨gb527, 1, none⟩ = some (.slice A0_1 l0_1.length c0_1) := (blk_cell BK527.out 1).trans rfl
    have hfz9_0 := blk_frozen BK527.out 0
    have hfz9_1 := blk_frozen BK527.out 1
    go_wp2
    go_ret
    exact ⟨by first | rfl | (simp [errW_none, errW_some] <;> rfl) | (simp [*, errW_none, errW_some] <;> rfl), by repeat (first | (with_reducible first | exact HB.out | apply below_alloc | apply pw_below_drewN | apply below_drew1 | refine below_set ?_ GE527.out) | exact HB.out)⟩

end Go.Proofs.Ytmhggplhfcmgkaa.Q
