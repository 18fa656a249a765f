-- written by wip/drive.py (this session's program) over the kit's print words
import Derived.Test.YtgfiidgigenibaaQ0
namespace Go.Proofs.Ytgfiidgigenibaa.Q
open Go.RowKit Go.Proofs.YtgfiidgigenibaaW.PrintWords Go.Proofs.YtgfiidgigenibaaW.PrintLast Go.Proofs.YtgfiidgigenibaaW.PrintMore
attribute [local go_sem] max2_int min2_int max_two min_two max_three min_three max_four min_four   -- for this text's walks alone
set_option linter.unusedVariables false
set_option linter.unusedSimpArgs false

/-! ### skiarearef10_Node: function 41 -/
def skiarearef10_Node.l0 : Nat → Int → Int → List (S62) → List (S82) → List (S44) → List Int → Option (Int × Int × Bool)
 | 0, _, _, _, _, _, _ => none
 | k + 1, x1, x6, x215000, x215001, x215002, x215003 => if x6 < (x215000.length : Int) then (if 0 ≤ x6 then (if ((rd_T62 x215000 x6).f0) = x1 then (some ((rd_T62 x215000 x6).f0, (rd_T62 x215000 x6).f1, true)) else (skiarearef10_Node.l0 k x1 (wrap64 (x6 + 1)) x215000 x215001 x215002 x215003)) else (none)) else (some (0, 0, false))
def skiarearef10_Node.f (k : Nat) (l0_0 : List (S62)) (l0_1 : List (S82)) (l0_2 : List (S44)) (l0_3 : List Int) (a1 : Int) : Option (Int × Int × Bool) := skiarearef10_Node.l0 k a1 0 l0_0 l0_1 l0_2 l0_3
theorem skiarearef10_Node.mono_l : ∀ k, (∀ y0 y1 y2 y3 y4 y5, LeO (skiarearef10_Node.l0 k y0 y1 y2 y3 y4 y5) (skiarearef10_Node.l0 (k + 1) y0 y1 y2 y3 y4 y5))
 | 0 => fun _ _ _ _ _ _ r h => by simp [skiarearef10_Node.l0] at h
 | k + 1 => by
  have ih0 := skiarearef10_Node.mono_l k
  ·intro y0 y1 y2 y3 y4 y5
   unfold skiarearef10_Node.l0
   repeat' first
   | (with_reducible exact ih0 _ _ _ _ _ _)
   | (with_reducible exact LeO.refl _)
   | (with_reducible exact LeO.none _)
   | (with_reducible refine LeO.ite ?_ ?_)
   | (with_reducible refine LeO.bind ?_ (fun _ => ?_))
   | exact ih0 _ _ _ _ _ _
   | exact LeO.none _
   | refine LeO.ite ?_ ?_
   | refine LeO.bind ?_ (fun _ => ?_)
theorem skiarearef10_Node.mono : ∀ a0 a1 a2 a3 a4 k, LeO (skiarearef10_Node.f k a0 a1 a2 a3 a4) (skiarearef10_Node.f (k + 1) a0 a1 a2 a3 a4) := by
 intro a0 a1 a2 a3 a4 k
 have ih0 := skiarearef10_Node.mono_l k
 unfold skiarearef10_Node.f
 repeat' first
   | (with_reducible exact ih0 _ _ _ _ _ _)
   | (with_reducible exact LeO.refl _)
   | (with_reducible exact LeO.none _)
   | (with_reducible refine LeO.ite ?_ ?_)
   | (with_reducible refine LeO.bind ?_ (fun _ => ?_))
   | exact ih0 _ _ _ _ _ _
   | exact LeO.none _
   | refine LeO.ite ?_ ?_
   | refine LeO.bind ?_ (fun _ => ?_)
set_option maxHeartbeats 8000000 in
set_option maxRecDepth 100000 in
theorem skiarearef10_Node.calls (k : Nat) (A0_0 : Option Addr) (c0_0 : Nat) (l0_0 : List (S62)) (A0_1 : Option Addr) (c0_1 : Nat) (l0_1 : List (S82)) (A0_2 : Option Addr) (c0_2 : Nat) (l0_2 : List (S44)) (A0_3 : Option Addr) (c0_3 : Nat) (l0_3 : List Int) (a1 : Int) (r1 : Int) (r2 : Int) (r3 : Bool) (w : World) (hr0_0 : Kd.C k62 w A0_0 l0_0.length l0_0) (hc0_0 : l0_0.length ≤ c0_0) (hr0_1 : Kd.C k82 w A0_1 l0_1.length l0_1) (hc0_1 : l0_1.length ≤ c0_1) (hr0_2 : Kd.C k44 w A0_2 l0_2.length l0_2) (hc0_2 : l0_2.length ≤ c0_2) (hr0_3 : Kd.C (Kd.int .i64) w A0_3 l0_3.length l0_3) (hc0_3 : l0_3.length ≤ c0_3) (h : skiarearef10_Node.f k l0_0 l0_1 l0_2 l0_3 a1 = some (r1, r2, r3)) :
  Calls Try.prog 41 #[.agg #[.slice A0_0 l0_0.length c0_0, .slice A0_1 l0_1.length c0_1, .slice A0_2 l0_2.length c0_2, .slice A0_3 l0_3.length c0_3], .int .i64 a1] w fun e w' => e = .returned (.tuple #[.agg #[.int .i64 r1, .int .i64 r2], .bool r3]) ∧ Below w.heap.size w w' := by
 have hu38 := Try.underlying38
 have hu62 := Try.underlying62
 have HR0_0 := a_ hr0_0
 have HC0_0 := a_ hc0_0
 clear hr0_0 hc0_0
 have HR0_1 := a_ hr0_1
 have HC0_1 := a_ hc0_1
 clear hr0_1 hc0_1
 have HR0_2 := a_ hr0_2
 have HC0_2 := a_ hc0_2
 clear hr0_2 hc0_2
 have HR0_3 := a_ hr0_3
 have HC0_3 := a_ hc0_3
 clear hr0_3 hc0_3
 have HB := a_ (Below.refl w.heap.size w)
 have H : (skiarearef10_Node.l0 k a1 0 l0_0 l0_1 l0_2 l0_3) = some (r1, r2, r3) := h
 clear h
 have H' := a_ H
 clear H
 go_enter Try.func41, Try.ntmps41
 go_wp2_with (first | ((with_reducible refine gate_dst (N := 2) rfl ?_); refine box_event ?hg (N := 2) ?hd (cs := #[.slice A0_0 l0_0.length c0_0, .slice A0_1 l0_1.length c0_1, .slice A0_2 l0_2.length c0_2, .slice A0_3 l0_3.length c0_3]) (t := 38) ?hr ?_; (case hd => rfl); (case hg => rfl); (case hr => first | (go_simp; done) | (go_simp; rfl)); intro gb214 hg w3 hbox hb; have n0_ := a_ (below_step bel_ hb); have n1_ := a_ (hbox); have n2_ := a_ (bz_ hg : w.heap.size ≤ gb214); have n3_ := a_ (bz_ hg : w.heap.size ≤ gb214); clear HB; have HB := n0_; have BK214 := n1_; have GW214 := n2_; have GE214 := n3_; clear n0_ n1_ n2_ n3_; clear hb hbox hg) | ((with_reducible refine gate_dst (N := 4) rfl ?_); refine box_event ?hg (N := 4) ?hd (cs := #[.int .i64 0, .int .i64 0]) (t := 62) ?hr ?_; (case hd => rfl); (case hg => rfl); (case hr => first | (go_simp; done) | (go_simp; rfl)); intro gb215 hg w4 hbox hb; have n0_ := a_ (blk_below (bk_ BK214.out) hb); have n1_ := a_ (below_step bel_ hb); have n2_ := a_ (hbox); have n3_ := a_ (bz_ hg : w.heap.size ≤ gb215); have n4_ := a_ (bz_ hg : w.heap.size ≤ gb215); have n5_ := a_ (nl_ hg (bk_ BK214.out)); have n6_ := a_ (ng_ hg (bk_ BK214.out)); clear BK214; clear HB; have BK214 := n0_; have HB := n1_; have BK215 := n2_; have GW215 := n3_; have GE215 := n4_; have NB214_215 := n5_; have NB215_214 := n6_; clear n0_ n1_ n2_ n3_ n4_ n5_ n6_; clear hb hbox hg))
 go_loopg [6] k (fun kq v6 w' => ∃ (x6_1 : Int) (x216000_1 : Int) (x216001_1 : Int), v6 = .int .i64 x6_1 ∧ Aside0 (skiarearef10_Node.l0 kq a1 x6_1 l0_0 l0_1 l0_2 l0_3 = some (r1, r2, r3)) ∧ Aside0 (kq ≤ k) ∧ Aside0 (w'.heap[gb214]? = some (.cells #[(.slice A0_0 l0_0.length c0_0), (.slice A0_1 l0_1.length c0_1), (.slice A0_2 l0_2.length c0_2), (.slice A0_3 l0_3.length c0_3)] 38 (0, 0))) ∧ Aside0 (w'.heap[gb215]? = some (.cells #[.int .i64 x216000_1, .int .i64 x216001_1] 62 (0, 0))) ∧ Aside0 (Below w.heap.size w w'))
 case atStart => exact ⟨(0), (0), (0), (by first | rfl | (simp; done) | (simp [*]; done)), H', ⟨Nat.le_refl _⟩, ⟨by exact BK214.out⟩, ⟨by exact BK215.out⟩, ⟨by repeat (first | (with_reducible first | exact HB.out | apply below_alloc | apply pw_below_drewN | apply below_drew1 | refine below_set ?_ GE214.out | refine below_set ?_ GE215.out) | exact HB.out)⟩⟩
 case round =>
  clear H'
  try clear p2
  try clear c4
  obtain ⟨x6_1, x216000_1, x216001_1, rfl, HA, HK1, BK214, BK215, HB⟩ := hrel
  cases gk with
  | zero => exact absurd HA.out (by simp [skiarearef10_Node.l0])
  | succ k1 =>
   have H := HA.out
   clear HA
   simp only [skiarearef10_Node.l0] at H
   by_cases c5 : x6_1 < (l0_0.length : Int)
   ·rw [if_pos c5] at H
    have c5b0 : decide (x6_1 < (l0_0.length : Int)) = true := decide_eq_true c5
    clear c5
    by_cases c6 : 0 ≤ x6_1
    ·rw [if_pos c6] at H
     have c6b0 : decide (0 ≤ x6_1) = true := decide_eq_true c6
     clear c6
     by_cases c7 : ((rd_T62 l0_0 x6_1).f0) = a1
     ·rw [if_pos c7] at H
      have c7b0 : (((rd_T62 l0_0 x6_1).f0) == a1) = true := beq_iff_eq.mpr c7
      have c7b1 : (((rd_T62 l0_0 x6_1).f0) != a1) = false := bne_eq_false_iff_eq.mpr c7
      clear c7
      simp only [Option.some.injEq, Prod.mk.injEq] at H
      obtain ⟨rfl, rfl, rfl⟩ := H
      have hnb8 := NB214_215.out
      have hnc8 := NB215_214.out
      have hcz9_0 := cz_ BK214 0
      have hcz9_1 := cz_ BK214 1
      have hcz9_2 := cz_ BK214 2
      have hcz9_3 := cz_ BK214 3
      have hfz9_0 := fz_ BK214 0
      have hfz9_1 := fz_ BK214 1
      have hfz9_2 := fz_ BK214 2
      have hfz9_3 := fz_ BK214 3
      have p216 : 0 ≤ (x6_1 : Int) := od_
      have q216 : x6_1 < (l0_0.length : Int) := od_
      obtain ⟨ad216, e216, hx216_0, hx216_1⟩ := at_T62 HR0_0.out x6_1 p216 q216
      cases e216
      replace hx216_0 := pc_ hx216_0
      replace hx216_1 := pc_ hx216_1
      replace p216 := eq_true p216
      replace q216 := eq_true q216
      have p217 : 0 ≤ (x6_1 : Int) := od_
      have q217 : x6_1 < (l0_0.length : Int) := od_
      obtain ⟨ad217, e217, hx217_0, hx217_1⟩ := at_T62 HR0_0.out x6_1 p217 q217
      obtain rfl : ad216 = ad217 := (by injection e217)
      replace hx217_0 := pc_ hx217_0
      replace hx217_1 := pc_ hx217_1
      replace p217 := eq_true p217
      replace q217 := eq_true q217
      have hcz10_0 := cz_ BK215 0
      have hcz10_1 := cz_ BK215 1
      have hfz10_0 := fz_ BK215 0
      have hfz10_1 := fz_ BK215 1
      go_wp2
      refine bodyPost_ret (results_ct rfl _ _ gb215 62 #[.int .i64 ((rd_T62 l0_0 x6_1).f0), .int .i64 ((rd_T62 l0_0 x6_1).f1)] (0, 0) _ rfl (by refine blk_put (cs := #[.int .i64 ((rd_T62 l0_0 x6_1).f0), .int .i64 x216001_1]) ?_ 1 _ rfl; refine blk_put (cs := #[.int .i64 x216000_1, .int .i64 x216001_1]) ?_ 0 _ rfl; exact BK215.out) Try.underlying62 rfl (by kernel_rfl)) rfl ?_
      exact ⟨by first | rfl | (simp [errW_none, errW_some] <;> rfl) | (simp [*, errW_none, errW_some] <;> rfl), by repeat (first | (with_reducible first | exact HB.out | apply below_alloc | apply pw_below_drewN | apply below_drew1 | refine below_set ?_ GE214.out | refine below_set ?_ GE215.out) | exact HB.out)⟩
     ·rw [if_neg c7] at H
      have c7b0 : (((rd_T62 l0_0 x6_1).f0) == a1) = false := beq_eq_false_iff_ne.mpr c7
      have c7b1 : (((rd_T62 l0_0 x6_1).f0) != a1) = true := bne_iff_ne.mpr c7
      have H' := a_ H
      clear H
      have hnb11 := NB214_215.out
      have hnc11 := NB215_214.out
      have hcz12_0 := cz_ BK214 0
      have hcz12_1 := cz_ BK214 1
      have hcz12_2 := cz_ BK214 2
      have hcz12_3 := cz_ BK214 3
      have hfz12_0 := fz_ BK214 0
      have hfz12_1 := fz_ BK214 1
      have hfz12_2 := fz_ BK214 2
      have hfz12_3 := fz_ BK214 3
      have p216 : 0 ≤ (x6_1 : Int) := od_
      have q216 : x6_1 < (l0_0.length : Int) := od_
      obtain ⟨ad216, e216, hx216_0, hx216_1⟩ := at_T62 HR0_0.out x6_1 p216 q216
      cases e216
      replace hx216_0 := pc_ hx216_0
      replace hx216_1 := pc_ hx216_1
      replace p216 := eq_true p216
      replace q216 := eq_true q216
      go_wp2
      go_roundg k1
      case measure => have := HK1.out; omega
      case rel => exact ⟨(wrap64 (x6_1 + 1)), (x216000_1), (x216001_1), (by first | rfl | (simp; done) | (simp [*]; done)), H', ⟨by have := HK1.out; omega⟩, ⟨by exact BK214.out⟩, ⟨by exact BK215.out⟩, ⟨by repeat (first | (with_reducible first | exact HB.out | apply below_alloc | apply pw_below_drewN | apply below_drew1 | refine below_set ?_ GE214.out | refine below_set ?_ GE215.out) | exact HB.out)⟩⟩
    ·rw [if_neg c6] at H
     exact absurd H (by simp)
   ·rw [if_neg c5] at H
    have c5b0 : decide (x6_1 < (l0_0.length : Int)) = false := decide_eq_false c5
    clear c5
    simp only [Option.some.injEq, Prod.mk.injEq] at H
    obtain ⟨rfl, rfl, rfl⟩ := H
    have hnb13 := NB214_215.out
    have hnc13 := NB215_214.out
    have hcz14_0 := cz_ BK214 0
    have hcz14_1 := cz_ BK214 1
    have hcz14_2 := cz_ BK214 2
    have hcz14_3 := cz_ BK214 3
    have hfz14_0 := fz_ BK214 0
    have hfz14_1 := fz_ BK214 1
    have hfz14_2 := fz_ BK214 2
    have hfz14_3 := fz_ BK214 3
    have hcz15_0 := cz_ BK215 0
    have hcz15_1 := cz_ BK215 1
    have hfz15_0 := fz_ BK215 0
    have hfz15_1 := fz_ BK215 1
    go_wp2
    refine bodyPost_ret (results_ct rfl _ _ gb215 62 #[.int .i64 0, .int .i64 0] (0, 0) _ rfl (by refine blk_put (cs := #[.int .i64 0, .int .i64 x216001_1]) ?_ 1 _ rfl; refine blk_put (cs := #[.int .i64 x216000_1, .int .i64 x216001_1]) ?_ 0 _ rfl; exact BK215.out) Try.underlying62 rfl (by kernel_rfl)) rfl ?_
    exact ⟨by first | rfl | (simp [errW_none, errW_some] <;> rfl) | (simp [*, errW_none, errW_some] <;> rfl), by repeat (first | (with_reducible first | exact HB.out | apply below_alloc | apply pw_below_drewN | apply below_drew1 | refine below_set ?_ GE214.out | refine below_set ?_ GE215.out) | exact HB.out)⟩

end Go.Proofs.Ytgfiidgigenibaa.Q
