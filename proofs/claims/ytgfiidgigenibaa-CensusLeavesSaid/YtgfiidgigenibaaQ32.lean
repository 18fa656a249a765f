-- written by wip/drive.py (this session's program) over the kit's print words
import Derived.Test.YtgfiidgigenibaaQ0
import Derived.Test.YtgfiidgigenibaaQ26
import Derived.Test.YtgfiidgigenibaaQ29
namespace Go.Proofs.Ytgfiidgigenibaa.Q
open Go.RowKit Go.Proofs.YtgfiidgigenibaaW.PrintWords Go.Proofs.YtgfiidgigenibaaW.PrintLast Go.Proofs.YtgfiidgigenibaaW.PrintMore
attribute [local go_sem] max2_int min2_int max_two min_two max_three min_three max_four min_four   -- for this text's walks alone
set_option linter.unusedVariables false
set_option linter.unusedSimpArgs false

/-! ### skiarearef10_runs: function 45 -/
mutual
def skiarearef10_runs.l0 : Nat → Int → List (S62) → List (S82) → List (S44) → List Int → Option (Int)
 | 0, _, _, _, _, _ => none
 | k + 1, x3, x242000, x242001, x242002, x242003 => if x3 < (x242002.length : Int) then (if 0 ≤ x3 then ((skiarearef10_in.f ((rd_T44 x242002 x3).f0) 1 9999).bind fun t244 => (if t244 = true then ((skiarearef10_in.f ((rd_T44 x242002 x3).f1) 1 8).bind fun t245 => (if t245 = true then ((skiarearef10_in.f ((rd_T44 x242002 x3).f4) 1 4).bind fun t246 => (if t246 = true then ((skiarearef10_in.f ((rd_T44 x242002 x3).f5) 1 32).bind fun t247 => (if t247 = true then ((skiarearef10_in.f ((rd_T44 x242002 x3).f6) 10 20000).bind fun t248 => (skiarearef10_runs.j1 k x3 (!t248) x242000 x242001 x242002 x242003 ((rd_T44 x242002 x3).f0) ((rd_T44 x242002 x3).f1) ((rd_T44 x242002 x3).f2) ((rd_T44 x242002 x3).f3) ((rd_T44 x242002 x3).f4) ((rd_T44 x242002 x3).f5) ((rd_T44 x242002 x3).f6))) else (skiarearef10_runs.j1 k x3 true x242000 x242001 x242002 x242003 ((rd_T44 x242002 x3).f0) ((rd_T44 x242002 x3).f1) ((rd_T44 x242002 x3).f2) ((rd_T44 x242002 x3).f3) ((rd_T44 x242002 x3).f4) ((rd_T44 x242002 x3).f5) ((rd_T44 x242002 x3).f6)))) else (skiarearef10_runs.j1 k x3 true x242000 x242001 x242002 x242003 ((rd_T44 x242002 x3).f0) ((rd_T44 x242002 x3).f1) ((rd_T44 x242002 x3).f2) ((rd_T44 x242002 x3).f3) ((rd_T44 x242002 x3).f4) ((rd_T44 x242002 x3).f5) ((rd_T44 x242002 x3).f6)))) else (skiarearef10_runs.j1 k x3 true x242000 x242001 x242002 x242003 ((rd_T44 x242002 x3).f0) ((rd_T44 x242002 x3).f1) ((rd_T44 x242002 x3).f2) ((rd_T44 x242002 x3).f3) ((rd_T44 x242002 x3).f4) ((rd_T44 x242002 x3).f5) ((rd_T44 x242002 x3).f6)))) else (skiarearef10_runs.j1 k x3 true x242000 x242001 x242002 x242003 ((rd_T44 x242002 x3).f0) ((rd_T44 x242002 x3).f1) ((rd_T44 x242002 x3).f2) ((rd_T44 x242002 x3).f3) ((rd_T44 x242002 x3).f4) ((rd_T44 x242002 x3).f5) ((rd_T44 x242002 x3).f6)))) else (none)) else (some 0)
def skiarearef10_runs.j1 : Nat → Int → Bool → List (S62) → List (S82) → List (S44) → List Int → Int → Int → Int → Int → Int → Int → Int → Option (Int)
 | 0, _, _, _, _, _, _, _, _, _, _, _, _, _ => none
 | k + 1, x3, x45, x242000, x242001, x242002, x242003, x244000, x244001, x244002, x244003, x244004, x244005, x244006 => if x45 = true then (some 2) else (if x3 > 0 then (if 0 ≤ (wrap64 (x3 - 1)) then (if (wrap64 (x3 - 1)) < (x242002.length : Int) then (skiarearef10_runs.j2 k x3 (decide (x244000 ≤ ((rd_T44 x242002 (wrap64 (x3 - 1))).f0))) x242000 x242001 x242002 x242003 x244000 x244001 x244002 x244003 x244004 x244005 x244006) else (none)) else (none)) else (skiarearef10_runs.j2 k x3 false x242000 x242001 x242002 x242003 x244000 x244001 x244002 x244003 x244004 x244005 x244006))
def skiarearef10_runs.j2 : Nat → Int → Bool → List (S62) → List (S82) → List (S44) → List Int → Int → Int → Int → Int → Int → Int → Int → Option (Int)
 | 0, _, _, _, _, _, _, _, _, _, _, _, _, _ => none
 | k + 1, x3, x59, x242000, x242001, x242002, x242003, x244000, x244001, x244002, x244003, x244004, x244005, x244006 => if x59 = true then (some 7) else ((skiarearef10_rises.f k x242000 x242001 x242002 x242003 x244003 x244002).bind fun t250 => (if t250 = 0 then (skiarearef10_runs.l0 k (wrap64 (x3 + 1)) x242000 x242001 x242002 x242003) else (some t250)))
end
def skiarearef10_runs.f (k : Nat) (l0_0 : List (S62)) (l0_1 : List (S82)) (l0_2 : List (S44)) (l0_3 : List Int) : Option (Int) := skiarearef10_runs.l0 k 0 l0_0 l0_1 l0_2 l0_3
theorem skiarearef10_runs.mono_l : ∀ k, (∀ y0 y1 y2 y3 y4, LeO (skiarearef10_runs.l0 k y0 y1 y2 y3 y4) (skiarearef10_runs.l0 (k + 1) y0 y1 y2 y3 y4)) ∧ (∀ y0 y1 y2 y3 y4 y5 y6 y7 y8 y9 y10 y11 y12, LeO (skiarearef10_runs.j1 k y0 y1 y2 y3 y4 y5 y6 y7 y8 y9 y10 y11 y12) (skiarearef10_runs.j1 (k + 1) y0 y1 y2 y3 y4 y5 y6 y7 y8 y9 y10 y11 y12)) ∧ (∀ y0 y1 y2 y3 y4 y5 y6 y7 y8 y9 y10 y11 y12, LeO (skiarearef10_runs.j2 k y0 y1 y2 y3 y4 y5 y6 y7 y8 y9 y10 y11 y12) (skiarearef10_runs.j2 (k + 1) y0 y1 y2 y3 y4 y5 y6 y7 y8 y9 y10 y11 y12))
 | 0 => ⟨fun _ _ _ _ _ r h => by simp [skiarearef10_runs.l0] at h, fun _ _ _ _ _ _ _ _ _ _ _ _ _ r h => by simp [skiarearef10_runs.j1] at h, fun _ _ _ _ _ _ _ _ _ _ _ _ _ r h => by simp [skiarearef10_runs.j2] at h⟩
 | k + 1 => by
  obtain ⟨ih0, ih1, ih2⟩ := skiarearef10_runs.mono_l k
  refine ⟨?_, ?_, ?_⟩
  ·intro y0 y1 y2 y3 y4
   unfold skiarearef10_runs.l0
   repeat' first
   | (with_reducible exact ih0 _ _ _ _ _)
   | (with_reducible exact ih1 _ _ _ _ _ _ _ _ _ _ _ _ _)
   | (with_reducible exact ih2 _ _ _ _ _ _ _ _ _ _ _ _ _)
   | (with_reducible exact skiarearef10_rises.mono _ _ _ _ _ _ _)
   | (with_reducible exact LeO.refl _)
   | (with_reducible exact LeO.none _)
   | (with_reducible refine LeO.ite ?_ ?_)
   | (with_reducible refine LeO.bind ?_ (fun _ => ?_))
   | exact ih0 _ _ _ _ _
   | exact ih1 _ _ _ _ _ _ _ _ _ _ _ _ _
   | exact ih2 _ _ _ _ _ _ _ _ _ _ _ _ _
   | exact skiarearef10_rises.mono _ _ _ _ _ _ _
   | exact LeO.none _
   | refine LeO.ite ?_ ?_
   | refine LeO.bind ?_ (fun _ => ?_)
  ·intro y0 y1 y2 y3 y4 y5 y6 y7 y8 y9 y10 y11 y12
   unfold skiarearef10_runs.j1
   repeat' first
   | (with_reducible exact ih0 _ _ _ _ _)
   | (with_reducible exact ih1 _ _ _ _ _ _ _ _ _ _ _ _ _)
   | (with_reducible exact ih2 _ _ _ _ _ _ _ _ _ _ _ _ _)
   | (with_reducible exact skiarearef10_rises.mono _ _ _ _ _ _ _)
   | (with_reducible exact LeO.refl _)
   | (with_reducible exact LeO.none _)
   | (with_reducible refine LeO.ite ?_ ?_)
   | (with_reducible refine LeO.bind ?_ (fun _ => ?_))
   | exact ih0 _ _ _ _ _
   | exact ih1 _ _ _ _ _ _ _ _ _ _ _ _ _
   | exact ih2 _ _ _ _ _ _ _ _ _ _ _ _ _
   | exact skiarearef10_rises.mono _ _ _ _ _ _ _
   | exact LeO.none _
   | refine LeO.ite ?_ ?_
   | refine LeO.bind ?_ (fun _ => ?_)
  ·intro y0 y1 y2 y3 y4 y5 y6 y7 y8 y9 y10 y11 y12
   unfold skiarearef10_runs.j2
   repeat' first
   | (with_reducible exact ih0 _ _ _ _ _)
   | (with_reducible exact ih1 _ _ _ _ _ _ _ _ _ _ _ _ _)
   | (with_reducible exact ih2 _ _ _ _ _ _ _ _ _ _ _ _ _)
   | (with_reducible exact skiarearef10_rises.mono _ _ _ _ _ _ _)
   | (with_reducible exact LeO.refl _)
   | (with_reducible exact LeO.none _)
   | (with_reducible refine LeO.ite ?_ ?_)
   | (with_reducible refine LeO.bind ?_ (fun _ => ?_))
   | exact ih0 _ _ _ _ _
   | exact ih1 _ _ _ _ _ _ _ _ _ _ _ _ _
   | exact ih2 _ _ _ _ _ _ _ _ _ _ _ _ _
   | exact skiarearef10_rises.mono _ _ _ _ _ _ _
   | exact LeO.none _
   | refine LeO.ite ?_ ?_
   | refine LeO.bind ?_ (fun _ => ?_)
theorem skiarearef10_runs.mono : ∀ a0 a1 a2 a3 k, LeO (skiarearef10_runs.f k a0 a1 a2 a3) (skiarearef10_runs.f (k + 1) a0 a1 a2 a3) := by
 intro a0 a1 a2 a3 k
 obtain ⟨ih0, ih1, ih2⟩ := skiarearef10_runs.mono_l k
 unfold skiarearef10_runs.f
 repeat' first
   | (with_reducible exact ih0 _ _ _ _ _)
   | (with_reducible exact ih1 _ _ _ _ _ _ _ _ _ _ _ _ _)
   | (with_reducible exact ih2 _ _ _ _ _ _ _ _ _ _ _ _ _)
   | (with_reducible exact skiarearef10_rises.mono _ _ _ _ _ _ _)
   | (with_reducible exact LeO.refl _)
   | (with_reducible exact LeO.none _)
   | (with_reducible refine LeO.ite ?_ ?_)
   | (with_reducible refine LeO.bind ?_ (fun _ => ?_))
   | exact ih0 _ _ _ _ _
   | exact ih1 _ _ _ _ _ _ _ _ _ _ _ _ _
   | exact ih2 _ _ _ _ _ _ _ _ _ _ _ _ _
   | exact skiarearef10_rises.mono _ _ _ _ _ _ _
   | exact LeO.none _
   | refine LeO.ite ?_ ?_
   | refine LeO.bind ?_ (fun _ => ?_)
set_option maxHeartbeats 8000000 in
set_option maxRecDepth 100000 in
theorem skiarearef10_runs.calls (k : Nat) (A0_0 : Option Addr) (c0_0 : Nat) (l0_0 : List (S62)) (A0_1 : Option Addr) (c0_1 : Nat) (l0_1 : List (S82)) (A0_2 : Option Addr) (c0_2 : Nat) (l0_2 : List (S44)) (A0_3 : Option Addr) (c0_3 : Nat) (l0_3 : List Int) (r : Int) (w : World) (hr0_0 : Kd.C k62 w A0_0 l0_0.length l0_0) (hc0_0 : l0_0.length ≤ c0_0) (hr0_1 : Kd.C k82 w A0_1 l0_1.length l0_1) (hc0_1 : l0_1.length ≤ c0_1) (hr0_2 : Kd.C k44 w A0_2 l0_2.length l0_2) (hc0_2 : l0_2.length ≤ c0_2) (hr0_3 : Kd.C (Kd.int .i64) w A0_3 l0_3.length l0_3) (hc0_3 : l0_3.length ≤ c0_3) (h : skiarearef10_runs.f k l0_0 l0_1 l0_2 l0_3 = some r) :
  Calls Try.prog 45 #[.agg #[.slice A0_0 l0_0.length c0_0, .slice A0_1 l0_1.length c0_1, .slice A0_2 l0_2.length c0_2, .slice A0_3 l0_3.length c0_3]] w fun e w' => e = .returned (.int .i64 r) ∧ Below w.heap.size w w' := by
 have hu38 := Try.underlying38
 have hu44 := Try.underlying44
 have HR0_0 := Aside0.mk hr0_0
 have HC0_0 := Aside0.mk hc0_0
 clear hr0_0 hc0_0
 have HR0_1 := Aside0.mk hr0_1
 have HC0_1 := Aside0.mk hc0_1
 clear hr0_1 hc0_1
 have HR0_2 := Aside0.mk hr0_2
 have HC0_2 := Aside0.mk hc0_2
 clear hr0_2 hc0_2
 have HR0_3 := Aside0.mk hr0_3
 have HC0_3 := Aside0.mk hc0_3
 clear hr0_3 hc0_3
 have HB := Aside0.mk (Below.refl w.heap.size w)
 have H : (skiarearef10_runs.l0 k 0 l0_0 l0_1 l0_2 l0_3) = some r := h
 clear h
 have H' := Aside0.mk H
 clear H
 go_enter Try.func45, Try.ntmps45
 go_wp2_with (first | ((with_reducible refine gate_dst (N := 1) rfl ?_); refine box_event ?hg (N := 1) ?hd (cs := #[.slice A0_0 l0_0.length c0_0, .slice A0_1 l0_1.length c0_1, .slice A0_2 l0_2.length c0_2, .slice A0_3 l0_3.length c0_3]) (t := 38) ?hr ?_; (case hd => rfl); (case hg => rfl); (case hr => first | (go_simp; done) | (go_simp; rfl)); intro gb241 hg w2 hbox hb; have n0_ := Aside0.mk (below_step bel_ hb); have n1_ := Aside0.mk (hbox); have n2_ := Aside0.mk (bz_ hg : w.heap.size ≤ gb241); have n3_ := Aside0.mk (bz_ hg : w.heap.size ≤ gb241); clear HB; have HB := n0_; have BK241 := n1_; have GW241 := n2_; have GE241 := n3_; clear n0_ n1_ n2_ n3_; clear hb hbox hg))
 repeat (go_quiet (fail); try go_wp2_with (first | ((with_reducible refine gate_dst (N := 1) rfl ?_); refine box_event ?hg (N := 1) ?hd (cs := #[.slice A0_0 l0_0.length c0_0, .slice A0_1 l0_1.length c0_1, .slice A0_2 l0_2.length c0_2, .slice A0_3 l0_3.length c0_3]) (t := 38) ?hr ?_; (case hd => rfl); (case hg => rfl); (case hr => first | (go_simp; done) | (go_simp; rfl)); intro gb241 hg w2 hbox hb; have n0_ := Aside0.mk (below_step bel_ hb); have n1_ := Aside0.mk (hbox); have n2_ := Aside0.mk (bz_ hg : w.heap.size ≤ gb241); have n3_ := Aside0.mk (bz_ hg : w.heap.size ≤ gb241); clear HB; have HB := n0_; have BK241 := n1_; have GW241 := n2_; have GE241 := n3_; clear n0_ n1_ n2_ n3_; clear hb hbox hg)))
 go_loopg [3] k (fun kq v3 w' => ∃ (x3_1 : Int), v3 = .int .i64 x3_1 ∧ Aside0 (skiarearef10_runs.l0 kq x3_1 l0_0 l0_1 l0_2 l0_3 = some r) ∧ Aside0 (kq ≤ k) ∧ Aside0 (w'.heap[gb241]? = some (.cells #[(.slice A0_0 l0_0.length c0_0), (.slice A0_1 l0_1.length c0_1), (.slice A0_2 l0_2.length c0_2), (.slice A0_3 l0_3.length c0_3)] 38 (0, 0))) ∧ Aside0 (Below w.heap.size w w'))
 case atStart => exact ⟨(0), (by first | rfl | (simp; done) | (simp [*]; done)), H', ⟨Nat.le_refl _⟩, ⟨by (with_reducible repeat (first | refine blk_drewN ?_ _ | refine blk_drew ?_ | refine blk_alloc ?_ _)); exact BK241.out⟩, ⟨by repeat (first | (with_reducible first | exact HB.out | apply below_alloc | apply pw_below_drewN | apply below_drew1 | refine below_set ?_ GE241.out) | exact HB.out)⟩⟩
 case round =>
  clear H'
  try clear p2
  obtain ⟨x3_1, rfl, HA, HK1, BK241, HB⟩ := hrel
  cases gk with
  | zero => exact absurd HA.out (by simp [skiarearef10_runs.l0])
  | succ k1 =>
   have H := HA.out
   clear HA
   simp only [skiarearef10_runs.l0] at H
   by_cases c3 : x3_1 < (l0_2.length : Int)
   ·rw [if_pos c3] at H
    have c3b0 : decide (x3_1 < (l0_2.length : Int)) = true := decide_eq_true c3
    clear c3
    by_cases c4 : 0 ≤ x3_1
    ·rw [if_pos c4] at H
     have c4b0 : decide (0 ≤ x3_1) = true := decide_eq_true c4
     clear c4
     have HC5 := Aside0.mk H
     clear H
     have hcz6_0 := cz_ BK241 0
     have hcz6_1 := cz_ BK241 1
     have hcz6_2 := cz_ BK241 2
     have hcz6_3 := cz_ BK241 3
     have hfz6_0 := fz_ BK241 0
     have hfz6_1 := fz_ BK241 1
     have hfz6_2 := fz_ BK241 2
     have hfz6_3 := fz_ BK241 3
     have p242 : 0 ≤ (x3_1 : Int) := od_
     have q242 : x3_1 < (l0_2.length : Int) := od_
     obtain ⟨ad242, e242, hx242_0, hx242_1, hx242_2, hx242_3, hx242_4, hx242_5, hx242_6⟩ := at_T44 HR0_2.out x3_1 p242 q242
     cases e242
     replace hx242_0 := pc_ hx242_0
     replace hx242_1 := pc_ hx242_1
     replace hx242_2 := pc_ hx242_2
     replace hx242_3 := pc_ hx242_3
     replace hx242_4 := pc_ hx242_4
     replace hx242_5 := pc_ hx242_5
     replace hx242_6 := pc_ hx242_6
     replace p242 := eq_true p242
     replace q242 := eq_true q242
     go_upto_region 5 with (first | ((with_reducible refine gate_dst (N := 4) rfl ?_); refine box_event ?hg (N := 4) ?hd (cs := #[.int .i64 0, .int .i64 0, .int .i64 0, .int .i64 0, .int .i64 0, .int .i64 0, .int .i64 0]) (t := 44) ?hr ?_; (case hd => rfl); (case hg => rfl); (case hr => first | (go_simp; done) | (go_simp; rfl)); intro gb243 hg w7 hbox hb; have n0_ := Aside0.mk (blk_below (g := gb241) (o := .cells #[.slice A0_0 l0_0.length c0_0, .slice A0_1 l0_1.length c0_1, .slice (some ad242) l0_2.length c0_2, .slice A0_3 l0_3.length c0_3] 38 (0, 0)) (by (with_reducible repeat (first | refine blk_drewN ?_ _ | refine blk_drew ?_ | refine blk_alloc ?_ _)); exact BK241.out) hb); have n1_ := Aside0.mk (below_step bel_ hb); have n2_ := Aside0.mk (hbox); have n3_ := Aside0.mk (bz_ hg : w.heap.size ≤ gb243); have n4_ := Aside0.mk (bz_ hg : w.heap.size ≤ gb243); have n5_ := Aside0.mk ((by rw [hg]; exact Nat.ne_of_lt (blk_lt (g := gb241) (o := .cells #[.slice A0_0 l0_0.length c0_0, .slice A0_1 l0_1.length c0_1, .slice (some ad242) l0_2.length c0_2, .slice A0_3 l0_3.length c0_3] 38 (0, 0)) (by (with_reducible repeat (first | refine blk_drewN ?_ _ | refine blk_drew ?_ | refine blk_alloc ?_ _)); exact BK241.out)) : gb241 ≠ gb243)); have n6_ := Aside0.mk ((by rw [hg]; exact Nat.ne_of_gt (blk_lt (g := gb241) (o := .cells #[.slice A0_0 l0_0.length c0_0, .slice A0_1 l0_1.length c0_1, .slice (some ad242) l0_2.length c0_2, .slice A0_3 l0_3.length c0_3] 38 (0, 0)) (by (with_reducible repeat (first | refine blk_drewN ?_ _ | refine blk_drew ?_ | refine blk_alloc ?_ _)); exact BK241.out)) : gb243 ≠ gb241)); clear BK241; clear HB; have BK241 := n0_; have HB := n1_; have BK243 := n2_; have GW243 := n3_; have GE243 := n4_; have NB241_243 := n5_; have NB243_241 := n6_; clear n0_ n1_ n2_ n3_ n4_ n5_ n6_; clear hb hbox hg; have hnb8 := NB243_241.out; have hnc8 := NB241_243.out; have hcz9_0 := cz_ BK243 0; have hcz9_1 := cz_ BK243 1; have hcz9_2 := cz_ BK243 2; have hcz9_3 := cz_ BK243 3; have hcz9_4 := cz_ BK243 4; have hcz9_5 := cz_ BK243 5; have hcz9_6 := cz_ BK243 6; have hfz9_0 := fz_ BK243 0; have hfz9_1 := fz_ BK243 1; have hfz9_2 := fz_ BK243 2; have hfz9_3 := fz_ BK243 3; have hfz9_4 := fz_ BK243 4; have hfz9_5 := fz_ BK243 5; have hfz9_6 := fz_ BK243 6))
     repeat (go_quiet (first | ((with_reducible refine gate_dst (N := 4) rfl ?_); refine box_event ?hg (N := 4) ?hd (cs := #[.int .i64 0, .int .i64 0, .int .i64 0, .int .i64 0, .int .i64 0, .int .i64 0, .int .i64 0]) (t := 44) ?hr ?_; (case hd => rfl); (case hg => rfl); (case hr => first | (go_simp; done) | (go_simp; rfl)); intro gb243 hg w7 hbox hb; have n0_ := Aside0.mk (blk_below (g := gb241) (o := .cells #[.slice A0_0 l0_0.length c0_0, .slice A0_1 l0_1.length c0_1, .slice (some ad242) l0_2.length c0_2, .slice A0_3 l0_3.length c0_3] 38 (0, 0)) (by (with_reducible repeat (first | refine blk_drewN ?_ _ | refine blk_drew ?_ | refine blk_alloc ?_ _)); exact BK241.out) hb); have n1_ := Aside0.mk (below_step bel_ hb); have n2_ := Aside0.mk (hbox); have n3_ := Aside0.mk (bz_ hg : w.heap.size ≤ gb243); have n4_ := Aside0.mk (bz_ hg : w.heap.size ≤ gb243); have n5_ := Aside0.mk ((by rw [hg]; exact Nat.ne_of_lt (blk_lt (g := gb241) (o := .cells #[.slice A0_0 l0_0.length c0_0, .slice A0_1 l0_1.length c0_1, .slice (some ad242) l0_2.length c0_2, .slice A0_3 l0_3.length c0_3] 38 (0, 0)) (by (with_reducible repeat (first | refine blk_drewN ?_ _ | refine blk_drew ?_ | refine blk_alloc ?_ _)); exact BK241.out)) : gb241 ≠ gb243)); have n6_ := Aside0.mk ((by rw [hg]; exact Nat.ne_of_gt (blk_lt (g := gb241) (o := .cells #[.slice A0_0 l0_0.length c0_0, .slice A0_1 l0_1.length c0_1, .slice (some ad242) l0_2.length c0_2, .slice A0_3 l0_3.length c0_3] 38 (0, 0)) (by (with_reducible repeat (first | refine blk_drewN ?_ _ | refine blk_drew ?_ | refine blk_alloc ?_ _)); exact BK241.out)) : gb243 ≠ gb241)); clear BK241; clear HB; have BK241 := n0_; have HB := n1_; have BK243 := n2_; have GW243 := n3_; have GE243 := n4_; have NB241_243 := n5_; have NB243_241 := n6_; clear n0_ n1_ n2_ n3_ n4_ n5_ n6_; clear hb hbox hg; have hnb8 := NB243_241.out; have hnc8 := NB241_243.out; have hcz9_0 := cz_ BK243 0; have hcz9_1 := cz_ BK243 1; have hcz9_2 := cz_ BK243 2; have hcz9_3 := cz_ BK243 3; have hcz9_4 := cz_ BK243 4; have hcz9_5 := cz_ BK243 5; have hcz9_6 := cz_ BK243 6; have hfz9_0 := fz_ BK243 0; have hfz9_1 := fz_ BK243 1; have hfz9_2 := fz_ BK243 2; have hfz9_3 := fz_ BK243 3; have hfz9_4 := fz_ BK243 4; have hfz9_5 := fz_ BK243 5; have hfz9_6 := fz_ BK243 6)); go_upto_region 5 with (first | ((with_reducible refine gate_dst (N := 4) rfl ?_); refine box_event ?hg (N := 4) ?hd (cs := #[.int .i64 0, .int .i64 0, .int .i64 0, .int .i64 0, .int .i64 0, .int .i64 0, .int .i64 0]) (t := 44) ?hr ?_; (case hd => rfl); (case hg => rfl); (case hr => first | (go_simp; done) | (go_simp; rfl)); intro gb243 hg w7 hbox hb; have n0_ := Aside0.mk (blk_below (g := gb241) (o := .cells #[.slice A0_0 l0_0.length c0_0, .slice A0_1 l0_1.length c0_1, .slice (some ad242) l0_2.length c0_2, .slice A0_3 l0_3.length c0_3] 38 (0, 0)) (by (with_reducible repeat (first | refine blk_drewN ?_ _ | refine blk_drew ?_ | refine blk_alloc ?_ _)); exact BK241.out) hb); have n1_ := Aside0.mk (below_step bel_ hb); have n2_ := Aside0.mk (hbox); have n3_ := Aside0.mk (bz_ hg : w.heap.size ≤ gb243); have n4_ := Aside0.mk (bz_ hg : w.heap.size ≤ gb243); have n5_ := Aside0.mk ((by rw [hg]; exact Nat.ne_of_lt (blk_lt (g := gb241) (o := .cells #[.slice A0_0 l0_0.length c0_0, .slice A0_1 l0_1.length c0_1, .slice (some ad242) l0_2.length c0_2, .slice A0_3 l0_3.length c0_3] 38 (0, 0)) (by (with_reducible repeat (first | refine blk_drewN ?_ _ | refine blk_drew ?_ | refine blk_alloc ?_ _)); exact BK241.out)) : gb241 ≠ gb243)); have n6_ := Aside0.mk ((by rw [hg]; exact Nat.ne_of_gt (blk_lt (g := gb241) (o := .cells #[.slice A0_0 l0_0.length c0_0, .slice A0_1 l0_1.length c0_1, .slice (some ad242) l0_2.length c0_2, .slice A0_3 l0_3.length c0_3] 38 (0, 0)) (by (with_reducible repeat (first | refine blk_drewN ?_ _ | refine blk_drew ?_ | refine blk_alloc ?_ _)); exact BK241.out)) : gb243 ≠ gb241)); clear BK241; clear HB; have BK241 := n0_; have HB := n1_; have BK243 := n2_; have GW243 := n3_; have GE243 := n4_; have NB241_243 := n5_; have NB243_241 := n6_; clear n0_ n1_ n2_ n3_ n4_ n5_ n6_; clear hb hbox hg; have hnb8 := NB243_241.out; have hnc8 := NB241_243.out; have hcz9_0 := cz_ BK243 0; have hcz9_1 := cz_ BK243 1; have hcz9_2 := cz_ BK243 2; have hcz9_3 := cz_ BK243 3; have hcz9_4 := cz_ BK243 4; have hcz9_5 := cz_ BK243 5; have hcz9_6 := cz_ BK243 6; have hfz9_0 := fz_ BK243 0; have hfz9_1 := fz_ BK243 1; have hfz9_2 := fz_ BK243 2; have hfz9_3 := fz_ BK243 3; have hfz9_4 := fz_ BK243 4; have hfz9_5 := fz_ BK243 5; have hfz9_6 := fz_ BK243 6)))
     (try simp only [Act.put, List.setIfInBounds_toArray, List.set_cons_zero, List.set_cons_succ])
     go_cut [45] (fun v45 wc => ∃ (kq : Nat) (x45_4 : Bool), v45 = .bool x45_4 ∧ Aside0 (skiarearef10_runs.j1 kq x3_1 x45_4 l0_0 l0_1 l0_2 l0_3 ((rd_T44 l0_2 x3_1).f0) ((rd_T44 l0_2 x3_1).f1) ((rd_T44 l0_2 x3_1).f2) ((rd_T44 l0_2 x3_1).f3) ((rd_T44 l0_2 x3_1).f4) ((rd_T44 l0_2 x3_1).f5) ((rd_T44 l0_2 x3_1).f6) = some r) ∧ Aside0 (kq ≤ k1) ∧ Aside0 (wc.heap[gb241]? = some (.cells #[(.slice A0_0 l0_0.length c0_0), (.slice A0_1 l0_1.length c0_1), (.slice (some ad242) l0_2.length c0_2), (.slice A0_3 l0_3.length c0_3)] 38 (0, 0))) ∧ Aside0 (wc.heap[gb243]? = some (.cells #[.int .i64 ((rd_T44 l0_2 x3_1).f0), .int .i64 ((rd_T44 l0_2 x3_1).f1), .int .i64 ((rd_T44 l0_2 x3_1).f2), .int .i64 ((rd_T44 l0_2 x3_1).f3), .int .i64 ((rd_T44 l0_2 x3_1).f4), .int .i64 ((rd_T44 l0_2 x3_1).f5), .int .i64 ((rd_T44 l0_2 x3_1).f6)] 44 (0, 0))) ∧ Aside0 (Below w.heap.size w wc))
     case first =>
      have H := HC5.out
      clear HC5
      replace H := Option.bind_eq_some_iff.mp H
      obtain ⟨t244, A100, H⟩ := H
      replace H : (if t244 = true then ((skiarearef10_in.f ((rd_T44 l0_2 x3_1).f1) 1 8).bind fun t245 => (if t245 = true then ((skiarearef10_in.f ((rd_T44 l0_2 x3_1).f4) 1 4).bind fun t246 => (if t246 = true then ((skiarearef10_in.f ((rd_T44 l0_2 x3_1).f5) 1 32).bind fun t247 => (if t247 = true then ((skiarearef10_in.f ((rd_T44 l0_2 x3_1).f6) 10 20000).bind fun t248 => (skiarearef10_runs.j1 k1 x3_1 (!t248) l0_0 l0_1 l0_2 l0_3 ((rd_T44 l0_2 x3_1).f0) ((rd_T44 l0_2 x3_1).f1) ((rd_T44 l0_2 x3_1).f2) ((rd_T44 l0_2 x3_1).f3) ((rd_T44 l0_2 x3_1).f4) ((rd_T44 l0_2 x3_1).f5) ((rd_T44 l0_2 x3_1).f6))) else (skiarearef10_runs.j1 k1 x3_1 true l0_0 l0_1 l0_2 l0_3 ((rd_T44 l0_2 x3_1).f0) ((rd_T44 l0_2 x3_1).f1) ((rd_T44 l0_2 x3_1).f2) ((rd_T44 l0_2 x3_1).f3) ((rd_T44 l0_2 x3_1).f4) ((rd_T44 l0_2 x3_1).f5) ((rd_T44 l0_2 x3_1).f6)))) else (skiarearef10_runs.j1 k1 x3_1 true l0_0 l0_1 l0_2 l0_3 ((rd_T44 l0_2 x3_1).f0) ((rd_T44 l0_2 x3_1).f1) ((rd_T44 l0_2 x3_1).f2) ((rd_T44 l0_2 x3_1).f3) ((rd_T44 l0_2 x3_1).f4) ((rd_T44 l0_2 x3_1).f5) ((rd_T44 l0_2 x3_1).f6)))) else (skiarearef10_runs.j1 k1 x3_1 true l0_0 l0_1 l0_2 l0_3 ((rd_T44 l0_2 x3_1).f0) ((rd_T44 l0_2 x3_1).f1) ((rd_T44 l0_2 x3_1).f2) ((rd_T44 l0_2 x3_1).f3) ((rd_T44 l0_2 x3_1).f4) ((rd_T44 l0_2 x3_1).f5) ((rd_T44 l0_2 x3_1).f6)))) else (skiarearef10_runs.j1 k1 x3_1 true l0_0 l0_1 l0_2 l0_3 ((rd_T44 l0_2 x3_1).f0) ((rd_T44 l0_2 x3_1).f1) ((rd_T44 l0_2 x3_1).f2) ((rd_T44 l0_2 x3_1).f3) ((rd_T44 l0_2 x3_1).f4) ((rd_T44 l0_2 x3_1).f5) ((rd_T44 l0_2 x3_1).f6))) = some r := H
      have A10 := Aside0.mk A100
      clear A100
      by_cases c11 : t244 = true
      ·subst c11
       have H1 : ((skiarearef10_in.f ((rd_T44 l0_2 x3_1).f1) 1 8).bind fun t245 => (if t245 = true then ((skiarearef10_in.f ((rd_T44 l0_2 x3_1).f4) 1 4).bind fun t246 => (if t246 = true then ((skiarearef10_in.f ((rd_T44 l0_2 x3_1).f5) 1 32).bind fun t247 => (if t247 = true then ((skiarearef10_in.f ((rd_T44 l0_2 x3_1).f6) 10 20000).bind fun t248 => (skiarearef10_runs.j1 k1 x3_1 (!t248) l0_0 l0_1 l0_2 l0_3 ((rd_T44 l0_2 x3_1).f0) ((rd_T44 l0_2 x3_1).f1) ((rd_T44 l0_2 x3_1).f2) ((rd_T44 l0_2 x3_1).f3) ((rd_T44 l0_2 x3_1).f4) ((rd_T44 l0_2 x3_1).f5) ((rd_T44 l0_2 x3_1).f6))) else (skiarearef10_runs.j1 k1 x3_1 true l0_0 l0_1 l0_2 l0_3 ((rd_T44 l0_2 x3_1).f0) ((rd_T44 l0_2 x3_1).f1) ((rd_T44 l0_2 x3_1).f2) ((rd_T44 l0_2 x3_1).f3) ((rd_T44 l0_2 x3_1).f4) ((rd_T44 l0_2 x3_1).f5) ((rd_T44 l0_2 x3_1).f6)))) else (skiarearef10_runs.j1 k1 x3_1 true l0_0 l0_1 l0_2 l0_3 ((rd_T44 l0_2 x3_1).f0) ((rd_T44 l0_2 x3_1).f1) ((rd_T44 l0_2 x3_1).f2) ((rd_T44 l0_2 x3_1).f3) ((rd_T44 l0_2 x3_1).f4) ((rd_T44 l0_2 x3_1).f5) ((rd_T44 l0_2 x3_1).f6)))) else (skiarearef10_runs.j1 k1 x3_1 true l0_0 l0_1 l0_2 l0_3 ((rd_T44 l0_2 x3_1).f0) ((rd_T44 l0_2 x3_1).f1) ((rd_T44 l0_2 x3_1).f2) ((rd_T44 l0_2 x3_1).f3) ((rd_T44 l0_2 x3_1).f4) ((rd_T44 l0_2 x3_1).f5) ((rd_T44 l0_2 x3_1).f6)))) = some r := by rw [if_pos rfl] at H; exact H
       clear H
       have H := H1
       clear H1
       replace H := Option.bind_eq_some_iff.mp H
       obtain ⟨t245, A120, H⟩ := H
       replace H : (if t245 = true then ((skiarearef10_in.f ((rd_T44 l0_2 x3_1).f4) 1 4).bind fun t246 => (if t246 = true then ((skiarearef10_in.f ((rd_T44 l0_2 x3_1).f5) 1 32).bind fun t247 => (if t247 = true then ((skiarearef10_in.f ((rd_T44 l0_2 x3_1).f6) 10 20000).bind fun t248 => (skiarearef10_runs.j1 k1 x3_1 (!t248) l0_0 l0_1 l0_2 l0_3 ((rd_T44 l0_2 x3_1).f0) ((rd_T44 l0_2 x3_1).f1) ((rd_T44 l0_2 x3_1).f2) ((rd_T44 l0_2 x3_1).f3) ((rd_T44 l0_2 x3_1).f4) ((rd_T44 l0_2 x3_1).f5) ((rd_T44 l0_2 x3_1).f6))) else (skiarearef10_runs.j1 k1 x3_1 true l0_0 l0_1 l0_2 l0_3 ((rd_T44 l0_2 x3_1).f0) ((rd_T44 l0_2 x3_1).f1) ((rd_T44 l0_2 x3_1).f2) ((rd_T44 l0_2 x3_1).f3) ((rd_T44 l0_2 x3_1).f4) ((rd_T44 l0_2 x3_1).f5) ((rd_T44 l0_2 x3_1).f6)))) else (skiarearef10_runs.j1 k1 x3_1 true l0_0 l0_1 l0_2 l0_3 ((rd_T44 l0_2 x3_1).f0) ((rd_T44 l0_2 x3_1).f1) ((rd_T44 l0_2 x3_1).f2) ((rd_T44 l0_2 x3_1).f3) ((rd_T44 l0_2 x3_1).f4) ((rd_T44 l0_2 x3_1).f5) ((rd_T44 l0_2 x3_1).f6)))) else (skiarearef10_runs.j1 k1 x3_1 true l0_0 l0_1 l0_2 l0_3 ((rd_T44 l0_2 x3_1).f0) ((rd_T44 l0_2 x3_1).f1) ((rd_T44 l0_2 x3_1).f2) ((rd_T44 l0_2 x3_1).f3) ((rd_T44 l0_2 x3_1).f4) ((rd_T44 l0_2 x3_1).f5) ((rd_T44 l0_2 x3_1).f6))) = some r := H
       have A12 := Aside0.mk A120
       clear A120
       by_cases c13 : t245 = true
       ·subst c13
        have H1 : ((skiarearef10_in.f ((rd_T44 l0_2 x3_1).f4) 1 4).bind fun t246 => (if t246 = true then ((skiarearef10_in.f ((rd_T44 l0_2 x3_1).f5) 1 32).bind fun t247 => (if t247 = true then ((skiarearef10_in.f ((rd_T44 l0_2 x3_1).f6) 10 20000).bind fun t248 => (skiarearef10_runs.j1 k1 x3_1 (!t248) l0_0 l0_1 l0_2 l0_3 ((rd_T44 l0_2 x3_1).f0) ((rd_T44 l0_2 x3_1).f1) ((rd_T44 l0_2 x3_1).f2) ((rd_T44 l0_2 x3_1).f3) ((rd_T44 l0_2 x3_1).f4) ((rd_T44 l0_2 x3_1).f5) ((rd_T44 l0_2 x3_1).f6))) else (skiarearef10_runs.j1 k1 x3_1 true l0_0 l0_1 l0_2 l0_3 ((rd_T44 l0_2 x3_1).f0) ((rd_T44 l0_2 x3_1).f1) ((rd_T44 l0_2 x3_1).f2) ((rd_T44 l0_2 x3_1).f3) ((rd_T44 l0_2 x3_1).f4) ((rd_T44 l0_2 x3_1).f5) ((rd_T44 l0_2 x3_1).f6)))) else (skiarearef10_runs.j1 k1 x3_1 true l0_0 l0_1 l0_2 l0_3 ((rd_T44 l0_2 x3_1).f0) ((rd_T44 l0_2 x3_1).f1) ((rd_T44 l0_2 x3_1).f2) ((rd_T44 l0_2 x3_1).f3) ((rd_T44 l0_2 x3_1).f4) ((rd_T44 l0_2 x3_1).f5) ((rd_T44 l0_2 x3_1).f6)))) = some r := by rw [if_pos rfl] at H; exact H
        clear H
        have H := H1
        clear H1
        replace H := Option.bind_eq_some_iff.mp H
        obtain ⟨t246, A140, H⟩ := H
        replace H : (if t246 = true then ((skiarearef10_in.f ((rd_T44 l0_2 x3_1).f5) 1 32).bind fun t247 => (if t247 = true then ((skiarearef10_in.f ((rd_T44 l0_2 x3_1).f6) 10 20000).bind fun t248 => (skiarearef10_runs.j1 k1 x3_1 (!t248) l0_0 l0_1 l0_2 l0_3 ((rd_T44 l0_2 x3_1).f0) ((rd_T44 l0_2 x3_1).f1) ((rd_T44 l0_2 x3_1).f2) ((rd_T44 l0_2 x3_1).f3) ((rd_T44 l0_2 x3_1).f4) ((rd_T44 l0_2 x3_1).f5) ((rd_T44 l0_2 x3_1).f6))) else (skiarearef10_runs.j1 k1 x3_1 true l0_0 l0_1 l0_2 l0_3 ((rd_T44 l0_2 x3_1).f0) ((rd_T44 l0_2 x3_1).f1) ((rd_T44 l0_2 x3_1).f2) ((rd_T44 l0_2 x3_1).f3) ((rd_T44 l0_2 x3_1).f4) ((rd_T44 l0_2 x3_1).f5) ((rd_T44 l0_2 x3_1).f6)))) else (skiarearef10_runs.j1 k1 x3_1 true l0_0 l0_1 l0_2 l0_3 ((rd_T44 l0_2 x3_1).f0) ((rd_T44 l0_2 x3_1).f1) ((rd_T44 l0_2 x3_1).f2) ((rd_T44 l0_2 x3_1).f3) ((rd_T44 l0_2 x3_1).f4) ((rd_T44 l0_2 x3_1).f5) ((rd_T44 l0_2 x3_1).f6))) = some r := H
        have A14 := Aside0.mk A140
        clear A140
        by_cases c15 : t246 = true
        ·subst c15
         have H1 : ((skiarearef10_in.f ((rd_T44 l0_2 x3_1).f5) 1 32).bind fun t247 => (if t247 = true then ((skiarearef10_in.f ((rd_T44 l0_2 x3_1).f6) 10 20000).bind fun t248 => (skiarearef10_runs.j1 k1 x3_1 (!t248) l0_0 l0_1 l0_2 l0_3 ((rd_T44 l0_2 x3_1).f0) ((rd_T44 l0_2 x3_1).f1) ((rd_T44 l0_2 x3_1).f2) ((rd_T44 l0_2 x3_1).f3) ((rd_T44 l0_2 x3_1).f4) ((rd_T44 l0_2 x3_1).f5) ((rd_T44 l0_2 x3_1).f6))) else (skiarearef10_runs.j1 k1 x3_1 true l0_0 l0_1 l0_2 l0_3 ((rd_T44 l0_2 x3_1).f0) ((rd_T44 l0_2 x3_1).f1) ((rd_T44 l0_2 x3_1).f2) ((rd_T44 l0_2 x3_1).f3) ((rd_T44 l0_2 x3_1).f4) ((rd_T44 l0_2 x3_1).f5) ((rd_T44 l0_2 x3_1).f6)))) = some r := by rw [if_pos rfl] at H; exact H
         clear H
         have H := H1
         clear H1
         replace H := Option.bind_eq_some_iff.mp H
         obtain ⟨t247, A160, H⟩ := H
         replace H : (if t247 = true then ((skiarearef10_in.f ((rd_T44 l0_2 x3_1).f6) 10 20000).bind fun t248 => (skiarearef10_runs.j1 k1 x3_1 (!t248) l0_0 l0_1 l0_2 l0_3 ((rd_T44 l0_2 x3_1).f0) ((rd_T44 l0_2 x3_1).f1) ((rd_T44 l0_2 x3_1).f2) ((rd_T44 l0_2 x3_1).f3) ((rd_T44 l0_2 x3_1).f4) ((rd_T44 l0_2 x3_1).f5) ((rd_T44 l0_2 x3_1).f6))) else (skiarearef10_runs.j1 k1 x3_1 true l0_0 l0_1 l0_2 l0_3 ((rd_T44 l0_2 x3_1).f0) ((rd_T44 l0_2 x3_1).f1) ((rd_T44 l0_2 x3_1).f2) ((rd_T44 l0_2 x3_1).f3) ((rd_T44 l0_2 x3_1).f4) ((rd_T44 l0_2 x3_1).f5) ((rd_T44 l0_2 x3_1).f6))) = some r := H
         have A16 := Aside0.mk A160
         clear A160
         by_cases c17 : t247 = true
         ·subst c17
          have H1 : ((skiarearef10_in.f ((rd_T44 l0_2 x3_1).f6) 10 20000).bind fun t248 => (skiarearef10_runs.j1 k1 x3_1 (!t248) l0_0 l0_1 l0_2 l0_3 ((rd_T44 l0_2 x3_1).f0) ((rd_T44 l0_2 x3_1).f1) ((rd_T44 l0_2 x3_1).f2) ((rd_T44 l0_2 x3_1).f3) ((rd_T44 l0_2 x3_1).f4) ((rd_T44 l0_2 x3_1).f5) ((rd_T44 l0_2 x3_1).f6))) = some r := by rw [if_pos rfl] at H; exact H
          clear H
          have H := H1
          clear H1
          replace H := Option.bind_eq_some_iff.mp H
          obtain ⟨t248, A180, H⟩ := H
          replace H : (skiarearef10_runs.j1 k1 x3_1 (!t248) l0_0 l0_1 l0_2 l0_3 ((rd_T44 l0_2 x3_1).f0) ((rd_T44 l0_2 x3_1).f1) ((rd_T44 l0_2 x3_1).f2) ((rd_T44 l0_2 x3_1).f3) ((rd_T44 l0_2 x3_1).f4) ((rd_T44 l0_2 x3_1).f5) ((rd_T44 l0_2 x3_1).f6)) = some r := H
          have A18 := Aside0.mk A180
          clear A180
          have H' := Aside0.mk H
          clear H
          have hnb19 := NB243_241.out
          have hnc19 := NB241_243.out
          have hcz20_0 := cz_ BK243 0
          have hcz20_1 := cz_ BK243 1
          have hcz20_2 := cz_ BK243 2
          have hcz20_3 := cz_ BK243 3
          have hcz20_4 := cz_ BK243 4
          have hcz20_5 := cz_ BK243 5
          have hcz20_6 := cz_ BK243 6
          have hfz20_0 := fz_ BK243 0
          have hfz20_1 := fz_ BK243 1
          have hfz20_2 := fz_ BK243 2
          have hfz20_3 := fz_ BK243 3
          have hfz20_4 := fz_ BK243 4
          have hfz20_5 := fz_ BK243 5
          have hfz20_6 := fz_ BK243 6
          go_wp2_with (first | (go_at_call 56; (with_reducible refine (skiarearef10_in.calls ((rd_T44 l0_2 x3_1).f0) 1 9999 true _ A10.out).mono ?_); rintro e w' ⟨rfl, ⟨nd, rfl⟩⟩; (try first | exact ⟨rfl, _, World.drewN_drewN _ _ _⟩ | exact ⟨rfl, _, Eq.trans (World.drewN_drewN _ _ _) (congrArg (World.drewN _) (Nat.add_assoc _ _ _))⟩)) | (go_at_call 56; (with_reducible refine (skiarearef10_in.calls ((rd_T44 l0_2 x3_1).f1) 1 8 true _ A12.out).mono ?_); rintro e w' ⟨rfl, ⟨nd, rfl⟩⟩; (try first | exact ⟨rfl, _, World.drewN_drewN _ _ _⟩ | exact ⟨rfl, _, Eq.trans (World.drewN_drewN _ _ _) (congrArg (World.drewN _) (Nat.add_assoc _ _ _))⟩)) | (go_at_call 56; (with_reducible refine (skiarearef10_in.calls ((rd_T44 l0_2 x3_1).f4) 1 4 true _ A14.out).mono ?_); rintro e w' ⟨rfl, ⟨nd, rfl⟩⟩; (try first | exact ⟨rfl, _, World.drewN_drewN _ _ _⟩ | exact ⟨rfl, _, Eq.trans (World.drewN_drewN _ _ _) (congrArg (World.drewN _) (Nat.add_assoc _ _ _))⟩)) | (go_at_call 56; (with_reducible refine (skiarearef10_in.calls ((rd_T44 l0_2 x3_1).f5) 1 32 true _ A16.out).mono ?_); rintro e w' ⟨rfl, ⟨nd, rfl⟩⟩; (try first | exact ⟨rfl, _, World.drewN_drewN _ _ _⟩ | exact ⟨rfl, _, Eq.trans (World.drewN_drewN _ _ _) (congrArg (World.drewN _) (Nat.add_assoc _ _ _))⟩)) | (go_at_call 56; (with_reducible refine (skiarearef10_in.calls ((rd_T44 l0_2 x3_1).f6) 10 20000 t248 _ A18.out).mono ?_); rintro e w' ⟨rfl, ⟨nd, rfl⟩⟩; (try first | exact ⟨rfl, _, World.drewN_drewN _ _ _⟩ | exact ⟨rfl, _, Eq.trans (World.drewN_drewN _ _ _) (congrArg (World.drewN _) (Nat.add_assoc _ _ _))⟩)))
          repeat (go_quiet (fail); try go_wp2_with (first | (go_at_call 56; (with_reducible refine (skiarearef10_in.calls ((rd_T44 l0_2 x3_1).f0) 1 9999 true _ A10.out).mono ?_); rintro e w' ⟨rfl, ⟨nd, rfl⟩⟩; (try first | exact ⟨rfl, _, World.drewN_drewN _ _ _⟩ | exact ⟨rfl, _, Eq.trans (World.drewN_drewN _ _ _) (congrArg (World.drewN _) (Nat.add_assoc _ _ _))⟩)) | (go_at_call 56; (with_reducible refine (skiarearef10_in.calls ((rd_T44 l0_2 x3_1).f1) 1 8 true _ A12.out).mono ?_); rintro e w' ⟨rfl, ⟨nd, rfl⟩⟩; (try first | exact ⟨rfl, _, World.drewN_drewN _ _ _⟩ | exact ⟨rfl, _, Eq.trans (World.drewN_drewN _ _ _) (congrArg (World.drewN _) (Nat.add_assoc _ _ _))⟩)) | (go_at_call 56; (with_reducible refine (skiarearef10_in.calls ((rd_T44 l0_2 x3_1).f4) 1 4 true _ A14.out).mono ?_); rintro e w' ⟨rfl, ⟨nd, rfl⟩⟩; (try first | exact ⟨rfl, _, World.drewN_drewN _ _ _⟩ | exact ⟨rfl, _, Eq.trans (World.drewN_drewN _ _ _) (congrArg (World.drewN _) (Nat.add_assoc _ _ _))⟩)) | (go_at_call 56; (with_reducible refine (skiarearef10_in.calls ((rd_T44 l0_2 x3_1).f5) 1 32 true _ A16.out).mono ?_); rintro e w' ⟨rfl, ⟨nd, rfl⟩⟩; (try first | exact ⟨rfl, _, World.drewN_drewN _ _ _⟩ | exact ⟨rfl, _, Eq.trans (World.drewN_drewN _ _ _) (congrArg (World.drewN _) (Nat.add_assoc _ _ _))⟩)) | (go_at_call 56; (with_reducible refine (skiarearef10_in.calls ((rd_T44 l0_2 x3_1).f6) 10 20000 t248 _ A18.out).mono ?_); rintro e w' ⟨rfl, ⟨nd, rfl⟩⟩; (try first | exact ⟨rfl, _, World.drewN_drewN _ _ _⟩ | exact ⟨rfl, _, Eq.trans (World.drewN_drewN _ _ _) (congrArg (World.drewN _) (Nat.add_assoc _ _ _))⟩))))
          go_meet
          case rel => exact ⟨_, (!t248), (by first | rfl | (simp; done) | (simp [*]; done)), H', ⟨by have := HK1.out; first | omega | exact Nat.le_refl _⟩, ⟨by (with_reducible repeat (first | refine blk_drewN ?_ _ | refine blk_drew ?_ | refine blk_alloc ?_ _)); refine blk_far ?_ NB241_243.out _; (with_reducible repeat (first | refine blk_drewN ?_ _ | refine blk_drew ?_ | refine blk_alloc ?_ _)); refine blk_far ?_ NB241_243.out _; (with_reducible repeat (first | refine blk_drewN ?_ _ | refine blk_drew ?_ | refine blk_alloc ?_ _)); refine blk_far ?_ NB241_243.out _; (with_reducible repeat (first | refine blk_drewN ?_ _ | refine blk_drew ?_ | refine blk_alloc ?_ _)); refine blk_far ?_ NB241_243.out _; (with_reducible repeat (first | refine blk_drewN ?_ _ | refine blk_drew ?_ | refine blk_alloc ?_ _)); refine blk_far ?_ NB241_243.out _; (with_reducible repeat (first | refine blk_drewN ?_ _ | refine blk_drew ?_ | refine blk_alloc ?_ _)); refine blk_far ?_ NB241_243.out _; (with_reducible repeat (first | refine blk_drewN ?_ _ | refine blk_drew ?_ | refine blk_alloc ?_ _)); refine blk_far ?_ NB241_243.out _; (with_reducible repeat (first | refine blk_drewN ?_ _ | refine blk_drew ?_ | refine blk_alloc ?_ _)); exact BK241.out⟩, ⟨by (with_reducible repeat (first | refine blk_drewN ?_ _ | refine blk_drew ?_ | refine blk_alloc ?_ _)); refine blk_put (cs := #[.int .i64 ((rd_T44 l0_2 x3_1).f0), .int .i64 ((rd_T44 l0_2 x3_1).f1), .int .i64 ((rd_T44 l0_2 x3_1).f2), .int .i64 ((rd_T44 l0_2 x3_1).f3), .int .i64 ((rd_T44 l0_2 x3_1).f4), .int .i64 ((rd_T44 l0_2 x3_1).f5), .int .i64 0]) ?_ 6 _ rfl; (with_reducible repeat (first | refine blk_drewN ?_ _ | refine blk_drew ?_ | refine blk_alloc ?_ _)); refine blk_put (cs := #[.int .i64 ((rd_T44 l0_2 x3_1).f0), .int .i64 ((rd_T44 l0_2 x3_1).f1), .int .i64 ((rd_T44 l0_2 x3_1).f2), .int .i64 ((rd_T44 l0_2 x3_1).f3), .int .i64 ((rd_T44 l0_2 x3_1).f4), .int .i64 0, .int .i64 0]) ?_ 5 _ rfl; (with_reducible repeat (first | refine blk_drewN ?_ _ | refine blk_drew ?_ | refine blk_alloc ?_ _)); refine blk_put (cs := #[.int .i64 ((rd_T44 l0_2 x3_1).f0), .int .i64 ((rd_T44 l0_2 x3_1).f1), .int .i64 ((rd_T44 l0_2 x3_1).f2), .int .i64 ((rd_T44 l0_2 x3_1).f3), .int .i64 0, .int .i64 0, .int .i64 0]) ?_ 4 _ rfl; (with_reducible repeat (first | refine blk_drewN ?_ _ | refine blk_drew ?_ | refine blk_alloc ?_ _)); refine blk_put (cs := #[.int .i64 ((rd_T44 l0_2 x3_1).f0), .int .i64 ((rd_T44 l0_2 x3_1).f1), .int .i64 ((rd_T44 l0_2 x3_1).f2), .int .i64 0, .int .i64 0, .int .i64 0, .int .i64 0]) ?_ 3 _ rfl; (with_reducible repeat (first | refine blk_drewN ?_ _ | refine blk_drew ?_ | refine blk_alloc ?_ _)); refine blk_put (cs := #[.int .i64 ((rd_T44 l0_2 x3_1).f0), .int .i64 ((rd_T44 l0_2 x3_1).f1), .int .i64 0, .int .i64 0, .int .i64 0, .int .i64 0, .int .i64 0]) ?_ 2 _ rfl; (with_reducible repeat (first | refine blk_drewN ?_ _ | refine blk_drew ?_ | refine blk_alloc ?_ _)); refine blk_put (cs := #[.int .i64 ((rd_T44 l0_2 x3_1).f0), .int .i64 0, .int .i64 0, .int .i64 0, .int .i64 0, .int .i64 0, .int .i64 0]) ?_ 1 _ rfl; (with_reducible repeat (first | refine blk_drewN ?_ _ | refine blk_drew ?_ | refine blk_alloc ?_ _)); refine blk_put (cs := #[.int .i64 0, .int .i64 0, .int .i64 0, .int .i64 0, .int .i64 0, .int .i64 0, .int .i64 0]) ?_ 0 _ rfl; (with_reducible repeat (first | refine blk_drewN ?_ _ | refine blk_drew ?_ | refine blk_alloc ?_ _)); exact BK243.out⟩, ⟨by repeat (first | (with_reducible first | exact HB.out | apply below_alloc | apply pw_below_drewN | apply below_drew1 | refine below_set ?_ GE241.out | refine below_set ?_ GE243.out) | exact HB.out)⟩⟩
         ·replace c17 := Bool.eq_false_iff.mpr c17
          subst c17
          have H1 : (skiarearef10_runs.j1 k1 x3_1 true l0_0 l0_1 l0_2 l0_3 ((rd_T44 l0_2 x3_1).f0) ((rd_T44 l0_2 x3_1).f1) ((rd_T44 l0_2 x3_1).f2) ((rd_T44 l0_2 x3_1).f3) ((rd_T44 l0_2 x3_1).f4) ((rd_T44 l0_2 x3_1).f5) ((rd_T44 l0_2 x3_1).f6)) = some r := by rw [if_neg (show ¬ (false = true) by decide)] at H; exact H
          clear H
          have H := H1
          clear H1
          have H' := Aside0.mk H
          clear H
          have hnb21 := NB243_241.out
          have hnc21 := NB241_243.out
          have hcz22_0 := cz_ BK243 0
          have hcz22_1 := cz_ BK243 1
          have hcz22_2 := cz_ BK243 2
          have hcz22_3 := cz_ BK243 3
          have hcz22_4 := cz_ BK243 4
          have hcz22_5 := cz_ BK243 5
          have hcz22_6 := cz_ BK243 6
          have hfz22_0 := fz_ BK243 0
          have hfz22_1 := fz_ BK243 1
          have hfz22_2 := fz_ BK243 2
          have hfz22_3 := fz_ BK243 3
          have hfz22_4 := fz_ BK243 4
          have hfz22_5 := fz_ BK243 5
          have hfz22_6 := fz_ BK243 6
          go_wp2_with (first | (go_at_call 56; (with_reducible refine (skiarearef10_in.calls ((rd_T44 l0_2 x3_1).f0) 1 9999 true _ A10.out).mono ?_); rintro e w' ⟨rfl, ⟨nd, rfl⟩⟩; (try first | exact ⟨rfl, _, World.drewN_drewN _ _ _⟩ | exact ⟨rfl, _, Eq.trans (World.drewN_drewN _ _ _) (congrArg (World.drewN _) (Nat.add_assoc _ _ _))⟩)) | (go_at_call 56; (with_reducible refine (skiarearef10_in.calls ((rd_T44 l0_2 x3_1).f1) 1 8 true _ A12.out).mono ?_); rintro e w' ⟨rfl, ⟨nd, rfl⟩⟩; (try first | exact ⟨rfl, _, World.drewN_drewN _ _ _⟩ | exact ⟨rfl, _, Eq.trans (World.drewN_drewN _ _ _) (congrArg (World.drewN _) (Nat.add_assoc _ _ _))⟩)) | (go_at_call 56; (with_reducible refine (skiarearef10_in.calls ((rd_T44 l0_2 x3_1).f4) 1 4 true _ A14.out).mono ?_); rintro e w' ⟨rfl, ⟨nd, rfl⟩⟩; (try first | exact ⟨rfl, _, World.drewN_drewN _ _ _⟩ | exact ⟨rfl, _, Eq.trans (World.drewN_drewN _ _ _) (congrArg (World.drewN _) (Nat.add_assoc _ _ _))⟩)) | (go_at_call 56; (with_reducible refine (skiarearef10_in.calls ((rd_T44 l0_2 x3_1).f5) 1 32 false _ A16.out).mono ?_); rintro e w' ⟨rfl, ⟨nd, rfl⟩⟩; (try first | exact ⟨rfl, _, World.drewN_drewN _ _ _⟩ | exact ⟨rfl, _, Eq.trans (World.drewN_drewN _ _ _) (congrArg (World.drewN _) (Nat.add_assoc _ _ _))⟩)))
          repeat (go_quiet (fail); try go_wp2_with (first | (go_at_call 56; (with_reducible refine (skiarearef10_in.calls ((rd_T44 l0_2 x3_1).f0) 1 9999 true _ A10.out).mono ?_); rintro e w' ⟨rfl, ⟨nd, rfl⟩⟩; (try first | exact ⟨rfl, _, World.drewN_drewN _ _ _⟩ | exact ⟨rfl, _, Eq.trans (World.drewN_drewN _ _ _) (congrArg (World.drewN _) (Nat.add_assoc _ _ _))⟩)) | (go_at_call 56; (with_reducible refine (skiarearef10_in.calls ((rd_T44 l0_2 x3_1).f1) 1 8 true _ A12.out).mono ?_); rintro e w' ⟨rfl, ⟨nd, rfl⟩⟩; (try first | exact ⟨rfl, _, World.drewN_drewN _ _ _⟩ | exact ⟨rfl, _, Eq.trans (World.drewN_drewN _ _ _) (congrArg (World.drewN _) (Nat.add_assoc _ _ _))⟩)) | (go_at_call 56; (with_reducible refine (skiarearef10_in.calls ((rd_T44 l0_2 x3_1).f4) 1 4 true _ A14.out).mono ?_); rintro e w' ⟨rfl, ⟨nd, rfl⟩⟩; (try first | exact ⟨rfl, _, World.drewN_drewN _ _ _⟩ | exact ⟨rfl, _, Eq.trans (World.drewN_drewN _ _ _) (congrArg (World.drewN _) (Nat.add_assoc _ _ _))⟩)) | (go_at_call 56; (with_reducible refine (skiarearef10_in.calls ((rd_T44 l0_2 x3_1).f5) 1 32 false _ A16.out).mono ?_); rintro e w' ⟨rfl, ⟨nd, rfl⟩⟩; (try first | exact ⟨rfl, _, World.drewN_drewN _ _ _⟩ | exact ⟨rfl, _, Eq.trans (World.drewN_drewN _ _ _) (congrArg (World.drewN _) (Nat.add_assoc _ _ _))⟩))))
          go_meet
          case rel => exact ⟨_, (true), (by first | rfl | (simp; done) | (simp [*]; done)), H', ⟨by have := HK1.out; first | omega | exact Nat.le_refl _⟩, ⟨by (with_reducible repeat (first | refine blk_drewN ?_ _ | refine blk_drew ?_ | refine blk_alloc ?_ _)); refine blk_far ?_ NB241_243.out _; (with_reducible repeat (first | refine blk_drewN ?_ _ | refine blk_drew ?_ | refine blk_alloc ?_ _)); refine blk_far ?_ NB241_243.out _; (with_reducible repeat (first | refine blk_drewN ?_ _ | refine blk_drew ?_ | refine blk_alloc ?_ _)); refine blk_far ?_ NB241_243.out _; (with_reducible repeat (first | refine blk_drewN ?_ _ | refine blk_drew ?_ | refine blk_alloc ?_ _)); refine blk_far ?_ NB241_243.out _; (with_reducible repeat (first | refine blk_drewN ?_ _ | refine blk_drew ?_ | refine blk_alloc ?_ _)); refine blk_far ?_ NB241_243.out _; (with_reducible repeat (first | refine blk_drewN ?_ _ | refine blk_drew ?_ | refine blk_alloc ?_ _)); refine blk_far ?_ NB241_243.out _; (with_reducible repeat (first | refine blk_drewN ?_ _ | refine blk_drew ?_ | refine blk_alloc ?_ _)); refine blk_far ?_ NB241_243.out _; (with_reducible repeat (first | refine blk_drewN ?_ _ | refine blk_drew ?_ | refine blk_alloc ?_ _)); exact BK241.out⟩, ⟨by (with_reducible repeat (first | refine blk_drewN ?_ _ | refine blk_drew ?_ | refine blk_alloc ?_ _)); refine blk_put (cs := #[.int .i64 ((rd_T44 l0_2 x3_1).f0), .int .i64 ((rd_T44 l0_2 x3_1).f1), .int .i64 ((rd_T44 l0_2 x3_1).f2), .int .i64 ((rd_T44 l0_2 x3_1).f3), .int .i64 ((rd_T44 l0_2 x3_1).f4), .int .i64 ((rd_T44 l0_2 x3_1).f5), .int .i64 0]) ?_ 6 _ rfl; (with_reducible repeat (first | refine blk_drewN ?_ _ | refine blk_drew ?_ | refine blk_alloc ?_ _)); refine blk_put (cs := #[.int .i64 ((rd_T44 l0_2 x3_1).f0), .int .i64 ((rd_T44 l0_2 x3_1).f1), .int .i64 ((rd_T44 l0_2 x3_1).f2), .int .i64 ((rd_T44 l0_2 x3_1).f3), .int .i64 ((rd_T44 l0_2 x3_1).f4), .int .i64 0, .int .i64 0]) ?_ 5 _ rfl; (with_reducible repeat (first | refine blk_drewN ?_ _ | refine blk_drew ?_ | refine blk_alloc ?_ _)); refine blk_put (cs := #[.int .i64 ((rd_T44 l0_2 x3_1).f0), .int .i64 ((rd_T44 l0_2 x3_1).f1), .int .i64 ((rd_T44 l0_2 x3_1).f2), .int .i64 ((rd_T44 l0_2 x3_1).f3), .int .i64 0, .int .i64 0, .int .i64 0]) ?_ 4 _ rfl; (with_reducible repeat (first | refine blk_drewN ?_ _ | refine blk_drew ?_ | refine blk_alloc ?_ _)); refine blk_put (cs := #[.int .i64 ((rd_T44 l0_2 x3_1).f0), .int .i64 ((rd_T44 l0_2 x3_1).f1), .int .i64 ((rd_T44 l0_2 x3_1).f2), .int .i64 0, .int .i64 0, .int .i64 0, .int .i64 0]) ?_ 3 _ rfl; (with_reducible repeat (first | refine blk_drewN ?_ _ | refine blk_drew ?_ | refine blk_alloc ?_ _)); refine blk_put (cs := #[.int .i64 ((rd_T44 l0_2 x3_1).f0), .int .i64 ((rd_T44 l0_2 x3_1).f1), .int .i64 0, .int .i64 0, .int .i64 0, .int .i64 0, .int .i64 0]) ?_ 2 _ rfl; (with_reducible repeat (first | refine blk_drewN ?_ _ | refine blk_drew ?_ | refine blk_alloc ?_ _)); refine blk_put (cs := #[.int .i64 ((rd_T44 l0_2 x3_1).f0), .int .i64 0, .int .i64 0, .int .i64 0, .int .i64 0, .int .i64 0, .int .i64 0]) ?_ 1 _ rfl; (with_reducible repeat (first | refine blk_drewN ?_ _ | refine blk_drew ?_ | refine blk_alloc ?_ _)); refine blk_put (cs := #[.int .i64 0, .int .i64 0, .int .i64 0, .int .i64 0, .int .i64 0, .int .i64 0, .int .i64 0]) ?_ 0 _ rfl; (with_reducible repeat (first | refine blk_drewN ?_ _ | refine blk_drew ?_ | refine blk_alloc ?_ _)); exact BK243.out⟩, ⟨by repeat (first | (with_reducible first | exact HB.out | apply below_alloc | apply pw_below_drewN | apply below_drew1 | refine below_set ?_ GE241.out | refine below_set ?_ GE243.out) | exact HB.out)⟩⟩
        ·replace c15 := Bool.eq_false_iff.mpr c15
         subst c15
         have H1 : (skiarearef10_runs.j1 k1 x3_1 true l0_0 l0_1 l0_2 l0_3 ((rd_T44 l0_2 x3_1).f0) ((rd_T44 l0_2 x3_1).f1) ((rd_T44 l0_2 x3_1).f2) ((rd_T44 l0_2 x3_1).f3) ((rd_T44 l0_2 x3_1).f4) ((rd_T44 l0_2 x3_1).f5) ((rd_T44 l0_2 x3_1).f6)) = some r := by rw [if_neg (show ¬ (false = true) by decide)] at H; exact H
         clear H
         have H := H1
         clear H1
         have H' := Aside0.mk H
         clear H
         have hnb23 := NB243_241.out
         have hnc23 := NB241_243.out
         have hcz24_0 := cz_ BK243 0
         have hcz24_1 := cz_ BK243 1
         have hcz24_2 := cz_ BK243 2
         have hcz24_3 := cz_ BK243 3
         have hcz24_4 := cz_ BK243 4
         have hcz24_5 := cz_ BK243 5
         have hcz24_6 := cz_ BK243 6
         have hfz24_0 := fz_ BK243 0
         have hfz24_1 := fz_ BK243 1
         have hfz24_2 := fz_ BK243 2
         have hfz24_3 := fz_ BK243 3
         have hfz24_4 := fz_ BK243 4
         have hfz24_5 := fz_ BK243 5
         have hfz24_6 := fz_ BK243 6
         go_wp2_with (first | (go_at_call 56; (with_reducible refine (skiarearef10_in.calls ((rd_T44 l0_2 x3_1).f0) 1 9999 true _ A10.out).mono ?_); rintro e w' ⟨rfl, ⟨nd, rfl⟩⟩; (try first | exact ⟨rfl, _, World.drewN_drewN _ _ _⟩ | exact ⟨rfl, _, Eq.trans (World.drewN_drewN _ _ _) (congrArg (World.drewN _) (Nat.add_assoc _ _ _))⟩)) | (go_at_call 56; (with_reducible refine (skiarearef10_in.calls ((rd_T44 l0_2 x3_1).f1) 1 8 true _ A12.out).mono ?_); rintro e w' ⟨rfl, ⟨nd, rfl⟩⟩; (try first | exact ⟨rfl, _, World.drewN_drewN _ _ _⟩ | exact ⟨rfl, _, Eq.trans (World.drewN_drewN _ _ _) (congrArg (World.drewN _) (Nat.add_assoc _ _ _))⟩)) | (go_at_call 56; (with_reducible refine (skiarearef10_in.calls ((rd_T44 l0_2 x3_1).f4) 1 4 false _ A14.out).mono ?_); rintro e w' ⟨rfl, ⟨nd, rfl⟩⟩; (try first | exact ⟨rfl, _, World.drewN_drewN _ _ _⟩ | exact ⟨rfl, _, Eq.trans (World.drewN_drewN _ _ _) (congrArg (World.drewN _) (Nat.add_assoc _ _ _))⟩)))
         repeat (go_quiet (fail); try go_wp2_with (first | (go_at_call 56; (with_reducible refine (skiarearef10_in.calls ((rd_T44 l0_2 x3_1).f0) 1 9999 true _ A10.out).mono ?_); rintro e w' ⟨rfl, ⟨nd, rfl⟩⟩; (try first | exact ⟨rfl, _, World.drewN_drewN _ _ _⟩ | exact ⟨rfl, _, Eq.trans (World.drewN_drewN _ _ _) (congrArg (World.drewN _) (Nat.add_assoc _ _ _))⟩)) | (go_at_call 56; (with_reducible refine (skiarearef10_in.calls ((rd_T44 l0_2 x3_1).f1) 1 8 true _ A12.out).mono ?_); rintro e w' ⟨rfl, ⟨nd, rfl⟩⟩; (try first | exact ⟨rfl, _, World.drewN_drewN _ _ _⟩ | exact ⟨rfl, _, Eq.trans (World.drewN_drewN _ _ _) (congrArg (World.drewN _) (Nat.add_assoc _ _ _))⟩)) | (go_at_call 56; (with_reducible refine (skiarearef10_in.calls ((rd_T44 l0_2 x3_1).f4) 1 4 false _ A14.out).mono ?_); rintro e w' ⟨rfl, ⟨nd, rfl⟩⟩; (try first | exact ⟨rfl, _, World.drewN_drewN _ _ _⟩ | exact ⟨rfl, _, Eq.trans (World.drewN_drewN _ _ _) (congrArg (World.drewN _) (Nat.add_assoc _ _ _))⟩))))
         go_meet
         case rel => exact ⟨_, (true), (by first | rfl | (simp; done) | (simp [*]; done)), H', ⟨by have := HK1.out; first | omega | exact Nat.le_refl _⟩, ⟨by (with_reducible repeat (first | refine blk_drewN ?_ _ | refine blk_drew ?_ | refine blk_alloc ?_ _)); refine blk_far ?_ NB241_243.out _; (with_reducible repeat (first | refine blk_drewN ?_ _ | refine blk_drew ?_ | refine blk_alloc ?_ _)); refine blk_far ?_ NB241_243.out _; (with_reducible repeat (first | refine blk_drewN ?_ _ | refine blk_drew ?_ | refine blk_alloc ?_ _)); refine blk_far ?_ NB241_243.out _; (with_reducible repeat (first | refine blk_drewN ?_ _ | refine blk_drew ?_ | refine blk_alloc ?_ _)); refine blk_far ?_ NB241_243.out _; (with_reducible repeat (first | refine blk_drewN ?_ _ | refine blk_drew ?_ | refine blk_alloc ?_ _)); refine blk_far ?_ NB241_243.out _; (with_reducible repeat (first | refine blk_drewN ?_ _ | refine blk_drew ?_ | refine blk_alloc ?_ _)); refine blk_far ?_ NB241_243.out _; (with_reducible repeat (first | refine blk_drewN ?_ _ | refine blk_drew ?_ | refine blk_alloc ?_ _)); refine blk_far ?_ NB241_243.out _; (with_reducible repeat (first | refine blk_drewN ?_ _ | refine blk_drew ?_ | refine blk_alloc ?_ _)); exact BK241.out⟩, ⟨by (with_reducible repeat (first | refine blk_drewN ?_ _ | refine blk_drew ?_ | refine blk_alloc ?_ _)); refine blk_put (cs := #[.int .i64 ((rd_T44 l0_2 x3_1).f0), .int .i64 ((rd_T44 l0_2 x3_1).f1), .int .i64 ((rd_T44 l0_2 x3_1).f2), .int .i64 ((rd_T44 l0_2 x3_1).f3), .int .i64 ((rd_T44 l0_2 x3_1).f4), .int .i64 ((rd_T44 l0_2 x3_1).f5), .int .i64 0]) ?_ 6 _ rfl; (with_reducible repeat (first | refine blk_drewN ?_ _ | refine blk_drew ?_ | refine blk_alloc ?_ _)); refine blk_put (cs := #[.int .i64 ((rd_T44 l0_2 x3_1).f0), .int .i64 ((rd_T44 l0_2 x3_1).f1), .int .i64 ((rd_T44 l0_2 x3_1).f2), .int .i64 ((rd_T44 l0_2 x3_1).f3), .int .i64 ((rd_T44 l0_2 x3_1).f4), .int .i64 0, .int .i64 0]) ?_ 5 _ rfl; (with_reducible repeat (first | refine blk_drewN ?_ _ | refine blk_drew ?_ | refine blk_alloc ?_ _)); refine blk_put (cs := #[.int .i64 ((rd_T44 l0_2 x3_1).f0), .int .i64 ((rd_T44 l0_2 x3_1).f1), .int .i64 ((rd_T44 l0_2 x3_1).f2), .int .i64 ((rd_T44 l0_2 x3_1).f3), .int .i64 0, .int .i64 0, .int .i64 0]) ?_ 4 _ rfl; (with_reducible repeat (first | refine blk_drewN ?_ _ | refine blk_drew ?_ | refine blk_alloc ?_ _)); refine blk_put (cs := #[.int .i64 ((rd_T44 l0_2 x3_1).f0), .int .i64 ((rd_T44 l0_2 x3_1).f1), .int .i64 ((rd_T44 l0_2 x3_1).f2), .int .i64 0, .int .i64 0, .int .i64 0, .int .i64 0]) ?_ 3 _ rfl; (with_reducible repeat (first | refine blk_drewN ?_ _ | refine blk_drew ?_ | refine blk_alloc ?_ _)); refine blk_put (cs := #[.int .i64 ((rd_T44 l0_2 x3_1).f0), .int .i64 ((rd_T44 l0_2 x3_1).f1), .int .i64 0, .int .i64 0, .int .i64 0, .int .i64 0, .int .i64 0]) ?_ 2 _ rfl; (with_reducible repeat (first | refine blk_drewN ?_ _ | refine blk_drew ?_ | refine blk_alloc ?_ _)); refine blk_put (cs := #[.int .i64 ((rd_T44 l0_2 x3_1).f0), .int .i64 0, .int .i64 0, .int .i64 0, .int .i64 0, .int .i64 0, .int .i64 0]) ?_ 1 _ rfl; (with_reducible repeat (first | refine blk_drewN ?_ _ | refine blk_drew ?_ | refine blk_alloc ?_ _)); refine blk_put (cs := #[.int .i64 0, .int .i64 0, .int .i64 0, .int .i64 0, .int .i64 0, .int .i64 0, .int .i64 0]) ?_ 0 _ rfl; (with_reducible repeat (first | refine blk_drewN ?_ _ | refine blk_drew ?_ | refine blk_alloc ?_ _)); exact BK243.out⟩, ⟨by repeat (first | (with_reducible first | exact HB.out | apply below_alloc | apply pw_below_drewN | apply below_drew1 | refine below_set ?_ GE241.out | refine below_set ?_ GE243.out) | exact HB.out)⟩⟩
       ·replace c13 := Bool.eq_false_iff.mpr c13
        subst c13
        have H1 : (skiarearef10_runs.j1 k1 x3_1 true l0_0 l0_1 l0_2 l0_3 ((rd_T44 l0_2 x3_1).f0) ((rd_T44 l0_2 x3_1).f1) ((rd_T44 l0_2 x3_1).f2) ((rd_T44 l0_2 x3_1).f3) ((rd_T44 l0_2 x3_1).f4) ((rd_T44 l0_2 x3_1).f5) ((rd_T44 l0_2 x3_1).f6)) = some r := by rw [if_neg (show ¬ (false = true) by decide)] at H; exact H
        clear H
        have H := H1
        clear H1
        have H' := Aside0.mk H
        clear H
        have hnb25 := NB243_241.out
        have hnc25 := NB241_243.out
        have hcz26_0 := cz_ BK243 0
        have hcz26_1 := cz_ BK243 1
        have hcz26_2 := cz_ BK243 2
        have hcz26_3 := cz_ BK243 3
        have hcz26_4 := cz_ BK243 4
        have hcz26_5 := cz_ BK243 5
        have hcz26_6 := cz_ BK243 6
        have hfz26_0 := fz_ BK243 0
        have hfz26_1 := fz_ BK243 1
        have hfz26_2 := fz_ BK243 2
        have hfz26_3 := fz_ BK243 3
        have hfz26_4 := fz_ BK243 4
        have hfz26_5 := fz_ BK243 5
        have hfz26_6 := fz_ BK243 6
        go_wp2_with (first | (go_at_call 56; (with_reducible refine (skiarearef10_in.calls ((rd_T44 l0_2 x3_1).f0) 1 9999 true _ A10.out).mono ?_); rintro e w' ⟨rfl, ⟨nd, rfl⟩⟩; (try first | exact ⟨rfl, _, World.drewN_drewN _ _ _⟩ | exact ⟨rfl, _, Eq.trans (World.drewN_drewN _ _ _) (congrArg (World.drewN _) (Nat.add_assoc _ _ _))⟩)) | (go_at_call 56; (with_reducible refine (skiarearef10_in.calls ((rd_T44 l0_2 x3_1).f1) 1 8 false _ A12.out).mono ?_); rintro e w' ⟨rfl, ⟨nd, rfl⟩⟩; (try first | exact ⟨rfl, _, World.drewN_drewN _ _ _⟩ | exact ⟨rfl, _, Eq.trans (World.drewN_drewN _ _ _) (congrArg (World.drewN _) (Nat.add_assoc _ _ _))⟩)))
        repeat (go_quiet (fail); try go_wp2_with (first | (go_at_call 56; (with_reducible refine (skiarearef10_in.calls ((rd_T44 l0_2 x3_1).f0) 1 9999 true _ A10.out).mono ?_); rintro e w' ⟨rfl, ⟨nd, rfl⟩⟩; (try first | exact ⟨rfl, _, World.drewN_drewN _ _ _⟩ | exact ⟨rfl, _, Eq.trans (World.drewN_drewN _ _ _) (congrArg (World.drewN _) (Nat.add_assoc _ _ _))⟩)) | (go_at_call 56; (with_reducible refine (skiarearef10_in.calls ((rd_T44 l0_2 x3_1).f1) 1 8 false _ A12.out).mono ?_); rintro e w' ⟨rfl, ⟨nd, rfl⟩⟩; (try first | exact ⟨rfl, _, World.drewN_drewN _ _ _⟩ | exact ⟨rfl, _, Eq.trans (World.drewN_drewN _ _ _) (congrArg (World.drewN _) (Nat.add_assoc _ _ _))⟩))))
        go_meet
        case rel => exact ⟨_, (true), (by first | rfl | (simp; done) | (simp [*]; done)), H', ⟨by have := HK1.out; first | omega | exact Nat.le_refl _⟩, ⟨by (with_reducible repeat (first | refine blk_drewN ?_ _ | refine blk_drew ?_ | refine blk_alloc ?_ _)); refine blk_far ?_ NB241_243.out _; (with_reducible repeat (first | refine blk_drewN ?_ _ | refine blk_drew ?_ | refine blk_alloc ?_ _)); refine blk_far ?_ NB241_243.out _; (with_reducible repeat (first | refine blk_drewN ?_ _ | refine blk_drew ?_ | refine blk_alloc ?_ _)); refine blk_far ?_ NB241_243.out _; (with_reducible repeat (first | refine blk_drewN ?_ _ | refine blk_drew ?_ | refine blk_alloc ?_ _)); refine blk_far ?_ NB241_243.out _; (with_reducible repeat (first | refine blk_drewN ?_ _ | refine blk_drew ?_ | refine blk_alloc ?_ _)); refine blk_far ?_ NB241_243.out _; (with_reducible repeat (first | refine blk_drewN ?_ _ | refine blk_drew ?_ | refine blk_alloc ?_ _)); refine blk_far ?_ NB241_243.out _; (with_reducible repeat (first | refine blk_drewN ?_ _ | refine blk_drew ?_ | refine blk_alloc ?_ _)); refine blk_far ?_ NB241_243.out _; (with_reducible repeat (first | refine blk_drewN ?_ _ | refine blk_drew ?_ | refine blk_alloc ?_ _)); exact BK241.out⟩, ⟨by (with_reducible repeat (first | refine blk_drewN ?_ _ | refine blk_drew ?_ | refine blk_alloc ?_ _)); refine blk_put (cs := #[.int .i64 ((rd_T44 l0_2 x3_1).f0), .int .i64 ((rd_T44 l0_2 x3_1).f1), .int .i64 ((rd_T44 l0_2 x3_1).f2), .int .i64 ((rd_T44 l0_2 x3_1).f3), .int .i64 ((rd_T44 l0_2 x3_1).f4), .int .i64 ((rd_T44 l0_2 x3_1).f5), .int .i64 0]) ?_ 6 _ rfl; (with_reducible repeat (first | refine blk_drewN ?_ _ | refine blk_drew ?_ | refine blk_alloc ?_ _)); refine blk_put (cs := #[.int .i64 ((rd_T44 l0_2 x3_1).f0), .int .i64 ((rd_T44 l0_2 x3_1).f1), .int .i64 ((rd_T44 l0_2 x3_1).f2), .int .i64 ((rd_T44 l0_2 x3_1).f3), .int .i64 ((rd_T44 l0_2 x3_1).f4), .int .i64 0, .int .i64 0]) ?_ 5 _ rfl; (with_reducible repeat (first | refine blk_drewN ?_ _ | refine blk_drew ?_ | refine blk_alloc ?_ _)); refine blk_put (cs := #[.int .i64 ((rd_T44 l0_2 x3_1).f0), .int .i64 ((rd_T44 l0_2 x3_1).f1), .int .i64 ((rd_T44 l0_2 x3_1).f2), .int .i64 ((rd_T44 l0_2 x3_1).f3), .int .i64 0, .int .i64 0, .int .i64 0]) ?_ 4 _ rfl; (with_reducible repeat (first | refine blk_drewN ?_ _ | refine blk_drew ?_ | refine blk_alloc ?_ _)); refine blk_put (cs := #[.int .i64 ((rd_T44 l0_2 x3_1).f0), .int .i64 ((rd_T44 l0_2 x3_1).f1), .int .i64 ((rd_T44 l0_2 x3_1).f2), .int .i64 0, .int .i64 0, .int .i64 0, .int .i64 0]) ?_ 3 _ rfl; (with_reducible repeat (first | refine blk_drewN ?_ _ | refine blk_drew ?_ | refine blk_alloc ?_ _)); refine blk_put (cs := #[.int .i64 ((rd_T44 l0_2 x3_1).f0), .int .i64 ((rd_T44 l0_2 x3_1).f1), .int .i64 0, .int .i64 0, .int .i64 0, .int .i64 0, .int .i64 0]) ?_ 2 _ rfl; (with_reducible repeat (first | refine blk_drewN ?_ _ | refine blk_drew ?_ | refine blk_alloc ?_ _)); refine blk_put (cs := #[.int .i64 ((rd_T44 l0_2 x3_1).f0), .int .i64 0, .int .i64 0, .int .i64 0, .int .i64 0, .int .i64 0, .int .i64 0]) ?_ 1 _ rfl; (with_reducible repeat (first | refine blk_drewN ?_ _ | refine blk_drew ?_ | refine blk_alloc ?_ _)); refine blk_put (cs := #[.int .i64 0, .int .i64 0, .int .i64 0, .int .i64 0, .int .i64 0, .int .i64 0, .int .i64 0]) ?_ 0 _ rfl; (with_reducible repeat (first | refine blk_drewN ?_ _ | refine blk_drew ?_ | refine blk_alloc ?_ _)); exact BK243.out⟩, ⟨by repeat (first | (with_reducible first | exact HB.out | apply below_alloc | apply pw_below_drewN | apply below_drew1 | refine below_set ?_ GE241.out | refine below_set ?_ GE243.out) | exact HB.out)⟩⟩
      ·replace c11 := Bool.eq_false_iff.mpr c11
       subst c11
       have H1 : (skiarearef10_runs.j1 k1 x3_1 true l0_0 l0_1 l0_2 l0_3 ((rd_T44 l0_2 x3_1).f0) ((rd_T44 l0_2 x3_1).f1) ((rd_T44 l0_2 x3_1).f2) ((rd_T44 l0_2 x3_1).f3) ((rd_T44 l0_2 x3_1).f4) ((rd_T44 l0_2 x3_1).f5) ((rd_T44 l0_2 x3_1).f6)) = some r := by rw [if_neg (show ¬ (false = true) by decide)] at H; exact H
       clear H
       have H := H1
       clear H1
       have H' := Aside0.mk H
       clear H
       have hnb27 := NB243_241.out
       have hnc27 := NB241_243.out
       have hcz28_0 := cz_ BK243 0
       have hcz28_1 := cz_ BK243 1
       have hcz28_2 := cz_ BK243 2
       have hcz28_3 := cz_ BK243 3
       have hcz28_4 := cz_ BK243 4
       have hcz28_5 := cz_ BK243 5
       have hcz28_6 := cz_ BK243 6
       have hfz28_0 := fz_ BK243 0
       have hfz28_1 := fz_ BK243 1
       have hfz28_2 := fz_ BK243 2
       have hfz28_3 := fz_ BK243 3
       have hfz28_4 := fz_ BK243 4
       have hfz28_5 := fz_ BK243 5
       have hfz28_6 := fz_ BK243 6
       go_wp2_with (first | (go_at_call 56; (with_reducible refine (skiarearef10_in.calls ((rd_T44 l0_2 x3_1).f0) 1 9999 false _ A10.out).mono ?_); rintro e w' ⟨rfl, ⟨nd, rfl⟩⟩; (try first | exact ⟨rfl, _, World.drewN_drewN _ _ _⟩ | exact ⟨rfl, _, Eq.trans (World.drewN_drewN _ _ _) (congrArg (World.drewN _) (Nat.add_assoc _ _ _))⟩)))
       repeat (go_quiet (fail); try go_wp2_with (first | (go_at_call 56; (with_reducible refine (skiarearef10_in.calls ((rd_T44 l0_2 x3_1).f0) 1 9999 false _ A10.out).mono ?_); rintro e w' ⟨rfl, ⟨nd, rfl⟩⟩; (try first | exact ⟨rfl, _, World.drewN_drewN _ _ _⟩ | exact ⟨rfl, _, Eq.trans (World.drewN_drewN _ _ _) (congrArg (World.drewN _) (Nat.add_assoc _ _ _))⟩))))
       go_meet
       case rel => exact ⟨_, (true), (by first | rfl | (simp; done) | (simp [*]; done)), H', ⟨by have := HK1.out; first | omega | exact Nat.le_refl _⟩, ⟨by (with_reducible repeat (first | refine blk_drewN ?_ _ | refine blk_drew ?_ | refine blk_alloc ?_ _)); refine blk_far ?_ NB241_243.out _; (with_reducible repeat (first | refine blk_drewN ?_ _ | refine blk_drew ?_ | refine blk_alloc ?_ _)); refine blk_far ?_ NB241_243.out _; (with_reducible repeat (first | refine blk_drewN ?_ _ | refine blk_drew ?_ | refine blk_alloc ?_ _)); refine blk_far ?_ NB241_243.out _; (with_reducible repeat (first | refine blk_drewN ?_ _ | refine blk_drew ?_ | refine blk_alloc ?_ _)); refine blk_far ?_ NB241_243.out _; (with_reducible repeat (first | refine blk_drewN ?_ _ | refine blk_drew ?_ | refine blk_alloc ?_ _)); refine blk_far ?_ NB241_243.out _; (with_reducible repeat (first | refine blk_drewN ?_ _ | refine blk_drew ?_ | refine blk_alloc ?_ _)); refine blk_far ?_ NB241_243.out _; (with_reducible repeat (first | refine blk_drewN ?_ _ | refine blk_drew ?_ | refine blk_alloc ?_ _)); refine blk_far ?_ NB241_243.out _; (with_reducible repeat (first | refine blk_drewN ?_ _ | refine blk_drew ?_ | refine blk_alloc ?_ _)); exact BK241.out⟩, ⟨by (with_reducible repeat (first | refine blk_drewN ?_ _ | refine blk_drew ?_ | refine blk_alloc ?_ _)); refine blk_put (cs := #[.int .i64 ((rd_T44 l0_2 x3_1).f0), .int .i64 ((rd_T44 l0_2 x3_1).f1), .int .i64 ((rd_T44 l0_2 x3_1).f2), .int .i64 ((rd_T44 l0_2 x3_1).f3), .int .i64 ((rd_T44 l0_2 x3_1).f4), .int .i64 ((rd_T44 l0_2 x3_1).f5), .int .i64 0]) ?_ 6 _ rfl; (with_reducible repeat (first | refine blk_drewN ?_ _ | refine blk_drew ?_ | refine blk_alloc ?_ _)); refine blk_put (cs := #[.int .i64 ((rd_T44 l0_2 x3_1).f0), .int .i64 ((rd_T44 l0_2 x3_1).f1), .int .i64 ((rd_T44 l0_2 x3_1).f2), .int .i64 ((rd_T44 l0_2 x3_1).f3), .int .i64 ((rd_T44 l0_2 x3_1).f4), .int .i64 0, .int .i64 0]) ?_ 5 _ rfl; (with_reducible repeat (first | refine blk_drewN ?_ _ | refine blk_drew ?_ | refine blk_alloc ?_ _)); refine blk_put (cs := #[.int .i64 ((rd_T44 l0_2 x3_1).f0), .int .i64 ((rd_T44 l0_2 x3_1).f1), .int .i64 ((rd_T44 l0_2 x3_1).f2), .int .i64 ((rd_T44 l0_2 x3_1).f3), .int .i64 0, .int .i64 0, .int .i64 0]) ?_ 4 _ rfl; (with_reducible repeat (first | refine blk_drewN ?_ _ | refine blk_drew ?_ | refine blk_alloc ?_ _)); refine blk_put (cs := #[.int .i64 ((rd_T44 l0_2 x3_1).f0), .int .i64 ((rd_T44 l0_2 x3_1).f1), .int .i64 ((rd_T44 l0_2 x3_1).f2), .int .i64 0, .int .i64 0, .int .i64 0, .int .i64 0]) ?_ 3 _ rfl; (with_reducible repeat (first | refine blk_drewN ?_ _ | refine blk_drew ?_ | refine blk_alloc ?_ _)); refine blk_put (cs := #[.int .i64 ((rd_T44 l0_2 x3_1).f0), .int .i64 ((rd_T44 l0_2 x3_1).f1), .int .i64 0, .int .i64 0, .int .i64 0, .int .i64 0, .int .i64 0]) ?_ 2 _ rfl; (with_reducible repeat (first | refine blk_drewN ?_ _ | refine blk_drew ?_ | refine blk_alloc ?_ _)); refine blk_put (cs := #[.int .i64 ((rd_T44 l0_2 x3_1).f0), .int .i64 0, .int .i64 0, .int .i64 0, .int .i64 0, .int .i64 0, .int .i64 0]) ?_ 1 _ rfl; (with_reducible repeat (first | refine blk_drewN ?_ _ | refine blk_drew ?_ | refine blk_alloc ?_ _)); refine blk_put (cs := #[.int .i64 0, .int .i64 0, .int .i64 0, .int .i64 0, .int .i64 0, .int .i64 0, .int .i64 0]) ?_ 0 _ rfl; (with_reducible repeat (first | refine blk_drewN ?_ _ | refine blk_drew ?_ | refine blk_alloc ?_ _)); exact BK243.out⟩, ⟨by repeat (first | (with_reducible first | exact HB.out | apply below_alloc | apply pw_below_drewN | apply below_drew1 | refine below_set ?_ GE241.out | refine below_set ?_ GE243.out) | exact HB.out)⟩⟩
     case rest =>
      clear HC5
      try clear c1
      try clear c2
      try clear p2
      try clear q2
      try clear hx2
      try clear c3
      try clear c3b0
      try clear c4
      try clear c4b0
      try clear c8
      try clear c11
      try clear c13
      try clear c15
      try clear c17
      try clear c19
      try clear c21
      try clear c23
      try clear p24
      try clear q24
      try clear hx24
      try clear c25
      try clear c27
      try clear hcz20_0
      try clear hcz20_1
      try clear hcz20_2
      try clear hcz20_3
      try clear hcz20_4
      try clear hcz20_5
      try clear hcz20_6
      try clear hcz22_0
      try clear hcz22_1
      try clear hcz22_2
      try clear hcz22_3
      try clear hcz22_4
      try clear hcz22_5
      try clear hcz22_6
      try clear hcz24_0
      try clear hcz24_1
      try clear hcz24_2
      try clear hcz24_3
      try clear hcz24_4
      try clear hcz24_5
      try clear hcz24_6
      try clear hcz26_0
      try clear hcz26_1
      try clear hcz26_2
      try clear hcz26_3
      try clear hcz26_4
      try clear hcz26_5
      try clear hcz26_6
      try clear hcz28_0
      try clear hcz28_1
      try clear hcz28_2
      try clear hcz28_3
      try clear hcz28_4
      try clear hcz28_5
      try clear hcz28_6
      try clear hcz6_0
      try clear hcz6_1
      try clear hcz6_2
      try clear hcz6_3
      try clear hcz9_0
      try clear hcz9_1
      try clear hcz9_2
      try clear hcz9_3
      try clear hcz9_4
      try clear hcz9_5
      try clear hcz9_6
      try clear hfz20_0
      try clear hfz20_1
      try clear hfz20_2
      try clear hfz20_3
      try clear hfz20_4
      try clear hfz20_5
      try clear hfz20_6
      try clear hfz22_0
      try clear hfz22_1
      try clear hfz22_2
      try clear hfz22_3
      try clear hfz22_4
      try clear hfz22_5
      try clear hfz22_6
      try clear hfz24_0
      try clear hfz24_1
      try clear hfz24_2
      try clear hfz24_3
      try clear hfz24_4
      try clear hfz24_5
      try clear hfz24_6
      try clear hfz26_0
      try clear hfz26_1
      try clear hfz26_2
      try clear hfz26_3
      try clear hfz26_4
      try clear hfz26_5
      try clear hfz26_6
      try clear hfz28_0
      try clear hfz28_1
      try clear hfz28_2
      try clear hfz28_3
      try clear hfz28_4
      try clear hfz28_5
      try clear hfz28_6
      try clear hfz6_0
      try clear hfz6_1
      try clear hfz6_2
      try clear hfz6_3
      try clear hfz9_0
      try clear hfz9_1
      try clear hfz9_2
      try clear hfz9_3
      try clear hfz9_4
      try clear hfz9_5
      try clear hfz9_6
      try clear hx242_0
      try clear hx242_1
      try clear hx242_2
      try clear hx242_3
      try clear hx242_4
      try clear hx242_5
      try clear hx242_6
      try clear p2
      try clear p242
      try clear q242
      obtain ⟨kq, x45_4, rfl, HA, HJ4, BK241, BK243, HB⟩ := hcut
      cases kq with
      | zero => exact absurd HA.out (by simp [skiarearef10_runs.j1])
      | succ kj4 =>
       have H := HA.out
       clear HA
       simp only [skiarearef10_runs.j1] at H
       by_cases c29 : x45_4 = true
       ·subst c29
        have H1 : (some 2) = some r := by rw [if_pos rfl] at H; exact H
        clear H
        have H := H1
        clear H1
        obtain rfl := Option.some.inj H
        go_wp2
        repeat (go_quiet (fail); try go_wp2)
        go_ret
        exact ⟨by first | rfl | (simp [errW_none, errW_some] <;> rfl) | (simp [*, errW_none, errW_some] <;> rfl), by repeat (first | (with_reducible first | exact HB.out | apply below_alloc | apply pw_below_drewN | apply below_drew1 | refine below_set ?_ GE241.out | refine below_set ?_ GE243.out) | exact HB.out)⟩
       ·replace c29 := Bool.eq_false_iff.mpr c29
        subst c29
        have H1 : (if x3_1 > 0 then (if 0 ≤ (wrap64 (x3_1 - 1)) then (if (wrap64 (x3_1 - 1)) < (l0_2.length : Int) then (skiarearef10_runs.j2 kj4 x3_1 (decide (((rd_T44 l0_2 x3_1).f0) ≤ ((rd_T44 l0_2 (wrap64 (x3_1 - 1))).f0))) l0_0 l0_1 l0_2 l0_3 ((rd_T44 l0_2 x3_1).f0) ((rd_T44 l0_2 x3_1).f1) ((rd_T44 l0_2 x3_1).f2) ((rd_T44 l0_2 x3_1).f3) ((rd_T44 l0_2 x3_1).f4) ((rd_T44 l0_2 x3_1).f5) ((rd_T44 l0_2 x3_1).f6)) else (none)) else (none)) else (skiarearef10_runs.j2 kj4 x3_1 false l0_0 l0_1 l0_2 l0_3 ((rd_T44 l0_2 x3_1).f0) ((rd_T44 l0_2 x3_1).f1) ((rd_T44 l0_2 x3_1).f2) ((rd_T44 l0_2 x3_1).f3) ((rd_T44 l0_2 x3_1).f4) ((rd_T44 l0_2 x3_1).f5) ((rd_T44 l0_2 x3_1).f6))) = some r := by rw [if_neg (show ¬ (false = true) by decide)] at H; exact H
        clear H
        have H := H1
        clear H1
        have HC30 := Aside0.mk H
        clear H
        go_upto_region 7 with (fail)
        repeat (go_quiet (fail); go_upto_region 7 with (fail))
        go_cut [59] (fun v59 wc => ∃ (kq : Nat) (x59_29 : Bool), v59 = .bool x59_29 ∧ Aside0 (skiarearef10_runs.j2 kq x3_1 x59_29 l0_0 l0_1 l0_2 l0_3 ((rd_T44 l0_2 x3_1).f0) ((rd_T44 l0_2 x3_1).f1) ((rd_T44 l0_2 x3_1).f2) ((rd_T44 l0_2 x3_1).f3) ((rd_T44 l0_2 x3_1).f4) ((rd_T44 l0_2 x3_1).f5) ((rd_T44 l0_2 x3_1).f6) = some r) ∧ Aside0 (kq ≤ kj4) ∧ Aside0 (wc.heap[gb241]? = some (.cells #[(.slice A0_0 l0_0.length c0_0), (.slice A0_1 l0_1.length c0_1), (.slice (some ad242) l0_2.length c0_2), (.slice A0_3 l0_3.length c0_3)] 38 (0, 0))) ∧ Aside0 (wc.heap[gb243]? = some (.cells #[.int .i64 ((rd_T44 l0_2 x3_1).f0), .int .i64 ((rd_T44 l0_2 x3_1).f1), .int .i64 ((rd_T44 l0_2 x3_1).f2), .int .i64 ((rd_T44 l0_2 x3_1).f3), .int .i64 ((rd_T44 l0_2 x3_1).f4), .int .i64 ((rd_T44 l0_2 x3_1).f5), .int .i64 ((rd_T44 l0_2 x3_1).f6)] 44 (0, 0))) ∧ Aside0 (Below w.heap.size w wc))
        case first =>
         have H := HC30.out
         clear HC30
         by_cases c31 : x3_1 > 0
         ·rw [if_pos c31] at H
          have c31b0 : decide (0 < x3_1) = true := decide_eq_true c31
          clear c31
          (first | rw [c31b0] | (simp only [i64_w, i32_w]; rw [c31b0]) | skip)
          obtain ⟨ji32, hji32⟩ : ∃ j_ : Int, (wrap64 (x3_1 - 1)) = j_ := ⟨_, rfl⟩
          replace H : (if 0 ≤ (ji32) then (if (ji32) < (l0_2.length : Int) then (skiarearef10_runs.j2 kj4 x3_1 (decide (((rd_T44 l0_2 x3_1).f0) ≤ ((rd_T44 l0_2 (ji32)).f0))) l0_0 l0_1 l0_2 l0_3 ((rd_T44 l0_2 x3_1).f0) ((rd_T44 l0_2 x3_1).f1) ((rd_T44 l0_2 x3_1).f2) ((rd_T44 l0_2 x3_1).f3) ((rd_T44 l0_2 x3_1).f4) ((rd_T44 l0_2 x3_1).f5) ((rd_T44 l0_2 x3_1).f6)) else (none)) else (none)) = some r := by first | (rw [hji32] at H; exact H) | (simp only [hji32] at H ⊢; exact H)
          have hji32w : (IntKind.i64.wrap (x3_1 - 1)) = ji32 := (i64_w _).trans hji32
          by_cases c33 : 0 ≤ (ji32)
          ·rw [if_pos c33] at H
           have c33b0 : decide (0 ≤ (ji32)) = true := decide_eq_true c33
           clear c33
           by_cases c34 : (ji32) < (l0_2.length : Int)
           ·rw [if_pos c34] at H
            have c34b0 : decide ((ji32) < (l0_2.length : Int)) = true := decide_eq_true c34
            clear c34
            have H' := Aside0.mk H
            clear H
            have hnb35 := NB243_241.out
            have hnc35 := NB241_243.out
            have hcz36_0 := cz_ BK243 0
            have hcz36_1 := cz_ BK243 1
            have hcz36_2 := cz_ BK243 2
            have hcz36_3 := cz_ BK243 3
            have hcz36_4 := cz_ BK243 4
            have hcz36_5 := cz_ BK243 5
            have hcz36_6 := cz_ BK243 6
            have hfz36_0 := fz_ BK243 0
            have hfz36_1 := fz_ BK243 1
            have hfz36_2 := fz_ BK243 2
            have hfz36_3 := fz_ BK243 3
            have hfz36_4 := fz_ BK243 4
            have hfz36_5 := fz_ BK243 5
            have hfz36_6 := fz_ BK243 6
            have hcz37_0 := cz_ BK241 0
            have hcz37_1 := cz_ BK241 1
            have hcz37_2 := cz_ BK241 2
            have hcz37_3 := cz_ BK241 3
            have hfz37_0 := fz_ BK241 0
            have hfz37_1 := fz_ BK241 1
            have hfz37_2 := fz_ BK241 2
            have hfz37_3 := fz_ BK241 3
            have p249 : 0 ≤ ((ji32) : Int) := od_
            have q249 : (ji32) < (l0_2.length : Int) := od_
            obtain ⟨ad249, e249, hx249_0, hx249_1, hx249_2, hx249_3, hx249_4, hx249_5, hx249_6⟩ := at_T44 HR0_2.out (ji32) p249 q249
            obtain rfl : ad242 = ad249 := (by injection e249)
            replace hx249_0 := pc_ hx249_0
            replace hx249_1 := pc_ hx249_1
            replace hx249_2 := pc_ hx249_2
            replace hx249_3 := pc_ hx249_3
            replace hx249_4 := pc_ hx249_4
            replace hx249_5 := pc_ hx249_5
            replace hx249_6 := pc_ hx249_6
            replace p249 := eq_true p249
            replace q249 := eq_true q249
            go_wp2
            repeat (go_quiet (fail); try go_wp2)
            go_meet
            case rel => exact ⟨_, (decide (((rd_T44 l0_2 x3_1).f0) ≤ ((rd_T44 l0_2 (ji32)).f0))), (by first | rfl | (simp; done) | (simp only [← hji32] <;> (first | rfl | simp)) | (simp [*]; done)), H', ⟨by have := HK1.out; have := HJ4.out; first | omega | exact Nat.le_refl _⟩, ⟨by (with_reducible repeat (first | refine blk_drewN ?_ _ | refine blk_drew ?_ | refine blk_alloc ?_ _)); exact BK241.out⟩, ⟨by (with_reducible repeat (first | refine blk_drewN ?_ _ | refine blk_drew ?_ | refine blk_alloc ?_ _)); exact BK243.out⟩, ⟨by repeat (first | (with_reducible first | exact HB.out | apply below_alloc | apply pw_below_drewN | apply below_drew1 | refine below_set ?_ GE241.out | refine below_set ?_ GE243.out) | exact HB.out)⟩⟩
           ·rw [if_neg c34] at H
            exact absurd H (by simp)
          ·rw [if_neg c33] at H
           exact absurd H (by simp)
         ·rw [if_neg c31] at H
          have c31b0 : decide (0 < x3_1) = false := decide_eq_false c31
          clear c31
          (first | rw [c31b0] | (simp only [i64_w, i32_w]; rw [c31b0]) | skip)
          have H' := Aside0.mk H
          clear H
          go_wp2
          repeat (go_quiet (fail); try go_wp2)
          go_meet
          case rel => exact ⟨_, (false), (by first | rfl | (simp; done) | (simp [*]; done)), H', ⟨by have := HK1.out; have := HJ4.out; first | omega | exact Nat.le_refl _⟩, ⟨by (with_reducible repeat (first | refine blk_drewN ?_ _ | refine blk_drew ?_ | refine blk_alloc ?_ _)); exact BK241.out⟩, ⟨by (with_reducible repeat (first | refine blk_drewN ?_ _ | refine blk_drew ?_ | refine blk_alloc ?_ _)); exact BK243.out⟩, ⟨by repeat (first | (with_reducible first | exact HB.out | apply below_alloc | apply pw_below_drewN | apply below_drew1 | refine below_set ?_ GE241.out | refine below_set ?_ GE243.out) | exact HB.out)⟩⟩
        case rest =>
         clear HC30
         try clear c1
         try clear c2
         try clear p2
         try clear q2
         try clear hx2
         try clear c3
         try clear c3b0
         try clear c4
         try clear c4b0
         try clear p6
         try clear c8
         try clear c11
         try clear c13
         try clear c15
         try clear c17
         try clear c19
         try clear c21
         try clear c23
         try clear p24
         try clear q24
         try clear hx24
         try clear c25
         try clear c27
         try clear c29
         try clear c31
         try clear c31b0
         try clear c33
         try clear c33b0
         try clear c34
         try clear c34b0
         try clear c35
         try clear hcz20_0
         try clear hcz20_1
         try clear hcz20_2
         try clear hcz20_3
         try clear hcz20_4
         try clear hcz20_5
         try clear hcz20_6
         try clear hcz22_0
         try clear hcz22_1
         try clear hcz22_2
         try clear hcz22_3
         try clear hcz22_4
         try clear hcz22_5
         try clear hcz22_6
         try clear hcz24_0
         try clear hcz24_1
         try clear hcz24_2
         try clear hcz24_3
         try clear hcz24_4
         try clear hcz24_5
         try clear hcz24_6
         try clear hcz26_0
         try clear hcz26_1
         try clear hcz26_2
         try clear hcz26_3
         try clear hcz26_4
         try clear hcz26_5
         try clear hcz26_6
         try clear hcz28_0
         try clear hcz28_1
         try clear hcz28_2
         try clear hcz28_3
         try clear hcz28_4
         try clear hcz28_5
         try clear hcz28_6
         try clear hcz36_0
         try clear hcz36_1
         try clear hcz36_2
         try clear hcz36_3
         try clear hcz36_4
         try clear hcz36_5
         try clear hcz36_6
         try clear hcz37_0
         try clear hcz37_1
         try clear hcz37_2
         try clear hcz37_3
         try clear hcz6_0
         try clear hcz6_1
         try clear hcz6_2
         try clear hcz6_3
         try clear hcz9_0
         try clear hcz9_1
         try clear hcz9_2
         try clear hcz9_3
         try clear hcz9_4
         try clear hcz9_5
         try clear hcz9_6
         try clear hfz20_0
         try clear hfz20_1
         try clear hfz20_2
         try clear hfz20_3
         try clear hfz20_4
         try clear hfz20_5
         try clear hfz20_6
         try clear hfz22_0
         try clear hfz22_1
         try clear hfz22_2
         try clear hfz22_3
         try clear hfz22_4
         try clear hfz22_5
         try clear hfz22_6
         try clear hfz24_0
         try clear hfz24_1
         try clear hfz24_2
         try clear hfz24_3
         try clear hfz24_4
         try clear hfz24_5
         try clear hfz24_6
         try clear hfz26_0
         try clear hfz26_1
         try clear hfz26_2
         try clear hfz26_3
         try clear hfz26_4
         try clear hfz26_5
         try clear hfz26_6
         try clear hfz28_0
         try clear hfz28_1
         try clear hfz28_2
         try clear hfz28_3
         try clear hfz28_4
         try clear hfz28_5
         try clear hfz28_6
         try clear hfz36_0
         try clear hfz36_1
         try clear hfz36_2
         try clear hfz36_3
         try clear hfz36_4
         try clear hfz36_5
         try clear hfz36_6
         try clear hfz37_0
         try clear hfz37_1
         try clear hfz37_2
         try clear hfz37_3
         try clear hfz6_0
         try clear hfz6_1
         try clear hfz6_2
         try clear hfz6_3
         try clear hfz9_0
         try clear hfz9_1
         try clear hfz9_2
         try clear hfz9_3
         try clear hfz9_4
         try clear hfz9_5
         try clear hfz9_6
         try clear hx242_0
         try clear hx242_1
         try clear hx242_2
         try clear hx242_3
         try clear hx242_4
         try clear hx242_5
         try clear hx242_6
         try clear hx249_0
         try clear hx249_1
         try clear hx249_2
         try clear hx249_3
         try clear hx249_4
         try clear hx249_5
         try clear hx249_6
         try clear p2
         try clear p24
         try clear p242
         try clear p249
         try clear q2
         try clear q24
         try clear q242
         try clear q249
         obtain ⟨kq, x59_29, rfl, HA, HJ29, BK241, BK243, HB⟩ := hcut
         cases kq with
         | zero => exact absurd HA.out (by simp [skiarearef10_runs.j2])
         | succ kj29 =>
          have H := HA.out
          clear HA
          simp only [skiarearef10_runs.j2] at H
          by_cases c38 : x59_29 = true
          ·subst c38
           have H1 : (some 7) = some r := by rw [if_pos rfl] at H; exact H
           clear H
           have H := H1
           clear H1
           obtain rfl := Option.some.inj H
           go_wp2
           repeat (go_quiet (fail); try go_wp2)
           go_ret
           exact ⟨by first | rfl | (simp [errW_none, errW_some] <;> rfl) | (simp [*, errW_none, errW_some] <;> rfl), by repeat (first | (with_reducible first | exact HB.out | apply below_alloc | apply pw_below_drewN | apply below_drew1 | refine below_set ?_ GE241.out | refine below_set ?_ GE243.out) | exact HB.out)⟩
          ·replace c38 := Bool.eq_false_iff.mpr c38
           subst c38
           have H1 : ((skiarearef10_rises.f kj29 l0_0 l0_1 l0_2 l0_3 ((rd_T44 l0_2 x3_1).f3) ((rd_T44 l0_2 x3_1).f2)).bind fun t250 => (if t250 = 0 then (skiarearef10_runs.l0 kj29 (wrap64 (x3_1 + 1)) l0_0 l0_1 l0_2 l0_3) else (some t250))) = some r := by rw [if_neg (show ¬ (false = true) by decide)] at H; exact H
           clear H
           have H := H1
           clear H1
           replace H := Option.bind_eq_some_iff.mp H
           obtain ⟨t250, A390, H⟩ := H
           replace H : (if t250 = 0 then (skiarearef10_runs.l0 kj29 (wrap64 (x3_1 + 1)) l0_0 l0_1 l0_2 l0_3) else (some t250)) = some r := H
           have A39 := Aside0.mk A390
           clear A390
           by_cases c40 : t250 = 0
           ·rw [if_pos c40] at H
            have c40b0 : (t250 == 0) = true := beq_iff_eq.mpr c40
            have c40b1 : (t250 != 0) = false := bne_eq_false_iff_eq.mpr c40
            clear c40
            have H' := Aside0.mk H
            clear H
            have hnb41 := NB241_243.out
            have hnc41 := NB243_241.out
            have hcz42_0 := cz_ BK241 0
            have hcz42_1 := cz_ BK241 1
            have hcz42_2 := cz_ BK241 2
            have hcz42_3 := cz_ BK241 3
            have hfz42_0 := fz_ BK241 0
            have hfz42_1 := fz_ BK241 1
            have hfz42_2 := fz_ BK241 2
            have hfz42_3 := fz_ BK241 3
            have hcz43_0 := cz_ BK243 0
            have hcz43_1 := cz_ BK243 1
            have hcz43_2 := cz_ BK243 2
            have hcz43_3 := cz_ BK243 3
            have hcz43_4 := cz_ BK243 4
            have hcz43_5 := cz_ BK243 5
            have hcz43_6 := cz_ BK243 6
            have hfz43_0 := fz_ BK243 0
            have hfz43_1 := fz_ BK243 1
            have hfz43_2 := fz_ BK243 2
            have hfz43_3 := fz_ BK243 3
            have hfz43_4 := fz_ BK243 4
            have hfz43_5 := fz_ BK243 5
            have hfz43_6 := fz_ BK243 6
            go_wp2_with (first | (go_at_call 57; (with_reducible refine (skiarearef10_rises.calls kj29 _ _ l0_0 _ _ l0_1 _ _ l0_2 _ _ l0_3 ((rd_T44 l0_2 x3_1).f3) ((rd_T44 l0_2 x3_1).f2) t250 _ ?side1 ?side2 ?side3 ?side4 ?side5 ?side6 ?side7 ?side8 A39.out).mono ?_); (case side1 => exact kC_ (Kd.C_below HR0_0.out HB.out)); (case side2 => exact HC0_0.out); (case side3 => exact kC_ (Kd.C_below HR0_1.out HB.out)); (case side4 => exact HC0_1.out); (case side5 => exact kC_ (Kd.C_below HR0_2.out HB.out)); (case side6 => exact HC0_2.out); (case side7 => exact kC_ (Kd.C_below HR0_3.out HB.out)); (case side8 => exact HC0_3.out); rintro e w44 ⟨rfl, hb⟩; have n0_ := Aside0.mk (blk_below (g := gb241) (o := .cells #[.slice A0_0 l0_0.length c0_0, .slice A0_1 l0_1.length c0_1, .slice (some ad242) l0_2.length c0_2, .slice A0_3 l0_3.length c0_3] 38 (0, 0)) (by (with_reducible repeat (first | refine blk_drewN ?_ _ | refine blk_drew ?_ | refine blk_alloc ?_ _)); exact BK241.out) hb); have n1_ := Aside0.mk (blk_below (g := gb243) (o := .cells #[.int .i64 ((rd_T44 l0_2 x3_1).f0), .int .i64 ((rd_T44 l0_2 x3_1).f1), .int .i64 ((rd_T44 l0_2 x3_1).f2), .int .i64 ((rd_T44 l0_2 x3_1).f3), .int .i64 ((rd_T44 l0_2 x3_1).f4), .int .i64 ((rd_T44 l0_2 x3_1).f5), .int .i64 ((rd_T44 l0_2 x3_1).f6)] 44 (0, 0)) (by (with_reducible repeat (first | refine blk_drewN ?_ _ | refine blk_drew ?_ | refine blk_alloc ?_ _)); exact BK243.out) hb); have n2_ := Aside0.mk (below_step bel_ hb); clear BK241; clear BK243; clear HB; have BK241 := n0_; have BK243 := n1_; have HB := n2_; clear n0_ n1_ n2_; (try clear hb); (try clear hb2); (try clear hk); (try clear hi)))
            repeat (go_quiet (fail); try go_wp2_with (first | (go_at_call 57; (with_reducible refine (skiarearef10_rises.calls kj29 _ _ l0_0 _ _ l0_1 _ _ l0_2 _ _ l0_3 ((rd_T44 l0_2 x3_1).f3) ((rd_T44 l0_2 x3_1).f2) t250 _ ?side1 ?side2 ?side3 ?side4 ?side5 ?side6 ?side7 ?side8 A39.out).mono ?_); (case side1 => exact kC_ (Kd.C_below HR0_0.out HB.out)); (case side2 => exact HC0_0.out); (case side3 => exact kC_ (Kd.C_below HR0_1.out HB.out)); (case side4 => exact HC0_1.out); (case side5 => exact kC_ (Kd.C_below HR0_2.out HB.out)); (case side6 => exact HC0_2.out); (case side7 => exact kC_ (Kd.C_below HR0_3.out HB.out)); (case side8 => exact HC0_3.out); rintro e w44 ⟨rfl, hb⟩; have n0_ := Aside0.mk (blk_below (g := gb241) (o := .cells #[.slice A0_0 l0_0.length c0_0, .slice A0_1 l0_1.length c0_1, .slice (some ad242) l0_2.length c0_2, .slice A0_3 l0_3.length c0_3] 38 (0, 0)) (by (with_reducible repeat (first | refine blk_drewN ?_ _ | refine blk_drew ?_ | refine blk_alloc ?_ _)); exact BK241.out) hb); have n1_ := Aside0.mk (blk_below (g := gb243) (o := .cells #[.int .i64 ((rd_T44 l0_2 x3_1).f0), .int .i64 ((rd_T44 l0_2 x3_1).f1), .int .i64 ((rd_T44 l0_2 x3_1).f2), .int .i64 ((rd_T44 l0_2 x3_1).f3), .int .i64 ((rd_T44 l0_2 x3_1).f4), .int .i64 ((rd_T44 l0_2 x3_1).f5), .int .i64 ((rd_T44 l0_2 x3_1).f6)] 44 (0, 0)) (by (with_reducible repeat (first | refine blk_drewN ?_ _ | refine blk_drew ?_ | refine blk_alloc ?_ _)); exact BK243.out) hb); have n2_ := Aside0.mk (below_step bel_ hb); clear BK241; clear BK243; clear HB; have BK241 := n0_; have BK243 := n1_; have HB := n2_; clear n0_ n1_ n2_; (try clear hb); (try clear hb2); (try clear hk); (try clear hi))))
            go_roundg kj29
            case measure => have := HK1.out; have := HJ4.out; have := HJ29.out; omega
            case rel => exact ⟨(wrap64 (x3_1 + 1)), (by first | rfl | (simp; done) | (simp [*]; done)), H', ⟨by have := HK1.out; have := HJ4.out; have := HJ29.out; omega⟩, ⟨by (with_reducible repeat (first | refine blk_drewN ?_ _ | refine blk_drew ?_ | refine blk_alloc ?_ _)); exact BK241.out⟩, ⟨by repeat (first | (with_reducible first | exact HB.out | apply below_alloc | apply pw_below_drewN | apply below_drew1 | refine below_set ?_ GE241.out | refine below_set ?_ GE243.out) | exact HB.out)⟩⟩
           ·rw [if_neg c40] at H
            have c40b0 : (t250 == 0) = false := beq_eq_false_iff_ne.mpr c40
            have c40b1 : (t250 != 0) = true := bne_iff_ne.mpr c40
            obtain rfl := Option.some.inj H
            have hnb45 := NB241_243.out
            have hnc45 := NB243_241.out
            have hcz46_0 := cz_ BK241 0
            have hcz46_1 := cz_ BK241 1
            have hcz46_2 := cz_ BK241 2
            have hcz46_3 := cz_ BK241 3
            have hfz46_0 := fz_ BK241 0
            have hfz46_1 := fz_ BK241 1
            have hfz46_2 := fz_ BK241 2
            have hfz46_3 := fz_ BK241 3
            have hcz47_0 := cz_ BK243 0
            have hcz47_1 := cz_ BK243 1
            have hcz47_2 := cz_ BK243 2
            have hcz47_3 := cz_ BK243 3
            have hcz47_4 := cz_ BK243 4
            have hcz47_5 := cz_ BK243 5
            have hcz47_6 := cz_ BK243 6
            have hfz47_0 := fz_ BK243 0
            have hfz47_1 := fz_ BK243 1
            have hfz47_2 := fz_ BK243 2
            have hfz47_3 := fz_ BK243 3
            have hfz47_4 := fz_ BK243 4
            have hfz47_5 := fz_ BK243 5
            have hfz47_6 := fz_ BK243 6
            go_wp2_with (first | (go_at_call 57; (with_reducible refine (skiarearef10_rises.calls kj29 _ _ l0_0 _ _ l0_1 _ _ l0_2 _ _ l0_3 ((rd_T44 l0_2 x3_1).f3) ((rd_T44 l0_2 x3_1).f2) t250 _ ?side1 ?side2 ?side3 ?side4 ?side5 ?side6 ?side7 ?side8 A39.out).mono ?_); (case side1 => exact kC_ (Kd.C_below HR0_0.out HB.out)); (case side2 => exact HC0_0.out); (case side3 => exact kC_ (Kd.C_below HR0_1.out HB.out)); (case side4 => exact HC0_1.out); (case side5 => exact kC_ (Kd.C_below HR0_2.out HB.out)); (case side6 => exact HC0_2.out); (case side7 => exact kC_ (Kd.C_below HR0_3.out HB.out)); (case side8 => exact HC0_3.out); rintro e w48 ⟨rfl, hb⟩; have n0_ := Aside0.mk (blk_below (g := gb241) (o := .cells #[.slice A0_0 l0_0.length c0_0, .slice A0_1 l0_1.length c0_1, .slice (some ad242) l0_2.length c0_2, .slice A0_3 l0_3.length c0_3] 38 (0, 0)) (by (with_reducible repeat (first | refine blk_drewN ?_ _ | refine blk_drew ?_ | refine blk_alloc ?_ _)); exact BK241.out) hb); have n1_ := Aside0.mk (blk_below (g := gb243) (o := .cells #[.int .i64 ((rd_T44 l0_2 x3_1).f0), .int .i64 ((rd_T44 l0_2 x3_1).f1), .int .i64 ((rd_T44 l0_2 x3_1).f2), .int .i64 ((rd_T44 l0_2 x3_1).f3), .int .i64 ((rd_T44 l0_2 x3_1).f4), .int .i64 ((rd_T44 l0_2 x3_1).f5), .int .i64 ((rd_T44 l0_2 x3_1).f6)] 44 (0, 0)) (by (with_reducible repeat (first | refine blk_drewN ?_ _ | refine blk_drew ?_ | refine blk_alloc ?_ _)); exact BK243.out) hb); have n2_ := Aside0.mk (below_step bel_ hb); clear BK241; clear BK243; clear HB; have BK241 := n0_; have BK243 := n1_; have HB := n2_; clear n0_ n1_ n2_; (try clear hb); (try clear hb2); (try clear hk); (try clear hi)))
            repeat (go_quiet (fail); try go_wp2_with (first | (go_at_call 57; (with_reducible refine (skiarearef10_rises.calls kj29 _ _ l0_0 _ _ l0_1 _ _ l0_2 _ _ l0_3 ((rd_T44 l0_2 x3_1).f3) ((rd_T44 l0_2 x3_1).f2) t250 _ ?side1 ?side2 ?side3 ?side4 ?side5 ?side6 ?side7 ?side8 A39.out).mono ?_); (case side1 => exact kC_ (Kd.C_below HR0_0.out HB.out)); (case side2 => exact HC0_0.out); (case side3 => exact kC_ (Kd.C_below HR0_1.out HB.out)); (case side4 => exact HC0_1.out); (case side5 => exact kC_ (Kd.C_below HR0_2.out HB.out)); (case side6 => exact HC0_2.out); (case side7 => exact kC_ (Kd.C_below HR0_3.out HB.out)); (case side8 => exact HC0_3.out); rintro e w48 ⟨rfl, hb⟩; have n0_ := Aside0.mk (blk_below (g := gb241) (o := .cells #[.slice A0_0 l0_0.length c0_0, .slice A0_1 l0_1.length c0_1, .slice (some ad242) l0_2.length c0_2, .slice A0_3 l0_3.length c0_3] 38 (0, 0)) (by (with_reducible repeat (first | refine blk_drewN ?_ _ | refine blk_drew ?_ | refine blk_alloc ?_ _)); exact BK241.out) hb); have n1_ := Aside0.mk (blk_below (g := gb243) (o := .cells #[.int .i64 ((rd_T44 l0_2 x3_1).f0), .int .i64 ((rd_T44 l0_2 x3_1).f1), .int .i64 ((rd_T44 l0_2 x3_1).f2), .int .i64 ((rd_T44 l0_2 x3_1).f3), .int .i64 ((rd_T44 l0_2 x3_1).f4), .int .i64 ((rd_T44 l0_2 x3_1).f5), .int .i64 ((rd_T44 l0_2 x3_1).f6)] 44 (0, 0)) (by (with_reducible repeat (first | refine blk_drewN ?_ _ | refine blk_drew ?_ | refine blk_alloc ?_ _)); exact BK243.out) hb); have n2_ := Aside0.mk (below_step bel_ hb); clear BK241; clear BK243; clear HB; have BK241 := n0_; have BK243 := n1_; have HB := n2_; clear n0_ n1_ n2_; (try clear hb); (try clear hb2); (try clear hk); (try clear hi))))
            go_ret
            exact ⟨by first | rfl | (simp [errW_none, errW_some] <;> rfl) | (simp [*, errW_none, errW_some] <;> rfl), by repeat (first | (with_reducible first | exact HB.out | apply below_alloc | apply pw_below_drewN | apply below_drew1 | refine below_set ?_ GE241.out | refine below_set ?_ GE243.out) | exact HB.out)⟩
    ·rw [if_neg c4] at H
     exact absurd H (by simp)
   ·rw [if_neg c3] at H
    have c3b0 : decide (x3_1 < (l0_2.length : Int)) = false := decide_eq_false c3
    clear c3
    obtain rfl := Option.some.inj H
    have hcz49_0 := cz_ BK241 0
    have hcz49_1 := cz_ BK241 1
    have hcz49_2 := cz_ BK241 2
    have hcz49_3 := cz_ BK241 3
    have hfz49_0 := fz_ BK241 0
    have hfz49_1 := fz_ BK241 1
    have hfz49_2 := fz_ BK241 2
    have hfz49_3 := fz_ BK241 3
    go_wp2
    repeat (go_quiet (fail); try go_wp2)
    go_ret
    exact ⟨by first | rfl | (simp [errW_none, errW_some] <;> rfl) | (simp [*, errW_none, errW_some] <;> rfl), by repeat (first | (with_reducible first | exact HB.out | apply below_alloc | apply pw_below_drewN | apply below_drew1 | refine below_set ?_ GE241.out) | exact HB.out)⟩

end Go.Proofs.Ytgfiidgigenibaa.Q
