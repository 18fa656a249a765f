-- written by wip/drive.py (this session's program) over the kit's print words
import Derived.Test.YtgfiidgigenibaaQ0
import Derived.Test.YtgfiidgigenibaaQ26
import Derived.Test.YtgfiidgigenibaaQ29
import Derived.Test.YtgfiidgigenibaaQ30
namespace Go.Proofs.Ytgfiidgigenibaa.Q
open Go.RowKit Go.Proofs.YtgfiidgigenibaaW.PrintWords Go.Proofs.YtgfiidgigenibaaW.PrintLast Go.Proofs.YtgfiidgigenibaaW.PrintMore
attribute [local go_sem] max2_int min2_int max_two min_two max_three min_three max_four min_four   -- for this text's walks alone
set_option linter.unusedVariables false
set_option linter.unusedSimpArgs false

/-! ### skiarearef10_lifts: function 44 -/
mutual
def skiarearef10_lifts.l0 : Nat → Int → List (S62) → List (S82) → List (S44) → List Int → Option (Int)
 | 0, _, _, _, _, _ => none
 | k + 1, x3, x230000, x230001, x230002, x230003 => if x3 < (x230001.length : Int) then (if 0 ≤ x3 then ((skiarearef10_in.f ((rd_T82 x230001 x3).f0) 1 9999).bind fun t232 => (if t232 = true then ((skiarearef10_in.f ((rd_T82 x230001 x3).f1) 1 8).bind fun t233 => (if t233 = true then ((skiarearef10_in.f ((rd_T82 x230001 x3).f4) 10 6000).bind fun t234 => (if t234 = true then ((skiarearef10_in.f ((rd_T82 x230001 x3).f5) 500 12000).bind fun t235 => (if t235 = true then ((skiarearef10_in.f ((rd_T82 x230001 x3).f6) 1 16).bind fun t236 => (if t236 = true then ((skiarearef10_in.f ((rd_T82 x230001 x3).f7) 5 1000).bind fun t237 => (skiarearef10_lifts.j1 k x3 (!t237) x230000 x230001 x230002 x230003 ((rd_T82 x230001 x3).f0) ((rd_T82 x230001 x3).f1) ((rd_T82 x230001 x3).f2) ((rd_T82 x230001 x3).f3) ((rd_T82 x230001 x3).f4) ((rd_T82 x230001 x3).f5) ((rd_T82 x230001 x3).f6) ((rd_T82 x230001 x3).f7))) else (skiarearef10_lifts.j1 k x3 true x230000 x230001 x230002 x230003 ((rd_T82 x230001 x3).f0) ((rd_T82 x230001 x3).f1) ((rd_T82 x230001 x3).f2) ((rd_T82 x230001 x3).f3) ((rd_T82 x230001 x3).f4) ((rd_T82 x230001 x3).f5) ((rd_T82 x230001 x3).f6) ((rd_T82 x230001 x3).f7)))) else (skiarearef10_lifts.j1 k x3 true x230000 x230001 x230002 x230003 ((rd_T82 x230001 x3).f0) ((rd_T82 x230001 x3).f1) ((rd_T82 x230001 x3).f2) ((rd_T82 x230001 x3).f3) ((rd_T82 x230001 x3).f4) ((rd_T82 x230001 x3).f5) ((rd_T82 x230001 x3).f6) ((rd_T82 x230001 x3).f7)))) else (skiarearef10_lifts.j1 k x3 true x230000 x230001 x230002 x230003 ((rd_T82 x230001 x3).f0) ((rd_T82 x230001 x3).f1) ((rd_T82 x230001 x3).f2) ((rd_T82 x230001 x3).f3) ((rd_T82 x230001 x3).f4) ((rd_T82 x230001 x3).f5) ((rd_T82 x230001 x3).f6) ((rd_T82 x230001 x3).f7)))) else (skiarearef10_lifts.j1 k x3 true x230000 x230001 x230002 x230003 ((rd_T82 x230001 x3).f0) ((rd_T82 x230001 x3).f1) ((rd_T82 x230001 x3).f2) ((rd_T82 x230001 x3).f3) ((rd_T82 x230001 x3).f4) ((rd_T82 x230001 x3).f5) ((rd_T82 x230001 x3).f6) ((rd_T82 x230001 x3).f7)))) else (skiarearef10_lifts.j1 k x3 true x230000 x230001 x230002 x230003 ((rd_T82 x230001 x3).f0) ((rd_T82 x230001 x3).f1) ((rd_T82 x230001 x3).f2) ((rd_T82 x230001 x3).f3) ((rd_T82 x230001 x3).f4) ((rd_T82 x230001 x3).f5) ((rd_T82 x230001 x3).f6) ((rd_T82 x230001 x3).f7)))) else (none)) else (some 0)
def skiarearef10_lifts.j1 : Nat → Int → Bool → List (S62) → List (S82) → List (S44) → List Int → Int → Int → Int → Int → Int → Int → Int → Int → Option (Int)
 | 0, _, _, _, _, _, _, _, _, _, _, _, _, _, _ => none
 | k + 1, x3, x51, x230000, x230001, x230002, x230003, x232000, x232001, x232002, x232003, x232004, x232005, x232006, x232007 => if x51 = true then (some 2) else (if x3 > 0 then (if 0 ≤ (wrap64 (x3 - 1)) then (if (wrap64 (x3 - 1)) < (x230001.length : Int) then (skiarearef10_lifts.j2 k x3 (decide (x232000 ≤ ((rd_T82 x230001 (wrap64 (x3 - 1))).f0))) x230000 x230001 x230002 x230003 x232000 x232001 x232002 x232003 x232004 x232005 x232006 x232007) else (none)) else (none)) else (skiarearef10_lifts.j2 k x3 false x230000 x230001 x230002 x230003 x232000 x232001 x232002 x232003 x232004 x232005 x232006 x232007))
def skiarearef10_lifts.j2 : Nat → Int → Bool → List (S62) → List (S82) → List (S44) → List Int → Int → Int → Int → Int → Int → Int → Int → Int → Option (Int)
 | 0, _, _, _, _, _, _, _, _, _, _, _, _, _, _ => none
 | k + 1, x3, x65, x230000, x230001, x230002, x230003, x232000, x232001, x232002, x232003, x232004, x232005, x232006, x232007 => if x65 = true then (some 7) else ((skiarearef10_rises.f k x230000 x230001 x230002 x230003 x232002 x232003).bind fun t239 => (if t239 = 0 then ((skiarearef10_carriers.f x232000 x232001 x232002 x232003 x232004 x232005 x232006 x232007).bind fun t240 => (if t240 = true then (skiarearef10_lifts.l0 k (wrap64 (x3 + 1)) x230000 x230001 x230002 x230003) else (some 1))) else (some t239)))
end
def skiarearef10_lifts.f (k : Nat) (l0_0 : List (S62)) (l0_1 : List (S82)) (l0_2 : List (S44)) (l0_3 : List Int) : Option (Int) := skiarearef10_lifts.l0 k 0 l0_0 l0_1 l0_2 l0_3
theorem skiarearef10_lifts.mono_l : ∀ k, (∀ y0 y1 y2 y3 y4, LeO (skiarearef10_lifts.l0 k y0 y1 y2 y3 y4) (skiarearef10_lifts.l0 (k + 1) y0 y1 y2 y3 y4)) ∧ (∀ y0 y1 y2 y3 y4 y5 y6 y7 y8 y9 y10 y11 y12 y13, LeO (skiarearef10_lifts.j1 k y0 y1 y2 y3 y4 y5 y6 y7 y8 y9 y10 y11 y12 y13) (skiarearef10_lifts.j1 (k + 1) y0 y1 y2 y3 y4 y5 y6 y7 y8 y9 y10 y11 y12 y13)) ∧ (∀ y0 y1 y2 y3 y4 y5 y6 y7 y8 y9 y10 y11 y12 y13, LeO (skiarearef10_lifts.j2 k y0 y1 y2 y3 y4 y5 y6 y7 y8 y9 y10 y11 y12 y13) (skiarearef10_lifts.j2 (k + 1) y0 y1 y2 y3 y4 y5 y6 y7 y8 y9 y10 y11 y12 y13))
 | 0 => ⟨fun _ _ _ _ _ r h => by simp [skiarearef10_lifts.l0] at h, fun _ _ _ _ _ _ _ _ _ _ _ _ _ _ r h => by simp [skiarearef10_lifts.j1] at h, fun _ _ _ _ _ _ _ _ _ _ _ _ _ _ r h => by simp [skiarearef10_lifts.j2] at h⟩
 | k + 1 => by
  obtain ⟨ih0, ih1, ih2⟩ := skiarearef10_lifts.mono_l k
  refine ⟨?_, ?_, ?_⟩
  ·intro y0 y1 y2 y3 y4
   unfold skiarearef10_lifts.l0
   repeat' first
   | (with_reducible exact ih0 _ _ _ _ _)
   | (with_reducible exact ih1 _ _ _ _ _ _ _ _ _ _ _ _ _ _)
   | (with_reducible exact ih2 _ _ _ _ _ _ _ _ _ _ _ _ _ _)
   | (with_reducible exact skiarearef10_rises.mono _ _ _ _ _ _ _)
   | (with_reducible exact LeO.refl _)
   | (with_reducible exact LeO.none _)
   | (with_reducible refine LeO.ite ?_ ?_)
   | (with_reducible refine LeO.bind ?_ (fun _ => ?_))
   | exact ih0 _ _ _ _ _
   | exact ih1 _ _ _ _ _ _ _ _ _ _ _ _ _ _
   | exact ih2 _ _ _ _ _ _ _ _ _ _ _ _ _ _
   | exact skiarearef10_rises.mono _ _ _ _ _ _ _
   | exact LeO.none _
   | refine LeO.ite ?_ ?_
   | refine LeO.bind ?_ (fun _ => ?_)
  ·intro y0 y1 y2 y3 y4 y5 y6 y7 y8 y9 y10 y11 y12 y13
   unfold skiarearef10_lifts.j1
   repeat' first
   | (with_reducible exact ih0 _ _ _ _ _)
   | (with_reducible exact ih1 _ _ _ _ _ _ _ _ _ _ _ _ _ _)
   | (with_reducible exact ih2 _ _ _ _ _ _ _ _ _ _ _ _ _ _)
   | (with_reducible exact skiarearef10_rises.mono _ _ _ _ _ _ _)
   | (with_reducible exact LeO.refl _)
   | (with_reducible exact LeO.none _)
   | (with_reducible refine LeO.ite ?_ ?_)
   | (with_reducible refine LeO.bind ?_ (fun _ => ?_))
   | exact ih0 _ _ _ _ _
   | exact ih1 _ _ _ _ _ _ _ _ _ _ _ _ _ _
   | exact ih2 _ _ _ _ _ _ _ _ _ _ _ _ _ _
   | exact skiarearef10_rises.mono _ _ _ _ _ _ _
   | exact LeO.none _
   | refine LeO.ite ?_ ?_
   | refine LeO.bind ?_ (fun _ => ?_)
  ·intro y0 y1 y2 y3 y4 y5 y6 y7 y8 y9 y10 y11 y12 y13
   unfold skiarearef10_lifts.j2
   repeat' first
   | (with_reducible exact ih0 _ _ _ _ _)
   | (with_reducible exact ih1 _ _ _ _ _ _ _ _ _ _ _ _ _ _)
   | (with_reducible exact ih2 _ _ _ _ _ _ _ _ _ _ _ _ _ _)
   | (with_reducible exact skiarearef10_rises.mono _ _ _ _ _ _ _)
   | (with_reducible exact LeO.refl _)
   | (with_reducible exact LeO.none _)
   | (with_reducible refine LeO.ite ?_ ?_)
   | (with_reducible refine LeO.bind ?_ (fun _ => ?_))
   | exact ih0 _ _ _ _ _
   | exact ih1 _ _ _ _ _ _ _ _ _ _ _ _ _ _
   | exact ih2 _ _ _ _ _ _ _ _ _ _ _ _ _ _
   | exact skiarearef10_rises.mono _ _ _ _ _ _ _
   | exact LeO.none _
   | refine LeO.ite ?_ ?_
   | refine LeO.bind ?_ (fun _ => ?_)
theorem skiarearef10_lifts.mono : ∀ a0 a1 a2 a3 k, LeO (skiarearef10_lifts.f k a0 a1 a2 a3) (skiarearef10_lifts.f (k + 1) a0 a1 a2 a3) := by
 intro a0 a1 a2 a3 k
 obtain ⟨ih0, ih1, ih2⟩ := skiarearef10_lifts.mono_l k
 unfold skiarearef10_lifts.f
 repeat' first
   | (with_reducible exact ih0 _ _ _ _ _)
   | (with_reducible exact ih1 _ _ _ _ _ _ _ _ _ _ _ _ _ _)
   | (with_reducible exact ih2 _ _ _ _ _ _ _ _ _ _ _ _ _ _)
   | (with_reducible exact skiarearef10_rises.mono _ _ _ _ _ _ _)
   | (with_reducible exact LeO.refl _)
   | (with_reducible exact LeO.none _)
   | (with_reducible refine LeO.ite ?_ ?_)
   | (with_reducible refine LeO.bind ?_ (fun _ => ?_))
   | exact ih0 _ _ _ _ _
   | exact ih1 _ _ _ _ _ _ _ _ _ _ _ _ _ _
   | exact ih2 _ _ _ _ _ _ _ _ _ _ _ _ _ _
   | exact skiarearef10_rises.mono _ _ _ _ _ _ _
   | exact LeO.none _
   | refine LeO.ite ?_ ?_
   | refine LeO.bind ?_ (fun _ => ?_)
set_option maxHeartbeats 8000000 in
set_option maxRecDepth 100000 in
theorem skiarearef10_lifts.calls (k : Nat) (A0_0 : Option Addr) (c0_0 : Nat) (l0_0 : List (S62)) (A0_1 : Option Addr) (c0_1 : Nat) (l0_1 : List (S82)) (A0_2 : Option Addr) (c0_2 : Nat) (l0_2 : List (S44)) (A0_3 : Option Addr) (c0_3 : Nat) (l0_3 : List Int) (r : Int) (w : World) (hr0_0 : Kd.C k62 w A0_0 l0_0.length l0_0) (hc0_0 : l0_0.length ≤ c0_0) (hr0_1 : Kd.C k82 w A0_1 l0_1.length l0_1) (hc0_1 : l0_1.length ≤ c0_1) (hr0_2 : Kd.C k44 w A0_2 l0_2.length l0_2) (hc0_2 : l0_2.length ≤ c0_2) (hr0_3 : Kd.C (Kd.int .i64) w A0_3 l0_3.length l0_3) (hc0_3 : l0_3.length ≤ c0_3) (h : skiarearef10_lifts.f k l0_0 l0_1 l0_2 l0_3 = some r) :
  Calls Try.prog 44 #[.agg #[.slice A0_0 l0_0.length c0_0, .slice A0_1 l0_1.length c0_1, .slice A0_2 l0_2.length c0_2, .slice A0_3 l0_3.length c0_3]] w fun e w' => e = .returned (.int .i64 r) ∧ Below w.heap.size w w' := by
 have hu38 := Try.underlying38
 have hu82 := Try.underlying82
 have HR0_0 := Aside0.mk hr0_0
 have HC0_0 := Aside0.mk hc0_0
 clear hr0_0 hc0_0
 have HR0_1 := Aside0.mk hr0_1
 have HC0_1 := Aside0.mk hc0_1
 clear hr0_1 hc0_1
 have HR0_2 := Aside0.mk hr0_2
 have HC0_2 := Aside0.mk hc0_2
 clear hr0_2 hc0_2
 have HR0_3 := Aside0.mk hr0_3
 have HC0_3 := Aside0.mk hc0_3
 clear hr0_3 hc0_3
 have HB := Aside0.mk (Below.refl w.heap.size w)
 have H : (skiarearef10_lifts.l0 k 0 l0_0 l0_1 l0_2 l0_3) = some r := h
 clear h
 have H' := Aside0.mk H
 clear H
 go_enter Try.func44, Try.ntmps44
 go_wp2_with (first | ((with_reducible refine gate_dst (N := 1) rfl ?_); refine box_event ?hg (N := 1) ?hd (cs := #[.slice A0_0 l0_0.length c0_0, .slice A0_1 l0_1.length c0_1, .slice A0_2 l0_2.length c0_2, .slice A0_3 l0_3.length c0_3]) (t := 38) ?hr ?_; (case hd => rfl); (case hg => rfl); (case hr => first | (go_simp; done) | (go_simp; rfl)); intro gb229 hg w2 hbox hb; have n0_ := Aside0.mk (below_step bel_ hb); have n1_ := Aside0.mk (hbox); have n2_ := Aside0.mk (bz_ hg : w.heap.size ≤ gb229); have n3_ := Aside0.mk (bz_ hg : w.heap.size ≤ gb229); clear HB; have HB := n0_; have BK229 := n1_; have GW229 := n2_; have GE229 := n3_; clear n0_ n1_ n2_ n3_; clear hb hbox hg))
 repeat (go_quiet (fail); try go_wp2_with (first | ((with_reducible refine gate_dst (N := 1) rfl ?_); refine box_event ?hg (N := 1) ?hd (cs := #[.slice A0_0 l0_0.length c0_0, .slice A0_1 l0_1.length c0_1, .slice A0_2 l0_2.length c0_2, .slice A0_3 l0_3.length c0_3]) (t := 38) ?hr ?_; (case hd => rfl); (case hg => rfl); (case hr => first | (go_simp; done) | (go_simp; rfl)); intro gb229 hg w2 hbox hb; have n0_ := Aside0.mk (below_step bel_ hb); have n1_ := Aside0.mk (hbox); have n2_ := Aside0.mk (bz_ hg : w.heap.size ≤ gb229); have n3_ := Aside0.mk (bz_ hg : w.heap.size ≤ gb229); clear HB; have HB := n0_; have BK229 := n1_; have GW229 := n2_; have GE229 := n3_; clear n0_ n1_ n2_ n3_; clear hb hbox hg)))
 go_loopg [3] k (fun kq v3 w' => ∃ (x3_1 : Int), v3 = .int .i64 x3_1 ∧ Aside0 (skiarearef10_lifts.l0 kq x3_1 l0_0 l0_1 l0_2 l0_3 = some r) ∧ Aside0 (kq ≤ k) ∧ Aside0 (w'.heap[gb229]? = some (.cells #[(.slice A0_0 l0_0.length c0_0), (.slice A0_1 l0_1.length c0_1), (.slice A0_2 l0_2.length c0_2), (.slice A0_3 l0_3.length c0_3)] 38 (0, 0))) ∧ Aside0 (Below w.heap.size w w'))
 case atStart => exact ⟨(0), (by first | rfl | (simp; done) | (simp [*]; done)), H', ⟨Nat.le_refl _⟩, ⟨by (with_reducible repeat (first | refine blk_drewN ?_ _ | refine blk_drew ?_ | refine blk_alloc ?_ _)); exact BK229.out⟩, ⟨by repeat (first | (with_reducible first | exact HB.out | apply below_alloc | apply pw_below_drewN | apply below_drew1 | refine below_set ?_ GE229.out) | exact HB.out)⟩⟩
 case round =>
  clear H'
  try clear p2
  obtain ⟨x3_1, rfl, HA, HK1, BK229, HB⟩ := hrel
  cases gk with
  | zero => exact absurd HA.out (by simp [skiarearef10_lifts.l0])
  | succ k1 =>
   have H := HA.out
   clear HA
   simp only [skiarearef10_lifts.l0] at H
   by_cases c3 : x3_1 < (l0_1.length : Int)
   ·rw [if_pos c3] at H
    have c3b0 : decide (x3_1 < (l0_1.length : Int)) = true := decide_eq_true c3
    clear c3
    by_cases c4 : 0 ≤ x3_1
    ·rw [if_pos c4] at H
     have c4b0 : decide (0 ≤ x3_1) = true := decide_eq_true c4
     clear c4
     have HC5 := Aside0.mk H
     clear H
     have hcz6_0 := cz_ BK229 0
     have hcz6_1 := cz_ BK229 1
     have hcz6_2 := cz_ BK229 2
     have hcz6_3 := cz_ BK229 3
     have hfz6_0 := fz_ BK229 0
     have hfz6_1 := fz_ BK229 1
     have hfz6_2 := fz_ BK229 2
     have hfz6_3 := fz_ BK229 3
     have p230 : 0 ≤ (x3_1 : Int) := od_
     have q230 : x3_1 < (l0_1.length : Int) := od_
     obtain ⟨ad230, e230, hx230_0, hx230_1, hx230_2, hx230_3, hx230_4, hx230_5, hx230_6, hx230_7⟩ := at_T82 HR0_1.out x3_1 p230 q230
     cases e230
     replace hx230_0 := pc_ hx230_0
     replace hx230_1 := pc_ hx230_1
     replace hx230_2 := pc_ hx230_2
     replace hx230_3 := pc_ hx230_3
     replace hx230_4 := pc_ hx230_4
     replace hx230_5 := pc_ hx230_5
     replace hx230_6 := pc_ hx230_6
     replace hx230_7 := pc_ hx230_7
     replace p230 := eq_true p230
     replace q230 := eq_true q230
     go_upto_region 5 with (first | ((with_reducible refine gate_dst (N := 4) rfl ?_); refine box_event ?hg (N := 4) ?hd (cs := #[.int .i64 0, .int .i64 0, .int .i64 0, .int .i64 0, .int .i64 0, .int .i64 0, .int .i64 0, .int .i64 0]) (t := 82) ?hr ?_; (case hd => rfl); (case hg => rfl); (case hr => first | (go_simp; done) | (go_simp; rfl)); intro gb231 hg w7 hbox hb; have n0_ := Aside0.mk (blk_below (g := gb229) (o := .cells #[.slice A0_0 l0_0.length c0_0, .slice (some ad230) l0_1.length c0_1, .slice A0_2 l0_2.length c0_2, .slice A0_3 l0_3.length c0_3] 38 (0, 0)) (by (with_reducible repeat (first | refine blk_drewN ?_ _ | refine blk_drew ?_ | refine blk_alloc ?_ _)); exact BK229.out) hb); have n1_ := Aside0.mk (below_step bel_ hb); have n2_ := Aside0.mk (hbox); have n3_ := Aside0.mk (bz_ hg : w.heap.size ≤ gb231); have n4_ := Aside0.mk (bz_ hg : w.heap.size ≤ gb231); have n5_ := Aside0.mk ((by rw [hg]; exact Nat.ne_of_lt (blk_lt (g := gb229) (o := .cells #[.slice A0_0 l0_0.length c0_0, .slice (some ad230) l0_1.length c0_1, .slice A0_2 l0_2.length c0_2, .slice A0_3 l0_3.length c0_3] 38 (0, 0)) (by (with_reducible repeat (first | refine blk_drewN ?_ _ | refine blk_drew ?_ | refine blk_alloc ?_ _)); exact BK229.out)) : gb229 ≠ gb231)); have n6_ := Aside0.mk ((by rw [hg]; exact Nat.ne_of_gt (blk_lt (g := gb229) (o := .cells #[.slice A0_0 l0_0.length c0_0, .slice (some ad230) l0_1.length c0_1, .slice A0_2 l0_2.length c0_2, .slice A0_3 l0_3.length c0_3] 38 (0, 0)) (by (with_reducible repeat (first | refine blk_drewN ?_ _ | refine blk_drew ?_ | refine blk_alloc ?_ _)); exact BK229.out)) : gb231 ≠ gb229)); clear BK229; clear HB; have BK229 := n0_; have HB := n1_; have BK231 := n2_; have GW231 := n3_; have GE231 := n4_; have NB229_231 := n5_; have NB231_229 := n6_; clear n0_ n1_ n2_ n3_ n4_ n5_ n6_; clear hb hbox hg; have hnb8 := NB231_229.out; have hnc8 := NB229_231.out; have hcz9_0 := cz_ BK231 0; have hcz9_1 := cz_ BK231 1; have hcz9_2 := cz_ BK231 2; have hcz9_3 := cz_ BK231 3; have hcz9_4 := cz_ BK231 4; have hcz9_5 := cz_ BK231 5; have hcz9_6 := cz_ BK231 6; have hcz9_7 := cz_ BK231 7; have hfz9_0 := fz_ BK231 0; have hfz9_1 := fz_ BK231 1; have hfz9_2 := fz_ BK231 2; have hfz9_3 := fz_ BK231 3; have hfz9_4 := fz_ BK231 4; have hfz9_5 := fz_ BK231 5; have hfz9_6 := fz_ BK231 6; have hfz9_7 := fz_ BK231 7))
     repeat (go_quiet (first | ((with_reducible refine gate_dst (N := 4) rfl ?_); refine box_event ?hg (N := 4) ?hd (cs := #[.int .i64 0, .int .i64 0, .int .i64 0, .int .i64 0, .int .i64 0, .int .i64 0, .int .i64 0, .int .i64 0]) (t := 82) ?hr ?_; (case hd => rfl); (case hg => rfl); (case hr => first | (go_simp; done) | (go_simp; rfl)); intro gb231 hg w7 hbox hb; have n0_ := Aside0.mk (blk_below (g := gb229) (o := .cells #[.slice A0_0 l0_0.length c0_0, .slice (some ad230) l0_1.length c0_1, .slice A0_2 l0_2.length c0_2, .slice A0_3 l0_3.length c0_3] 38 (0, 0)) (by (with_reducible repeat (first | refine blk_drewN ?_ _ | refine blk_drew ?_ | refine blk_alloc ?_ _)); exact BK229.out) hb); have n1_ := Aside0.mk (below_step bel_ hb); have n2_ := Aside0.mk (hbox); have n3_ := Aside0.mk (bz_ hg : w.heap.size ≤ gb231); have n4_ := Aside0.mk (bz_ hg : w.heap.size ≤ gb231); have n5_ := Aside0.mk ((by rw [hg]; exact Nat.ne_of_lt (blk_lt (g := gb229) (o := .cells #[.slice A0_0 l0_0.length c0_0, .slice (some ad230) l0_1.length c0_1, .slice A0_2 l0_2.length c0_2, .slice A0_3 l0_3.length c0_3] 38 (0, 0)) (by (with_reducible repeat (first | refine blk_drewN ?_ _ | refine blk_drew ?_ | refine blk_alloc ?_ _)); exact BK229.out)) : gb229 ≠ gb231)); have n6_ := Aside0.mk ((by rw [hg]; exact Nat.ne_of_gt (blk_lt (g := gb229) (o := .cells #[.slice A0_0 l0_0.length c0_0, .slice (some ad230) l0_1.length c0_1, .slice A0_2 l0_2.length c0_2, .slice A0_3 l0_3.length c0_3] 38 (0, 0)) (by (with_reducible repeat (first | refine blk_drewN ?_ _ | refine blk_drew ?_ | refine blk_alloc ?_ _)); exact BK229.out)) : gb231 ≠ gb229)); clear BK229; clear HB; have BK229 := n0_; have HB := n1_; have BK231 := n2_; have GW231 := n3_; have GE231 := n4_; have NB229_231 := n5_; have NB231_229 := n6_; clear n0_ n1_ n2_ n3_ n4_ n5_ n6_; clear hb hbox hg; have hnb8 := NB231_229.out; have hnc8 := NB229_231.out; have hcz9_0 := cz_ BK231 0; have hcz9_1 := cz_ BK231 1; have hcz9_2 := cz_ BK231 2; have hcz9_3 := cz_ BK231 3; have hcz9_4 := cz_ BK231 4; have hcz9_5 := cz_ BK231 5; have hcz9_6 := cz_ BK231 6; have hcz9_7 := cz_ BK231 7; have hfz9_0 := fz_ BK231 0; have hfz9_1 := fz_ BK231 1; have hfz9_2 := fz_ BK231 2; have hfz9_3 := fz_ BK231 3; have hfz9_4 := fz_ BK231 4; have hfz9_5 := fz_ BK231 5; have hfz9_6 := fz_ BK231 6; have hfz9_7 := fz_ BK231 7)); go_upto_region 5 with (first | ((with_reducible refine gate_dst (N := 4) rfl ?_); refine box_event ?hg (N := 4) ?hd (cs := #[.int .i64 0, .int .i64 0, .int .i64 0, .int .i64 0, .int .i64 0, .int .i64 0, .int .i64 0, .int .i64 0]) (t := 82) ?hr ?_; (case hd => rfl); (case hg => rfl); (case hr => first | (go_simp; done) | (go_simp; rfl)); intro gb231 hg w7 hbox hb; have n0_ := Aside0.mk (blk_below (g := gb229) (o := .cells #[.slice A0_0 l0_0.length c0_0, .slice (some ad230) l0_1.length c0_1, .slice A0_2 l0_2.length c0_2, .slice A0_3 l0_3.length c0_3] 38 (0, 0)) (by (with_reducible repeat (first | refine blk_drewN ?_ _ | refine blk_drew ?_ | refine blk_alloc ?_ _)); exact BK229.out) hb); have n1_ := Aside0.mk (below_step bel_ hb); have n2_ := Aside0.mk (hbox); have n3_ := Aside0.mk (bz_ hg : w.heap.size ≤ gb231); have n4_ := Aside0.mk (bz_ hg : w.heap.size ≤ gb231); have n5_ := Aside0.mk ((by rw [hg]; exact Nat.ne_of_lt (blk_lt (g := gb229) (o := .cells #[.slice A0_0 l0_0.length c0_0, .slice (some ad230) l0_1.length c0_1, .slice A0_2 l0_2.length c0_2, .slice A0_3 l0_3.length c0_3] 38 (0, 0)) (by (with_reducible repeat (first | refine blk_drewN ?_ _ | refine blk_drew ?_ | refine blk_alloc ?_ _)); exact BK229.out)) : gb229 ≠ gb231)); have n6_ := Aside0.mk ((by rw [hg]; exact Nat.ne_of_gt (blk_lt (g := gb229) (o := .cells #[.slice A0_0 l0_0.length c0_0, .slice (some ad230) l0_1.length c0_1, .slice A0_2 l0_2.length c0_2, .slice A0_3 l0_3.length c0_3] 38 (0, 0)) (by (with_reducible repeat (first | refine blk_drewN ?_ _ | refine blk_drew ?_ | refine blk_alloc ?_ _)); exact BK229.out)) : gb231 ≠ gb229)); clear BK229; clear HB; have BK229 := n0_; have HB := n1_; have BK231 := n2_; have GW231 := n3_; have GE231 := n4_; have NB229_231 := n5_; have NB231_229 := n6_; clear n0_ n1_ n2_ n3_ n4_ n5_ n6_; clear hb hbox hg; have hnb8 := NB231_229.out; have hnc8 := NB229_231.out; have hcz9_0 := cz_ BK231 0; have hcz9_1 := cz_ BK231 1; have hcz9_2 := cz_ BK231 2; have hcz9_3 := cz_ BK231 3; have hcz9_4 := cz_ BK231 4; have hcz9_5 := cz_ BK231 5; have hcz9_6 := cz_ BK231 6; have hcz9_7 := cz_ BK231 7; have hfz9_0 := fz_ BK231 0; have hfz9_1 := fz_ BK231 1; have hfz9_2 := fz_ BK231 2; have hfz9_3 := fz_ BK231 3; have hfz9_4 := fz_ BK231 4; have hfz9_5 := fz_ BK231 5; have hfz9_6 := fz_ BK231 6; have hfz9_7 := fz_ BK231 7)))
     (try simp only [Act.put, List.setIfInBounds_toArray, List.set_cons_zero, List.set_cons_succ])
     go_cut [51] (fun v51 wc => ∃ (kq : Nat) (x51_4 : Bool), v51 = .bool x51_4 ∧ Aside0 (skiarearef10_lifts.j1 kq x3_1 x51_4 l0_0 l0_1 l0_2 l0_3 ((rd_T82 l0_1 x3_1).f0) ((rd_T82 l0_1 x3_1).f1) ((rd_T82 l0_1 x3_1).f2) ((rd_T82 l0_1 x3_1).f3) ((rd_T82 l0_1 x3_1).f4) ((rd_T82 l0_1 x3_1).f5) ((rd_T82 l0_1 x3_1).f6) ((rd_T82 l0_1 x3_1).f7) = some r) ∧ Aside0 (kq ≤ k1) ∧ Aside0 (wc.heap[gb229]? = some (.cells #[(.slice A0_0 l0_0.length c0_0), (.slice (some ad230) l0_1.length c0_1), (.slice A0_2 l0_2.length c0_2), (.slice A0_3 l0_3.length c0_3)] 38 (0, 0))) ∧ Aside0 (wc.heap[gb231]? = some (.cells #[.int .i64 ((rd_T82 l0_1 x3_1).f0), .int .i64 ((rd_T82 l0_1 x3_1).f1), .int .i64 ((rd_T82 l0_1 x3_1).f2), .int .i64 ((rd_T82 l0_1 x3_1).f3), .int .i64 ((rd_T82 l0_1 x3_1).f4), .int .i64 ((rd_T82 l0_1 x3_1).f5), .int .i64 ((rd_T82 l0_1 x3_1).f6), .int .i64 ((rd_T82 l0_1 x3_1).f7)] 82 (0, 0))) ∧ Aside0 (Below w.heap.size w wc))
     case first =>
      have H := HC5.out
      clear HC5
      replace H := Option.bind_eq_some_iff.mp H
      obtain ⟨t232, A100, H⟩ := H
      replace H : (if t232 = true then ((skiarearef10_in.f ((rd_T82 l0_1 x3_1).f1) 1 8).bind fun t233 => (if t233 = true then ((skiarearef10_in.f ((rd_T82 l0_1 x3_1).f4) 10 6000).bind fun t234 => (if t234 = true then ((skiarearef10_in.f ((rd_T82 l0_1 x3_1).f5) 500 12000).bind fun t235 => (if t235 = true then ((skiarearef10_in.f ((rd_T82 l0_1 x3_1).f6) 1 16).bind fun t236 => (if t236 = true then ((skiarearef10_in.f ((rd_T82 l0_1 x3_1).f7) 5 1000).bind fun t237 => (skiarearef10_lifts.j1 k1 x3_1 (!t237) l0_0 l0_1 l0_2 l0_3 ((rd_T82 l0_1 x3_1).f0) ((rd_T82 l0_1 x3_1).f1) ((rd_T82 l0_1 x3_1).f2) ((rd_T82 l0_1 x3_1).f3) ((rd_T82 l0_1 x3_1).f4) ((rd_T82 l0_1 x3_1).f5) ((rd_T82 l0_1 x3_1).f6) ((rd_T82 l0_1 x3_1).f7))) else (skiarearef10_lifts.j1 k1 x3_1 true l0_0 l0_1 l0_2 l0_3 ((rd_T82 l0_1 x3_1).f0) ((rd_T82 l0_1 x3_1).f1) ((rd_T82 l0_1 x3_1).f2) ((rd_T82 l0_1 x3_1).f3) ((rd_T82 l0_1 x3_1).f4) ((rd_T82 l0_1 x3_1).f5) ((rd_T82 l0_1 x3_1).f6) ((rd_T82 l0_1 x3_1).f7)))) else (skiarearef10_lifts.j1 k1 x3_1 true l0_0 l0_1 l0_2 l0_3 ((rd_T82 l0_1 x3_1).f0) ((rd_T82 l0_1 x3_1).f1) ((rd_T82 l0_1 x3_1).f2) ((rd_T82 l0_1 x3_1).f3) ((rd_T82 l0_1 x3_1).f4) ((rd_T82 l0_1 x3_1).f5) ((rd_T82 l0_1 x3_1).f6) ((rd_T82 l0_1 x3_1).f7)))) else (skiarearef10_lifts.j1 k1 x3_1 true l0_0 l0_1 l0_2 l0_3 ((rd_T82 l0_1 x3_1).f0) ((rd_T82 l0_1 x3_1).f1) ((rd_T82 l0_1 x3_1).f2) ((rd_T82 l0_1 x3_1).f3) ((rd_T82 l0_1 x3_1).f4) ((rd_T82 l0_1 x3_1).f5) ((rd_T82 l0_1 x3_1).f6) ((rd_T82 l0_1 x3_1).f7)))) else (skiarearef10_lifts.j1 k1 x3_1 true l0_0 l0_1 l0_2 l0_3 ((rd_T82 l0_1 x3_1).f0) ((rd_T82 l0_1 x3_1).f1) ((rd_T82 l0_1 x3_1).f2) ((rd_T82 l0_1 x3_1).f3) ((rd_T82 l0_1 x3_1).f4) ((rd_T82 l0_1 x3_1).f5) ((rd_T82 l0_1 x3_1).f6) ((rd_T82 l0_1 x3_1).f7)))) else (skiarearef10_lifts.j1 k1 x3_1 true l0_0 l0_1 l0_2 l0_3 ((rd_T82 l0_1 x3_1).f0) ((rd_T82 l0_1 x3_1).f1) ((rd_T82 l0_1 x3_1).f2) ((rd_T82 l0_1 x3_1).f3) ((rd_T82 l0_1 x3_1).f4) ((rd_T82 l0_1 x3_1).f5) ((rd_T82 l0_1 x3_1).f6) ((rd_T82 l0_1 x3_1).f7))) = some r := H
      have A10 := Aside0.mk A100
      clear A100
      by_cases c11 : t232 = true
      ·subst c11
       have H1 : ((skiarearef10_in.f ((rd_T82 l0_1 x3_1).f1) 1 8).bind fun t233 => (if t233 = true then ((skiarearef10_in.f ((rd_T82 l0_1 x3_1).f4) 10 6000).bind fun t234 => (if t234 = true then ((skiarearef10_in.f ((rd_T82 l0_1 x3_1).f5) 500 12000).bind fun t235 => (if t235 = true then ((skiarearef10_in.f ((rd_T82 l0_1 x3_1).f6) 1 16).bind fun t236 => (if t236 = true then ((skiarearef10_in.f ((rd_T82 l0_1 x3_1).f7) 5 1000).bind fun t237 => (skiarearef10_lifts.j1 k1 x3_1 (!t237) l0_0 l0_1 l0_2 l0_3 ((rd_T82 l0_1 x3_1).f0) ((rd_T82 l0_1 x3_1).f1) ((rd_T82 l0_1 x3_1).f2) ((rd_T82 l0_1 x3_1).f3) ((rd_T82 l0_1 x3_1).f4) ((rd_T82 l0_1 x3_1).f5) ((rd_T82 l0_1 x3_1).f6) ((rd_T82 l0_1 x3_1).f7))) else (skiarearef10_lifts.j1 k1 x3_1 true l0_0 l0_1 l0_2 l0_3 ((rd_T82 l0_1 x3_1).f0) ((rd_T82 l0_1 x3_1).f1) ((rd_T82 l0_1 x3_1).f2) ((rd_T82 l0_1 x3_1).f3) ((rd_T82 l0_1 x3_1).f4) ((rd_T82 l0_1 x3_1).f5) ((rd_T82 l0_1 x3_1).f6) ((rd_T82 l0_1 x3_1).f7)))) else (skiarearef10_lifts.j1 k1 x3_1 true l0_0 l0_1 l0_2 l0_3 ((rd_T82 l0_1 x3_1).f0) ((rd_T82 l0_1 x3_1).f1) ((rd_T82 l0_1 x3_1).f2) ((rd_T82 l0_1 x3_1).f3) ((rd_T82 l0_1 x3_1).f4) ((rd_T82 l0_1 x3_1).f5) ((rd_T82 l0_1 x3_1).f6) ((rd_T82 l0_1 x3_1).f7)))) else (skiarearef10_lifts.j1 k1 x3_1 true l0_0 l0_1 l0_2 l0_3 ((rd_T82 l0_1 x3_1).f0) ((rd_T82 l0_1 x3_1).f1) ((rd_T82 l0_1 x3_1).f2) ((rd_T82 l0_1 x3_1).f3) ((rd_T82 l0_1 x3_1).f4) ((rd_T82 l0_1 x3_1).f5) ((rd_T82 l0_1 x3_1).f6) ((rd_T82 l0_1 x3_1).f7)))) else (skiarearef10_lifts.j1 k1 x3_1 true l0_0 l0_1 l0_2 l0_3 ((rd_T82 l0_1 x3_1).f0) ((rd_T82 l0_1 x3_1).f1) ((rd_T82 l0_1 x3_1).f2) ((rd_T82 l0_1 x3_1).f3) ((rd_T82 l0_1 x3_1).f4) ((rd_T82 l0_1 x3_1).f5) ((rd_T82 l0_1 x3_1).f6) ((rd_T82 l0_1 x3_1).f7)))) = some r := by rw [if_pos rfl] at H; exact H
       clear H
       have H := H1
       clear H1
       replace H := Option.bind_eq_some_iff.mp H
       obtain ⟨t233, A120, H⟩ := H
       replace H : (if t233 = true then ((skiarearef10_in.f ((rd_T82 l0_1 x3_1).f4) 10 6000).bind fun t234 => (if t234 = true then ((skiarearef10_in.f ((rd_T82 l0_1 x3_1).f5) 500 12000).bind fun t235 => (if t235 = true then ((skiarearef10_in.f ((rd_T82 l0_1 x3_1).f6) 1 16).bind fun t236 => (if t236 = true then ((skiarearef10_in.f ((rd_T82 l0_1 x3_1).f7) 5 1000).bind fun t237 => (skiarearef10_lifts.j1 k1 x3_1 (!t237) l0_0 l0_1 l0_2 l0_3 ((rd_T82 l0_1 x3_1).f0) ((rd_T82 l0_1 x3_1).f1) ((rd_T82 l0_1 x3_1).f2) ((rd_T82 l0_1 x3_1).f3) ((rd_T82 l0_1 x3_1).f4) ((rd_T82 l0_1 x3_1).f5) ((rd_T82 l0_1 x3_1).f6) ((rd_T82 l0_1 x3_1).f7))) else (skiarearef10_lifts.j1 k1 x3_1 true l0_0 l0_1 l0_2 l0_3 ((rd_T82 l0_1 x3_1).f0) ((rd_T82 l0_1 x3_1).f1) ((rd_T82 l0_1 x3_1).f2) ((rd_T82 l0_1 x3_1).f3) ((rd_T82 l0_1 x3_1).f4) ((rd_T82 l0_1 x3_1).f5) ((rd_T82 l0_1 x3_1).f6) ((rd_T82 l0_1 x3_1).f7)))) else (skiarearef10_lifts.j1 k1 x3_1 true l0_0 l0_1 l0_2 l0_3 ((rd_T82 l0_1 x3_1).f0) ((rd_T82 l0_1 x3_1).f1) ((rd_T82 l0_1 x3_1).f2) ((rd_T82 l0_1 x3_1).f3) ((rd_T82 l0_1 x3_1).f4) ((rd_T82 l0_1 x3_1).f5) ((rd_T82 l0_1 x3_1).f6) ((rd_T82 l0_1 x3_1).f7)))) else (skiarearef10_lifts.j1 k1 x3_1 true l0_0 l0_1 l0_2 l0_3 ((rd_T82 l0_1 x3_1).f0) ((rd_T82 l0_1 x3_1).f1) ((rd_T82 l0_1 x3_1).f2) ((rd_T82 l0_1 x3_1).f3) ((rd_T82 l0_1 x3_1).f4) ((rd_T82 l0_1 x3_1).f5) ((rd_T82 l0_1 x3_1).f6) ((rd_T82 l0_1 x3_1).f7)))) else (skiarearef10_lifts.j1 k1 x3_1 true l0_0 l0_1 l0_2 l0_3 ((rd_T82 l0_1 x3_1).f0) ((rd_T82 l0_1 x3_1).f1) ((rd_T82 l0_1 x3_1).f2) ((rd_T82 l0_1 x3_1).f3) ((rd_T82 l0_1 x3_1).f4) ((rd_T82 l0_1 x3_1).f5) ((rd_T82 l0_1 x3_1).f6) ((rd_T82 l0_1 x3_1).f7))) = some r := H
       have A12 := Aside0.mk A120
       clear A120
       by_cases c13 : t233 = true
       ·subst c13
        have H1 : ((skiarearef10_in.f ((rd_T82 l0_1 x3_1).f4) 10 6000).bind fun t234 => (if t234 = true then ((skiarearef10_in.f ((rd_T82 l0_1 x3_1).f5) 500 12000).bind fun t235 => (if t235 = true then ((skiarearef10_in.f ((rd_T82 l0_1 x3_1).f6) 1 16).bind fun t236 => (if t236 = true then ((skiarearef10_in.f ((rd_T82 l0_1 x3_1).f7) 5 1000).bind fun t237 => (skiarearef10_lifts.j1 k1 x3_1 (!t237) l0_0 l0_1 l0_2 l0_3 ((rd_T82 l0_1 x3_1).f0) ((rd_T82 l0_1 x3_1).f1) ((rd_T82 l0_1 x3_1).f2) ((rd_T82 l0_1 x3_1).f3) ((rd_T82 l0_1 x3_1).f4) ((rd_T82 l0_1 x3_1).f5) ((rd_T82 l0_1 x3_1).f6) ((rd_T82 l0_1 x3_1).f7))) else (skiarearef10_lifts.j1 k1 x3_1 true l0_0 l0_1 l0_2 l0_3 ((rd_T82 l0_1 x3_1).f0) ((rd_T82 l0_1 x3_1).f1) ((rd_T82 l0_1 x3_1).f2) ((rd_T82 l0_1 x3_1).f3) ((rd_T82 l0_1 x3_1).f4) ((rd_T82 l0_1 x3_1).f5) ((rd_T82 l0_1 x3_1).f6) ((rd_T82 l0_1 x3_1).f7)))) else (skiarearef10_lifts.j1 k1 x3_1 true l0_0 l0_1 l0_2 l0_3 ((rd_T82 l0_1 x3_1).f0) ((rd_T82 l0_1 x3_1).f1) ((rd_T82 l0_1 x3_1).f2) ((rd_T82 l0_1 x3_1).f3) ((rd_T82 l0_1 x3_1).f4) ((rd_T82 l0_1 x3_1).f5) ((rd_T82 l0_1 x3_1).f6) ((rd_T82 l0_1 x3_1).f7)))) else (skiarearef10_lifts.j1 k1 x3_1 true l0_0 l0_1 l0_2 l0_3 ((rd_T82 l0_1 x3_1).f0) ((rd_T82 l0_1 x3_1).f1) ((rd_T82 l0_1 x3_1).f2) ((rd_T82 l0_1 x3_1).f3) ((rd_T82 l0_1 x3_1).f4) ((rd_T82 l0_1 x3_1).f5) ((rd_T82 l0_1 x3_1).f6) ((rd_T82 l0_1 x3_1).f7)))) = some r := by rw [if_pos rfl] at H; exact H
        clear H
        have H := H1
        clear H1
        replace H := Option.bind_eq_some_iff.mp H
        obtain ⟨t234, A140, H⟩ := H
        replace H : (if t234 = true then ((skiarearef10_in.f ((rd_T82 l0_1 x3_1).f5) 500 12000).bind fun t235 => (if t235 = true then ((skiarearef10_in.f ((rd_T82 l0_1 x3_1).f6) 1 16).bind fun t236 => (if t236 = true then ((skiarearef10_in.f ((rd_T82 l0_1 x3_1).f7) 5 1000).bind fun t237 => (skiarearef10_lifts.j1 k1 x3_1 (!t237) l0_0 l0_1 l0_2 l0_3 ((rd_T82 l0_1 x3_1).f0) ((rd_T82 l0_1 x3_1).f1) ((rd_T82 l0_1 x3_1).f2) ((rd_T82 l0_1 x3_1).f3) ((rd_T82 l0_1 x3_1).f4) ((rd_T82 l0_1 x3_1).f5) ((rd_T82 l0_1 x3_1).f6) ((rd_T82 l0_1 x3_1).f7))) else (skiarearef10_lifts.j1 k1 x3_1 true l0_0 l0_1 l0_2 l0_3 ((rd_T82 l0_1 x3_1).f0) ((rd_T82 l0_1 x3_1).f1) ((rd_T82 l0_1 x3_1).f2) ((rd_T82 l0_1 x3_1).f3) ((rd_T82 l0_1 x3_1).f4) ((rd_T82 l0_1 x3_1).f5) ((rd_T82 l0_1 x3_1).f6) ((rd_T82 l0_1 x3_1).f7)))) else (skiarearef10_lifts.j1 k1 x3_1 true l0_0 l0_1 l0_2 l0_3 ((rd_T82 l0_1 x3_1).f0) ((rd_T82 l0_1 x3_1).f1) ((rd_T82 l0_1 x3_1).f2) ((rd_T82 l0_1 x3_1).f3) ((rd_T82 l0_1 x3_1).f4) ((rd_T82 l0_1 x3_1).f5) ((rd_T82 l0_1 x3_1).f6) ((rd_T82 l0_1 x3_1).f7)))) else (skiarearef10_lifts.j1 k1 x3_1 true l0_0 l0_1 l0_2 l0_3 ((rd_T82 l0_1 x3_1).f0) ((rd_T82 l0_1 x3_1).f1) ((rd_T82 l0_1 x3_1).f2) ((rd_T82 l0_1 x3_1).f3) ((rd_T82 l0_1 x3_1).f4) ((rd_T82 l0_1 x3_1).f5) ((rd_T82 l0_1 x3_1).f6) ((rd_T82 l0_1 x3_1).f7))) = some r := H
        have A14 := Aside0.mk A140
        clear A140
        by_cases c15 : t234 = true
        ·subst c15
         have H1 : ((skiarearef10_in.f ((rd_T82 l0_1 x3_1).f5) 500 12000).bind fun t235 => (if t235 = true then ((skiarearef10_in.f ((rd_T82 l0_1 x3_1).f6) 1 16).bind fun t236 => (if t236 = true then ((skiarearef10_in.f ((rd_T82 l0_1 x3_1).f7) 5 1000).bind fun t237 => (skiarearef10_lifts.j1 k1 x3_1 (!t237) l0_0 l0_1 l0_2 l0_3 ((rd_T82 l0_1 x3_1).f0) ((rd_T82 l0_1 x3_1).f1) ((rd_T82 l0_1 x3_1).f2) ((rd_T82 l0_1 x3_1).f3) ((rd_T82 l0_1 x3_1).f4) ((rd_T82 l0_1 x3_1).f5) ((rd_T82 l0_1 x3_1).f6) ((rd_T82 l0_1 x3_1).f7))) else (skiarearef10_lifts.j1 k1 x3_1 true l0_0 l0_1 l0_2 l0_3 ((rd_T82 l0_1 x3_1).f0) ((rd_T82 l0_1 x3_1).f1) ((rd_T82 l0_1 x3_1).f2) ((rd_T82 l0_1 x3_1).f3) ((rd_T82 l0_1 x3_1).f4) ((rd_T82 l0_1 x3_1).f5) ((rd_T82 l0_1 x3_1).f6) ((rd_T82 l0_1 x3_1).f7)))) else (skiarearef10_lifts.j1 k1 x3_1 true l0_0 l0_1 l0_2 l0_3 ((rd_T82 l0_1 x3_1).f0) ((rd_T82 l0_1 x3_1).f1) ((rd_T82 l0_1 x3_1).f2) ((rd_T82 l0_1 x3_1).f3) ((rd_T82 l0_1 x3_1).f4) ((rd_T82 l0_1 x3_1).f5) ((rd_T82 l0_1 x3_1).f6) ((rd_T82 l0_1 x3_1).f7)))) = some r := by rw [if_pos rfl] at H; exact H
         clear H
         have H := H1
         clear H1
         replace H := Option.bind_eq_some_iff.mp H
         obtain ⟨t235, A160, H⟩ := H
         replace H : (if t235 = true then ((skiarearef10_in.f ((rd_T82 l0_1 x3_1).f6) 1 16).bind fun t236 => (if t236 = true then ((skiarearef10_in.f ((rd_T82 l0_1 x3_1).f7) 5 1000).bind fun t237 => (skiarearef10_lifts.j1 k1 x3_1 (!t237) l0_0 l0_1 l0_2 l0_3 ((rd_T82 l0_1 x3_1).f0) ((rd_T82 l0_1 x3_1).f1) ((rd_T82 l0_1 x3_1).f2) ((rd_T82 l0_1 x3_1).f3) ((rd_T82 l0_1 x3_1).f4) ((rd_T82 l0_1 x3_1).f5) ((rd_T82 l0_1 x3_1).f6) ((rd_T82 l0_1 x3_1).f7))) else (skiarearef10_lifts.j1 k1 x3_1 true l0_0 l0_1 l0_2 l0_3 ((rd_T82 l0_1 x3_1).f0) ((rd_T82 l0_1 x3_1).f1) ((rd_T82 l0_1 x3_1).f2) ((rd_T82 l0_1 x3_1).f3) ((rd_T82 l0_1 x3_1).f4) ((rd_T82 l0_1 x3_1).f5) ((rd_T82 l0_1 x3_1).f6) ((rd_T82 l0_1 x3_1).f7)))) else (skiarearef10_lifts.j1 k1 x3_1 true l0_0 l0_1 l0_2 l0_3 ((rd_T82 l0_1 x3_1).f0) ((rd_T82 l0_1 x3_1).f1) ((rd_T82 l0_1 x3_1).f2) ((rd_T82 l0_1 x3_1).f3) ((rd_T82 l0_1 x3_1).f4) ((rd_T82 l0_1 x3_1).f5) ((rd_T82 l0_1 x3_1).f6) ((rd_T82 l0_1 x3_1).f7))) = some r := H
         have A16 := Aside0.mk A160
         clear A160
         by_cases c17 : t235 = true
         ·subst c17
          have H1 : ((skiarearef10_in.f ((rd_T82 l0_1 x3_1).f6) 1 16).bind fun t236 => (if t236 = true then ((skiarearef10_in.f ((rd_T82 l0_1 x3_1).f7) 5 1000).bind fun t237 => (skiarearef10_lifts.j1 k1 x3_1 (!t237) l0_0 l0_1 l0_2 l0_3 ((rd_T82 l0_1 x3_1).f0) ((rd_T82 l0_1 x3_1).f1) ((rd_T82 l0_1 x3_1).f2) ((rd_T82 l0_1 x3_1).f3) ((rd_T82 l0_1 x3_1).f4) ((rd_T82 l0_1 x3_1).f5) ((rd_T82 l0_1 x3_1).f6) ((rd_T82 l0_1 x3_1).f7))) else (skiarearef10_lifts.j1 k1 x3_1 true l0_0 l0_1 l0_2 l0_3 ((rd_T82 l0_1 x3_1).f0) ((rd_T82 l0_1 x3_1).f1) ((rd_T82 l0_1 x3_1).f2) ((rd_T82 l0_1 x3_1).f3) ((rd_T82 l0_1 x3_1).f4) ((rd_T82 l0_1 x3_1).f5) ((rd_T82 l0_1 x3_1).f6) ((rd_T82 l0_1 x3_1).f7)))) = some r := by rw [if_pos rfl] at H; exact H
          clear H
          have H := H1
          clear H1
          replace H := Option.bind_eq_some_iff.mp H
          obtain ⟨t236, A180, H⟩ := H
          replace H : (if t236 = true then ((skiarearef10_in.f ((rd_T82 l0_1 x3_1).f7) 5 1000).bind fun t237 => (skiarearef10_lifts.j1 k1 x3_1 (!t237) l0_0 l0_1 l0_2 l0_3 ((rd_T82 l0_1 x3_1).f0) ((rd_T82 l0_1 x3_1).f1) ((rd_T82 l0_1 x3_1).f2) ((rd_T82 l0_1 x3_1).f3) ((rd_T82 l0_1 x3_1).f4) ((rd_T82 l0_1 x3_1).f5) ((rd_T82 l0_1 x3_1).f6) ((rd_T82 l0_1 x3_1).f7))) else (skiarearef10_lifts.j1 k1 x3_1 true l0_0 l0_1 l0_2 l0_3 ((rd_T82 l0_1 x3_1).f0) ((rd_T82 l0_1 x3_1).f1) ((rd_T82 l0_1 x3_1).f2) ((rd_T82 l0_1 x3_1).f3) ((rd_T82 l0_1 x3_1).f4) ((rd_T82 l0_1 x3_1).f5) ((rd_T82 l0_1 x3_1).f6) ((rd_T82 l0_1 x3_1).f7))) = some r := H
          have A18 := Aside0.mk A180
          clear A180
          by_cases c19 : t236 = true
          ·subst c19
           have H1 : ((skiarearef10_in.f ((rd_T82 l0_1 x3_1).f7) 5 1000).bind fun t237 => (skiarearef10_lifts.j1 k1 x3_1 (!t237) l0_0 l0_1 l0_2 l0_3 ((rd_T82 l0_1 x3_1).f0) ((rd_T82 l0_1 x3_1).f1) ((rd_T82 l0_1 x3_1).f2) ((rd_T82 l0_1 x3_1).f3) ((rd_T82 l0_1 x3_1).f4) ((rd_T82 l0_1 x3_1).f5) ((rd_T82 l0_1 x3_1).f6) ((rd_T82 l0_1 x3_1).f7))) = some r := by rw [if_pos rfl] at H; exact H
           clear H
           have H := H1
           clear H1
           replace H := Option.bind_eq_some_iff.mp H
           obtain ⟨t237, A200, H⟩ := H
           replace H : (skiarearef10_lifts.j1 k1 x3_1 (!t237) l0_0 l0_1 l0_2 l0_3 ((rd_T82 l0_1 x3_1).f0) ((rd_T82 l0_1 x3_1).f1) ((rd_T82 l0_1 x3_1).f2) ((rd_T82 l0_1 x3_1).f3) ((rd_T82 l0_1 x3_1).f4) ((rd_T82 l0_1 x3_1).f5) ((rd_T82 l0_1 x3_1).f6) ((rd_T82 l0_1 x3_1).f7)) = some r := H
           have A20 := Aside0.mk A200
           clear A200
           have H' := Aside0.mk H
           clear H
           have hnb21 := NB231_229.out
           have hnc21 := NB229_231.out
           have hcz22_0 := cz_ BK231 0
           have hcz22_1 := cz_ BK231 1
           have hcz22_2 := cz_ BK231 2
           have hcz22_3 := cz_ BK231 3
           have hcz22_4 := cz_ BK231 4
           have hcz22_5 := cz_ BK231 5
           have hcz22_6 := cz_ BK231 6
           have hcz22_7 := cz_ BK231 7
           have hfz22_0 := fz_ BK231 0
           have hfz22_1 := fz_ BK231 1
           have hfz22_2 := fz_ BK231 2
           have hfz22_3 := fz_ BK231 3
           have hfz22_4 := fz_ BK231 4
           have hfz22_5 := fz_ BK231 5
           have hfz22_6 := fz_ BK231 6
           have hfz22_7 := fz_ BK231 7
           go_wp2_with (first | (go_at_call 56; (with_reducible refine (skiarearef10_in.calls ((rd_T82 l0_1 x3_1).f0) 1 9999 true _ A10.out).mono ?_); rintro e w' ⟨rfl, ⟨nd, rfl⟩⟩; (try first | exact ⟨rfl, _, World.drewN_drewN _ _ _⟩ | exact ⟨rfl, _, Eq.trans (World.drewN_drewN _ _ _) (congrArg (World.drewN _) (Nat.add_assoc _ _ _))⟩)) | (go_at_call 56; (with_reducible refine (skiarearef10_in.calls ((rd_T82 l0_1 x3_1).f1) 1 8 true _ A12.out).mono ?_); rintro e w' ⟨rfl, ⟨nd, rfl⟩⟩; (try first | exact ⟨rfl, _, World.drewN_drewN _ _ _⟩ | exact ⟨rfl, _, Eq.trans (World.drewN_drewN _ _ _) (congrArg (World.drewN _) (Nat.add_assoc _ _ _))⟩)) | (go_at_call 56; (with_reducible refine (skiarearef10_in.calls ((rd_T82 l0_1 x3_1).f4) 10 6000 true _ A14.out).mono ?_); rintro e w' ⟨rfl, ⟨nd, rfl⟩⟩; (try first | exact ⟨rfl, _, World.drewN_drewN _ _ _⟩ | exact ⟨rfl, _, Eq.trans (World.drewN_drewN _ _ _) (congrArg (World.drewN _) (Nat.add_assoc _ _ _))⟩)) | (go_at_call 56; (with_reducible refine (skiarearef10_in.calls ((rd_T82 l0_1 x3_1).f5) 500 12000 true _ A16.out).mono ?_); rintro e w' ⟨rfl, ⟨nd, rfl⟩⟩; (try first | exact ⟨rfl, _, World.drewN_drewN _ _ _⟩ | exact ⟨rfl, _, Eq.trans (World.drewN_drewN _ _ _) (congrArg (World.drewN _) (Nat.add_assoc _ _ _))⟩)) | (go_at_call 56; (with_reducible refine (skiarearef10_in.calls ((rd_T82 l0_1 x3_1).f6) 1 16 true _ A18.out).mono ?_); rintro e w' ⟨rfl, ⟨nd, rfl⟩⟩; (try first | exact ⟨rfl, _, World.drewN_drewN _ _ _⟩ | exact ⟨rfl, _, Eq.trans (World.drewN_drewN _ _ _) (congrArg (World.drewN _) (Nat.add_assoc _ _ _))⟩)) | (go_at_call 56; (with_reducible refine (skiarearef10_in.calls ((rd_T82 l0_1 x3_1).f7) 5 1000 t237 _ A20.out).mono ?_); rintro e w' ⟨rfl, ⟨nd, rfl⟩⟩; (try first | exact ⟨rfl, _, World.drewN_drewN _ _ _⟩ | exact ⟨rfl, _, Eq.trans (World.drewN_drewN _ _ _) (congrArg (World.drewN _) (Nat.add_assoc _ _ _))⟩)))
           repeat (go_quiet (fail); try go_wp2_with (first | (go_at_call 56; (with_reducible refine (skiarearef10_in.calls ((rd_T82 l0_1 x3_1).f0) 1 9999 true _ A10.out).mono ?_); rintro e w' ⟨rfl, ⟨nd, rfl⟩⟩; (try first | exact ⟨rfl, _, World.drewN_drewN _ _ _⟩ | exact ⟨rfl, _, Eq.trans (World.drewN_drewN _ _ _) (congrArg (World.drewN _) (Nat.add_assoc _ _ _))⟩)) | (go_at_call 56; (with_reducible refine (skiarearef10_in.calls ((rd_T82 l0_1 x3_1).f1) 1 8 true _ A12.out).mono ?_); rintro e w' ⟨rfl, ⟨nd, rfl⟩⟩; (try first | exact ⟨rfl, _, World.drewN_drewN _ _ _⟩ | exact ⟨rfl, _, Eq.trans (World.drewN_drewN _ _ _) (congrArg (World.drewN _) (Nat.add_assoc _ _ _))⟩)) | (go_at_call 56; (with_reducible refine (skiarearef10_in.calls ((rd_T82 l0_1 x3_1).f4) 10 6000 true _ A14.out).mono ?_); rintro e w' ⟨rfl, ⟨nd, rfl⟩⟩; (try first | exact ⟨rfl, _, World.drewN_drewN _ _ _⟩ | exact ⟨rfl, _, Eq.trans (World.drewN_drewN _ _ _) (congrArg (World.drewN _) (Nat.add_assoc _ _ _))⟩)) | (go_at_call 56; (with_reducible refine (skiarearef10_in.calls ((rd_T82 l0_1 x3_1).f5) 500 12000 true _ A16.out).mono ?_); rintro e w' ⟨rfl, ⟨nd, rfl⟩⟩; (try first | exact ⟨rfl, _, World.drewN_drewN _ _ _⟩ | exact ⟨rfl, _, Eq.trans (World.drewN_drewN _ _ _) (congrArg (World.drewN _) (Nat.add_assoc _ _ _))⟩)) | (go_at_call 56; (with_reducible refine (skiarearef10_in.calls ((rd_T82 l0_1 x3_1).f6) 1 16 true _ A18.out).mono ?_); rintro e w' ⟨rfl, ⟨nd, rfl⟩⟩; (try first | exact ⟨rfl, _, World.drewN_drewN _ _ _⟩ | exact ⟨rfl, _, Eq.trans (World.drewN_drewN _ _ _) (congrArg (World.drewN _) (Nat.add_assoc _ _ _))⟩)) | (go_at_call 56; (with_reducible refine (skiarearef10_in.calls ((rd_T82 l0_1 x3_1).f7) 5 1000 t237 _ A20.out).mono ?_); rintro e w' ⟨rfl, ⟨nd, rfl⟩⟩; (try first | exact ⟨rfl, _, World.drewN_drewN _ _ _⟩ | exact ⟨rfl, _, Eq.trans (World.drewN_drewN _ _ _) (congrArg (World.drewN _) (Nat.add_assoc _ _ _))⟩))))
           go_meet
           case rel => exact ⟨_, (!t237), (by first | rfl | (simp; done) | (simp [*]; done)), H', ⟨by have := HK1.out; first | omega | exact Nat.le_refl _⟩, ⟨by (with_reducible repeat (first | refine blk_drewN ?_ _ | refine blk_drew ?_ | refine blk_alloc ?_ _)); refine blk_far ?_ NB229_231.out _; (with_reducible repeat (first | refine blk_drewN ?_ _ | refine blk_drew ?_ | refine blk_alloc ?_ _)); refine blk_far ?_ NB229_231.out _; (with_reducible repeat (first | refine blk_drewN ?_ _ | refine blk_drew ?_ | refine blk_alloc ?_ _)); refine blk_far ?_ NB229_231.out _; (with_reducible repeat (first | refine blk_drewN ?_ _ | refine blk_drew ?_ | refine blk_alloc ?_ _)); refine blk_far ?_ NB229_231.out _; (with_reducible repeat (first | refine blk_drewN ?_ _ | refine blk_drew ?_ | refine blk_alloc ?_ _)); refine blk_far ?_ NB229_231.out _; (with_reducible repeat (first | refine blk_drewN ?_ _ | refine blk_drew ?_ | refine blk_alloc ?_ _)); refine blk_far ?_ NB229_231.out _; (with_reducible repeat (first | refine blk_drewN ?_ _ | refine blk_drew ?_ | refine blk_alloc ?_ _)); refine blk_far ?_ NB229_231.out _; (with_reducible repeat (first | refine blk_drewN ?_ _ | refine blk_drew ?_ | refine blk_alloc ?_ _)); refine blk_far ?_ NB229_231.out _; (with_reducible repeat (first | refine blk_drewN ?_ _ | refine blk_drew ?_ | refine blk_alloc ?_ _)); exact BK229.out⟩, ⟨by (with_reducible repeat (first | refine blk_drewN ?_ _ | refine blk_drew ?_ | refine blk_alloc ?_ _)); refine blk_put (cs := #[.int .i64 ((rd_T82 l0_1 x3_1).f0), .int .i64 ((rd_T82 l0_1 x3_1).f1), .int .i64 ((rd_T82 l0_1 x3_1).f2), .int .i64 ((rd_T82 l0_1 x3_1).f3), .int .i64 ((rd_T82 l0_1 x3_1).f4), .int .i64 ((rd_T82 l0_1 x3_1).f5), .int .i64 ((rd_T82 l0_1 x3_1).f6), .int .i64 0]) ?_ 7 _ rfl; (with_reducible repeat (first | refine blk_drewN ?_ _ | refine blk_drew ?_ | refine blk_alloc ?_ _)); refine blk_put (cs := #[.int .i64 ((rd_T82 l0_1 x3_1).f0), .int .i64 ((rd_T82 l0_1 x3_1).f1), .int .i64 ((rd_T82 l0_1 x3_1).f2), .int .i64 ((rd_T82 l0_1 x3_1).f3), .int .i64 ((rd_T82 l0_1 x3_1).f4), .int .i64 ((rd_T82 l0_1 x3_1).f5), .int .i64 0, .int .i64 0]) ?_ 6 _ rfl; (with_reducible repeat (first | refine blk_drewN ?_ _ | refine blk_drew ?_ | refine blk_alloc ?_ _)); refine blk_put (cs := #[.int .i64 ((rd_T82 l0_1 x3_1).f0), .int .i64 ((rd_T82 l0_1 x3_1).f1), .int .i64 ((rd_T82 l0_1 x3_1).f2), .int .i64 ((rd_T82 l0_1 x3_1).f3), .int .i64 ((rd_T82 l0_1 x3_1).f4), .int .i64 0, .int .i64 0, .int .i64 0]) ?_ 5 _ rfl; (with_reducible repeat (first | refine blk_drewN ?_ _ | refine blk_drew ?_ | refine blk_alloc ?_ _)); refine blk_put (cs := #[.int .i64 ((rd_T82 l0_1 x3_1).f0), .int .i64 ((rd_T82 l0_1 x3_1).f1), .int .i64 ((rd_T82 l0_1 x3_1).f2), .int .i64 ((rd_T82 l0_1 x3_1).f3), .int .i64 0, .int .i64 0, .int .i64 0, .int .i64 0]) ?_ 4 _ rfl; (with_reducible repeat (first | refine blk_drewN ?_ _ | refine blk_drew ?_ | refine blk_alloc ?_ _)); refine blk_put (cs := #[.int .i64 ((rd_T82 l0_1 x3_1).f0), .int .i64 ((rd_T82 l0_1 x3_1).f1), .int .i64 ((rd_T82 l0_1 x3_1).f2), .int .i64 0, .int .i64 0, .int .i64 0, .int .i64 0, .int .i64 0]) ?_ 3 _ rfl; (with_reducible repeat (first | refine blk_drewN ?_ _ | refine blk_drew ?_ | refine blk_alloc ?_ _)); refine blk_put (cs := #[.int .i64 ((rd_T82 l0_1 x3_1).f0), .int .i64 ((rd_T82 l0_1 x3_1).f1), .int .i64 0, .int .i64 0, .int .i64 0, .int .i64 0, .int .i64 0, .int .i64 0]) ?_ 2 _ rfl; (with_reducible repeat (first | refine blk_drewN ?_ _ | refine blk_drew ?_ | refine blk_alloc ?_ _)); refine blk_put (cs := #[.int .i64 ((rd_T82 l0_1 x3_1).f0), .int .i64 0, .int .i64 0, .int .i64 0, .int .i64 0, .int .i64 0, .int .i64 0, .int .i64 0]) ?_ 1 _ rfl; (with_reducible repeat (first | refine blk_drewN ?_ _ | refine blk_drew ?_ | refine blk_alloc ?_ _)); refine blk_put (cs := #[.int .i64 0, .int .i64 0, .int .i64 0, .int .i64 0, .int .i64 0, .int .i64 0, .int .i64 0, .int .i64 0]) ?_ 0 _ rfl; (with_reducible repeat (first | refine blk_drewN ?_ _ | refine blk_drew ?_ | refine blk_alloc ?_ _)); exact BK231.out⟩, ⟨by repeat (first | (with_reducible first | exact HB.out | apply below_alloc | apply pw_below_drewN | apply below_drew1 | refine below_set ?_ GE229.out | refine below_set ?_ GE231.out) | exact HB.out)⟩⟩
          ·replace c19 := Bool.eq_false_iff.mpr c19
           subst c19
           have H1 : (skiarearef10_lifts.j1 k1 x3_1 true l0_0 l0_1 l0_2 l0_3 ((rd_T82 l0_1 x3_1).f0) ((rd_T82 l0_1 x3_1).f1) ((rd_T82 l0_1 x3_1).f2) ((rd_T82 l0_1 x3_1).f3) ((rd_T82 l0_1 x3_1).f4) ((rd_T82 l0_1 x3_1).f5) ((rd_T82 l0_1 x3_1).f6) ((rd_T82 l0_1 x3_1).f7)) = some r := by rw [if_neg (show ¬ (false = true) by decide)] at H; exact H
           clear H
           have H := H1
           clear H1
           have H' := Aside0.mk H
           clear H
           have hnb23 := NB231_229.out
           have hnc23 := NB229_231.out
           have hcz24_0 := cz_ BK231 0
           have hcz24_1 := cz_ BK231 1
           have hcz24_2 := cz_ BK231 2
           have hcz24_3 := cz_ BK231 3
           have hcz24_4 := cz_ BK231 4
           have hcz24_5 := cz_ BK231 5
           have hcz24_6 := cz_ BK231 6
           have hcz24_7 := cz_ BK231 7
           have hfz24_0 := fz_ BK231 0
           have hfz24_1 := fz_ BK231 1
           have hfz24_2 := fz_ BK231 2
           have hfz24_3 := fz_ BK231 3
           have hfz24_4 := fz_ BK231 4
           have hfz24_5 := fz_ BK231 5
           have hfz24_6 := fz_ BK231 6
           have hfz24_7 := fz_ BK231 7
           go_wp2_with (first | (go_at_call 56; (with_reducible refine (skiarearef10_in.calls ((rd_T82 l0_1 x3_1).f0) 1 9999 true _ A10.out).mono ?_); rintro e w' ⟨rfl, ⟨nd, rfl⟩⟩; (try first | exact ⟨rfl, _, World.drewN_drewN _ _ _⟩ | exact ⟨rfl, _, Eq.trans (World.drewN_drewN _ _ _) (congrArg (World.drewN _) (Nat.add_assoc _ _ _))⟩)) | (go_at_call 56; (with_reducible refine (skiarearef10_in.calls ((rd_T82 l0_1 x3_1).f1) 1 8 true _ A12.out).mono ?_); rintro e w' ⟨rfl, ⟨nd, rfl⟩⟩; (try first | exact ⟨rfl, _, World.drewN_drewN _ _ _⟩ | exact ⟨rfl, _, Eq.trans (World.drewN_drewN _ _ _) (congrArg (World.drewN _) (Nat.add_assoc _ _ _))⟩)) | (go_at_call 56; (with_reducible refine (skiarearef10_in.calls ((rd_T82 l0_1 x3_1).f4) 10 6000 true _ A14.out).mono ?_); rintro e w' ⟨rfl, ⟨nd, rfl⟩⟩; (try first | exact ⟨rfl, _, World.drewN_drewN _ _ _⟩ | exact ⟨rfl, _, Eq.trans (World.drewN_drewN _ _ _) (congrArg (World.drewN _) (Nat.add_assoc _ _ _))⟩)) | (go_at_call 56; (with_reducible refine (skiarearef10_in.calls ((rd_T82 l0_1 x3_1).f5) 500 12000 true _ A16.out).mono ?_); rintro e w' ⟨rfl, ⟨nd, rfl⟩⟩; (try first | exact ⟨rfl, _, World.drewN_drewN _ _ _⟩ | exact ⟨rfl, _, Eq.trans (World.drewN_drewN _ _ _) (congrArg (World.drewN _) (Nat.add_assoc _ _ _))⟩)) | (go_at_call 56; (with_reducible refine (skiarearef10_in.calls ((rd_T82 l0_1 x3_1).f6) 1 16 false _ A18.out).mono ?_); rintro e w' ⟨rfl, ⟨nd, rfl⟩⟩; (try first | exact ⟨rfl, _, World.drewN_drewN _ _ _⟩ | exact ⟨rfl, _, Eq.trans (World.drewN_drewN _ _ _) (congrArg (World.drewN _) (Nat.add_assoc _ _ _))⟩)))
           repeat (go_quiet (fail); try go_wp2_with (first | (go_at_call 56; (with_reducible refine (skiarearef10_in.calls ((rd_T82 l0_1 x3_1).f0) 1 9999 true _ A10.out).mono ?_); rintro e w' ⟨rfl, ⟨nd, rfl⟩⟩; (try first | exact ⟨rfl, _, World.drewN_drewN _ _ _⟩ | exact ⟨rfl, _, Eq.trans (World.drewN_drewN _ _ _) (congrArg (World.drewN _) (Nat.add_assoc _ _ _))⟩)) | (go_at_call 56; (with_reducible refine (skiarearef10_in.calls ((rd_T82 l0_1 x3_1).f1) 1 8 true _ A12.out).mono ?_); rintro e w' ⟨rfl, ⟨nd, rfl⟩⟩; (try first | exact ⟨rfl, _, World.drewN_drewN _ _ _⟩ | exact ⟨rfl, _, Eq.trans (World.drewN_drewN _ _ _) (congrArg (World.drewN _) (Nat.add_assoc _ _ _))⟩)) | (go_at_call 56; (with_reducible refine (skiarearef10_in.calls ((rd_T82 l0_1 x3_1).f4) 10 6000 true _ A14.out).mono ?_); rintro e w' ⟨rfl, ⟨nd, rfl⟩⟩; (try first | exact ⟨rfl, _, World.drewN_drewN _ _ _⟩ | exact ⟨rfl, _, Eq.trans (World.drewN_drewN _ _ _) (congrArg (World.drewN _) (Nat.add_assoc _ _ _))⟩)) | (go_at_call 56; (with_reducible refine (skiarearef10_in.calls ((rd_T82 l0_1 x3_1).f5) 500 12000 true _ A16.out).mono ?_); rintro e w' ⟨rfl, ⟨nd, rfl⟩⟩; (try first | exact ⟨rfl, _, World.drewN_drewN _ _ _⟩ | exact ⟨rfl, _, Eq.trans (World.drewN_drewN _ _ _) (congrArg (World.drewN _) (Nat.add_assoc _ _ _))⟩)) | (go_at_call 56; (with_reducible refine (skiarearef10_in.calls ((rd_T82 l0_1 x3_1).f6) 1 16 false _ A18.out).mono ?_); rintro e w' ⟨rfl, ⟨nd, rfl⟩⟩; (try first | exact ⟨rfl, _, World.drewN_drewN _ _ _⟩ | exact ⟨rfl, _, Eq.trans (World.drewN_drewN _ _ _) (congrArg (World.drewN _) (Nat.add_assoc _ _ _))⟩))))
           go_meet
           case rel => exact ⟨_, (true), (by first | rfl | (simp; done) | (simp [*]; done)), H', ⟨by have := HK1.out; first | omega | exact Nat.le_refl _⟩, ⟨by (with_reducible repeat (first | refine blk_drewN ?_ _ | refine blk_drew ?_ | refine blk_alloc ?_ _)); refine blk_far ?_ NB229_231.out _; (with_reducible repeat (first | refine blk_drewN ?_ _ | refine blk_drew ?_ | refine blk_alloc ?_ _)); refine blk_far ?_ NB229_231.out _; (with_reducible repeat (first | refine blk_drewN ?_ _ | refine blk_drew ?_ | refine blk_alloc ?_ _)); refine blk_far ?_ NB229_231.out _; (with_reducible repeat (first | refine blk_drewN ?_ _ | refine blk_drew ?_ | refine blk_alloc ?_ _)); refine blk_far ?_ NB229_231.out _; (with_reducible repeat (first | refine blk_drewN ?_ _ | refine blk_drew ?_ | refine blk_alloc ?_ _)); refine blk_far ?_ NB229_231.out _; (with_reducible repeat (first | refine blk_drewN ?_ _ | refine blk_drew ?_ | refine blk_alloc ?_ _)); refine blk_far ?_ NB229_231.out _; (with_reducible repeat (first | refine blk_drewN ?_ _ | refine blk_drew ?_ | refine blk_alloc ?_ _)); refine blk_far ?_ NB229_231.out _; (with_reducible repeat (first | refine blk_drewN ?_ _ | refine blk_drew ?_ | refine blk_alloc ?_ _)); refine blk_far ?_ NB229_231.out _; (with_reducible repeat (first | refine blk_drewN ?_ _ | refine blk_drew ?_ | refine blk_alloc ?_ _)); exact BK229.out⟩, ⟨by (with_reducible repeat (first | refine blk_drewN ?_ _ | refine blk_drew ?_ | refine blk_alloc ?_ _)); refine blk_put (cs := #[.int .i64 ((rd_T82 l0_1 x3_1).f0), .int .i64 ((rd_T82 l0_1 x3_1).f1), .int .i64 ((rd_T82 l0_1 x3_1).f2), .int .i64 ((rd_T82 l0_1 x3_1).f3), .int .i64 ((rd_T82 l0_1 x3_1).f4), .int .i64 ((rd_T82 l0_1 x3_1).f5), .int .i64 ((rd_T82 l0_1 x3_1).f6), .int .i64 0]) ?_ 7 _ rfl; (with_reducible repeat (first | refine blk_drewN ?_ _ | refine blk_drew ?_ | refine blk_alloc ?_ _)); refine blk_put (cs := #[.int .i64 ((rd_T82 l0_1 x3_1).f0), .int .i64 ((rd_T82 l0_1 x3_1).f1), .int .i64 ((rd_T82 l0_1 x3_1).f2), .int .i64 ((rd_T82 l0_1 x3_1).f3), .int .i64 ((rd_T82 l0_1 x3_1).f4), .int .i64 ((rd_T82 l0_1 x3_1).f5), .int .i64 0, .int .i64 0]) ?_ 6 _ rfl; (with_reducible repeat (first | refine blk_drewN ?_ _ | refine blk_drew ?_ | refine blk_alloc ?_ _)); refine blk_put (cs := #[.int .i64 ((rd_T82 l0_1 x3_1).f0), .int .i64 ((rd_T82 l0_1 x3_1).f1), .int .i64 ((rd_T82 l0_1 x3_1).f2), .int .i64 ((rd_T82 l0_1 x3_1).f3), .int .i64 ((rd_T82 l0_1 x3_1).f4), .int .i64 0, .int .i64 0, .int .i64 0]) ?_ 5 _ rfl; (with_reducible repeat (first | refine blk_drewN ?_ _ | refine blk_drew ?_ | refine blk_alloc ?_ _)); refine blk_put (cs := #[.int .i64 ((rd_T82 l0_1 x3_1).f0), .int .i64 ((rd_T82 l0_1 x3_1).f1), .int .i64 ((rd_T82 l0_1 x3_1).f2), .int .i64 ((rd_T82 l0_1 x3_1).f3), .int .i64 0, .int .i64 0, .int .i64 0, .int .i64 0]) ?_ 4 _ rfl; (with_reducible repeat (first | refine blk_drewN ?_ _ | refine blk_drew ?_ | refine blk_alloc ?_ _)); refine blk_put (cs := #[.int .i64 ((rd_T82 l0_1 x3_1).f0), .int .i64 ((rd_T82 l0_1 x3_1).f1), .int .i64 ((rd_T82 l0_1 x3_1).f2), .int .i64 0, .int .i64 0, .int .i64 0, .int .i64 0, .int .i64 0]) ?_ 3 _ rfl; (with_reducible repeat (first | refine blk_drewN ?_ _ | refine blk_drew ?_ | refine blk_alloc ?_ _)); refine blk_put (cs := #[.int .i64 ((rd_T82 l0_1 x3_1).f0), .int .i64 ((rd_T82 l0_1 x3_1).f1), .int .i64 0, .int .i64 0, .int .i64 0, .int .i64 0, .int .i64 0, .int .i64 0]) ?_ 2 _ rfl; (with_reducible repeat (first | refine blk_drewN ?_ _ | refine blk_drew ?_ | refine blk_alloc ?_ _)); refine blk_put (cs := #[.int .i64 ((rd_T82 l0_1 x3_1).f0), .int .i64 0, .int .i64 0, .int .i64 0, .int .i64 0, .int .i64 0, .int .i64 0, .int .i64 0]) ?_ 1 _ rfl; (with_reducible repeat (first | refine blk_drewN ?_ _ | refine blk_drew ?_ | refine blk_alloc ?_ _)); refine blk_put (cs := #[.int .i64 0, .int .i64 0, .int .i64 0, .int .i64 0, .int .i64 0, .int .i64 0, .int .i64 0, .int .i64 0]) ?_ 0 _ rfl; (with_reducible repeat (first | refine blk_drewN ?_ _ | refine blk_drew ?_ | refine blk_alloc ?_ _)); exact BK231.out⟩, ⟨by repeat (first | (with_reducible first | exact HB.out | apply below_alloc | apply pw_below_drewN | apply below_drew1 | refine below_set ?_ GE229.out | refine below_set ?_ GE231.out) | exact HB.out)⟩⟩
         ·replace c17 := Bool.eq_false_iff.mpr c17
          subst c17
          have H1 : (skiarearef10_lifts.j1 k1 x3_1 true l0_0 l0_1 l0_2 l0_3 ((rd_T82 l0_1 x3_1).f0) ((rd_T82 l0_1 x3_1).f1) ((rd_T82 l0_1 x3_1).f2) ((rd_T82 l0_1 x3_1).f3) ((rd_T82 l0_1 x3_1).f4) ((rd_T82 l0_1 x3_1).f5) ((rd_T82 l0_1 x3_1).f6) ((rd_T82 l0_1 x3_1).f7)) = some r := by rw [if_neg (show ¬ (false = true) by decide)] at H; exact H
          clear H
          have H := H1
          clear H1
          have H' := Aside0.mk H
          clear H
          have hnb25 := NB231_229.out
          have hnc25 := NB229_231.out
          have hcz26_0 := cz_ BK231 0
          have hcz26_1 := cz_ BK231 1
          have hcz26_2 := cz_ BK231 2
          have hcz26_3 := cz_ BK231 3
          have hcz26_4 := cz_ BK231 4
          have hcz26_5 := cz_ BK231 5
          have hcz26_6 := cz_ BK231 6
          have hcz26_7 := cz_ BK231 7
          have hfz26_0 := fz_ BK231 0
          have hfz26_1 := fz_ BK231 1
          have hfz26_2 := fz_ BK231 2
          have hfz26_3 := fz_ BK231 3
          have hfz26_4 := fz_ BK231 4
          have hfz26_5 := fz_ BK231 5
          have hfz26_6 := fz_ BK231 6
          have hfz26_7 := fz_ BK231 7
          go_wp2_with (first | (go_at_call 56; (with_reducible refine (skiarearef10_in.calls ((rd_T82 l0_1 x3_1).f0) 1 9999 true _ A10.out).mono ?_); rintro e w' ⟨rfl, ⟨nd, rfl⟩⟩; (try first | exact ⟨rfl, _, World.drewN_drewN _ _ _⟩ | exact ⟨rfl, _, Eq.trans (World.drewN_drewN _ _ _) (congrArg (World.drewN _) (Nat.add_assoc _ _ _))⟩)) | (go_at_call 56; (with_reducible refine (skiarearef10_in.calls ((rd_T82 l0_1 x3_1).f1) 1 8 true _ A12.out).mono ?_); rintro e w' ⟨rfl, ⟨nd, rfl⟩⟩; (try first | exact ⟨rfl, _, World.drewN_drewN _ _ _⟩ | exact ⟨rfl, _, Eq.trans (World.drewN_drewN _ _ _) (congrArg (World.drewN _) (Nat.add_assoc _ _ _))⟩)) | (go_at_call 56; (with_reducible refine (skiarearef10_in.calls ((rd_T82 l0_1 x3_1).f4) 10 6000 true _ A14.out).mono ?_); rintro e w' ⟨rfl, ⟨nd, rfl⟩⟩; (try first | exact ⟨rfl, _, World.drewN_drewN _ _ _⟩ | exact ⟨rfl, _, Eq.trans (World.drewN_drewN _ _ _) (congrArg (World.drewN _) (Nat.add_assoc _ _ _))⟩)) | (go_at_call 56; (with_reducible refine (skiarearef10_in.calls ((rd_T82 l0_1 x3_1).f5) 500 12000 false _ A16.out).mono ?_); rintro e w' ⟨rfl, ⟨nd, rfl⟩⟩; (try first | exact ⟨rfl, _, World.drewN_drewN _ _ _⟩ | exact ⟨rfl, _, Eq.trans (World.drewN_drewN _ _ _) (congrArg (World.drewN _) (Nat.add_assoc _ _ _))⟩)))
          repeat (go_quiet (fail); try go_wp2_with (first | (go_at_call 56; (with_reducible refine (skiarearef10_in.calls ((rd_T82 l0_1 x3_1).f0) 1 9999 true _ A10.out).mono ?_); rintro e w' ⟨rfl, ⟨nd, rfl⟩⟩; (try first | exact ⟨rfl, _, World.drewN_drewN _ _ _⟩ | exact ⟨rfl, _, Eq.trans (World.drewN_drewN _ _ _) (congrArg (World.drewN _) (Nat.add_assoc _ _ _))⟩)) | (go_at_call 56; (with_reducible refine (skiarearef10_in.calls ((rd_T82 l0_1 x3_1).f1) 1 8 true _ A12.out).mono ?_); rintro e w' ⟨rfl, ⟨nd, rfl⟩⟩; (try first | exact ⟨rfl, _, World.drewN_drewN _ _ _⟩ | exact ⟨rfl, _, Eq.trans (World.drewN_drewN _ _ _) (congrArg (World.drewN _) (Nat.add_assoc _ _ _))⟩)) | (go_at_call 56; (with_reducible refine (skiarearef10_in.calls ((rd_T82 l0_1 x3_1).f4) 10 6000 true _ A14.out).mono ?_); rintro e w' ⟨rfl, ⟨nd, rfl⟩⟩; (try first | exact ⟨rfl, _, World.drewN_drewN _ _ _⟩ | exact ⟨rfl, _, Eq.trans (World.drewN_drewN _ _ _) (congrArg (World.drewN _) (Nat.add_assoc _ _ _))⟩)) | (go_at_call 56; (with_reducible refine (skiarearef10_in.calls ((rd_T82 l0_1 x3_1).f5) 500 12000 false _ A16.out).mono ?_); rintro e w' ⟨rfl, ⟨nd, rfl⟩⟩; (try first | exact ⟨rfl, _, World.drewN_drewN _ _ _⟩ | exact ⟨rfl, _, Eq.trans (World.drewN_drewN _ _ _) (congrArg (World.drewN _) (Nat.add_assoc _ _ _))⟩))))
          go_meet
          case rel => exact ⟨_, (true), (by first | rfl | (simp; done) | (simp [*]; done)), H', ⟨by have := HK1.out; first | omega | exact Nat.le_refl _⟩, ⟨by (with_reducible repeat (first | refine blk_drewN ?_ _ | refine blk_drew ?_ | refine blk_alloc ?_ _)); refine blk_far ?_ NB229_231.out _; (with_reducible repeat (first | refine blk_drewN ?_ _ | refine blk_drew ?_ | refine blk_alloc ?_ _)); refine blk_far ?_ NB229_231.out _; (with_reducible repeat (first | refine blk_drewN ?_ _ | refine blk_drew ?_ | refine blk_alloc ?_ _)); refine blk_far ?_ NB229_231.out _; (with_reducible repeat (first | refine blk_drewN ?_ _ | refine blk_drew ?_ | refine blk_alloc ?_ _)); refine blk_far ?_ NB229_231.out _; (with_reducible repeat (first | refine blk_drewN ?_ _ | refine blk_drew ?_ | refine blk_alloc ?_ _)); refine blk_far ?_ NB229_231.out _; (with_reducible repeat (first | refine blk_drewN ?_ _ | refine blk_drew ?_ | refine blk_alloc ?_ _)); refine blk_far ?_ NB229_231.out _; (with_reducible repeat (first | refine blk_drewN ?_ _ | refine blk_drew ?_ | refine blk_alloc ?_ _)); refine blk_far ?_ NB229_231.out _; (with_reducible repeat (first | refine blk_drewN ?_ _ | refine blk_drew ?_ | refine blk_alloc ?_ _)); refine blk_far ?_ NB229_231.out _; (with_reducible repeat (first | refine blk_drewN ?_ _ | refine blk_drew ?_ | refine blk_alloc ?_ _)); exact BK229.out⟩, ⟨by (with_reducible repeat (first | refine blk_drewN ?_ _ | refine blk_drew ?_ | refine blk_alloc ?_ _)); refine blk_put (cs := #[.int .i64 ((rd_T82 l0_1 x3_1).f0), .int .i64 ((rd_T82 l0_1 x3_1).f1), .int .i64 ((rd_T82 l0_1 x3_1).f2), .int .i64 ((rd_T82 l0_1 x3_1).f3), .int .i64 ((rd_T82 l0_1 x3_1).f4), .int .i64 ((rd_T82 l0_1 x3_1).f5), .int .i64 ((rd_T82 l0_1 x3_1).f6), .int .i64 0]) ?_ 7 _ rfl; (with_reducible repeat (first | refine blk_drewN ?_ _ | refine blk_drew ?_ | refine blk_alloc ?_ _)); refine blk_put (cs := #[.int .i64 ((rd_T82 l0_1 x3_1).f0), .int .i64 ((rd_T82 l0_1 x3_1).f1), .int .i64 ((rd_T82 l0_1 x3_1).f2), .int .i64 ((rd_T82 l0_1 x3_1).f3), .int .i64 ((rd_T82 l0_1 x3_1).f4), .int .i64 ((rd_T82 l0_1 x3_1).f5), .int .i64 0, .int .i64 0]) ?_ 6 _ rfl; (with_reducible repeat (first | refine blk_drewN ?_ _ | refine blk_drew ?_ | refine blk_alloc ?_ _)); refine blk_put (cs := #[.int .i64 ((rd_T82 l0_1 x3_1).f0), .int .i64 ((rd_T82 l0_1 x3_1).f1), .int .i64 ((rd_T82 l0_1 x3_1).f2), .int .i64 ((rd_T82 l0_1 x3_1).f3), .int .i64 ((rd_T82 l0_1 x3_1).f4), .int .i64 0, .int .i64 0, .int .i64 0]) ?_ 5 _ rfl; (with_reducible repeat (first | refine blk_drewN ?_ _ | refine blk_drew ?_ | refine blk_alloc ?_ _)); refine blk_put (cs := #[.int .i64 ((rd_T82 l0_1 x3_1).f0), .int .i64 ((rd_T82 l0_1 x3_1).f1), .int .i64 ((rd_T82 l0_1 x3_1).f2), .int .i64 ((rd_T82 l0_1 x3_1).f3), .int .i64 0, .int .i64 0, .int .i64 0, .int .i64 0]) ?_ 4 _ rfl; (with_reducible repeat (first | refine blk_drewN ?_ _ | refine blk_drew ?_ | refine blk_alloc ?_ _)); refine blk_put (cs := #[.int .i64 ((rd_T82 l0_1 x3_1).f0), .int .i64 ((rd_T82 l0_1 x3_1).f1), .int .i64 ((rd_T82 l0_1 x3_1).f2), .int .i64 0, .int .i64 0, .int .i64 0, .int .i64 0, .int .i64 0]) ?_ 3 _ rfl; (with_reducible repeat (first | refine blk_drewN ?_ _ | refine blk_drew ?_ | refine blk_alloc ?_ _)); refine blk_put (cs := #[.int .i64 ((rd_T82 l0_1 x3_1).f0), .int .i64 ((rd_T82 l0_1 x3_1).f1), .int .i64 0, .int .i64 0, .int .i64 0, .int .i64 0, .int .i64 0, .int .i64 0]) ?_ 2 _ rfl; (with_reducible repeat (first | refine blk_drewN ?_ _ | refine blk_drew ?_ | refine blk_alloc ?_ _)); refine blk_put (cs := #[.int .i64 ((rd_T82 l0_1 x3_1).f0), .int .i64 0, .int .i64 0, .int .i64 0, .int .i64 0, .int .i64 0, .int .i64 0, .int .i64 0]) ?_ 1 _ rfl; (with_reducible repeat (first | refine blk_drewN ?_ _ | refine blk_drew ?_ | refine blk_alloc ?_ _)); refine blk_put (cs := #[.int .i64 0, .int .i64 0, .int .i64 0, .int .i64 0, .int .i64 0, .int .i64 0, .int .i64 0, .int .i64 0]) ?_ 0 _ rfl; (with_reducible repeat (first | refine blk_drewN ?_ _ | refine blk_drew ?_ | refine blk_alloc ?_ _)); exact BK231.out⟩, ⟨by repeat (first | (with_reducible first | exact HB.out | apply below_alloc | apply pw_below_drewN | apply below_drew1 | refine below_set ?_ GE229.out | refine below_set ?_ GE231.out) | exact HB.out)⟩⟩
        ·replace c15 := Bool.eq_false_iff.mpr c15
         subst c15
         have H1 : (skiarearef10_lifts.j1 k1 x3_1 true l0_0 l0_1 l0_2 l0_3 ((rd_T82 l0_1 x3_1).f0) ((rd_T82 l0_1 x3_1).f1) ((rd_T82 l0_1 x3_1).f2) ((rd_T82 l0_1 x3_1).f3) ((rd_T82 l0_1 x3_1).f4) ((rd_T82 l0_1 x3_1).f5) ((rd_T82 l0_1 x3_1).f6) ((rd_T82 l0_1 x3_1).f7)) = some r := by rw [if_neg (show ¬ (false = true) by decide)] at H; exact H
         clear H
         have H := H1
         clear H1
         have H' := Aside0.mk H
         clear H
         have hnb27 := NB231_229.out
         have hnc27 := NB229_231.out
         have hcz28_0 := cz_ BK231 0
         have hcz28_1 := cz_ BK231 1
         have hcz28_2 := cz_ BK231 2
         have hcz28_3 := cz_ BK231 3
         have hcz28_4 := cz_ BK231 4
         have hcz28_5 := cz_ BK231 5
         have hcz28_6 := cz_ BK231 6
         have hcz28_7 := cz_ BK231 7
         have hfz28_0 := fz_ BK231 0
         have hfz28_1 := fz_ BK231 1
         have hfz28_2 := fz_ BK231 2
         have hfz28_3 := fz_ BK231 3
         have hfz28_4 := fz_ BK231 4
         have hfz28_5 := fz_ BK231 5
         have hfz28_6 := fz_ BK231 6
         have hfz28_7 := fz_ BK231 7
         go_wp2_with (first | (go_at_call 56; (with_reducible refine (skiarearef10_in.calls ((rd_T82 l0_1 x3_1).f0) 1 9999 true _ A10.out).mono ?_); rintro e w' ⟨rfl, ⟨nd, rfl⟩⟩; (try first | exact ⟨rfl, _, World.drewN_drewN _ _ _⟩ | exact ⟨rfl, _, Eq.trans (World.drewN_drewN _ _ _) (congrArg (World.drewN _) (Nat.add_assoc _ _ _))⟩)) | (go_at_call 56; (with_reducible refine (skiarearef10_in.calls ((rd_T82 l0_1 x3_1).f1) 1 8 true _ A12.out).mono ?_); rintro e w' ⟨rfl, ⟨nd, rfl⟩⟩; (try first | exact ⟨rfl, _, World.drewN_drewN _ _ _⟩ | exact ⟨rfl, _, Eq.trans (World.drewN_drewN _ _ _) (congrArg (World.drewN _) (Nat.add_assoc _ _ _))⟩)) | (go_at_call 56; (with_reducible refine (skiarearef10_in.calls ((rd_T82 l0_1 x3_1).f4) 10 6000 false _ A14.out).mono ?_); rintro e w' ⟨rfl, ⟨nd, rfl⟩⟩; (try first | exact ⟨rfl, _, World.drewN_drewN _ _ _⟩ | exact ⟨rfl, _, Eq.trans (World.drewN_drewN _ _ _) (congrArg (World.drewN _) (Nat.add_assoc _ _ _))⟩)))
         repeat (go_quiet (fail); try go_wp2_with (first | (go_at_call 56; (with_reducible refine (skiarearef10_in.calls ((rd_T82 l0_1 x3_1).f0) 1 9999 true _ A10.out).mono ?_); rintro e w' ⟨rfl, ⟨nd, rfl⟩⟩; (try first | exact ⟨rfl, _, World.drewN_drewN _ _ _⟩ | exact ⟨rfl, _, Eq.trans (World.drewN_drewN _ _ _) (congrArg (World.drewN _) (Nat.add_assoc _ _ _))⟩)) | (go_at_call 56; (with_reducible refine (skiarearef10_in.calls ((rd_T82 l0_1 x3_1).f1) 1 8 true _ A12.out).mono ?_); rintro e w' ⟨rfl, ⟨nd, rfl⟩⟩; (try first | exact ⟨rfl, _, World.drewN_drewN _ _ _⟩ | exact ⟨rfl, _, Eq.trans (World.drewN_drewN _ _ _) (congrArg (World.drewN _) (Nat.add_assoc _ _ _))⟩)) | (go_at_call 56; (with_reducible refine (skiarearef10_in.calls ((rd_T82 l0_1 x3_1).f4) 10 6000 false _ A14.out).mono ?_); rintro e w' ⟨rfl, ⟨nd, rfl⟩⟩; (try first | exact ⟨rfl, _, World.drewN_drewN _ _ _⟩ | exact ⟨rfl, _, Eq.trans (World.drewN_drewN _ _ _) (congrArg (World.drewN _) (Nat.add_assoc _ _ _))⟩))))
         go_meet
         case rel => exact ⟨_, (true), (by first | rfl | (simp; done) | (simp [*]; done)), H', ⟨by have := HK1.out; first | omega | exact Nat.le_refl _⟩, ⟨by (with_reducible repeat (first | refine blk_drewN ?_ _ | refine blk_drew ?_ | refine blk_alloc ?_ _)); refine blk_far ?_ NB229_231.out _; (with_reducible repeat (first | refine blk_drewN ?_ _ | refine blk_drew ?_ | refine blk_alloc ?_ _)); refine blk_far ?_ NB229_231.out _; (with_reducible repeat (first | refine blk_drewN ?_ _ | refine blk_drew ?_ | refine blk_alloc ?_ _)); refine blk_far ?_ NB229_231.out _; (with_reducible repeat (first | refine blk_drewN ?_ _ | refine blk_drew ?_ | refine blk_alloc ?_ _)); refine blk_far ?_ NB229_231.out _; (with_reducible repeat (first | refine blk_drewN ?_ _ | refine blk_drew ?_ | refine blk_alloc ?_ _)); refine blk_far ?_ NB229_231.out _; (with_reducible repeat (first | refine blk_drewN ?_ _ | refine blk_drew ?_ | refine blk_alloc ?_ _)); refine blk_far ?_ NB229_231.out _; (with_reducible repeat (first | refine blk_drewN ?_ _ | refine blk_drew ?_ | refine blk_alloc ?_ _)); refine blk_far ?_ NB229_231.out _; (with_reducible repeat (first | refine blk_drewN ?_ _ | refine blk_drew ?_ | refine blk_alloc ?_ _)); refine blk_far ?_ NB229_231.out _; (with_reducible repeat (first | refine blk_drewN ?_ _ | refine blk_drew ?_ | refine blk_alloc ?_ _)); exact BK229.out⟩, ⟨by (with_reducible repeat (first | refine blk_drewN ?_ _ | refine blk_drew ?_ | refine blk_alloc ?_ _)); refine blk_put (cs := #[.int .i64 ((rd_T82 l0_1 x3_1).f0), .int .i64 ((rd_T82 l0_1 x3_1).f1), .int .i64 ((rd_T82 l0_1 x3_1).f2), .int .i64 ((rd_T82 l0_1 x3_1).f3), .int .i64 ((rd_T82 l0_1 x3_1).f4), .int .i64 ((rd_T82 l0_1 x3_1).f5), .int .i64 ((rd_T82 l0_1 x3_1).f6), .int .i64 0]) ?_ 7 _ rfl; (with_reducible repeat (first | refine blk_drewN ?_ _ | refine blk_drew ?_ | refine blk_alloc ?_ _)); refine blk_put (cs := #[.int .i64 ((rd_T82 l0_1 x3_1).f0), .int .i64 ((rd_T82 l0_1 x3_1).f1), .int .i64 ((rd_T82 l0_1 x3_1).f2), .int .i64 ((rd_T82 l0_1 x3_1).f3), .int .i64 ((rd_T82 l0_1 x3_1).f4), .int .i64 ((rd_T82 l0_1 x3_1).f5), .int .i64 0, .int .i64 0]) ?_ 6 _ rfl; (with_reducible repeat (first | refine blk_drewN ?_ _ | refine blk_drew ?_ | refine blk_alloc ?_ _)); refine blk_put (cs := #[.int .i64 ((rd_T82 l0_1 x3_1).f0), .int .i64 ((rd_T82 l0_1 x3_1).f1), .int .i64 ((rd_T82 l0_1 x3_1).f2), .int .i64 ((rd_T82 l0_1 x3_1).f3), .int .i64 ((rd_T82 l0_1 x3_1).f4), .int .i64 0, .int .i64 0, .int .i64 0]) ?_ 5 _ rfl; (with_reducible repeat (first | refine blk_drewN ?_ _ | refine blk_drew ?_ | refine blk_alloc ?_ _)); refine blk_put (cs := #[.int .i64 ((rd_T82 l0_1 x3_1).f0), .int .i64 ((rd_T82 l0_1 x3_1).f1), .int .i64 ((rd_T82 l0_1 x3_1).f2), .int .i64 ((rd_T82 l0_1 x3_1).f3), .int .i64 0, .int .i64 0, .int .i64 0, .int .i64 0]) ?_ 4 _ rfl; (with_reducible repeat (first | refine blk_drewN ?_ _ | refine blk_drew ?_ | refine blk_alloc ?_ _)); refine blk_put (cs := #[.int .i64 ((rd_T82 l0_1 x3_1).f0), .int .i64 ((rd_T82 l0_1 x3_1).f1), .int .i64 ((rd_T82 l0_1 x3_1).f2), .int .i64 0, .int .i64 0, .int .i64 0, .int .i64 0, .int .i64 0]) ?_ 3 _ rfl; (with_reducible repeat (first | refine blk_drewN ?_ _ | refine blk_drew ?_ | refine blk_alloc ?_ _)); refine blk_put (cs := #[.int .i64 ((rd_T82 l0_1 x3_1).f0), .int .i64 ((rd_T82 l0_1 x3_1).f1), .int .i64 0, .int .i64 0, .int .i64 0, .int .i64 0, .int .i64 0, .int .i64 0]) ?_ 2 _ rfl; (with_reducible repeat (first | refine blk_drewN ?_ _ | refine blk_drew ?_ | refine blk_alloc ?_ _)); refine blk_put (cs := #[.int .i64 ((rd_T82 l0_1 x3_1).f0), .int .i64 0, .int .i64 0, .int .i64 0, .int .i64 0, .int .i64 0, .int .i64 0, .int .i64 0]) ?_ 1 _ rfl; (with_reducible repeat (first | refine blk_drewN ?_ _ | refine blk_drew ?_ | refine blk_alloc ?_ _)); refine blk_put (cs := #[.int .i64 0, .int .i64 0, .int .i64 0, .int .i64 0, .int .i64 0, .int .i64 0, .int .i64 0, .int .i64 0]) ?_ 0 _ rfl; (with_reducible repeat (first | refine blk_drewN ?_ _ | refine blk_drew ?_ | refine blk_alloc ?_ _)); exact BK231.out⟩, ⟨by repeat (first | (with_reducible first | exact HB.out | apply below_alloc | apply pw_below_drewN | apply below_drew1 | refine below_set ?_ GE229.out | refine below_set ?_ GE231.out) | exact HB.out)⟩⟩
       ·replace c13 := Bool.eq_false_iff.mpr c13
        subst c13
        have H1 : (skiarearef10_lifts.j1 k1 x3_1 true l0_0 l0_1 l0_2 l0_3 ((rd_T82 l0_1 x3_1).f0) ((rd_T82 l0_1 x3_1).f1) ((rd_T82 l0_1 x3_1).f2) ((rd_T82 l0_1 x3_1).f3) ((rd_T82 l0_1 x3_1).f4) ((rd_T82 l0_1 x3_1).f5) ((rd_T82 l0_1 x3_1).f6) ((rd_T82 l0_1 x3_1).f7)) = some r := by rw [if_neg (show ¬ (false = true) by decide)] at H; exact H
        clear H
        have H := H1
        clear H1
        have H' := Aside0.mk H
        clear H
        have hnb29 := NB231_229.out
        have hnc29 := NB229_231.out
        have hcz30_0 := cz_ BK231 0
        have hcz30_1 := cz_ BK231 1
        have hcz30_2 := cz_ BK231 2
        have hcz30_3 := cz_ BK231 3
        have hcz30_4 := cz_ BK231 4
        have hcz30_5 := cz_ BK231 5
        have hcz30_6 := cz_ BK231 6
        have hcz30_7 := cz_ BK231 7
        have hfz30_0 := fz_ BK231 0
        have hfz30_1 := fz_ BK231 1
        have hfz30_2 := fz_ BK231 2
        have hfz30_3 := fz_ BK231 3
        have hfz30_4 := fz_ BK231 4
        have hfz30_5 := fz_ BK231 5
        have hfz30_6 := fz_ BK231 6
        have hfz30_7 := fz_ BK231 7
        go_wp2_with (first | (go_at_call 56; (with_reducible refine (skiarearef10_in.calls ((rd_T82 l0_1 x3_1).f0) 1 9999 true _ A10.out).mono ?_); rintro e w' ⟨rfl, ⟨nd, rfl⟩⟩; (try first | exact ⟨rfl, _, World.drewN_drewN _ _ _⟩ | exact ⟨rfl, _, Eq.trans (World.drewN_drewN _ _ _) (congrArg (World.drewN _) (Nat.add_assoc _ _ _))⟩)) | (go_at_call 56; (with_reducible refine (skiarearef10_in.calls ((rd_T82 l0_1 x3_1).f1) 1 8 false _ A12.out).mono ?_); rintro e w' ⟨rfl, ⟨nd, rfl⟩⟩; (try first | exact ⟨rfl, _, World.drewN_drewN _ _ _⟩ | exact ⟨rfl, _, Eq.trans (World.drewN_drewN _ _ _) (congrArg (World.drewN _) (Nat.add_assoc _ _ _))⟩)))
        repeat (go_quiet (fail); try go_wp2_with (first | (go_at_call 56; (with_reducible refine (skiarearef10_in.calls ((rd_T82 l0_1 x3_1).f0) 1 9999 true _ A10.out).mono ?_); rintro e w' ⟨rfl, ⟨nd, rfl⟩⟩; (try first | exact ⟨rfl, _, World.drewN_drewN _ _ _⟩ | exact ⟨rfl, _, Eq.trans (World.drewN_drewN _ _ _) (congrArg (World.drewN _) (Nat.add_assoc _ _ _))⟩)) | (go_at_call 56; (with_reducible refine (skiarearef10_in.calls ((rd_T82 l0_1 x3_1).f1) 1 8 false _ A12.out).mono ?_); rintro e w' ⟨rfl, ⟨nd, rfl⟩⟩; (try first | exact ⟨rfl, _, World.drewN_drewN _ _ _⟩ | exact ⟨rfl, _, Eq.trans (World.drewN_drewN _ _ _) (congrArg (World.drewN _) (Nat.add_assoc _ _ _))⟩))))
        go_meet
        case rel => exact ⟨_, (true), (by first | rfl | (simp; done) | (simp [*]; done)), H', ⟨by have := HK1.out; first | omega | exact Nat.le_refl _⟩, ⟨by (with_reducible repeat (first | refine blk_drewN ?_ _ | refine blk_drew ?_ | refine blk_alloc ?_ _)); refine blk_far ?_ NB229_231.out _; (with_reducible repeat (first | refine blk_drewN ?_ _ | refine blk_drew ?_ | refine blk_alloc ?_ _)); refine blk_far ?_ NB229_231.out _; (with_reducible repeat (first | refine blk_drewN ?_ _ | refine blk_drew ?_ | refine blk_alloc ?_ _)); refine blk_far ?_ NB229_231.out _; (with_reducible repeat (first | refine blk_drewN ?_ _ | refine blk_drew ?_ | refine blk_alloc ?_ _)); refine blk_far ?_ NB229_231.out _; (with_reducible repeat (first | refine blk_drewN ?_ _ | refine blk_drew ?_ | refine blk_alloc ?_ _)); refine blk_far ?_ NB229_231.out _; (with_reducible repeat (first | refine blk_drewN ?_ _ | refine blk_drew ?_ | refine blk_alloc ?_ _)); refine blk_far ?_ NB229_231.out _; (with_reducible repeat (first | refine blk_drewN ?_ _ | refine blk_drew ?_ | refine blk_alloc ?_ _)); refine blk_far ?_ NB229_231.out _; (with_reducible repeat (first | refine blk_drewN ?_ _ | refine blk_drew ?_ | refine blk_alloc ?_ _)); refine blk_far ?_ NB229_231.out _; (with_reducible repeat (first | refine blk_drewN ?_ _ | refine blk_drew ?_ | refine blk_alloc ?_ _)); exact BK229.out⟩, ⟨by (with_reducible repeat (first | refine blk_drewN ?_ _ | refine blk_drew ?_ | refine blk_alloc ?_ _)); refine blk_put (cs := #[.int .i64 ((rd_T82 l0_1 x3_1).f0), .int .i64 ((rd_T82 l0_1 x3_1).f1), .int .i64 ((rd_T82 l0_1 x3_1).f2), .int .i64 ((rd_T82 l0_1 x3_1).f3), .int .i64 ((rd_T82 l0_1 x3_1).f4), .int .i64 ((rd_T82 l0_1 x3_1).f5), .int .i64 ((rd_T82 l0_1 x3_1).f6), .int .i64 0]) ?_ 7 _ rfl; (with_reducible repeat (first | refine blk_drewN ?_ _ | refine blk_drew ?_ | refine blk_alloc ?_ _)); refine blk_put (cs := #[.int .i64 ((rd_T82 l0_1 x3_1).f0), .int .i64 ((rd_T82 l0_1 x3_1).f1), .int .i64 ((rd_T82 l0_1 x3_1).f2), .int .i64 ((rd_T82 l0_1 x3_1).f3), .int .i64 ((rd_T82 l0_1 x3_1).f4), .int .i64 ((rd_T82 l0_1 x3_1).f5), .int .i64 0, .int .i64 0]) ?_ 6 _ rfl; (with_reducible repeat (first | refine blk_drewN ?_ _ | refine blk_drew ?_ | refine blk_alloc ?_ _)); refine blk_put (cs := #[.int .i64 ((rd_T82 l0_1 x3_1).f0), .int .i64 ((rd_T82 l0_1 x3_1).f1), .int .i64 ((rd_T82 l0_1 x3_1).f2), .int .i64 ((rd_T82 l0_1 x3_1).f3), .int .i64 ((rd_T82 l0_1 x3_1).f4), .int .i64 0, .int .i64 0, .int .i64 0]) ?_ 5 _ rfl; (with_reducible repeat (first | refine blk_drewN ?_ _ | refine blk_drew ?_ | refine blk_alloc ?_ _)); refine blk_put (cs := #[.int .i64 ((rd_T82 l0_1 x3_1).f0), .int .i64 ((rd_T82 l0_1 x3_1).f1), .int .i64 ((rd_T82 l0_1 x3_1).f2), .int .i64 ((rd_T82 l0_1 x3_1).f3), .int .i64 0, .int .i64 0, .int .i64 0, .int .i64 0]) ?_ 4 _ rfl; (with_reducible repeat (first | refine blk_drewN ?_ _ | refine blk_drew ?_ | refine blk_alloc ?_ _)); refine blk_put (cs := #[.int .i64 ((rd_T82 l0_1 x3_1).f0), .int .i64 ((rd_T82 l0_1 x3_1).f1), .int .i64 ((rd_T82 l0_1 x3_1).f2), .int .i64 0, .int .i64 0, .int .i64 0, .int .i64 0, .int .i64 0]) ?_ 3 _ rfl; (with_reducible repeat (first | refine blk_drewN ?_ _ | refine blk_drew ?_ | refine blk_alloc ?_ _)); refine blk_put (cs := #[.int .i64 ((rd_T82 l0_1 x3_1).f0), .int .i64 ((rd_T82 l0_1 x3_1).f1), .int .i64 0, .int .i64 0, .int .i64 0, .int .i64 0, .int .i64 0, .int .i64 0]) ?_ 2 _ rfl; (with_reducible repeat (first | refine blk_drewN ?_ _ | refine blk_drew ?_ | refine blk_alloc ?_ _)); refine blk_put (cs := #[.int .i64 ((rd_T82 l0_1 x3_1).f0), .int .i64 0, .int .i64 0, .int .i64 0, .int .i64 0, .int .i64 0, .int .i64 0, .int .i64 0]) ?_ 1 _ rfl; (with_reducible repeat (first | refine blk_drewN ?_ _ | refine blk_drew ?_ | refine blk_alloc ?_ _)); refine blk_put (cs := #[.int .i64 0, .int .i64 0, .int .i64 0, .int .i64 0, .int .i64 0, .int .i64 0, .int .i64 0, .int .i64 0]) ?_ 0 _ rfl; (with_reducible repeat (first | refine blk_drewN ?_ _ | refine blk_drew ?_ | refine blk_alloc ?_ _)); exact BK231.out⟩, ⟨by repeat (first | (with_reducible first | exact HB.out | apply below_alloc | apply pw_below_drewN | apply below_drew1 | refine below_set ?_ GE229.out | refine below_set ?_ GE231.out) | exact HB.out)⟩⟩
      ·replace c11 := Bool.eq_false_iff.mpr c11
       subst c11
       have H1 : (skiarearef10_lifts.j1 k1 x3_1 true l0_0 l0_1 l0_2 l0_3 ((rd_T82 l0_1 x3_1).f0) ((rd_T82 l0_1 x3_1).f1) ((rd_T82 l0_1 x3_1).f2) ((rd_T82 l0_1 x3_1).f3) ((rd_T82 l0_1 x3_1).f4) ((rd_T82 l0_1 x3_1).f5) ((rd_T82 l0_1 x3_1).f6) ((rd_T82 l0_1 x3_1).f7)) = some r := by rw [if_neg (show ¬ (false = true) by decide)] at H; exact H
       clear H
       have H := H1
       clear H1
       have H' := Aside0.mk H
       clear H
       have hnb31 := NB231_229.out
       have hnc31 := NB229_231.out
       have hcz32_0 := cz_ BK231 0
       have hcz32_1 := cz_ BK231 1
       have hcz32_2 := cz_ BK231 2
       have hcz32_3 := cz_ BK231 3
       have hcz32_4 := cz_ BK231 4
       have hcz32_5 := cz_ BK231 5
       have hcz32_6 := cz_ BK231 6
       have hcz32_7 := cz_ BK231 7
       have hfz32_0 := fz_ BK231 0
       have hfz32_1 := fz_ BK231 1
       have hfz32_2 := fz_ BK231 2
       have hfz32_3 := fz_ BK231 3
       have hfz32_4 := fz_ BK231 4
       have hfz32_5 := fz_ BK231 5
       have hfz32_6 := fz_ BK231 6
       have hfz32_7 := fz_ BK231 7
       go_wp2_with (first | (go_at_call 56; (with_reducible refine (skiarearef10_in.calls ((rd_T82 l0_1 x3_1).f0) 1 9999 false _ A10.out).mono ?_); rintro e w' ⟨rfl, ⟨nd, rfl⟩⟩; (try first | exact ⟨rfl, _, World.drewN_drewN _ _ _⟩ | exact ⟨rfl, _, Eq.trans (World.drewN_drewN _ _ _) (congrArg (World.drewN _) (Nat.add_assoc _ _ _))⟩)))
       repeat (go_quiet (fail); try go_wp2_with (first | (go_at_call 56; (with_reducible refine (skiarearef10_in.calls ((rd_T82 l0_1 x3_1).f0) 1 9999 false _ A10.out).mono ?_); rintro e w' ⟨rfl, ⟨nd, rfl⟩⟩; (try first | exact ⟨rfl, _, World.drewN_drewN _ _ _⟩ | exact ⟨rfl, _, Eq.trans (World.drewN_drewN _ _ _) (congrArg (World.drewN _) (Nat.add_assoc _ _ _))⟩))))
       go_meet
       case rel => exact ⟨_, (true), (by first | rfl | (simp; done) | (simp [*]; done)), H', ⟨by have := HK1.out; first | omega | exact Nat.le_refl _⟩, ⟨by (with_reducible repeat (first | refine blk_drewN ?_ _ | refine blk_drew ?_ | refine blk_alloc ?_ _)); refine blk_far ?_ NB229_231.out _; (with_reducible repeat (first | refine blk_drewN ?_ _ | refine blk_drew ?_ | refine blk_alloc ?_ _)); refine blk_far ?_ NB229_231.out _; (with_reducible repeat (first | refine blk_drewN ?_ _ | refine blk_drew ?_ | refine blk_alloc ?_ _)); refine blk_far ?_ NB229_231.out _; (with_reducible repeat (first | refine blk_drewN ?_ _ | refine blk_drew ?_ | refine blk_alloc ?_ _)); refine blk_far ?_ NB229_231.out _; (with_reducible repeat (first | refine blk_drewN ?_ _ | refine blk_drew ?_ | refine blk_alloc ?_ _)); refine blk_far ?_ NB229_231.out _; (with_reducible repeat (first | refine blk_drewN ?_ _ | refine blk_drew ?_ | refine blk_alloc ?_ _)); refine blk_far ?_ NB229_231.out _; (with_reducible repeat (first | refine blk_drewN ?_ _ | refine blk_drew ?_ | refine blk_alloc ?_ _)); refine blk_far ?_ NB229_231.out _; (with_reducible repeat (first | refine blk_drewN ?_ _ | refine blk_drew ?_ | refine blk_alloc ?_ _)); refine blk_far ?_ NB229_231.out _; (with_reducible repeat (first | refine blk_drewN ?_ _ | refine blk_drew ?_ | refine blk_alloc ?_ _)); exact BK229.out⟩, ⟨by (with_reducible repeat (first | refine blk_drewN ?_ _ | refine blk_drew ?_ | refine blk_alloc ?_ _)); refine blk_put (cs := #[.int .i64 ((rd_T82 l0_1 x3_1).f0), .int .i64 ((rd_T82 l0_1 x3_1).f1), .int .i64 ((rd_T82 l0_1 x3_1).f2), .int .i64 ((rd_T82 l0_1 x3_1).f3), .int .i64 ((rd_T82 l0_1 x3_1).f4), .int .i64 ((rd_T82 l0_1 x3_1).f5), .int .i64 ((rd_T82 l0_1 x3_1).f6), .int .i64 0]) ?_ 7 _ rfl; (with_reducible repeat (first | refine blk_drewN ?_ _ | refine blk_drew ?_ | refine blk_alloc ?_ _)); refine blk_put (cs := #[.int .i64 ((rd_T82 l0_1 x3_1).f0), .int .i64 ((rd_T82 l0_1 x3_1).f1), .int .i64 ((rd_T82 l0_1 x3_1).f2), .int .i64 ((rd_T82 l0_1 x3_1).f3), .int .i64 ((rd_T82 l0_1 x3_1).f4), .int .i64 ((rd_T82 l0_1 x3_1).f5), .int .i64 0, .int .i64 0]) ?_ 6 _ rfl; (with_reducible repeat (first | refine blk_drewN ?_ _ | refine blk_drew ?_ | refine blk_alloc ?_ _)); refine blk_put (cs := #[.int .i64 ((rd_T82 l0_1 x3_1).f0), .int .i64 ((rd_T82 l0_1 x3_1).f1), .int .i64 ((rd_T82 l0_1 x3_1).f2), .int .i64 ((rd_T82 l0_1 x3_1).f3), .int .i64 ((rd_T82 l0_1 x3_1).f4), .int .i64 0, .int .i64 0, .int .i64 0]) ?_ 5 _ rfl; (with_reducible repeat (first | refine blk_drewN ?_ _ | refine blk_drew ?_ | refine blk_alloc ?_ _)); refine blk_put (cs := #[.int .i64 ((rd_T82 l0_1 x3_1).f0), .int .i64 ((rd_T82 l0_1 x3_1).f1), .int .i64 ((rd_T82 l0_1 x3_1).f2), .int .i64 ((rd_T82 l0_1 x3_1).f3), .int .i64 0, .int .i64 0, .int .i64 0, .int .i64 0]) ?_ 4 _ rfl; (with_reducible repeat (first | refine blk_drewN ?_ _ | refine blk_drew ?_ | refine blk_alloc ?_ _)); refine blk_put (cs := #[.int .i64 ((rd_T82 l0_1 x3_1).f0), .int .i64 ((rd_T82 l0_1 x3_1).f1), .int .i64 ((rd_T82 l0_1 x3_1).f2), .int .i64 0, .int .i64 0, .int .i64 0, .int .i64 0, .int .i64 0]) ?_ 3 _ rfl; (with_reducible repeat (first | refine blk_drewN ?_ _ | refine blk_drew ?_ | refine blk_alloc ?_ _)); refine blk_put (cs := #[.int .i64 ((rd_T82 l0_1 x3_1).f0), .int .i64 ((rd_T82 l0_1 x3_1).f1), .int .i64 0, .int .i64 0, .int .i64 0, .int .i64 0, .int .i64 0, .int .i64 0]) ?_ 2 _ rfl; (with_reducible repeat (first | refine blk_drewN ?_ _ | refine blk_drew ?_ | refine blk_alloc ?_ _)); refine blk_put (cs := #[.int .i64 ((rd_T82 l0_1 x3_1).f0), .int .i64 0, .int .i64 0, .int .i64 0, .int .i64 0, .int .i64 0, .int .i64 0, .int .i64 0]) ?_ 1 _ rfl; (with_reducible repeat (first | refine blk_drewN ?_ _ | refine blk_drew ?_ | refine blk_alloc ?_ _)); refine blk_put (cs := #[.int .i64 0, .int .i64 0, .int .i64 0, .int .i64 0, .int .i64 0, .int .i64 0, .int .i64 0, .int .i64 0]) ?_ 0 _ rfl; (with_reducible repeat (first | refine blk_drewN ?_ _ | refine blk_drew ?_ | refine blk_alloc ?_ _)); exact BK231.out⟩, ⟨by repeat (first | (with_reducible first | exact HB.out | apply below_alloc | apply pw_below_drewN | apply below_drew1 | refine below_set ?_ GE229.out | refine below_set ?_ GE231.out) | exact HB.out)⟩⟩
     case rest =>
      clear HC5
      try clear c1
      try clear c2
      try clear p2
      try clear q2
      try clear hx2
      try clear c3
      try clear c3b0
      try clear c4
      try clear c4b0
      try clear c8
      try clear c11
      try clear c13
      try clear c15
      try clear c17
      try clear c19
      try clear c21
      try clear c23
      try clear p23
      try clear q23
      try clear hx23
      try clear c25
      try clear c27
      try clear c29
      try clear c31
      try clear hcz22_0
      try clear hcz22_1
      try clear hcz22_2
      try clear hcz22_3
      try clear hcz22_4
      try clear hcz22_5
      try clear hcz22_6
      try clear hcz22_7
      try clear hcz24_0
      try clear hcz24_1
      try clear hcz24_2
      try clear hcz24_3
      try clear hcz24_4
      try clear hcz24_5
      try clear hcz24_6
      try clear hcz24_7
      try clear hcz26_0
      try clear hcz26_1
      try clear hcz26_2
      try clear hcz26_3
      try clear hcz26_4
      try clear hcz26_5
      try clear hcz26_6
      try clear hcz26_7
      try clear hcz28_0
      try clear hcz28_1
      try clear hcz28_2
      try clear hcz28_3
      try clear hcz28_4
      try clear hcz28_5
      try clear hcz28_6
      try clear hcz28_7
      try clear hcz30_0
      try clear hcz30_1
      try clear hcz30_2
      try clear hcz30_3
      try clear hcz30_4
      try clear hcz30_5
      try clear hcz30_6
      try clear hcz30_7
      try clear hcz32_0
      try clear hcz32_1
      try clear hcz32_2
      try clear hcz32_3
      try clear hcz32_4
      try clear hcz32_5
      try clear hcz32_6
      try clear hcz32_7
      try clear hcz6_0
      try clear hcz6_1
      try clear hcz6_2
      try clear hcz6_3
      try clear hcz9_0
      try clear hcz9_1
      try clear hcz9_2
      try clear hcz9_3
      try clear hcz9_4
      try clear hcz9_5
      try clear hcz9_6
      try clear hcz9_7
      try clear hfz22_0
      try clear hfz22_1
      try clear hfz22_2
      try clear hfz22_3
      try clear hfz22_4
      try clear hfz22_5
      try clear hfz22_6
      try clear hfz22_7
      try clear hfz24_0
      try clear hfz24_1
      try clear hfz24_2
      try clear hfz24_3
      try clear hfz24_4
      try clear hfz24_5
      try clear hfz24_6
      try clear hfz24_7
      try clear hfz26_0
      try clear hfz26_1
      try clear hfz26_2
      try clear hfz26_3
      try clear hfz26_4
      try clear hfz26_5
      try clear hfz26_6
      try clear hfz26_7
      try clear hfz28_0
      try clear hfz28_1
      try clear hfz28_2
      try clear hfz28_3
      try clear hfz28_4
      try clear hfz28_5
      try clear hfz28_6
      try clear hfz28_7
      try clear hfz30_0
      try clear hfz30_1
      try clear hfz30_2
      try clear hfz30_3
      try clear hfz30_4
      try clear hfz30_5
      try clear hfz30_6
      try clear hfz30_7
      try clear hfz32_0
      try clear hfz32_1
      try clear hfz32_2
      try clear hfz32_3
      try clear hfz32_4
      try clear hfz32_5
      try clear hfz32_6
      try clear hfz32_7
      try clear hfz6_0
      try clear hfz6_1
      try clear hfz6_2
      try clear hfz6_3
      try clear hfz9_0
      try clear hfz9_1
      try clear hfz9_2
      try clear hfz9_3
      try clear hfz9_4
      try clear hfz9_5
      try clear hfz9_6
      try clear hfz9_7
      try clear hx230_0
      try clear hx230_1
      try clear hx230_2
      try clear hx230_3
      try clear hx230_4
      try clear hx230_5
      try clear hx230_6
      try clear hx230_7
      try clear p2
      try clear p230
      try clear q230
      obtain ⟨kq, x51_4, rfl, HA, HJ4, BK229, BK231, HB⟩ := hcut
      cases kq with
      | zero => exact absurd HA.out (by simp [skiarearef10_lifts.j1])
      | succ kj4 =>
       have H := HA.out
       clear HA
       simp only [skiarearef10_lifts.j1] at H
       by_cases c33 : x51_4 = true
       ·subst c33
        have H1 : (some 2) = some r := by rw [if_pos rfl] at H; exact H
        clear H
        have H := H1
        clear H1
        obtain rfl := Option.some.inj H
        go_wp2
        repeat (go_quiet (fail); try go_wp2)
        go_ret
        exact ⟨by first | rfl | (simp [errW_none, errW_some] <;> rfl) | (simp [*, errW_none, errW_some] <;> rfl), by repeat (first | (with_reducible first | exact HB.out | apply below_alloc | apply pw_below_drewN | apply below_drew1 | refine below_set ?_ GE229.out | refine below_set ?_ GE231.out) | exact HB.out)⟩
       ·replace c33 := Bool.eq_false_iff.mpr c33
        subst c33
        have H1 : (if x3_1 > 0 then (if 0 ≤ (wrap64 (x3_1 - 1)) then (if (wrap64 (x3_1 - 1)) < (l0_1.length : Int) then (skiarearef10_lifts.j2 kj4 x3_1 (decide (((rd_T82 l0_1 x3_1).f0) ≤ ((rd_T82 l0_1 (wrap64 (x3_1 - 1))).f0))) l0_0 l0_1 l0_2 l0_3 ((rd_T82 l0_1 x3_1).f0) ((rd_T82 l0_1 x3_1).f1) ((rd_T82 l0_1 x3_1).f2) ((rd_T82 l0_1 x3_1).f3) ((rd_T82 l0_1 x3_1).f4) ((rd_T82 l0_1 x3_1).f5) ((rd_T82 l0_1 x3_1).f6) ((rd_T82 l0_1 x3_1).f7)) else (none)) else (none)) else (skiarearef10_lifts.j2 kj4 x3_1 false l0_0 l0_1 l0_2 l0_3 ((rd_T82 l0_1 x3_1).f0) ((rd_T82 l0_1 x3_1).f1) ((rd_T82 l0_1 x3_1).f2) ((rd_T82 l0_1 x3_1).f3) ((rd_T82 l0_1 x3_1).f4) ((rd_T82 l0_1 x3_1).f5) ((rd_T82 l0_1 x3_1).f6) ((rd_T82 l0_1 x3_1).f7))) = some r := by rw [if_neg (show ¬ (false = true) by decide)] at H; exact H
        clear H
        have H := H1
        clear H1
        have HC34 := Aside0.mk H
        clear H
        go_upto_region 7 with (fail)
        repeat (go_quiet (fail); go_upto_region 7 with (fail))
        go_cut [65] (fun v65 wc => ∃ (kq : Nat) (x65_33 : Bool), v65 = .bool x65_33 ∧ Aside0 (skiarearef10_lifts.j2 kq x3_1 x65_33 l0_0 l0_1 l0_2 l0_3 ((rd_T82 l0_1 x3_1).f0) ((rd_T82 l0_1 x3_1).f1) ((rd_T82 l0_1 x3_1).f2) ((rd_T82 l0_1 x3_1).f3) ((rd_T82 l0_1 x3_1).f4) ((rd_T82 l0_1 x3_1).f5) ((rd_T82 l0_1 x3_1).f6) ((rd_T82 l0_1 x3_1).f7) = some r) ∧ Aside0 (kq ≤ kj4) ∧ Aside0 (wc.heap[gb229]? = some (.cells #[(.slice A0_0 l0_0.length c0_0), (.slice (some ad230) l0_1.length c0_1), (.slice A0_2 l0_2.length c0_2), (.slice A0_3 l0_3.length c0_3)] 38 (0, 0))) ∧ Aside0 (wc.heap[gb231]? = some (.cells #[.int .i64 ((rd_T82 l0_1 x3_1).f0), .int .i64 ((rd_T82 l0_1 x3_1).f1), .int .i64 ((rd_T82 l0_1 x3_1).f2), .int .i64 ((rd_T82 l0_1 x3_1).f3), .int .i64 ((rd_T82 l0_1 x3_1).f4), .int .i64 ((rd_T82 l0_1 x3_1).f5), .int .i64 ((rd_T82 l0_1 x3_1).f6), .int .i64 ((rd_T82 l0_1 x3_1).f7)] 82 (0, 0))) ∧ Aside0 (Below w.heap.size w wc))
        case first =>
         have H := HC34.out
         clear HC34
         by_cases c35 : x3_1 > 0
         ·rw [if_pos c35] at H
          have c35b0 : decide (0 < x3_1) = true := decide_eq_true c35
          clear c35
          (first | rw [c35b0] | (simp only [i64_w, i32_w]; rw [c35b0]) | skip)
          obtain ⟨ji36, hji36⟩ : ∃ j_ : Int, (wrap64 (x3_1 - 1)) = j_ := ⟨_, rfl⟩
          replace H : (if 0 ≤ (ji36) then (if (ji36) < (l0_1.length : Int) then (skiarearef10_lifts.j2 kj4 x3_1 (decide (((rd_T82 l0_1 x3_1).f0) ≤ ((rd_T82 l0_1 (ji36)).f0))) l0_0 l0_1 l0_2 l0_3 ((rd_T82 l0_1 x3_1).f0) ((rd_T82 l0_1 x3_1).f1) ((rd_T82 l0_1 x3_1).f2) ((rd_T82 l0_1 x3_1).f3) ((rd_T82 l0_1 x3_1).f4) ((rd_T82 l0_1 x3_1).f5) ((rd_T82 l0_1 x3_1).f6) ((rd_T82 l0_1 x3_1).f7)) else (none)) else (none)) = some r := by first | (rw [hji36] at H; exact H) | (simp only [hji36] at H ⊢; exact H)
          have hji36w : (IntKind.i64.wrap (x3_1 - 1)) = ji36 := (i64_w _).trans hji36
          by_cases c37 : 0 ≤ (ji36)
          ·rw [if_pos c37] at H
           have c37b0 : decide (0 ≤ (ji36)) = true := decide_eq_true c37
           clear c37
           by_cases c38 : (ji36) < (l0_1.length : Int)
           ·rw [if_pos c38] at H
            have c38b0 : decide ((ji36) < (l0_1.length : Int)) = true := decide_eq_true c38
            clear c38
            have H' := Aside0.mk H
            clear H
            have hnb39 := NB231_229.out
            have hnc39 := NB229_231.out
            have hcz40_0 := cz_ BK231 0
            have hcz40_1 := cz_ BK231 1
            have hcz40_2 := cz_ BK231 2
            have hcz40_3 := cz_ BK231 3
            have hcz40_4 := cz_ BK231 4
            have hcz40_5 := cz_ BK231 5
            have hcz40_6 := cz_ BK231 6
            have hcz40_7 := cz_ BK231 7
            have hfz40_0 := fz_ BK231 0
            have hfz40_1 := fz_ BK231 1
            have hfz40_2 := fz_ BK231 2
            have hfz40_3 := fz_ BK231 3
            have hfz40_4 := fz_ BK231 4
            have hfz40_5 := fz_ BK231 5
            have hfz40_6 := fz_ BK231 6
            have hfz40_7 := fz_ BK231 7
            have hcz41_0 := cz_ BK229 0
            have hcz41_1 := cz_ BK229 1
            have hcz41_2 := cz_ BK229 2
            have hcz41_3 := cz_ BK229 3
            have hfz41_0 := fz_ BK229 0
            have hfz41_1 := fz_ BK229 1
            have hfz41_2 := fz_ BK229 2
            have hfz41_3 := fz_ BK229 3
            have p238 : 0 ≤ ((ji36) : Int) := od_
            have q238 : (ji36) < (l0_1.length : Int) := od_
            obtain ⟨ad238, e238, hx238_0, hx238_1, hx238_2, hx238_3, hx238_4, hx238_5, hx238_6, hx238_7⟩ := at_T82 HR0_1.out (ji36) p238 q238
            obtain rfl : ad230 = ad238 := (by injection e238)
            replace hx238_0 := pc_ hx238_0
            replace hx238_1 := pc_ hx238_1
            replace hx238_2 := pc_ hx238_2
            replace hx238_3 := pc_ hx238_3
            replace hx238_4 := pc_ hx238_4
            replace hx238_5 := pc_ hx238_5
            replace hx238_6 := pc_ hx238_6
            replace hx238_7 := pc_ hx238_7
            replace p238 := eq_true p238
            replace q238 := eq_true q238
            go_wp2
            repeat (go_quiet (fail); try go_wp2)
            go_meet
            case rel => exact ⟨_, (decide (((rd_T82 l0_1 x3_1).f0) ≤ ((rd_T82 l0_1 (ji36)).f0))), (by first | rfl | (simp; done) | (simp only [← hji36] <;> (first | rfl | simp)) | (simp [*]; done)), H', ⟨by have := HK1.out; have := HJ4.out; first | omega | exact Nat.le_refl _⟩, ⟨by (with_reducible repeat (first | refine blk_drewN ?_ _ | refine blk_drew ?_ | refine blk_alloc ?_ _)); exact BK229.out⟩, ⟨by (with_reducible repeat (first | refine blk_drewN ?_ _ | refine blk_drew ?_ | refine blk_alloc ?_ _)); exact BK231.out⟩, ⟨by repeat (first | (with_reducible first | exact HB.out | apply below_alloc | apply pw_below_drewN | apply below_drew1 | refine below_set ?_ GE229.out | refine below_set ?_ GE231.out) | exact HB.out)⟩⟩
           ·rw [if_neg c38] at H
            exact absurd H (by simp)
          ·rw [if_neg c37] at H
           exact absurd H (by simp)
         ·rw [if_neg c35] at H
          have c35b0 : decide (0 < x3_1) = false := decide_eq_false c35
          clear c35
          (first | rw [c35b0] | (simp only [i64_w, i32_w]; rw [c35b0]) | skip)
          have H' := Aside0.mk H
          clear H
          go_wp2
          repeat (go_quiet (fail); try go_wp2)
          go_meet
          case rel => exact ⟨_, (false), (by first | rfl | (simp; done) | (simp [*]; done)), H', ⟨by have := HK1.out; have := HJ4.out; first | omega | exact Nat.le_refl _⟩, ⟨by (with_reducible repeat (first | refine blk_drewN ?_ _ | refine blk_drew ?_ | refine blk_alloc ?_ _)); exact BK229.out⟩, ⟨by (with_reducible repeat (first | refine blk_drewN ?_ _ | refine blk_drew ?_ | refine blk_alloc ?_ _)); exact BK231.out⟩, ⟨by repeat (first | (with_reducible first | exact HB.out | apply below_alloc | apply pw_below_drewN | apply below_drew1 | refine below_set ?_ GE229.out | refine below_set ?_ GE231.out) | exact HB.out)⟩⟩
        case rest =>
         clear HC34
         try clear c1
         try clear c2
         try clear p2
         try clear q2
         try clear hx2
         try clear c3
         try clear c3b0
         try clear c4
         try clear c4b0
         try clear p6
         try clear c8
         try clear c11
         try clear c13
         try clear c15
         try clear c17
         try clear c19
         try clear c21
         try clear c23
         try clear p23
         try clear q23
         try clear hx23
         try clear c25
         try clear c27
         try clear c29
         try clear c31
         try clear c33
         try clear c35
         try clear c35b0
         try clear c37
         try clear c37b0
         try clear c38
         try clear c38b0
         try clear c39
         try clear hcz22_0
         try clear hcz22_1
         try clear hcz22_2
         try clear hcz22_3
         try clear hcz22_4
         try clear hcz22_5
         try clear hcz22_6
         try clear hcz22_7
         try clear hcz24_0
         try clear hcz24_1
         try clear hcz24_2
         try clear hcz24_3
         try clear hcz24_4
         try clear hcz24_5
         try clear hcz24_6
         try clear hcz24_7
         try clear hcz26_0
         try clear hcz26_1
         try clear hcz26_2
         try clear hcz26_3
         try clear hcz26_4
         try clear hcz26_5
         try clear hcz26_6
         try clear hcz26_7
         try clear hcz28_0
         try clear hcz28_1
         try clear hcz28_2
         try clear hcz28_3
         try clear hcz28_4
         try clear hcz28_5
         try clear hcz28_6
         try clear hcz28_7
         try clear hcz30_0
         try clear hcz30_1
         try clear hcz30_2
         try clear hcz30_3
         try clear hcz30_4
         try clear hcz30_5
         try clear hcz30_6
         try clear hcz30_7
         try clear hcz32_0
         try clear hcz32_1
         try clear hcz32_2
         try clear hcz32_3
         try clear hcz32_4
         try clear hcz32_5
         try clear hcz32_6
         try clear hcz32_7
         try clear hcz40_0
         try clear hcz40_1
         try clear hcz40_2
         try clear hcz40_3
         try clear hcz40_4
         try clear hcz40_5
         try clear hcz40_6
         try clear hcz40_7
         try clear hcz41_0
         try clear hcz41_1
         try clear hcz41_2
         try clear hcz41_3
         try clear hcz6_0
         try clear hcz6_1
         try clear hcz6_2
         try clear hcz6_3
         try clear hcz9_0
         try clear hcz9_1
         try clear hcz9_2
         try clear hcz9_3
         try clear hcz9_4
         try clear hcz9_5
         try clear hcz9_6
         try clear hcz9_7
         try clear hfz22_0
         try clear hfz22_1
         try clear hfz22_2
         try clear hfz22_3
         try clear hfz22_4
         try clear hfz22_5
         try clear hfz22_6
         try clear hfz22_7
         try clear hfz24_0
         try clear hfz24_1
         try clear hfz24_2
         try clear hfz24_3
         try clear hfz24_4
         try clear hfz24_5
         try clear hfz24_6
         try clear hfz24_7
         try clear hfz26_0
         try clear hfz26_1
         try clear hfz26_2
         try clear hfz26_3
         try clear hfz26_4
         try clear hfz26_5
         try clear hfz26_6
         try clear hfz26_7
         try clear hfz28_0
         try clear hfz28_1
         try clear hfz28_2
         try clear hfz28_3
         try clear hfz28_4
         try clear hfz28_5
         try clear hfz28_6
         try clear hfz28_7
         try clear hfz30_0
         try clear hfz30_1
         try clear hfz30_2
         try clear hfz30_3
         try clear hfz30_4
         try clear hfz30_5
         try clear hfz30_6
         try clear hfz30_7
         try clear hfz32_0
         try clear hfz32_1
         try clear hfz32_2
         try clear hfz32_3
         try clear hfz32_4
         try clear hfz32_5
         try clear hfz32_6
         try clear hfz32_7
         try clear hfz40_0
         try clear hfz40_1
         try clear hfz40_2
         try clear hfz40_3
         try clear hfz40_4
         try clear hfz40_5
         try clear hfz40_6
         try clear hfz40_7
         try clear hfz41_0
         try clear hfz41_1
         try clear hfz41_2
         try clear hfz41_3
         try clear hfz6_0
         try clear hfz6_1
         try clear hfz6_2
         try clear hfz6_3
         try clear hfz9_0
         try clear hfz9_1
         try clear hfz9_2
         try clear hfz9_3
         try clear hfz9_4
         try clear hfz9_5
         try clear hfz9_6
         try clear hfz9_7
         try clear hx230_0
         try clear hx230_1
         try clear hx230_2
         try clear hx230_3
         try clear hx230_4
         try clear hx230_5
         try clear hx230_6
         try clear hx230_7
         try clear hx238_0
         try clear hx238_1
         try clear hx238_2
         try clear hx238_3
         try clear hx238_4
         try clear hx238_5
         try clear hx238_6
         try clear hx238_7
         try clear p2
         try clear p23
         try clear p230
         try clear p238
         try clear q2
         try clear q23
         try clear q230
         try clear q238
         obtain ⟨kq, x65_33, rfl, HA, HJ33, BK229, BK231, HB⟩ := hcut
         cases kq with
         | zero => exact absurd HA.out (by simp [skiarearef10_lifts.j2])
         | succ kj33 =>
          have H := HA.out
          clear HA
          simp only [skiarearef10_lifts.j2] at H
          by_cases c42 : x65_33 = true
          ·subst c42
           have H1 : (some 7) = some r := by rw [if_pos rfl] at H; exact H
           clear H
           have H := H1
           clear H1
           obtain rfl := Option.some.inj H
           go_wp2
           repeat (go_quiet (fail); try go_wp2)
           go_ret
           exact ⟨by first | rfl | (simp [errW_none, errW_some] <;> rfl) | (simp [*, errW_none, errW_some] <;> rfl), by repeat (first | (with_reducible first | exact HB.out | apply below_alloc | apply pw_below_drewN | apply below_drew1 | refine below_set ?_ GE229.out | refine below_set ?_ GE231.out) | exact HB.out)⟩
          ·replace c42 := Bool.eq_false_iff.mpr c42
           subst c42
           have H1 : ((skiarearef10_rises.f kj33 l0_0 l0_1 l0_2 l0_3 ((rd_T82 l0_1 x3_1).f2) ((rd_T82 l0_1 x3_1).f3)).bind fun t239 => (if t239 = 0 then ((skiarearef10_carriers.f ((rd_T82 l0_1 x3_1).f0) ((rd_T82 l0_1 x3_1).f1) ((rd_T82 l0_1 x3_1).f2) ((rd_T82 l0_1 x3_1).f3) ((rd_T82 l0_1 x3_1).f4) ((rd_T82 l0_1 x3_1).f5) ((rd_T82 l0_1 x3_1).f6) ((rd_T82 l0_1 x3_1).f7)).bind fun t240 => (if t240 = true then (skiarearef10_lifts.l0 kj33 (wrap64 (x3_1 + 1)) l0_0 l0_1 l0_2 l0_3) else (some 1))) else (some t239))) = some r := by rw [if_neg (show ¬ (false = true) by decide)] at H; exact H
           clear H
           have H := H1
           clear H1
           replace H := Option.bind_eq_some_iff.mp H
           obtain ⟨t239, A430, H⟩ := H
           replace H : (if t239 = 0 then ((skiarearef10_carriers.f ((rd_T82 l0_1 x3_1).f0) ((rd_T82 l0_1 x3_1).f1) ((rd_T82 l0_1 x3_1).f2) ((rd_T82 l0_1 x3_1).f3) ((rd_T82 l0_1 x3_1).f4) ((rd_T82 l0_1 x3_1).f5) ((rd_T82 l0_1 x3_1).f6) ((rd_T82 l0_1 x3_1).f7)).bind fun t240 => (if t240 = true then (skiarearef10_lifts.l0 kj33 (wrap64 (x3_1 + 1)) l0_0 l0_1 l0_2 l0_3) else (some 1))) else (some t239)) = some r := H
           have A43 := Aside0.mk A430
           clear A430
           by_cases c44 : t239 = 0
           ·rw [if_pos c44] at H
            have c44b0 : (t239 == 0) = true := beq_iff_eq.mpr c44
            have c44b1 : (t239 != 0) = false := bne_eq_false_iff_eq.mpr c44
            clear c44
            replace H := Option.bind_eq_some_iff.mp H
            obtain ⟨t240, A450, H⟩ := H
            replace H : (if t240 = true then (skiarearef10_lifts.l0 kj33 (wrap64 (x3_1 + 1)) l0_0 l0_1 l0_2 l0_3) else (some 1)) = some r := H
            have A45 := Aside0.mk A450
            clear A450
            by_cases c46 : t240 = true
            ·subst c46
             have H1 : (skiarearef10_lifts.l0 kj33 (wrap64 (x3_1 + 1)) l0_0 l0_1 l0_2 l0_3) = some r := by rw [if_pos rfl] at H; exact H
             clear H
             have H := H1
             clear H1
             have H' := Aside0.mk H
             clear H
             have hnb47 := NB229_231.out
             have hnc47 := NB231_229.out
             have hcz48_0 := cz_ BK229 0
             have hcz48_1 := cz_ BK229 1
             have hcz48_2 := cz_ BK229 2
             have hcz48_3 := cz_ BK229 3
             have hfz48_0 := fz_ BK229 0
             have hfz48_1 := fz_ BK229 1
             have hfz48_2 := fz_ BK229 2
             have hfz48_3 := fz_ BK229 3
             have hcz49_0 := cz_ BK231 0
             have hcz49_1 := cz_ BK231 1
             have hcz49_2 := cz_ BK231 2
             have hcz49_3 := cz_ BK231 3
             have hcz49_4 := cz_ BK231 4
             have hcz49_5 := cz_ BK231 5
             have hcz49_6 := cz_ BK231 6
             have hcz49_7 := cz_ BK231 7
             have hfz49_0 := fz_ BK231 0
             have hfz49_1 := fz_ BK231 1
             have hfz49_2 := fz_ BK231 2
             have hfz49_3 := fz_ BK231 3
             have hfz49_4 := fz_ BK231 4
             have hfz49_5 := fz_ BK231 5
             have hfz49_6 := fz_ BK231 6
             have hfz49_7 := fz_ BK231 7
             go_wp2_with (first | (go_at_call 57; (with_reducible refine (skiarearef10_rises.calls kj33 _ _ l0_0 _ _ l0_1 _ _ l0_2 _ _ l0_3 ((rd_T82 l0_1 x3_1).f2) ((rd_T82 l0_1 x3_1).f3) t239 _ ?side1 ?side2 ?side3 ?side4 ?side5 ?side6 ?side7 ?side8 A43.out).mono ?_); (case side1 => exact kC_ (Kd.C_below HR0_0.out HB.out)); (case side2 => exact HC0_0.out); (case side3 => exact kC_ (Kd.C_below HR0_1.out HB.out)); (case side4 => exact HC0_1.out); (case side5 => exact kC_ (Kd.C_below HR0_2.out HB.out)); (case side6 => exact HC0_2.out); (case side7 => exact kC_ (Kd.C_below HR0_3.out HB.out)); (case side8 => exact HC0_3.out); rintro e w50 ⟨rfl, hb⟩; have n0_ := Aside0.mk (blk_below (g := gb229) (o := .cells #[.slice A0_0 l0_0.length c0_0, .slice (some ad230) l0_1.length c0_1, .slice A0_2 l0_2.length c0_2, .slice A0_3 l0_3.length c0_3] 38 (0, 0)) (by (with_reducible repeat (first | refine blk_drewN ?_ _ | refine blk_drew ?_ | refine blk_alloc ?_ _)); exact BK229.out) hb); have n1_ := Aside0.mk (blk_below (g := gb231) (o := .cells #[.int .i64 ((rd_T82 l0_1 x3_1).f0), .int .i64 ((rd_T82 l0_1 x3_1).f1), .int .i64 ((rd_T82 l0_1 x3_1).f2), .int .i64 ((rd_T82 l0_1 x3_1).f3), .int .i64 ((rd_T82 l0_1 x3_1).f4), .int .i64 ((rd_T82 l0_1 x3_1).f5), .int .i64 ((rd_T82 l0_1 x3_1).f6), .int .i64 ((rd_T82 l0_1 x3_1).f7)] 82 (0, 0)) (by (with_reducible repeat (first | refine blk_drewN ?_ _ | refine blk_drew ?_ | refine blk_alloc ?_ _)); exact BK231.out) hb); have n2_ := Aside0.mk (below_step bel_ hb); clear BK229; clear BK231; clear HB; have BK229 := n0_; have BK231 := n1_; have HB := n2_; clear n0_ n1_ n2_; (try clear hb); (try clear hb2); (try clear hk); (try clear hi); have hcz51_0 := cz_ BK231 0; have hcz51_1 := cz_ BK231 1; have hcz51_2 := cz_ BK231 2; have hcz51_3 := cz_ BK231 3; have hcz51_4 := cz_ BK231 4; have hcz51_5 := cz_ BK231 5; have hcz51_6 := cz_ BK231 6; have hcz51_7 := cz_ BK231 7; have hfz51_0 := fz_ BK231 0; have hfz51_1 := fz_ BK231 1; have hfz51_2 := fz_ BK231 2; have hfz51_3 := fz_ BK231 3; have hfz51_4 := fz_ BK231 4; have hfz51_5 := fz_ BK231 5; have hfz51_6 := fz_ BK231 6; have hfz51_7 := fz_ BK231 7) | (go_at_call 58; (with_reducible refine (skiarearef10_carriers.calls ((rd_T82 l0_1 x3_1).f0) ((rd_T82 l0_1 x3_1).f1) ((rd_T82 l0_1 x3_1).f2) ((rd_T82 l0_1 x3_1).f3) ((rd_T82 l0_1 x3_1).f4) ((rd_T82 l0_1 x3_1).f5) ((rd_T82 l0_1 x3_1).f6) ((rd_T82 l0_1 x3_1).f7) true _ A45.out).mono ?_); rintro e w52 ⟨rfl, hb⟩; have n0_ := Aside0.mk (blk_below (g := gb229) (o := .cells #[.slice A0_0 l0_0.length c0_0, .slice (some ad230) l0_1.length c0_1, .slice A0_2 l0_2.length c0_2, .slice A0_3 l0_3.length c0_3] 38 (0, 0)) (by (with_reducible repeat (first | refine blk_drewN ?_ _ | refine blk_drew ?_ | refine blk_alloc ?_ _)); exact BK229.out) hb); have n1_ := Aside0.mk (blk_below (g := gb231) (o := .cells #[.int .i64 ((rd_T82 l0_1 x3_1).f0), .int .i64 ((rd_T82 l0_1 x3_1).f1), .int .i64 ((rd_T82 l0_1 x3_1).f2), .int .i64 ((rd_T82 l0_1 x3_1).f3), .int .i64 ((rd_T82 l0_1 x3_1).f4), .int .i64 ((rd_T82 l0_1 x3_1).f5), .int .i64 ((rd_T82 l0_1 x3_1).f6), .int .i64 ((rd_T82 l0_1 x3_1).f7)] 82 (0, 0)) (by (with_reducible repeat (first | refine blk_drewN ?_ _ | refine blk_drew ?_ | refine blk_alloc ?_ _)); exact BK231.out) hb); have n2_ := Aside0.mk (below_step bel_ hb); clear BK229; clear BK231; clear HB; have BK229 := n0_; have BK231 := n1_; have HB := n2_; clear n0_ n1_ n2_; (try clear hb); (try clear hb2); (try clear hk); (try clear hi)))
             repeat (go_quiet (fail); try go_wp2_with (first | (go_at_call 57; (with_reducible refine (skiarearef10_rises.calls kj33 _ _ l0_0 _ _ l0_1 _ _ l0_2 _ _ l0_3 ((rd_T82 l0_1 x3_1).f2) ((rd_T82 l0_1 x3_1).f3) t239 _ ?side1 ?side2 ?side3 ?side4 ?side5 ?side6 ?side7 ?side8 A43.out).mono ?_); (case side1 => exact kC_ (Kd.C_below HR0_0.out HB.out)); (case side2 => exact HC0_0.out); (case side3 => exact kC_ (Kd.C_below HR0_1.out HB.out)); (case side4 => exact HC0_1.out); (case side5 => exact kC_ (Kd.C_below HR0_2.out HB.out)); (case side6 => exact HC0_2.out); (case side7 => exact kC_ (Kd.C_below HR0_3.out HB.out)); (case side8 => exact HC0_3.out); rintro e w50 ⟨rfl, hb⟩; have n0_ := Aside0.mk (blk_below (g := gb229) (o := .cells #[.slice A0_0 l0_0.length c0_0, .slice (some ad230) l0_1.length c0_1, .slice A0_2 l0_2.length c0_2, .slice A0_3 l0_3.length c0_3] 38 (0, 0)) (by (with_reducible repeat (first | refine blk_drewN ?_ _ | refine blk_drew ?_ | refine blk_alloc ?_ _)); exact BK229.out) hb); have n1_ := Aside0.mk (blk_below (g := gb231) (o := .cells #[.int .i64 ((rd_T82 l0_1 x3_1).f0), .int .i64 ((rd_T82 l0_1 x3_1).f1), .int .i64 ((rd_T82 l0_1 x3_1).f2), .int .i64 ((rd_T82 l0_1 x3_1).f3), .int .i64 ((rd_T82 l0_1 x3_1).f4), .int .i64 ((rd_T82 l0_1 x3_1).f5), .int .i64 ((rd_T82 l0_1 x3_1).f6), .int .i64 ((rd_T82 l0_1 x3_1).f7)] 82 (0, 0)) (by (with_reducible repeat (first | refine blk_drewN ?_ _ | refine blk_drew ?_ | refine blk_alloc ?_ _)); exact BK231.out) hb); have n2_ := Aside0.mk (below_step bel_ hb); clear BK229; clear BK231; clear HB; have BK229 := n0_; have BK231 := n1_; have HB := n2_; clear n0_ n1_ n2_; (try clear hb); (try clear hb2); (try clear hk); (try clear hi); have hcz51_0 := cz_ BK231 0; have hcz51_1 := cz_ BK231 1; have hcz51_2 := cz_ BK231 2; have hcz51_3 := cz_ BK231 3; have hcz51_4 := cz_ BK231 4; have hcz51_5 := cz_ BK231 5; have hcz51_6 := cz_ BK231 6; have hcz51_7 := cz_ BK231 7; have hfz51_0 := fz_ BK231 0; have hfz51_1 := fz_ BK231 1; have hfz51_2 := fz_ BK231 2; have hfz51_3 := fz_ BK231 3; have hfz51_4 := fz_ BK231 4; have hfz51_5 := fz_ BK231 5; have hfz51_6 := fz_ BK231 6; have hfz51_7 := fz_ BK231 7) | (go_at_call 58; (with_reducible refine (skiarearef10_carriers.calls ((rd_T82 l0_1 x3_1).f0) ((rd_T82 l0_1 x3_1).f1) ((rd_T82 l0_1 x3_1).f2) ((rd_T82 l0_1 x3_1).f3) ((rd_T82 l0_1 x3_1).f4) ((rd_T82 l0_1 x3_1).f5) ((rd_T82 l0_1 x3_1).f6) ((rd_T82 l0_1 x3_1).f7) true _ A45.out).mono ?_); rintro e w52 ⟨rfl, hb⟩; have n0_ := Aside0.mk (blk_below (g := gb229) (o := .cells #[.slice A0_0 l0_0.length c0_0, .slice (some ad230) l0_1.length c0_1, .slice A0_2 l0_2.length c0_2, .slice A0_3 l0_3.length c0_3] 38 (0, 0)) (by (with_reducible repeat (first | refine blk_drewN ?_ _ | refine blk_drew ?_ | refine blk_alloc ?_ _)); exact BK229.out) hb); have n1_ := Aside0.mk (blk_below (g := gb231) (o := .cells #[.int .i64 ((rd_T82 l0_1 x3_1).f0), .int .i64 ((rd_T82 l0_1 x3_1).f1), .int .i64 ((rd_T82 l0_1 x3_1).f2), .int .i64 ((rd_T82 l0_1 x3_1).f3), .int .i64 ((rd_T82 l0_1 x3_1).f4), .int .i64 ((rd_T82 l0_1 x3_1).f5), .int .i64 ((rd_T82 l0_1 x3_1).f6), .int .i64 ((rd_T82 l0_1 x3_1).f7)] 82 (0, 0)) (by (with_reducible repeat (first | refine blk_drewN ?_ _ | refine blk_drew ?_ | refine blk_alloc ?_ _)); exact BK231.out) hb); have n2_ := Aside0.mk (below_step bel_ hb); clear BK229; clear BK231; clear HB; have BK229 := n0_; have BK231 := n1_; have HB := n2_; clear n0_ n1_ n2_; (try clear hb); (try clear hb2); (try clear hk); (try clear hi))))
             go_roundg kj33
             case measure => have := HK1.out; have := HJ4.out; have := HJ33.out; omega
             case rel => exact ⟨(wrap64 (x3_1 + 1)), (by first | rfl | (simp; done) | (simp [*]; done)), H', ⟨by have := HK1.out; have := HJ4.out; have := HJ33.out; omega⟩, ⟨by (with_reducible repeat (first | refine blk_drewN ?_ _ | refine blk_drew ?_ | refine blk_alloc ?_ _)); exact BK229.out⟩, ⟨by repeat (first | (with_reducible first | exact HB.out | apply below_alloc | apply pw_below_drewN | apply below_drew1 | refine below_set ?_ GE229.out | refine below_set ?_ GE231.out) | exact HB.out)⟩⟩
            ·replace c46 := Bool.eq_false_iff.mpr c46
             subst c46
             have H1 : (some 1) = some r := by rw [if_neg (show ¬ (false = true) by decide)] at H; exact H
             clear H
             have H := H1
             clear H1
             obtain rfl := Option.some.inj H
             have hnb53 := NB229_231.out
             have hnc53 := NB231_229.out
             have hcz54_0 := cz_ BK229 0
             have hcz54_1 := cz_ BK229 1
             have hcz54_2 := cz_ BK229 2
             have hcz54_3 := cz_ BK229 3
             have hfz54_0 := fz_ BK229 0
             have hfz54_1 := fz_ BK229 1
             have hfz54_2 := fz_ BK229 2
             have hfz54_3 := fz_ BK229 3
             have hcz55_0 := cz_ BK231 0
             have hcz55_1 := cz_ BK231 1
             have hcz55_2 := cz_ BK231 2
             have hcz55_3 := cz_ BK231 3
             have hcz55_4 := cz_ BK231 4
             have hcz55_5 := cz_ BK231 5
             have hcz55_6 := cz_ BK231 6
             have hcz55_7 := cz_ BK231 7
             have hfz55_0 := fz_ BK231 0
             have hfz55_1 := fz_ BK231 1
             have hfz55_2 := fz_ BK231 2
             have hfz55_3 := fz_ BK231 3
             have hfz55_4 := fz_ BK231 4
             have hfz55_5 := fz_ BK231 5
             have hfz55_6 := fz_ BK231 6
             have hfz55_7 := fz_ BK231 7
             go_wp2_with (first | (go_at_call 57; (with_reducible refine (skiarearef10_rises.calls kj33 _ _ l0_0 _ _ l0_1 _ _ l0_2 _ _ l0_3 ((rd_T82 l0_1 x3_1).f2) ((rd_T82 l0_1 x3_1).f3) t239 _ ?side1 ?side2 ?side3 ?side4 ?side5 ?side6 ?side7 ?side8 A43.out).mono ?_); (case side1 => exact kC_ (Kd.C_below HR0_0.out HB.out)); (case side2 => exact HC0_0.out); (case side3 => exact kC_ (Kd.C_below HR0_1.out HB.out)); (case side4 => exact HC0_1.out); (case side5 => exact kC_ (Kd.C_below HR0_2.out HB.out)); (case side6 => exact HC0_2.out); (case side7 => exact kC_ (Kd.C_below HR0_3.out HB.out)); (case side8 => exact HC0_3.out); rintro e w56 ⟨rfl, hb⟩; have n0_ := Aside0.mk (blk_below (g := gb229) (o := .cells #[.slice A0_0 l0_0.length c0_0, .slice (some ad230) l0_1.length c0_1, .slice A0_2 l0_2.length c0_2, .slice A0_3 l0_3.length c0_3] 38 (0, 0)) (by (with_reducible repeat (first | refine blk_drewN ?_ _ | refine blk_drew ?_ | refine blk_alloc ?_ _)); exact BK229.out) hb); have n1_ := Aside0.mk (blk_below (g := gb231) (o := .cells #[.int .i64 ((rd_T82 l0_1 x3_1).f0), .int .i64 ((rd_T82 l0_1 x3_1).f1), .int .i64 ((rd_T82 l0_1 x3_1).f2), .int .i64 ((rd_T82 l0_1 x3_1).f3), .int .i64 ((rd_T82 l0_1 x3_1).f4), .int .i64 ((rd_T82 l0_1 x3_1).f5), .int .i64 ((rd_T82 l0_1 x3_1).f6), .int .i64 ((rd_T82 l0_1 x3_1).f7)] 82 (0, 0)) (by (with_reducible repeat (first | refine blk_drewN ?_ _ | refine blk_drew ?_ | refine blk_alloc ?_ _)); exact BK231.out) hb); have n2_ := Aside0.mk (below_step bel_ hb); clear BK229; clear BK231; clear HB; have BK229 := n0_; have BK231 := n1_; have HB := n2_; clear n0_ n1_ n2_; (try clear hb); (try clear hb2); (try clear hk); (try clear hi); have hcz57_0 := cz_ BK231 0; have hcz57_1 := cz_ BK231 1; have hcz57_2 := cz_ BK231 2; have hcz57_3 := cz_ BK231 3; have hcz57_4 := cz_ BK231 4; have hcz57_5 := cz_ BK231 5; have hcz57_6 := cz_ BK231 6; have hcz57_7 := cz_ BK231 7; have hfz57_0 := fz_ BK231 0; have hfz57_1 := fz_ BK231 1; have hfz57_2 := fz_ BK231 2; have hfz57_3 := fz_ BK231 3; have hfz57_4 := fz_ BK231 4; have hfz57_5 := fz_ BK231 5; have hfz57_6 := fz_ BK231 6; have hfz57_7 := fz_ BK231 7) | (go_at_call 58; (with_reducible refine (skiarearef10_carriers.calls ((rd_T82 l0_1 x3_1).f0) ((rd_T82 l0_1 x3_1).f1) ((rd_T82 l0_1 x3_1).f2) ((rd_T82 l0_1 x3_1).f3) ((rd_T82 l0_1 x3_1).f4) ((rd_T82 l0_1 x3_1).f5) ((rd_T82 l0_1 x3_1).f6) ((rd_T82 l0_1 x3_1).f7) false _ A45.out).mono ?_); rintro e w58 ⟨rfl, hb⟩; have n0_ := Aside0.mk (blk_below (g := gb229) (o := .cells #[.slice A0_0 l0_0.length c0_0, .slice (some ad230) l0_1.length c0_1, .slice A0_2 l0_2.length c0_2, .slice A0_3 l0_3.length c0_3] 38 (0, 0)) (by (with_reducible repeat (first | refine blk_drewN ?_ _ | refine blk_drew ?_ | refine blk_alloc ?_ _)); exact BK229.out) hb); have n1_ := Aside0.mk (blk_below (g := gb231) (o := .cells #[.int .i64 ((rd_T82 l0_1 x3_1).f0), .int .i64 ((rd_T82 l0_1 x3_1).f1), .int .i64 ((rd_T82 l0_1 x3_1).f2), .int .i64 ((rd_T82 l0_1 x3_1).f3), .int .i64 ((rd_T82 l0_1 x3_1).f4), .int .i64 ((rd_T82 l0_1 x3_1).f5), .int .i64 ((rd_T82 l0_1 x3_1).f6), .int .i64 ((rd_T82 l0_1 x3_1).f7)] 82 (0, 0)) (by (with_reducible repeat (first | refine blk_drewN ?_ _ | refine blk_drew ?_ | refine blk_alloc ?_ _)); exact BK231.out) hb); have n2_ := Aside0.mk (below_step bel_ hb); clear BK229; clear BK231; clear HB; have BK229 := n0_; have BK231 := n1_; have HB := n2_; clear n0_ n1_ n2_; (try clear hb); (try clear hb2); (try clear hk); (try clear hi)))
             repeat (go_quiet (fail); try go_wp2_with (first | (go_at_call 57; (with_reducible refine (skiarearef10_rises.calls kj33 _ _ l0_0 _ _ l0_1 _ _ l0_2 _ _ l0_3 ((rd_T82 l0_1 x3_1).f2) ((rd_T82 l0_1 x3_1).f3) t239 _ ?side1 ?side2 ?side3 ?side4 ?side5 ?side6 ?side7 ?side8 A43.out).mono ?_); (case side1 => exact kC_ (Kd.C_below HR0_0.out HB.out)); (case side2 => exact HC0_0.out); (case side3 => exact kC_ (Kd.C_below HR0_1.out HB.out)); (case side4 => exact HC0_1.out); (case side5 => exact kC_ (Kd.C_below HR0_2.out HB.out)); (case side6 => exact HC0_2.out); (case side7 => exact kC_ (Kd.C_below HR0_3.out HB.out)); (case side8 => exact HC0_3.out); rintro e w56 ⟨rfl, hb⟩; have n0_ := Aside0.mk (blk_below (g := gb229) (o := .cells #[.slice A0_0 l0_0.length c0_0, .slice (some ad230) l0_1.length c0_1, .slice A0_2 l0_2.length c0_2, .slice A0_3 l0_3.length c0_3] 38 (0, 0)) (by (with_reducible repeat (first | refine blk_drewN ?_ _ | refine blk_drew ?_ | refine blk_alloc ?_ _)); exact BK229.out) hb); have n1_ := Aside0.mk (blk_below (g := gb231) (o := .cells #[.int .i64 ((rd_T82 l0_1 x3_1).f0), .int .i64 ((rd_T82 l0_1 x3_1).f1), .int .i64 ((rd_T82 l0_1 x3_1).f2), .int .i64 ((rd_T82 l0_1 x3_1).f3), .int .i64 ((rd_T82 l0_1 x3_1).f4), .int .i64 ((rd_T82 l0_1 x3_1).f5), .int .i64 ((rd_T82 l0_1 x3_1).f6), .int .i64 ((rd_T82 l0_1 x3_1).f7)] 82 (0, 0)) (by (with_reducible repeat (first | refine blk_drewN ?_ _ | refine blk_drew ?_ | refine blk_alloc ?_ _)); exact BK231.out) hb); have n2_ := Aside0.mk (below_step bel_ hb); clear BK229; clear BK231; clear HB; have BK229 := n0_; have BK231 := n1_; have HB := n2_; clear n0_ n1_ n2_; (try clear hb); (try clear hb2); (try clear hk); (try clear hi); have hcz57_0 := cz_ BK231 0; have hcz57_1 := cz_ BK231 1; have hcz57_2 := cz_ BK231 2; have hcz57_3 := cz_ BK231 3; have hcz57_4 := cz_ BK231 4; have hcz57_5 := cz_ BK231 5; have hcz57_6 := cz_ BK231 6; have hcz57_7 := cz_ BK231 7; have hfz57_0 := fz_ BK231 0; have hfz57_1 := fz_ BK231 1; have hfz57_2 := fz_ BK231 2; have hfz57_3 := fz_ BK231 3; have hfz57_4 := fz_ BK231 4; have hfz57_5 := fz_ BK231 5; have hfz57_6 := fz_ BK231 6; have hfz57_7 := fz_ BK231 7) | (go_at_call 58; (with_reducible refine (skiarearef10_carriers.calls ((rd_T82 l0_1 x3_1).f0) ((rd_T82 l0_1 x3_1).f1) ((rd_T82 l0_1 x3_1).f2) ((rd_T82 l0_1 x3_1).f3) ((rd_T82 l0_1 x3_1).f4) ((rd_T82 l0_1 x3_1).f5) ((rd_T82 l0_1 x3_1).f6) ((rd_T82 l0_1 x3_1).f7) false _ A45.out).mono ?_); rintro e w58 ⟨rfl, hb⟩; have n0_ := Aside0.mk (blk_below (g := gb229) (o := .cells #[.slice A0_0 l0_0.length c0_0, .slice (some ad230) l0_1.length c0_1, .slice A0_2 l0_2.length c0_2, .slice A0_3 l0_3.length c0_3] 38 (0, 0)) (by (with_reducible repeat (first | refine blk_drewN ?_ _ | refine blk_drew ?_ | refine blk_alloc ?_ _)); exact BK229.out) hb); have n1_ := Aside0.mk (blk_below (g := gb231) (o := .cells #[.int .i64 ((rd_T82 l0_1 x3_1).f0), .int .i64 ((rd_T82 l0_1 x3_1).f1), .int .i64 ((rd_T82 l0_1 x3_1).f2), .int .i64 ((rd_T82 l0_1 x3_1).f3), .int .i64 ((rd_T82 l0_1 x3_1).f4), .int .i64 ((rd_T82 l0_1 x3_1).f5), .int .i64 ((rd_T82 l0_1 x3_1).f6), .int .i64 ((rd_T82 l0_1 x3_1).f7)] 82 (0, 0)) (by (with_reducible repeat (first | refine blk_drewN ?_ _ | refine blk_drew ?_ | refine blk_alloc ?_ _)); exact BK231.out) hb); have n2_ := Aside0.mk (below_step bel_ hb); clear BK229; clear BK231; clear HB; have BK229 := n0_; have BK231 := n1_; have HB := n2_; clear n0_ n1_ n2_; (try clear hb); (try clear hb2); (try clear hk); (try clear hi))))
             go_ret
             exact ⟨by first | rfl | (simp [errW_none, errW_some] <;> rfl) | (simp [*, errW_none, errW_some] <;> rfl), by repeat (first | (with_reducible first | exact HB.out | apply below_alloc | apply pw_below_drewN | apply below_drew1 | refine below_set ?_ GE229.out | refine below_set ?_ GE231.out) | exact HB.out)⟩
           ·rw [if_neg c44] at H
            have c44b0 : (t239 == 0) = false := beq_eq_false_iff_ne.mpr c44
            have c44b1 : (t239 != 0) = true := bne_iff_ne.mpr c44
            obtain rfl := Option.some.inj H
            have hnb59 := NB229_231.out
            have hnc59 := NB231_229.out
            have hcz60_0 := cz_ BK229 0
            have hcz60_1 := cz_ BK229 1
            have hcz60_2 := cz_ BK229 2
            have hcz60_3 := cz_ BK229 3
            have hfz60_0 := fz_ BK229 0
            have hfz60_1 := fz_ BK229 1
            have hfz60_2 := fz_ BK229 2
            have hfz60_3 := fz_ BK229 3
            have hcz61_0 := cz_ BK231 0
            have hcz61_1 := cz_ BK231 1
            have hcz61_2 := cz_ BK231 2
            have hcz61_3 := cz_ BK231 3
            have hcz61_4 := cz_ BK231 4
            have hcz61_5 := cz_ BK231 5
            have hcz61_6 := cz_ BK231 6
            have hcz61_7 := cz_ BK231 7
            have hfz61_0 := fz_ BK231 0
            have hfz61_1 := fz_ BK231 1
            have hfz61_2 := fz_ BK231 2
            have hfz61_3 := fz_ BK231 3
            have hfz61_4 := fz_ BK231 4
            have hfz61_5 := fz_ BK231 5
            have hfz61_6 := fz_ BK231 6
            have hfz61_7 := fz_ BK231 7
            go_wp2_with (first | (go_at_call 57; (with_reducible refine (skiarearef10_rises.calls kj33 _ _ l0_0 _ _ l0_1 _ _ l0_2 _ _ l0_3 ((rd_T82 l0_1 x3_1).f2) ((rd_T82 l0_1 x3_1).f3) t239 _ ?side1 ?side2 ?side3 ?side4 ?side5 ?side6 ?side7 ?side8 A43.out).mono ?_); (case side1 => exact kC_ (Kd.C_below HR0_0.out HB.out)); (case side2 => exact HC0_0.out); (case side3 => exact kC_ (Kd.C_below HR0_1.out HB.out)); (case side4 => exact HC0_1.out); (case side5 => exact kC_ (Kd.C_below HR0_2.out HB.out)); (case side6 => exact HC0_2.out); (case side7 => exact kC_ (Kd.C_below HR0_3.out HB.out)); (case side8 => exact HC0_3.out); rintro e w62 ⟨rfl, hb⟩; have n0_ := Aside0.mk (blk_below (g := gb229) (o := .cells #[.slice A0_0 l0_0.length c0_0, .slice (some ad230) l0_1.length c0_1, .slice A0_2 l0_2.length c0_2, .slice A0_3 l0_3.length c0_3] 38 (0, 0)) (by (with_reducible repeat (first | refine blk_drewN ?_ _ | refine blk_drew ?_ | refine blk_alloc ?_ _)); exact BK229.out) hb); have n1_ := Aside0.mk (blk_below (g := gb231) (o := .cells #[.int .i64 ((rd_T82 l0_1 x3_1).f0), .int .i64 ((rd_T82 l0_1 x3_1).f1), .int .i64 ((rd_T82 l0_1 x3_1).f2), .int .i64 ((rd_T82 l0_1 x3_1).f3), .int .i64 ((rd_T82 l0_1 x3_1).f4), .int .i64 ((rd_T82 l0_1 x3_1).f5), .int .i64 ((rd_T82 l0_1 x3_1).f6), .int .i64 ((rd_T82 l0_1 x3_1).f7)] 82 (0, 0)) (by (with_reducible repeat (first | refine blk_drewN ?_ _ | refine blk_drew ?_ | refine blk_alloc ?_ _)); exact BK231.out) hb); have n2_ := Aside0.mk (below_step bel_ hb); clear BK229; clear BK231; clear HB; have BK229 := n0_; have BK231 := n1_; have HB := n2_; clear n0_ n1_ n2_; (try clear hb); (try clear hb2); (try clear hk); (try clear hi)))
            repeat (go_quiet (fail); try go_wp2_with (first | (go_at_call 57; (with_reducible refine (skiarearef10_rises.calls kj33 _ _ l0_0 _ _ l0_1 _ _ l0_2 _ _ l0_3 ((rd_T82 l0_1 x3_1).f2) ((rd_T82 l0_1 x3_1).f3) t239 _ ?side1 ?side2 ?side3 ?side4 ?side5 ?side6 ?side7 ?side8 A43.out).mono ?_); (case side1 => exact kC_ (Kd.C_below HR0_0.out HB.out)); (case side2 => exact HC0_0.out); (case side3 => exact kC_ (Kd.C_below HR0_1.out HB.out)); (case side4 => exact HC0_1.out); (case side5 => exact kC_ (Kd.C_below HR0_2.out HB.out)); (case side6 => exact HC0_2.out); (case side7 => exact kC_ (Kd.C_below HR0_3.out HB.out)); (case side8 => exact HC0_3.out); rintro e w62 ⟨rfl, hb⟩; have n0_ := Aside0.mk (blk_below (g := gb229) (o := .cells #[.slice A0_0 l0_0.length c0_0, .slice (some ad230) l0_1.length c0_1, .slice A0_2 l0_2.length c0_2, .slice A0_3 l0_3.length c0_3] 38 (0, 0)) (by (with_reducible repeat (first | refine blk_drewN ?_ _ | refine blk_drew ?_ | refine blk_alloc ?_ _)); exact BK229.out) hb); have n1_ := Aside0.mk (blk_below (g := gb231) (o := .cells #[.int .i64 ((rd_T82 l0_1 x3_1).f0), .int .i64 ((rd_T82 l0_1 x3_1).f1), .int .i64 ((rd_T82 l0_1 x3_1).f2), .int .i64 ((rd_T82 l0_1 x3_1).f3), .int .i64 ((rd_T82 l0_1 x3_1).f4), .int .i64 ((rd_T82 l0_1 x3_1).f5), .int .i64 ((rd_T82 l0_1 x3_1).f6), .int .i64 ((rd_T82 l0_1 x3_1).f7)] 82 (0, 0)) (by (with_reducible repeat (first | refine blk_drewN ?_ _ | refine blk_drew ?_ | refine blk_alloc ?_ _)); exact BK231.out) hb); have n2_ := Aside0.mk (below_step bel_ hb); clear BK229; clear BK231; clear HB; have BK229 := n0_; have BK231 := n1_; have HB := n2_; clear n0_ n1_ n2_; (try clear hb); (try clear hb2); (try clear hk); (try clear hi))))
            go_ret
            exact ⟨by first | rfl | (simp [errW_none, errW_some] <;> rfl) | (simp [*, errW_none, errW_some] <;> rfl), by repeat (first | (with_reducible first | exact HB.out | apply below_alloc | apply pw_below_drewN | apply below_drew1 | refine below_set ?_ GE229.out | refine below_set ?_ GE231.out) | exact HB.out)⟩
    ·rw [if_neg c4] at H
     exact absurd H (by simp)
   ·rw [if_neg c3] at H
    have c3b0 : decide (x3_1 < (l0_1.length : Int)) = false := decide_eq_false c3
    clear c3
    obtain rfl := Option.some.inj H
    have hcz63_0 := cz_ BK229 0
    have hcz63_1 := cz_ BK229 1
    have hcz63_2 := cz_ BK229 2
    have hcz63_3 := cz_ BK229 3
    have hfz63_0 := fz_ BK229 0
    have hfz63_1 := fz_ BK229 1
    have hfz63_2 := fz_ BK229 2
    have hfz63_3 := fz_ BK229 3
    go_wp2
    repeat (go_quiet (fail); try go_wp2)
    go_ret
    exact ⟨by first | rfl | (simp [errW_none, errW_some] <;> rfl) | (simp [*, errW_none, errW_some] <;> rfl), by repeat (first | (with_reducible first | exact HB.out | apply below_alloc | apply pw_below_drewN | apply below_drew1 | refine below_set ?_ GE229.out) | exact HB.out)⟩

end Go.Proofs.Ytgfiidgigenibaa.Q
