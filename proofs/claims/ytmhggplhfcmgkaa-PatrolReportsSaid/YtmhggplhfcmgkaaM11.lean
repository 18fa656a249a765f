/- Walks and plain laws that this claim bears (this session's). -/
import Derived.Test.YtmhggplhfcmgkaaM10
import Derived.Test.YtmhggplhfcmgkaaM8
namespace Go.Proofs.Ytmhggplhfcmgkaa.Q
open Go.RowKit Go.Proofs.YtmhggplhfcmgkaaW.PrintWords Go.Proofs.YtmhggplhfcmgkaaW.PrintLast Go.Proofs.YtmhggplhfcmgkaaW.PrintMore
attribute [local go_sem] max2_int min2_int max_two min_two max_three min_three max_four min_four   -- for this text's walks alone
set_option linter.unusedVariables false
set_option linter.unusedSimpArgs false
mutual
def skiarearef53_Right.j0 : Nat → Bool → List (S63) → List (S56) → Option (Int)
 | 0, _, _, _ => none
 | k + 1, x17, x530000, x530001 => if x17 = true then (some 4) else (skiarearef53_Right.l0 k 0 x530000 x530001)
def skiarearef53_Right.l0 : Nat → Int → List (S63) → List (S56) → Option (Int)
 | 0, _, _, _ => none
 | k + 1, x3, x530000, x530001 => if x3 < (x530000.length : Int) then (if 0 ≤ x3 then (if ((rd_T63 x530000 x3).f0) < 1 then (skiarearef53_Right.j2 k x3 true x530000 x530001) else (skiarearef53_Right.j2 k x3 (decide (((rd_T63 x530000 x3).f0) > 9999)) x530000 x530001)) else (none)) else (skiarearef53_Right.l1 k 0 x530000 x530001)
def skiarearef53_Right.j2 : Nat → Int → Bool → List (S63) → List (S56) → Option (Int)
 | 0, _, _, _, _ => none
 | k + 1, x3, x40, x530000, x530001 => if x40 = true then (some 2) else (if x3 > 0 then (if 0 ≤ x3 then (if x3 < (x530000.length : Int) then (if 0 ≤ (wrap64 (x3 - 1)) then (if (wrap64 (x3 - 1)) < (x530000.length : Int) then (skiarearef53_Right.j3 k x3 (decide (((rd_T63 x530000 x3).f0) ≤ ((rd_T63 x530000 (wrap64 (x3 - 1))).f0))) x530000 x530001) else (none)) else (none)) else (none)) else (none)) else (skiarearef53_Right.j3 k x3 false x530000 x530001))
def skiarearef53_Right.j3 : Nat → Int → Bool → List (S63) → List (S56) → Option (Int)
 | 0, _, _, _, _ => none
 | k + 1, x3, x58, x530000, x530001 => if x58 = true then (some 11) else (if 0 ≤ x3 then (if x3 < (x530000.length : Int) then ((skiarearef19_Right.f k ((rd_T63 x530000 x3).f1.f0) ((rd_T63 x530000 x3).f1.f1) ((rd_T63 x530000 x3).f1.f2)).bind fun t535 => (if t535 = 0 then (skiarearef53_Right.l0 k (wrap64 (x3 + 1)) x530000 x530001) else (some t535))) else (none)) else (none))
def skiarearef53_Right.l1 : Nat → Int → List (S63) → List (S56) → Option (Int)
 | 0, _, _, _ => none
 | k + 1, x5, x530000, x530001 => if x5 < (x530001.length : Int) then (if 0 ≤ x5 then (if ((rd_T56 x530001 x5).f0) < 1 then (skiarearef53_Right.j5 k x5 true x530000 x530001 ((rd_T56 x530001 x5).f0) ((rd_T56 x530001 x5).f1) ((rd_T56 x530001 x5).f2)) else (if ((rd_T56 x530001 x5).f0) > 9999 then (skiarearef53_Right.j5 k x5 true x530000 x530001 ((rd_T56 x530001 x5).f0) ((rd_T56 x530001 x5).f1) ((rd_T56 x530001 x5).f2)) else (if ((rd_T56 x530001 x5).f2) < 0 then (skiarearef53_Right.j5 k x5 true x530000 x530001 ((rd_T56 x530001 x5).f0) ((rd_T56 x530001 x5).f1) ((rd_T56 x530001 x5).f2)) else (skiarearef53_Right.j5 k x5 (decide (((rd_T56 x530001 x5).f2) > 20000000)) x530000 x530001 ((rd_T56 x530001 x5).f0) ((rd_T56 x530001 x5).f1) ((rd_T56 x530001 x5).f2))))) else (none)) else (some 0)
def skiarearef53_Right.j5 : Nat → Int → Bool → List (S63) → List (S56) → Int → Int → Int → Option (Int)
 | 0, _, _, _, _, _, _, _ => none
 | k + 1, x5, x98, x530000, x530001, x538000, x538001, x538002 => if x98 = true then (some 2) else (skiarearef53_Right.l2 k x5 0 x530000 x530001 x538000 x538001 x538002)
def skiarearef53_Right.l2 : Nat → Int → Int → List (S63) → List (S56) → Int → Int → Int → Option (Int)
 | 0, _, _, _, _, _, _, _ => none
 | k + 1, x5, x7, x530000, x530001, x538000, x538001, x538002 => if x7 < x5 then (if 0 ≤ x7 then (if x7 < (x530001.length : Int) then (if ((rd_T56 x530001 x7).f0) = x538000 then (some 7) else (skiarearef53_Right.l2 k x5 (wrap64 (x7 + 1)) x530000 x530001 x538000 x538001 x538002)) else (none)) else (none)) else ((skiarearef53_at.f k x530000 x530001 x538001).bind fun t539 => (if t539 < 0 then (some 8) else (skiarearef53_Right.l1 k (wrap64 (x5 + 1)) x530000 x530001)))
end
def skiarearef53_Right.f (k : Nat) (l0_0 : List (S63)) (l0_1 : List (S56)) : Option (Int) := if (l0_0.length : Int) > 64 then (skiarearef53_Right.j0 k true l0_0 l0_1) else (skiarearef53_Right.j0 k (decide ((l0_1.length : Int) > 200)) l0_0 l0_1)
theorem skiarearef53_Right.mono_l : ∀ k, (∀ y0 y1 y2, LeO (skiarearef53_Right.j0 k y0 y1 y2) (skiarearef53_Right.j0 (k + 1) y0 y1 y2)) ∧ (∀ y0 y1 y2, LeO (skiarearef53_Right.l0 k y0 y1 y2) (skiarearef53_Right.l0 (k + 1) y0 y1 y2)) ∧ (∀ y0 y1 y2 y3, LeO (skiarearef53_Right.j2 k y0 y1 y2 y3) (skiarearef53_Right.j2 (k + 1) y0 y1 y2 y3)) ∧ (∀ y0 y1 y2 y3, LeO (skiarearef53_Right.j3 k y0 y1 y2 y3) (skiarearef53_Right.j3 (k + 1) y0 y1 y2 y3)) ∧ (∀ y0 y1 y2, LeO (skiarearef53_Right.l1 k y0 y1 y2) (skiarearef53_Right.l1 (k + 1) y0 y1 y2)) ∧ (∀ y0 y1 y2 y3 y4 y5 y6, LeO (skiarearef53_Right.j5 k y0 y1 y2 y3 y4 y5 y6) (skiarearef53_Right.j5 (k + 1) y0 y1 y2 y3 y4 y5 y6)) ∧ (∀ y0 y1 y2 y3 y4 y5 y6, LeO (skiarearef53_Right.l2 k y0 y1 y2 y3 y4 y5 y6) (skiarearef53_Right.l2 (k + 1) y0 y1 y2 y3 y4 y5 y6))
 | 0 => ⟨fun _ _ _ r h => by simp [skiarearef53_Right.j0] at h, fun _ _ _ r h => by simp [skiarearef53_Right.l0] at h, fun _ _ _ _ r h => by simp [skiarearef53_Right.j2] at h, fun _ _ _ _ r h => by simp [skiarearef53_Right.j3] at h, fun _ _ _ r h => by simp [skiarearef53_Right.l1] at h, fun _ _ _ _ _ _ _ r h => by simp [skiarearef53_Right.j5] at h, fun _ _ _ _ _ _ _ r h => by simp [skiarearef53_Right.l2] at h⟩
 | k + 1 => by
  obtain ⟨ih0, ih1, ih2, ih3, ih4, ih5, ih6⟩ := skiarearef53_Right.mono_l k
  refine ⟨?_, ?_, ?_, ?_, ?_, ?_, ?_⟩
  ·intro y0 y1 y2
   unfold skiarearef53_Right.j0
   repeat' first
   | (with_reducible exact ih0 _ _ _)
   | (with_reducible exact ih1 _ _ _)
   | (with_reducible exact ih2 _ _ _ _)
   | (with_reducible exact ih3 _ _ _ _)
   | (with_reducible exact ih4 _ _ _)
   | (with_reducible exact ih5 _ _ _ _ _ _ _)
   | (with_reducible exact ih6 _ _ _ _ _ _ _)
   | (with_reducible exact skiarearef19_Right.mono _ _ _ _)
   | (with_reducible exact skiarearef53_at.mono _ _ _ _)
   | (with_reducible exact LeO.refl _)
   | (with_reducible exact LeO.none _)
   | (with_reducible refine LeO.ite ?_ ?_)
   | (with_reducible refine LeO.bind ?_ (fun _ => ?_))
   | exact ih0 _ _ _
   | exact ih1 _ _ _
   | exact ih2 _ _ _ _
   | exact ih3 _ _ _ _
   | exact ih4 _ _ _
   | exact ih5 _ _ _ _ _ _ _
   | exact ih6 _ _ _ _ _ _ _
   | exact skiarearef19_Right.mono _ _ _ _
   | exact skiarearef53_at.mono _ _ _ _
   | exact LeO.none _
   | refine LeO.ite ?_ ?_
   | refine LeO.bind ?_ (fun _ => ?_)
  ·intro y0 y1 y2
   unfold skiarearef53_Right.l0
   repeat' first
   | (with_reducible exact ih0 _ _ _)
   | (with_reducible exact ih1 _ _ _)
   | (with_reducible exact ih2 _ _ _ _)
   | (with_reducible exact ih3 _ _ _ _)
   | (with_reducible exact ih4 _ _ _)
   | (with_reducible exact ih5 _ _ _ _ _ _ _)
   | (with_reducible exact ih6 _ _ _ _ _ _ _)
   | (with_reducible exact skiarearef19_Right.mono _ _ _ _)
   | (with_reducible exact skiarearef53_at.mono _ _ _ _)
   | (with_reducible exact LeO.refl _)
   | (with_reducible exact LeO.none _)
   | (with_reducible refine LeO.ite ?_ ?_)
   | (with_reducible refine LeO.bind ?_ (fun _ => ?_))
   | exact ih0 _ _ _
   | exact ih1 _ _ _
   | exact ih2 _ _ _ _
   | exact ih3 _ _ _ _
   | exact ih4 _ _ _
   | exact ih5 _ _ _ _ _ _ _
   | exact ih6 _ _ _ _ _ _ _
   | exact skiarearef19_Right.mono _ _ _ _
   | exact skiarearef53_at.mono _ _ _ _
   | exact LeO.none _
   | refine LeO.ite ?_ ?_
   | refine LeO.bind ?_ (fun _ => ?_)
  ·intro y0 y1 y2 y3
   unfold skiarearef53_Right.j2
   repeat' first
   | (with_reducible exact ih0 _ _ _)
   | (with_reducible exact ih1 _ _ _)
   | (with_reducible exact ih2 _ _ _ _)
   | (with_reducible exact ih3 _ _ _ _)
   | (with_reducible exact ih4 _ _ _)
   | (with_reducible exact ih5 _ _ _ _ _ _ _)
   | (with_reducible exact ih6 _ _ _ _ _ _ _)
   | (with_reducible exact skiarearef19_Right.mono _ _ _ _)
   | (with_reducible exact skiarearef53_at.mono _ _ _ _)
   | (with_reducible exact LeO.refl _)
   | (with_reducible exact LeO.none _)
   | (with_reducible refine LeO.ite ?_ ?_)
   | (with_reducible refine LeO.bind ?_ (fun _ => ?_))
   | exact ih0 _ _ _
   | exact ih1 _ _ _
   | exact ih2 _ _ _ _
   | exact ih3 _ _ _ _
   | exact ih4 _ _ _
   | exact ih5 _ _ _ _ _ _ _
   | exact ih6 _ _ _ _ _ _ _
   | exact skiarearef19_Right.mono _ _ _ _
   | exact skiarearef53_at.mono _ _ _ _
   | exact LeO.none _
   | refine LeO.ite ?_ ?_
   | refine LeO.bind ?_ (fun _ => ?_)
  ·intro y0 y1 y2 y3
   unfold skiarearef53_Right.j3
   repeat' first
   | (with_reducible exact ih0 _ _ _)
   | (with_reducible exact ih1 _ _ _)
   | (with_reducible exact ih2 _ _ _ _)
   | (with_reducible exact ih3 _ _ _ _)
   | (with_reducible exact ih4 _ _ _)
   | (with_reducible exact ih5 _ _ _ _ _ _ _)
   | (with_reducible exact ih6 _ _ _ _ _ _ _)
   | (with_reducible exact skiarearef19_Right.mono _ _ _ _)
   | (with_reducible exact skiarearef53_at.mono _ _ _ _)
   | (with_reducible exact LeO.refl _)
   | (with_reducible exact LeO.none _)
   | (with_reducible refine LeO.ite ?_ ?_)
   | (with_reducible refine LeO.bind ?_ (fun _ => ?_))
   | exact ih0 _ _ _
   | exact ih1 _ _ _
   | exact ih2 _ _ _ _
   | exact ih3 _ _ _ _
   | exact ih4 _ _ _
   | exact ih5 _ _ _ _ _ _ _
   | exact ih6 _ _ _ _ _ _ _
   | exact skiarearef19_Right.mono _ _ _ _
   | exact skiarearef53_at.mono _ _ _ _
   | exact LeO.none _
   | refine LeO.ite ?_ ?_
   | refine LeO.bind ?_ (fun _ => ?_)
  ·intro y0 y1 y2
   unfold skiarearef53_Right.l1
   repeat' first
   | (with_reducible exact ih0 _ _ _)
   | (with_reducible exact ih1 _ _ _)
   | (with_reducible exact ih2 _ _ _ _)
   | (with_reducible exact ih3 _ _ _ _)
   | (with_reducible exact ih4 _ _ _)
   | (with_reducible exact ih5 _ _ _ _ _ _ _)
   | (with_reducible exact ih6 _ _ _ _ _ _ _)
   | (with_reducible exact skiarearef19_Right.mono _ _ _ _)
   | (with_reducible exact skiarearef53_at.mono _ _ _ _)
   | (with_reducible exact LeO.refl _)
   | (with_reducible exact LeO.none _)
   | (with_reducible refine LeO.ite ?_ ?_)
   | (with_reducible refine LeO.bind ?_ (fun _ => ?_))
   | exact ih0 _ _ _
   | exact ih1 _ _ _
   | exact ih2 _ _ _ _
   | exact ih3 _ _ _ _
   | exact ih4 _ _ _
   | exact ih5 _ _ _ _ _ _ _
   | exact ih6 _ _ _ _ _ _ _
   | exact skiarearef19_Right.mono _ _ _ _
   | exact skiarearef53_at.mono _ _ _ _
   | exact LeO.none _
   | refine LeO.ite ?_ ?_
   | refine LeO.bind ?_ (fun _ => ?_)
  ·intro y0 y1 y2 y3 y4 y5 y6
   unfold skiarearef53_Right.j5
   repeat' first
   | (with_reducible exact ih0 _ _ _)
   | (with_reducible exact ih1 _ _ _)
   | (with_reducible exact ih2 _ _ _ _)
   | (with_reducible exact ih3 _ _ _ _)
   | (with_reducible exact ih4 _ _ _)
   | (with_reducible exact ih5 _ _ _ _ _ _ _)
   | (with_reducible exact ih6 _ _ _ _ _ _ _)
   | (with_reducible exact skiarearef19_Right.mono _ _ _ _)
   | (with_reducible exact skiarearef53_at.mono _ _ _ _)
   | (with_reducible exact LeO.refl _)
   | (with_reducible exact LeO.none _)
   | (with_reducible refine LeO.ite ?_ ?_)
   | (with_reducible refine LeO.bind ?_ (fun _ => ?_))
   | exact ih0 _ _ _
   | exact ih1 _ _ _
   | exact ih2 _ _ _ _
   | exact ih3 _ _ _ _
   | exact ih4 _ _ _
   | exact ih5 _ _ _ _ _ _ _
   | exact ih6 _ _ _ _ _ _ _
   | exact skiarearef19_Right.mono _ _ _ _
   | exact skiarearef53_at.mono _ _ _ _
   | exact LeO.none _
   | refine LeO.ite ?_ ?_
   | refine LeO.bind ?_ (fun _ => ?_)
  ·intro y0 y1 y2 y3 y4 y5 y6
   unfold skiarearef53_Right.l2
   repeat' first
   | (with_reducible exact ih0 _ _ _)
   | (with_reducible exact ih1 _ _ _)
   | (with_reducible exact ih2 _ _ _ _)
   | (with_reducible exact ih3 _ _ _ _)
   | (with_reducible exact ih4 _ _ _)
   | (with_reducible exact ih5 _ _ _ _ _ _ _)
   | (with_reducible exact ih6 _ _ _ _ _ _ _)
   | (with_reducible exact skiarearef19_Right.mono _ _ _ _)
   | (with_reducible exact skiarearef53_at.mono _ _ _ _)
   | (with_reducible exact LeO.refl _)
   | (with_reducible exact LeO.none _)
   | (with_reducible refine LeO.ite ?_ ?_)
   | (with_reducible refine LeO.bind ?_ (fun _ => ?_))
   | exact ih0 _ _ _
   | exact ih1 _ _ _
   | exact ih2 _ _ _ _
   | exact ih3 _ _ _ _
   | exact ih4 _ _ _
   | exact ih5 _ _ _ _ _ _ _
   | exact ih6 _ _ _ _ _ _ _
   | exact skiarearef19_Right.mono _ _ _ _
   | exact skiarearef53_at.mono _ _ _ _
   | exact LeO.none _
   | refine LeO.ite ?_ ?_
   | refine LeO.bind ?_ (fun _ => ?_)
theorem skiarearef53_Right.mono : ∀ a0 a1 k, LeO (skiarearef53_Right.f k a0 a1) (skiarearef53_Right.f (k + 1) a0 a1) := by
 intro a0 a1 k
 obtain ⟨ih0, ih1, ih2, ih3, ih4, ih5, ih6⟩ := skiarearef53_Right.mono_l k
 unfold skiarearef53_Right.f
 repeat' first
   | (with_reducible exact ih0 _ _ _)
   | (with_reducible exact ih1 _ _ _)
   | (with_reducible exact ih2 _ _ _ _)
   | (with_reducible exact ih3 _ _ _ _)
   | (with_reducible exact ih4 _ _ _)
   | (with_reducible exact ih5 _ _ _ _ _ _ _)
   | (with_reducible exact ih6 _ _ _ _ _ _ _)
   | (with_reducible exact skiarearef19_Right.mono _ _ _ _)
   | (with_reducible exact skiarearef53_at.mono _ _ _ _)
   | (with_reducible exact LeO.refl _)
   | (with_reducible exact LeO.none _)
   | (with_reducible refine LeO.ite ?_ ?_)
   | (with_reducible refine LeO.bind ?_ (fun _ => ?_))
   | exact ih0 _ _ _
   | exact ih1 _ _ _
   | exact ih2 _ _ _ _
   | exact ih3 _ _ _ _
   | exact ih4 _ _ _
   | exact ih5 _ _ _ _ _ _ _
   | exact ih6 _ _ _ _ _ _ _
   | exact skiarearef19_Right.mono _ _ _ _
   | exact skiarearef53_at.mono _ _ _ _
   | exact LeO.none _
   | refine LeO.ite ?_ ?_
   | refine LeO.bind ?_ (fun _ => ?_)
set_option maxHeartbeats 8000000 in
set_option maxRecDepth 100000 in
theorem skiarearef53_Right.calls (k : Nat) (A0_0 : Option Addr) (c0_0 : Nat) (l0_0 : List (S63)) (A0_1 : Option Addr) (c0_1 : Nat) (l0_1 : List (S56)) (r : Int) (w : World) (hr0_0 : Kd.C k63 w A0_0 l0_0.length l0_0) (hc0_0 : l0_0.length ≤ c0_0) (hr0_1 : Kd.C k56 w A0_1 l0_1.length l0_1) (hc0_1 : l0_1.length ≤ c0_1) (h : skiarearef53_Right.f k l0_0 l0_1 = some r) :
  Calls Try.prog 37 #[.agg #[.slice A0_0 l0_0.length c0_0, .slice A0_1 l0_1.length c0_1]] w fun e w' => e = .returned (.int .i64 r) ∧ Below w.heap.size w w' := by
 have hu48 := Try.underlying48
 have hu25 := Try.underlying25
 have hu56 := Try.underlying56
 have HR0_0 := a_ hr0_0
 have HC0_0 := a_ hc0_0
 clear hr0_0 hc0_0
 have HR0_1 := a_ hr0_1
 have HC0_1 := a_ hc0_1
 clear hr0_1 hc0_1
 have HB := a_ (Below.refl w.heap.size w)
 have H : (if (l0_0.length : Int) > 64 then (skiarearef53_Right.j0 k true l0_0 l0_1) else (skiarearef53_Right.j0 k (decide ((l0_1.length : Int) > 200)) l0_0 l0_1)) = some r := h
 clear h
 have HC2 := a_ H
 clear H
 go_enter Try.func37, Try.ntmps37
 go_upto_region 1 with (first | ((with_reducible refine gate_dst (N := 1) rfl ?_); (try (refine gate_guard (by rfl) ?_; dsimp only)); refine box_event ?hg (N := 1) ?hd (cs := #[.slice A0_0 l0_0.length c0_0, .slice A0_1 l0_1.length c0_1]) (t := 48) ?hr ?_; (case hd => rfl); (case hg => rfl); (case hr => first | (go_simp; done) | (go_simp; rfl)); intro gb529 hg w3 hbox hb; have n0_ := a_ (below_step bel_ hb); have n1_ := a_ (hbox); have n2_ := a_ (bz_ hg : w.heap.size ≤ gb529); have n3_ := a_ (bz_ hg : w.heap.size ≤ gb529); clear HB; have HB := n0_; have BK529 := n1_; have GW529 := n2_; have GE529 := n3_; clear n0_ n1_ n2_ n3_; clear hb hbox hg))
 repeat (go_quiet (first | ((with_reducible refine gate_dst (N := 1) rfl ?_); (try (refine gate_guard (by rfl) ?_; dsimp only)); refine box_event ?hg (N := 1) ?hd (cs := #[.slice A0_0 l0_0.length c0_0, .slice A0_1 l0_1.length c0_1]) (t := 48) ?hr ?_; (case hd => rfl); (case hg => rfl); (case hr => first | (go_simp; done) | (go_simp; rfl)); intro gb529 hg w3 hbox hb; have n0_ := a_ (below_step bel_ hb); have n1_ := a_ (hbox); have n2_ := a_ (bz_ hg : w.heap.size ≤ gb529); have n3_ := a_ (bz_ hg : w.heap.size ≤ gb529); clear HB; have HB := n0_; have BK529 := n1_; have GW529 := n2_; have GE529 := n3_; clear n0_ n1_ n2_ n3_; clear hb hbox hg)); go_upto_region 1 with (first | ((with_reducible refine gate_dst (N := 1) rfl ?_); (try (refine gate_guard (by rfl) ?_; dsimp only)); refine box_event ?hg (N := 1) ?hd (cs := #[.slice A0_0 l0_0.length c0_0, .slice A0_1 l0_1.length c0_1]) (t := 48) ?hr ?_; (case hd => rfl); (case hg => rfl); (case hr => first | (go_simp; done) | (go_simp; rfl)); intro gb529 hg w3 hbox hb; have n0_ := a_ (below_step bel_ hb); have n1_ := a_ (hbox); have n2_ := a_ (bz_ hg : w.heap.size ≤ gb529); have n3_ := a_ (bz_ hg : w.heap.size ≤ gb529); clear HB; have HB := n0_; have BK529 := n1_; have GW529 := n2_; have GE529 := n3_; clear n0_ n1_ n2_ n3_; clear hb hbox hg)))
 (try simp only [Act.put, List.setIfInBounds_toArray, List.set_cons_zero, List.set_cons_succ])
 go_cut [17] (fun v17 wc => ∃ (kq : Nat) (x17_1 : Bool), v17 = .bool x17_1 ∧ Aside0 (skiarearef53_Right.j0 kq x17_1 l0_0 l0_1 = some r) ∧ Aside0 (kq ≤ k) ∧ Aside0 (wc.heap[gb529]? = some (.cells #[(.slice A0_0 l0_0.length c0_0), (.slice A0_1 l0_1.length c0_1)] 48 (0, 0))) ∧ Aside0 (Below w.heap.size w wc))
 case first =>
  have H := HC2.out
  clear HC2
  by_cases c4 : (l0_0.length : Int) > 64
  ·rw [if_pos c4] at H
   have c4b0 : decide (64 < (l0_0.length : Int)) = true := decide_eq_true c4
   have c4b1 : decide (64 < l0_0.length) = true := decide_eq_true (by omega)
   clear c4
   (first | rw [c4b0] | (simp only [i64_w, i32_w]; rw [c4b0]) | skip)
   have H' := a_ H
   clear H
   have hcz5_0 := cz_ BK529 0
   have hcz5_1 := cz_ BK529 1
   have hfz5_0 := fz_ BK529 0
   have hfz5_1 := fz_ BK529 1
   go_wp2
   repeat (go_quiet (fail); try go_wp2)
   go_meet
   case rel => exact ⟨_, (true), (by first | rfl | (simp; done) | (simp [*]; done)), H', ⟨by first | omega | exact Nat.le_refl _⟩, ⟨by exact BK529.out⟩, ⟨by repeat (first | (with_reducible first | exact HB.out | apply below_alloc | apply pw_below_drewN | apply below_drew1 | refine below_set ?_ GE529.out) | exact HB.out)⟩⟩
  ·rw [if_neg c4] at H
   have c4b0 : decide (64 < (l0_0.length : Int)) = false := decide_eq_false c4
   have c4b1 : decide (64 < l0_0.length) = false := decide_eq_false (by omega)
   clear c4
   (first | rw [c4b0] | (simp only [i64_w, i32_w]; rw [c4b0]) | skip)
   have H' := a_ H
   clear H
   have hcz6_0 := cz_ BK529 0
   have hcz6_1 := cz_ BK529 1
   have hfz6_0 := fz_ BK529 0
   have hfz6_1 := fz_ BK529 1
   go_wp2
   repeat (go_quiet (fail); try go_wp2)
   go_meet
   case rel => exact ⟨_, (decide ((l0_1.length : Int) > 200)), (by first | rfl | (simp; done) | (simp [*]; done)), H', ⟨by first | omega | exact Nat.le_refl _⟩, ⟨by exact BK529.out⟩, ⟨by repeat (first | (with_reducible first | exact HB.out | apply below_alloc | apply pw_below_drewN | apply below_drew1 | refine below_set ?_ GE529.out) | exact HB.out)⟩⟩
 case rest =>
  clear HC2
  try clear p2
  try clear c3
  try clear c4
  try clear c4b0
  try clear c4b1
  try clear hcz5_0
  try clear hcz5_1
  try clear hcz6_0
  try clear hcz6_1
  try clear hfz5_0
  try clear hfz5_1
  try clear hfz6_0
  try clear hfz6_1
  obtain ⟨kq, x17_1, rfl, HA, HJ1, BK529, HB⟩ := hcut
  cases kq with
  | zero => exact absurd HA.out (by simp [skiarearef53_Right.j0])
  | succ kj1 =>
   have H := HA.out
   clear HA
   simp only [skiarearef53_Right.j0] at H
   by_cases c7 : x17_1 = true
   ·subst c7
    have H1 : (some 4) = some r := by rw [if_pos rfl] at H; exact H
    clear H
    have H := H1
    clear H1
    obtain rfl := Option.some.inj H
    go_wp2
    repeat (go_quiet (fail); try go_wp2)
    go_ret
    exact ⟨by first | rfl | (simp [errW_none, errW_some] <;> rfl) | (simp [*, errW_none, errW_some] <;> rfl), by repeat (first | (with_reducible first | exact HB.out | apply below_alloc | apply pw_below_drewN | apply below_drew1 | refine below_set ?_ GE529.out) | exact HB.out)⟩
   ·replace c7 := Bool.eq_false_iff.mpr c7
    subst c7
    have H1 : (skiarearef53_Right.l0 kj1 0 l0_0 l0_1) = some r := by rw [if_neg (show ¬ (false = true) by decide)] at H; exact H
    clear H
    have H := H1
    clear H1
    have H' := a_ H
    clear H
    go_wp2
    repeat (go_quiet (fail); try go_wp2)
    go_loopg [3] kj1 (fun kq v3 w' => ∃ (x3_2 : Int), v3 = .int .i64 x3_2 ∧ Aside0 (skiarearef53_Right.l0 kq x3_2 l0_0 l0_1 = some r) ∧ Aside0 (kq ≤ kj1) ∧ Aside0 (w'.heap[gb529]? = some (.cells #[(.slice A0_0 l0_0.length c0_0), (.slice A0_1 l0_1.length c0_1)] 48 (0, 0))) ∧ Aside0 (Below w.heap.size w w'))
    case atStart => exact ⟨(0), (by first | rfl | (simp; done) | (simp [*]; done)), H', ⟨Nat.le_refl _⟩, ⟨by exact BK529.out⟩, ⟨by repeat (first | (with_reducible first | exact HB.out | apply below_alloc | apply pw_below_drewN | apply below_drew1 | refine below_set ?_ GE529.out) | exact HB.out)⟩⟩
    case round =>
     clear H'
     try clear p2
     try clear c3
     try clear c4
     try clear c4b0
     try clear c4b1
     try clear c7
     try clear hcz5_0
     try clear hcz5_1
     try clear hcz6_0
     try clear hcz6_1
     try clear hfz5_0
     try clear hfz5_1
     try clear hfz6_0
     try clear hfz6_1
     try clear p2
     obtain ⟨x3_2, rfl, HA, HK2, BK529, HB⟩ := hrel
     cases gk with
     | zero => exact absurd HA.out (by simp [skiarearef53_Right.l0])
     | succ k2 =>
      have H := HA.out
      clear HA
      simp only [skiarearef53_Right.l0] at H
      by_cases c8 : x3_2 < (l0_0.length : Int)
      ·rw [if_pos c8] at H
       have c8b0 : decide (x3_2 < (l0_0.length : Int)) = true := decide_eq_true c8
       clear c8
       have HC9 := a_ H
       clear H
       have hcz10_0 := cz_ BK529 0
       have hcz10_1 := cz_ BK529 1
       have hfz10_0 := fz_ BK529 0
       have hfz10_1 := fz_ BK529 1
       go_upto_region 6 with (fail)
       repeat (go_quiet (fail); go_upto_region 6 with (fail))
       go_cut [40] (fun v40 wc => ∃ (kq : Nat) (x40_8 : Bool), v40 = .bool x40_8 ∧ Aside0 (skiarearef53_Right.j2 kq x3_2 x40_8 l0_0 l0_1 = some r) ∧ Aside0 (kq ≤ k2) ∧ Aside0 (wc.heap[gb529]? = some (.cells #[(.slice A0_0 l0_0.length c0_0), (.slice A0_1 l0_1.length c0_1)] 48 (0, 0))) ∧ Aside0 (Below w.heap.size w wc))
       case first =>
        have H := HC9.out
        clear HC9
        by_cases c11 : 0 ≤ x3_2
        ·rw [if_pos c11] at H
         have c11b0 : decide (0 ≤ x3_2) = true := decide_eq_true c11
         clear c11
         (first | rw [c11b0] | (simp only [i64_w, i32_w]; rw [c11b0]) | skip)
         by_cases c12 : ((rd_T63 l0_0 x3_2).f0) < 1
         ·rw [if_pos c12] at H
          have c12b0 : decide (((rd_T63 l0_0 x3_2).f0) < 1) = true := decide_eq_true c12
          clear c12
          have H' := a_ H
          clear H
          have hcz13_0 := cz_ BK529 0
          have hcz13_1 := cz_ BK529 1
          have hfz13_0 := fz_ BK529 0
          have hfz13_1 := fz_ BK529 1
          have p530 : 0 ≤ (x3_2 : Int) := od_
          have q530 : x3_2 < (l0_0.length : Int) := od_
          obtain ⟨ad530, A530_1, c530_1, A530_3, c530_3, e530, hx530_0, hx530_1, hx530_2, hx530_3, hl530_1, hi530_1, hl530_3, hi530_3⟩ := at_T63 HR0_0.out x3_2 p530 q530
          cases e530
          replace hx530_0 := pc_ hx530_0
          replace hx530_1 := pc_ hx530_1
          replace hx530_2 := pc_ hx530_2
          replace hx530_3 := pc_ hx530_3
          have HR530_1 := a_ hi530_1
          have HC530_1 := a_ hl530_1
          clear hi530_1 hl530_1
          have HR530_3 := a_ hi530_3
          have HC530_3 := a_ hl530_3
          clear hi530_3 hl530_3
          replace p530 := eq_true p530
          replace q530 := eq_true q530
          go_wp2
          repeat (go_quiet (fail); try go_wp2)
          go_meet
          case rel => exact ⟨_, (true), (by first | rfl | (simp; done) | (simp [*]; done)), H', ⟨by have := HJ1.out; have := HK2.out; first | omega | exact Nat.le_refl _⟩, ⟨by exact BK529.out⟩, ⟨by repeat (first | (with_reducible first | exact HB.out | apply below_alloc | apply pw_below_drewN | apply below_drew1 | refine below_set ?_ GE529.out) | exact HB.out)⟩⟩
         ·rw [if_neg c12] at H
          have c12b0 : decide (((rd_T63 l0_0 x3_2).f0) < 1) = false := decide_eq_false c12
          clear c12
          have H' := a_ H
          clear H
          have hcz14_0 := cz_ BK529 0
          have hcz14_1 := cz_ BK529 1
          have hfz14_0 := fz_ BK529 0
          have hfz14_1 := fz_ BK529 1
          have p530 : 0 ≤ (x3_2 : Int) := od_
          have q530 : x3_2 < (l0_0.length : Int) := od_
          obtain ⟨ad530, A530_1, c530_1, A530_3, c530_3, e530, hx530_0, hx530_1, hx530_2, hx530_3, hl530_1, hi530_1, hl530_3, hi530_3⟩ := at_T63 HR0_0.out x3_2 p530 q530
          cases e530
          replace hx530_0 := pc_ hx530_0
          replace hx530_1 := pc_ hx530_1
          replace hx530_2 := pc_ hx530_2
          replace hx530_3 := pc_ hx530_3
          have HR530_1 := a_ hi530_1
          have HC530_1 := a_ hl530_1
          clear hi530_1 hl530_1
          have HR530_3 := a_ hi530_3
          have HC530_3 := a_ hl530_3
          clear hi530_3 hl530_3
          replace p530 := eq_true p530
          replace q530 := eq_true q530
          have p531 : 0 ≤ (x3_2 : Int) := od_
          have q531 : x3_2 < (l0_0.length : Int) := od_
          obtain ⟨ad531, A531_1, c531_1, A531_3, c531_3, e531, hx531_0, hx531_1, hx531_2, hx531_3, hl531_1, hi531_1, hl531_3, hi531_3⟩ := at_T63 HR0_0.out x3_2 p531 q531
          obtain rfl : ad530 = ad531 := (by injection e531)
          replace hx531_0 := pc_ hx531_0
          replace hx531_1 := pc_ hx531_1
          replace hx531_2 := pc_ hx531_2
          replace hx531_3 := pc_ hx531_3
          have HR531_1 := a_ hi531_1
          have HC531_1 := a_ hl531_1
          clear hi531_1 hl531_1
          have HR531_3 := a_ hi531_3
          have HC531_3 := a_ hl531_3
          clear hi531_3 hl531_3
          replace p531 := eq_true p531
          replace q531 := eq_true q531
          have ea_ := Option.some.inj (hx530_1.symm.trans hx531_1)
          injection ea_ with ea_ en_ ec_
          subst ea_
          subst ec_
          clear en_
          have ea_ := Option.some.inj (hx530_3.symm.trans hx531_3)
          injection ea_ with ea_ en_ ec_
          subst ea_
          subst ec_
          clear en_
          go_wp2
          repeat (go_quiet (fail); try go_wp2)
          go_meet
          case rel => exact ⟨_, (decide (((rd_T63 l0_0 x3_2).f0) > 9999)), (by first | rfl | (simp; done) | (simp [*]; done)), H', ⟨by have := HJ1.out; have := HK2.out; first | omega | exact Nat.le_refl _⟩, ⟨by exact BK529.out⟩, ⟨by repeat (first | (with_reducible first | exact HB.out | apply below_alloc | apply pw_below_drewN | apply below_drew1 | refine below_set ?_ GE529.out) | exact HB.out)⟩⟩
        ·rw [if_neg c11] at H
         exact absurd H (by simp)
       case rest =>
        clear HC9
        try clear c1
        try clear p2
        try clear c3
        try clear c4
        try clear c4b0
        try clear c4b1
        try clear c5
        try clear p5
        try clear q5
        try clear hx5
        try clear c7
        try clear c8
        try clear c8b0
        try clear c11
        try clear c11b0
        try clear c12
        try clear c12b0
        try clear hcz10_0
        try clear hcz10_1
        try clear hcz13_0
        try clear hcz13_1
        try clear hcz14_0
        try clear hcz14_1
        try clear hcz5_0
        try clear hcz5_1
        try clear hcz6_0
        try clear hcz6_1
        try clear hfz10_0
        try clear hfz10_1
        try clear hfz13_0
        try clear hfz13_1
        try clear hfz14_0
        try clear hfz14_1
        try clear hfz5_0
        try clear hfz5_1
        try clear hfz6_0
        try clear hfz6_1
        try clear hx530_0
        try clear hx530_1
        try clear hx530_2
        try clear hx530_3
        try clear hx531_0
        try clear hx531_1
        try clear hx531_2
        try clear hx531_3
        try clear p2
        try clear p530
        try clear p531
        try clear q530
        try clear q531
        obtain ⟨kq, x40_8, rfl, HA, HJ8, BK529, HB⟩ := hcut
        cases kq with
        | zero => exact absurd HA.out (by simp [skiarearef53_Right.j2])
        | succ kj8 =>
         have H := HA.out
         clear HA
         simp only [skiarearef53_Right.j2] at H
         by_cases c15 : x40_8 = true
         ·subst c15
          have H1 : (some 2) = some r := by rw [if_pos rfl] at H; exact H
          clear H
          have H := H1
          clear H1
          obtain rfl := Option.some.inj H
          go_wp2
          repeat (go_quiet (fail); try go_wp2)
          go_ret
          exact ⟨by first | rfl | (simp [errW_none, errW_some] <;> rfl) | (simp [*, errW_none, errW_some] <;> rfl), by repeat (first | (with_reducible first | exact HB.out | apply below_alloc | apply pw_below_drewN | apply below_drew1 | refine below_set ?_ GE529.out) | exact HB.out)⟩
         ·replace c15 := Bool.eq_false_iff.mpr c15
          subst c15
          have H1 : (if x3_2 > 0 then (if 0 ≤ x3_2 then (if x3_2 < (l0_0.length : Int) then (if 0 ≤ (wrap64 (x3_2 - 1)) then (if (wrap64 (x3_2 - 1)) < (l0_0.length : Int) then (skiarearef53_Right.j3 kj8 x3_2 (decide (((rd_T63 l0_0 x3_2).f0) ≤ ((rd_T63 l0_0 (wrap64 (x3_2 - 1))).f0))) l0_0 l0_1) else (none)) else (none)) else (none)) else (none)) else (skiarearef53_Right.j3 kj8 x3_2 false l0_0 l0_1)) = some r := by rw [if_neg (show ¬ (false = true) by decide)] at H; exact H
          clear H
          have H := H1
          clear H1
          have HC16 := a_ H
          clear H
          go_upto_region 8 with (fail)
          repeat (go_quiet (fail); go_upto_region 8 with (fail))
          go_cut [58] (fun v58 wc => ∃ (kq : Nat) (x58_15 : Bool), v58 = .bool x58_15 ∧ Aside0 (skiarearef53_Right.j3 kq x3_2 x58_15 l0_0 l0_1 = some r) ∧ Aside0 (kq ≤ kj8) ∧ Aside0 (wc.heap[gb529]? = some (.cells #[(.slice A0_0 l0_0.length c0_0), (.slice A0_1 l0_1.length c0_1)] 48 (0, 0))) ∧ Aside0 (Below w.heap.size w wc))
          case first =>
           have H := HC16.out
           clear HC16
           by_cases c17 : x3_2 > 0
           ·rw [if_pos c17] at H
            have c17b0 : decide (0 < x3_2) = true := decide_eq_true c17
            clear c17
            (first | rw [c17b0] | (simp only [i64_w, i32_w]; rw [c17b0]) | skip)
            by_cases c18 : 0 ≤ x3_2
            ·rw [if_pos c18] at H
             have c18b0 : decide (0 ≤ x3_2) = true := decide_eq_true c18
             clear c18
             by_cases c19 : x3_2 < (l0_0.length : Int)
             ·rw [if_pos c19] at H
              have c19b0 : decide (x3_2 < (l0_0.length : Int)) = true := decide_eq_true c19
              clear c19
              obtain ⟨ji20, hji20⟩ : ∃ j_ : Int, (wrap64 (x3_2 - 1)) = j_ := ⟨_, rfl⟩
              replace H : (if 0 ≤ (ji20) then (if (ji20) < (l0_0.length : Int) then (skiarearef53_Right.j3 kj8 x3_2 (decide (((rd_T63 l0_0 x3_2).f0) ≤ ((rd_T63 l0_0 (ji20)).f0))) l0_0 l0_1) else (none)) else (none)) = some r := by first | (rw [hji20] at H; exact H) | (simp only [hji20] at H ⊢; exact H)
              have hji20w : (IntKind.i64.wrap (x3_2 - 1)) = ji20 := (i64_w _).trans hji20
              by_cases c21 : 0 ≤ (ji20)
              ·rw [if_pos c21] at H
               have c21b0 : decide (0 ≤ (ji20)) = true := decide_eq_true c21
               clear c21
               by_cases c22 : (ji20) < (l0_0.length : Int)
               ·rw [if_pos c22] at H
                have c22b0 : decide ((ji20) < (l0_0.length : Int)) = true := decide_eq_true c22
                clear c22
                have H' := a_ H
                clear H
                have hcz23_0 := cz_ BK529 0
                have hcz23_1 := cz_ BK529 1
                have hfz23_0 := fz_ BK529 0
                have hfz23_1 := fz_ BK529 1
                have p532 : 0 ≤ (x3_2 : Int) := od_
                have q532 : x3_2 < (l0_0.length : Int) := od_
                obtain ⟨ad532, A532_1, c532_1, A532_3, c532_3, e532, hx532_0, hx532_1, hx532_2, hx532_3, hl532_1, hi532_1, hl532_3, hi532_3⟩ := at_T63 HR0_0.out x3_2 p532 q532
                cases e532
                replace hx532_0 := pc_ hx532_0
                replace hx532_1 := pc_ hx532_1
                replace hx532_2 := pc_ hx532_2
                replace hx532_3 := pc_ hx532_3
                have HR532_1 := a_ hi532_1
                have HC532_1 := a_ hl532_1
                clear hi532_1 hl532_1
                have HR532_3 := a_ hi532_3
                have HC532_3 := a_ hl532_3
                clear hi532_3 hl532_3
                replace p532 := eq_true p532
                replace q532 := eq_true q532
                have p533 : 0 ≤ ((ji20) : Int) := od_
                have q533 : (ji20) < (l0_0.length : Int) := od_
                obtain ⟨ad533, A533_1, c533_1, A533_3, c533_3, e533, hx533_0, hx533_1, hx533_2, hx533_3, hl533_1, hi533_1, hl533_3, hi533_3⟩ := at_T63 HR0_0.out (ji20) p533 q533
                obtain rfl : ad532 = ad533 := (by injection e533)
                replace hx533_0 := pc_ hx533_0
                replace hx533_1 := pc_ hx533_1
                replace hx533_2 := pc_ hx533_2
                replace hx533_3 := pc_ hx533_3
                have HR533_1 := a_ hi533_1
                have HC533_1 := a_ hl533_1
                clear hi533_1 hl533_1
                have HR533_3 := a_ hi533_3
                have HC533_3 := a_ hl533_3
                clear hi533_3 hl533_3
                replace p533 := eq_true p533
                replace q533 := eq_true q533
                go_wp2
                repeat (go_quiet (fail); try go_wp2)
                go_meet
                case rel => exact ⟨_, (decide (((rd_T63 l0_0 x3_2).f0) ≤ ((rd_T63 l0_0 (ji20)).f0))), (by first | rfl | (simp; done) | (simp only [← hji20] <;> (first | rfl | simp)) | (simp [*]; done)), H', ⟨by have := HJ1.out; have := HK2.out; have := HJ8.out; first | omega | exact Nat.le_refl _⟩, ⟨by exact BK529.out⟩, ⟨by repeat (first | (with_reducible first | exact HB.out | apply below_alloc | apply pw_below_drewN | apply below_drew1 | refine below_set ?_ GE529.out) | exact HB.out)⟩⟩
               ·rw [if_neg c22] at H
                exact absurd H (by simp)
              ·rw [if_neg c21] at H
               exact absurd H (by simp)
             ·rw [if_neg c19] at H
              exact absurd H (by simp)
            ·rw [if_neg c18] at H
             exact absurd H (by simp)
           ·rw [if_neg c17] at H
            have c17b0 : decide (0 < x3_2) = false := decide_eq_false c17
            clear c17
            (first | rw [c17b0] | (simp only [i64_w, i32_w]; rw [c17b0]) | skip)
            have H' := a_ H
            clear H
            go_wp2
            repeat (go_quiet (fail); try go_wp2)
            go_meet
            case rel => exact ⟨_, (false), (by first | rfl | (simp; done) | (simp [*]; done)), H', ⟨by have := HJ1.out; have := HK2.out; have := HJ8.out; first | omega | exact Nat.le_refl _⟩, ⟨by exact BK529.out⟩, ⟨by repeat (first | (with_reducible first | exact HB.out | apply below_alloc | apply pw_below_drewN | apply below_drew1 | refine below_set ?_ GE529.out) | exact HB.out)⟩⟩
          case rest =>
           clear HC16
           try clear c1
           try clear c2
           try clear p2
           try clear c3
           try clear c4
           try clear c4b0
           try clear c4b1
           try clear c5
           try clear p5
           try clear q5
           try clear hx5
           try clear p6
           try clear c7
           try clear c8
           try clear c8b0
           try clear c11
           try clear c11b0
           try clear c12
           try clear c12b0
           try clear c15
           try clear c17
           try clear c17b0
           try clear c18
           try clear c18b0
           try clear c19
           try clear c19b0
           try clear c21
           try clear c21b0
           try clear c22
           try clear c22b0
           try clear hcz10_0
           try clear hcz10_1
           try clear hcz13_0
           try clear hcz13_1
           try clear hcz14_0
           try clear hcz14_1
           try clear hcz23_0
           try clear hcz23_1
           try clear hcz5_0
           try clear hcz5_1
           try clear hcz6_0
           try clear hcz6_1
           try clear hfz10_0
           try clear hfz10_1
           try clear hfz13_0
           try clear hfz13_1
           try clear hfz14_0
           try clear hfz14_1
           try clear hfz23_0
           try clear hfz23_1
           try clear hfz5_0
           try clear hfz5_1
           try clear hfz6_0
           try clear hfz6_1
           try clear hx530_0
           try clear hx530_1
           try clear hx530_2
           try clear hx530_3
           try clear hx531_0
           try clear hx531_1
           try clear hx531_2
           try clear hx531_3
           try clear hx532_0
           try clear hx532_1
           try clear hx532_2
           try clear hx532_3
           try clear hx533_0
           try clear hx533_1
           try clear hx533_2
           try clear hx533_3
           try clear p2
           try clear p5
           try clear p530
           try clear p531
           try clear p532
           try clear p533
           try clear q5
           try clear q530
           try clear q531
           try clear q532
           try clear q533
           obtain ⟨kq, x58_15, rfl, HA, HJ15, BK529, HB⟩ := hcut
           cases kq with
           | zero => exact absurd HA.out (by simp [skiarearef53_Right.j3])
           | succ kj15 =>
            have H := HA.out
            clear HA
            simp only [skiarearef53_Right.j3] at H
            by_cases c24 : x58_15 = true
            ·subst c24
             have H1 : (some 11) = some r := by rw [if_pos rfl] at H; exact H
             clear H
             have H := H1
             clear H1
             obtain rfl := Option.some.inj H
             go_wp2
             repeat (go_quiet (fail); try go_wp2)
             go_ret
             exact ⟨by first | rfl | (simp [errW_none, errW_some] <;> rfl) | (simp [*, errW_none, errW_some] <;> rfl), by repeat (first | (with_reducible first | exact HB.out | apply below_alloc | apply pw_below_drewN | apply below_drew1 | refine below_set ?_ GE529.out) | exact HB.out)⟩
            ·replace c24 := Bool.eq_false_iff.mpr c24
             subst c24
             have H1 : (if 0 ≤ x3_2 then (if x3_2 < (l0_0.length : Int) then ((skiarearef19_Right.f kj15 ((rd_T63 l0_0 x3_2).f1.f0) ((rd_T63 l0_0 x3_2).f1.f1) ((rd_T63 l0_0 x3_2).f1.f2)).bind fun t535 => (if t535 = 0 then (skiarearef53_Right.l0 kj15 (wrap64 (x3_2 + 1)) l0_0 l0_1) else (some t535))) else (none)) else (none)) = some r := by rw [if_neg (show ¬ (false = true) by decide)] at H; exact H
             clear H
             have H := H1
             clear H1
             by_cases c25 : 0 ≤ x3_2
             ·rw [if_pos c25] at H
              have c25b0 : decide (0 ≤ x3_2) = true := decide_eq_true c25
              clear c25
              by_cases c26 : x3_2 < (l0_0.length : Int)
              ·rw [if_pos c26] at H
               have c26b0 : decide (x3_2 < (l0_0.length : Int)) = true := decide_eq_true c26
               clear c26
               replace H := Option.bind_eq_some_iff.mp H
               obtain ⟨t535, A270, H⟩ := H
               replace H : (if t535 = 0 then (skiarearef53_Right.l0 kj15 (wrap64 (x3_2 + 1)) l0_0 l0_1) else (some t535)) = some r := H
               have A27 := a_ A270
               clear A270
               by_cases c28 : t535 = 0
               ·rw [if_pos c28] at H
                have c28b0 : (t535 == 0) = true := beq_iff_eq.mpr c28
                have c28b1 : (t535 != 0) = false := bne_eq_false_iff_eq.mpr c28
                clear c28
                have H' := a_ H
                clear H
                have hcz29_0 := cz_ BK529 0
                have hcz29_1 := cz_ BK529 1
                have hfz29_0 := fz_ BK529 0
                have hfz29_1 := fz_ BK529 1
                have p534 : 0 ≤ (x3_2 : Int) := od_
                have q534 : x3_2 < (l0_0.length : Int) := od_
                obtain ⟨ad534, A534_1, c534_1, A534_3, c534_3, e534, hx534_0, hx534_1, hx534_2, hx534_3, hl534_1, hi534_1, hl534_3, hi534_3⟩ := at_T63 HR0_0.out x3_2 p534 q534
                cases e534
                replace hx534_0 := pc_ hx534_0
                replace hx534_1 := pc_ hx534_1
                replace hx534_2 := pc_ hx534_2
                replace hx534_3 := pc_ hx534_3
                have HR534_1 := a_ hi534_1
                have HC534_1 := a_ hl534_1
                clear hi534_1 hl534_1
                have HR534_3 := a_ hi534_3
                have HC534_3 := a_ hl534_3
                clear hi534_3 hl534_3
                replace p534 := eq_true p534
                replace q534 := eq_true q534
                go_wp2_with (first | (go_at_call 20; (with_reducible refine (skiarearef19_Right.calls kj15 _ _ ((rd_T63 l0_0 x3_2).f1.f0) ((rd_T63 l0_0 x3_2).f1.f1) _ _ ((rd_T63 l0_0 x3_2).f1.f2) t535 _ ?side1 ?side2 ?side3 ?side4 A27.out).mono ?_); (case side1 => exact kC_ (Kd.C_below HR534_1.out HB.out)); (case side2 => exact HC534_1.out); (case side3 => exact kC_ (Kd.C_below HR534_3.out HB.out)); (case side4 => exact HC534_3.out); rintro e w30 ⟨rfl, hb⟩; have n0_ := a_ (blk_below (bk_ BK529.out) hb); have n1_ := a_ (below_step bel_ hb); clear BK529; clear HB; have BK529 := n0_; have HB := n1_; clear n0_ n1_; (try clear hb); (try clear hb2); (try clear hk); (try clear hi)))
                repeat (go_quiet (fail); try go_wp2_with (first | (go_at_call 20; (with_reducible refine (skiarearef19_Right.calls kj15 _ _ ((rd_T63 l0_0 x3_2).f1.f0) ((rd_T63 l0_0 x3_2).f1.f1) _ _ ((rd_T63 l0_0 x3_2).f1.f2) t535 _ ?side1 ?side2 ?side3 ?side4 A27.out).mono ?_); (case side1 => exact kC_ (Kd.C_below HR534_1.out HB.out)); (case side2 => exact HC534_1.out); (case side3 => exact kC_ (Kd.C_below HR534_3.out HB.out)); (case side4 => exact HC534_3.out); rintro e w30 ⟨rfl, hb⟩; have n0_ := a_ (blk_below (bk_ BK529.out) hb); have n1_ := a_ (below_step bel_ hb); clear BK529; clear HB; have BK529 := n0_; have HB := n1_; clear n0_ n1_; (try clear hb); (try clear hb2); (try clear hk); (try clear hi))))
                go_roundg kj15
                case measure => have := HJ1.out; have := HK2.out; have := HJ8.out; have := HJ15.out; omega
                case rel => exact ⟨(wrap64 (x3_2 + 1)), (by first | rfl | (simp; done) | (simp [*]; done)), H', ⟨by have := HJ1.out; have := HK2.out; have := HJ8.out; have := HJ15.out; omega⟩, ⟨by exact BK529.out⟩, ⟨by repeat (first | (with_reducible first | exact HB.out | apply below_alloc | apply pw_below_drewN | apply below_drew1 | refine below_set ?_ GE529.out) | exact HB.out)⟩⟩
               ·rw [if_neg c28] at H
                have c28b0 : (t535 == 0) = false := beq_eq_false_iff_ne.mpr c28
                have c28b1 : (t535 != 0) = true := bne_iff_ne.mpr c28
                obtain rfl := Option.some.inj H
                have hcz31_0 := cz_ BK529 0
                have hcz31_1 := cz_ BK529 1
                have hfz31_0 := fz_ BK529 0
                have hfz31_1 := fz_ BK529 1
                have p534 : 0 ≤ (x3_2 : Int) := od_
                have q534 : x3_2 < (l0_0.length : Int) := od_
                obtain ⟨ad534, A534_1, c534_1, A534_3, c534_3, e534, hx534_0, hx534_1, hx534_2, hx534_3, hl534_1, hi534_1, hl534_3, hi534_3⟩ := at_T63 HR0_0.out x3_2 p534 q534
                cases e534
                replace hx534_0 := pc_ hx534_0
                replace hx534_1 := pc_ hx534_1
                replace hx534_2 := pc_ hx534_2
                replace hx534_3 := pc_ hx534_3
                have HR534_1 := a_ hi534_1
                have HC534_1 := a_ hl534_1
                clear hi534_1 hl534_1
                have HR534_3 := a_ hi534_3
                have HC534_3 := a_ hl534_3
                clear hi534_3 hl534_3
                replace p534 := eq_true p534
                replace q534 := eq_true q534
                go_wp2_with (first | (go_at_call 20; (with_reducible refine (skiarearef19_Right.calls kj15 _ _ ((rd_T63 l0_0 x3_2).f1.f0) ((rd_T63 l0_0 x3_2).f1.f1) _ _ ((rd_T63 l0_0 x3_2).f1.f2) t535 _ ?side1 ?side2 ?side3 ?side4 A27.out).mono ?_); (case side1 => exact kC_ (Kd.C_below HR534_1.out HB.out)); (case side2 => exact HC534_1.out); (case side3 => exact kC_ (Kd.C_below HR534_3.out HB.out)); (case side4 => exact HC534_3.out); rintro e w32 ⟨rfl, hb⟩; have n0_ := a_ (blk_below (bk_ BK529.out) hb); have n1_ := a_ (below_step bel_ hb); clear BK529; clear HB; have BK529 := n0_; have HB := n1_; clear n0_ n1_; (try clear hb); (try clear hb2); (try clear hk); (try clear hi)))
                repeat (go_quiet (fail); try go_wp2_with (first | (go_at_call 20; (with_reducible refine (skiarearef19_Right.calls kj15 _ _ ((rd_T63 l0_0 x3_2).f1.f0) ((rd_T63 l0_0 x3_2).f1.f1) _ _ ((rd_T63 l0_0 x3_2).f1.f2) t535 _ ?side1 ?side2 ?side3 ?side4 A27.out).mono ?_); (case side1 => exact kC_ (Kd.C_below HR534_1.out HB.out)); (case side2 => exact HC534_1.out); (case side3 => exact kC_ (Kd.C_below HR534_3.out HB.out)); (case side4 => exact HC534_3.out); rintro e w32 ⟨rfl, hb⟩; have n0_ := a_ (blk_below (bk_ BK529.out) hb); have n1_ := a_ (below_step bel_ hb); clear BK529; clear HB; have BK529 := n0_; have HB := n1_; clear n0_ n1_; (try clear hb); (try clear hb2); (try clear hk); (try clear hi))))
                go_ret
                exact ⟨by first | rfl | (simp [errW_none, errW_some] <;> rfl) | (simp [*, errW_none, errW_some] <;> rfl), by repeat (first | (with_reducible first | exact HB.out | apply below_alloc | apply pw_below_drewN | apply below_drew1 | refine below_set ?_ GE529.out) | exact HB.out)⟩
              ·rw [if_neg c26] at H
               exact absurd H (by simp)
             ·rw [if_neg c25] at H
              exact absurd H (by simp)
      ·rw [if_neg c8] at H
       have c8b0 : decide (x3_2 < (l0_0.length : Int)) = false := decide_eq_false c8
       clear c8
       have H' := a_ H
       clear H
       have hcz33_0 := cz_ BK529 0
       have hcz33_1 := cz_ BK529 1
       have hfz33_0 := fz_ BK529 0
       have hfz33_1 := fz_ BK529 1
       go_wp2
       repeat (go_quiet (fail); try go_wp2)
       go_loopg [5] k2 (fun kq v5 w' => ∃ (x5_3 : Int), v5 = .int .i64 x5_3 ∧ Aside0 (skiarearef53_Right.l1 kq x5_3 l0_0 l0_1 = some r) ∧ Aside0 (kq ≤ k2) ∧ Aside0 (w'.heap[gb529]? = some (.cells #[(.slice A0_0 l0_0.length c0_0), (.slice A0_1 l0_1.length c0_1)] 48 (0, 0))) ∧ Aside0 (Below w.heap.size w w'))
       case atStart => exact ⟨(0), (by first | rfl | (simp; done) | (simp [*]; done)), H', ⟨Nat.le_refl _⟩, ⟨by exact BK529.out⟩, ⟨by repeat (first | (with_reducible first | exact HB.out | apply below_alloc | apply pw_below_drewN | apply below_drew1 | refine below_set ?_ GE529.out) | exact HB.out)⟩⟩
       case round =>
        clear H'
        try clear c1
        try clear c2
        try clear p2
        try clear c3
        try clear c4
        try clear c4b0
        try clear c4b1
        try clear c5
        try clear p5
        try clear q5
        try clear hx5
        try clear p6
        try clear c7
        try clear c8
        try clear c8b0
        try clear c11
        try clear c11b0
        try clear c12
        try clear c12b0
        try clear c15
        try clear c17
        try clear c17b0
        try clear c18
        try clear c18b0
        try clear c19
        try clear c19b0
        try clear c21
        try clear c21b0
        try clear c22
        try clear c22b0
        try clear c24
        try clear c25
        try clear c25b0
        try clear c26
        try clear c26b0
        try clear c28
        try clear c28b0
        try clear c28b1
        try clear hcz10_0
        try clear hcz10_1
        try clear hcz13_0
        try clear hcz13_1
        try clear hcz14_0
        try clear hcz14_1
        try clear hcz23_0
        try clear hcz23_1
        try clear hcz29_0
        try clear hcz29_1
        try clear hcz31_0
        try clear hcz31_1
        try clear hcz33_0
        try clear hcz33_1
        try clear hcz5_0
        try clear hcz5_1
        try clear hcz6_0
        try clear hcz6_1
        try clear hfz10_0
        try clear hfz10_1
        try clear hfz13_0
        try clear hfz13_1
        try clear hfz14_0
        try clear hfz14_1
        try clear hfz23_0
        try clear hfz23_1
        try clear hfz29_0
        try clear hfz29_1
        try clear hfz31_0
        try clear hfz31_1
        try clear hfz33_0
        try clear hfz33_1
        try clear hfz5_0
        try clear hfz5_1
        try clear hfz6_0
        try clear hfz6_1
        try clear hx530_0
        try clear hx530_1
        try clear hx530_2
        try clear hx530_3
        try clear hx531_0
        try clear hx531_1
        try clear hx531_2
        try clear hx531_3
        try clear hx532_0
        try clear hx532_1
        try clear hx532_2
        try clear hx532_3
        try clear hx533_0
        try clear hx533_1
        try clear hx533_2
        try clear hx533_3
        try clear hx534_0
        try clear hx534_1
        try clear hx534_2
        try clear hx534_3
        try clear p2
        try clear p5
        try clear p530
        try clear p531
        try clear p532
        try clear p533
        try clear p534
        try clear p6
        try clear q5
        try clear q530
        try clear q531
        try clear q532
        try clear q533
        try clear q534
        obtain ⟨x5_3, rfl, HA, HK3, BK529, HB⟩ := hrel
        cases gk with
        | zero => exact absurd HA.out (by simp [skiarearef53_Right.l1])
        | succ k3 =>
         have H := HA.out
         clear HA
         simp only [skiarearef53_Right.l1] at H
         by_cases c34 : x5_3 < (l0_1.length : Int)
         ·rw [if_pos c34] at H
          have c34b0 : decide (x5_3 < (l0_1.length : Int)) = true := decide_eq_true c34
          clear c34
          by_cases c35 : 0 ≤ x5_3
          ·rw [if_pos c35] at H
           have c35b0 : decide (0 ≤ x5_3) = true := decide_eq_true c35
           clear c35
           have HC36 := a_ H
           clear H
           have hcz37_0 := cz_ BK529 0
           have hcz37_1 := cz_ BK529 1
           have hfz37_0 := fz_ BK529 0
           have hfz37_1 := fz_ BK529 1
           have p536 : 0 ≤ (x5_3 : Int) := od_
           have q536 : x5_3 < (l0_1.length : Int) := od_
           obtain ⟨ad536, e536, hx536_0, hx536_1, hx536_2⟩ := at_T56 HR0_1.out x5_3 p536 q536
           cases e536
           replace hx536_0 := pc_ hx536_0
           replace hx536_1 := pc_ hx536_1
           replace hx536_2 := pc_ hx536_2
           replace p536 := eq_true p536
           replace q536 := eq_true q536
           go_upto_region 17 with (first | ((with_reducible refine gate_dst (N := 6) rfl ?_); (try (refine gate_guard (by rfl) ?_; dsimp only)); refine box_event ?hg (N := 6) ?hd (cs := #[.int .i64 0, .int .i64 0, .int .i64 0]) (t := 56) ?hr ?_; (case hd => rfl); (case hg => rfl); (case hr => first | (go_simp; done) | (go_simp; rfl)); intro gb537 hg w38 hbox hb; have n0_ := a_ (blk_below (bk_ BK529.out) hb); have n1_ := a_ (below_step bel_ hb); have n2_ := a_ (hbox); have n3_ := a_ (bz_ hg : w.heap.size ≤ gb537); have n4_ := a_ (bz_ hg : w.heap.size ≤ gb537); have n5_ := a_ (nl_ hg (bk_ BK529.out)); have n6_ := a_ (ng_ hg (bk_ BK529.out)); clear BK529; clear HB; have BK529 := n0_; have HB := n1_; have BK537 := n2_; have GW537 := n3_; have GE537 := n4_; have NB529_537 := n5_; have NB537_529 := n6_; clear n0_ n1_ n2_ n3_ n4_ n5_ n6_; clear hb hbox hg; have hnb39 := NB537_529.out; have hnc39 := NB529_537.out; have hcz40_0 := cz_ BK537 0; have hcz40_1 := cz_ BK537 1; have hcz40_2 := cz_ BK537 2; have hfz40_0 := fz_ BK537 0; have hfz40_1 := fz_ BK537 1; have hfz40_2 := fz_ BK537 2))
           repeat (go_quiet (first | ((with_reducible refine gate_dst (N := 6) rfl ?_); (try (refine gate_guard (by rfl) ?_; dsimp only)); refine box_event ?hg (N := 6) ?hd (cs := #[.int .i64 0, .int .i64 0, .int .i64 0]) (t := 56) ?hr ?_; (case hd => rfl); (case hg => rfl); (case hr => first | (go_simp; done) | (go_simp; rfl)); intro gb537 hg w38 hbox hb; have n0_ := a_ (blk_below (bk_ BK529.out) hb); have n1_ := a_ (below_step bel_ hb); have n2_ := a_ (hbox); have n3_ := a_ (bz_ hg : w.heap.size ≤ gb537); have n4_ := a_ (bz_ hg : w.heap.size ≤ gb537); have n5_ := a_ (nl_ hg (bk_ BK529.out)); have n6_ := a_ (ng_ hg (bk_ BK529.out)); clear BK529; clear HB; have BK529 := n0_; have HB := n1_; have BK537 := n2_; have GW537 := n3_; have GE537 := n4_; have NB529_537 := n5_; have NB537_529 := n6_; clear n0_ n1_ n2_ n3_ n4_ n5_ n6_; clear hb hbox hg; have hnb39 := NB537_529.out; have hnc39 := NB529_537.out; have hcz40_0 := cz_ BK537 0; have hcz40_1 := cz_ BK537 1; have hcz40_2 := cz_ BK537 2; have hfz40_0 := fz_ BK537 0; have hfz40_1 := fz_ BK537 1; have hfz40_2 := fz_ BK537 2)); go_upto_region 17 with (first | ((with_reducible refine gate_dst (N := 6) rfl ?_); (try (refine gate_guard (by rfl) ?_; dsimp only)); refine box_event ?hg (N := 6) ?hd (cs := #[.int .i64 0, .int .i64 0, .int .i64 0]) (t := 56) ?hr ?_; (case hd => rfl); (case hg => rfl); (case hr => first | (go_simp; done) | (go_simp; rfl)); intro gb537 hg w38 hbox hb; have n0_ := a_ (blk_below (bk_ BK529.out) hb); have n1_ := a_ (below_step bel_ hb); have n2_ := a_ (hbox); have n3_ := a_ (bz_ hg : w.heap.size ≤ gb537); have n4_ := a_ (bz_ hg : w.heap.size ≤ gb537); have n5_ := a_ (nl_ hg (bk_ BK529.out)); have n6_ := a_ (ng_ hg (bk_ BK529.out)); clear BK529; clear HB; have BK529 := n0_; have HB := n1_; have BK537 := n2_; have GW537 := n3_; have GE537 := n4_; have NB529_537 := n5_; have NB537_529 := n6_; clear n0_ n1_ n2_ n3_ n4_ n5_ n6_; clear hb hbox hg; have hnb39 := NB537_529.out; have hnc39 := NB529_537.out; have hcz40_0 := cz_ BK537 0; have hcz40_1 := cz_ BK537 1; have hcz40_2 := cz_ BK537 2; have hfz40_0 := fz_ BK537 0; have hfz40_1 := fz_ BK537 1; have hfz40_2 := fz_ BK537 2)))
           (try simp only [Act.put, List.setIfInBounds_toArray, List.set_cons_zero, List.set_cons_succ])
           go_cut [98] (fun v98 wc => ∃ (kq : Nat) (x98_35 : Bool), v98 = .bool x98_35 ∧ Aside0 (skiarearef53_Right.j5 kq x5_3 x98_35 l0_0 l0_1 ((rd_T56 l0_1 x5_3).f0) ((rd_T56 l0_1 x5_3).f1) ((rd_T56 l0_1 x5_3).f2) = some r) ∧ Aside0 (kq ≤ k3) ∧ Aside0 (wc.heap[gb529]? = some (.cells #[(.slice A0_0 l0_0.length c0_0), (.slice (some ad536) l0_1.length c0_1)] 48 (0, 0))) ∧ Aside0 (wc.heap[gb537]? = some (.cells #[.int .i64 ((rd_T56 l0_1 x5_3).f0), .int .i64 ((rd_T56 l0_1 x5_3).f1), .int .i64 ((rd_T56 l0_1 x5_3).f2)] 56 (0, 0))) ∧ Aside0 (Below w.heap.size w wc))
           case first =>
            have H := HC36.out
            clear HC36
            by_cases c41 : ((rd_T56 l0_1 x5_3).f0) < 1
            ·rw [if_pos c41] at H
             have c41b0 : decide (((rd_T56 l0_1 x5_3).f0) < 1) = true := decide_eq_true c41
             clear c41
             (first | rw [c41b0] | (simp only [i64_w, i32_w]; rw [c41b0]) | skip)
             have H' := a_ H
             clear H
             have hnb42 := NB537_529.out
             have hnc42 := NB529_537.out
             have hcz43_0 := cz_ BK537 0
             have hcz43_1 := cz_ BK537 1
             have hcz43_2 := cz_ BK537 2
             have hfz43_0 := fz_ BK537 0
             have hfz43_1 := fz_ BK537 1
             have hfz43_2 := fz_ BK537 2
             go_wp2
             repeat (go_quiet (fail); try go_wp2)
             go_meet
             case rel => exact ⟨_, (true), (by first | rfl | (simp; done) | (simp [*]; done)), H', ⟨by have := HJ1.out; have := HK2.out; have := HK3.out; first | omega | exact Nat.le_refl _⟩, ⟨by refine blk_far ?_ NB529_537.out _; refine blk_far ?_ NB529_537.out _; refine blk_far ?_ NB529_537.out _; exact BK529.out⟩, ⟨by refine blk_put (cs := #[.int .i64 ((rd_T56 l0_1 x5_3).f0), .int .i64 ((rd_T56 l0_1 x5_3).f1), .int .i64 0]) ?_ 2 _ rfl; refine blk_put (cs := #[.int .i64 ((rd_T56 l0_1 x5_3).f0), .int .i64 0, .int .i64 0]) ?_ 1 _ rfl; refine blk_put (cs := #[.int .i64 0, .int .i64 0, .int .i64 0]) ?_ 0 _ rfl; exact BK537.out⟩, ⟨by repeat (first | (with_reducible first | exact HB.out | apply below_alloc | apply pw_below_drewN | apply below_drew1 | refine below_set ?_ GE529.out | refine below_set ?_ GE537.out) | exact HB.out)⟩⟩
            ·rw [if_neg c41] at H
             have c41b0 : decide (((rd_T56 l0_1 x5_3).f0) < 1) = false := decide_eq_false c41
             clear c41
             (first | rw [c41b0] | (simp only [i64_w, i32_w]; rw [c41b0]) | skip)
             by_cases c44 : ((rd_T56 l0_1 x5_3).f0) > 9999
             ·rw [if_pos c44] at H
              have c44b0 : decide (9999 < ((rd_T56 l0_1 x5_3).f0)) = true := decide_eq_true c44
              clear c44
              have H' := a_ H
              clear H
              have hnb45 := NB537_529.out
              have hnc45 := NB529_537.out
              have hcz46_0 := cz_ BK537 0
              have hcz46_1 := cz_ BK537 1
              have hcz46_2 := cz_ BK537 2
              have hfz46_0 := fz_ BK537 0
              have hfz46_1 := fz_ BK537 1
              have hfz46_2 := fz_ BK537 2
              go_wp2
              repeat (go_quiet (fail); try go_wp2)
              go_meet
              case rel => exact ⟨_, (true), (by first | rfl | (simp; done) | (simp [*]; done)), H', ⟨by have := HJ1.out; have := HK2.out; have := HK3.out; first | omega | exact Nat.le_refl _⟩, ⟨by refine blk_far ?_ NB529_537.out _; refine blk_far ?_ NB529_537.out _; refine blk_far ?_ NB529_537.out _; exact BK529.out⟩, ⟨by refine blk_put (cs := #[.int .i64 ((rd_T56 l0_1 x5_3).f0), .int .i64 ((rd_T56 l0_1 x5_3).f1), .int .i64 0]) ?_ 2 _ rfl; refine blk_put (cs := #[.int .i64 ((rd_T56 l0_1 x5_3).f0), .int .i64 0, .int .i64 0]) ?_ 1 _ rfl; refine blk_put (cs := #[.int .i64 0, .int .i64 0, .int .i64 0]) ?_ 0 _ rfl; exact BK537.out⟩, ⟨by repeat (first | (with_reducible first | exact HB.out | apply below_alloc | apply pw_below_drewN | apply below_drew1 | refine below_set ?_ GE529.out | refine below_set ?_ GE537.out) | exact HB.out)⟩⟩
             ·rw [if_neg c44] at H
              have c44b0 : decide (9999 < ((rd_T56 l0_1 x5_3).f0)) = false := decide_eq_false c44
              clear c44
              by_cases c47 : ((rd_T56 l0_1 x5_3).f2) < 0
              ·rw [if_pos c47] at H
               have c47b0 : decide (((rd_T56 l0_1 x5_3).f2) < 0) = true := decide_eq_true c47
               clear c47
               have H' := a_ H
               clear H
               have hnb48 := NB537_529.out
               have hnc48 := NB529_537.out
               have hcz49_0 := cz_ BK537 0
               have hcz49_1 := cz_ BK537 1
               have hcz49_2 := cz_ BK537 2
               have hfz49_0 := fz_ BK537 0
               have hfz49_1 := fz_ BK537 1
               have hfz49_2 := fz_ BK537 2
               go_wp2
               repeat (go_quiet (fail); try go_wp2)
               go_meet
               case rel => exact ⟨_, (true), (by first | rfl | (simp; done) | (simp [*]; done)), H', ⟨by have := HJ1.out; have := HK2.out; have := HK3.out; first | omega | exact Nat.le_refl _⟩, ⟨by refine blk_far ?_ NB529_537.out _; refine blk_far ?_ NB529_537.out _; refine blk_far ?_ NB529_537.out _; exact BK529.out⟩, ⟨by refine blk_put (cs := #[.int .i64 ((rd_T56 l0_1 x5_3).f0), .int .i64 ((rd_T56 l0_1 x5_3).f1), .int .i64 0]) ?_ 2 _ rfl; refine blk_put (cs := #[.int .i64 ((rd_T56 l0_1 x5_3).f0), .int .i64 0, .int .i64 0]) ?_ 1 _ rfl; refine blk_put (cs := #[.int .i64 0, .int .i64 0, .int .i64 0]) ?_ 0 _ rfl; exact BK537.out⟩, ⟨by repeat (first | (with_reducible first | exact HB.out | apply below_alloc | apply pw_below_drewN | apply below_drew1 | refine below_set ?_ GE529.out | refine below_set ?_ GE537.out) | exact HB.out)⟩⟩
              ·rw [if_neg c47] at H
               have c47b0 : decide (((rd_T56 l0_1 x5_3).f2) < 0) = false := decide_eq_false c47
               clear c47
               have H' := a_ H
               clear H
               have hnb50 := NB537_529.out
               have hnc50 := NB529_537.out
               have hcz51_0 := cz_ BK537 0
               have hcz51_1 := cz_ BK537 1
               have hcz51_2 := cz_ BK537 2
               have hfz51_0 := fz_ BK537 0
               have hfz51_1 := fz_ BK537 1
               have hfz51_2 := fz_ BK537 2
               go_wp2
               repeat (go_quiet (fail); try go_wp2)
               go_meet
               case rel => exact ⟨_, (decide (((rd_T56 l0_1 x5_3).f2) > 20000000)), (by first | rfl | (simp; done) | (simp [*]; done)), H', ⟨by have := HJ1.out; have := HK2.out; have := HK3.out; first | omega | exact Nat.le_refl _⟩, ⟨by refine blk_far ?_ NB529_537.out _; refine blk_far ?_ NB529_537.out _; refine blk_far ?_ NB529_537.out _; exact BK529.out⟩, ⟨by refine blk_put (cs := #[.int .i64 ((rd_T56 l0_1 x5_3).f0), .int .i64 ((rd_T56 l0_1 x5_3).f1), .int .i64 0]) ?_ 2 _ rfl; refine blk_put (cs := #[.int .i64 ((rd_T56 l0_1 x5_3).f0), .int .i64 0, .int .i64 0]) ?_ 1 _ rfl; refine blk_put (cs := #[.int .i64 0, .int .i64 0, .int .i64 0]) ?_ 0 _ rfl; exact BK537.out⟩, ⟨by repeat (first | (with_reducible first | exact HB.out | apply below_alloc | apply pw_below_drewN | apply below_drew1 | refine below_set ?_ GE529.out | refine below_set ?_ GE537.out) | exact HB.out)⟩⟩
           case rest =>
            clear HC36
            try clear c1
            try clear c2
            try clear p2
            try clear c3
            try clear c4
            try clear c4b0
            try clear c4b1
            try clear c5
            try clear p5
            try clear q5
            try clear hx5
            try clear p6
            try clear c7
            try clear c8
            try clear c8b0
            try clear c11
            try clear c11b0
            try clear c12
            try clear c12b0
            try clear c15
            try clear c17
            try clear c17b0
            try clear c18
            try clear c18b0
            try clear c19
            try clear c19b0
            try clear c21
            try clear c21b0
            try clear c22
            try clear c22b0
            try clear c24
            try clear c25
            try clear c25b0
            try clear c26
            try clear c26b0
            try clear c28
            try clear c28b0
            try clear c28b1
            try clear c34
            try clear c34b0
            try clear c35
            try clear c35b0
            try clear c39
            try clear c41
            try clear c41b0
            try clear c42
            try clear c44
            try clear c44b0
            try clear c45
            try clear c47
            try clear c47b0
            try clear c48
            try clear c50
            try clear hcz10_0
            try clear hcz10_1
            try clear hcz13_0
            try clear hcz13_1
            try clear hcz14_0
            try clear hcz14_1
            try clear hcz23_0
            try clear hcz23_1
            try clear hcz29_0
            try clear hcz29_1
            try clear hcz31_0
            try clear hcz31_1
            try clear hcz33_0
            try clear hcz33_1
            try clear hcz37_0
            try clear hcz37_1
            try clear hcz40_0
            try clear hcz40_1
            try clear hcz40_2
            try clear hcz43_0
            try clear hcz43_1
            try clear hcz43_2
            try clear hcz46_0
            try clear hcz46_1
            try clear hcz46_2
            try clear hcz49_0
            try clear hcz49_1
            try clear hcz49_2
            try clear hcz51_0
            try clear hcz51_1
            try clear hcz51_2
            try clear hcz5_0
            try clear hcz5_1
            try clear hcz6_0
            try clear hcz6_1
            try clear hfz10_0
            try clear hfz10_1
            try clear hfz13_0
            try clear hfz13_1
            try clear hfz14_0
            try clear hfz14_1
            try clear hfz23_0
            try clear hfz23_1
            try clear hfz29_0
            try clear hfz29_1
            try clear hfz31_0
            try clear hfz31_1
            try clear hfz33_0
            try clear hfz33_1
            try clear hfz37_0
            try clear hfz37_1
            try clear hfz40_0
            try clear hfz40_1
            try clear hfz40_2
            try clear hfz43_0
            try clear hfz43_1
            try clear hfz43_2
            try clear hfz46_0
            try clear hfz46_1
            try clear hfz46_2
            try clear hfz49_0
            try clear hfz49_1
            try clear hfz49_2
            try clear hfz51_0
            try clear hfz51_1
            try clear hfz51_2
            try clear hfz5_0
            try clear hfz5_1
            try clear hfz6_0
            try clear hfz6_1
            try clear hx530_0
            try clear hx530_1
            try clear hx530_2
            try clear hx530_3
            try clear hx531_0
            try clear hx531_1
            try clear hx531_2
            try clear hx531_3
            try clear hx532_0
            try clear hx532_1
            try clear hx532_2
            try clear hx532_3
            try clear hx533_0
            try clear hx533_1
            try clear hx533_2
            try clear hx533_3
            try clear hx534_0
            try clear hx534_1
            try clear hx534_2
            try clear hx534_3
            try clear hx536_0
            try clear hx536_1
            try clear hx536_2
            try clear p2
            try clear p5
            try clear p530
            try clear p531
            try clear p532
            try clear p533
            try clear p534
            try clear p536
            try clear p6
            try clear q5
            try clear q530
            try clear q531
            try clear q532
            try clear q533
            try clear q534
            try clear q536
            obtain ⟨kq, x98_35, rfl, HA, HJ35, BK529, BK537, HB⟩ := hcut
            cases kq with
            | zero => exact absurd HA.out (by simp [skiarearef53_Right.j5])
            | succ kj35 =>
             have H := HA.out
             clear HA
             simp only [skiarearef53_Right.j5] at H
             by_cases c52 : x98_35 = true
             ·subst c52
              have H1 : (some 2) = some r := by rw [if_pos rfl] at H; exact H
              clear H
              have H := H1
              clear H1
              obtain rfl := Option.some.inj H
              go_wp2
              repeat (go_quiet (fail); try go_wp2)
              go_ret
              exact ⟨by first | rfl | (simp [errW_none, errW_some] <;> rfl) | (simp [*, errW_none, errW_some] <;> rfl), by repeat (first | (with_reducible first | exact HB.out | apply below_alloc | apply pw_below_drewN | apply below_drew1 | refine below_set ?_ GE529.out | refine below_set ?_ GE537.out) | exact HB.out)⟩
             ·replace c52 := Bool.eq_false_iff.mpr c52
              subst c52
              have H1 : (skiarearef53_Right.l2 kj35 x5_3 0 l0_0 l0_1 ((rd_T56 l0_1 x5_3).f0) ((rd_T56 l0_1 x5_3).f1) ((rd_T56 l0_1 x5_3).f2)) = some r := by rw [if_neg (show ¬ (false = true) by decide)] at H; exact H
              clear H
              have H := H1
              clear H1
              have H' := a_ H
              clear H
              go_wp2
              repeat (go_quiet (fail); try go_wp2)
              go_loopg [7] kj35 (fun kq v7 w' => ∃ (x7_5 : Int), v7 = .int .i64 x7_5 ∧ Aside0 (skiarearef53_Right.l2 kq x5_3 x7_5 l0_0 l0_1 ((rd_T56 l0_1 x5_3).f0) ((rd_T56 l0_1 x5_3).f1) ((rd_T56 l0_1 x5_3).f2) = some r) ∧ Aside0 (kq ≤ kj35) ∧ Aside0 (w'.heap[gb529]? = some (.cells #[(.slice A0_0 l0_0.length c0_0), (.slice (some ad536) l0_1.length c0_1)] 48 (0, 0))) ∧ Aside0 (w'.heap[gb537]? = some (.cells #[.int .i64 ((rd_T56 l0_1 x5_3).f0), .int .i64 ((rd_T56 l0_1 x5_3).f1), .int .i64 ((rd_T56 l0_1 x5_3).f2)] 56 (0, 0))) ∧ Aside0 (Below w.heap.size w w'))
              case atStart => exact ⟨(0), (by first | rfl | (simp; done) | (simp [*]; done)), H', ⟨Nat.le_refl _⟩, ⟨by exact BK529.out⟩, ⟨by exact BK537.out⟩, ⟨by repeat (first | (with_reducible first | exact HB.out | apply below_alloc | apply pw_below_drewN | apply below_drew1 | refine below_set ?_ GE529.out | refine below_set ?_ GE537.out) | exact HB.out)⟩⟩
              case round =>
               clear H'
               try clear c1
               try clear c2
               try clear p2
               try clear c3
               try clear c4
               try clear c4b0
               try clear c4b1
               try clear c5
               try clear p5
               try clear q5
               try clear hx5
               try clear p6
               try clear c7
               try clear c8
               try clear c8b0
               try clear c11
               try clear c11b0
               try clear c12
               try clear c12b0
               try clear c15
               try clear c17
               try clear c17b0
               try clear c18
               try clear c18b0
               try clear c19
               try clear c19b0
               try clear c21
               try clear c21b0
               try clear c22
               try clear c22b0
               try clear c24
               try clear c25
               try clear c25b0
               try clear c26
               try clear c26b0
               try clear c28
               try clear c28b0
               try clear c28b1
               try clear c34
               try clear c34b0
               try clear c35
               try clear c35b0
               try clear c39
               try clear c41
               try clear c41b0
               try clear c42
               try clear c44
               try clear c44b0
               try clear c45
               try clear c47
               try clear c47b0
               try clear c48
               try clear c50
               try clear c52
               try clear hcz10_0
               try clear hcz10_1
               try clear hcz13_0
               try clear hcz13_1
               try clear hcz14_0
               try clear hcz14_1
               try clear hcz23_0
               try clear hcz23_1
               try clear hcz29_0
               try clear hcz29_1
               try clear hcz31_0
               try clear hcz31_1
               try clear hcz33_0
               try clear hcz33_1
               try clear hcz37_0
               try clear hcz37_1
               try clear hcz40_0
               try clear hcz40_1
               try clear hcz40_2
               try clear hcz43_0
               try clear hcz43_1
               try clear hcz43_2
               try clear hcz46_0
               try clear hcz46_1
               try clear hcz46_2
               try clear hcz49_0
               try clear hcz49_1
               try clear hcz49_2
               try clear hcz51_0
               try clear hcz51_1
               try clear hcz51_2
               try clear hcz5_0
               try clear hcz5_1
               try clear hcz6_0
               try clear hcz6_1
               try clear hfz10_0
               try clear hfz10_1
               try clear hfz13_0
               try clear hfz13_1
               try clear hfz14_0
               try clear hfz14_1
               try clear hfz23_0
               try clear hfz23_1
               try clear hfz29_0
               try clear hfz29_1
               try clear hfz31_0
               try clear hfz31_1
               try clear hfz33_0
               try clear hfz33_1
               try clear hfz37_0
               try clear hfz37_1
               try clear hfz40_0
               try clear hfz40_1
               try clear hfz40_2
               try clear hfz43_0
               try clear hfz43_1
               try clear hfz43_2
               try clear hfz46_0
               try clear hfz46_1
               try clear hfz46_2
               try clear hfz49_0
               try clear hfz49_1
               try clear hfz49_2
               try clear hfz51_0
               try clear hfz51_1
               try clear hfz51_2
               try clear hfz5_0
               try clear hfz5_1
               try clear hfz6_0
               try clear hfz6_1
               try clear hx530_0
               try clear hx530_1
               try clear hx530_2
               try clear hx530_3
               try clear hx531_0
               try clear hx531_1
               try clear hx531_2
               try clear hx531_3
               try clear hx532_0
               try clear hx532_1
               try clear hx532_2
               try clear hx532_3
               try clear hx533_0
               try clear hx533_1
               try clear hx533_2
               try clear hx533_3
               try clear hx534_0
               try clear hx534_1
               try clear hx534_2
               try clear hx534_3
               try clear hx536_0
               try clear hx536_1
               try clear hx536_2
               try clear p2
               try clear p5
               try clear p530
               try clear p531
               try clear p532
               try clear p533
               try clear p534
               try clear p536
               try clear p6
               try clear q5
               try clear q530
               try clear q531
               try clear q532
               try clear q533
               try clear q534
               try clear q536
               obtain ⟨x7_5, rfl, HA, HK5, BK529, BK537, HB⟩ := hrel
               cases gk with
               | zero => exact absurd HA.out (by simp [skiarearef53_Right.l2])
               | succ k5 =>
                have H := HA.out
                clear HA
                simp only [skiarearef53_Right.l2] at H
                by_cases c53 : x7_5 < x5_3
                ·rw [if_pos c53] at H
                 have c53b0 : decide (x7_5 < x5_3) = true := decide_eq_true c53
                 clear c53
                 by_cases c54 : 0 ≤ x7_5
                 ·rw [if_pos c54] at H
                  have c54b0 : decide (0 ≤ x7_5) = true := decide_eq_true c54
                  clear c54
                  by_cases c55 : x7_5 < (l0_1.length : Int)
                  ·rw [if_pos c55] at H
                   have c55b0 : decide (x7_5 < (l0_1.length : Int)) = true := decide_eq_true c55
                   clear c55
                   by_cases c56 : ((rd_T56 l0_1 x7_5).f0) = ((rd_T56 l0_1 x5_3).f0)
                   ·rw [if_pos c56] at H
                    have c56b0 : (((rd_T56 l0_1 x7_5).f0) == ((rd_T56 l0_1 x5_3).f0)) = true := beq_iff_eq.mpr c56
                    have c56b1 : (((rd_T56 l0_1 x7_5).f0) != ((rd_T56 l0_1 x5_3).f0)) = false := bne_eq_false_iff_eq.mpr c56
                    clear c56
                    obtain rfl := Option.some.inj H
                    have hnb57 := NB529_537.out
                    have hnc57 := NB537_529.out
                    have hcz58_0 := cz_ BK529 0
                    have hcz58_1 := cz_ BK529 1
                    have hfz58_0 := fz_ BK529 0
                    have hfz58_1 := fz_ BK529 1
                    have p538 : 0 ≤ (x7_5 : Int) := od_
                    have q538 : x7_5 < (l0_1.length : Int) := od_
                    obtain ⟨ad538, e538, hx538_0, hx538_1, hx538_2⟩ := at_T56 HR0_1.out x7_5 p538 q538
                    obtain rfl : ad536 = ad538 := (by injection e538)
                    replace hx538_0 := pc_ hx538_0
                    replace hx538_1 := pc_ hx538_1
                    replace hx538_2 := pc_ hx538_2
                    replace p538 := eq_true p538
                    replace q538 := eq_true q538
                    have hcz59_0 := cz_ BK537 0
                    have hcz59_1 := cz_ BK537 1
                    have hcz59_2 := cz_ BK537 2
                    have hfz59_0 := fz_ BK537 0
                    have hfz59_1 := fz_ BK537 1
                    have hfz59_2 := fz_ BK537 2
                    go_wp2
                    repeat (go_quiet (fail); try go_wp2)
                    go_ret
                    exact ⟨by first | rfl | (simp [errW_none, errW_some] <;> rfl) | (simp [*, errW_none, errW_some] <;> rfl), by repeat (first | (with_reducible first | exact HB.out | apply below_alloc | apply pw_below_drewN | apply below_drew1 | refine below_set ?_ GE529.out | refine below_set ?_ GE537.out) | exact HB.out)⟩
                   ·rw [if_neg c56] at H
                    have c56b0 : (((rd_T56 l0_1 x7_5).f0) == ((rd_T56 l0_1 x5_3).f0)) = false := beq_eq_false_iff_ne.mpr c56
                    have c56b1 : (((rd_T56 l0_1 x7_5).f0) != ((rd_T56 l0_1 x5_3).f0)) = true := bne_iff_ne.mpr c56
                    have H' := a_ H
                    clear H
                    have hnb60 := NB529_537.out
                    have hnc60 := NB537_529.out
                    have hcz61_0 := cz_ BK529 0
                    have hcz61_1 := cz_ BK529 1
                    have hfz61_0 := fz_ BK529 0
                    have hfz61_1 := fz_ BK529 1
                    have p538 : 0 ≤ (x7_5 : Int) := od_
                    have q538 : x7_5 < (l0_1.length : Int) := od_
                    obtain ⟨ad538, e538, hx538_0, hx538_1, hx538_2⟩ := at_T56 HR0_1.out x7_5 p538 q538
                    obtain rfl : ad536 = ad538 := (by injection e538)
                    replace hx538_0 := pc_ hx538_0
                    replace hx538_1 := pc_ hx538_1
                    replace hx538_2 := pc_ hx538_2
                    replace p538 := eq_true p538
                    replace q538 := eq_true q538
                    have hcz62_0 := cz_ BK537 0
                    have hcz62_1 := cz_ BK537 1
                    have hcz62_2 := cz_ BK537 2
                    have hfz62_0 := fz_ BK537 0
                    have hfz62_1 := fz_ BK537 1
                    have hfz62_2 := fz_ BK537 2
                    go_wp2
                    repeat (go_quiet (fail); try go_wp2)
                    go_roundg k5
                    case measure => have := HJ1.out; have := HK2.out; have := HK3.out; have := HJ35.out; have := HK5.out; omega
                    case rel => exact ⟨(wrap64 (x7_5 + 1)), (by first | rfl | (simp; done) | (simp [*]; done)), H', ⟨by have := HJ1.out; have := HK2.out; have := HK3.out; have := HJ35.out; have := HK5.out; omega⟩, ⟨by exact BK529.out⟩, ⟨by exact BK537.out⟩, ⟨by repeat (first | (with_reducible first | exact HB.out | apply below_alloc | apply pw_below_drewN | apply below_drew1 | refine below_set ?_ GE529.out | refine below_set ?_ GE537.out) | exact HB.out)⟩⟩
                  ·rw [if_neg c55] at H
                   exact absurd H (by simp)
                 ·rw [if_neg c54] at H
                  exact absurd H (by simp)
                ·rw [if_neg c53] at H
                 have c53b0 : decide (x7_5 < x5_3) = false := decide_eq_false c53
                 clear c53
                 replace H := Option.bind_eq_some_iff.mp H
                 obtain ⟨t539, A630, H⟩ := H
                 replace H : (if t539 < 0 then (some 8) else (skiarearef53_Right.l1 k5 (wrap64 (x5_3 + 1)) l0_0 l0_1)) = some r := H
                 have A63 := a_ A630
                 clear A630
                 by_cases c64 : t539 < 0
                 ·rw [if_pos c64] at H
                  have c64b0 : decide (t539 < 0) = true := decide_eq_true c64
                  clear c64
                  obtain rfl := Option.some.inj H
                  have hnb65 := NB529_537.out
                  have hnc65 := NB537_529.out
                  have hcz66_0 := cz_ BK529 0
                  have hcz66_1 := cz_ BK529 1
                  have hfz66_0 := fz_ BK529 0
                  have hfz66_1 := fz_ BK529 1
                  have hcz67_0 := cz_ BK537 0
                  have hcz67_1 := cz_ BK537 1
                  have hcz67_2 := cz_ BK537 2
                  have hfz67_0 := fz_ BK537 0
                  have hfz67_1 := fz_ BK537 1
                  have hfz67_2 := fz_ BK537 2
                  go_wp2_with (first | (go_at_call 68; (with_reducible refine (skiarearef53_at.calls k5 _ _ l0_0 _ _ l0_1 ((rd_T56 l0_1 x5_3).f1) t539 _ ?side1 ?side2 ?side3 ?side4 A63.out).mono ?_); (case side1 => exact kC_ (Kd.C_below HR0_0.out HB.out)); (case side2 => exact HC0_0.out); (case side3 => exact kC_ (Kd.C_below HR0_1.out HB.out)); (case side4 => exact HC0_1.out); rintro e w68 ⟨rfl, hb⟩; have n0_ := a_ (blk_below (bk_ BK529.out) hb); have n1_ := a_ (blk_below (bk_ BK537.out) hb); have n2_ := a_ (below_step bel_ hb); clear BK529; clear BK537; clear HB; have BK529 := n0_; have BK537 := n1_; have HB := n2_; clear n0_ n1_ n2_; (try clear hb); (try clear hb2); (try clear hk); (try clear hi)))
                  repeat (go_quiet (fail); try go_wp2_with (first | (go_at_call 68; (with_reducible refine (skiarearef53_at.calls k5 _ _ l0_0 _ _ l0_1 ((rd_T56 l0_1 x5_3).f1) t539 _ ?side1 ?side2 ?side3 ?side4 A63.out).mono ?_); (case side1 => exact kC_ (Kd.C_below HR0_0.out HB.out)); (case side2 => exact HC0_0.out); (case side3 => exact kC_ (Kd.C_below HR0_1.out HB.out)); (case side4 => exact HC0_1.out); rintro e w68 ⟨rfl, hb⟩; have n0_ := a_ (blk_below (bk_ BK529.out) hb); have n1_ := a_ (blk_below (bk_ BK537.out) hb); have n2_ := a_ (below_step bel_ hb); clear BK529; clear BK537; clear HB; have BK529 := n0_; have BK537 := n1_; have HB := n2_; clear n0_ n1_ n2_; (try clear hb); (try clear hb2); (try clear hk); (try clear hi))))
                  go_ret
                  exact ⟨by first | rfl | (simp [errW_none, errW_some] <;> rfl) | (simp [*, errW_none, errW_some] <;> rfl), by repeat (first | (with_reducible first | exact HB.out | apply below_alloc | apply pw_below_drewN | apply below_drew1 | refine below_set ?_ GE529.out | refine below_set ?_ GE537.out) | exact HB.out)⟩
                 ·rw [if_neg c64] at H
                  have c64b0 : decide (t539 < 0) = false := decide_eq_false c64
                  clear c64
                  have H' := a_ H
                  clear H
                  have hnb69 := NB529_537.out
                  have hnc69 := NB537_529.out
                  have hcz70_0 := cz_ BK529 0
                  have hcz70_1 := cz_ BK529 1
                  have hfz70_0 := fz_ BK529 0
                  have hfz70_1 := fz_ BK529 1
                  have hcz71_0 := cz_ BK537 0
                  have hcz71_1 := cz_ BK537 1
                  have hcz71_2 := cz_ BK537 2
                  have hfz71_0 := fz_ BK537 0
                  have hfz71_1 := fz_ BK537 1
                  have hfz71_2 := fz_ BK537 2
                  go_wp2_with (first | (go_at_call 68; (with_reducible refine (skiarearef53_at.calls k5 _ _ l0_0 _ _ l0_1 ((rd_T56 l0_1 x5_3).f1) t539 _ ?side1 ?side2 ?side3 ?side4 A63.out).mono ?_); (case side1 => exact kC_ (Kd.C_below HR0_0.out HB.out)); (case side2 => exact HC0_0.out); (case side3 => exact kC_ (Kd.C_below HR0_1.out HB.out)); (case side4 => exact HC0_1.out); rintro e w72 ⟨rfl, hb⟩; have n0_ := a_ (blk_below (bk_ BK529.out) hb); have n1_ := a_ (blk_below (bk_ BK537.out) hb); have n2_ := a_ (below_step bel_ hb); clear BK529; clear BK537; clear HB; have BK529 := n0_; have BK537 := n1_; have HB := n2_; clear n0_ n1_ n2_; (try clear hb); (try clear hb2); (try clear hk); (try clear hi)))
                  repeat (go_quiet (fail); try go_wp2_with (first | (go_at_call 68; (with_reducible refine (skiarearef53_at.calls k5 _ _ l0_0 _ _ l0_1 ((rd_T56 l0_1 x5_3).f1) t539 _ ?side1 ?side2 ?side3 ?side4 A63.out).mono ?_); (case side1 => exact kC_ (Kd.C_below HR0_0.out HB.out)); (case side2 => exact HC0_0.out); (case side3 => exact kC_ (Kd.C_below HR0_1.out HB.out)); (case side4 => exact HC0_1.out); rintro e w72 ⟨rfl, hb⟩; have n0_ := a_ (blk_below (bk_ BK529.out) hb); have n1_ := a_ (blk_below (bk_ BK537.out) hb); have n2_ := a_ (below_step bel_ hb); clear BK529; clear BK537; clear HB; have BK529 := n0_; have BK537 := n1_; have HB := n2_; clear n0_ n1_ n2_; (try clear hb); (try clear hb2); (try clear hk); (try clear hi))))
                  go_roundg k5
                  case measure => have := HJ1.out; have := HK2.out; have := HK3.out; have := HJ35.out; have := HK5.out; omega
                  case rel => exact ⟨(wrap64 (x5_3 + 1)), (by first | rfl | (simp; done) | (simp [*]; done)), H', ⟨by have := HJ1.out; have := HK2.out; have := HK3.out; have := HJ35.out; have := HK5.out; omega⟩, ⟨by exact BK529.out⟩, ⟨by repeat (first | (with_reducible first | exact HB.out | apply below_alloc | apply pw_below_drewN | apply below_drew1 | refine below_set ?_ GE529.out | refine below_set ?_ GE537.out) | exact HB.out)⟩⟩
          ·rw [if_neg c35] at H
           exact absurd H (by simp)
         ·rw [if_neg c34] at H
          have c34b0 : decide (x5_3 < (l0_1.length : Int)) = false := decide_eq_false c34
          clear c34
          obtain rfl := Option.some.inj H
          have hcz73_0 := cz_ BK529 0
          have hcz73_1 := cz_ BK529 1
          have hfz73_0 := fz_ BK529 0
          have hfz73_1 := fz_ BK529 1
          go_wp2
          repeat (go_quiet (fail); try go_wp2)
          go_ret
          exact ⟨by first | rfl | (simp [errW_none, errW_some] <;> rfl) | (simp [*, errW_none, errW_some] <;> rfl), by repeat (first | (with_reducible first | exact HB.out | apply below_alloc | apply pw_below_drewN | apply below_drew1 | refine below_set ?_ GE529.out) | exact HB.out)⟩
end Go.Proofs.Ytmhggplhfcmgkaa.Q
