-- written by wip/drive.py (this session's program) over the kit's print words
import Derived.Test.YtmhggplhfcmgkaaQ0
import Derived.Test.YtmhggplhfcmgkaaQ18
import Derived.Test.YtmhggplhfcmgkaaQ45
import Derived.Test.YtmhggplhfcmgkaaQ55
import Derived.Test.YtmhggplhfcmgkaaQ57
import Derived.Test.YtmhggplhfcmgkaaQ59
import Derived.Test.YtmhggplhfcmgkaaQ60
import Derived.Test.YtmhggplhfcmgkaaQ75
namespace Go.Proofs.Ytmhggplhfcmgkaa.Q
open Go.RowKit Go.Proofs.YtmhggplhfcmgkaaW.PrintWords Go.Proofs.YtmhggplhfcmgkaaW.PrintLast Go.Proofs.YtmhggplhfcmgkaaW.PrintMore
attribute [local go_sem] max2_int min2_int max_two min_two max_three min_three max_four min_four   -- for this text's walks alone
set_option linter.unusedVariables false
set_option linter.unusedSimpArgs false

/-! ### skiarealaw53_PatrolReady: function 15 -/
mutual
def skiarealaw53_PatrolReady.j0 : Nat → Int → Int → Bool → List (S63) → List (S56) → Option (Bool)
 | 0, _, _, _, _, _ => none
 | k + 1, x1, x2, x22, x692000, x692001 => if x22 = true then (some true) else ((patrol_Open.f k x692000 x692001 x2).bind fun t695 => (skiarealaw53_PatrolReady.l0 k x1 x2 t695 0 false 0 x692000 x692001))
def skiarealaw53_PatrolReady.l0 : Nat → Int → Int → List Int → Int → Bool → Int → List (S63) → List (S56) → Option (Bool)
 | 0, _, _, _, _, _, _, _, _ => none
 | k + 1, x1, x2, x7, x8, x9, x10, x692000, x692001 => if x10 < (x692000.length : Int) then (if 0 ≤ x10 then ((inspect_Done.f ((rd_T63 x692000 x10).f1.f0) ((rd_T63 x692000 x10).f1.f1) ((rd_T63 x692000 x10).f1.f2) x2).bind fun t701 => (if t701 = true then ((skiarealaw53_hazards.f k x692000 x692001 ((rd_T63 x692000 x10).f0)).bind fun t702 => (skiarealaw53_PatrolReady.j2 k x1 x2 x7 x8 x9 x10 (t702 == 0) x692000 x692001 ((rd_T63 x692000 x10).f0) ((rd_T63 x692000 x10).f1.f0) ((rd_T63 x692000 x10).f1.f1) ((rd_T63 x692000 x10).f1.f2))) else (skiarealaw53_PatrolReady.j2 k x1 x2 x7 x8 x9 x10 false x692000 x692001 ((rd_T63 x692000 x10).f0) ((rd_T63 x692000 x10).f1.f0) ((rd_T63 x692000 x10).f1.f1) ((rd_T63 x692000 x10).f1.f2)))) else (none)) else (if x8 = (x7.length : Int) then (if x9 = true then (some true) else ((patrol_Ready.f x692000 x692001 x1 x2).bind fun t698 => (some (!t698)))) else (some false))
def skiarealaw53_PatrolReady.j2 : Nat → Int → Int → List Int → Int → Bool → Int → Bool → List (S63) → List (S56) → Int → List Int → Int → List (S35) → Option (Bool)
 | 0, _, _, _, _, _, _, _, _, _, _, _, _, _ => none
 | k + 1, x1, x2, x7, x8, x9, x10, x12, x692000, x692001, x701000, x701001, x701002, x701003 => if x9 = true then (skiarealaw53_PatrolReady.j3 k x1 x2 x7 x8 true x10 x12 x692000 x692001 x701000 x701001 x701002 x701003) else (skiarealaw53_PatrolReady.j3 k x1 x2 x7 x8 (x701000 == x1) x10 x12 x692000 x692001 x701000 x701001 x701002 x701003)
def skiarealaw53_PatrolReady.j3 : Nat → Int → Int → List Int → Int → Bool → Int → Bool → List (S63) → List (S56) → Int → List Int → Int → List (S35) → Option (Bool)
 | 0, _, _, _, _, _, _, _, _, _, _, _, _, _ => none
 | k + 1, x1, x2, x7, x8, x9, x10, x12, x692000, x692001, x701000, x701001, x701002, x701003 => (patrol_Ready.f x692000 x692001 x701000 x2).bind fun t703 => (if (t703 != x12) = true then (some false) else (if x12 = true then (skiarealaw53_PatrolReady.l0 k x1 x2 x7 x8 x9 (wrap64 (x10 + 1)) x692000 x692001) else (if x8 ≥ (x7.length : Int) then (some false) else (if 0 ≤ x8 then (if x8 < (x7.length : Int) then (if (rd x7 x8) = x701000 then (skiarealaw53_PatrolReady.l0 k x1 x2 x7 (wrap64 (x8 + 1)) x9 (wrap64 (x10 + 1)) x692000 x692001) else (some false)) else (none)) else (none)))))
end
def skiarealaw53_PatrolReady.f (k : Nat) (l0_0 : List (S63)) (l0_1 : List (S56)) (a1 : Int) (a2 : Int) : Option (Bool) := (skiarealaw53_alive.f).bind fun t692 => (if t692 = true then ((skiarealaw53_small.f k l0_0 l0_1).bind fun t693 => (if t693 = true then ((patrol_Right.f k l0_0 l0_1).bind fun t694 => (skiarealaw53_PatrolReady.j0 k a1 a2 (t694 != 0) l0_0 l0_1)) else (skiarealaw53_PatrolReady.j0 k a1 a2 true l0_0 l0_1))) else (some false))
theorem skiarealaw53_PatrolReady.mono_l : ∀ k, (∀ y0 y1 y2 y3 y4, LeO (skiarealaw53_PatrolReady.j0 k y0 y1 y2 y3 y4) (skiarealaw53_PatrolReady.j0 (k + 1) y0 y1 y2 y3 y4)) ∧ (∀ y0 y1 y2 y3 y4 y5 y6 y7, LeO (skiarealaw53_PatrolReady.l0 k y0 y1 y2 y3 y4 y5 y6 y7) (skiarealaw53_PatrolReady.l0 (k + 1) y0 y1 y2 y3 y4 y5 y6 y7)) ∧ (∀ y0 y1 y2 y3 y4 y5 y6 y7 y8 y9 y10 y11 y12, LeO (skiarealaw53_PatrolReady.j2 k y0 y1 y2 y3 y4 y5 y6 y7 y8 y9 y10 y11 y12) (skiarealaw53_PatrolReady.j2 (k + 1) y0 y1 y2 y3 y4 y5 y6 y7 y8 y9 y10 y11 y12)) ∧ (∀ y0 y1 y2 y3 y4 y5 y6 y7 y8 y9 y10 y11 y12, LeO (skiarealaw53_PatrolReady.j3 k y0 y1 y2 y3 y4 y5 y6 y7 y8 y9 y10 y11 y12) (skiarealaw53_PatrolReady.j3 (k + 1) y0 y1 y2 y3 y4 y5 y6 y7 y8 y9 y10 y11 y12))
 | 0 => ⟨fun _ _ _ _ _ r h => by simp [skiarealaw53_PatrolReady.j0] at h, fun _ _ _ _ _ _ _ _ r h => by simp [skiarealaw53_PatrolReady.l0] at h, fun _ _ _ _ _ _ _ _ _ _ _ _ _ r h => by simp [skiarealaw53_PatrolReady.j2] at h, fun _ _ _ _ _ _ _ _ _ _ _ _ _ r h => by simp [skiarealaw53_PatrolReady.j3] at h⟩
 | k + 1 => by
  obtain ⟨ih0, ih1, ih2, ih3⟩ := skiarealaw53_PatrolReady.mono_l k
  refine ⟨?_, ?_, ?_, ?_⟩
  ·intro y0 y1 y2 y3 y4
   unfold skiarealaw53_PatrolReady.j0
   repeat' first
   | (with_reducible exact ih0 _ _ _ _ _)
   | (with_reducible exact ih1 _ _ _ _ _ _ _ _)
   | (with_reducible exact ih2 _ _ _ _ _ _ _ _ _ _ _ _ _)
   | (with_reducible exact ih3 _ _ _ _ _ _ _ _ _ _ _ _ _)
   | (with_reducible exact patrol_Open.mono _ _ _ _)
   | (with_reducible exact patrol_Right.mono _ _ _)
   | (with_reducible exact skiarealaw53_hazards.mono _ _ _ _)
   | (with_reducible exact skiarealaw53_small.mono _ _ _)
   | (with_reducible exact LeO.refl _)
   | (with_reducible exact LeO.none _)
   | (with_reducible refine LeO.ite ?_ ?_)
   | (with_reducible refine LeO.bind ?_ (fun _ => ?_))
   | exact ih0 _ _ _ _ _
   | exact ih1 _ _ _ _ _ _ _ _
   | exact ih2 _ _ _ _ _ _ _ _ _ _ _ _ _
   | exact ih3 _ _ _ _ _ _ _ _ _ _ _ _ _
   | exact patrol_Open.mono _ _ _ _
   | exact patrol_Right.mono _ _ _
   | exact skiarealaw53_hazards.mono _ _ _ _
   | exact skiarealaw53_small.mono _ _ _
   | exact LeO.none _
   | refine LeO.ite ?_ ?_
   | refine LeO.bind ?_ (fun _ => ?_)
  ·intro y0 y1 y2 y3 y4 y5 y6 y7
   unfold skiarealaw53_PatrolReady.l0
   repeat' first
   | (with_reducible exact ih0 _ _ _ _ _)
   | (with_reducible exact ih1 _ _ _ _ _ _ _ _)
   | (with_reducible exact ih2 _ _ _ _ _ _ _ _ _ _ _ _ _)
   | (with_reducible exact ih3 _ _ _ _ _ _ _ _ _ _ _ _ _)
   | (with_reducible exact patrol_Open.mono _ _ _ _)
   | (with_reducible exact patrol_Right.mono _ _ _)
   | (with_reducible exact skiarealaw53_hazards.mono _ _ _ _)
   | (with_reducible exact skiarealaw53_small.mono _ _ _)
   | (with_reducible exact LeO.refl _)
   | (with_reducible exact LeO.none _)
   | (with_reducible refine LeO.ite ?_ ?_)
   | (with_reducible refine LeO.bind ?_ (fun _ => ?_))
   | exact ih0 _ _ _ _ _
   | exact ih1 _ _ _ _ _ _ _ _
   | exact ih2 _ _ _ _ _ _ _ _ _ _ _ _ _
   | exact ih3 _ _ _ _ _ _ _ _ _ _ _ _ _
   | exact patrol_Open.mono _ _ _ _
   | exact patrol_Right.mono _ _ _
   | exact skiarealaw53_hazards.mono _ _ _ _
   | exact skiarealaw53_small.mono _ _ _
   | exact LeO.none _
   | refine LeO.ite ?_ ?_
   | refine LeO.bind ?_ (fun _ => ?_)
  ·intro y0 y1 y2 y3 y4 y5 y6 y7 y8 y9 y10 y11 y12
   unfold skiarealaw53_PatrolReady.j2
   repeat' first
   | (with_reducible exact ih0 _ _ _ _ _)
   | (with_reducible exact ih1 _ _ _ _ _ _ _ _)
   | (with_reducible exact ih2 _ _ _ _ _ _ _ _ _ _ _ _ _)
   | (with_reducible exact ih3 _ _ _ _ _ _ _ _ _ _ _ _ _)
   | (with_reducible exact patrol_Open.mono _ _ _ _)
   | (with_reducible exact patrol_Right.mono _ _ _)
   | (with_reducible exact skiarealaw53_hazards.mono _ _ _ _)
   | (with_reducible exact skiarealaw53_small.mono _ _ _)
   | (with_reducible exact LeO.refl _)
   | (with_reducible exact LeO.none _)
   | (with_reducible refine LeO.ite ?_ ?_)
   | (with_reducible refine LeO.bind ?_ (fun _ => ?_))
   | exact ih0 _ _ _ _ _
   | exact ih1 _ _ _ _ _ _ _ _
   | exact ih2 _ _ _ _ _ _ _ _ _ _ _ _ _
   | exact ih3 _ _ _ _ _ _ _ _ _ _ _ _ _
   | exact patrol_Open.mono _ _ _ _
   | exact patrol_Right.mono _ _ _
   | exact skiarealaw53_hazards.mono _ _ _ _
   | exact skiarealaw53_small.mono _ _ _
   | exact LeO.none _
   | refine LeO.ite ?_ ?_
   | refine LeO.bind ?_ (fun _ => ?_)
  ·intro y0 y1 y2 y3 y4 y5 y6 y7 y8 y9 y10 y11 y12
   unfold skiarealaw53_PatrolReady.j3
   repeat' first
   | (with_reducible exact ih0 _ _ _ _ _)
   | (with_reducible exact ih1 _ _ _ _ _ _ _ _)
   | (with_reducible exact ih2 _ _ _ _ _ _ _ _ _ _ _ _ _)
   | (with_reducible exact ih3 _ _ _ _ _ _ _ _ _ _ _ _ _)
   | (with_reducible exact patrol_Open.mono _ _ _ _)
   | (with_reducible exact patrol_Right.mono _ _ _)
   | (with_reducible exact skiarealaw53_hazards.mono _ _ _ _)
   | (with_reducible exact skiarealaw53_small.mono _ _ _)
   | (with_reducible exact LeO.refl _)
   | (with_reducible exact LeO.none _)
   | (with_reducible refine LeO.ite ?_ ?_)
   | (with_reducible refine LeO.bind ?_ (fun _ => ?_))
   | exact ih0 _ _ _ _ _
   | exact ih1 _ _ _ _ _ _ _ _
   | exact ih2 _ _ _ _ _ _ _ _ _ _ _ _ _
   | exact ih3 _ _ _ _ _ _ _ _ _ _ _ _ _
   | exact patrol_Open.mono _ _ _ _
   | exact patrol_Right.mono _ _ _
   | exact skiarealaw53_hazards.mono _ _ _ _
   | exact skiarealaw53_small.mono _ _ _
   | exact LeO.none _
   | refine LeO.ite ?_ ?_
   | refine LeO.bind ?_ (fun _ => ?_)
theorem skiarealaw53_PatrolReady.mono : ∀ a0 a1 a2 a3 k, LeO (skiarealaw53_PatrolReady.f k a0 a1 a2 a3) (skiarealaw53_PatrolReady.f (k + 1) a0 a1 a2 a3) := by
 intro a0 a1 a2 a3 k
 obtain ⟨ih0, ih1, ih2, ih3⟩ := skiarealaw53_PatrolReady.mono_l k
 unfold skiarealaw53_PatrolReady.f
 repeat' first
   | (with_reducible exact ih0 _ _ _ _ _)
   | (with_reducible exact ih1 _ _ _ _ _ _ _ _)
   | (with_reducible exact ih2 _ _ _ _ _ _ _ _ _ _ _ _ _)
   | (with_reducible exact ih3 _ _ _ _ _ _ _ _ _ _ _ _ _)
   | (with_reducible exact patrol_Open.mono _ _ _ _)
   | (with_reducible exact patrol_Right.mono _ _ _)
   | (with_reducible exact skiarealaw53_hazards.mono _ _ _ _)
   | (with_reducible exact skiarealaw53_small.mono _ _ _)
   | (with_reducible exact LeO.refl _)
   | (with_reducible exact LeO.none _)
   | (with_reducible refine LeO.ite ?_ ?_)
   | (with_reducible refine LeO.bind ?_ (fun _ => ?_))
   | exact ih0 _ _ _ _ _
   | exact ih1 _ _ _ _ _ _ _ _
   | exact ih2 _ _ _ _ _ _ _ _ _ _ _ _ _
   | exact ih3 _ _ _ _ _ _ _ _ _ _ _ _ _
   | exact patrol_Open.mono _ _ _ _
   | exact patrol_Right.mono _ _ _
   | exact skiarealaw53_hazards.mono _ _ _ _
   | exact skiarealaw53_small.mono _ _ _
   | exact LeO.none _
   | refine LeO.ite ?_ ?_
   | refine LeO.bind ?_ (fun _ => ?_)
set_option maxHeartbeats 8000000 in
set_option maxRecDepth 100000 in
theorem skiarealaw53_PatrolReady.calls (k : Nat) (A0_0 : Option Addr) (c0_0 : Nat) (l0_0 : List (S63)) (A0_1 : Option Addr) (c0_1 : Nat) (l0_1 : List (S56)) (a1 : Int) (a2 : Int) (w : World) (hr0_0 : Kd.C k63 w A0_0 l0_0.length l0_0) (hc0_0 : l0_0.length ≤ c0_0) (hr0_1 : Kd.C k56 w A0_1 l0_1.length l0_1) (hc0_1 : l0_1.length ≤ c0_1) (h : skiarealaw53_PatrolReady.f k l0_0 l0_1 a1 a2 = some true) :
  Calls Try.prog 15 #[.agg #[.slice A0_0 l0_0.length c0_0, .slice A0_1 l0_1.length c0_1], .int .i64 a1, .int .i64 a2] w fun e w' => e = .returned (.bool true) ∧ Below w.heap.size w w' := by
 have hu48 := Try.underlying48
 have hu63 := Try.underlying63
 have hu25 := Try.underlying25
 have HR0_0 := Aside0.mk hr0_0
 have HC0_0 := Aside0.mk hc0_0
 clear hr0_0 hc0_0
 have HR0_1 := Aside0.mk hr0_1
 have HC0_1 := Aside0.mk hc0_1
 clear hr0_1 hc0_1
 have HB := Aside0.mk (Below.refl w.heap.size w)
 have H : ((skiarealaw53_alive.f).bind fun t692 => (if t692 = true then ((skiarealaw53_small.f k l0_0 l0_1).bind fun t693 => (if t693 = true then ((patrol_Right.f k l0_0 l0_1).bind fun t694 => (skiarealaw53_PatrolReady.j0 k a1 a2 (t694 != 0) l0_0 l0_1)) else (skiarealaw53_PatrolReady.j0 k a1 a2 true l0_0 l0_1))) else (some false))) = some true := h
 clear h
 replace H := Option.bind_eq_some_iff.mp H
 obtain ⟨t692, A40, H⟩ := H
 replace H : (if t692 = true then ((skiarealaw53_small.f k l0_0 l0_1).bind fun t693 => (if t693 = true then ((patrol_Right.f k l0_0 l0_1).bind fun t694 => (skiarealaw53_PatrolReady.j0 k a1 a2 (t694 != 0) l0_0 l0_1)) else (skiarealaw53_PatrolReady.j0 k a1 a2 true l0_0 l0_1))) else (some false)) = some true := H
 have A4 := Aside0.mk A40
 clear A40
 by_cases c5 : t692 = true
 ·subst c5
  have H1 : ((skiarealaw53_small.f k l0_0 l0_1).bind fun t693 => (if t693 = true then ((patrol_Right.f k l0_0 l0_1).bind fun t694 => (skiarealaw53_PatrolReady.j0 k a1 a2 (t694 != 0) l0_0 l0_1)) else (skiarealaw53_PatrolReady.j0 k a1 a2 true l0_0 l0_1))) = some true := by rw [if_pos rfl] at H; exact H
  clear H
  have H := H1
  clear H1
  have HC6 := Aside0.mk H
  clear H
  go_enter Try.func15, Try.ntmps15
  go_upto_region 3 with (first | ((with_reducible refine gate_dst (N := 3) rfl ?_); refine box_event ?hg (N := 3) ?hd (cs := #[.slice A0_0 l0_0.length c0_0, .slice A0_1 l0_1.length c0_1]) (t := 48) ?hr ?_; (case hd => rfl); (case hg => rfl); (case hr => first | (go_simp; done) | (go_simp; rfl)); intro gb691 hg w7 hbox hb; have n0_ := Aside0.mk (below_step bel_ hb); have n1_ := Aside0.mk (hbox); have n2_ := Aside0.mk ((by rw [hg]; exact (below_size bel_) : w.heap.size ≤ gb691)); have n3_ := Aside0.mk ((by rw [hg]; exact (below_size bel_) : w.heap.size ≤ gb691)); clear HB; have HB := n0_; have BK691 := n1_; have GW691 := n2_; have GE691 := n3_; clear n0_ n1_ n2_ n3_; clear hb hbox hg) | (go_at_call 34; (with_reducible refine (skiarealaw53_alive.calls  true _ A4.out).mono ?_); rintro e w8 ⟨rfl, hb⟩; have n0_ := Aside0.mk (blk_below BK691.out hb); have n1_ := Aside0.mk (below_step bel_ hb); clear BK691; clear HB; have BK691 := n0_; have HB := n1_; clear n0_ n1_; (try clear hb); (try clear hb2); (try clear hk); (try clear hi)))
  repeat (go_quiet (first | ((with_reducible refine gate_dst (N := 3) rfl ?_); refine box_event ?hg (N := 3) ?hd (cs := #[.slice A0_0 l0_0.length c0_0, .slice A0_1 l0_1.length c0_1]) (t := 48) ?hr ?_; (case hd => rfl); (case hg => rfl); (case hr => first | (go_simp; done) | (go_simp; rfl)); intro gb691 hg w7 hbox hb; have n0_ := Aside0.mk (below_step bel_ hb); have n1_ := Aside0.mk (hbox); have n2_ := Aside0.mk ((by rw [hg]; exact (below_size bel_) : w.heap.size ≤ gb691)); have n3_ := Aside0.mk ((by rw [hg]; exact (below_size bel_) : w.heap.size ≤ gb691)); clear HB; have HB := n0_; have BK691 := n1_; have GW691 := n2_; have GE691 := n3_; clear n0_ n1_ n2_ n3_; clear hb hbox hg) | (go_at_call 34; (with_reducible refine (skiarealaw53_alive.calls  true _ A4.out).mono ?_); rintro e w8 ⟨rfl, hb⟩; have n0_ := Aside0.mk (blk_below BK691.out hb); have n1_ := Aside0.mk (below_step bel_ hb); clear BK691; clear HB; have BK691 := n0_; have HB := n1_; clear n0_ n1_; (try clear hb); (try clear hb2); (try clear hk); (try clear hi))); go_upto_region 3 with (first | ((with_reducible refine gate_dst (N := 3) rfl ?_); refine box_event ?hg (N := 3) ?hd (cs := #[.slice A0_0 l0_0.length c0_0, .slice A0_1 l0_1.length c0_1]) (t := 48) ?hr ?_; (case hd => rfl); (case hg => rfl); (case hr => first | (go_simp; done) | (go_simp; rfl)); intro gb691 hg w7 hbox hb; have n0_ := Aside0.mk (below_step bel_ hb); have n1_ := Aside0.mk (hbox); have n2_ := Aside0.mk ((by rw [hg]; exact (below_size bel_) : w.heap.size ≤ gb691)); have n3_ := Aside0.mk ((by rw [hg]; exact (below_size bel_) : w.heap.size ≤ gb691)); clear HB; have HB := n0_; have BK691 := n1_; have GW691 := n2_; have GE691 := n3_; clear n0_ n1_ n2_ n3_; clear hb hbox hg) | (go_at_call 34; (with_reducible refine (skiarealaw53_alive.calls  true _ A4.out).mono ?_); rintro e w8 ⟨rfl, hb⟩; have n0_ := Aside0.mk (blk_below BK691.out hb); have n1_ := Aside0.mk (below_step bel_ hb); clear BK691; clear HB; have BK691 := n0_; have HB := n1_; clear n0_ n1_; (try clear hb); (try clear hb2); (try clear hk); (try clear hi))))
  (try simp only [Act.put, List.setIfInBounds_toArray, List.set_cons_zero, List.set_cons_succ])
  go_cut [22] (fun v22 wc => ∃ (kq : Nat) (x22_5 : Bool), v22 = .bool x22_5 ∧ Aside0 (skiarealaw53_PatrolReady.j0 kq a1 a2 x22_5 l0_0 l0_1 = some true) ∧ Aside0 (kq ≤ k) ∧ Aside0 (wc.heap[gb691]? = some (.cells #[(.slice A0_0 l0_0.length c0_0), (.slice A0_1 l0_1.length c0_1)] 48 (0, 0))) ∧ Aside0 (Below w.heap.size w wc))
  case first =>
   have H := HC6.out
   clear HC6
   replace H := Option.bind_eq_some_iff.mp H
   obtain ⟨t693, A90, H⟩ := H
   replace H : (if t693 = true then ((patrol_Right.f k l0_0 l0_1).bind fun t694 => (skiarealaw53_PatrolReady.j0 k a1 a2 (t694 != 0) l0_0 l0_1)) else (skiarealaw53_PatrolReady.j0 k a1 a2 true l0_0 l0_1)) = some true := H
   have A9 := Aside0.mk A90
   clear A90
   by_cases c10 : t693 = true
   ·subst c10
    have H1 : ((patrol_Right.f k l0_0 l0_1).bind fun t694 => (skiarealaw53_PatrolReady.j0 k a1 a2 (t694 != 0) l0_0 l0_1)) = some true := by rw [if_pos rfl] at H; exact H
    clear H
    have H := H1
    clear H1
    replace H := Option.bind_eq_some_iff.mp H
    obtain ⟨t694, A110, H⟩ := H
    replace H : (skiarealaw53_PatrolReady.j0 k a1 a2 (t694 != 0) l0_0 l0_1) = some true := H
    have A11 := Aside0.mk A110
    clear A110
    have H' := Aside0.mk H
    clear H
    have hcz12_0 : w8.cell? ⟨gb691, 0, none⟩ = some (.slice A0_0 l0_0.length c0_0) := (blk_cell BK691.out 0).trans rfl
    have hcz12_1 : w8.cell? ⟨gb691, 1, none⟩ = some (.slice A0_1 l0_1.length c0_1) := (blk_cell BK691.out 1).trans rfl
    have hfz12_0 := blk_frozen BK691.out 0
    have hfz12_1 := blk_frozen BK691.out 1
    go_wp2_with (first | (go_at_call 35; (with_reducible refine (skiarealaw53_small.calls k _ _ l0_0 _ _ l0_1 true _ ?side1 ?side2 ?side3 ?side4 A9.out).mono ?_); (case side1 => repeat (first | exact (Kd.C_below HR0_0.out HB.out) | (with_reducible refine Kd.C_alloc ?_ _) | (with_reducible refine Kd.C_drewN ?_ _) | (with_reducible refine Kd.C_drew ?_))); (case side2 => exact HC0_0.out); (case side3 => repeat (first | exact (Kd.C_below HR0_1.out HB.out) | (with_reducible refine Kd.C_alloc ?_ _) | (with_reducible refine Kd.C_drewN ?_ _) | (with_reducible refine Kd.C_drew ?_))); (case side4 => exact HC0_1.out); rintro e w13 ⟨rfl, hb⟩; have n0_ := Aside0.mk (blk_below BK691.out hb); have n1_ := Aside0.mk (below_step bel_ hb); clear BK691; clear HB; have BK691 := n0_; have HB := n1_; clear n0_ n1_; (try clear hb); (try clear hb2); (try clear hk); (try clear hi); have hcz14_0 : w13.cell? ⟨gb691, 0, none⟩ = some (.slice A0_0 l0_0.length c0_0) := (blk_cell BK691.out 0).trans rfl; have hcz14_1 : w13.cell? ⟨gb691, 1, none⟩ = some (.slice A0_1 l0_1.length c0_1) := (blk_cell BK691.out 1).trans rfl; have hfz14_0 := blk_frozen BK691.out 0; have hfz14_1 := blk_frozen BK691.out 1) | (go_at_call 36; (with_reducible refine (patrol_Right.calls k _ _ l0_0 _ _ l0_1 t694 _ ?side1 ?side2 ?side3 ?side4 A11.out).mono ?_); (case side1 => repeat (first | exact (Kd.C_below HR0_0.out HB.out) | (with_reducible refine Kd.C_alloc ?_ _) | (with_reducible refine Kd.C_drewN ?_ _) | (with_reducible refine Kd.C_drew ?_))); (case side2 => exact HC0_0.out); (case side3 => repeat (first | exact (Kd.C_below HR0_1.out HB.out) | (with_reducible refine Kd.C_alloc ?_ _) | (with_reducible refine Kd.C_drewN ?_ _) | (with_reducible refine Kd.C_drew ?_))); (case side4 => exact HC0_1.out); rintro e w15 ⟨rfl, hb⟩; have n0_ := Aside0.mk (blk_below BK691.out hb); have n1_ := Aside0.mk (below_step bel_ hb); clear BK691; clear HB; have BK691 := n0_; have HB := n1_; clear n0_ n1_; (try clear hb); (try clear hb2); (try clear hk); (try clear hi)))
    repeat (go_quiet (fail); try go_wp2_with (first | (go_at_call 35; (with_reducible refine (skiarealaw53_small.calls k _ _ l0_0 _ _ l0_1 true _ ?side1 ?side2 ?side3 ?side4 A9.out).mono ?_); (case side1 => repeat (first | exact (Kd.C_below HR0_0.out HB.out) | (with_reducible refine Kd.C_alloc ?_ _) | (with_reducible refine Kd.C_drewN ?_ _) | (with_reducible refine Kd.C_drew ?_))); (case side2 => exact HC0_0.out); (case side3 => repeat (first | exact (Kd.C_below HR0_1.out HB.out) | (with_reducible refine Kd.C_alloc ?_ _) | (with_reducible refine Kd.C_drewN ?_ _) | (with_reducible refine Kd.C_drew ?_))); (case side4 => exact HC0_1.out); rintro e w13 ⟨rfl, hb⟩; have n0_ := Aside0.mk (blk_below BK691.out hb); have n1_ := Aside0.mk (below_step bel_ hb); clear BK691; clear HB; have BK691 := n0_; have HB := n1_; clear n0_ n1_; (try clear hb); (try clear hb2); (try clear hk); (try clear hi); have hcz14_0 : w13.cell? ⟨gb691, 0, none⟩ = some (.slice A0_0 l0_0.length c0_0) := (blk_cell BK691.out 0).trans rfl; have hcz14_1 : w13.cell? ⟨gb691, 1, none⟩ = some (.slice A0_1 l0_1.length c0_1) := (blk_cell BK691.out 1).trans rfl; have hfz14_0 := blk_frozen BK691.out 0; have hfz14_1 := blk_frozen BK691.out 1) | (go_at_call 36; (with_reducible refine (patrol_Right.calls k _ _ l0_0 _ _ l0_1 t694 _ ?side1 ?side2 ?side3 ?side4 A11.out).mono ?_); (case side1 => repeat (first | exact (Kd.C_below HR0_0.out HB.out) | (with_reducible refine Kd.C_alloc ?_ _) | (with_reducible refine Kd.C_drewN ?_ _) | (with_reducible refine Kd.C_drew ?_))); (case side2 => exact HC0_0.out); (case side3 => repeat (first | exact (Kd.C_below HR0_1.out HB.out) | (with_reducible refine Kd.C_alloc ?_ _) | (with_reducible refine Kd.C_drewN ?_ _) | (with_reducible refine Kd.C_drew ?_))); (case side4 => exact HC0_1.out); rintro e w15 ⟨rfl, hb⟩; have n0_ := Aside0.mk (blk_below BK691.out hb); have n1_ := Aside0.mk (below_step bel_ hb); clear BK691; clear HB; have BK691 := n0_; have HB := n1_; clear n0_ n1_; (try clear hb); (try clear hb2); (try clear hk); (try clear hi))))
    go_meet
    case rel => exact ⟨_, ((t694 != 0)), (by first | rfl | (simp; done) | (simp [*]; done)), H', ⟨by first | omega | exact Nat.le_refl _⟩, ⟨by exact BK691.out⟩, ⟨by repeat (first | (with_reducible first | exact HB.out | apply below_alloc | apply pw_below_drewN | apply below_drew1 | refine below_set ?_ GE691.out) | exact HB.out)⟩⟩
   ·replace c10 := Bool.eq_false_iff.mpr c10
    subst c10
    have H1 : (skiarealaw53_PatrolReady.j0 k a1 a2 true l0_0 l0_1) = some true := by rw [if_neg (show ¬ (false = true) by decide)] at H; exact H
    clear H
    have H := H1
    clear H1
    have H' := Aside0.mk H
    clear H
    have hcz16_0 : w8.cell? ⟨gb691, 0, none⟩ = some (.slice A0_0 l0_0.length c0_0) := (blk_cell BK691.out 0).trans rfl
    have hcz16_1 : w8.cell? ⟨gb691, 1, none⟩ = some (.slice A0_1 l0_1.length c0_1) := (blk_cell BK691.out 1).trans rfl
    have hfz16_0 := blk_frozen BK691.out 0
    have hfz16_1 := blk_frozen BK691.out 1
    go_wp2_with (first | (go_at_call 35; (with_reducible refine (skiarealaw53_small.calls k _ _ l0_0 _ _ l0_1 false _ ?side1 ?side2 ?side3 ?side4 A9.out).mono ?_); (case side1 => repeat (first | exact (Kd.C_below HR0_0.out HB.out) | (with_reducible refine Kd.C_alloc ?_ _) | (with_reducible refine Kd.C_drewN ?_ _) | (with_reducible refine Kd.C_drew ?_))); (case side2 => exact HC0_0.out); (case side3 => repeat (first | exact (Kd.C_below HR0_1.out HB.out) | (with_reducible refine Kd.C_alloc ?_ _) | (with_reducible refine Kd.C_drewN ?_ _) | (with_reducible refine Kd.C_drew ?_))); (case side4 => exact HC0_1.out); rintro e w17 ⟨rfl, hb⟩; have n0_ := Aside0.mk (blk_below BK691.out hb); have n1_ := Aside0.mk (below_step bel_ hb); clear BK691; clear HB; have BK691 := n0_; have HB := n1_; clear n0_ n1_; (try clear hb); (try clear hb2); (try clear hk); (try clear hi)))
    repeat (go_quiet (fail); try go_wp2_with (first | (go_at_call 35; (with_reducible refine (skiarealaw53_small.calls k _ _ l0_0 _ _ l0_1 false _ ?side1 ?side2 ?side3 ?side4 A9.out).mono ?_); (case side1 => repeat (first | exact (Kd.C_below HR0_0.out HB.out) | (with_reducible refine Kd.C_alloc ?_ _) | (with_reducible refine Kd.C_drewN ?_ _) | (with_reducible refine Kd.C_drew ?_))); (case side2 => exact HC0_0.out); (case side3 => repeat (first | exact (Kd.C_below HR0_1.out HB.out) | (with_reducible refine Kd.C_alloc ?_ _) | (with_reducible refine Kd.C_drewN ?_ _) | (with_reducible refine Kd.C_drew ?_))); (case side4 => exact HC0_1.out); rintro e w17 ⟨rfl, hb⟩; have n0_ := Aside0.mk (blk_below BK691.out hb); have n1_ := Aside0.mk (below_step bel_ hb); clear BK691; clear HB; have BK691 := n0_; have HB := n1_; clear n0_ n1_; (try clear hb); (try clear hb2); (try clear hk); (try clear hi))))
    go_meet
    case rel => exact ⟨_, (true), (by first | rfl | (simp; done) | (simp [*]; done)), H', ⟨by first | omega | exact Nat.le_refl _⟩, ⟨by exact BK691.out⟩, ⟨by repeat (first | (with_reducible first | exact HB.out | apply below_alloc | apply pw_below_drewN | apply below_drew1 | refine below_set ?_ GE691.out) | exact HB.out)⟩⟩
  case rest =>
   clear HC6
   try clear c1
   try clear p2
   try clear c5
   try clear c10
   try clear c15
   try clear hcz12_0
   try clear hcz12_1
   try clear hcz14_0
   try clear hcz14_1
   try clear hcz16_0
   try clear hcz16_1
   try clear hfz12_0
   try clear hfz12_1
   try clear hfz14_0
   try clear hfz14_1
   try clear hfz16_0
   try clear hfz16_1
   obtain ⟨kq, x22_5, rfl, HA, HJ5, BK691, HB⟩ := hcut
   cases kq with
   | zero => exact absurd HA.out (by simp [skiarealaw53_PatrolReady.j0])
   | succ kj5 =>
    have H := HA.out
    clear HA
    simp only [skiarealaw53_PatrolReady.j0] at H
    by_cases c18 : x22_5 = true
    ·subst c18
     have H1 : (some true) = some true := rfl
     clear H
     have H := H1
     clear H1
     clear H
     go_wp2
     repeat (go_quiet (fail); try go_wp2)
     go_ret
     exact ⟨by first | rfl | (rw [HTR.out]; rfl) | (exact congrArg (fun b => Ending.returned (Value.bool b)) HTR.out) | (simpa using HTR.out) | (simp [errW_none, errW_some] <;> rfl) | (simp [*, errW_none, errW_some] <;> rfl), by repeat (first | (with_reducible first | exact HB.out | apply below_alloc | apply pw_below_drewN | apply below_drew1 | refine below_set ?_ GE691.out) | exact HB.out)⟩
    ·replace c18 := Bool.eq_false_iff.mpr c18
     subst c18
     have H1 : ((patrol_Open.f kj5 l0_0 l0_1 a2).bind fun t695 => (skiarealaw53_PatrolReady.l0 kj5 a1 a2 t695 0 false 0 l0_0 l0_1)) = some true := by rw [if_neg (show ¬ (false = true) by decide)] at H; exact H
     clear H
     have H := H1
     clear H1
     replace H := Option.bind_eq_some_iff.mp H
     obtain ⟨t695, A190, H⟩ := H
     replace H : (skiarealaw53_PatrolReady.l0 kj5 a1 a2 t695 0 false 0 l0_0 l0_1) = some true := H
     have A19 := Aside0.mk A190
     clear A190
     have H' := Aside0.mk H
     clear H
     have hcz20_0 : wc.cell? ⟨gb691, 0, none⟩ = some (.slice A0_0 l0_0.length c0_0) := (blk_cell BK691.out 0).trans rfl
     have hcz20_1 : wc.cell? ⟨gb691, 1, none⟩ = some (.slice A0_1 l0_1.length c0_1) := (blk_cell BK691.out 1).trans rfl
     have hfz20_0 := blk_frozen BK691.out 0
     have hfz20_1 := blk_frozen BK691.out 1
     go_wp2_with (first | (go_at_call 49; (with_reducible refine (patrol_Open.calls kj5 _ _ l0_0 _ _ l0_1 a2 t695 _ ?side1 ?side2 ?side3 ?side4 A19.out).mono ?_); (case side1 => repeat (first | exact (Kd.C_below HR0_0.out HB.out) | (with_reducible refine Kd.C_alloc ?_ _) | (with_reducible refine Kd.C_drewN ?_ _) | (with_reducible refine Kd.C_drew ?_))); (case side2 => exact HC0_0.out); (case side3 => repeat (first | exact (Kd.C_below HR0_1.out HB.out) | (with_reducible refine Kd.C_alloc ?_ _) | (with_reducible refine Kd.C_drewN ?_ _) | (with_reducible refine Kd.C_drew ?_))); (case side4 => exact HC0_1.out); rintro e w21 ⟨v696, rfl, ho0, hb⟩; have n0_ := Aside0.mk (Kd.R_lower ho0 (below_size bel_)); have n1_ := Aside0.mk (blk_below BK691.out hb); have n2_ := Aside0.mk (below_step bel_ hb); clear BK691; clear HB; have HO697 := n0_; have BK691 := n1_; have HB := n2_; clear n0_ n1_ n2_; (try clear hb); (try clear hb2); (try clear hk); (try clear hi); (try clear ho0)))
     repeat (go_quiet (fail); try go_wp2_with (first | (go_at_call 49; (with_reducible refine (patrol_Open.calls kj5 _ _ l0_0 _ _ l0_1 a2 t695 _ ?side1 ?side2 ?side3 ?side4 A19.out).mono ?_); (case side1 => repeat (first | exact (Kd.C_below HR0_0.out HB.out) | (with_reducible refine Kd.C_alloc ?_ _) | (with_reducible refine Kd.C_drewN ?_ _) | (with_reducible refine Kd.C_drew ?_))); (case side2 => exact HC0_0.out); (case side3 => repeat (first | exact (Kd.C_below HR0_1.out HB.out) | (with_reducible refine Kd.C_alloc ?_ _) | (with_reducible refine Kd.C_drewN ?_ _) | (with_reducible refine Kd.C_drew ?_))); (case side4 => exact HC0_1.out); rintro e w21 ⟨v696, rfl, ho0, hb⟩; have n0_ := Aside0.mk (Kd.R_lower ho0 (below_size bel_)); have n1_ := Aside0.mk (blk_below BK691.out hb); have n2_ := Aside0.mk (below_step bel_ hb); clear BK691; clear HB; have HO697 := n0_; have BK691 := n1_; have HB := n2_; clear n0_ n1_ n2_; (try clear hb); (try clear hb2); (try clear hk); (try clear hi); (try clear ho0))))
     go_loopg [8, 9, 10] kj5 (fun kq v8 v9 v10 w' => ∃ (x8_2 : Int) (x9_2 : Bool) (x10_2 : Int), v8 = .int .i64 x8_2 ∧ v9 = .bool x9_2 ∧ v10 = .int .i64 x10_2 ∧ Aside0 (skiarealaw53_PatrolReady.l0 kq a1 a2 t695 x8_2 x9_2 x10_2 l0_0 l0_1 = some true) ∧ Aside0 (kq ≤ kj5) ∧ Aside0 (Kd.R (Kd.int .i64) 3 w' w.heap.size (fun _ => True) v696 t695) ∧ Aside0 (w'.heap[gb691]? = some (.cells #[(.slice A0_0 l0_0.length c0_0), (.slice A0_1 l0_1.length c0_1)] 48 (0, 0))) ∧ Aside0 (Below w.heap.size w w'))
     case atStart => exact ⟨(0), (false), (0), (by first | rfl | (simp; done) | (simp [*]; done)), (by first | rfl | (simp; done) | (simp [*]; done)), (by first | rfl | (simp; done) | (simp [*]; done)), H', ⟨Nat.le_refl _⟩, ⟨by (with_reducible repeat (first | apply Kd.R_alloc | apply Kd.R_drewN | apply Kd.R_drew)); exact HO697.out⟩, ⟨by exact BK691.out⟩, ⟨by repeat (first | (with_reducible first | exact HB.out | apply below_alloc | apply pw_below_drewN | apply below_drew1 | refine below_set ?_ GE691.out) | exact HB.out)⟩⟩
     case round =>
      clear H'
      try clear c1
      try clear p2
      try clear c5
      try clear c10
      try clear c15
      try clear c18
      try clear hcz12_0
      try clear hcz12_1
      try clear hcz14_0
      try clear hcz14_1
      try clear hcz16_0
      try clear hcz16_1
      try clear hcz20_0
      try clear hcz20_1
      try clear hfz12_0
      try clear hfz12_1
      try clear hfz14_0
      try clear hfz14_1
      try clear hfz16_0
      try clear hfz16_1
      try clear hfz20_0
      try clear hfz20_1
      try clear p2
      obtain ⟨x8_2, x9_2, x10_2, rfl, rfl, rfl, HA, HK2, HO_7, BK691, HB⟩ := hrel
      cases gk with
      | zero => exact absurd HA.out (by simp [skiarealaw53_PatrolReady.l0])
      | succ k2 =>
       have H := HA.out
       clear HA
       simp only [skiarealaw53_PatrolReady.l0] at H
       by_cases c22 : x10_2 < (l0_0.length : Int)
       ·rw [if_pos c22] at H
        have c22b0 : decide (x10_2 < (l0_0.length : Int)) = true := decide_eq_true c22
        clear c22
        by_cases c23 : 0 ≤ x10_2
        ·rw [if_pos c23] at H
         have c23b0 : decide (0 ≤ x10_2) = true := decide_eq_true c23
         clear c23
         have HC24 := Aside0.mk H
         clear H
         have hcz25_0 : wr.cell? ⟨gb691, 0, none⟩ = some (.slice A0_0 l0_0.length c0_0) := (blk_cell BK691.out 0).trans rfl
         have hcz25_1 : wr.cell? ⟨gb691, 1, none⟩ = some (.slice A0_1 l0_1.length c0_1) := (blk_cell BK691.out 1).trans rfl
         have hfz25_0 := blk_frozen BK691.out 0
         have hfz25_1 := blk_frozen BK691.out 1
         have p699 : 0 ≤ (x10_2 : Int) := of_decide_eq_true (by first | (with_reducible assumption) | assumption)
         have q699 : x10_2 < (l0_0.length : Int) := of_decide_eq_true (by first | (with_reducible assumption) | assumption)
         obtain ⟨ad699, A699_1, c699_1, A699_3, c699_3, e699, hx699_0, hx699_1, hx699_2, hx699_3, hl699_1, hi699_1, hl699_3, hi699_3⟩ := at_T63 HR0_0.out x10_2 p699 q699
         cases e699
         replace hx699_0 := (HB.out.cell (World.block_lt_of_cell? w _ hx699_0)).trans hx699_0
         replace hx699_1 := (HB.out.cell (World.block_lt_of_cell? w _ hx699_1)).trans hx699_1
         replace hx699_2 := (HB.out.cell (World.block_lt_of_cell? w _ hx699_2)).trans hx699_2
         replace hx699_3 := (HB.out.cell (World.block_lt_of_cell? w _ hx699_3)).trans hx699_3
         have HR699_1 := Aside0.mk hi699_1
         have HC699_1 := Aside0.mk hl699_1
         clear hi699_1 hl699_1
         have HR699_3 := Aside0.mk hi699_3
         have HC699_3 := Aside0.mk hl699_3
         clear hi699_3 hl699_3
         replace p699 := eq_true p699
         replace q699 := eq_true q699
         go_upto_region 12 with (first | ((with_reducible refine gate_dst (N := 11) rfl ?_); refine box_event ?hg (N := 11) ?hd (cs := #[.int .i64 0, .slice none 0 0, .int .i64 0, .slice none 0 0]) (t := 63) ?hr ?_; (case hd => rfl); (case hg => rfl); (case hr => first | (go_simp; done) | (go_simp; rfl)); intro gb700 hg w26 hbox hb; have n0_ := Aside0.mk (Kd.R_below HO_7.out hb); have n1_ := Aside0.mk (blk_below BK691.out hb); have n2_ := Aside0.mk (below_step bel_ hb); have n3_ := Aside0.mk (hbox); have n4_ := Aside0.mk ((by rw [hg]; exact (below_size bel_) : w.heap.size ≤ gb700)); have n5_ := Aside0.mk ((by rw [hg]; exact (below_size bel_) : w.heap.size ≤ gb700)); have n6_ := Aside0.mk ((by rw [hg]; exact Nat.ne_of_lt (blk_lt BK691.out) : gb691 ≠ gb700)); have n7_ := Aside0.mk ((by rw [hg]; exact Nat.ne_of_gt (blk_lt BK691.out) : gb700 ≠ gb691)); clear HO_7; clear BK691; clear HB; have HO_7 := n0_; have BK691 := n1_; have HB := n2_; have BK700 := n3_; have GW700 := n4_; have GE700 := n5_; have NB691_700 := n6_; have NB700_691 := n7_; clear n0_ n1_ n2_ n3_ n4_ n5_ n6_ n7_; clear hb hbox hg; have hnb27 := NB700_691.out; have hnc27 := NB691_700.out; have hcz28_0 : w26.cell? ⟨gb700, 0, none⟩ = some (.int .i64 0) := (blk_cell BK700.out 0).trans rfl; have hcz28_1 : w26.cell? ⟨gb700, 1, none⟩ = some (.slice none 0 0) := (blk_cell BK700.out 1).trans rfl; have hcz28_2 : w26.cell? ⟨gb700, 2, none⟩ = some (.int .i64 0) := (blk_cell BK700.out 2).trans rfl; have hcz28_3 : w26.cell? ⟨gb700, 3, none⟩ = some (.slice none 0 0) := (blk_cell BK700.out 3).trans rfl; have hfz28_0 := blk_frozen BK700.out 0; have hfz28_1 := blk_frozen BK700.out 1; have hfz28_2 := blk_frozen BK700.out 2; have hfz28_3 := blk_frozen BK700.out 3))
         repeat (go_quiet (first | ((with_reducible refine gate_dst (N := 11) rfl ?_); refine box_event ?hg (N := 11) ?hd (cs := #[.int .i64 0, .slice none 0 0, .int .i64 0, .slice none 0 0]) (t := 63) ?hr ?_; (case hd => rfl); (case hg => rfl); (case hr => first | (go_simp; done) | (go_simp; rfl)); intro gb700 hg w26 hbox hb; have n0_ := Aside0.mk (Kd.R_below HO_7.out hb); have n1_ := Aside0.mk (blk_below BK691.out hb); have n2_ := Aside0.mk (below_step bel_ hb); have n3_ := Aside0.mk (hbox); have n4_ := Aside0.mk ((by rw [hg]; exact (below_size bel_) : w.heap.size ≤ gb700)); have n5_ := Aside0.mk ((by rw [hg]; exact (below_size bel_) : w.heap.size ≤ gb700)); have n6_ := Aside0.mk ((by rw [hg]; exact Nat.ne_of_lt (blk_lt BK691.out) : gb691 ≠ gb700)); have n7_ := Aside0.mk ((by rw [hg]; exact Nat.ne_of_gt (blk_lt BK691.out) : gb700 ≠ gb691)); clear HO_7; clear BK691; clear HB; have HO_7 := n0_; have BK691 := n1_; have HB := n2_; have BK700 := n3_; have GW700 := n4_; have GE700 := n5_; have NB691_700 := n6_; have NB700_691 := n7_; clear n0_ n1_ n2_ n3_ n4_ n5_ n6_ n7_; clear hb hbox hg; have hnb27 := NB700_691.out; have hnc27 := NB691_700.out; have hcz28_0 : w26.cell? ⟨gb700, 0, none⟩ = some (.int .i64 0) := (blk_cell BK700.out 0).trans rfl; have hcz28_1 : w26.cell? ⟨gb700, 1, none⟩ = some (.slice none 0 0) := (blk_cell BK700.out 1).trans rfl; have hcz28_2 : w26.cell? ⟨gb700, 2, none⟩ = some (.int .i64 0) := (blk_cell BK700.out 2).trans rfl; have hcz28_3 : w26.cell? ⟨gb700, 3, none⟩ = some (.slice none 0 0) := (blk_cell BK700.out 3).trans rfl; have hfz28_0 := blk_frozen BK700.out 0; have hfz28_1 := blk_frozen BK700.out 1; have hfz28_2 := blk_frozen BK700.out 2; have hfz28_3 := blk_frozen BK700.out 3)); go_upto_region 12 with (first | ((with_reducible refine gate_dst (N := 11) rfl ?_); refine box_event ?hg (N := 11) ?hd (cs := #[.int .i64 0, .slice none 0 0, .int .i64 0, .slice none 0 0]) (t := 63) ?hr ?_; (case hd => rfl); (case hg => rfl); (case hr => first | (go_simp; done) | (go_simp; rfl)); intro gb700 hg w26 hbox hb; have n0_ := Aside0.mk (Kd.R_below HO_7.out hb); have n1_ := Aside0.mk (blk_below BK691.out hb); have n2_ := Aside0.mk (below_step bel_ hb); have n3_ := Aside0.mk (hbox); have n4_ := Aside0.mk ((by rw [hg]; exact (below_size bel_) : w.heap.size ≤ gb700)); have n5_ := Aside0.mk ((by rw [hg]; exact (below_size bel_) : w.heap.size ≤ gb700)); have n6_ := Aside0.mk ((by rw [hg]; exact Nat.ne_of_lt (blk_lt BK691.out) : gb691 ≠ gb700)); have n7_ := Aside0.mk ((by rw [hg]; exact Nat.ne_of_gt (blk_lt BK691.out) : gb700 ≠ gb691)); clear HO_7; clear BK691; clear HB; have HO_7 := n0_; have BK691 := n1_; have HB := n2_; have BK700 := n3_; have GW700 := n4_; have GE700 := n5_; have NB691_700 := n6_; have NB700_691 := n7_; clear n0_ n1_ n2_ n3_ n4_ n5_ n6_ n7_; clear hb hbox hg; have hnb27 := NB700_691.out; have hnc27 := NB691_700.out; have hcz28_0 : w26.cell? ⟨gb700, 0, none⟩ = some (.int .i64 0) := (blk_cell BK700.out 0).trans rfl; have hcz28_1 : w26.cell? ⟨gb700, 1, none⟩ = some (.slice none 0 0) := (blk_cell BK700.out 1).trans rfl; have hcz28_2 : w26.cell? ⟨gb700, 2, none⟩ = some (.int .i64 0) := (blk_cell BK700.out 2).trans rfl; have hcz28_3 : w26.cell? ⟨gb700, 3, none⟩ = some (.slice none 0 0) := (blk_cell BK700.out 3).trans rfl; have hfz28_0 := blk_frozen BK700.out 0; have hfz28_1 := blk_frozen BK700.out 1; have hfz28_2 := blk_frozen BK700.out 2; have hfz28_3 := blk_frozen BK700.out 3)))
         (try simp only [Act.put, List.setIfInBounds_toArray, List.set_cons_zero, List.set_cons_succ])
         go_cut [12] (fun v12 wc => ∃ (kq : Nat) (x12_23 : Bool), v12 = .bool x12_23 ∧ Aside0 (skiarealaw53_PatrolReady.j2 kq a1 a2 t695 x8_2 x9_2 x10_2 x12_23 l0_0 l0_1 ((rd_T63 l0_0 x10_2).f0) ((rd_T63 l0_0 x10_2).f1.f0) ((rd_T63 l0_0 x10_2).f1.f1) ((rd_T63 l0_0 x10_2).f1.f2) = some true) ∧ Aside0 (kq ≤ k2) ∧ Aside0 (Kd.R (Kd.int .i64) 3 wc w.heap.size (fun _ => True) v696 t695) ∧ Aside0 (wc.heap[gb691]? = some (.cells #[(.slice (some ad699) l0_0.length c0_0), (.slice A0_1 l0_1.length c0_1)] 48 (0, 0))) ∧ Aside0 (wc.heap[gb700]? = some (.cells #[.int .i64 ((rd_T63 l0_0 x10_2).f0), (.slice A699_1 ((rd_T63 l0_0 x10_2).f1.f0).length c699_1), .int .i64 ((rd_T63 l0_0 x10_2).f1.f1), (.slice A699_3 ((rd_T63 l0_0 x10_2).f1.f2).length c699_3)] 63 (0, 0))) ∧ Aside0 (Below w.heap.size w wc))
         case first =>
          have H := HC24.out
          clear HC24
          replace H := Option.bind_eq_some_iff.mp H
          obtain ⟨t701, A290, H⟩ := H
          replace H : (if t701 = true then ((skiarealaw53_hazards.f k2 l0_0 l0_1 ((rd_T63 l0_0 x10_2).f0)).bind fun t702 => (skiarealaw53_PatrolReady.j2 k2 a1 a2 t695 x8_2 x9_2 x10_2 (t702 == 0) l0_0 l0_1 ((rd_T63 l0_0 x10_2).f0) ((rd_T63 l0_0 x10_2).f1.f0) ((rd_T63 l0_0 x10_2).f1.f1) ((rd_T63 l0_0 x10_2).f1.f2))) else (skiarealaw53_PatrolReady.j2 k2 a1 a2 t695 x8_2 x9_2 x10_2 false l0_0 l0_1 ((rd_T63 l0_0 x10_2).f0) ((rd_T63 l0_0 x10_2).f1.f0) ((rd_T63 l0_0 x10_2).f1.f1) ((rd_T63 l0_0 x10_2).f1.f2))) = some true := H
          have A29 := Aside0.mk A290
          clear A290
          by_cases c30 : t701 = true
          ·subst c30
           have H1 : ((skiarealaw53_hazards.f k2 l0_0 l0_1 ((rd_T63 l0_0 x10_2).f0)).bind fun t702 => (skiarealaw53_PatrolReady.j2 k2 a1 a2 t695 x8_2 x9_2 x10_2 (t702 == 0) l0_0 l0_1 ((rd_T63 l0_0 x10_2).f0) ((rd_T63 l0_0 x10_2).f1.f0) ((rd_T63 l0_0 x10_2).f1.f1) ((rd_T63 l0_0 x10_2).f1.f2))) = some true := by rw [if_pos rfl] at H; exact H
           clear H
           have H := H1
           clear H1
           replace H := Option.bind_eq_some_iff.mp H
           obtain ⟨t702, A310, H⟩ := H
           replace H : (skiarealaw53_PatrolReady.j2 k2 a1 a2 t695 x8_2 x9_2 x10_2 (t702 == 0) l0_0 l0_1 ((rd_T63 l0_0 x10_2).f0) ((rd_T63 l0_0 x10_2).f1.f0) ((rd_T63 l0_0 x10_2).f1.f1) ((rd_T63 l0_0 x10_2).f1.f2)) = some true := H
           have A31 := Aside0.mk A310
           clear A310
           have H' := Aside0.mk H
           clear H
           have hnb32 := NB700_691.out
           have hnc32 := NB691_700.out
           have hcz33_0 : w26.cell? ⟨gb700, 0, none⟩ = some (.int .i64 0) := (blk_cell BK700.out 0).trans rfl
           have hcz33_1 : w26.cell? ⟨gb700, 1, none⟩ = some (.slice none 0 0) := (blk_cell BK700.out 1).trans rfl
           have hcz33_2 : w26.cell? ⟨gb700, 2, none⟩ = some (.int .i64 0) := (blk_cell BK700.out 2).trans rfl
           have hcz33_3 : w26.cell? ⟨gb700, 3, none⟩ = some (.slice none 0 0) := (blk_cell BK700.out 3).trans rfl
           have hfz33_0 := blk_frozen BK700.out 0
           have hfz33_1 := blk_frozen BK700.out 1
           have hfz33_2 := blk_frozen BK700.out 2
           have hfz33_3 := blk_frozen BK700.out 3
           go_wp2_with (first | (go_at_call 29; (with_reducible refine (inspect_Done.calls _ _ ((rd_T63 l0_0 x10_2).f1.f0) ((rd_T63 l0_0 x10_2).f1.f1) _ _ ((rd_T63 l0_0 x10_2).f1.f2) a2 true _ ?side1 ?side2 ?side3 ?side4 A29.out).mono ?_); (case side1 => exact Kd.C_below HR699_1.out bel_); (case side2 => exact HC699_1.out); (case side3 => exact Kd.C_below HR699_3.out bel_); (case side4 => exact HC699_3.out); rintro e w34 ⟨rfl, hb⟩; have n0_ := Aside0.mk (Kd.R_below (by (with_reducible repeat (first | apply Kd.R_alloc | apply Kd.R_drewN | apply Kd.R_drew)); exact (Kd.R_mono (Kd.R_far (p := ⟨gb700, 3, none⟩) (Kd.R_far (p := ⟨gb700, 2, none⟩) (Kd.R_far (p := ⟨gb700, 1, none⟩) (Kd.R_far (p := ⟨gb700, 0, none⟩) (Kd.R_types HO_7.out BK700.out (by decide)) (fun _ hk => hk.2) (.int .i64 ((rd_T63 l0_0 x10_2).f0))) (fun _ hk => hk.2) (.slice A699_1 ((rd_T63 l0_0 x10_2).f1.f0).length c699_1)) (fun _ hk => hk.2) (.int .i64 ((rd_T63 l0_0 x10_2).f1.f1))) (fun _ hk => hk.2) (.slice A699_3 ((rd_T63 l0_0 x10_2).f1.f2).length c699_3)) (fun _ h_ => h_.1))) hb); have n1_ := Aside0.mk (blk_below (g := gb691) (o := .cells #[.slice (some ad699) l0_0.length c0_0, .slice A0_1 l0_1.length c0_1] 48 (0, 0)) (by refine blk_far ?_ NB691_700.out _; refine blk_far ?_ NB691_700.out _; refine blk_far ?_ NB691_700.out _; refine blk_far ?_ NB691_700.out _; exact BK691.out) hb); have n2_ := Aside0.mk (blk_below (g := gb700) (o := .cells #[.int .i64 ((rd_T63 l0_0 x10_2).f0), .slice A699_1 ((rd_T63 l0_0 x10_2).f1.f0).length c699_1, .int .i64 ((rd_T63 l0_0 x10_2).f1.f1), .slice A699_3 ((rd_T63 l0_0 x10_2).f1.f2).length c699_3] 63 (0, 0)) (by refine blk_put (cs := #[.int .i64 ((rd_T63 l0_0 x10_2).f0), .slice A699_1 ((rd_T63 l0_0 x10_2).f1.f0).length c699_1, .int .i64 ((rd_T63 l0_0 x10_2).f1.f1), .slice none 0 0]) ?_ 3 _ rfl; refine blk_put (cs := #[.int .i64 ((rd_T63 l0_0 x10_2).f0), .slice A699_1 ((rd_T63 l0_0 x10_2).f1.f0).length c699_1, .int .i64 0, .slice none 0 0]) ?_ 2 _ rfl; refine blk_put (cs := #[.int .i64 ((rd_T63 l0_0 x10_2).f0), .slice none 0 0, .int .i64 0, .slice none 0 0]) ?_ 1 _ rfl; refine blk_put (cs := #[.int .i64 0, .slice none 0 0, .int .i64 0, .slice none 0 0]) ?_ 0 _ rfl; exact BK700.out) hb); have n3_ := Aside0.mk (below_step bel_ hb); clear HO_7; clear BK691; clear BK700; clear HB; have HO_7 := n0_; have BK691 := n1_; have BK700 := n2_; have HB := n3_; clear n0_ n1_ n2_ n3_; (try clear hb); (try clear hb2); (try clear hk); (try clear hi); have hcz35_0 : w34.cell? ⟨gb691, 0, none⟩ = some (.slice (some ad699) l0_0.length c0_0) := (blk_cell BK691.out 0).trans rfl; have hcz35_1 : w34.cell? ⟨gb691, 1, none⟩ = some (.slice A0_1 l0_1.length c0_1) := (blk_cell BK691.out 1).trans rfl; have hfz35_0 := blk_frozen BK691.out 0; have hfz35_1 := blk_frozen BK691.out 1; have hcz36_0 : w34.cell? ⟨gb700, 0, none⟩ = some (.int .i64 ((rd_T63 l0_0 x10_2).f0)) := (blk_cell BK700.out 0).trans rfl; have hcz36_1 : w34.cell? ⟨gb700, 1, none⟩ = some (.slice A699_1 ((rd_T63 l0_0 x10_2).f1.f0).length c699_1) := (blk_cell BK700.out 1).trans rfl; have hcz36_2 : w34.cell? ⟨gb700, 2, none⟩ = some (.int .i64 ((rd_T63 l0_0 x10_2).f1.f1)) := (blk_cell BK700.out 2).trans rfl; have hcz36_3 : w34.cell? ⟨gb700, 3, none⟩ = some (.slice A699_3 ((rd_T63 l0_0 x10_2).f1.f2).length c699_3) := (blk_cell BK700.out 3).trans rfl; have hfz36_0 := blk_frozen BK700.out 0; have hfz36_1 := blk_frozen BK700.out 1; have hfz36_2 := blk_frozen BK700.out 2; have hfz36_3 := blk_frozen BK700.out 3) | (go_at_call 51; (with_reducible refine (skiarealaw53_hazards.calls k2 _ _ l0_0 _ _ l0_1 ((rd_T63 l0_0 x10_2).f0) t702 _ ?side1 ?side2 ?side3 ?side4 A31.out).mono ?_); (case side1 => repeat (first | exact (Kd.C_below HR0_0.out HB.out) | (with_reducible refine Kd.C_alloc ?_ _) | (with_reducible refine Kd.C_drewN ?_ _) | (with_reducible refine Kd.C_drew ?_))); (case side2 => exact HC0_0.out); (case side3 => repeat (first | exact (Kd.C_below HR0_1.out HB.out) | (with_reducible refine Kd.C_alloc ?_ _) | (with_reducible refine Kd.C_drewN ?_ _) | (with_reducible refine Kd.C_drew ?_))); (case side4 => exact HC0_1.out); rintro e w37 ⟨rfl, hb⟩; have n0_ := Aside0.mk (Kd.R_below HO_7.out hb); have n1_ := Aside0.mk (blk_below BK691.out hb); have n2_ := Aside0.mk (blk_below BK700.out hb); have n3_ := Aside0.mk (below_step bel_ hb); clear HO_7; clear BK691; clear BK700; clear HB; have HO_7 := n0_; have BK691 := n1_; have BK700 := n2_; have HB := n3_; clear n0_ n1_ n2_ n3_; (try clear hb); (try clear hb2); (try clear hk); (try clear hi)))
           repeat (go_quiet (fail); try go_wp2_with (first | (go_at_call 29; (with_reducible refine (inspect_Done.calls _ _ ((rd_T63 l0_0 x10_2).f1.f0) ((rd_T63 l0_0 x10_2).f1.f1) _ _ ((rd_T63 l0_0 x10_2).f1.f2) a2 true _ ?side1 ?side2 ?side3 ?side4 A29.out).mono ?_); (case side1 => exact Kd.C_below HR699_1.out bel_); (case side2 => exact HC699_1.out); (case side3 => exact Kd.C_below HR699_3.out bel_); (case side4 => exact HC699_3.out); rintro e w34 ⟨rfl, hb⟩; have n0_ := Aside0.mk (Kd.R_below (by (with_reducible repeat (first | apply Kd.R_alloc | apply Kd.R_drewN | apply Kd.R_drew)); exact (Kd.R_mono (Kd.R_far (p := ⟨gb700, 3, none⟩) (Kd.R_far (p := ⟨gb700, 2, none⟩) (Kd.R_far (p := ⟨gb700, 1, none⟩) (Kd.R_far (p := ⟨gb700, 0, none⟩) (Kd.R_types HO_7.out BK700.out (by decide)) (fun _ hk => hk.2) (.int .i64 ((rd_T63 l0_0 x10_2).f0))) (fun _ hk => hk.2) (.slice A699_1 ((rd_T63 l0_0 x10_2).f1.f0).length c699_1)) (fun _ hk => hk.2) (.int .i64 ((rd_T63 l0_0 x10_2).f1.f1))) (fun _ hk => hk.2) (.slice A699_3 ((rd_T63 l0_0 x10_2).f1.f2).length c699_3)) (fun _ h_ => h_.1))) hb); have n1_ := Aside0.mk (blk_below (g := gb691) (o := .cells #[.slice (some ad699) l0_0.length c0_0, .slice A0_1 l0_1.length c0_1] 48 (0, 0)) (by refine blk_far ?_ NB691_700.out _; refine blk_far ?_ NB691_700.out _; refine blk_far ?_ NB691_700.out _; refine blk_far ?_ NB691_700.out _; exact BK691.out) hb); have n2_ := Aside0.mk (blk_below (g := gb700) (o := .cells #[.int .i64 ((rd_T63 l0_0 x10_2).f0), .slice A699_1 ((rd_T63 l0_0 x10_2).f1.f0).length c699_1, .int .i64 ((rd_T63 l0_0 x10_2).f1.f1), .slice A699_3 ((rd_T63 l0_0 x10_2).f1.f2).length c699_3] 63 (0, 0)) (by refine blk_put (cs := #[.int .i64 ((rd_T63 l0_0 x10_2).f0), .slice A699_1 ((rd_T63 l0_0 x10_2).f1.f0).length c699_1, .int .i64 ((rd_T63 l0_0 x10_2).f1.f1), .slice none 0 0]) ?_ 3 _ rfl; refine blk_put (cs := #[.int .i64 ((rd_T63 l0_0 x10_2).f0), .slice A699_1 ((rd_T63 l0_0 x10_2).f1.f0).length c699_1, .int .i64 0, .slice none 0 0]) ?_ 2 _ rfl; refine blk_put (cs := #[.int .i64 ((rd_T63 l0_0 x10_2).f0), .slice none 0 0, .int .i64 0, .slice none 0 0]) ?_ 1 _ rfl; refine blk_put (cs := #[.int .i64 0, .slice none 0 0, .int .i64 0, .slice none 0 0]) ?_ 0 _ rfl; exact BK700.out) hb); have n3_ := Aside0.mk (below_step bel_ hb); clear HO_7; clear BK691; clear BK700; clear HB; have HO_7 := n0_; have BK691 := n1_; have BK700 := n2_; have HB := n3_; clear n0_ n1_ n2_ n3_; (try clear hb); (try clear hb2); (try clear hk); (try clear hi); have hcz35_0 : w34.cell? ⟨gb691, 0, none⟩ = some (.slice (some ad699) l0_0.length c0_0) := (blk_cell BK691.out 0).trans rfl; have hcz35_1 : w34.cell? ⟨gb691, 1, none⟩ = some (.slice A0_1 l0_1.length c0_1) := (blk_cell BK691.out 1).trans rfl; have hfz35_0 := blk_frozen BK691.out 0; have hfz35_1 := blk_frozen BK691.out 1; have hcz36_0 : w34.cell? ⟨gb700, 0, none⟩ = some (.int .i64 ((rd_T63 l0_0 x10_2).f0)) := (blk_cell BK700.out 0).trans rfl; have hcz36_1 : w34.cell? ⟨gb700, 1, none⟩ = some (.slice A699_1 ((rd_T63 l0_0 x10_2).f1.f0).length c699_1) := (blk_cell BK700.out 1).trans rfl; have hcz36_2 : w34.cell? ⟨gb700, 2, none⟩ = some (.int .i64 ((rd_T63 l0_0 x10_2).f1.f1)) := (blk_cell BK700.out 2).trans rfl; have hcz36_3 : w34.cell? ⟨gb700, 3, none⟩ = some (.slice A699_3 ((rd_T63 l0_0 x10_2).f1.f2).length c699_3) := (blk_cell BK700.out 3).trans rfl; have hfz36_0 := blk_frozen BK700.out 0; have hfz36_1 := blk_frozen BK700.out 1; have hfz36_2 := blk_frozen BK700.out 2; have hfz36_3 := blk_frozen BK700.out 3) | (go_at_call 51; (with_reducible refine (skiarealaw53_hazards.calls k2 _ _ l0_0 _ _ l0_1 ((rd_T63 l0_0 x10_2).f0) t702 _ ?side1 ?side2 ?side3 ?side4 A31.out).mono ?_); (case side1 => repeat (first | exact (Kd.C_below HR0_0.out HB.out) | (with_reducible refine Kd.C_alloc ?_ _) | (with_reducible refine Kd.C_drewN ?_ _) | (with_reducible refine Kd.C_drew ?_))); (case side2 => exact HC0_0.out); (case side3 => repeat (first | exact (Kd.C_below HR0_1.out HB.out) | (with_reducible refine Kd.C_alloc ?_ _) | (with_reducible refine Kd.C_drewN ?_ _) | (with_reducible refine Kd.C_drew ?_))); (case side4 => exact HC0_1.out); rintro e w37 ⟨rfl, hb⟩; have n0_ := Aside0.mk (Kd.R_below HO_7.out hb); have n1_ := Aside0.mk (blk_below BK691.out hb); have n2_ := Aside0.mk (blk_below BK700.out hb); have n3_ := Aside0.mk (below_step bel_ hb); clear HO_7; clear BK691; clear BK700; clear HB; have HO_7 := n0_; have BK691 := n1_; have BK700 := n2_; have HB := n3_; clear n0_ n1_ n2_ n3_; (try clear hb); (try clear hb2); (try clear hk); (try clear hi))))
           go_meet
           case rel => exact ⟨_, ((t702 == 0)), (by first | rfl | (simp; done) | (simp [*]; done)), H', ⟨by have := HJ5.out; have := HK2.out; first | omega | exact Nat.le_refl _⟩, ⟨by (with_reducible repeat (first | apply Kd.R_alloc | apply Kd.R_drewN | apply Kd.R_drew)); exact HO_7.out⟩, ⟨by exact BK691.out⟩, ⟨by exact BK700.out⟩, ⟨by repeat (first | (with_reducible first | exact HB.out | apply below_alloc | apply pw_below_drewN | apply below_drew1 | refine below_set ?_ GE691.out | refine below_set ?_ GE700.out) | exact HB.out)⟩⟩
          ·replace c30 := Bool.eq_false_iff.mpr c30
           subst c30
           have H1 : (skiarealaw53_PatrolReady.j2 k2 a1 a2 t695 x8_2 x9_2 x10_2 false l0_0 l0_1 ((rd_T63 l0_0 x10_2).f0) ((rd_T63 l0_0 x10_2).f1.f0) ((rd_T63 l0_0 x10_2).f1.f1) ((rd_T63 l0_0 x10_2).f1.f2)) = some true := by rw [if_neg (show ¬ (false = true) by decide)] at H; exact H
           clear H
           have H := H1
           clear H1
           have H' := Aside0.mk H
           clear H
           have hnb38 := NB700_691.out
           have hnc38 := NB691_700.out
           have hcz39_0 : w26.cell? ⟨gb700, 0, none⟩ = some (.int .i64 0) := (blk_cell BK700.out 0).trans rfl
           have hcz39_1 : w26.cell? ⟨gb700, 1, none⟩ = some (.slice none 0 0) := (blk_cell BK700.out 1).trans rfl
           have hcz39_2 : w26.cell? ⟨gb700, 2, none⟩ = some (.int .i64 0) := (blk_cell BK700.out 2).trans rfl
           have hcz39_3 : w26.cell? ⟨gb700, 3, none⟩ = some (.slice none 0 0) := (blk_cell BK700.out 3).trans rfl
           have hfz39_0 := blk_frozen BK700.out 0
           have hfz39_1 := blk_frozen BK700.out 1
           have hfz39_2 := blk_frozen BK700.out 2
           have hfz39_3 := blk_frozen BK700.out 3
           go_wp2_with (first | (go_at_call 29; (with_reducible refine (inspect_Done.calls _ _ ((rd_T63 l0_0 x10_2).f1.f0) ((rd_T63 l0_0 x10_2).f1.f1) _ _ ((rd_T63 l0_0 x10_2).f1.f2) a2 false _ ?side1 ?side2 ?side3 ?side4 A29.out).mono ?_); (case side1 => exact Kd.C_below HR699_1.out bel_); (case side2 => exact HC699_1.out); (case side3 => exact Kd.C_below HR699_3.out bel_); (case side4 => exact HC699_3.out); rintro e w40 ⟨rfl, hb⟩; have n0_ := Aside0.mk (Kd.R_below (by (with_reducible repeat (first | apply Kd.R_alloc | apply Kd.R_drewN | apply Kd.R_drew)); exact (Kd.R_mono (Kd.R_far (p := ⟨gb700, 3, none⟩) (Kd.R_far (p := ⟨gb700, 2, none⟩) (Kd.R_far (p := ⟨gb700, 1, none⟩) (Kd.R_far (p := ⟨gb700, 0, none⟩) (Kd.R_types HO_7.out BK700.out (by decide)) (fun _ hk => hk.2) (.int .i64 ((rd_T63 l0_0 x10_2).f0))) (fun _ hk => hk.2) (.slice A699_1 ((rd_T63 l0_0 x10_2).f1.f0).length c699_1)) (fun _ hk => hk.2) (.int .i64 ((rd_T63 l0_0 x10_2).f1.f1))) (fun _ hk => hk.2) (.slice A699_3 ((rd_T63 l0_0 x10_2).f1.f2).length c699_3)) (fun _ h_ => h_.1))) hb); have n1_ := Aside0.mk (blk_below (g := gb691) (o := .cells #[.slice (some ad699) l0_0.length c0_0, .slice A0_1 l0_1.length c0_1] 48 (0, 0)) (by refine blk_far ?_ NB691_700.out _; refine blk_far ?_ NB691_700.out _; refine blk_far ?_ NB691_700.out _; refine blk_far ?_ NB691_700.out _; exact BK691.out) hb); have n2_ := Aside0.mk (blk_below (g := gb700) (o := .cells #[.int .i64 ((rd_T63 l0_0 x10_2).f0), .slice A699_1 ((rd_T63 l0_0 x10_2).f1.f0).length c699_1, .int .i64 ((rd_T63 l0_0 x10_2).f1.f1), .slice A699_3 ((rd_T63 l0_0 x10_2).f1.f2).length c699_3] 63 (0, 0)) (by refine blk_put (cs := #[.int .i64 ((rd_T63 l0_0 x10_2).f0), .slice A699_1 ((rd_T63 l0_0 x10_2).f1.f0).length c699_1, .int .i64 ((rd_T63 l0_0 x10_2).f1.f1), .slice none 0 0]) ?_ 3 _ rfl; refine blk_put (cs := #[.int .i64 ((rd_T63 l0_0 x10_2).f0), .slice A699_1 ((rd_T63 l0_0 x10_2).f1.f0).length c699_1, .int .i64 0, .slice none 0 0]) ?_ 2 _ rfl; refine blk_put (cs := #[.int .i64 ((rd_T63 l0_0 x10_2).f0), .slice none 0 0, .int .i64 0, .slice none 0 0]) ?_ 1 _ rfl; refine blk_put (cs := #[.int .i64 0, .slice none 0 0, .int .i64 0, .slice none 0 0]) ?_ 0 _ rfl; exact BK700.out) hb); have n3_ := Aside0.mk (below_step bel_ hb); clear HO_7; clear BK691; clear BK700; clear HB; have HO_7 := n0_; have BK691 := n1_; have BK700 := n2_; have HB := n3_; clear n0_ n1_ n2_ n3_; (try clear hb); (try clear hb2); (try clear hk); (try clear hi)))
           repeat (go_quiet (fail); try go_wp2_with (first | (go_at_call 29; (with_reducible refine (inspect_Done.calls _ _ ((rd_T63 l0_0 x10_2).f1.f0) ((rd_T63 l0_0 x10_2).f1.f1) _ _ ((rd_T63 l0_0 x10_2).f1.f2) a2 false _ ?side1 ?side2 ?side3 ?side4 A29.out).mono ?_); (case side1 => exact Kd.C_below HR699_1.out bel_); (case side2 => exact HC699_1.out); (case side3 => exact Kd.C_below HR699_3.out bel_); (case side4 => exact HC699_3.out); rintro e w40 ⟨rfl, hb⟩; have n0_ := Aside0.mk (Kd.R_below (by (with_reducible repeat (first | apply Kd.R_alloc | apply Kd.R_drewN | apply Kd.R_drew)); exact (Kd.R_mono (Kd.R_far (p := ⟨gb700, 3, none⟩) (Kd.R_far (p := ⟨gb700, 2, none⟩) (Kd.R_far (p := ⟨gb700, 1, none⟩) (Kd.R_far (p := ⟨gb700, 0, none⟩) (Kd.R_types HO_7.out BK700.out (by decide)) (fun _ hk => hk.2) (.int .i64 ((rd_T63 l0_0 x10_2).f0))) (fun _ hk => hk.2) (.slice A699_1 ((rd_T63 l0_0 x10_2).f1.f0).length c699_1)) (fun _ hk => hk.2) (.int .i64 ((rd_T63 l0_0 x10_2).f1.f1))) (fun _ hk => hk.2) (.slice A699_3 ((rd_T63 l0_0 x10_2).f1.f2).length c699_3)) (fun _ h_ => h_.1))) hb); have n1_ := Aside0.mk (blk_below (g := gb691) (o := .cells #[.slice (some ad699) l0_0.length c0_0, .slice A0_1 l0_1.length c0_1] 48 (0, 0)) (by refine blk_far ?_ NB691_700.out _; refine blk_far ?_ NB691_700.out _; refine blk_far ?_ NB691_700.out _; refine blk_far ?_ NB691_700.out _; exact BK691.out) hb); have n2_ := Aside0.mk (blk_below (g := gb700) (o := .cells #[.int .i64 ((rd_T63 l0_0 x10_2).f0), .slice A699_1 ((rd_T63 l0_0 x10_2).f1.f0).length c699_1, .int .i64 ((rd_T63 l0_0 x10_2).f1.f1), .slice A699_3 ((rd_T63 l0_0 x10_2).f1.f2).length c699_3] 63 (0, 0)) (by refine blk_put (cs := #[.int .i64 ((rd_T63 l0_0 x10_2).f0), .slice A699_1 ((rd_T63 l0_0 x10_2).f1.f0).length c699_1, .int .i64 ((rd_T63 l0_0 x10_2).f1.f1), .slice none 0 0]) ?_ 3 _ rfl; refine blk_put (cs := #[.int .i64 ((rd_T63 l0_0 x10_2).f0), .slice A699_1 ((rd_T63 l0_0 x10_2).f1.f0).length c699_1, .int .i64 0, .slice none 0 0]) ?_ 2 _ rfl; refine blk_put (cs := #[.int .i64 ((rd_T63 l0_0 x10_2).f0), .slice none 0 0, .int .i64 0, .slice none 0 0]) ?_ 1 _ rfl; refine blk_put (cs := #[.int .i64 0, .slice none 0 0, .int .i64 0, .slice none 0 0]) ?_ 0 _ rfl; exact BK700.out) hb); have n3_ := Aside0.mk (below_step bel_ hb); clear HO_7; clear BK691; clear BK700; clear HB; have HO_7 := n0_; have BK691 := n1_; have BK700 := n2_; have HB := n3_; clear n0_ n1_ n2_ n3_; (try clear hb); (try clear hb2); (try clear hk); (try clear hi))))
           go_meet
           case rel => exact ⟨_, (false), (by first | rfl | (simp; done) | (simp [*]; done)), H', ⟨by have := HJ5.out; have := HK2.out; first | omega | exact Nat.le_refl _⟩, ⟨by (with_reducible repeat (first | apply Kd.R_alloc | apply Kd.R_drewN | apply Kd.R_drew)); exact HO_7.out⟩, ⟨by exact BK691.out⟩, ⟨by exact BK700.out⟩, ⟨by repeat (first | (with_reducible first | exact HB.out | apply below_alloc | apply pw_below_drewN | apply below_drew1 | refine below_set ?_ GE691.out | refine below_set ?_ GE700.out) | exact HB.out)⟩⟩
         case rest =>
          clear HC24
          try clear c1
          try clear c2
          try clear p2
          try clear c3
          try clear c5
          try clear c6
          try clear p6
          try clear q6
          try clear hx6
          try clear c10
          try clear c15
          try clear c18
          try clear c22
          try clear c22b0
          try clear c23
          try clear c23b0
          try clear c27
          try clear c30
          try clear c32
          try clear c38
          try clear hcz12_0
          try clear hcz12_1
          try clear hcz14_0
          try clear hcz14_1
          try clear hcz16_0
          try clear hcz16_1
          try clear hcz20_0
          try clear hcz20_1
          try clear hcz25_0
          try clear hcz25_1
          try clear hcz28_0
          try clear hcz28_1
          try clear hcz28_2
          try clear hcz28_3
          try clear hcz33_0
          try clear hcz33_1
          try clear hcz33_2
          try clear hcz33_3
          try clear hcz35_0
          try clear hcz35_1
          try clear hcz36_0
          try clear hcz36_1
          try clear hcz36_2
          try clear hcz36_3
          try clear hcz39_0
          try clear hcz39_1
          try clear hcz39_2
          try clear hcz39_3
          try clear hfz12_0
          try clear hfz12_1
          try clear hfz14_0
          try clear hfz14_1
          try clear hfz16_0
          try clear hfz16_1
          try clear hfz20_0
          try clear hfz20_1
          try clear hfz25_0
          try clear hfz25_1
          try clear hfz28_0
          try clear hfz28_1
          try clear hfz28_2
          try clear hfz28_3
          try clear hfz33_0
          try clear hfz33_1
          try clear hfz33_2
          try clear hfz33_3
          try clear hfz35_0
          try clear hfz35_1
          try clear hfz36_0
          try clear hfz36_1
          try clear hfz36_2
          try clear hfz36_3
          try clear hfz39_0
          try clear hfz39_1
          try clear hfz39_2
          try clear hfz39_3
          try clear hx699_0
          try clear hx699_1
          try clear hx699_2
          try clear hx699_3
          try clear p2
          try clear p699
          try clear q699
          obtain ⟨kq, x12_23, rfl, HA, HJ23, HO_7, BK691, BK700, HB⟩ := hcut
          cases kq with
          | zero => exact absurd HA.out (by simp [skiarealaw53_PatrolReady.j2])
          | succ kj23 =>
           have H := HA.out
           clear HA
           simp only [skiarealaw53_PatrolReady.j2] at H
           have HC41 := Aside0.mk H
           clear H
           go_upto_region 13 with (fail)
           repeat (go_quiet (fail); go_upto_region 13 with (fail))
           go_cut [9] (fun v9 wc => ∃ (kq : Nat) (x9_40 : Bool), v9 = .bool x9_40 ∧ Aside0 (skiarealaw53_PatrolReady.j3 kq a1 a2 t695 x8_2 x9_40 x10_2 x12_23 l0_0 l0_1 ((rd_T63 l0_0 x10_2).f0) ((rd_T63 l0_0 x10_2).f1.f0) ((rd_T63 l0_0 x10_2).f1.f1) ((rd_T63 l0_0 x10_2).f1.f2) = some true) ∧ Aside0 (kq ≤ kj23) ∧ Aside0 (Kd.R (Kd.int .i64) 3 wc w.heap.size (fun _ => True) v696 t695) ∧ Aside0 (wc.heap[gb691]? = some (.cells #[(.slice (some ad699) l0_0.length c0_0), (.slice A0_1 l0_1.length c0_1)] 48 (0, 0))) ∧ Aside0 (wc.heap[gb700]? = some (.cells #[.int .i64 ((rd_T63 l0_0 x10_2).f0), (.slice A699_1 ((rd_T63 l0_0 x10_2).f1.f0).length c699_1), .int .i64 ((rd_T63 l0_0 x10_2).f1.f1), (.slice A699_3 ((rd_T63 l0_0 x10_2).f1.f2).length c699_3)] 63 (0, 0))) ∧ Aside0 (Below w.heap.size w wc))
           case first =>
            have H := HC41.out
            clear HC41
            by_cases c42 : x9_2 = true
            ·subst c42
             have H1 : (skiarealaw53_PatrolReady.j3 kj23 a1 a2 t695 x8_2 true x10_2 x12_23 l0_0 l0_1 ((rd_T63 l0_0 x10_2).f0) ((rd_T63 l0_0 x10_2).f1.f0) ((rd_T63 l0_0 x10_2).f1.f1) ((rd_T63 l0_0 x10_2).f1.f2)) = some true := by rw [if_pos rfl] at H; exact H
             clear H
             have H := H1
             clear H1
             have H' := Aside0.mk H
             clear H
             go_wp2
             repeat (go_quiet (fail); try go_wp2)
             go_meet
             case rel => exact ⟨_, (true), (by first | rfl | (simp; done) | (simp [*]; done)), H', ⟨by have := HJ5.out; have := HK2.out; have := HJ23.out; first | omega | exact Nat.le_refl _⟩, ⟨by (with_reducible repeat (first | apply Kd.R_alloc | apply Kd.R_drewN | apply Kd.R_drew)); exact HO_7.out⟩, ⟨by exact BK691.out⟩, ⟨by exact BK700.out⟩, ⟨by repeat (first | (with_reducible first | exact HB.out | apply below_alloc | apply pw_below_drewN | apply below_drew1 | refine below_set ?_ GE691.out | refine below_set ?_ GE700.out) | exact HB.out)⟩⟩
            ·replace c42 := Bool.eq_false_iff.mpr c42
             subst c42
             have H1 : (skiarealaw53_PatrolReady.j3 kj23 a1 a2 t695 x8_2 (((rd_T63 l0_0 x10_2).f0) == a1) x10_2 x12_23 l0_0 l0_1 ((rd_T63 l0_0 x10_2).f0) ((rd_T63 l0_0 x10_2).f1.f0) ((rd_T63 l0_0 x10_2).f1.f1) ((rd_T63 l0_0 x10_2).f1.f2)) = some true := by rw [if_neg (show ¬ (false = true) by decide)] at H; exact H
             clear H
             have H := H1
             clear H1
             have H' := Aside0.mk H
             clear H
             have hnb43 := NB700_691.out
             have hnc43 := NB691_700.out
             have hcz44_0 : wc.cell? ⟨gb700, 0, none⟩ = some (.int .i64 ((rd_T63 l0_0 x10_2).f0)) := (blk_cell BK700.out 0).trans rfl
             have hcz44_1 : wc.cell? ⟨gb700, 1, none⟩ = some (.slice A699_1 ((rd_T63 l0_0 x10_2).f1.f0).length c699_1) := (blk_cell BK700.out 1).trans rfl
             have hcz44_2 : wc.cell? ⟨gb700, 2, none⟩ = some (.int .i64 ((rd_T63 l0_0 x10_2).f1.f1)) := (blk_cell BK700.out 2).trans rfl
             have hcz44_3 : wc.cell? ⟨gb700, 3, none⟩ = some (.slice A699_3 ((rd_T63 l0_0 x10_2).f1.f2).length c699_3) := (blk_cell BK700.out 3).trans rfl
             have hfz44_0 := blk_frozen BK700.out 0
             have hfz44_1 := blk_frozen BK700.out 1
             have hfz44_2 := blk_frozen BK700.out 2
             have hfz44_3 := blk_frozen BK700.out 3
             go_wp2
             repeat (go_quiet (fail); try go_wp2)
             go_meet
             case rel => exact ⟨_, ((((rd_T63 l0_0 x10_2).f0) == a1)), (by first | rfl | (simp; done) | (simp [*]; done)), H', ⟨by have := HJ5.out; have := HK2.out; have := HJ23.out; first | omega | exact Nat.le_refl _⟩, ⟨by (with_reducible repeat (first | apply Kd.R_alloc | apply Kd.R_drewN | apply Kd.R_drew)); exact HO_7.out⟩, ⟨by exact BK691.out⟩, ⟨by exact BK700.out⟩, ⟨by repeat (first | (with_reducible first | exact HB.out | apply below_alloc | apply pw_below_drewN | apply below_drew1 | refine below_set ?_ GE691.out | refine below_set ?_ GE700.out) | exact HB.out)⟩⟩
           case rest =>
            clear HC41
            try clear c1
            try clear c2
            try clear p2
            try clear c3
            try clear c4
            try clear c5
            try clear c6
            try clear p6
            try clear q6
            try clear hx6
            try clear c10
            try clear c15
            try clear c18
            try clear c22
            try clear c22b0
            try clear c23
            try clear c23b0
            try clear c27
            try clear c30
            try clear c32
            try clear c38
            try clear c42
            try clear c43
            try clear hcz12_0
            try clear hcz12_1
            try clear hcz14_0
            try clear hcz14_1
            try clear hcz16_0
            try clear hcz16_1
            try clear hcz20_0
            try clear hcz20_1
            try clear hcz25_0
            try clear hcz25_1
            try clear hcz28_0
            try clear hcz28_1
            try clear hcz28_2
            try clear hcz28_3
            try clear hcz33_0
            try clear hcz33_1
            try clear hcz33_2
            try clear hcz33_3
            try clear hcz35_0
            try clear hcz35_1
            try clear hcz36_0
            try clear hcz36_1
            try clear hcz36_2
            try clear hcz36_3
            try clear hcz39_0
            try clear hcz39_1
            try clear hcz39_2
            try clear hcz39_3
            try clear hcz44_0
            try clear hcz44_1
            try clear hcz44_2
            try clear hcz44_3
            try clear hfz12_0
            try clear hfz12_1
            try clear hfz14_0
            try clear hfz14_1
            try clear hfz16_0
            try clear hfz16_1
            try clear hfz20_0
            try clear hfz20_1
            try clear hfz25_0
            try clear hfz25_1
            try clear hfz28_0
            try clear hfz28_1
            try clear hfz28_2
            try clear hfz28_3
            try clear hfz33_0
            try clear hfz33_1
            try clear hfz33_2
            try clear hfz33_3
            try clear hfz35_0
            try clear hfz35_1
            try clear hfz36_0
            try clear hfz36_1
            try clear hfz36_2
            try clear hfz36_3
            try clear hfz39_0
            try clear hfz39_1
            try clear hfz39_2
            try clear hfz39_3
            try clear hfz44_0
            try clear hfz44_1
            try clear hfz44_2
            try clear hfz44_3
            try clear hx699_0
            try clear hx699_1
            try clear hx699_2
            try clear hx699_3
            try clear p2
            try clear p6
            try clear p699
            try clear q6
            try clear q699
            obtain ⟨kq, x9_40, rfl, HA, HJ40, HO_7, BK691, BK700, HB⟩ := hcut
            cases kq with
            | zero => exact absurd HA.out (by simp [skiarealaw53_PatrolReady.j3])
            | succ kj40 =>
             have H := HA.out
             clear HA
             simp only [skiarealaw53_PatrolReady.j3] at H
             replace H := Option.bind_eq_some_iff.mp H
             obtain ⟨t703, A450, H⟩ := H
             replace H : (if (t703 != x12_23) = true then (some false) else (if x12_23 = true then (skiarealaw53_PatrolReady.l0 kj40 a1 a2 t695 x8_2 x9_40 (wrap64 (x10_2 + 1)) l0_0 l0_1) else (if x8_2 ≥ (t695.length : Int) then (some false) else (if 0 ≤ x8_2 then (if x8_2 < (t695.length : Int) then (if (rd t695 x8_2) = ((rd_T63 l0_0 x10_2).f0) then (skiarealaw53_PatrolReady.l0 kj40 a1 a2 t695 (wrap64 (x8_2 + 1)) x9_40 (wrap64 (x10_2 + 1)) l0_0 l0_1) else (some false)) else (none)) else (none))))) = some true := H
             have A45 := Aside0.mk A450
             clear A450
             by_cases c46 : (t703 != x12_23) = true
             ·rw [if_pos c46] at H
              have c46b0 : (t703 != x12_23) = true := c46
              (try (have c46b1 : decide (t703 = x12_23) = false := by simpa using c46))
              (try (have c46b2 : (t703 == x12_23) = false := by simpa using c46))
              (try (have c46b3 : ¬ (t703 = x12_23) := by simpa using c46))
              clear c46
              exact absurd H (by simp)
             ·rw [if_neg c46] at H
              have c46b0 : (t703 != x12_23) = false := by simpa using c46
              (try (have c46b1 : decide (t703 = x12_23) = true := by simpa using c46))
              (try (have c46b2 : (t703 == x12_23) = true := by simpa using c46))
              clear c46
              by_cases c47 : x12_23 = true
              ·subst c47
               have H1 : (skiarealaw53_PatrolReady.l0 kj40 a1 a2 t695 x8_2 x9_40 (wrap64 (x10_2 + 1)) l0_0 l0_1) = some true := by rw [if_pos rfl] at H; exact H
               clear H
               have H := H1
               clear H1
               have H' := Aside0.mk H
               clear H
               have hnb48 := NB691_700.out
               have hnc48 := NB700_691.out
               have hcz49_0 : wc.cell? ⟨gb691, 0, none⟩ = some (.slice (some ad699) l0_0.length c0_0) := (blk_cell BK691.out 0).trans rfl
               have hcz49_1 : wc.cell? ⟨gb691, 1, none⟩ = some (.slice A0_1 l0_1.length c0_1) := (blk_cell BK691.out 1).trans rfl
               have hfz49_0 := blk_frozen BK691.out 0
               have hfz49_1 := blk_frozen BK691.out 1
               have hcz50_0 : wc.cell? ⟨gb700, 0, none⟩ = some (.int .i64 ((rd_T63 l0_0 x10_2).f0)) := (blk_cell BK700.out 0).trans rfl
               have hcz50_1 : wc.cell? ⟨gb700, 1, none⟩ = some (.slice A699_1 ((rd_T63 l0_0 x10_2).f1.f0).length c699_1) := (blk_cell BK700.out 1).trans rfl
               have hcz50_2 : wc.cell? ⟨gb700, 2, none⟩ = some (.int .i64 ((rd_T63 l0_0 x10_2).f1.f1)) := (blk_cell BK700.out 2).trans rfl
               have hcz50_3 : wc.cell? ⟨gb700, 3, none⟩ = some (.slice A699_3 ((rd_T63 l0_0 x10_2).f1.f2).length c699_3) := (blk_cell BK700.out 3).trans rfl
               have hfz50_0 := blk_frozen BK700.out 0
               have hfz50_1 := blk_frozen BK700.out 1
               have hfz50_2 := blk_frozen BK700.out 2
               have hfz50_3 := blk_frozen BK700.out 3
               go_wp2_with (first | (go_at_call 46; (with_reducible refine (patrol_Ready.calls _ _ l0_0 _ _ l0_1 ((rd_T63 l0_0 x10_2).f0) a2 t703 _ ?side1 ?side2 ?side3 ?side4 A45.out).mono ?_); (case side1 => repeat (first | exact (Kd.C_below HR0_0.out HB.out) | (with_reducible refine Kd.C_alloc ?_ _) | (with_reducible refine Kd.C_drewN ?_ _) | (with_reducible refine Kd.C_drew ?_))); (case side2 => exact HC0_0.out); (case side3 => repeat (first | exact (Kd.C_below HR0_1.out HB.out) | (with_reducible refine Kd.C_alloc ?_ _) | (with_reducible refine Kd.C_drewN ?_ _) | (with_reducible refine Kd.C_drew ?_))); (case side4 => exact HC0_1.out); rintro e w51 ⟨rfl, hb⟩; have n0_ := Aside0.mk (Kd.R_below HO_7.out hb); have n1_ := Aside0.mk (blk_below BK691.out hb); have n2_ := Aside0.mk (blk_below BK700.out hb); have n3_ := Aside0.mk (below_step bel_ hb); clear HO_7; clear BK691; clear BK700; clear HB; have HO_7 := n0_; have BK691 := n1_; have BK700 := n2_; have HB := n3_; clear n0_ n1_ n2_ n3_; (try clear hb); (try clear hb2); (try clear hk); (try clear hi)))
               repeat (go_quiet (fail); try go_wp2_with (first | (go_at_call 46; (with_reducible refine (patrol_Ready.calls _ _ l0_0 _ _ l0_1 ((rd_T63 l0_0 x10_2).f0) a2 t703 _ ?side1 ?side2 ?side3 ?side4 A45.out).mono ?_); (case side1 => repeat (first | exact (Kd.C_below HR0_0.out HB.out) | (with_reducible refine Kd.C_alloc ?_ _) | (with_reducible refine Kd.C_drewN ?_ _) | (with_reducible refine Kd.C_drew ?_))); (case side2 => exact HC0_0.out); (case side3 => repeat (first | exact (Kd.C_below HR0_1.out HB.out) | (with_reducible refine Kd.C_alloc ?_ _) | (with_reducible refine Kd.C_drewN ?_ _) | (with_reducible refine Kd.C_drew ?_))); (case side4 => exact HC0_1.out); rintro e w51 ⟨rfl, hb⟩; have n0_ := Aside0.mk (Kd.R_below HO_7.out hb); have n1_ := Aside0.mk (blk_below BK691.out hb); have n2_ := Aside0.mk (blk_below BK700.out hb); have n3_ := Aside0.mk (below_step bel_ hb); clear HO_7; clear BK691; clear BK700; clear HB; have HO_7 := n0_; have BK691 := n1_; have BK700 := n2_; have HB := n3_; clear n0_ n1_ n2_ n3_; (try clear hb); (try clear hb2); (try clear hk); (try clear hi))))
               go_roundg kj40
               case measure => have := HJ5.out; have := HK2.out; have := HJ23.out; have := HJ40.out; omega
               case rel => exact ⟨(x8_2), (x9_40), (wrap64 (x10_2 + 1)), (by first | rfl | (simp; done) | (simp [*]; done)), (by first | rfl | (simp; done) | (simp [*]; done)), (by first | rfl | (simp; done) | (simp [*]; done)), H', ⟨by have := HJ5.out; have := HK2.out; have := HJ23.out; have := HJ40.out; omega⟩, ⟨by (with_reducible repeat (first | apply Kd.R_alloc | apply Kd.R_drewN | apply Kd.R_drew)); exact HO_7.out⟩, ⟨by exact BK691.out⟩, ⟨by repeat (first | (with_reducible first | exact HB.out | apply below_alloc | apply pw_below_drewN | apply below_drew1 | refine below_set ?_ GE691.out | refine below_set ?_ GE700.out) | exact HB.out)⟩⟩
              ·replace c47 := Bool.eq_false_iff.mpr c47
               subst c47
               have H1 : (if x8_2 ≥ (t695.length : Int) then (some false) else (if 0 ≤ x8_2 then (if x8_2 < (t695.length : Int) then (if (rd t695 x8_2) = ((rd_T63 l0_0 x10_2).f0) then (skiarealaw53_PatrolReady.l0 kj40 a1 a2 t695 (wrap64 (x8_2 + 1)) x9_40 (wrap64 (x10_2 + 1)) l0_0 l0_1) else (some false)) else (none)) else (none))) = some true := by rw [if_neg (show ¬ (false = true) by decide)] at H; exact H
               clear H
               have H := H1
               clear H1
               by_cases c52 : x8_2 ≥ (t695.length : Int)
               ·rw [if_pos c52] at H
                have c52b0 : decide ((t695.length : Int) ≤ x8_2) = true := decide_eq_true c52
                clear c52
                exact absurd H (by simp)
               ·rw [if_neg c52] at H
                have c52b0 : decide ((t695.length : Int) ≤ x8_2) = false := decide_eq_false c52
                clear c52
                by_cases c53 : 0 ≤ x8_2
                ·rw [if_pos c53] at H
                 have c53b0 : decide (0 ≤ x8_2) = true := decide_eq_true c53
                 clear c53
                 by_cases c54 : x8_2 < (t695.length : Int)
                 ·rw [if_pos c54] at H
                  have c54b0 : decide (x8_2 < (t695.length : Int)) = true := decide_eq_true c54
                  clear c54
                  by_cases c55 : (rd t695 x8_2) = ((rd_T63 l0_0 x10_2).f0)
                  ·rw [if_pos c55] at H
                   have c55b0 : ((rd t695 x8_2) == ((rd_T63 l0_0 x10_2).f0)) = true := beq_iff_eq.mpr c55
                   have c55b1 : ((rd t695 x8_2) != ((rd_T63 l0_0 x10_2).f0)) = false := bne_eq_false_iff_eq.mpr c55
                   clear c55
                   have H' := Aside0.mk H
                   clear H
                   have hnb56 := NB691_700.out
                   have hnc56 := NB700_691.out
                   have hcz57_0 : wc.cell? ⟨gb691, 0, none⟩ = some (.slice (some ad699) l0_0.length c0_0) := (blk_cell BK691.out 0).trans rfl
                   have hcz57_1 : wc.cell? ⟨gb691, 1, none⟩ = some (.slice A0_1 l0_1.length c0_1) := (blk_cell BK691.out 1).trans rfl
                   have hfz57_0 := blk_frozen BK691.out 0
                   have hfz57_1 := blk_frozen BK691.out 1
                   have hcz58_0 : wc.cell? ⟨gb700, 0, none⟩ = some (.int .i64 ((rd_T63 l0_0 x10_2).f0)) := (blk_cell BK700.out 0).trans rfl
                   have hcz58_1 : wc.cell? ⟨gb700, 1, none⟩ = some (.slice A699_1 ((rd_T63 l0_0 x10_2).f1.f0).length c699_1) := (blk_cell BK700.out 1).trans rfl
                   have hcz58_2 : wc.cell? ⟨gb700, 2, none⟩ = some (.int .i64 ((rd_T63 l0_0 x10_2).f1.f1)) := (blk_cell BK700.out 2).trans rfl
                   have hcz58_3 : wc.cell? ⟨gb700, 3, none⟩ = some (.slice A699_3 ((rd_T63 l0_0 x10_2).f1.f2).length c699_3) := (blk_cell BK700.out 3).trans rfl
                   have hfz58_0 := blk_frozen BK700.out 0
                   have hfz58_1 := blk_frozen BK700.out 1
                   have hfz58_2 := blk_frozen BK700.out 2
                   have hfz58_3 := blk_frozen BK700.out 3
                   go_wp2_with (first | (go_at_call 46; (with_reducible refine (patrol_Ready.calls _ _ l0_0 _ _ l0_1 ((rd_T63 l0_0 x10_2).f0) a2 t703 _ ?side1 ?side2 ?side3 ?side4 A45.out).mono ?_); (case side1 => repeat (first | exact (Kd.C_below HR0_0.out HB.out) | (with_reducible refine Kd.C_alloc ?_ _) | (with_reducible refine Kd.C_drewN ?_ _) | (with_reducible refine Kd.C_drew ?_))); (case side2 => exact HC0_0.out); (case side3 => repeat (first | exact (Kd.C_below HR0_1.out HB.out) | (with_reducible refine Kd.C_alloc ?_ _) | (with_reducible refine Kd.C_drewN ?_ _) | (with_reducible refine Kd.C_drew ?_))); (case side4 => exact HC0_1.out); rintro e w59 ⟨rfl, hb⟩; have n0_ := Aside0.mk (Kd.R_below HO_7.out hb); have n1_ := Aside0.mk (blk_below BK691.out hb); have n2_ := Aside0.mk (blk_below BK700.out hb); have n3_ := Aside0.mk (below_step bel_ hb); clear HO_7; clear BK691; clear BK700; clear HB; have HO_7 := n0_; have BK691 := n1_; have BK700 := n2_; have HB := n3_; clear n0_ n1_ n2_ n3_; (try clear hb); (try clear hb2); (try clear hk); (try clear hi); obtain ⟨Ao60, co60, eo60⟩ := Kd.R_slice HO_7.out; subst eo60; have p704 : 0 ≤ (x8_2 : Int) := of_decide_eq_true (by first | (with_reducible assumption) | assumption); have q704 : x8_2 < (t695.length : Int) := of_decide_eq_true (by first | (with_reducible assumption) | assumption); obtain ⟨ad704, e704, hx704_0⟩ := Kd.at_int (Kd.R_reads' HO_7.out).2.2 x8_2 p704 q704; cases e704; replace p704 := eq_true p704; replace q704 := eq_true q704; have hcz61_0 : w59.cell? ⟨gb700, 0, none⟩ = some (.int .i64 ((rd_T63 l0_0 x10_2).f0)) := (blk_cell BK700.out 0).trans rfl; have hcz61_1 : w59.cell? ⟨gb700, 1, none⟩ = some (.slice A699_1 ((rd_T63 l0_0 x10_2).f1.f0).length c699_1) := (blk_cell BK700.out 1).trans rfl; have hcz61_2 : w59.cell? ⟨gb700, 2, none⟩ = some (.int .i64 ((rd_T63 l0_0 x10_2).f1.f1)) := (blk_cell BK700.out 2).trans rfl; have hcz61_3 : w59.cell? ⟨gb700, 3, none⟩ = some (.slice A699_3 ((rd_T63 l0_0 x10_2).f1.f2).length c699_3) := (blk_cell BK700.out 3).trans rfl; have hfz61_0 := blk_frozen BK700.out 0; have hfz61_1 := blk_frozen BK700.out 1; have hfz61_2 := blk_frozen BK700.out 2; have hfz61_3 := blk_frozen BK700.out 3))
                   repeat (go_quiet (fail); try go_wp2_with (first | (go_at_call 46; (with_reducible refine (patrol_Ready.calls _ _ l0_0 _ _ l0_1 ((rd_T63 l0_0 x10_2).f0) a2 t703 _ ?side1 ?side2 ?side3 ?side4 A45.out).mono ?_); (case side1 => repeat (first | exact (Kd.C_below HR0_0.out HB.out) | (with_reducible refine Kd.C_alloc ?_ _) | (with_reducible refine Kd.C_drewN ?_ _) | (with_reducible refine Kd.C_drew ?_))); (case side2 => exact HC0_0.out); (case side3 => repeat (first | exact (Kd.C_below HR0_1.out HB.out) | (with_reducible refine Kd.C_alloc ?_ _) | (with_reducible refine Kd.C_drewN ?_ _) | (with_reducible refine Kd.C_drew ?_))); (case side4 => exact HC0_1.out); rintro e w59 ⟨rfl, hb⟩; have n0_ := Aside0.mk (Kd.R_below HO_7.out hb); have n1_ := Aside0.mk (blk_below BK691.out hb); have n2_ := Aside0.mk (blk_below BK700.out hb); have n3_ := Aside0.mk (below_step bel_ hb); clear HO_7; clear BK691; clear BK700; clear HB; have HO_7 := n0_; have BK691 := n1_; have BK700 := n2_; have HB := n3_; clear n0_ n1_ n2_ n3_; (try clear hb); (try clear hb2); (try clear hk); (try clear hi); obtain ⟨Ao60, co60, eo60⟩ := Kd.R_slice HO_7.out; subst eo60; have p704 : 0 ≤ (x8_2 : Int) := of_decide_eq_true (by first | (with_reducible assumption) | assumption); have q704 : x8_2 < (t695.length : Int) := of_decide_eq_true (by first | (with_reducible assumption) | assumption); obtain ⟨ad704, e704, hx704_0⟩ := Kd.at_int (Kd.R_reads' HO_7.out).2.2 x8_2 p704 q704; cases e704; replace p704 := eq_true p704; replace q704 := eq_true q704; have hcz61_0 : w59.cell? ⟨gb700, 0, none⟩ = some (.int .i64 ((rd_T63 l0_0 x10_2).f0)) := (blk_cell BK700.out 0).trans rfl; have hcz61_1 : w59.cell? ⟨gb700, 1, none⟩ = some (.slice A699_1 ((rd_T63 l0_0 x10_2).f1.f0).length c699_1) := (blk_cell BK700.out 1).trans rfl; have hcz61_2 : w59.cell? ⟨gb700, 2, none⟩ = some (.int .i64 ((rd_T63 l0_0 x10_2).f1.f1)) := (blk_cell BK700.out 2).trans rfl; have hcz61_3 : w59.cell? ⟨gb700, 3, none⟩ = some (.slice A699_3 ((rd_T63 l0_0 x10_2).f1.f2).length c699_3) := (blk_cell BK700.out 3).trans rfl; have hfz61_0 := blk_frozen BK700.out 0; have hfz61_1 := blk_frozen BK700.out 1; have hfz61_2 := blk_frozen BK700.out 2; have hfz61_3 := blk_frozen BK700.out 3)))
                   go_roundg kj40
                   case measure => have := HJ5.out; have := HK2.out; have := HJ23.out; have := HJ40.out; omega
                   case rel => exact ⟨(wrap64 (x8_2 + 1)), (x9_40), (wrap64 (x10_2 + 1)), (by first | rfl | (simp; done) | (simp [*]; done)), (by first | rfl | (simp; done) | (simp [*]; done)), (by first | rfl | (simp; done) | (simp [*]; done)), H', ⟨by have := HJ5.out; have := HK2.out; have := HJ23.out; have := HJ40.out; omega⟩, ⟨by (with_reducible repeat (first | apply Kd.R_alloc | apply Kd.R_drewN | apply Kd.R_drew)); exact HO_7.out⟩, ⟨by exact BK691.out⟩, ⟨by repeat (first | (with_reducible first | exact HB.out | apply below_alloc | apply pw_below_drewN | apply below_drew1 | refine below_set ?_ GE691.out | refine below_set ?_ GE700.out) | exact HB.out)⟩⟩
                  ·rw [if_neg c55] at H
                   have c55b0 : ((rd t695 x8_2) == ((rd_T63 l0_0 x10_2).f0)) = false := beq_eq_false_iff_ne.mpr c55
                   have c55b1 : ((rd t695 x8_2) != ((rd_T63 l0_0 x10_2).f0)) = true := bne_iff_ne.mpr c55
                   exact absurd H (by simp)
                 ·rw [if_neg c54] at H
                  exact absurd H (by simp)
                ·rw [if_neg c53] at H
                 exact absurd H (by simp)
        ·rw [if_neg c23] at H
         exact absurd H (by simp)
       ·rw [if_neg c22] at H
        have c22b0 : decide (x10_2 < (l0_0.length : Int)) = false := decide_eq_false c22
        clear c22
        by_cases c62 : x8_2 = (t695.length : Int)
        ·rw [if_pos c62] at H
         have c62b0 : (x8_2 == (t695.length : Int)) = true := beq_iff_eq.mpr c62
         have c62b1 : (x8_2 != (t695.length : Int)) = false := bne_eq_false_iff_eq.mpr c62
         clear c62
         by_cases c63 : x9_2 = true
         ·subst c63
          have H1 : (some true) = some true := rfl
          clear H
          have H := H1
          clear H1
          clear H
          have hcz64_0 : wr.cell? ⟨gb691, 0, none⟩ = some (.slice A0_0 l0_0.length c0_0) := (blk_cell BK691.out 0).trans rfl
          have hcz64_1 : wr.cell? ⟨gb691, 1, none⟩ = some (.slice A0_1 l0_1.length c0_1) := (blk_cell BK691.out 1).trans rfl
          have hfz64_0 := blk_frozen BK691.out 0
          have hfz64_1 := blk_frozen BK691.out 1
          obtain ⟨Ao65, co65, eo65⟩ := Kd.R_slice HO_7.out
          subst eo65
          go_wp2
          repeat (go_quiet (fail); try go_wp2)
          go_ret
          exact ⟨by first | rfl | (rw [HTR.out]; rfl) | (exact congrArg (fun b => Ending.returned (Value.bool b)) HTR.out) | (simpa using HTR.out) | (simp [errW_none, errW_some] <;> rfl) | (simp [*, errW_none, errW_some] <;> rfl), by repeat (first | (with_reducible first | exact HB.out | apply below_alloc | apply pw_below_drewN | apply below_drew1 | refine below_set ?_ GE691.out) | exact HB.out)⟩
         ·replace c63 := Bool.eq_false_iff.mpr c63
          subst c63
          have H1 : ((patrol_Ready.f l0_0 l0_1 a1 a2).bind fun t698 => (some (!t698))) = some true := by rw [if_neg (show ¬ (false = true) by decide)] at H; exact H
          clear H
          have H := H1
          clear H1
          replace H := Option.bind_eq_some_iff.mp H
          obtain ⟨t698, A660, H⟩ := H
          replace H : (some (!t698)) = some true := H
          have A66 := Aside0.mk A660
          clear A660
          have HTR := Aside0.mk (Option.some.inj H)
          clear H
          have hcz67_0 : wr.cell? ⟨gb691, 0, none⟩ = some (.slice A0_0 l0_0.length c0_0) := (blk_cell BK691.out 0).trans rfl
          have hcz67_1 : wr.cell? ⟨gb691, 1, none⟩ = some (.slice A0_1 l0_1.length c0_1) := (blk_cell BK691.out 1).trans rfl
          have hfz67_0 := blk_frozen BK691.out 0
          have hfz67_1 := blk_frozen BK691.out 1
          obtain ⟨Ao68, co68, eo68⟩ := Kd.R_slice HO_7.out
          subst eo68
          go_wp2_with (first | (go_at_call 46; (with_reducible refine (patrol_Ready.calls _ _ l0_0 _ _ l0_1 a1 a2 t698 _ ?side1 ?side2 ?side3 ?side4 A66.out).mono ?_); (case side1 => repeat (first | exact (Kd.C_below HR0_0.out HB.out) | (with_reducible refine Kd.C_alloc ?_ _) | (with_reducible refine Kd.C_drewN ?_ _) | (with_reducible refine Kd.C_drew ?_))); (case side2 => exact HC0_0.out); (case side3 => repeat (first | exact (Kd.C_below HR0_1.out HB.out) | (with_reducible refine Kd.C_alloc ?_ _) | (with_reducible refine Kd.C_drewN ?_ _) | (with_reducible refine Kd.C_drew ?_))); (case side4 => exact HC0_1.out); rintro e w69 ⟨rfl, hb⟩; have n0_ := Aside0.mk (Kd.R_below HO_7.out hb); have n1_ := Aside0.mk (blk_below BK691.out hb); have n2_ := Aside0.mk (below_step bel_ hb); clear HO_7; clear BK691; clear HB; have HO_7 := n0_; have BK691 := n1_; have HB := n2_; clear n0_ n1_ n2_; (try clear hb); (try clear hb2); (try clear hk); (try clear hi)))
          repeat (go_quiet (fail); try go_wp2_with (first | (go_at_call 46; (with_reducible refine (patrol_Ready.calls _ _ l0_0 _ _ l0_1 a1 a2 t698 _ ?side1 ?side2 ?side3 ?side4 A66.out).mono ?_); (case side1 => repeat (first | exact (Kd.C_below HR0_0.out HB.out) | (with_reducible refine Kd.C_alloc ?_ _) | (with_reducible refine Kd.C_drewN ?_ _) | (with_reducible refine Kd.C_drew ?_))); (case side2 => exact HC0_0.out); (case side3 => repeat (first | exact (Kd.C_below HR0_1.out HB.out) | (with_reducible refine Kd.C_alloc ?_ _) | (with_reducible refine Kd.C_drewN ?_ _) | (with_reducible refine Kd.C_drew ?_))); (case side4 => exact HC0_1.out); rintro e w69 ⟨rfl, hb⟩; have n0_ := Aside0.mk (Kd.R_below HO_7.out hb); have n1_ := Aside0.mk (blk_below BK691.out hb); have n2_ := Aside0.mk (below_step bel_ hb); clear HO_7; clear BK691; clear HB; have HO_7 := n0_; have BK691 := n1_; have HB := n2_; clear n0_ n1_ n2_; (try clear hb); (try clear hb2); (try clear hk); (try clear hi))))
          go_ret
          exact ⟨by first | rfl | (rw [HTR.out]; rfl) | (exact congrArg (fun b => Ending.returned (Value.bool b)) HTR.out) | (simpa using HTR.out) | (simp [errW_none, errW_some] <;> rfl) | (simp [*, errW_none, errW_some] <;> rfl), by repeat (first | (with_reducible first | exact HB.out | apply below_alloc | apply pw_below_drewN | apply below_drew1 | refine below_set ?_ GE691.out) | exact HB.out)⟩
        ·rw [if_neg c62] at H
         have c62b0 : (x8_2 == (t695.length : Int)) = false := beq_eq_false_iff_ne.mpr c62
         have c62b1 : (x8_2 != (t695.length : Int)) = true := bne_iff_ne.mpr c62
         exact absurd H (by simp)
 ·replace c5 := Bool.eq_false_iff.mpr c5
  subst c5
  have H1 : (some false) = some true := by rw [if_neg (show ¬ (false = true) by decide)] at H; exact H
  clear H
  have H := H1
  clear H1
  exact absurd H (by simp)

end Go.Proofs.Ytmhggplhfcmgkaa.Q
