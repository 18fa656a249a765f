-- written by wip/drive.py (this session's program) over the kit's print words
import Derived.Test.YtgfiidgigenibaaQ0
import Derived.Test.YtgfiidgigenibaaQ16
import Derived.Test.YtgfiidgigenibaaQ17
namespace Go.Proofs.Ytgfiidgigenibaa.Q
open Go.RowKit Go.Proofs.YtgfiidgigenibaaW.PrintWords Go.Proofs.YtgfiidgigenibaaW.PrintLast Go.Proofs.YtgfiidgigenibaaW.PrintMore
attribute [local go_sem] max2_int min2_int max_two min_two max_three min_three max_four min_four   -- for this text's walks alone
set_option linter.unusedVariables false
set_option linter.unusedSimpArgs false

/-! ### census_Empty: function 26 -/
def census_Empty.f (k : Nat) (l0_0 : List (S62)) (l0_1 : List (S82)) (l0_2 : List (S44)) (l0_3 : List Int) (l1 : List Int) (a2 : Int) (a3 : Int) : Option (Int) := (census_within.f a3 0 1000000).bind fun t134 => (if t134 = true then (if a3 = 0 then (some 0) else ((census_Egress.f k l0_0 l0_1 l0_2 l0_3 l1 a2).bind fun t135 => (if t135 = 0 then (some (-1)) else (some (wrap64 (Int.tdiv (wrap64 ((wrap64 ((wrap64 (a3 * 3600)) + t135)) - 1)) t135)))))) else (some (-1)))
theorem census_Empty.mono : ∀ a0 a1 a2 a3 a4 a5 a6 k, LeO (census_Empty.f k a0 a1 a2 a3 a4 a5 a6) (census_Empty.f (k + 1) a0 a1 a2 a3 a4 a5 a6) := by
 intro a0 a1 a2 a3 a4 a5 a6 k
 unfold census_Empty.f
 repeat' first
   | (with_reducible exact census_Egress.mono _ _ _ _ _ _ _)
   | (with_reducible exact LeO.refl _)
   | (with_reducible exact LeO.none _)
   | (with_reducible refine LeO.ite ?_ ?_)
   | (with_reducible refine LeO.bind ?_ (fun _ => ?_))
   | exact census_Egress.mono _ _ _ _ _ _ _
   | exact LeO.none _
   | refine LeO.ite ?_ ?_
   | refine LeO.bind ?_ (fun _ => ?_)
set_option maxHeartbeats 8000000 in
set_option maxRecDepth 100000 in
theorem census_Empty.calls (k : Nat) (A0_0 : Option Addr) (c0_0 : Nat) (l0_0 : List (S62)) (A0_1 : Option Addr) (c0_1 : Nat) (l0_1 : List (S82)) (A0_2 : Option Addr) (c0_2 : Nat) (l0_2 : List (S44)) (A0_3 : Option Addr) (c0_3 : Nat) (l0_3 : List Int) (A1 : Option Addr) (c1 : Nat) (l1 : List Int) (a2 : Int) (a3 : Int) (r : Int) (w : World) (hr0_0 : Kd.C k62 w A0_0 l0_0.length l0_0) (hc0_0 : l0_0.length ≤ c0_0) (hr0_1 : Kd.C k82 w A0_1 l0_1.length l0_1) (hc0_1 : l0_1.length ≤ c0_1) (hr0_2 : Kd.C k44 w A0_2 l0_2.length l0_2) (hc0_2 : l0_2.length ≤ c0_2) (hr0_3 : Kd.C (Kd.int .i64) w A0_3 l0_3.length l0_3) (hc0_3 : l0_3.length ≤ c0_3) (hr1 : Kd.C (Kd.int .i64) w A1 l1.length l1) (hc1 : l1.length ≤ c1) (h : census_Empty.f k l0_0 l0_1 l0_2 l0_3 l1 a2 a3 = some r) :
  Calls Try.prog 26 #[.agg #[.slice A0_0 l0_0.length c0_0, .slice A0_1 l0_1.length c0_1, .slice A0_2 l0_2.length c0_2, .slice A0_3 l0_3.length c0_3], .slice A1 l1.length c1, .int .i64 a2, .int .i64 a3] w fun e w' => e = .returned (.int .i64 r) ∧ Below w.heap.size w w' := by
 have hu38 := Try.underlying38
 have HR0_0 := a_ hr0_0
 have HC0_0 := a_ hc0_0
 clear hr0_0 hc0_0
 have HR0_1 := a_ hr0_1
 have HC0_1 := a_ hc0_1
 clear hr0_1 hc0_1
 have HR0_2 := a_ hr0_2
 have HC0_2 := a_ hc0_2
 clear hr0_2 hc0_2
 have HR0_3 := a_ hr0_3
 have HC0_3 := a_ hc0_3
 clear hr0_3 hc0_3
 have HR1 := a_ hr1
 have HC1 := a_ hc1
 clear hr1 hc1
 have HB := a_ (Below.refl w.heap.size w)
 have H : ((census_within.f a3 0 1000000).bind fun t134 => (if t134 = true then (if a3 = 0 then (some 0) else ((census_Egress.f k l0_0 l0_1 l0_2 l0_3 l1 a2).bind fun t135 => (if t135 = 0 then (some (-1)) else (some (wrap64 (Int.tdiv (wrap64 ((wrap64 ((wrap64 (a3 * 3600)) + t135)) - 1)) t135)))))) else (some (-1)))) = some r := h
 clear h
 replace H := Option.bind_eq_some_iff.mp H
 obtain ⟨t134, A50, H⟩ := H
 replace H : (if t134 = true then (if a3 = 0 then (some 0) else ((census_Egress.f k l0_0 l0_1 l0_2 l0_3 l1 a2).bind fun t135 => (if t135 = 0 then (some (-1)) else (some (wrap64 (Int.tdiv (wrap64 ((wrap64 ((wrap64 (a3 * 3600)) + t135)) - 1)) t135)))))) else (some (-1))) = some r := H
 have A5 := a_ A50
 clear A50
 by_cases c6 : t134 = true
 ·subst c6
  have H1 : (if a3 = 0 then (some 0) else ((census_Egress.f k l0_0 l0_1 l0_2 l0_3 l1 a2).bind fun t135 => (if t135 = 0 then (some (-1)) else (some (wrap64 (Int.tdiv (wrap64 ((wrap64 ((wrap64 (a3 * 3600)) + t135)) - 1)) t135)))))) = some r := by rw [if_pos rfl] at H; exact H
  clear H
  have H := H1
  clear H1
  by_cases c7 : a3 = 0
  ·rw [if_pos c7] at H
   have c7b0 : (a3 == 0) = true := beq_iff_eq.mpr c7
   have c7b1 : (a3 != 0) = false := bne_eq_false_iff_eq.mpr c7
   clear c7
   obtain rfl := Option.some.inj H
   go_enter Try.func26, Try.ntmps26
   go_wp2_with (first | ((with_reducible refine gate_dst (N := 4) rfl ?_); refine box_event ?hg (N := 4) ?hd (cs := #[.slice A0_0 l0_0.length c0_0, .slice A0_1 l0_1.length c0_1, .slice A0_2 l0_2.length c0_2, .slice A0_3 l0_3.length c0_3]) (t := 38) ?hr ?_; (case hd => rfl); (case hg => rfl); (case hr => first | (go_simp; done) | (go_simp; rfl)); intro gb133 hg w8 hbox hb; have n0_ := a_ (below_step bel_ hb); have n1_ := a_ (hbox); have n2_ := a_ (bz_ hg : w.heap.size ≤ gb133); have n3_ := a_ (bz_ hg : w.heap.size ≤ gb133); clear HB; have HB := n0_; have BK133 := n1_; have GW133 := n2_; have GE133 := n3_; clear n0_ n1_ n2_ n3_; clear hb hbox hg) | ((with_reducible refine gate_callee (f := 29) rfl ?_); refine gs_ (some 12) Try.func29 #[.int .i64 a3, .int .i64 0, .int .i64 1000000] ?_; (with_reducible refine (census_within.calls a3 0 1000000 true _ A5.out).mono ?_); rintro e w' ⟨rfl, ⟨nd, rfl⟩⟩; refine ⟨_, rfl, ?_⟩))
   go_ret
   exact ⟨by first | rfl | (simp [errW_none, errW_some] <;> rfl) | (simp [*, errW_none, errW_some] <;> rfl), by repeat (first | (with_reducible first | exact HB.out | apply below_alloc | apply pw_below_drewN | apply below_drew1 | refine below_set ?_ GE133.out) | exact HB.out)⟩
  ·rw [if_neg c7] at H
   have c7b0 : (a3 == 0) = false := beq_eq_false_iff_ne.mpr c7
   have c7b1 : (a3 != 0) = true := bne_iff_ne.mpr c7
   replace H := Option.bind_eq_some_iff.mp H
   obtain ⟨t135, A90, H⟩ := H
   replace H : (if t135 = 0 then (some (-1)) else (some (wrap64 (Int.tdiv (wrap64 ((wrap64 ((wrap64 (a3 * 3600)) + t135)) - 1)) t135)))) = some r := H
   have A9 := a_ A90
   clear A90
   by_cases c10 : t135 = 0
   ·rw [if_pos c10] at H
    have c10b0 : (t135 == 0) = true := beq_iff_eq.mpr c10
    have c10b1 : (t135 != 0) = false := bne_eq_false_iff_eq.mpr c10
    clear c10
    obtain rfl := Option.some.inj H
    go_enter Try.func26, Try.ntmps26
    go_wp2_with (first | ((with_reducible refine gate_dst (N := 4) rfl ?_); refine box_event ?hg (N := 4) ?hd (cs := #[.slice A0_0 l0_0.length c0_0, .slice A0_1 l0_1.length c0_1, .slice A0_2 l0_2.length c0_2, .slice A0_3 l0_3.length c0_3]) (t := 38) ?hr ?_; (case hd => rfl); (case hg => rfl); (case hr => first | (go_simp; done) | (go_simp; rfl)); intro gb133 hg w11 hbox hb; have n0_ := a_ (below_step bel_ hb); have n1_ := a_ (hbox); have n2_ := a_ (bz_ hg : w.heap.size ≤ gb133); have n3_ := a_ (bz_ hg : w.heap.size ≤ gb133); clear HB; have HB := n0_; have BK133 := n1_; have GW133 := n2_; have GE133 := n3_; clear n0_ n1_ n2_ n3_; clear hb hbox hg) | ((with_reducible refine gate_callee (f := 29) rfl ?_); refine gs_ (some 12) Try.func29 #[.int .i64 a3, .int .i64 0, .int .i64 1000000] ?_; (with_reducible refine (census_within.calls a3 0 1000000 true _ A5.out).mono ?_); rintro e w' ⟨rfl, ⟨nd, rfl⟩⟩; refine ⟨_, rfl, ?_⟩; have hcz12_0 := cz_ BK133 0; have hcz12_1 := cz_ BK133 1; have hcz12_2 := cz_ BK133 2; have hcz12_3 := cz_ BK133 3; have hfz12_0 := fz_ BK133 0; have hfz12_1 := fz_ BK133 1; have hfz12_2 := fz_ BK133 2; have hfz12_3 := fz_ BK133 3) | ((with_reducible refine gate_callee (f := 14) rfl ?_); refine gs_ (some 20) Try.func14 #[.agg #[.slice A0_0 l0_0.length c0_0, .slice A0_1 l0_1.length c0_1, .slice A0_2 l0_2.length c0_2, .slice A0_3 l0_3.length c0_3], .slice A1 l1.length c1, .int .i64 a2] ?_; (with_reducible refine (census_Egress.calls k _ _ l0_0 _ _ l0_1 _ _ l0_2 _ _ l0_3 _ _ l1 a2 t135 _ ?side1 ?side2 ?side3 ?side4 ?side5 ?side6 ?side7 ?side8 ?side9 ?side10 A9.out).mono ?_); (case side1 => exact kC_ (Kd.C_below HR0_0.out bel_)); (case side2 => exact HC0_0.out); (case side3 => exact kC_ (Kd.C_below HR0_1.out bel_)); (case side4 => exact HC0_1.out); (case side5 => exact kC_ (Kd.C_below HR0_2.out bel_)); (case side6 => exact HC0_2.out); (case side7 => exact kC_ (Kd.C_below HR0_3.out bel_)); (case side8 => exact HC0_3.out); (case side9 => exact kC_ (Kd.C_below HR1.out bel_)); (case side10 => exact HC1.out); rintro e w13 ⟨rfl, hb⟩; refine ⟨_, rfl, ?_⟩; have n0_ := a_ (blk_below (bk_ BK133.out) hb); have n1_ := a_ (below_step bel_ hb); clear BK133; clear HB; have BK133 := n0_; have HB := n1_; clear n0_ n1_; (try clear hb); (try clear hb2); (try clear hk); (try clear hi)))
    go_ret
    exact ⟨by first | rfl | (simp [errW_none, errW_some] <;> rfl) | (simp [*, errW_none, errW_some] <;> rfl), by repeat (first | (with_reducible first | exact HB.out | apply below_alloc | apply pw_below_drewN | apply below_drew1 | refine below_set ?_ GE133.out) | exact HB.out)⟩
   ·rw [if_neg c10] at H
    have c10b0 : (t135 == 0) = false := beq_eq_false_iff_ne.mpr c10
    have c10b1 : (t135 != 0) = true := bne_iff_ne.mpr c10
    obtain rfl := Option.some.inj H
    go_enter Try.func26, Try.ntmps26
    go_wp2_with (first | ((with_reducible refine gate_dst (N := 4) rfl ?_); refine box_event ?hg (N := 4) ?hd (cs := #[.slice A0_0 l0_0.length c0_0, .slice A0_1 l0_1.length c0_1, .slice A0_2 l0_2.length c0_2, .slice A0_3 l0_3.length c0_3]) (t := 38) ?hr ?_; (case hd => rfl); (case hg => rfl); (case hr => first | (go_simp; done) | (go_simp; rfl)); intro gb133 hg w14 hbox hb; have n0_ := a_ (below_step bel_ hb); have n1_ := a_ (hbox); have n2_ := a_ (bz_ hg : w.heap.size ≤ gb133); have n3_ := a_ (bz_ hg : w.heap.size ≤ gb133); clear HB; have HB := n0_; have BK133 := n1_; have GW133 := n2_; have GE133 := n3_; clear n0_ n1_ n2_ n3_; clear hb hbox hg) | ((with_reducible refine gate_callee (f := 29) rfl ?_); refine gs_ (some 12) Try.func29 #[.int .i64 a3, .int .i64 0, .int .i64 1000000] ?_; (with_reducible refine (census_within.calls a3 0 1000000 true _ A5.out).mono ?_); rintro e w' ⟨rfl, ⟨nd, rfl⟩⟩; refine ⟨_, rfl, ?_⟩; have hcz15_0 := cz_ BK133 0; have hcz15_1 := cz_ BK133 1; have hcz15_2 := cz_ BK133 2; have hcz15_3 := cz_ BK133 3; have hfz15_0 := fz_ BK133 0; have hfz15_1 := fz_ BK133 1; have hfz15_2 := fz_ BK133 2; have hfz15_3 := fz_ BK133 3) | ((with_reducible refine gate_callee (f := 14) rfl ?_); refine gs_ (some 20) Try.func14 #[.agg #[.slice A0_0 l0_0.length c0_0, .slice A0_1 l0_1.length c0_1, .slice A0_2 l0_2.length c0_2, .slice A0_3 l0_3.length c0_3], .slice A1 l1.length c1, .int .i64 a2] ?_; (with_reducible refine (census_Egress.calls k _ _ l0_0 _ _ l0_1 _ _ l0_2 _ _ l0_3 _ _ l1 a2 t135 _ ?side1 ?side2 ?side3 ?side4 ?side5 ?side6 ?side7 ?side8 ?side9 ?side10 A9.out).mono ?_); (case side1 => exact kC_ (Kd.C_below HR0_0.out bel_)); (case side2 => exact HC0_0.out); (case side3 => exact kC_ (Kd.C_below HR0_1.out bel_)); (case side4 => exact HC0_1.out); (case side5 => exact kC_ (Kd.C_below HR0_2.out bel_)); (case side6 => exact HC0_2.out); (case side7 => exact kC_ (Kd.C_below HR0_3.out bel_)); (case side8 => exact HC0_3.out); (case side9 => exact kC_ (Kd.C_below HR1.out bel_)); (case side10 => exact HC1.out); rintro e w16 ⟨rfl, hb⟩; refine ⟨_, rfl, ?_⟩; have n0_ := a_ (blk_below (bk_ BK133.out) hb); have n1_ := a_ (below_step bel_ hb); clear BK133; clear HB; have BK133 := n0_; have HB := n1_; clear n0_ n1_; (try clear hb); (try clear hb2); (try clear hk); (try clear hi)))
    go_ret
    exact ⟨by first | rfl | (simp [errW_none, errW_some] <;> rfl) | (simp [*, errW_none, errW_some] <;> rfl), by repeat (first | (with_reducible first | exact HB.out | apply below_alloc | apply pw_below_drewN | apply below_drew1 | refine below_set ?_ GE133.out) | exact HB.out)⟩
 ·replace c6 := Bool.eq_false_iff.mpr c6
  subst c6
  have H1 : (some (-1)) = some r := by rw [if_neg (show ¬ (false = true) by decide)] at H; exact H
  clear H
  have H := H1
  clear H1
  obtain rfl := Option.some.inj H
  go_enter Try.func26, Try.ntmps26
  go_wp2_with (first | ((with_reducible refine gate_dst (N := 4) rfl ?_); refine box_event ?hg (N := 4) ?hd (cs := #[.slice A0_0 l0_0.length c0_0, .slice A0_1 l0_1.length c0_1, .slice A0_2 l0_2.length c0_2, .slice A0_3 l0_3.length c0_3]) (t := 38) ?hr ?_; (case hd => rfl); (case hg => rfl); (case hr => first | (go_simp; done) | (go_simp; rfl)); intro gb133 hg w17 hbox hb; have n0_ := a_ (below_step bel_ hb); have n1_ := a_ (hbox); have n2_ := a_ (bz_ hg : w.heap.size ≤ gb133); have n3_ := a_ (bz_ hg : w.heap.size ≤ gb133); clear HB; have HB := n0_; have BK133 := n1_; have GW133 := n2_; have GE133 := n3_; clear n0_ n1_ n2_ n3_; clear hb hbox hg) | ((with_reducible refine gate_callee (f := 29) rfl ?_); refine gs_ (some 12) Try.func29 #[.int .i64 a3, .int .i64 0, .int .i64 1000000] ?_; (with_reducible refine (census_within.calls a3 0 1000000 false _ A5.out).mono ?_); rintro e w' ⟨rfl, ⟨nd, rfl⟩⟩; refine ⟨_, rfl, ?_⟩))
  go_ret
  exact ⟨by first | rfl | (simp [errW_none, errW_some] <;> rfl) | (simp [*, errW_none, errW_some] <;> rfl), by repeat (first | (with_reducible first | exact HB.out | apply below_alloc | apply pw_below_drewN | apply below_drew1 | refine below_set ?_ GE133.out) | exact HB.out)⟩

end Go.Proofs.Ytgfiidgigenibaa.Q
