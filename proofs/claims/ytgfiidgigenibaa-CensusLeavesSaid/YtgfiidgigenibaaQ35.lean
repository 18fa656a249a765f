-- written by wip/drive.py (this session's program) over the kit's print words
import Derived.Test.YtgfiidgigenibaaQ0
import Derived.Test.YtgfiidgigenibaaQ34
namespace Go.Proofs.Ytgfiidgigenibaa.Q
open Go.RowKit Go.Proofs.YtgfiidgigenibaaW.PrintWords Go.Proofs.YtgfiidgigenibaaW.PrintLast Go.Proofs.YtgfiidgigenibaaW.PrintMore
attribute [local go_sem] max2_int min2_int max_two min_two max_three min_three max_four min_four   -- for this text's walks alone
set_option linter.unusedVariables false
set_option linter.unusedSimpArgs false

/-! ### skiarealaw55_small: function 13 -/
def skiarealaw55_small.f (k : Nat) (l0_0 : List (S62)) (l0_1 : List (S82)) (l0_2 : List (S44)) (l0_3 : List Int) (l1 : List Int) : Option (Bool) := if (l0_0.length : Int) ≤ 12 then (if (l0_2.length : Int) ≤ 16 then (if (l0_1.length : Int) ≤ 16 then (if (l1.length : Int) ≤ 100 then ((skiarearef10_Right.f k l0_0 l0_1 l0_2 l0_3).bind fun t265 => (some (t265 == 0))) else (some false)) else (some false)) else (some false)) else (some false)
theorem skiarealaw55_small.mono : ∀ a0 a1 a2 a3 a4 k, LeO (skiarealaw55_small.f k a0 a1 a2 a3 a4) (skiarealaw55_small.f (k + 1) a0 a1 a2 a3 a4) := by
 intro a0 a1 a2 a3 a4 k
 unfold skiarealaw55_small.f
 repeat' first
   | (with_reducible exact skiarearef10_Right.mono _ _ _ _ _)
   | (with_reducible exact LeO.refl _)
   | (with_reducible exact LeO.none _)
   | (with_reducible refine LeO.ite ?_ ?_)
   | (with_reducible refine LeO.bind ?_ (fun _ => ?_))
   | exact skiarearef10_Right.mono _ _ _ _ _
   | exact LeO.none _
   | refine LeO.ite ?_ ?_
   | refine LeO.bind ?_ (fun _ => ?_)
set_option maxHeartbeats 8000000 in
set_option maxRecDepth 100000 in
theorem skiarealaw55_small.calls (k : Nat) (A0_0 : Option Addr) (c0_0 : Nat) (l0_0 : List (S62)) (A0_1 : Option Addr) (c0_1 : Nat) (l0_1 : List (S82)) (A0_2 : Option Addr) (c0_2 : Nat) (l0_2 : List (S44)) (A0_3 : Option Addr) (c0_3 : Nat) (l0_3 : List Int) (A1 : Option Addr) (c1 : Nat) (l1 : List Int) (r : Bool) (w : World) (hr0_0 : Kd.C k62 w A0_0 l0_0.length l0_0) (hc0_0 : l0_0.length ≤ c0_0) (hr0_1 : Kd.C k82 w A0_1 l0_1.length l0_1) (hc0_1 : l0_1.length ≤ c0_1) (hr0_2 : Kd.C k44 w A0_2 l0_2.length l0_2) (hc0_2 : l0_2.length ≤ c0_2) (hr0_3 : Kd.C (Kd.int .i64) w A0_3 l0_3.length l0_3) (hc0_3 : l0_3.length ≤ c0_3) (hr1 : Kd.C (Kd.int .i64) w A1 l1.length l1) (hc1 : l1.length ≤ c1) (h : skiarealaw55_small.f k l0_0 l0_1 l0_2 l0_3 l1 = some r) :
  Calls Try.prog 13 #[.agg #[.slice A0_0 l0_0.length c0_0, .slice A0_1 l0_1.length c0_1, .slice A0_2 l0_2.length c0_2, .slice A0_3 l0_3.length c0_3], .slice A1 l1.length c1] w fun e w' => e = .returned (.bool r) ∧ Below w.heap.size w w' := by
 have hu38 := Try.underlying38
 have HR0_0 := a_ hr0_0
 have HC0_0 := a_ hc0_0
 clear hr0_0 hc0_0
 have HR0_1 := a_ hr0_1
 have HC0_1 := a_ hc0_1
 clear hr0_1 hc0_1
 have HR0_2 := a_ hr0_2
 have HC0_2 := a_ hc0_2
 clear hr0_2 hc0_2
 have HR0_3 := a_ hr0_3
 have HC0_3 := a_ hc0_3
 clear hr0_3 hc0_3
 have HR1 := a_ hr1
 have HC1 := a_ hc1
 clear hr1 hc1
 have HB := a_ (Below.refl w.heap.size w)
 have H : (if (l0_0.length : Int) ≤ 12 then (if (l0_2.length : Int) ≤ 16 then (if (l0_1.length : Int) ≤ 16 then (if (l1.length : Int) ≤ 100 then ((skiarearef10_Right.f k l0_0 l0_1 l0_2 l0_3).bind fun t265 => (some (t265 == 0))) else (some false)) else (some false)) else (some false)) else (some false)) = some r := h
 clear h
 by_cases c3 : (l0_0.length : Int) ≤ 12
 ·rw [if_pos c3] at H
  have c3b0 : decide ((l0_0.length : Int) ≤ 12) = true := decide_eq_true c3
  have c3b1 : decide (l0_0.length ≤ 12) = true := decide_eq_true (by omega)
  clear c3
  by_cases c4 : (l0_2.length : Int) ≤ 16
  ·rw [if_pos c4] at H
   have c4b0 : decide ((l0_2.length : Int) ≤ 16) = true := decide_eq_true c4
   have c4b1 : decide (l0_2.length ≤ 16) = true := decide_eq_true (by omega)
   clear c4
   by_cases c5 : (l0_1.length : Int) ≤ 16
   ·rw [if_pos c5] at H
    have c5b0 : decide ((l0_1.length : Int) ≤ 16) = true := decide_eq_true c5
    have c5b1 : decide (l0_1.length ≤ 16) = true := decide_eq_true (by omega)
    clear c5
    by_cases c6 : (l1.length : Int) ≤ 100
    ·rw [if_pos c6] at H
     have c6b0 : decide ((l1.length : Int) ≤ 100) = true := decide_eq_true c6
     have c6b1 : decide (l1.length ≤ 100) = true := decide_eq_true (by omega)
     clear c6
     replace H := Option.bind_eq_some_iff.mp H
     obtain ⟨t265, A70, H⟩ := H
     replace H : (some (t265 == 0)) = some r := H
     have A7 := a_ A70
     clear A70
     obtain rfl := Option.some.inj H
     go_enter Try.func13, Try.ntmps13
     go_wp2_with (first | ((with_reducible refine gate_dst (N := 2) rfl ?_); (try (refine gate_guard (by rfl) ?_; dsimp only)); refine box_event ?hg (N := 2) ?hd (cs := #[.slice A0_0 l0_0.length c0_0, .slice A0_1 l0_1.length c0_1, .slice A0_2 l0_2.length c0_2, .slice A0_3 l0_3.length c0_3]) (t := 38) ?hr ?_; (case hd => rfl); (case hg => rfl); (case hr => first | (go_simp; done) | (go_simp; rfl)); intro gb264 hg w8 hbox hb; have n0_ := a_ (below_step bel_ hb); have n1_ := a_ (hbox); have n2_ := a_ (bz_ hg : w.heap.size ≤ gb264); have n3_ := a_ (bz_ hg : w.heap.size ≤ gb264); clear HB; have HB := n0_; have BK264 := n1_; have GW264 := n2_; have GE264 := n3_; clear n0_ n1_ n2_ n3_; clear hb hbox hg; have hcz9_0 := cz_ BK264 0; have hcz9_1 := cz_ BK264 1; have hcz9_2 := cz_ BK264 2; have hcz9_3 := cz_ BK264 3; have hfz9_0 := fz_ BK264 0; have hfz9_1 := fz_ BK264 1; have hfz9_2 := fz_ BK264 2; have hfz9_3 := fz_ BK264 3) | (go_at_call 31; (with_reducible refine (skiarearef10_Right.calls k _ _ l0_0 _ _ l0_1 _ _ l0_2 _ _ l0_3 t265 _ ?side1 ?side2 ?side3 ?side4 ?side5 ?side6 ?side7 ?side8 A7.out).mono ?_); (case side1 => exact kC_ (Kd.C_below HR0_0.out HB.out)); (case side2 => exact HC0_0.out); (case side3 => exact kC_ (Kd.C_below HR0_1.out HB.out)); (case side4 => exact HC0_1.out); (case side5 => exact kC_ (Kd.C_below HR0_2.out HB.out)); (case side6 => exact HC0_2.out); (case side7 => exact kC_ (Kd.C_below HR0_3.out HB.out)); (case side8 => exact HC0_3.out); rintro e w10 ⟨rfl, hb⟩; have n0_ := a_ (blk_below (bk_ BK264.out) hb); have n1_ := a_ (below_step bel_ hb); clear BK264; clear HB; have BK264 := n0_; have HB := n1_; clear n0_ n1_; (try clear hb); (try clear hb2); (try clear hk); (try clear hi)))
     go_ret
     exact ⟨by first | rfl | (simp [errW_none, errW_some] <;> rfl) | (simp [*, errW_none, errW_some] <;> rfl), by repeat (first | (with_reducible first | exact HB.out | apply below_alloc | apply pw_below_drewN | apply below_drew1 | refine below_set ?_ GE264.out) | exact HB.out)⟩
    ·rw [if_neg c6] at H
     have c6b0 : decide ((l1.length : Int) ≤ 100) = false := decide_eq_false c6
     have c6b1 : decide (l1.length ≤ 100) = false := decide_eq_false (by omega)
     clear c6
     obtain rfl := Option.some.inj H
     go_enter Try.func13, Try.ntmps13
     go_wp2_with (first | ((with_reducible refine gate_dst (N := 2) rfl ?_); (try (refine gate_guard (by rfl) ?_; dsimp only)); refine box_event ?hg (N := 2) ?hd (cs := #[.slice A0_0 l0_0.length c0_0, .slice A0_1 l0_1.length c0_1, .slice A0_2 l0_2.length c0_2, .slice A0_3 l0_3.length c0_3]) (t := 38) ?hr ?_; (case hd => rfl); (case hg => rfl); (case hr => first | (go_simp; done) | (go_simp; rfl)); intro gb264 hg w11 hbox hb; have n0_ := a_ (below_step bel_ hb); have n1_ := a_ (hbox); have n2_ := a_ (bz_ hg : w.heap.size ≤ gb264); have n3_ := a_ (bz_ hg : w.heap.size ≤ gb264); clear HB; have HB := n0_; have BK264 := n1_; have GW264 := n2_; have GE264 := n3_; clear n0_ n1_ n2_ n3_; clear hb hbox hg; have hcz12_0 := cz_ BK264 0; have hcz12_1 := cz_ BK264 1; have hcz12_2 := cz_ BK264 2; have hcz12_3 := cz_ BK264 3; have hfz12_0 := fz_ BK264 0; have hfz12_1 := fz_ BK264 1; have hfz12_2 := fz_ BK264 2; have hfz12_3 := fz_ BK264 3))
     go_ret
     exact ⟨by first | rfl | (simp [errW_none, errW_some] <;> rfl) | (simp [*, errW_none, errW_some] <;> rfl), by repeat (first | (with_reducible first | exact HB.out | apply below_alloc | apply pw_below_drewN | apply below_drew1 | refine below_set ?_ GE264.out) | exact HB.out)⟩
   ·rw [if_neg c5] at H
    have c5b0 : decide ((l0_1.length : Int) ≤ 16) = false := decide_eq_false c5
    have c5b1 : decide (l0_1.length ≤ 16) = false := decide_eq_false (by omega)
    clear c5
    obtain rfl := Option.some.inj H
    go_enter Try.func13, Try.ntmps13
    go_wp2_with (first | ((with_reducible refine gate_dst (N := 2) rfl ?_); (try (refine gate_guard (by rfl) ?_; dsimp only)); refine box_event ?hg (N := 2) ?hd (cs := #[.slice A0_0 l0_0.length c0_0, .slice A0_1 l0_1.length c0_1, .slice A0_2 l0_2.length c0_2, .slice A0_3 l0_3.length c0_3]) (t := 38) ?hr ?_; (case hd => rfl); (case hg => rfl); (case hr => first | (go_simp; done) | (go_simp; rfl)); intro gb264 hg w13 hbox hb; have n0_ := a_ (below_step bel_ hb); have n1_ := a_ (hbox); have n2_ := a_ (bz_ hg : w.heap.size ≤ gb264); have n3_ := a_ (bz_ hg : w.heap.size ≤ gb264); clear HB; have HB := n0_; have BK264 := n1_; have GW264 := n2_; have GE264 := n3_; clear n0_ n1_ n2_ n3_; clear hb hbox hg; have hcz14_0 := cz_ BK264 0; have hcz14_1 := cz_ BK264 1; have hcz14_2 := cz_ BK264 2; have hcz14_3 := cz_ BK264 3; have hfz14_0 := fz_ BK264 0; have hfz14_1 := fz_ BK264 1; have hfz14_2 := fz_ BK264 2; have hfz14_3 := fz_ BK264 3))
    go_ret
    exact ⟨by first | rfl | (simp [errW_none, errW_some] <;> rfl) | (simp [*, errW_none, errW_some] <;> rfl), by repeat (first | (with_reducible first | exact HB.out | apply below_alloc | apply pw_below_drewN | apply below_drew1 | refine below_set ?_ GE264.out) | exact HB.out)⟩
  ·rw [if_neg c4] at H
   have c4b0 : decide ((l0_2.length : Int) ≤ 16) = false := decide_eq_false c4
   have c4b1 : decide (l0_2.length ≤ 16) = false := decide_eq_false (by omega)
   clear c4
   obtain rfl := Option.some.inj H
   go_enter Try.func13, Try.ntmps13
   go_wp2_with (first | ((with_reducible refine gate_dst (N := 2) rfl ?_); (try (refine gate_guard (by rfl) ?_; dsimp only)); refine box_event ?hg (N := 2) ?hd (cs := #[.slice A0_0 l0_0.length c0_0, .slice A0_1 l0_1.length c0_1, .slice A0_2 l0_2.length c0_2, .slice A0_3 l0_3.length c0_3]) (t := 38) ?hr ?_; (case hd => rfl); (case hg => rfl); (case hr => first | (go_simp; done) | (go_simp; rfl)); intro gb264 hg w15 hbox hb; have n0_ := a_ (below_step bel_ hb); have n1_ := a_ (hbox); have n2_ := a_ (bz_ hg : w.heap.size ≤ gb264); have n3_ := a_ (bz_ hg : w.heap.size ≤ gb264); clear HB; have HB := n0_; have BK264 := n1_; have GW264 := n2_; have GE264 := n3_; clear n0_ n1_ n2_ n3_; clear hb hbox hg; have hcz16_0 := cz_ BK264 0; have hcz16_1 := cz_ BK264 1; have hcz16_2 := cz_ BK264 2; have hcz16_3 := cz_ BK264 3; have hfz16_0 := fz_ BK264 0; have hfz16_1 := fz_ BK264 1; have hfz16_2 := fz_ BK264 2; have hfz16_3 := fz_ BK264 3))
   go_ret
   exact ⟨by first | rfl | (simp [errW_none, errW_some] <;> rfl) | (simp [*, errW_none, errW_some] <;> rfl), by repeat (first | (with_reducible first | exact HB.out | apply below_alloc | apply pw_below_drewN | apply below_drew1 | refine below_set ?_ GE264.out) | exact HB.out)⟩
 ·rw [if_neg c3] at H
  have c3b0 : decide ((l0_0.length : Int) ≤ 12) = false := decide_eq_false c3
  have c3b1 : decide (l0_0.length ≤ 12) = false := decide_eq_false (by omega)
  clear c3
  obtain rfl := Option.some.inj H
  go_enter Try.func13, Try.ntmps13
  go_wp2_with (first | ((with_reducible refine gate_dst (N := 2) rfl ?_); (try (refine gate_guard (by rfl) ?_; dsimp only)); refine box_event ?hg (N := 2) ?hd (cs := #[.slice A0_0 l0_0.length c0_0, .slice A0_1 l0_1.length c0_1, .slice A0_2 l0_2.length c0_2, .slice A0_3 l0_3.length c0_3]) (t := 38) ?hr ?_; (case hd => rfl); (case hg => rfl); (case hr => first | (go_simp; done) | (go_simp; rfl)); intro gb264 hg w17 hbox hb; have n0_ := a_ (below_step bel_ hb); have n1_ := a_ (hbox); have n2_ := a_ (bz_ hg : w.heap.size ≤ gb264); have n3_ := a_ (bz_ hg : w.heap.size ≤ gb264); clear HB; have HB := n0_; have BK264 := n1_; have GW264 := n2_; have GE264 := n3_; clear n0_ n1_ n2_ n3_; clear hb hbox hg; have hcz18_0 := cz_ BK264 0; have hcz18_1 := cz_ BK264 1; have hcz18_2 := cz_ BK264 2; have hcz18_3 := cz_ BK264 3; have hfz18_0 := fz_ BK264 0; have hfz18_1 := fz_ BK264 1; have hfz18_2 := fz_ BK264 2; have hfz18_3 := fz_ BK264 3))
  go_ret
  exact ⟨by first | rfl | (simp [errW_none, errW_some] <;> rfl) | (simp [*, errW_none, errW_some] <;> rfl), by repeat (first | (with_reducible first | exact HB.out | apply below_alloc | apply pw_below_drewN | apply below_drew1 | refine below_set ?_ GE264.out) | exact HB.out)⟩

end Go.Proofs.Ytgfiidgigenibaa.Q
