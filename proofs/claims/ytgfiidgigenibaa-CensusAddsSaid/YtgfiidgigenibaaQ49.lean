-- written by wip/drive.py (this session's program) over the kit's print words
import Derived.Test.YtgfiidgigenibaaQ0
import Derived.Test.YtgfiidgigenibaaQ18
import Derived.Test.YtgfiidgigenibaaQ20
import Derived.Test.YtgfiidgigenibaaQ24
import Derived.Test.YtgfiidgigenibaaQ46
import Derived.Test.YtgfiidgigenibaaQ47
import Derived.Test.YtgfiidgigenibaaQ48
namespace Go.Proofs.Ytgfiidgigenibaa.Q
open Go.RowKit Go.Proofs.YtgfiidgigenibaaW.PrintWords Go.Proofs.YtgfiidgigenibaaW.PrintLast Go.Proofs.YtgfiidgigenibaaW.PrintMore
attribute [local go_sem] max2_int min2_int max_two min_two max_three min_three max_four min_four   -- for this text's walks alone
set_option linter.unusedVariables false
set_option linter.unusedSimpArgs false

/-! ### skiarealaw55_CensusAdds: function 5 -/
def skiarealaw55_CensusAdds.f (k : Nat) (l0 : List (S28)) (a1_0 : Int) (a1_1 : Int) (a1_2 : Int) (a1_3 : Int) : Option (Bool) := (skiarealaw55_alive.f).bind fun t370 => (if t370 = true then (if (l0.length : Int) > 100 then (some true) else ((census_Add.f k l0 a1_0 a1_1 a1_2 a1_3).bind fun bt371 => ((skiarearef55_Add.f k l0 a1_0 a1_1 a1_2 a1_3).bind fun bt375 => ((census_Right.f k l0).bind fun t379 => ((skiarearef55_Right.f k l0).bind fun t380 => (if t379 = t380 then (if bt371.2 = bt375.2 then ((skiarearef55_Same.f k bt371.1 bt375.1).bind fun t381 => (some t381)) else (some false)) else (some false))))))) else (some false))
theorem skiarealaw55_CensusAdds.mono : ∀ a0 a1 a2 a3 a4 k, LeO (skiarealaw55_CensusAdds.f k a0 a1 a2 a3 a4) (skiarealaw55_CensusAdds.f (k + 1) a0 a1 a2 a3 a4) := by
 intro a0 a1 a2 a3 a4 k
 unfold skiarealaw55_CensusAdds.f
 repeat' first
   | (with_reducible exact census_Add.mono _ _ _ _ _ _)
   | (with_reducible exact census_Right.mono _ _)
   | (with_reducible exact skiarearef55_Add.mono _ _ _ _ _ _)
   | (with_reducible exact skiarearef55_Right.mono _ _)
   | (with_reducible exact skiarearef55_Same.mono _ _ _)
   | (with_reducible exact LeO.refl _)
   | (with_reducible exact LeO.none _)
   | (with_reducible refine LeO.ite ?_ ?_)
   | (with_reducible refine LeO.bind ?_ (fun _ => ?_))
   | exact census_Add.mono _ _ _ _ _ _
   | exact census_Right.mono _ _
   | exact skiarearef55_Add.mono _ _ _ _ _ _
   | exact skiarearef55_Right.mono _ _
   | exact skiarearef55_Same.mono _ _ _
   | exact LeO.none _
   | refine LeO.ite ?_ ?_
   | refine LeO.bind ?_ (fun _ => ?_)
set_option maxHeartbeats 8000000 in
set_option maxRecDepth 100000 in
theorem skiarealaw55_CensusAdds.calls (k : Nat) (A0 : Option Addr) (c0 : Nat) (l0 : List (S28)) (a1_0 : Int) (a1_1 : Int) (a1_2 : Int) (a1_3 : Int) (w : World) (hr0 : Kd.C k28 w A0 l0.length l0) (hc0 : l0.length ≤ c0) (h : skiarealaw55_CensusAdds.f k l0 a1_0 a1_1 a1_2 a1_3 = some true) :
  Calls Try.prog 5 #[.slice A0 l0.length c0, .agg #[.int .i64 a1_0, .int .i64 a1_1, .int .i64 a1_2, .int .i64 a1_3]] w fun e w' => e = .returned (.bool true) ∧ Below w.heap.size w w' := by
 have hu28 := Try.underlying28
 have HR0 := a_ hr0
 have HC0 := a_ hc0
 clear hr0 hc0
 have HB := a_ (Below.refl w.heap.size w)
 have H : ((skiarealaw55_alive.f).bind fun t370 => (if t370 = true then (if (l0.length : Int) > 100 then (some true) else ((census_Add.f k l0 a1_0 a1_1 a1_2 a1_3).bind fun bt371 => ((skiarearef55_Add.f k l0 a1_0 a1_1 a1_2 a1_3).bind fun bt375 => ((census_Right.f k l0).bind fun t379 => ((skiarearef55_Right.f k l0).bind fun t380 => (if t379 = t380 then (if bt371.2 = bt375.2 then ((skiarearef55_Same.f k bt371.1 bt375.1).bind fun t381 => (some t381)) else (some false)) else (some false))))))) else (some false))) = some true := h
 clear h
 replace H := Option.bind_eq_some_iff.mp H
 obtain ⟨t370, A30, H⟩ := H
 replace H : (if t370 = true then (if (l0.length : Int) > 100 then (some true) else ((census_Add.f k l0 a1_0 a1_1 a1_2 a1_3).bind fun bt371 => ((skiarearef55_Add.f k l0 a1_0 a1_1 a1_2 a1_3).bind fun bt375 => ((census_Right.f k l0).bind fun t379 => ((skiarearef55_Right.f k l0).bind fun t380 => (if t379 = t380 then (if bt371.2 = bt375.2 then ((skiarearef55_Same.f k bt371.1 bt375.1).bind fun t381 => (some t381)) else (some false)) else (some false))))))) else (some false)) = some true := H
 have A3 := a_ A30
 clear A30
 by_cases c4 : t370 = true
 ·subst c4
  have H1 : (if (l0.length : Int) > 100 then (some true) else ((census_Add.f k l0 a1_0 a1_1 a1_2 a1_3).bind fun bt371 => ((skiarearef55_Add.f k l0 a1_0 a1_1 a1_2 a1_3).bind fun bt375 => ((census_Right.f k l0).bind fun t379 => ((skiarearef55_Right.f k l0).bind fun t380 => (if t379 = t380 then (if bt371.2 = bt375.2 then ((skiarearef55_Same.f k bt371.1 bt375.1).bind fun t381 => (some t381)) else (some false)) else (some false))))))) = some true := by rw [if_pos rfl] at H; exact H
  clear H
  have H := H1
  clear H1
  by_cases c5 : (l0.length : Int) > 100
  ·rw [if_pos c5] at H
   have c5b0 : decide (100 < (l0.length : Int)) = true := decide_eq_true c5
   have c5b1 : decide (100 < l0.length) = true := decide_eq_true (by omega)
   clear c5
   clear H
   go_enter Try.func5, Try.ntmps5
   go_wp2_with (first | ((with_reducible refine gate_dst (N := 3) rfl ?_); refine box_event ?hg (N := 3) ?hd (cs := #[.int .i64 a1_0, .int .i64 a1_1, .int .i64 a1_2, .int .i64 a1_3]) (t := 28) ?hr ?_; (case hd => rfl); (case hg => rfl); (case hr => first | (go_simp; done) | (go_simp; rfl)); intro gb369 hg w6 hbox hb; have n0_ := a_ (below_step bel_ hb); have n1_ := a_ (hbox); have n2_ := a_ (bz_ hg : w.heap.size ≤ gb369); have n3_ := a_ (bz_ hg : w.heap.size ≤ gb369); clear HB; have HB := n0_; have BK369 := n1_; have GW369 := n2_; have GE369 := n3_; clear n0_ n1_ n2_ n3_; clear hb hbox hg) | ((with_reducible refine gate_callee (f := 9) rfl ?_); refine gs_ (some 9) Try.func9 #[] ?_; (with_reducible refine (skiarealaw55_alive.calls  true _ A3.out).mono ?_); rintro e w7 ⟨rfl, hb⟩; refine ⟨_, rfl, ?_⟩; have n0_ := a_ (blk_below (bk_ BK369.out) hb); have n1_ := a_ (below_step bel_ hb); clear BK369; clear HB; have BK369 := n0_; have HB := n1_; clear n0_ n1_; (try clear hb); (try clear hb2); (try clear hk); (try clear hi)))
   go_ret
   exact ⟨by first | rfl | (rw [HTR.out]; rfl) | (exact congrArg (fun b => Ending.returned (Value.bool b)) HTR.out) | (simpa using HTR.out) | (simp [errW_none, errW_some] <;> rfl) | (simp [*, errW_none, errW_some] <;> rfl), by repeat (first | (with_reducible first | exact HB.out | apply below_alloc | apply pw_below_drewN | apply below_drew1 | refine below_set ?_ GE369.out) | exact HB.out)⟩
  ·rw [if_neg c5] at H
   have c5b0 : decide (100 < (l0.length : Int)) = false := decide_eq_false c5
   have c5b1 : decide (100 < l0.length) = false := decide_eq_false (by omega)
   clear c5
   replace H := Option.bind_eq_some_iff.mp H
   obtain ⟨⟨t371, t374⟩, A80, H⟩ := H
   replace H : ((skiarearef55_Add.f k l0 a1_0 a1_1 a1_2 a1_3).bind fun bt375 => ((census_Right.f k l0).bind fun t379 => ((skiarearef55_Right.f k l0).bind fun t380 => (if t379 = t380 then (if t374 = bt375.2 then ((skiarearef55_Same.f k t371 bt375.1).bind fun t381 => (some t381)) else (some false)) else (some false))))) = some true := H
   have A8 := a_ A80
   clear A80
   replace H := Option.bind_eq_some_iff.mp H
   obtain ⟨⟨t375, t378⟩, A90, H⟩ := H
   replace H : ((census_Right.f k l0).bind fun t379 => ((skiarearef55_Right.f k l0).bind fun t380 => (if t379 = t380 then (if t374 = t378 then ((skiarearef55_Same.f k t371 t375).bind fun t381 => (some t381)) else (some false)) else (some false)))) = some true := H
   have A9 := a_ A90
   clear A90
   replace H := Option.bind_eq_some_iff.mp H
   obtain ⟨t379, A100, H⟩ := H
   replace H : ((skiarearef55_Right.f k l0).bind fun t380 => (if t379 = t380 then (if t374 = t378 then ((skiarearef55_Same.f k t371 t375).bind fun t381 => (some t381)) else (some false)) else (some false))) = some true := H
   have A10 := a_ A100
   clear A100
   replace H := Option.bind_eq_some_iff.mp H
   obtain ⟨t380, A110, H⟩ := H
   replace H : (if t379 = t380 then (if t374 = t378 then ((skiarearef55_Same.f k t371 t375).bind fun t381 => (some t381)) else (some false)) else (some false)) = some true := H
   have A11 := a_ A110
   clear A110
   by_cases c12 : t379 = t380
   ·rw [if_pos c12] at H
    have c12b0 : (t379 == t380) = true := beq_iff_eq.mpr c12
    have c12b1 : (t379 != t380) = false := bne_eq_false_iff_eq.mpr c12
    clear c12
    by_cases c13 : t374 = t378
    ·rw [if_pos c13] at H
     have c13b0 : (t374 == t378) = true := beq_iff_eq.mpr c13
     have c13b1 : (t374 != t378) = false := bne_eq_false_iff_eq.mpr c13
     clear c13
     replace H := Option.bind_eq_some_iff.mp H
     obtain ⟨t381, A140, H⟩ := H
     replace H : (some t381) = some true := H
     have A14 := a_ A140
     clear A140
     have HTR := a_ (Option.some.inj H)
     clear H
     go_enter Try.func5, Try.ntmps5
     go_wp2_with (first | ((with_reducible refine gate_dst (N := 3) rfl ?_); refine box_event ?hg (N := 3) ?hd (cs := #[.int .i64 a1_0, .int .i64 a1_1, .int .i64 a1_2, .int .i64 a1_3]) (t := 28) ?hr ?_; (case hd => rfl); (case hg => rfl); (case hr => first | (go_simp; done) | (go_simp; rfl)); intro gb369 hg w15 hbox hb; have n0_ := a_ (below_step bel_ hb); have n1_ := a_ (hbox); have n2_ := a_ (bz_ hg : w.heap.size ≤ gb369); have n3_ := a_ (bz_ hg : w.heap.size ≤ gb369); clear HB; have HB := n0_; have BK369 := n1_; have GW369 := n2_; have GE369 := n3_; clear n0_ n1_ n2_ n3_; clear hb hbox hg) | ((with_reducible refine gate_callee (f := 9) rfl ?_); refine gs_ (some 9) Try.func9 #[] ?_; (with_reducible refine (skiarealaw55_alive.calls  true _ A3.out).mono ?_); rintro e w16 ⟨rfl, hb⟩; refine ⟨_, rfl, ?_⟩; have n0_ := a_ (blk_below (bk_ BK369.out) hb); have n1_ := a_ (below_step bel_ hb); clear BK369; clear HB; have BK369 := n0_; have HB := n1_; clear n0_ n1_; (try clear hb); (try clear hb2); (try clear hk); (try clear hi); have hcz17_0 := cz_ BK369 0; have hcz17_1 := cz_ BK369 1; have hcz17_2 := cz_ BK369 2; have hcz17_3 := cz_ BK369 3; have hfz17_0 := fz_ BK369 0; have hfz17_1 := fz_ BK369 1; have hfz17_2 := fz_ BK369 2; have hfz17_3 := fz_ BK369 3) | ((with_reducible refine gate_callee (f := 17) rfl ?_); refine gs_ (some 17) Try.func17 #[.slice A0 l0.length c0, .agg #[.int .i64 a1_0, .int .i64 a1_1, .int .i64 a1_2, .int .i64 a1_3]] ?_; (with_reducible refine (census_Add.calls k _ _ l0 a1_0 a1_1 a1_2 a1_3 t371 t374 _ ?side1 ?side2 A8.out).mono ?_); (case side1 => exact kC_ (Kd.C_below HR0.out HB.out)); (case side2 => exact HC0.out); rintro e w18 ⟨v372, rfl, ho0, hb⟩; refine ⟨_, rfl, ?_⟩; have n0_ := a_ (Kd.R_lower (Kd.R_newB ho0 (bk_ BK369.out)) (below_size bel_)); have n1_ := a_ (blk_below (bk_ BK369.out) hb); have n2_ := a_ (below_step bel_ hb); clear BK369; clear HB; have HO373 := n0_; have BK369 := n1_; have HB := n2_; clear n0_ n1_ n2_; (try clear hb); (try clear hb2); (try clear hk); (try clear hi); (try clear ho0); have hcz19_0 := cz_ BK369 0; have hcz19_1 := cz_ BK369 1; have hcz19_2 := cz_ BK369 2; have hcz19_3 := cz_ BK369 3; have hfz19_0 := fz_ BK369 0; have hfz19_1 := fz_ BK369 1; have hfz19_2 := fz_ BK369 2; have hfz19_3 := fz_ BK369 3) | ((with_reducible refine gate_callee (f := 18) rfl ?_); refine gs_ (some 23) Try.func18 #[.slice A0 l0.length c0, .agg #[.int .i64 a1_0, .int .i64 a1_1, .int .i64 a1_2, .int .i64 a1_3]] ?_; (with_reducible refine (skiarearef55_Add.calls k _ _ l0 a1_0 a1_1 a1_2 a1_3 t375 t378 _ ?side1 ?side2 A9.out).mono ?_); (case side1 => exact kC_ (Kd.C_below HR0.out HB.out)); (case side2 => exact HC0.out); rintro e w20 ⟨v376, rfl, ho0, hb⟩; refine ⟨_, rfl, ?_⟩; have n0_ := a_ (Kd.R_elder' (kR_ HO373.out) (Kd.R_base ho0) hb); have n1_ := a_ (Kd.R_lower (Kd.R_newB (Kd.R_new' ho0 (Kd.R_lt (kR_ HO373.out))) (bk_ BK369.out)) (below_size bel_)); have n2_ := a_ (blk_below (bk_ BK369.out) hb); have n3_ := a_ (below_step bel_ hb); clear HO373; clear BK369; clear HB; have HO373 := n0_; have HO377 := n1_; have BK369 := n2_; have HB := n3_; clear n0_ n1_ n2_ n3_; (try clear hb); (try clear hb2); (try clear hk); (try clear hi); (try clear ho0)) | ((with_reducible refine gate_callee (f := 10) rfl ?_); refine gs_ (some 27) Try.func10 #[.slice A0 l0.length c0] ?_; (with_reducible refine (census_Right.calls k _ _ l0 t379 _ ?side1 ?side2 A10.out).mono ?_); (case side1 => exact kC_ (Kd.C_below HR0.out HB.out)); (case side2 => exact HC0.out); rintro e w21 ⟨rfl, hb⟩; refine ⟨_, rfl, ?_⟩; have n0_ := a_ (Kd.R_below (kR_ HO373.out) hb); have n1_ := a_ (Kd.R_below (kR_ HO377.out) hb); have n2_ := a_ (blk_below (bk_ BK369.out) hb); have n3_ := a_ (below_step bel_ hb); clear HO373; clear HO377; clear BK369; clear HB; have HO373 := n0_; have HO377 := n1_; have BK369 := n2_; have HB := n3_; clear n0_ n1_ n2_ n3_; (try clear hb); (try clear hb2); (try clear hk); (try clear hi)) | ((with_reducible refine gate_callee (f := 19) rfl ?_); refine gs_ (some 29) Try.func19 #[.slice A0 l0.length c0] ?_; (with_reducible refine (skiarearef55_Right.calls k _ _ l0 t380 _ ?side1 ?side2 A11.out).mono ?_); (case side1 => exact kC_ (Kd.C_below HR0.out HB.out)); (case side2 => exact HC0.out); rintro e w22 ⟨rfl, hb⟩; refine ⟨_, rfl, ?_⟩; have n0_ := a_ (Kd.R_below (kR_ HO373.out) hb); have n1_ := a_ (Kd.R_below (kR_ HO377.out) hb); have n2_ := a_ (blk_below (bk_ BK369.out) hb); have n3_ := a_ (below_step bel_ hb); clear HO373; clear HO377; clear BK369; clear HB; have HO373 := n0_; have HO377 := n1_; have BK369 := n2_; have HB := n3_; clear n0_ n1_ n2_ n3_; (try clear hb); (try clear hb2); (try clear hk); (try clear hi); obtain ⟨Ao23, co23, eo23⟩ := Kd.R_slice HO373.out; subst eo23; obtain ⟨Ao24, co24, eo24⟩ := Kd.R_slice HO377.out; subst eo24) | (go_at_call 20; (with_reducible refine (skiarearef55_Same.calls k _ _ t371 _ _ t375 t381 _ ?side1 ?side2 ?side3 ?side4 A14.out).mono ?_); (case side1 => repeat (first | exact (Kd.R_reads' HO373.out).2.2 | (with_reducible refine Kd.C_alloc ?_ _) | (with_reducible refine Kd.C_drewN ?_ _) | (with_reducible refine Kd.C_drew ?_))); (case side2 => exact (Kd.R_reads' HO373.out).2.1); (case side3 => repeat (first | exact (Kd.R_reads' HO377.out).2.2 | (with_reducible refine Kd.C_alloc ?_ _) | (with_reducible refine Kd.C_drewN ?_ _) | (with_reducible refine Kd.C_drew ?_))); (case side4 => exact (Kd.R_reads' HO377.out).2.1); rintro e w' ⟨rfl, ⟨nd, rfl⟩⟩))
     go_ret
     exact ⟨by first | rfl | (rw [HTR.out]; rfl) | (exact congrArg (fun b => Ending.returned (Value.bool b)) HTR.out) | (simpa using HTR.out) | (simp [errW_none, errW_some] <;> rfl) | (simp [*, errW_none, errW_some] <;> rfl), by repeat (first | (with_reducible first | exact HB.out | apply below_alloc | apply pw_below_drewN | apply below_drew1 | refine below_set ?_ GE369.out) | exact HB.out)⟩
    ·rw [if_neg c13] at H
     have c13b0 : (t374 == t378) = false := beq_eq_false_iff_ne.mpr c13
     have c13b1 : (t374 != t378) = true := bne_iff_ne.mpr c13
     exact absurd H (by simp)
   ·rw [if_neg c12] at H
    have c12b0 : (t379 == t380) = false := beq_eq_false_iff_ne.mpr c12
    have c12b1 : (t379 != t380) = true := bne_iff_ne.mpr c12
    exact absurd H (by simp)
 ·replace c4 := Bool.eq_false_iff.mpr c4
  subst c4
  have H1 : (some false) = some true := by rw [if_neg (show ¬ (false = true) by decide)] at H; exact H
  clear H
  have H := H1
  clear H1
  exact absurd H (by simp)

end Go.Proofs.Ytgfiidgigenibaa.Q
