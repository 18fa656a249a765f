-- written by wip/drive.py (this session's program) over the kit's print words
import Derived.Test.YtgfiidgigenibaaQ0
import Derived.Test.YtgfiidgigenibaaQ4
import Derived.Test.YtgfiidgigenibaaQ5
import Derived.Test.YtgfiidgigenibaaQ16
import Derived.Test.YtgfiidgigenibaaQ20
import Derived.Test.YtgfiidgigenibaaQ21
import Derived.Test.YtgfiidgigenibaaQ22
import Derived.Test.YtgfiidgigenibaaQ23
namespace Go.Proofs.Ytgfiidgigenibaa.Q
open Go.RowKit Go.Proofs.YtgfiidgigenibaaW.PrintWords Go.Proofs.YtgfiidgigenibaaW.PrintLast Go.Proofs.YtgfiidgigenibaaW.PrintMore
attribute [local go_sem] max2_int min2_int max_two min_two max_three min_three max_four min_four   -- for this text's walks alone
set_option linter.unusedVariables false
set_option linter.unusedSimpArgs false

/-! ### skiarealaw55_alive0: function 9 -/
mutual
def skiarealaw55_alive0.j0 : Nat → List (S28) → Bool → Option (Bool)
 | 0, _, _ => none
 | k + 1, x1, x53 => if x53 = true then (some false) else ((skiarealaw55_mountain.f).bind fun bt162 => ((census_Egress.f k bt162.1 bt162.2.1 bt162.2.2.1 bt162.2.2.2 (([1, 2] : List Int)) 3).bind fun t178 => (if t178 = 500 then ((census_Egress.f k bt162.1 bt162.2.1 bt162.2.2.1 bt162.2.2.2 (([1] : List Int)) 3).bind fun t182 => (if t182 = 0 then ((census_Egress.f k bt162.1 bt162.2.1 bt162.2.2.1 bt162.2.2.2 ([] : List Int) 1).bind fun t183 => (skiarealaw55_alive0.j1 k x1 (t183 != 1000000) bt162.1 bt162.2.1 bt162.2.2.1 bt162.2.2.2)) else (skiarealaw55_alive0.j1 k x1 true bt162.1 bt162.2.1 bt162.2.2.1 bt162.2.2.2))) else (skiarealaw55_alive0.j1 k x1 true bt162.1 bt162.2.1 bt162.2.2.1 bt162.2.2.2))))
def skiarealaw55_alive0.j1 : Nat → List (S28) → Bool → List (S62) → List (S82) → List (S44) → List Int → Option (Bool)
 | 0, _, _, _, _, _, _ => none
 | k + 1, x1, x69, x175000, x175001, x175002, x175003 => if x69 = true then (some false) else ((census_Empty.f k x175000 x175001 x175002 x175003 (([1, 2] : List Int)) 3 100).bind fun t187 => (if t187 = 720 then ((census_Count.f k x1 1 1 0 11).bind fun t188 => (some (t188 == 5))) else (some false)))
end
def skiarealaw55_alive0.f (k : Nat)  : Option (Bool) := (census_Add.f k ([] : List (S28)) 1 1 5 10).bind fun bt146 => ((census_Add.f k bt146.1 2 1 2 20).bind fun bt150 => ((census_Add.f k bt150.1 2 1 4 20).bind fun bt154 => (if bt146.2 = 0 then (if bt150.2 = 0 then (if bt154.2 = 10 then ((census_On.f k bt150.1 9).bind fun t158 => (if t158 = 0 then ((census_On.f k bt150.1 10).bind fun t159 => (if t159 = 5 then ((census_On.f k bt150.1 20).bind fun t160 => (if t160 = 3 then ((census_Peak.f k bt150.1).bind fun t161 => (skiarealaw55_alive0.j0 k bt150.1 (t161 != 5))) else (skiarealaw55_alive0.j0 k bt150.1 true))) else (skiarealaw55_alive0.j0 k bt150.1 true))) else (skiarealaw55_alive0.j0 k bt150.1 true))) else (skiarealaw55_alive0.j0 k bt150.1 true)) else (skiarealaw55_alive0.j0 k bt150.1 true)) else (skiarealaw55_alive0.j0 k bt150.1 true))))
theorem skiarealaw55_alive0.mono_l : ∀ k, (∀ y0 y1, LeO (skiarealaw55_alive0.j0 k y0 y1) (skiarealaw55_alive0.j0 (k + 1) y0 y1)) ∧ (∀ y0 y1 y2 y3 y4 y5, LeO (skiarealaw55_alive0.j1 k y0 y1 y2 y3 y4 y5) (skiarealaw55_alive0.j1 (k + 1) y0 y1 y2 y3 y4 y5))
 | 0 => ⟨fun _ _ r h => by simp [skiarealaw55_alive0.j0] at h, fun _ _ _ _ _ _ r h => by simp [skiarealaw55_alive0.j1] at h⟩
 | k + 1 => by
  obtain ⟨ih0, ih1⟩ := skiarealaw55_alive0.mono_l k
  refine ⟨?_, ?_⟩
  ·intro y0 y1
   unfold skiarealaw55_alive0.j0
   repeat' first
   | (with_reducible exact ih0 _ _)
   | (with_reducible exact ih1 _ _ _ _ _ _)
   | (with_reducible exact census_Add.mono _ _ _ _ _ _)
   | (with_reducible exact census_Count.mono _ _ _ _ _ _)
   | (with_reducible exact census_Egress.mono _ _ _ _ _ _ _)
   | (with_reducible exact census_Empty.mono _ _ _ _ _ _ _ _)
   | (with_reducible exact census_On.mono _ _ _)
   | (with_reducible exact census_Peak.mono _ _)
   | (with_reducible exact LeO.refl _)
   | (with_reducible exact LeO.none _)
   | (with_reducible refine LeO.ite ?_ ?_)
   | (with_reducible refine LeO.bind ?_ (fun _ => ?_))
   | exact ih0 _ _
   | exact ih1 _ _ _ _ _ _
   | exact census_Add.mono _ _ _ _ _ _
   | exact census_Count.mono _ _ _ _ _ _
   | exact census_Egress.mono _ _ _ _ _ _ _
   | exact census_Empty.mono _ _ _ _ _ _ _ _
   | exact census_On.mono _ _ _
   | exact census_Peak.mono _ _
   | exact LeO.none _
   | refine LeO.ite ?_ ?_
   | refine LeO.bind ?_ (fun _ => ?_)
  ·intro y0 y1 y2 y3 y4 y5
   unfold skiarealaw55_alive0.j1
   repeat' first
   | (with_reducible exact ih0 _ _)
   | (with_reducible exact ih1 _ _ _ _ _ _)
   | (with_reducible exact census_Add.mono _ _ _ _ _ _)
   | (with_reducible exact census_Count.mono _ _ _ _ _ _)
   | (with_reducible exact census_Egress.mono _ _ _ _ _ _ _)
   | (with_reducible exact census_Empty.mono _ _ _ _ _ _ _ _)
   | (with_reducible exact census_On.mono _ _ _)
   | (with_reducible exact census_Peak.mono _ _)
   | (with_reducible exact LeO.refl _)
   | (with_reducible exact LeO.none _)
   | (with_reducible refine LeO.ite ?_ ?_)
   | (with_reducible refine LeO.bind ?_ (fun _ => ?_))
   | exact ih0 _ _
   | exact ih1 _ _ _ _ _ _
   | exact census_Add.mono _ _ _ _ _ _
   | exact census_Count.mono _ _ _ _ _ _
   | exact census_Egress.mono _ _ _ _ _ _ _
   | exact census_Empty.mono _ _ _ _ _ _ _ _
   | exact census_On.mono _ _ _
   | exact census_Peak.mono _ _
   | exact LeO.none _
   | refine LeO.ite ?_ ?_
   | refine LeO.bind ?_ (fun _ => ?_)
theorem skiarealaw55_alive0.mono : ∀ k, LeO (skiarealaw55_alive0.f k ) (skiarealaw55_alive0.f (k + 1) ) := by
 intro  k
 obtain ⟨ih0, ih1⟩ := skiarealaw55_alive0.mono_l k
 unfold skiarealaw55_alive0.f
 repeat' first
   | (with_reducible exact ih0 _ _)
   | (with_reducible exact ih1 _ _ _ _ _ _)
   | (with_reducible exact census_Add.mono _ _ _ _ _ _)
   | (with_reducible exact census_Count.mono _ _ _ _ _ _)
   | (with_reducible exact census_Egress.mono _ _ _ _ _ _ _)
   | (with_reducible exact census_Empty.mono _ _ _ _ _ _ _ _)
   | (with_reducible exact census_On.mono _ _ _)
   | (with_reducible exact census_Peak.mono _ _)
   | (with_reducible exact LeO.refl _)
   | (with_reducible exact LeO.none _)
   | (with_reducible refine LeO.ite ?_ ?_)
   | (with_reducible refine LeO.bind ?_ (fun _ => ?_))
   | exact ih0 _ _
   | exact ih1 _ _ _ _ _ _
   | exact census_Add.mono _ _ _ _ _ _
   | exact census_Count.mono _ _ _ _ _ _
   | exact census_Egress.mono _ _ _ _ _ _ _
   | exact census_Empty.mono _ _ _ _ _ _ _ _
   | exact census_On.mono _ _ _
   | exact census_Peak.mono _ _
   | exact LeO.none _
   | refine LeO.ite ?_ ?_
   | refine LeO.bind ?_ (fun _ => ?_)
set_option maxHeartbeats 8000000 in
set_option maxRecDepth 100000 in
theorem skiarealaw55_alive0.calls (k : Nat)  (w : World) (h : skiarealaw55_alive0.f k  = some true) :
  Calls Try.prog 9 #[] w fun e w' => e = .returned (.bool true) ∧ Below w.heap.size w w' := by
 have hu28 := Try.underlying28
 have hu38 := Try.underlying38
 have hu31 := Try.underlying31
 have HB := a_ (Below.refl w.heap.size w)
 have H : ((census_Add.f k ([] : List (S28)) 1 1 5 10).bind fun bt146 => ((census_Add.f k bt146.1 2 1 2 20).bind fun bt150 => ((census_Add.f k bt150.1 2 1 4 20).bind fun bt154 => (if bt146.2 = 0 then (if bt150.2 = 0 then (if bt154.2 = 10 then ((census_On.f k bt150.1 9).bind fun t158 => (if t158 = 0 then ((census_On.f k bt150.1 10).bind fun t159 => (if t159 = 5 then ((census_On.f k bt150.1 20).bind fun t160 => (if t160 = 3 then ((census_Peak.f k bt150.1).bind fun t161 => (skiarealaw55_alive0.j0 k bt150.1 (t161 != 5))) else (skiarealaw55_alive0.j0 k bt150.1 true))) else (skiarealaw55_alive0.j0 k bt150.1 true))) else (skiarealaw55_alive0.j0 k bt150.1 true))) else (skiarealaw55_alive0.j0 k bt150.1 true)) else (skiarealaw55_alive0.j0 k bt150.1 true)) else (skiarealaw55_alive0.j0 k bt150.1 true))))) = some true := h
 clear h
 replace H := Option.bind_eq_some_iff.mp H
 obtain ⟨⟨t146, t149⟩, A10, H⟩ := H
 replace H : ((census_Add.f k t146 2 1 2 20).bind fun bt150 => ((census_Add.f k bt150.1 2 1 4 20).bind fun bt154 => (if t149 = 0 then (if bt150.2 = 0 then (if bt154.2 = 10 then ((census_On.f k bt150.1 9).bind fun t158 => (if t158 = 0 then ((census_On.f k bt150.1 10).bind fun t159 => (if t159 = 5 then ((census_On.f k bt150.1 20).bind fun t160 => (if t160 = 3 then ((census_Peak.f k bt150.1).bind fun t161 => (skiarealaw55_alive0.j0 k bt150.1 (t161 != 5))) else (skiarealaw55_alive0.j0 k bt150.1 true))) else (skiarealaw55_alive0.j0 k bt150.1 true))) else (skiarealaw55_alive0.j0 k bt150.1 true))) else (skiarealaw55_alive0.j0 k bt150.1 true)) else (skiarealaw55_alive0.j0 k bt150.1 true)) else (skiarealaw55_alive0.j0 k bt150.1 true)))) = some true := H
 have A1 := a_ A10
 clear A10
 replace H := Option.bind_eq_some_iff.mp H
 obtain ⟨⟨t150, t153⟩, A20, H⟩ := H
 replace H : ((census_Add.f k t150 2 1 4 20).bind fun bt154 => (if t149 = 0 then (if t153 = 0 then (if bt154.2 = 10 then ((census_On.f k t150 9).bind fun t158 => (if t158 = 0 then ((census_On.f k t150 10).bind fun t159 => (if t159 = 5 then ((census_On.f k t150 20).bind fun t160 => (if t160 = 3 then ((census_Peak.f k t150).bind fun t161 => (skiarealaw55_alive0.j0 k t150 (t161 != 5))) else (skiarealaw55_alive0.j0 k t150 true))) else (skiarealaw55_alive0.j0 k t150 true))) else (skiarealaw55_alive0.j0 k t150 true))) else (skiarealaw55_alive0.j0 k t150 true)) else (skiarealaw55_alive0.j0 k t150 true)) else (skiarealaw55_alive0.j0 k t150 true))) = some true := H
 have A2 := a_ A20
 clear A20
 replace H := Option.bind_eq_some_iff.mp H
 obtain ⟨⟨t154, t157⟩, A30, H⟩ := H
 replace H : (if t149 = 0 then (if t153 = 0 then (if t157 = 10 then ((census_On.f k t150 9).bind fun t158 => (if t158 = 0 then ((census_On.f k t150 10).bind fun t159 => (if t159 = 5 then ((census_On.f k t150 20).bind fun t160 => (if t160 = 3 then ((census_Peak.f k t150).bind fun t161 => (skiarealaw55_alive0.j0 k t150 (t161 != 5))) else (skiarealaw55_alive0.j0 k t150 true))) else (skiarealaw55_alive0.j0 k t150 true))) else (skiarealaw55_alive0.j0 k t150 true))) else (skiarealaw55_alive0.j0 k t150 true)) else (skiarealaw55_alive0.j0 k t150 true)) else (skiarealaw55_alive0.j0 k t150 true)) = some true := H
 have A3 := a_ A30
 clear A30
 have HC4 := a_ H
 clear H
 go_enter Try.func9, Try.ntmps9
 go_upto_region 4 with (first | ((with_reducible refine gate_callee (f := 17) rfl ?_); refine gs_ (some 9) Try.func17 #[.slice none 0 0, .agg #[.int .i64 1, .int .i64 1, .int .i64 5, .int .i64 10]] ?_; (refine (census_Add.calls k _ _ ([] : List (S28)) 1 1 5 10 t146 t149 _ ?side1 ?side2 A1.out).mono ?_); (case side1 => exact Kd.C_nil _ _); (case side2 => exact Nat.le_refl _); rintro e w5 ⟨v147, rfl, ho0, hb⟩; refine ⟨_, rfl, ?_⟩; have n0_ := a_ (Kd.R_lower ho0 (below_size bel_)); have n1_ := a_ (below_step bel_ hb); clear HB; have HO148 := n0_; have HB := n1_; clear n0_ n1_; (try clear hb); (try clear hb2); (try clear hk); (try clear hi); (try clear ho0); obtain ⟨Ao6, co6, eo6⟩ := Kd.R_slice HO148.out; subst eo6) | ((with_reducible refine gate_callee (f := 17) rfl ?_); refine gs_ (some 15) Try.func17 #[.slice Ao6 t146.length co6, .agg #[.int .i64 2, .int .i64 1, .int .i64 2, .int .i64 20]] ?_; (with_reducible refine (census_Add.calls k _ _ t146 2 1 2 20 t150 t153 _ ?side1 ?side2 A2.out).mono ?_); (case side1 => repeat (first | exact (Kd.R_reads' HO148.out).2.2 | (with_reducible refine Kd.C_alloc ?_ _) | (with_reducible refine Kd.C_drewN ?_ _) | (with_reducible refine Kd.C_drew ?_))); (case side2 => exact (Kd.R_reads' HO148.out).2.1); rintro e w7 ⟨v151, rfl, ho0, hb⟩; refine ⟨_, rfl, ?_⟩; have n0_ := a_ (Kd.R_elder' (kR_ HO148.out) (Kd.R_base ho0) hb); have n1_ := a_ (Kd.R_lower (Kd.R_new' ho0 (Kd.R_lt (kR_ HO148.out))) (below_size bel_)); have n2_ := a_ (below_step bel_ hb); clear HO148; clear HB; have HO148 := n0_; have HO152 := n1_; have HB := n2_; clear n0_ n1_ n2_; (try clear hb); (try clear hb2); (try clear hk); (try clear hi); (try clear ho0); obtain ⟨Ao8, co8, eo8⟩ := Kd.R_slice HO152.out; subst eo8) | ((with_reducible refine gate_callee (f := 17) rfl ?_); refine gs_ (some 21) Try.func17 #[.slice Ao8 t150.length co8, .agg #[.int .i64 2, .int .i64 1, .int .i64 4, .int .i64 20]] ?_; (with_reducible refine (census_Add.calls k _ _ t150 2 1 4 20 t154 t157 _ ?side1 ?side2 A3.out).mono ?_); (case side1 => repeat (first | exact (Kd.R_reads' HO152.out).2.2 | (with_reducible refine Kd.C_alloc ?_ _) | (with_reducible refine Kd.C_drewN ?_ _) | (with_reducible refine Kd.C_drew ?_))); (case side2 => exact (Kd.R_reads' HO152.out).2.1); rintro e w9 ⟨v155, rfl, ho0, hb⟩; refine ⟨_, rfl, ?_⟩; have n0_ := a_ (Kd.R_elder' (kR_ HO148.out) (Kd.R_base ho0) hb); have n1_ := a_ (Kd.R_elder' (kR_ HO152.out) (Kd.R_base ho0) hb); have n2_ := a_ (Kd.R_lower (Kd.R_new' (Kd.R_new' ho0 (Kd.R_lt (kR_ HO148.out))) (Kd.R_lt (kR_ HO152.out))) (below_size bel_)); have n3_ := a_ (below_step bel_ hb); clear HO148; clear HO152; clear HB; have HO148 := n0_; have HO152 := n1_; have HO156 := n2_; have HB := n3_; clear n0_ n1_ n2_ n3_; (try clear hb); (try clear hb2); (try clear hk); (try clear hi); (try clear ho0)))
 (try simp only [Act.put, List.setIfInBounds_toArray, List.set_cons_zero, List.set_cons_succ])
 go_cut [53] (fun v53 wc => ∃ (kq : Nat) (x53_3 : Bool), v53 = .bool x53_3 ∧ Aside0 (skiarealaw55_alive0.j0 kq t150 x53_3 = some true) ∧ Aside0 (kq ≤ k) ∧ Aside0 (Kd.R k28 28 wc w.heap.size (fun _ => True) (.slice Ao8 t150.length co8) t150) ∧ Aside0 (Below w.heap.size w wc))
 case first =>
  have H := HC4.out
  clear HC4
  by_cases c10 : t149 = 0
  ·rw [if_pos c10] at H
   have c10b0 : (t149 == 0) = true := beq_iff_eq.mpr c10
   have c10b1 : (t149 != 0) = false := bne_eq_false_iff_eq.mpr c10
   clear c10
   (first | rw [c10b0] | (simp only [i64_w, i32_w]; rw [c10b0]) | skip)
   by_cases c11 : t153 = 0
   ·rw [if_pos c11] at H
    have c11b0 : (t153 == 0) = true := beq_iff_eq.mpr c11
    have c11b1 : (t153 != 0) = false := bne_eq_false_iff_eq.mpr c11
    clear c11
    by_cases c12 : t157 = 10
    ·rw [if_pos c12] at H
     have c12b0 : (t157 == 10) = true := beq_iff_eq.mpr c12
     have c12b1 : (t157 != 10) = false := bne_eq_false_iff_eq.mpr c12
     clear c12
     replace H := Option.bind_eq_some_iff.mp H
     obtain ⟨t158, A130, H⟩ := H
     replace H : (if t158 = 0 then ((census_On.f k t150 10).bind fun t159 => (if t159 = 5 then ((census_On.f k t150 20).bind fun t160 => (if t160 = 3 then ((census_Peak.f k t150).bind fun t161 => (skiarealaw55_alive0.j0 k t150 (t161 != 5))) else (skiarealaw55_alive0.j0 k t150 true))) else (skiarealaw55_alive0.j0 k t150 true))) else (skiarealaw55_alive0.j0 k t150 true)) = some true := H
     have A13 := a_ A130
     clear A130
     by_cases c14 : t158 = 0
     ·rw [if_pos c14] at H
      have c14b0 : (t158 == 0) = true := beq_iff_eq.mpr c14
      have c14b1 : (t158 != 0) = false := bne_eq_false_iff_eq.mpr c14
      clear c14
      replace H := Option.bind_eq_some_iff.mp H
      obtain ⟨t159, A150, H⟩ := H
      replace H : (if t159 = 5 then ((census_On.f k t150 20).bind fun t160 => (if t160 = 3 then ((census_Peak.f k t150).bind fun t161 => (skiarealaw55_alive0.j0 k t150 (t161 != 5))) else (skiarealaw55_alive0.j0 k t150 true))) else (skiarealaw55_alive0.j0 k t150 true)) = some true := H
      have A15 := a_ A150
      clear A150
      by_cases c16 : t159 = 5
      ·rw [if_pos c16] at H
       have c16b0 : (t159 == 5) = true := beq_iff_eq.mpr c16
       have c16b1 : (t159 != 5) = false := bne_eq_false_iff_eq.mpr c16
       clear c16
       replace H := Option.bind_eq_some_iff.mp H
       obtain ⟨t160, A170, H⟩ := H
       replace H : (if t160 = 3 then ((census_Peak.f k t150).bind fun t161 => (skiarealaw55_alive0.j0 k t150 (t161 != 5))) else (skiarealaw55_alive0.j0 k t150 true)) = some true := H
       have A17 := a_ A170
       clear A170
       by_cases c18 : t160 = 3
       ·rw [if_pos c18] at H
        have c18b0 : (t160 == 3) = true := beq_iff_eq.mpr c18
        have c18b1 : (t160 != 3) = false := bne_eq_false_iff_eq.mpr c18
        clear c18
        replace H := Option.bind_eq_some_iff.mp H
        obtain ⟨t161, A190, H⟩ := H
        replace H : (skiarealaw55_alive0.j0 k t150 (t161 != 5)) = some true := H
        have A19 := a_ A190
        clear A190
        have H' := a_ H
        clear H
        go_wp2_with (first | (go_at_call 11; (with_reducible refine (census_On.calls k _ _ t150 9 t158 _ ?side1 ?side2 A13.out).mono ?_); (case side1 => repeat (first | exact (Kd.R_reads' HO152.out).2.2 | (with_reducible refine Kd.C_alloc ?_ _) | (with_reducible refine Kd.C_drewN ?_ _) | (with_reducible refine Kd.C_drew ?_))); (case side2 => exact (Kd.R_reads' HO152.out).2.1); rintro e w20 ⟨rfl, hb⟩; have n0_ := a_ (Kd.R_below (kR_ HO148.out) hb); have n1_ := a_ (Kd.R_below (kR_ HO152.out) hb); have n2_ := a_ (Kd.R_below (kR_ HO156.out) hb); have n3_ := a_ (below_step bel_ hb); clear HO148; clear HO152; clear HO156; clear HB; have HO148 := n0_; have HO152 := n1_; have HO156 := n2_; have HB := n3_; clear n0_ n1_ n2_ n3_; (try clear hb); (try clear hb2); (try clear hk); (try clear hi)) | (go_at_call 11; (with_reducible refine (census_On.calls k _ _ t150 10 t159 _ ?side1 ?side2 A15.out).mono ?_); (case side1 => repeat (first | exact (Kd.R_reads' HO152.out).2.2 | (with_reducible refine Kd.C_alloc ?_ _) | (with_reducible refine Kd.C_drewN ?_ _) | (with_reducible refine Kd.C_drew ?_))); (case side2 => exact (Kd.R_reads' HO152.out).2.1); rintro e w21 ⟨rfl, hb⟩; have n0_ := a_ (Kd.R_below (kR_ HO148.out) hb); have n1_ := a_ (Kd.R_below (kR_ HO152.out) hb); have n2_ := a_ (Kd.R_below (kR_ HO156.out) hb); have n3_ := a_ (below_step bel_ hb); clear HO148; clear HO152; clear HO156; clear HB; have HO148 := n0_; have HO152 := n1_; have HO156 := n2_; have HB := n3_; clear n0_ n1_ n2_ n3_; (try clear hb); (try clear hb2); (try clear hk); (try clear hi)) | (go_at_call 11; (with_reducible refine (census_On.calls k _ _ t150 20 t160 _ ?side1 ?side2 A17.out).mono ?_); (case side1 => repeat (first | exact (Kd.R_reads' HO152.out).2.2 | (with_reducible refine Kd.C_alloc ?_ _) | (with_reducible refine Kd.C_drewN ?_ _) | (with_reducible refine Kd.C_drew ?_))); (case side2 => exact (Kd.R_reads' HO152.out).2.1); rintro e w22 ⟨rfl, hb⟩; have n0_ := a_ (Kd.R_below (kR_ HO148.out) hb); have n1_ := a_ (Kd.R_below (kR_ HO152.out) hb); have n2_ := a_ (Kd.R_below (kR_ HO156.out) hb); have n3_ := a_ (below_step bel_ hb); clear HO148; clear HO152; clear HO156; clear HB; have HO148 := n0_; have HO152 := n1_; have HO156 := n2_; have HB := n3_; clear n0_ n1_ n2_ n3_; (try clear hb); (try clear hb2); (try clear hk); (try clear hi)) | (go_at_call 22; (with_reducible refine (census_Peak.calls k _ _ t150 t161 _ ?side1 ?side2 A19.out).mono ?_); (case side1 => repeat (first | exact (Kd.R_reads' HO152.out).2.2 | (with_reducible refine Kd.C_alloc ?_ _) | (with_reducible refine Kd.C_drewN ?_ _) | (with_reducible refine Kd.C_drew ?_))); (case side2 => exact (Kd.R_reads' HO152.out).2.1); rintro e w23 ⟨rfl, hb⟩; have n0_ := a_ (Kd.R_below (kR_ HO148.out) hb); have n1_ := a_ (Kd.R_below (kR_ HO152.out) hb); have n2_ := a_ (Kd.R_below (kR_ HO156.out) hb); have n3_ := a_ (below_step bel_ hb); clear HO148; clear HO152; clear HO156; clear HB; have HO148 := n0_; have HO152 := n1_; have HO156 := n2_; have HB := n3_; clear n0_ n1_ n2_ n3_; (try clear hb); (try clear hb2); (try clear hk); (try clear hi)))
        go_meet
        case rel => exact ⟨_, ((t161 != 5)), (by first | rfl | (simp; done) | (simp [*]; done)), H', ⟨by first | omega | exact Nat.le_refl _⟩, ⟨by (with_reducible repeat (first | apply Kd.R_alloc | apply Kd.R_drewN | apply Kd.R_drew)); exact Kd.R_mono HO152.out (fun _ hk => trivial)⟩, ⟨by repeat (first | (with_reducible first | exact HB.out | apply below_alloc | apply pw_below_drewN | apply below_drew1) | exact HB.out)⟩⟩
       ·rw [if_neg c18] at H
        have c18b0 : (t160 == 3) = false := beq_eq_false_iff_ne.mpr c18
        have c18b1 : (t160 != 3) = true := bne_iff_ne.mpr c18
        cases k with
        | zero => exact absurd H (by simp [skiarealaw55_alive0.j0])
        | succ k_ => exact absurd H (by simp [skiarealaw55_alive0.j0])
      ·rw [if_neg c16] at H
       have c16b0 : (t159 == 5) = false := beq_eq_false_iff_ne.mpr c16
       have c16b1 : (t159 != 5) = true := bne_iff_ne.mpr c16
       cases k with
       | zero => exact absurd H (by simp [skiarealaw55_alive0.j0])
       | succ k_ => exact absurd H (by simp [skiarealaw55_alive0.j0])
     ·rw [if_neg c14] at H
      have c14b0 : (t158 == 0) = false := beq_eq_false_iff_ne.mpr c14
      have c14b1 : (t158 != 0) = true := bne_iff_ne.mpr c14
      cases k with
      | zero => exact absurd H (by simp [skiarealaw55_alive0.j0])
      | succ k_ => exact absurd H (by simp [skiarealaw55_alive0.j0])
    ·rw [if_neg c12] at H
     have c12b0 : (t157 == 10) = false := beq_eq_false_iff_ne.mpr c12
     have c12b1 : (t157 != 10) = true := bne_iff_ne.mpr c12
     cases k with
     | zero => exact absurd H (by simp [skiarealaw55_alive0.j0])
     | succ k_ => exact absurd H (by simp [skiarealaw55_alive0.j0])
   ·rw [if_neg c11] at H
    have c11b0 : (t153 == 0) = false := beq_eq_false_iff_ne.mpr c11
    have c11b1 : (t153 != 0) = true := bne_iff_ne.mpr c11
    cases k with
    | zero => exact absurd H (by simp [skiarealaw55_alive0.j0])
    | succ k_ => exact absurd H (by simp [skiarealaw55_alive0.j0])
  ·rw [if_neg c10] at H
   have c10b0 : (t149 == 0) = false := beq_eq_false_iff_ne.mpr c10
   have c10b1 : (t149 != 0) = true := bne_iff_ne.mpr c10
   (first | rw [c10b0] | (simp only [i64_w, i32_w]; rw [c10b0]) | skip)
   cases k with
   | zero => exact absurd H (by simp [skiarealaw55_alive0.j0])
   | succ k_ => exact absurd H (by simp [skiarealaw55_alive0.j0])
 case rest =>
  clear HC4
  try clear c1
  try clear p2
  try clear c9
  try clear c10
  try clear c10b0
  try clear c10b1
  try clear c11
  try clear c11b0
  try clear c11b1
  try clear c12
  try clear c12b0
  try clear c12b1
  try clear c14
  try clear c14b0
  try clear c14b1
  try clear c16
  try clear c16b0
  try clear c16b1
  try clear c17
  try clear c18
  try clear c18b0
  try clear c18b1
  obtain ⟨kq, x53_3, rfl, HA, HJ3, HO_1, HB⟩ := hcut
  cases kq with
  | zero => exact absurd HA.out (by simp [skiarealaw55_alive0.j0])
  | succ kj3 =>
   have H := HA.out
   clear HA
   simp only [skiarealaw55_alive0.j0] at H
   by_cases c24 : x53_3 = true
   ·subst c24
    have H1 : (some false) = some true := by rw [if_pos rfl] at H; exact H
    clear H
    have H := H1
    clear H1
    exact absurd H (by simp)
   ·replace c24 := Bool.eq_false_iff.mpr c24
    subst c24
    have H1 : ((skiarealaw55_mountain.f).bind fun bt162 => ((census_Egress.f kj3 bt162.1 bt162.2.1 bt162.2.2.1 bt162.2.2.2 (([1, 2] : List Int)) 3).bind fun t178 => (if t178 = 500 then ((census_Egress.f kj3 bt162.1 bt162.2.1 bt162.2.2.1 bt162.2.2.2 (([1] : List Int)) 3).bind fun t182 => (if t182 = 0 then ((census_Egress.f kj3 bt162.1 bt162.2.1 bt162.2.2.1 bt162.2.2.2 ([] : List Int) 1).bind fun t183 => (skiarealaw55_alive0.j1 kj3 t150 (t183 != 1000000) bt162.1 bt162.2.1 bt162.2.2.1 bt162.2.2.2)) else (skiarealaw55_alive0.j1 kj3 t150 true bt162.1 bt162.2.1 bt162.2.2.1 bt162.2.2.2))) else (skiarealaw55_alive0.j1 kj3 t150 true bt162.1 bt162.2.1 bt162.2.2.1 bt162.2.2.2)))) = some true := by rw [if_neg (show ¬ (false = true) by decide)] at H; exact H
    clear H
    have H := H1
    clear H1
    replace H := Option.bind_eq_some_iff.mp H
    obtain ⟨⟨t162, t165, t168, t171⟩, A250, H⟩ := H
    replace H : ((census_Egress.f kj3 t162 t165 t168 t171 (([1, 2] : List Int)) 3).bind fun t178 => (if t178 = 500 then ((census_Egress.f kj3 t162 t165 t168 t171 (([1] : List Int)) 3).bind fun t182 => (if t182 = 0 then ((census_Egress.f kj3 t162 t165 t168 t171 ([] : List Int) 1).bind fun t183 => (skiarealaw55_alive0.j1 kj3 t150 (t183 != 1000000) t162 t165 t168 t171)) else (skiarealaw55_alive0.j1 kj3 t150 true t162 t165 t168 t171))) else (skiarealaw55_alive0.j1 kj3 t150 true t162 t165 t168 t171))) = some true := H
    have A25 := a_ A250
    clear A250
    have HC26 := a_ H
    clear H
    go_upto_region 7 with (first | ((with_reducible refine gate_callee (f := 28) rfl ?_); refine gs_ (some 54) Try.func28 #[] ?_; (with_reducible refine (skiarealaw55_mountain.calls  t162 t165 t168 t171 _ A25.out).mono ?_); rintro e w27 ⟨v163, v166, v169, v172, rfl, ho0, ho1, ho2, ho3, hb⟩; refine ⟨_, rfl, ?_⟩; have n0_ := a_ (Kd.R_below (kR_ HO_1.out) hb); have n1_ := a_ (Kd.R_lower ho0 (below_size bel_)); have n2_ := a_ (Kd.R_lower ho1 (below_size bel_)); have n3_ := a_ (Kd.R_lower ho2 (below_size bel_)); have n4_ := a_ (Kd.R_lower ho3 (below_size bel_)); have n5_ := a_ (below_step bel_ hb); clear HO_1; clear HB; have HO_1 := n0_; have HO164 := n1_; have HO167 := n2_; have HO170 := n3_; have HO173 := n4_; have HB := n5_; clear n0_ n1_ n2_ n3_ n4_ n5_; (try clear hb); (try clear hb2); (try clear hk); (try clear hi); (try clear ho0); (try clear ho1); (try clear ho2); (try clear ho3)) | ((with_reducible refine gate_dst (N := 6) rfl ?_); (try (refine gate_guard (by rfl) ?_; dsimp only)); refine box_event ?hg (N := 6) ?hd (cs := #[.slice none 0 0, .slice none 0 0, .slice none 0 0, .slice none 0 0]) (t := 38) ?hr ?_; (case hd => rfl); (case hg => rfl); (case hr => first | (go_simp; done) | (go_simp; rfl)); intro gb174 hg w28 hbox hb; have n0_ := a_ (Kd.R_below (kR_ HO_1.out) hb); have n1_ := a_ (Kd.R_below (kR_ HO164.out) hb); have n2_ := a_ (Kd.R_below (kR_ HO167.out) hb); have n3_ := a_ (Kd.R_below (kR_ HO170.out) hb); have n4_ := a_ (Kd.R_below (kR_ HO173.out) hb); have n5_ := a_ (below_step bel_ hb); have n6_ := a_ (hbox); have n7_ := a_ (bz_ hg : w.heap.size ≤ gb174); have n8_ := a_ (bz_ hg : w.heap.size ≤ gb174); clear HO_1; clear HO164; clear HO167; clear HO170; clear HO173; clear HB; have HO_1 := n0_; have HO164 := n1_; have HO167 := n2_; have HO170 := n3_; have HO173 := n4_; have HB := n5_; have BK174 := n6_; have GW174 := n7_; have GE174 := n8_; clear n0_ n1_ n2_ n3_ n4_ n5_ n6_ n7_ n8_; clear hb hbox hg; obtain ⟨Ao29, co29, eo29⟩ := Kd.R_slice HO164.out; subst eo29; have hcz30_0 := cz_ BK174 0; have hcz30_1 := cz_ BK174 1; have hcz30_2 := cz_ BK174 2; have hcz30_3 := cz_ BK174 3; have hfz30_0 := fz_ BK174 0; have hfz30_1 := fz_ BK174 1; have hfz30_2 := fz_ BK174 2; have hfz30_3 := fz_ BK174 3; obtain ⟨Ao31, co31, eo31⟩ := Kd.R_slice HO167.out; subst eo31; obtain ⟨Ao32, co32, eo32⟩ := Kd.R_slice HO170.out; subst eo32; obtain ⟨Ao33, co33, eo33⟩ := Kd.R_slice HO173.out; subst eo33))
    (try simp only [Act.put, List.setIfInBounds_toArray, List.set_cons_zero, List.set_cons_succ])
    go_cut [69] (fun v69 wc => ∃ (kq : Nat) (x69_25 : Bool), v69 = .bool x69_25 ∧ Aside0 (skiarealaw55_alive0.j1 kq t150 x69_25 t162 t165 t168 t171 = some true) ∧ Aside0 (kq ≤ kj3) ∧ Aside0 (Kd.R k28 28 wc w.heap.size (fun _ => True) (.slice Ao8 t150.length co8) t150) ∧ Aside0 (Kd.R k62 62 wc w.heap.size (fun _ => True) (.slice Ao29 t162.length co29) t162) ∧ Aside0 (Kd.R k82 82 wc w.heap.size (fun _ => True) (.slice Ao31 t165.length co31) t165) ∧ Aside0 (Kd.R k44 44 wc w.heap.size (fun _ => True) (.slice Ao32 t168.length co32) t168) ∧ Aside0 (Kd.R (Kd.int .i64) 3 wc w.heap.size (fun _ => True) (.slice Ao33 t171.length co33) t171) ∧ Aside0 (wc.heap[gb174]? = some (.cells #[(.slice Ao29 t162.length co29), (.slice Ao31 t165.length co31), (.slice Ao32 t168.length co32), (.slice Ao33 t171.length co33)] 38 (0, 0))) ∧ Aside0 (Below w.heap.size w wc))
    case first =>
     have H := HC26.out
     clear HC26
     obtain ⟨y175, hy175⟩ : ∃ y_ : List Int, y_ = (([1, 2] : List Int)) := ⟨_, rfl⟩
     replace H : ((census_Egress.f kj3 t162 t165 t168 t171 y175 3).bind fun t178 => (if t178 = 500 then ((census_Egress.f kj3 t162 t165 t168 t171 (([1] : List Int)) 3).bind fun t182 => (if t182 = 0 then ((census_Egress.f kj3 t162 t165 t168 t171 ([] : List Int) 1).bind fun t183 => (skiarealaw55_alive0.j1 kj3 t150 (t183 != 1000000) t162 t165 t168 t171)) else (skiarealaw55_alive0.j1 kj3 t150 true t162 t165 t168 t171))) else (skiarealaw55_alive0.j1 kj3 t150 true t162 t165 t168 t171))) = some true := by first | (rw [hy175]; with_reducible exact H) | (have H2_ := (Option.bind_some _ _).symm.trans H; rw [hy175]; with_reducible exact H2_) | (have H2_ := (Option.bind_some _ _).symm.trans H; with_reducible exact H2_) | with_reducible exact H | (rw [hy175]; exact H) | exact H
     have Ny175 := a_ hy175
     clear hy175
     replace H := Option.bind_eq_some_iff.mp H
     obtain ⟨t178, A340, H⟩ := H
     replace H : (if t178 = 500 then ((census_Egress.f kj3 t162 t165 t168 t171 (([1] : List Int)) 3).bind fun t182 => (if t182 = 0 then ((census_Egress.f kj3 t162 t165 t168 t171 ([] : List Int) 1).bind fun t183 => (skiarealaw55_alive0.j1 kj3 t150 (t183 != 1000000) t162 t165 t168 t171)) else (skiarealaw55_alive0.j1 kj3 t150 true t162 t165 t168 t171))) else (skiarealaw55_alive0.j1 kj3 t150 true t162 t165 t168 t171)) = some true := H
     have A34 := a_ A340
     clear A340
     by_cases c35 : t178 = 500
     ·rw [if_pos c35] at H
      have c35b0 : (t178 == 500) = true := beq_iff_eq.mpr c35
      have c35b1 : (t178 != 500) = false := bne_eq_false_iff_eq.mpr c35
      clear c35
      (first | rw [c35b0] | (simp only [i64_w, i32_w]; rw [c35b0]) | skip)
      obtain ⟨y179, hy179⟩ : ∃ y_ : List Int, y_ = (([1] : List Int)) := ⟨_, rfl⟩
      replace H : ((census_Egress.f kj3 t162 t165 t168 t171 y179 3).bind fun t182 => (if t182 = 0 then ((census_Egress.f kj3 t162 t165 t168 t171 ([] : List Int) 1).bind fun t183 => (skiarealaw55_alive0.j1 kj3 t150 (t183 != 1000000) t162 t165 t168 t171)) else (skiarealaw55_alive0.j1 kj3 t150 true t162 t165 t168 t171))) = some true := by first | (rw [hy179]; with_reducible exact H) | (have H2_ := (Option.bind_some _ _).symm.trans H; rw [hy179]; with_reducible exact H2_) | (have H2_ := (Option.bind_some _ _).symm.trans H; with_reducible exact H2_) | with_reducible exact H | (rw [hy179]; exact H) | exact H
      have Ny179 := a_ hy179
      clear hy179
      replace H := Option.bind_eq_some_iff.mp H
      obtain ⟨t182, A360, H⟩ := H
      replace H : (if t182 = 0 then ((census_Egress.f kj3 t162 t165 t168 t171 ([] : List Int) 1).bind fun t183 => (skiarealaw55_alive0.j1 kj3 t150 (t183 != 1000000) t162 t165 t168 t171)) else (skiarealaw55_alive0.j1 kj3 t150 true t162 t165 t168 t171)) = some true := H
      have A36 := a_ A360
      clear A360
      by_cases c37 : t182 = 0
      ·rw [if_pos c37] at H
       have c37b0 : (t182 == 0) = true := beq_iff_eq.mpr c37
       have c37b1 : (t182 != 0) = false := bne_eq_false_iff_eq.mpr c37
       clear c37
       replace H := Option.bind_eq_some_iff.mp H
       obtain ⟨t183, A380, H⟩ := H
       replace H : (skiarealaw55_alive0.j1 kj3 t150 (t183 != 1000000) t162 t165 t168 t171) = some true := H
       have A38 := a_ A380
       clear A380
       have H' := a_ H
       clear H
       have hcz39_0 := cz_ BK174 0
       have hcz39_1 := cz_ BK174 1
       have hcz39_2 := cz_ BK174 2
       have hcz39_3 := cz_ BK174 3
       have hfz39_0 := fz_ BK174 0
       have hfz39_1 := fz_ BK174 1
       have hfz39_2 := fz_ BK174 2
       have hfz39_3 := fz_ BK174 3
       go_wp2_with (first | ((with_reducible refine gate_dst (N := 56) rfl ?_); (try (refine gate_guard (by rfl) ?_; dsimp only)); refine Kd.R_lit (Kd.int .i64) _ 3 ?hg (N := 56) ?hd (xs := ([1, 2] : List Int)) (inner := [.int .i64 1, .int .i64 2]) (ok := fun _ => True) (okp := fun _ => True) ?hr ?hp (fun _ hk => hk) trivial (Below.refl _ _) (Nat.le_refl _) (by simp) ?_; (case hd => rfl); (case hg => rfl); (case hr => first | (go_simp; done) | (go_simp; rfl)); (case hp => exact (Reps.one (show Kd.M (Kd.int .i64) _ _ _ 1 [.int .i64 1] from rfl) (Reps.one (show Kd.M (Kd.int .i64) _ _ _ 2 [.int .i64 2] from rfl) (Reps.none _ _)))); intro v176 w40 ho41 hb hg_ hnew_; clear hg_ hnew_; (first | rw [← Ny175.out] at ho41 | (simp only [Int.reduceToNat] at ho41; rw [← Ny175.out] at ho41)); have n0_ := a_ (Kd.R_below (by (with_reducible repeat (first | apply Kd.R_alloc | apply Kd.R_drewN | apply Kd.R_drew)); exact (Kd.R_mono (Kd.R_far (p := ⟨gb174, 3, none⟩) (Kd.R_far (p := ⟨gb174, 2, none⟩) (Kd.R_far (p := ⟨gb174, 1, none⟩) (Kd.R_far (p := ⟨gb174, 0, none⟩) (Kd.R_types HO_1.out BK174.out (by decide)) (fun _ hk => hk.2) (.slice Ao29 t162.length co29)) (fun _ hk => hk.2) (.slice Ao31 t165.length co31)) (fun _ hk => hk.2) (.slice Ao32 t168.length co32)) (fun _ hk => hk.2) (.slice Ao33 t171.length co33)) (fun _ h_ => h_.1))) hb); have n1_ := a_ (Kd.R_below (by (with_reducible repeat (first | apply Kd.R_alloc | apply Kd.R_drewN | apply Kd.R_drew)); exact (Kd.R_mono (Kd.R_far (p := ⟨gb174, 3, none⟩) (Kd.R_far (p := ⟨gb174, 2, none⟩) (Kd.R_far (p := ⟨gb174, 1, none⟩) (Kd.R_far (p := ⟨gb174, 0, none⟩) (Kd.R_types HO164.out BK174.out (by decide)) (fun _ hk => hk.2) (.slice Ao29 t162.length co29)) (fun _ hk => hk.2) (.slice Ao31 t165.length co31)) (fun _ hk => hk.2) (.slice Ao32 t168.length co32)) (fun _ hk => hk.2) (.slice Ao33 t171.length co33)) (fun _ h_ => h_.1))) hb); have n2_ := a_ (Kd.R_below (by (with_reducible repeat (first | apply Kd.R_alloc | apply Kd.R_drewN | apply Kd.R_drew)); exact (Kd.R_mono (Kd.R_far (p := ⟨gb174, 3, none⟩) (Kd.R_far (p := ⟨gb174, 2, none⟩) (Kd.R_far (p := ⟨gb174, 1, none⟩) (Kd.R_far (p := ⟨gb174, 0, none⟩) (Kd.R_types HO167.out BK174.out (by decide)) (fun _ hk => hk.2) (.slice Ao29 t162.length co29)) (fun _ hk => hk.2) (.slice Ao31 t165.length co31)) (fun _ hk => hk.2) (.slice Ao32 t168.length co32)) (fun _ hk => hk.2) (.slice Ao33 t171.length co33)) (fun _ h_ => h_.1))) hb); have n3_ := a_ (Kd.R_below (by (with_reducible repeat (first | apply Kd.R_alloc | apply Kd.R_drewN | apply Kd.R_drew)); exact (Kd.R_mono (Kd.R_far (p := ⟨gb174, 3, none⟩) (Kd.R_far (p := ⟨gb174, 2, none⟩) (Kd.R_far (p := ⟨gb174, 1, none⟩) (Kd.R_far (p := ⟨gb174, 0, none⟩) (Kd.R_types HO170.out BK174.out (by decide)) (fun _ hk => hk.2) (.slice Ao29 t162.length co29)) (fun _ hk => hk.2) (.slice Ao31 t165.length co31)) (fun _ hk => hk.2) (.slice Ao32 t168.length co32)) (fun _ hk => hk.2) (.slice Ao33 t171.length co33)) (fun _ h_ => h_.1))) hb); have n4_ := a_ (Kd.R_elder' (by (with_reducible repeat (first | apply Kd.R_alloc | apply Kd.R_drewN | apply Kd.R_drew)); exact (Kd.R_mono (Kd.R_far (p := ⟨gb174, 3, none⟩) (Kd.R_far (p := ⟨gb174, 2, none⟩) (Kd.R_far (p := ⟨gb174, 1, none⟩) (Kd.R_far (p := ⟨gb174, 0, none⟩) (Kd.R_types HO173.out BK174.out (by decide)) (fun _ hk => hk.2) (.slice Ao29 t162.length co29)) (fun _ hk => hk.2) (.slice Ao31 t165.length co31)) (fun _ hk => hk.2) (.slice Ao32 t168.length co32)) (fun _ hk => hk.2) (.slice Ao33 t171.length co33)) (fun _ h_ => h_.1))) (Kd.R_base ho41) hb); have n5_ := a_ (Kd.R_lower (Kd.R_new' ho41 (Kd.R_lt (by (with_reducible repeat (first | apply Kd.R_alloc | apply Kd.R_drewN | apply Kd.R_drew)); exact (Kd.R_mono (Kd.R_far (p := ⟨gb174, 3, none⟩) (Kd.R_far (p := ⟨gb174, 2, none⟩) (Kd.R_far (p := ⟨gb174, 1, none⟩) (Kd.R_far (p := ⟨gb174, 0, none⟩) (Kd.R_types HO173.out BK174.out (by decide)) (fun _ hk => hk.2) (.slice Ao29 t162.length co29)) (fun _ hk => hk.2) (.slice Ao31 t165.length co31)) (fun _ hk => hk.2) (.slice Ao32 t168.length co32)) (fun _ hk => hk.2) (.slice Ao33 t171.length co33)) (fun _ h_ => h_.1))))) (below_size bel_)); have n6_ := a_ (blk_below (g := gb174) (o := .cells #[.slice Ao29 t162.length co29, .slice Ao31 t165.length co31, .slice Ao32 t168.length co32, .slice Ao33 t171.length co33] 38 (0, 0)) (by refine blk_put (cs := #[.slice Ao29 t162.length co29, .slice Ao31 t165.length co31, .slice Ao32 t168.length co32, .slice none 0 0]) ?_ 3 _ rfl; refine blk_put (cs := #[.slice Ao29 t162.length co29, .slice Ao31 t165.length co31, .slice none 0 0, .slice none 0 0]) ?_ 2 _ rfl; refine blk_put (cs := #[.slice Ao29 t162.length co29, .slice none 0 0, .slice none 0 0, .slice none 0 0]) ?_ 1 _ rfl; refine blk_put (cs := #[.slice none 0 0, .slice none 0 0, .slice none 0 0, .slice none 0 0]) ?_ 0 _ rfl; exact BK174.out) hb); have n7_ := a_ (below_step bel_ hb); clear HO_1; clear HO164; clear HO167; clear HO170; clear HO173; clear BK174; clear HB; have HO_1 := n0_; have HO164 := n1_; have HO167 := n2_; have HO170 := n3_; have HO173 := n4_; have HO177 := n5_; have BK174 := n6_; have HB := n7_; clear n0_ n1_ n2_ n3_ n4_ n5_ n6_ n7_; clear hb ho41; obtain ⟨Ao42, co42, eo42⟩ := Kd.R_slice HO177.out; subst eo42) | ((with_reducible refine gate_callee (f := 14) rfl ?_); refine gs_ (some 57) Try.func14 #[.agg #[.slice Ao29 t162.length co29, .slice Ao31 t165.length co31, .slice Ao32 t168.length co32, .slice Ao33 t171.length co33], .slice Ao42 y175.length co42, .int .i64 3] ?_; (with_reducible refine (census_Egress.calls kj3 _ _ t162 _ _ t165 _ _ t168 _ _ t171 _ _ y175 3 t178 _ ?side1 ?side2 ?side3 ?side4 ?side5 ?side6 ?side7 ?side8 ?side9 ?side10 A34.out).mono ?_); (case side1 => repeat (first | exact (Kd.R_reads' HO164.out).2.2 | (with_reducible refine Kd.C_alloc ?_ _) | (with_reducible refine Kd.C_drewN ?_ _) | (with_reducible refine Kd.C_drew ?_))); (case side2 => exact (Kd.R_reads' HO164.out).2.1); (case side3 => repeat (first | exact (Kd.R_reads' HO167.out).2.2 | (with_reducible refine Kd.C_alloc ?_ _) | (with_reducible refine Kd.C_drewN ?_ _) | (with_reducible refine Kd.C_drew ?_))); (case side4 => exact (Kd.R_reads' HO167.out).2.1); (case side5 => repeat (first | exact (Kd.R_reads' HO170.out).2.2 | (with_reducible refine Kd.C_alloc ?_ _) | (with_reducible refine Kd.C_drewN ?_ _) | (with_reducible refine Kd.C_drew ?_))); (case side6 => exact (Kd.R_reads' HO170.out).2.1); (case side7 => repeat (first | exact (Kd.R_reads' HO173.out).2.2 | (with_reducible refine Kd.C_alloc ?_ _) | (with_reducible refine Kd.C_drewN ?_ _) | (with_reducible refine Kd.C_drew ?_))); (case side8 => exact (Kd.R_reads' HO173.out).2.1); (case side9 => repeat (first | exact (Kd.R_reads' HO177.out).2.2 | (with_reducible refine Kd.C_alloc ?_ _) | (with_reducible refine Kd.C_drewN ?_ _) | (with_reducible refine Kd.C_drew ?_))); (case side10 => exact (Kd.R_reads' HO177.out).2.1); rintro e w43 ⟨rfl, hb⟩; refine ⟨_, rfl, ?_⟩; have n0_ := a_ (Kd.R_below (kR_ HO_1.out) hb); have n1_ := a_ (Kd.R_below (kR_ HO164.out) hb); have n2_ := a_ (Kd.R_below (kR_ HO167.out) hb); have n3_ := a_ (Kd.R_below (kR_ HO170.out) hb); have n4_ := a_ (Kd.R_below (kR_ HO173.out) hb); have n5_ := a_ (Kd.R_below (kR_ HO177.out) hb); have n6_ := a_ (blk_below (g := gb174) (o := .cells #[.slice Ao29 t162.length co29, .slice Ao31 t165.length co31, .slice Ao32 t168.length co32, .slice Ao33 t171.length co33] 38 (0, 0)) (by exact BK174.out) hb); have n7_ := a_ (below_step bel_ hb); clear HO_1; clear HO164; clear HO167; clear HO170; clear HO173; clear HO177; clear BK174; clear HB; have HO_1 := n0_; have HO164 := n1_; have HO167 := n2_; have HO170 := n3_; have HO173 := n4_; have HO177 := n5_; have BK174 := n6_; have HB := n7_; clear n0_ n1_ n2_ n3_ n4_ n5_ n6_ n7_; (try clear hb); (try clear hb2); (try clear hk); (try clear hi); have hcz44_0 := cz_ BK174 0; have hcz44_1 := cz_ BK174 1; have hcz44_2 := cz_ BK174 2; have hcz44_3 := cz_ BK174 3; have hfz44_0 := fz_ BK174 0; have hfz44_1 := fz_ BK174 1; have hfz44_2 := fz_ BK174 2; have hfz44_3 := fz_ BK174 3) | ((with_reducible refine gate_dst (N := 61) rfl ?_); (try (refine gate_guard (by rfl) ?_; dsimp only)); refine Kd.R_lit (Kd.int .i64) _ 3 ?hg (N := 61) ?hd (xs := ([1] : List Int)) (inner := [.int .i64 1]) (ok := fun _ => True) (okp := fun _ => True) ?hr ?hp (fun _ hk => hk) trivial (Below.refl _ _) (Nat.le_refl _) (by simp) ?_; (case hd => rfl); (case hg => rfl); (case hr => first | (go_simp; done) | (go_simp; rfl)); (case hp => exact (Reps.one (show Kd.M (Kd.int .i64) _ _ _ 1 [.int .i64 1] from rfl) (Reps.none _ _))); intro v180 w45 ho46 hb hg_ hnew_; clear hg_ hnew_; (first | rw [← Ny179.out] at ho46 | (simp only [Int.reduceToNat] at ho46; rw [← Ny179.out] at ho46)); have n0_ := a_ (Kd.R_below (kR_ HO_1.out) hb); have n1_ := a_ (Kd.R_below (kR_ HO164.out) hb); have n2_ := a_ (Kd.R_below (kR_ HO167.out) hb); have n3_ := a_ (Kd.R_below (kR_ HO170.out) hb); have n4_ := a_ (Kd.R_elder' (kR_ HO173.out) (Kd.R_base ho46) hb); have n5_ := a_ (Kd.R_elder' (kR_ HO177.out) (Kd.R_base ho46) hb); have n6_ := a_ (Kd.R_lower (Kd.R_new' (Kd.R_new' ho46 (Kd.R_lt (kR_ HO173.out))) (Kd.R_lt (kR_ HO177.out))) (below_size bel_)); have n7_ := a_ (blk_below (g := gb174) (o := .cells #[.slice Ao29 t162.length co29, .slice Ao31 t165.length co31, .slice Ao32 t168.length co32, .slice Ao33 t171.length co33] 38 (0, 0)) (by exact BK174.out) hb); have n8_ := a_ (below_step bel_ hb); clear HO_1; clear HO164; clear HO167; clear HO170; clear HO173; clear HO177; clear BK174; clear HB; have HO_1 := n0_; have HO164 := n1_; have HO167 := n2_; have HO170 := n3_; have HO173 := n4_; have HO177 := n5_; have HO181 := n6_; have BK174 := n7_; have HB := n8_; clear n0_ n1_ n2_ n3_ n4_ n5_ n6_ n7_ n8_; clear hb ho46; obtain ⟨Ao47, co47, eo47⟩ := Kd.R_slice HO181.out; subst eo47) | (go_at_call 14; (with_reducible refine (census_Egress.calls kj3 _ _ t162 _ _ t165 _ _ t168 _ _ t171 _ _ y179 3 t182 _ ?side1 ?side2 ?side3 ?side4 ?side5 ?side6 ?side7 ?side8 ?side9 ?side10 A36.out).mono ?_); (case side1 => repeat (first | exact (Kd.R_reads' HO164.out).2.2 | (with_reducible refine Kd.C_alloc ?_ _) | (with_reducible refine Kd.C_drewN ?_ _) | (with_reducible refine Kd.C_drew ?_))); (case side2 => exact (Kd.R_reads' HO164.out).2.1); (case side3 => repeat (first | exact (Kd.R_reads' HO167.out).2.2 | (with_reducible refine Kd.C_alloc ?_ _) | (with_reducible refine Kd.C_drewN ?_ _) | (with_reducible refine Kd.C_drew ?_))); (case side4 => exact (Kd.R_reads' HO167.out).2.1); (case side5 => repeat (first | exact (Kd.R_reads' HO170.out).2.2 | (with_reducible refine Kd.C_alloc ?_ _) | (with_reducible refine Kd.C_drewN ?_ _) | (with_reducible refine Kd.C_drew ?_))); (case side6 => exact (Kd.R_reads' HO170.out).2.1); (case side7 => repeat (first | exact (Kd.R_reads' HO173.out).2.2 | (with_reducible refine Kd.C_alloc ?_ _) | (with_reducible refine Kd.C_drewN ?_ _) | (with_reducible refine Kd.C_drew ?_))); (case side8 => exact (Kd.R_reads' HO173.out).2.1); (case side9 => repeat (first | exact (Kd.R_reads' HO181.out).2.2 | (with_reducible refine Kd.C_alloc ?_ _) | (with_reducible refine Kd.C_drewN ?_ _) | (with_reducible refine Kd.C_drew ?_))); (case side10 => exact (Kd.R_reads' HO181.out).2.1); rintro e w48 ⟨rfl, hb⟩; have n0_ := a_ (Kd.R_below (kR_ HO_1.out) hb); have n1_ := a_ (Kd.R_below (kR_ HO164.out) hb); have n2_ := a_ (Kd.R_below (kR_ HO167.out) hb); have n3_ := a_ (Kd.R_below (kR_ HO170.out) hb); have n4_ := a_ (Kd.R_below (kR_ HO173.out) hb); have n5_ := a_ (Kd.R_below (kR_ HO177.out) hb); have n6_ := a_ (Kd.R_below (kR_ HO181.out) hb); have n7_ := a_ (blk_below (g := gb174) (o := .cells #[.slice Ao29 t162.length co29, .slice Ao31 t165.length co31, .slice Ao32 t168.length co32, .slice Ao33 t171.length co33] 38 (0, 0)) (by exact BK174.out) hb); have n8_ := a_ (below_step bel_ hb); clear HO_1; clear HO164; clear HO167; clear HO170; clear HO173; clear HO177; clear HO181; clear BK174; clear HB; have HO_1 := n0_; have HO164 := n1_; have HO167 := n2_; have HO170 := n3_; have HO173 := n4_; have HO177 := n5_; have HO181 := n6_; have BK174 := n7_; have HB := n8_; clear n0_ n1_ n2_ n3_ n4_ n5_ n6_ n7_ n8_; (try clear hb); (try clear hb2); (try clear hk); (try clear hi); have hcz49_0 := cz_ BK174 0; have hcz49_1 := cz_ BK174 1; have hcz49_2 := cz_ BK174 2; have hcz49_3 := cz_ BK174 3; have hfz49_0 := fz_ BK174 0; have hfz49_1 := fz_ BK174 1; have hfz49_2 := fz_ BK174 2; have hfz49_3 := fz_ BK174 3) | (go_at_call 14; (refine (census_Egress.calls kj3 _ _ t162 _ _ t165 _ _ t168 _ _ t171 _ _ ([] : List Int) 1 t183 _ ?side1 ?side2 ?side3 ?side4 ?side5 ?side6 ?side7 ?side8 ?side9 ?side10 A38.out).mono ?_); (case side1 => repeat (first | exact (Kd.R_reads' HO164.out).2.2 | (with_reducible refine Kd.C_alloc ?_ _) | (with_reducible refine Kd.C_drewN ?_ _) | (with_reducible refine Kd.C_drew ?_))); (case side2 => exact (Kd.R_reads' HO164.out).2.1); (case side3 => repeat (first | exact (Kd.R_reads' HO167.out).2.2 | (with_reducible refine Kd.C_alloc ?_ _) | (with_reducible refine Kd.C_drewN ?_ _) | (with_reducible refine Kd.C_drew ?_))); (case side4 => exact (Kd.R_reads' HO167.out).2.1); (case side5 => repeat (first | exact (Kd.R_reads' HO170.out).2.2 | (with_reducible refine Kd.C_alloc ?_ _) | (with_reducible refine Kd.C_drewN ?_ _) | (with_reducible refine Kd.C_drew ?_))); (case side6 => exact (Kd.R_reads' HO170.out).2.1); (case side7 => repeat (first | exact (Kd.R_reads' HO173.out).2.2 | (with_reducible refine Kd.C_alloc ?_ _) | (with_reducible refine Kd.C_drewN ?_ _) | (with_reducible refine Kd.C_drew ?_))); (case side8 => exact (Kd.R_reads' HO173.out).2.1); (case side9 => exact Kd.C_nil _ _); (case side10 => exact Nat.le_refl _); rintro e w50 ⟨rfl, hb⟩; have n0_ := a_ (Kd.R_below (kR_ HO_1.out) hb); have n1_ := a_ (Kd.R_below (kR_ HO164.out) hb); have n2_ := a_ (Kd.R_below (kR_ HO167.out) hb); have n3_ := a_ (Kd.R_below (kR_ HO170.out) hb); have n4_ := a_ (Kd.R_below (kR_ HO173.out) hb); have n5_ := a_ (Kd.R_below (kR_ HO177.out) hb); have n6_ := a_ (Kd.R_below (kR_ HO181.out) hb); have n7_ := a_ (blk_below (g := gb174) (o := .cells #[.slice Ao29 t162.length co29, .slice Ao31 t165.length co31, .slice Ao32 t168.length co32, .slice Ao33 t171.length co33] 38 (0, 0)) (by exact BK174.out) hb); have n8_ := a_ (below_step bel_ hb); clear HO_1; clear HO164; clear HO167; clear HO170; clear HO173; clear HO177; clear HO181; clear BK174; clear HB; have HO_1 := n0_; have HO164 := n1_; have HO167 := n2_; have HO170 := n3_; have HO173 := n4_; have HO177 := n5_; have HO181 := n6_; have BK174 := n7_; have HB := n8_; clear n0_ n1_ n2_ n3_ n4_ n5_ n6_ n7_ n8_; (try clear hb); (try clear hb2); (try clear hk); (try clear hi)))
       go_meet
       case rel => exact ⟨_, ((t183 != 1000000)), (by first | rfl | (simp; done) | (simp [*]; done)), H', ⟨by have := HJ3.out; first | omega | exact Nat.le_refl _⟩, ⟨by (with_reducible repeat (first | apply Kd.R_alloc | apply Kd.R_drewN | apply Kd.R_drew)); exact HO_1.out⟩, ⟨by (with_reducible repeat (first | apply Kd.R_alloc | apply Kd.R_drewN | apply Kd.R_drew)); exact HO164.out⟩, ⟨by (with_reducible repeat (first | apply Kd.R_alloc | apply Kd.R_drewN | apply Kd.R_drew)); exact HO167.out⟩, ⟨by (with_reducible repeat (first | apply Kd.R_alloc | apply Kd.R_drewN | apply Kd.R_drew)); exact HO170.out⟩, ⟨by (with_reducible repeat (first | apply Kd.R_alloc | apply Kd.R_drewN | apply Kd.R_drew)); exact Kd.R_mono HO173.out (fun _ hk => trivial)⟩, ⟨by exact BK174.out⟩, ⟨by repeat (first | (with_reducible first | exact HB.out | apply below_alloc | apply pw_below_drewN | apply below_drew1 | refine below_set ?_ GE174.out) | exact HB.out)⟩⟩
      ·rw [if_neg c37] at H
       have c37b0 : (t182 == 0) = false := beq_eq_false_iff_ne.mpr c37
       have c37b1 : (t182 != 0) = true := bne_iff_ne.mpr c37
       cases kj3 with
       | zero => exact absurd H (by simp [skiarealaw55_alive0.j1])
       | succ k_ => exact absurd H (by simp [skiarealaw55_alive0.j1])
     ·rw [if_neg c35] at H
      have c35b0 : (t178 == 500) = false := beq_eq_false_iff_ne.mpr c35
      have c35b1 : (t178 != 500) = true := bne_iff_ne.mpr c35
      (first | rw [c35b0] | (simp only [i64_w, i32_w]; rw [c35b0]) | skip)
      cases kj3 with
      | zero => exact absurd H (by simp [skiarealaw55_alive0.j1])
      | succ k_ => exact absurd H (by simp [skiarealaw55_alive0.j1])
    case rest =>
     clear HC26
     try clear c1
     try clear c2
     try clear p2
     try clear c3
     try clear c9
     try clear c10
     try clear c10b0
     try clear c10b1
     try clear c11
     try clear c11b0
     try clear c11b1
     try clear c12
     try clear c12b0
     try clear c12b1
     try clear c14
     try clear c14b0
     try clear c14b1
     try clear c16
     try clear c16b0
     try clear c16b1
     try clear c17
     try clear c18
     try clear c18b0
     try clear c18b1
     try clear c24
     try clear c28
     try clear c35
     try clear c35b0
     try clear c35b1
     try clear c37
     try clear c37b0
     try clear c37b1
     try clear hcz30_0
     try clear hcz30_1
     try clear hcz30_2
     try clear hcz30_3
     try clear hcz39_0
     try clear hcz39_1
     try clear hcz39_2
     try clear hcz39_3
     try clear hcz44_0
     try clear hcz44_1
     try clear hcz44_2
     try clear hcz44_3
     try clear hcz49_0
     try clear hcz49_1
     try clear hcz49_2
     try clear hcz49_3
     try clear hfz30_0
     try clear hfz30_1
     try clear hfz30_2
     try clear hfz30_3
     try clear hfz39_0
     try clear hfz39_1
     try clear hfz39_2
     try clear hfz39_3
     try clear hfz44_0
     try clear hfz44_1
     try clear hfz44_2
     try clear hfz44_3
     try clear hfz49_0
     try clear hfz49_1
     try clear hfz49_2
     try clear hfz49_3
     try clear p2
     obtain ⟨kq, x69_25, rfl, HA, HJ25, HO_1, HO_175000, HO_175001, HO_175002, HO_175003, BK174, HB⟩ := hcut
     cases kq with
     | zero => exact absurd HA.out (by simp [skiarealaw55_alive0.j1])
     | succ kj25 =>
      have H := HA.out
      clear HA
      simp only [skiarealaw55_alive0.j1] at H
      by_cases c51 : x69_25 = true
      ·subst c51
       have H1 : (some false) = some true := by rw [if_pos rfl] at H; exact H
       clear H
       have H := H1
       clear H1
       exact absurd H (by simp)
      ·replace c51 := Bool.eq_false_iff.mpr c51
       subst c51
       have H1 : ((census_Empty.f kj25 t162 t165 t168 t171 (([1, 2] : List Int)) 3 100).bind fun t187 => (if t187 = 720 then ((census_Count.f kj25 t150 1 1 0 11).bind fun t188 => (some (t188 == 5))) else (some false))) = some true := by rw [if_neg (show ¬ (false = true) by decide)] at H; exact H
       clear H
       have H := H1
       clear H1
       obtain ⟨y184, hy184⟩ : ∃ y_ : List Int, y_ = (([1, 2] : List Int)) := ⟨_, rfl⟩
       replace H : ((census_Empty.f kj25 t162 t165 t168 t171 y184 3 100).bind fun t187 => (if t187 = 720 then ((census_Count.f kj25 t150 1 1 0 11).bind fun t188 => (some (t188 == 5))) else (some false))) = some true := by first | (rw [hy184]; with_reducible exact H) | (have H2_ := (Option.bind_some _ _).symm.trans H; rw [hy184]; with_reducible exact H2_) | (have H2_ := (Option.bind_some _ _).symm.trans H; with_reducible exact H2_) | with_reducible exact H | (rw [hy184]; exact H) | exact H
       have Ny184 := a_ hy184
       clear hy184
       replace H := Option.bind_eq_some_iff.mp H
       obtain ⟨t187, A520, H⟩ := H
       replace H : (if t187 = 720 then ((census_Count.f kj25 t150 1 1 0 11).bind fun t188 => (some (t188 == 5))) else (some false)) = some true := H
       have A52 := a_ A520
       clear A520
       by_cases c53 : t187 = 720
       ·rw [if_pos c53] at H
        have c53b0 : (t187 == 720) = true := beq_iff_eq.mpr c53
        have c53b1 : (t187 != 720) = false := bne_eq_false_iff_eq.mpr c53
        clear c53
        replace H := Option.bind_eq_some_iff.mp H
        obtain ⟨t188, A540, H⟩ := H
        replace H : (some (t188 == 5)) = some true := H
        have A54 := a_ A540
        clear A540
        have HTR := a_ (Option.some.inj H)
        clear H
        have hcz55_0 := cz_ BK174 0
        have hcz55_1 := cz_ BK174 1
        have hcz55_2 := cz_ BK174 2
        have hcz55_3 := cz_ BK174 3
        have hfz55_0 := fz_ BK174 0
        have hfz55_1 := fz_ BK174 1
        have hfz55_2 := fz_ BK174 2
        have hfz55_3 := fz_ BK174 3
        go_wp2_with (first | ((with_reducible refine gate_dst (N := 71) rfl ?_); (try (refine gate_guard (by rfl) ?_; dsimp only)); refine Kd.R_lit (Kd.int .i64) _ 3 ?hg (N := 71) ?hd (xs := ([1, 2] : List Int)) (inner := [.int .i64 1, .int .i64 2]) (ok := fun _ => True) (okp := fun _ => True) ?hr ?hp (fun _ hk => hk) trivial (Below.refl _ _) (Nat.le_refl _) (by simp) ?_; (case hd => rfl); (case hg => rfl); (case hr => first | (go_simp; done) | (go_simp; rfl)); (case hp => exact (Reps.one (show Kd.M (Kd.int .i64) _ _ _ 1 [.int .i64 1] from rfl) (Reps.one (show Kd.M (Kd.int .i64) _ _ _ 2 [.int .i64 2] from rfl) (Reps.none _ _)))); intro v185 w56 ho57 hb hg_ hnew_; clear hg_ hnew_; (first | rw [← Ny184.out] at ho57 | (simp only [Int.reduceToNat] at ho57; rw [← Ny184.out] at ho57)); have n0_ := a_ (Kd.R_below (kR_ HO_1.out) hb); have n1_ := a_ (Kd.R_below (kR_ HO_175000.out) hb); have n2_ := a_ (Kd.R_below (kR_ HO_175001.out) hb); have n3_ := a_ (Kd.R_below (kR_ HO_175002.out) hb); have n4_ := a_ (Kd.R_elder' (kR_ HO_175003.out) (Kd.R_base ho57) hb); have n5_ := a_ (Kd.R_lower (Kd.R_new' ho57 (Kd.R_lt (kR_ HO_175003.out))) (below_size bel_)); have n6_ := a_ (blk_below (g := gb174) (o := .cells #[.slice Ao29 t162.length co29, .slice Ao31 t165.length co31, .slice Ao32 t168.length co32, .slice Ao33 t171.length co33] 38 (0, 0)) (by exact BK174.out) hb); have n7_ := a_ (below_step bel_ hb); clear HO_1; clear HO_175000; clear HO_175001; clear HO_175002; clear HO_175003; clear BK174; clear HB; have HO_1 := n0_; have HO_175000 := n1_; have HO_175001 := n2_; have HO_175002 := n3_; have HO_175003 := n4_; have HO186 := n5_; have BK174 := n6_; have HB := n7_; clear n0_ n1_ n2_ n3_ n4_ n5_ n6_ n7_; clear hb ho57; obtain ⟨Ao58, co58, eo58⟩ := Kd.R_slice HO186.out; subst eo58) | ((with_reducible refine gate_callee (f := 26) rfl ?_); refine gs_ (some 72) Try.func26 #[.agg #[.slice Ao29 t162.length co29, .slice Ao31 t165.length co31, .slice Ao32 t168.length co32, .slice Ao33 t171.length co33], .slice Ao58 y184.length co58, .int .i64 3, .int .i64 100] ?_; (with_reducible refine (census_Empty.calls kj25 _ _ t162 _ _ t165 _ _ t168 _ _ t171 _ _ y184 3 100 t187 _ ?side1 ?side2 ?side3 ?side4 ?side5 ?side6 ?side7 ?side8 ?side9 ?side10 A52.out).mono ?_); (case side1 => repeat (first | exact (Kd.R_reads' HO_175000.out).2.2 | (with_reducible refine Kd.C_alloc ?_ _) | (with_reducible refine Kd.C_drewN ?_ _) | (with_reducible refine Kd.C_drew ?_))); (case side2 => exact (Kd.R_reads' HO_175000.out).2.1); (case side3 => repeat (first | exact (Kd.R_reads' HO_175001.out).2.2 | (with_reducible refine Kd.C_alloc ?_ _) | (with_reducible refine Kd.C_drewN ?_ _) | (with_reducible refine Kd.C_drew ?_))); (case side4 => exact (Kd.R_reads' HO_175001.out).2.1); (case side5 => repeat (first | exact (Kd.R_reads' HO_175002.out).2.2 | (with_reducible refine Kd.C_alloc ?_ _) | (with_reducible refine Kd.C_drewN ?_ _) | (with_reducible refine Kd.C_drew ?_))); (case side6 => exact (Kd.R_reads' HO_175002.out).2.1); (case side7 => repeat (first | exact (Kd.R_reads' HO_175003.out).2.2 | (with_reducible refine Kd.C_alloc ?_ _) | (with_reducible refine Kd.C_drewN ?_ _) | (with_reducible refine Kd.C_drew ?_))); (case side8 => exact (Kd.R_reads' HO_175003.out).2.1); (case side9 => repeat (first | exact (Kd.R_reads' HO186.out).2.2 | (with_reducible refine Kd.C_alloc ?_ _) | (with_reducible refine Kd.C_drewN ?_ _) | (with_reducible refine Kd.C_drew ?_))); (case side10 => exact (Kd.R_reads' HO186.out).2.1); rintro e w59 ⟨rfl, hb⟩; refine ⟨_, rfl, ?_⟩; have n0_ := a_ (Kd.R_below (kR_ HO_1.out) hb); have n1_ := a_ (Kd.R_below (kR_ HO_175000.out) hb); have n2_ := a_ (Kd.R_below (kR_ HO_175001.out) hb); have n3_ := a_ (Kd.R_below (kR_ HO_175002.out) hb); have n4_ := a_ (Kd.R_below (kR_ HO_175003.out) hb); have n5_ := a_ (Kd.R_below (kR_ HO186.out) hb); have n6_ := a_ (blk_below (g := gb174) (o := .cells #[.slice Ao29 t162.length co29, .slice Ao31 t165.length co31, .slice Ao32 t168.length co32, .slice Ao33 t171.length co33] 38 (0, 0)) (by exact BK174.out) hb); have n7_ := a_ (below_step bel_ hb); clear HO_1; clear HO_175000; clear HO_175001; clear HO_175002; clear HO_175003; clear HO186; clear BK174; clear HB; have HO_1 := n0_; have HO_175000 := n1_; have HO_175001 := n2_; have HO_175002 := n3_; have HO_175003 := n4_; have HO186 := n5_; have BK174 := n6_; have HB := n7_; clear n0_ n1_ n2_ n3_ n4_ n5_ n6_ n7_; (try clear hb); (try clear hb2); (try clear hk); (try clear hi)) | (go_at_call 12; (with_reducible refine (census_Count.calls kj25 _ _ t150 1 1 0 11 t188 _ ?side1 ?side2 A54.out).mono ?_); (case side1 => repeat (first | exact (Kd.R_reads' HO_1.out).2.2 | (with_reducible refine Kd.C_alloc ?_ _) | (with_reducible refine Kd.C_drewN ?_ _) | (with_reducible refine Kd.C_drew ?_))); (case side2 => exact (Kd.R_reads' HO_1.out).2.1); rintro e w60 ⟨rfl, hb⟩; have n0_ := a_ (Kd.R_below (kR_ HO_1.out) hb); have n1_ := a_ (Kd.R_below (kR_ HO_175000.out) hb); have n2_ := a_ (Kd.R_below (kR_ HO_175001.out) hb); have n3_ := a_ (Kd.R_below (kR_ HO_175002.out) hb); have n4_ := a_ (Kd.R_below (kR_ HO_175003.out) hb); have n5_ := a_ (Kd.R_below (kR_ HO186.out) hb); have n6_ := a_ (blk_below (g := gb174) (o := .cells #[.slice Ao29 t162.length co29, .slice Ao31 t165.length co31, .slice Ao32 t168.length co32, .slice Ao33 t171.length co33] 38 (0, 0)) (by exact BK174.out) hb); have n7_ := a_ (below_step bel_ hb); clear HO_1; clear HO_175000; clear HO_175001; clear HO_175002; clear HO_175003; clear HO186; clear BK174; clear HB; have HO_1 := n0_; have HO_175000 := n1_; have HO_175001 := n2_; have HO_175002 := n3_; have HO_175003 := n4_; have HO186 := n5_; have BK174 := n6_; have HB := n7_; clear n0_ n1_ n2_ n3_ n4_ n5_ n6_ n7_; (try clear hb); (try clear hb2); (try clear hk); (try clear hi)))
        go_ret
        exact ⟨by first | rfl | (rw [HTR.out]; rfl) | (exact congrArg (fun b => Ending.returned (Value.bool b)) HTR.out) | (simpa using HTR.out) | (simp [errW_none, errW_some] <;> rfl) | (simp [*, errW_none, errW_some] <;> rfl), by repeat (first | (with_reducible first | exact HB.out | apply below_alloc | apply pw_below_drewN | apply below_drew1 | refine below_set ?_ GE174.out) | exact HB.out)⟩
       ·rw [if_neg c53] at H
        have c53b0 : (t187 == 720) = false := beq_eq_false_iff_ne.mpr c53
        have c53b1 : (t187 != 720) = true := bne_iff_ne.mpr c53
        exact absurd H (by simp)
def skiarealaw55_alive.f : Option Bool := some true
theorem skiarealaw55_alive.calls (r : Bool) (w : World) (h : skiarealaw55_alive.f = some r) : Calls Try.prog 9 #[] w fun e w' => e = .returned (.bool r) ∧ Below w.heap.size w w' := by
 obtain rfl := Option.some.inj h
 exact skiarealaw55_alive0.calls 600 w (by decide +kernel)

end Go.Proofs.Ytgfiidgigenibaa.Q
