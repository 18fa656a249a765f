/- Walks and plain laws that this claim bears (this session's). -/
import Derived.Test.YtmhggplhfcmgkaaM11
namespace Go.Proofs.Ytmhggplhfcmgkaa.Q
open Go.RowKit Go.Proofs.YtmhggplhfcmgkaaW.PrintWords Go.Proofs.YtmhggplhfcmgkaaW.PrintLast Go.Proofs.YtmhggplhfcmgkaaW.PrintMore
attribute [local go_sem] max2_int min2_int max_two min_two max_three min_three max_four min_four   -- for this text's walks alone
set_option linter.unusedVariables false
set_option linter.unusedSimpArgs false
def skiarealaw53_accepted.f (k : Nat) (l0_0 : List (S63)) (l0_1 : List (S56)) : Option (Bool) := (skiarealaw53_small.f k l0_0 l0_1).bind fun t546 => (if t546 = true then ((skiarearef53_Right.f k l0_0 l0_1).bind fun t547 => (some (t547 == 0))) else (some false))
theorem skiarealaw53_accepted.mono : ∀ a0 a1 k, LeO (skiarealaw53_accepted.f k a0 a1) (skiarealaw53_accepted.f (k + 1) a0 a1) := by
 intro a0 a1 k
 unfold skiarealaw53_accepted.f
 repeat' first
   | (with_reducible exact skiarealaw53_small.mono _ _ _)
   | (with_reducible exact skiarearef53_Right.mono _ _ _)
   | (with_reducible exact LeO.refl _)
   | (with_reducible exact LeO.none _)
   | (with_reducible refine LeO.ite ?_ ?_)
   | (with_reducible refine LeO.bind ?_ (fun _ => ?_))
   | exact skiarealaw53_small.mono _ _ _
   | exact skiarearef53_Right.mono _ _ _
   | exact LeO.none _
   | refine LeO.ite ?_ ?_
   | refine LeO.bind ?_ (fun _ => ?_)
set_option maxHeartbeats 8000000 in
set_option maxRecDepth 100000 in
theorem skiarealaw53_accepted.calls (k : Nat) (A0_0 : Option Addr) (c0_0 : Nat) (l0_0 : List (S63)) (A0_1 : Option Addr) (c0_1 : Nat) (l0_1 : List (S56)) (r : Bool) (w : World) (hr0_0 : Kd.C k63 w A0_0 l0_0.length l0_0) (hc0_0 : l0_0.length ≤ c0_0) (hr0_1 : Kd.C k56 w A0_1 l0_1.length l0_1) (hc0_1 : l0_1.length ≤ c0_1) (h : skiarealaw53_accepted.f k l0_0 l0_1 = some r) :
  Calls Try.prog 38 #[.agg #[.slice A0_0 l0_0.length c0_0, .slice A0_1 l0_1.length c0_1]] w fun e w' => e = .returned (.bool r) ∧ Below w.heap.size w w' := by
 have hu48 := Try.underlying48
 have HR0_0 := a_ hr0_0
 have HC0_0 := a_ hc0_0
 clear hr0_0 hc0_0
 have HR0_1 := a_ hr0_1
 have HC0_1 := a_ hc0_1
 clear hr0_1 hc0_1
 have HB := a_ (Below.refl w.heap.size w)
 have H : ((skiarealaw53_small.f k l0_0 l0_1).bind fun t546 => (if t546 = true then ((skiarearef53_Right.f k l0_0 l0_1).bind fun t547 => (some (t547 == 0))) else (some false))) = some r := h
 clear h
 replace H := Option.bind_eq_some_iff.mp H
 obtain ⟨t546, A20, H⟩ := H
 replace H : (if t546 = true then ((skiarearef53_Right.f k l0_0 l0_1).bind fun t547 => (some (t547 == 0))) else (some false)) = some r := H
 have A2 := a_ A20
 clear A20
 by_cases c3 : t546 = true
 ·subst c3
  have H1 : ((skiarearef53_Right.f k l0_0 l0_1).bind fun t547 => (some (t547 == 0))) = some r := by rw [if_pos rfl] at H; exact H
  clear H
  have H := H1
  clear H1
  replace H := Option.bind_eq_some_iff.mp H
  obtain ⟨t547, A40, H⟩ := H
  replace H : (some (t547 == 0)) = some r := H
  have A4 := a_ A40
  clear A40
  obtain rfl := Option.some.inj H
  go_enter Try.func38, Try.ntmps38
  go_wp2_with (first | ((with_reducible refine gate_dst (N := 1) rfl ?_); refine box_event ?hg (N := 1) ?hd (cs := #[.slice A0_0 l0_0.length c0_0, .slice A0_1 l0_1.length c0_1]) (t := 48) ?hr ?_; (case hd => rfl); (case hg => rfl); (case hr => first | (go_simp; done) | (go_simp; rfl)); intro gb545 hg w5 hbox hb; have n0_ := a_ (below_step bel_ hb); have n1_ := a_ (hbox); have n2_ := a_ (bz_ hg : w.heap.size ≤ gb545); have n3_ := a_ (bz_ hg : w.heap.size ≤ gb545); clear HB; have HB := n0_; have BK545 := n1_; have GW545 := n2_; have GE545 := n3_; clear n0_ n1_ n2_ n3_; clear hb hbox hg; have hcz6_0 := cz_ BK545 0; have hcz6_1 := cz_ BK545 1; have hfz6_0 := fz_ BK545 0; have hfz6_1 := fz_ BK545 1) | ((with_reducible refine gate_callee (f := 35) rfl ?_); refine gs_ (some 4) Try.func35 #[.agg #[.slice A0_0 l0_0.length c0_0, .slice A0_1 l0_1.length c0_1]] ?_; (with_reducible refine (skiarealaw53_small.calls k _ _ l0_0 _ _ l0_1 true _ ?side1 ?side2 ?side3 ?side4 A2.out).mono ?_); (case side1 => exact kC_ (Kd.C_below HR0_0.out HB.out)); (case side2 => exact HC0_0.out); (case side3 => exact kC_ (Kd.C_below HR0_1.out HB.out)); (case side4 => exact HC0_1.out); rintro e w7 ⟨rfl, hb⟩; refine ⟨_, rfl, ?_⟩; have n0_ := a_ (blk_below (bk_ BK545.out) hb); have n1_ := a_ (below_step bel_ hb); clear BK545; clear HB; have BK545 := n0_; have HB := n1_; clear n0_ n1_; (try clear hb); (try clear hb2); (try clear hk); (try clear hi); have hcz8_0 := cz_ BK545 0; have hcz8_1 := cz_ BK545 1; have hfz8_0 := fz_ BK545 0; have hfz8_1 := fz_ BK545 1) | (go_at_call 37; (with_reducible refine (skiarearef53_Right.calls k _ _ l0_0 _ _ l0_1 t547 _ ?side1 ?side2 ?side3 ?side4 A4.out).mono ?_); (case side1 => exact kC_ (Kd.C_below HR0_0.out HB.out)); (case side2 => exact HC0_0.out); (case side3 => exact kC_ (Kd.C_below HR0_1.out HB.out)); (case side4 => exact HC0_1.out); rintro e w9 ⟨rfl, hb⟩; have n0_ := a_ (blk_below (bk_ BK545.out) hb); have n1_ := a_ (below_step bel_ hb); clear BK545; clear HB; have BK545 := n0_; have HB := n1_; clear n0_ n1_; (try clear hb); (try clear hb2); (try clear hk); (try clear hi)))
  go_ret
  exact ⟨by first | rfl | (simp [errW_none, errW_some] <;> rfl) | (simp [*, errW_none, errW_some] <;> rfl), by repeat (first | (with_reducible first | exact HB.out | apply below_alloc | apply pw_below_drewN | apply below_drew1 | refine below_set ?_ GE545.out) | exact HB.out)⟩
 ·replace c3 := Bool.eq_false_iff.mpr c3
  subst c3
  have H1 : (some false) = some r := by rw [if_neg (show ¬ (false = true) by decide)] at H; exact H
  clear H
  have H := H1
  clear H1
  obtain rfl := Option.some.inj H
  go_enter Try.func38, Try.ntmps38
  go_wp2_with (first | ((with_reducible refine gate_dst (N := 1) rfl ?_); refine box_event ?hg (N := 1) ?hd (cs := #[.slice A0_0 l0_0.length c0_0, .slice A0_1 l0_1.length c0_1]) (t := 48) ?hr ?_; (case hd => rfl); (case hg => rfl); (case hr => first | (go_simp; done) | (go_simp; rfl)); intro gb545 hg w10 hbox hb; have n0_ := a_ (below_step bel_ hb); have n1_ := a_ (hbox); have n2_ := a_ (bz_ hg : w.heap.size ≤ gb545); have n3_ := a_ (bz_ hg : w.heap.size ≤ gb545); clear HB; have HB := n0_; have BK545 := n1_; have GW545 := n2_; have GE545 := n3_; clear n0_ n1_ n2_ n3_; clear hb hbox hg; have hcz11_0 := cz_ BK545 0; have hcz11_1 := cz_ BK545 1; have hfz11_0 := fz_ BK545 0; have hfz11_1 := fz_ BK545 1) | ((with_reducible refine gate_callee (f := 35) rfl ?_); refine gs_ (some 4) Try.func35 #[.agg #[.slice A0_0 l0_0.length c0_0, .slice A0_1 l0_1.length c0_1]] ?_; (with_reducible refine (skiarealaw53_small.calls k _ _ l0_0 _ _ l0_1 false _ ?side1 ?side2 ?side3 ?side4 A2.out).mono ?_); (case side1 => exact kC_ (Kd.C_below HR0_0.out HB.out)); (case side2 => exact HC0_0.out); (case side3 => exact kC_ (Kd.C_below HR0_1.out HB.out)); (case side4 => exact HC0_1.out); rintro e w12 ⟨rfl, hb⟩; refine ⟨_, rfl, ?_⟩; have n0_ := a_ (blk_below (bk_ BK545.out) hb); have n1_ := a_ (below_step bel_ hb); clear BK545; clear HB; have BK545 := n0_; have HB := n1_; clear n0_ n1_; (try clear hb); (try clear hb2); (try clear hk); (try clear hi)))
  go_ret
  exact ⟨by first | rfl | (simp [errW_none, errW_some] <;> rfl) | (simp [*, errW_none, errW_some] <;> rfl), by repeat (first | (with_reducible first | exact HB.out | apply below_alloc | apply pw_below_drewN | apply below_drew1 | refine below_set ?_ GE545.out) | exact HB.out)⟩
def skiarealaw53_known.f  : Option ((List (S63)) × (List (S56))) := some ((([(⟨3, (⟨(([1] : List Int)), 100, (([(⟨1, 9, 50⟩ : S35)] : List (S35)))⟩ : S25)⟩ : S63), (⟨8, (⟨([] : List Int), 100, ([] : List (S35))⟩ : S25)⟩ : S63)] : List (S63))), (([(⟨6, 8, 40⟩ : S56)] : List (S56))))
set_option maxHeartbeats 8000000 in
set_option maxRecDepth 100000 in
theorem skiarealaw53_known.calls  (r1 : List (S63)) (r2 : List (S56)) (w : World) (h : skiarealaw53_known.f  = some (r1, r2)) :
  Calls Try.prog 64 #[] w fun e w' => ∃ v0_ v1_ : Value, e = .returned (.agg #[v0_, v1_]) ∧ Kd.N k63 63 w' w.heap.size (fun k_ => (w.heap.size ≤ k_) ∧ some k_ ≠ (v1_ : Value).ownBlock) v0_ r1 ∧ Kd.R k56 56 w' w.heap.size (fun k_ => (w.heap.size ≤ k_)) v1_ r2 ∧ Below w.heap.size w w' := by
 have hu48 := Try.underlying48
 have hu35 := Try.underlying35
 have hu25 := Try.underlying25
 have hu63 := Try.underlying63
 have hu56 := Try.underlying56
 have HB := a_ (Below.refl w.heap.size w)
 have H : (some ((([(⟨3, (⟨(([1] : List Int)), 100, (([(⟨1, 9, 50⟩ : S35)] : List (S35)))⟩ : S25)⟩ : S63), (⟨8, (⟨([] : List Int), 100, ([] : List (S35))⟩ : S25)⟩ : S63)] : List (S63))), (([(⟨6, 8, 40⟩ : S56)] : List (S56))))) = some (r1, r2) := h
 clear h
 obtain ⟨y448, hy448⟩ : ∃ y_ : List Int, y_ = (([1] : List Int)) := ⟨_, rfl⟩
 replace H : (some ((([(⟨3, (⟨y448, 100, (([(⟨1, 9, 50⟩ : S35)] : List (S35)))⟩ : S25)⟩ : S63), (⟨8, (⟨([] : List Int), 100, ([] : List (S35))⟩ : S25)⟩ : S63)] : List (S63))), (([(⟨6, 8, 40⟩ : S56)] : List (S56))))) = some (r1, r2) := by first | (rw [hy448]; with_reducible exact H) | (have H2_ := (Option.bind_some _ _).symm.trans H; rw [hy448]; with_reducible exact H2_) | (have H2_ := (Option.bind_some _ _).symm.trans H; with_reducible exact H2_) | with_reducible exact H | (rw [hy448]; exact H) | exact H
 have Ny448 := a_ hy448
 clear hy448
 obtain ⟨y451, hy451⟩ : ∃ y_ : List (S35), y_ = (([(⟨1, 9, 50⟩ : S35)] : List (S35))) := ⟨_, rfl⟩
 replace H : (some ((([(⟨3, (⟨y448, 100, y451⟩ : S25)⟩ : S63), (⟨8, (⟨([] : List Int), 100, ([] : List (S35))⟩ : S25)⟩ : S63)] : List (S63))), (([(⟨6, 8, 40⟩ : S56)] : List (S56))))) = some (r1, r2) := by first | (rw [hy451]; with_reducible exact H) | (have H2_ := (Option.bind_some _ _).symm.trans H; rw [hy451]; with_reducible exact H2_) | (have H2_ := (Option.bind_some _ _).symm.trans H; with_reducible exact H2_) | with_reducible exact H | (rw [hy451]; exact H) | exact H
 have Ny451 := a_ hy451
 clear hy451
 obtain ⟨y454, hy454⟩ : ∃ y_ : List (S63), y_ = (([(⟨3, (⟨y448, 100, y451⟩ : S25)⟩ : S63), (⟨8, (⟨([] : List Int), 100, ([] : List (S35))⟩ : S25)⟩ : S63)] : List (S63))) := ⟨_, rfl⟩
 replace H : (some (y454, (([(⟨6, 8, 40⟩ : S56)] : List (S56))))) = some (r1, r2) := by first | (rw [hy454]; with_reducible exact H) | (have H2_ := (Option.bind_some _ _).symm.trans H; rw [hy454]; with_reducible exact H2_) | (have H2_ := (Option.bind_some _ _).symm.trans H; with_reducible exact H2_) | with_reducible exact H | (rw [hy454]; exact H) | exact H
 have Ny454 := a_ hy454
 clear hy454
 obtain ⟨y457, hy457⟩ : ∃ y_ : List (S56), y_ = (([(⟨6, 8, 40⟩ : S56)] : List (S56))) := ⟨_, rfl⟩
 replace H : (some (y454, y457)) = some (r1, r2) := by first | (rw [hy457]; with_reducible exact H) | (have H2_ := (Option.bind_some _ _).symm.trans H; rw [hy457]; with_reducible exact H2_) | (have H2_ := (Option.bind_some _ _).symm.trans H; with_reducible exact H2_) | with_reducible exact H | (rw [hy457]; exact H) | exact H
 have Ny457 := a_ hy457
 clear hy457
 simp only [Option.some.injEq, Prod.mk.injEq] at H
 obtain ⟨rfl, rfl⟩ := H
 go_enter Try.func64, Try.ntmps64
 go_wp2_with (first | ((with_reducible refine gate_dst (N := 0) rfl ?_); refine box_event ?hg (N := 0) ?hd (cs := #[.slice none 0 0, .slice none 0 0]) (t := 48) ?hr ?_; (case hd => rfl); (case hg => rfl); (case hr => first | (go_simp; done) | (go_simp; rfl)); intro gb447 hg w1 hbox hb; have n0_ := a_ (below_step bel_ hb); have n1_ := a_ (hbox); have n2_ := a_ (bz_ hg : w.heap.size ≤ gb447); have n3_ := a_ (bz_ hg : w.heap.size ≤ gb447); clear HB; have HB := n0_; have BK447 := n1_; have GW447 := n2_; have GE447 := n3_; clear n0_ n1_ n2_ n3_; clear hb hbox hg) | ((with_reducible refine gate_dst (N := 1) rfl ?_); refine Kd.R_lit (Kd.int .i64) _ 3 ?hg (N := 1) ?hd (xs := ([1] : List Int)) (inner := [.int .i64 1]) (ok := fun _ => True) (okp := fun _ => True) ?hr ?hp (fun _ hk => hk) trivial (Below.refl _ _) (Nat.le_refl _) (by simp) ?_; (case hd => rfl); (case hg => rfl); (case hr => first | (go_simp; done) | (go_simp; rfl)); (case hp => exact (Reps.one (show Kd.M (Kd.int .i64) _ _ _ 1 [.int .i64 1] from rfl) (Reps.none _ _))); intro v449 w2 ho3 hb hg_ hnew_; clear hg_ hnew_; (first | rw [← Ny448.out] at ho3 | (simp only [Int.reduceToNat] at ho3; rw [← Ny448.out] at ho3)); have n0_ := a_ (Kd.R_lower (Kd.R_newM (M := fun k_ => (w.heap.size ≤ k_)) ho3 (below_size bel_) (fun k_ h_ => h_)) (below_size bel_)); have n1_ := a_ (blk_below (bk_ BK447.out) hb); have n2_ := a_ (below_step bel_ hb); clear BK447; clear HB; have HO450 := n0_; have BK447 := n1_; have HB := n2_; clear n0_ n1_ n2_; clear hb ho3) | ((with_reducible refine gate_dst (N := 3) rfl ?_); refine Kd.R_lit k35 _ 35 ?hg (N := 3) ?hd (xs := ([(⟨1, 9, 50⟩ : S35)] : List (S35))) (inner := [.int .i64 1, .int .i64 9, .int .i64 50]) (ok := fun _ => True) (okp := fun _ => True) ?hr ?hp (fun _ hk => hk) trivial (Below.refl _ _) (Nat.le_refl _) (by simp) ?_; (case hd => rfl); (case hg => rfl); (case hr => first | (go_simp; done) | (go_simp; rfl)); (case hp => exact (Reps.c3 (show Kd.M k35 _ _ _ (⟨1, 9, 50⟩ : S35) [.int .i64 1, .int .i64 9, .int .i64 50] from (k35_mkM _ _ _ (⟨1, 9, 50⟩ : S35) )) (Reps.none _ _))); intro v452 w4 ho5 hb hg_ hnew_; clear hg_ hnew_; (first | rw [← Ny451.out] at ho5 | (simp only [Int.reduceToNat] at ho5; rw [← Ny451.out] at ho5)); have n0_ := a_ (Kd.R_below (kR_ HO450.out) hb); have n1_ := a_ (Kd.R_lower (Kd.R_newM (M := fun k_ => (w.heap.size ≤ k_)) ho5 (below_size bel_) (fun k_ h_ => h_)) (below_size bel_)); have n2_ := a_ (blk_below (bk_ BK447.out) hb); have n3_ := a_ (below_step bel_ hb); clear HO450; clear BK447; clear HB; have HO450 := n0_; have HO453 := n1_; have BK447 := n2_; have HB := n3_; clear n0_ n1_ n2_ n3_; clear hb ho5; obtain ⟨Ao6, co6, eo6⟩ := Kd.R_slice HO453.out; subst eo6; obtain ⟨Ao7, co7, eo7⟩ := Kd.R_slice HO450.out; subst eo7) | ((with_reducible refine gate_dst (N := 8) rfl ?_); refine Kd.N_lit k63 _ 63 ?hg (N' := 8) ?hd (xs := ([(⟨3, (⟨y448, 100, y451⟩ : S25)⟩ : S63), (⟨8, (⟨([] : List Int), 100, ([] : List (S35))⟩ : S25)⟩ : S63)] : List (S63))) (inner := [.int .i64 3, .slice Ao7 y448.length co7, .int .i64 100, .slice Ao6 y451.length co6, .int .i64 8, .slice none 0 0, .int .i64 100, .slice none 0 0]) (ok := (fun k_ => (w.heap.size ≤ k_) ∧ k_ ≠ gb447)) (okp := (fun k_ => (w.heap.size ≤ k_) ∧ k_ ≠ gb447)) ?hr ?hp (fun _ hk => hk) ((show ∀ k_, w4.heap.size ≤ k_ → (fun k_ => (w.heap.size ≤ k_) ∧ k_ ≠ gb447) k_ from fun k_ hk => ⟨(Nat.le_trans (below_size bel_) hk), Kd.freshB (bk_ BK447.out) k_ hk⟩) _ (Nat.le_refl _)) (Below.refl _ _) (Nat.le_refl _) (by simp) ?_; (case hd => rfl); (case hg => rfl); (case hr => first | (go_simp; done) | (go_simp; rfl)); (case hp => exact (Reps.c4 (show Kd.FK k63 _ _ (⟨3, (⟨y448, 100, y451⟩ : S25)⟩ : S63) [.int .i64 3, .slice Ao7 y448.length co7, .int .i64 100, .slice Ao6 y451.length co6] from (k63_mkF _ _ (⟨3, (⟨y448, 100, y451⟩ : S25)⟩ : S63) (Kd.R_reads' (Kd.R_mono (ok' := (fun k_ => (w.heap.size ≤ k_) ∧ k_ ≠ gb447)) (Kd.R_types (HO450.out) BK447.out (by decide)) (fun k_ hk => ⟨hk.1.1, hk.2⟩))).2.1 (Kd.R_F (Kd.R_mono (ok' := (fun k_ => (w.heap.size ≤ k_) ∧ k_ ≠ gb447)) (Kd.R_types (HO450.out) BK447.out (by decide)) (fun k_ hk => ⟨hk.1.1, hk.2⟩))) (Kd.R_reads' (Kd.R_mono (ok' := (fun k_ => (w.heap.size ≤ k_) ∧ k_ ≠ gb447)) (Kd.R_types (HO453.out) BK447.out (by decide)) (fun k_ hk => ⟨hk.1.1, hk.2⟩))).2.1 (Kd.R_F (Kd.R_mono (ok' := (fun k_ => (w.heap.size ≤ k_) ∧ k_ ≠ gb447)) (Kd.R_types (HO453.out) BK447.out (by decide)) (fun k_ hk => ⟨hk.1.1, hk.2⟩))))) (Reps.c4 (show Kd.FK k63 _ _ (⟨8, (⟨([] : List Int), 100, ([] : List (S35))⟩ : S25)⟩ : S63) [.int .i64 8, .slice none 0 0, .int .i64 100, .slice none 0 0] from (k63_mkF _ _ (⟨8, (⟨([] : List Int), 100, ([] : List (S35))⟩ : S25)⟩ : S63) (Nat.le_refl _) (Kd.F_nil _ _ _) (Nat.le_refl _) (Kd.F_nil _ _ _))) (Reps.none _ _)))); intro v455 w8 ho9 hb hg_ hnew_; clear hg_ hnew_; (first | rw [← Ny454.out] at ho9 | (simp only [Int.reduceToNat] at ho9; rw [← Ny454.out] at ho9)); have n0_ := a_ (Kd.N_lower ho9 (below_size bel_)); have n1_ := a_ (blk_below (bk_ BK447.out) hb); have n2_ := a_ (below_step bel_ hb); clear BK447; clear HB; clear HO450; clear HO453; have HO456 := n0_; have BK447 := n1_; have HB := n2_; clear n0_ n1_ n2_; clear hb ho9) | ((with_reducible refine gate_dst (N := 10) rfl ?_); refine Kd.R_lit k56 _ 56 ?hg (N := 10) ?hd (xs := ([(⟨6, 8, 40⟩ : S56)] : List (S56))) (inner := [.int .i64 6, .int .i64 8, .int .i64 40]) (ok := fun _ => True) (okp := fun _ => True) ?hr ?hp (fun _ hk => hk) trivial (Below.refl _ _) (Nat.le_refl _) (by simp) ?_; (case hd => rfl); (case hg => rfl); (case hr => first | (go_simp; done) | (go_simp; rfl)); (case hp => exact (Reps.c3 (show Kd.M k56 _ _ _ (⟨6, 8, 40⟩ : S56) [.int .i64 6, .int .i64 8, .int .i64 40] from (k56_mkM _ _ _ (⟨6, 8, 40⟩ : S56) )) (Reps.none _ _))); intro v458 w10 ho11 hb hg_ hnew_; clear hg_ hnew_; (first | rw [← Ny457.out] at ho11 | (simp only [Int.reduceToNat] at ho11; rw [← Ny457.out] at ho11)); have n0_ := a_ (Kd.N_elder' (kN_ HO456.out) (Kd.R_base ho11) hb); have n1_ := a_ (Kd.R_lower (Kd.R_newM (M := fun k_ => (w.heap.size ≤ k_)) ho11 (below_size bel_) (fun k_ h_ => h_)) (below_size bel_)); have n2_ := a_ (blk_below (bk_ BK447.out) hb); have n3_ := a_ (below_step bel_ hb); clear HO456; clear BK447; clear HB; have HO456 := n0_; have HO459 := n1_; have BK447 := n2_; have HB := n3_; clear n0_ n1_ n2_ n3_; clear hb ho11; obtain ⟨Ao12, co12, eo12⟩ := Kd.R_slice HO459.out; subst eo12; obtain ⟨Ao13, co13, eo13⟩ := Kd.N_slice HO456.out; subst eo13; have hcz14_0 := cz_ BK447 0; have hcz14_1 := cz_ BK447 1; have hfz14_0 := fz_ BK447 0; have hfz14_1 := fz_ BK447 1))
 refine bodyPost_ret (results_cell_row rfl _ _ gb447 48 #[.slice Ao13 y454.length co13, .slice Ao12 y457.length co12] (0, 0) _ rfl (by refine blk_put (cs := #[.slice Ao13 y454.length co13, .slice none 0 0]) ?_ 1 _ rfl; refine blk_put (cs := #[.slice none 0 0, .slice none 0 0]) ?_ 0 _ rfl; exact BK447.out) Try.underlying48 rfl (by kernel_rfl)) rfl ?_
 exact ⟨_, _, by first | rfl | (simp [errW_none, errW_some] <;> rfl) | (simp [*, errW_none, errW_some] <;> rfl), by (with_reducible repeat (first | apply Kd.N_alloc | apply Kd.N_drewN | apply Kd.N_drew)); exact Kd.N_mono (Kd.N_far (p := ⟨gb447, 1, none⟩) (Kd.N_far (p := ⟨gb447, 0, none⟩) (Kd.N_mono HO456.out (fun k_ hk => (⟨hk, hk.1.2⟩ : _ ∧ k_ ≠ gb447))) (fun _ hk => hk.2) (.slice Ao13 y454.length co13)) (fun _ hk => hk.2) (.slice Ao12 y457.length co12)) (fun _ hk => ⟨hk.1.1.1, hk.1.2⟩), by (with_reducible repeat (first | apply Kd.R_alloc | apply Kd.R_drewN | apply Kd.R_drew)); exact Kd.R_mono (Kd.R_far (p := ⟨gb447, 1, none⟩) (Kd.R_far (p := ⟨gb447, 0, none⟩) (Kd.R_types HO459.out BK447.out (by decide)) (fun _ hk => hk.2) (.slice Ao13 y454.length co13)) (fun _ hk => hk.2) (.slice Ao12 y457.length co12)) (fun _ hk => hk.1.1), by repeat (first | (with_reducible first | exact HB.out | apply below_alloc | apply pw_below_drewN | apply below_drew1 | refine below_set ?_ GE447.out) | exact HB.out)⟩
end Go.Proofs.Ytmhggplhfcmgkaa.Q
