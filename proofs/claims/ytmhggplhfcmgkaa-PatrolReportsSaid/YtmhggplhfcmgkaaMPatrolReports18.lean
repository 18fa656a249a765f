/- Walks and plain laws that this claim bears (this session's). -/
import Derived.Test.YtmhggplhfcmgkaaM11
namespace Go.Proofs.Ytmhggplhfcmgkaa.Q
open Go.RowKit Go.Proofs.YtmhggplhfcmgkaaW.PrintWords Go.Proofs.YtmhggplhfcmgkaaW.PrintLast Go.Proofs.YtmhggplhfcmgkaaW.PrintMore
attribute [local go_sem] max2_int min2_int max_two min_two max_three min_three max_four min_four   -- for this text's walks alone
set_option linter.unusedVariables false
set_option linter.unusedSimpArgs false
def skiarearef53_Report.f (k : Nat) (l0_0 : List (S63)) (l0_1 : List (S56)) (a1_0 : Int) (a1_1 : Int) (a1_2 : Int) : Option ((List (S63)) × (List (S56)) × Int) := (skiarearef53_Own.f k l0_0 l0_1).bind fun bt619 => (if bt619.2.length < 5864062014805 then ((some (bt619.2 ++ [(⟨a1_0, a1_1, a1_2⟩ : S56)] : List (S56))).bind fun y626 => ((skiarearef53_Right.f k bt619.1 y626).bind fun t629 => (if t629 = 0 then (some (bt619.1, y626, 0)) else (some (([] : List (S63)), ([] : List (S56)), t629))))) else (none))
theorem skiarearef53_Report.mono : ∀ a0 a1 a2 a3 a4 k, LeO (skiarearef53_Report.f k a0 a1 a2 a3 a4) (skiarearef53_Report.f (k + 1) a0 a1 a2 a3 a4) := by
 intro a0 a1 a2 a3 a4 k
 unfold skiarearef53_Report.f
 repeat' first
   | (with_reducible exact skiarearef53_Own.mono _ _ _)
   | (with_reducible exact skiarearef53_Right.mono _ _ _)
   | (with_reducible exact LeO.refl _)
   | (with_reducible exact LeO.none _)
   | (with_reducible refine LeO.ite ?_ ?_)
   | (with_reducible refine LeO.bind ?_ (fun _ => ?_))
   | exact skiarearef53_Own.mono _ _ _
   | exact skiarearef53_Right.mono _ _ _
   | exact LeO.none _
   | refine LeO.ite ?_ ?_
   | refine LeO.bind ?_ (fun _ => ?_)
set_option maxHeartbeats 8000000 in
set_option maxRecDepth 100000 in
theorem skiarearef53_Report.calls (k : Nat) (A0_0 : Option Addr) (c0_0 : Nat) (l0_0 : List (S63)) (A0_1 : Option Addr) (c0_1 : Nat) (l0_1 : List (S56)) (a1_0 : Int) (a1_1 : Int) (a1_2 : Int) (r1 : List (S63)) (r2 : List (S56)) (r3 : Int) (w : World) (hr0_0 : Kd.C k63 w A0_0 l0_0.length l0_0) (hc0_0 : l0_0.length ≤ c0_0) (hr0_1 : Kd.C k56 w A0_1 l0_1.length l0_1) (hc0_1 : l0_1.length ≤ c0_1) (h : skiarearef53_Report.f k l0_0 l0_1 a1_0 a1_1 a1_2 = some (r1, r2, r3)) :
  Calls Try.prog 43 #[.agg #[.slice A0_0 l0_0.length c0_0, .slice A0_1 l0_1.length c0_1], .agg #[.int .i64 a1_0, .int .i64 a1_1, .int .i64 a1_2]] w fun e w' => ∃ v0_ v1_ : Value, e = .returned (.tuple #[.agg #[v0_, v1_], .int .i64 r3]) ∧ Kd.N k63 63 w' w.heap.size (fun k_ => (w.heap.size ≤ k_) ∧ some k_ ≠ (v1_ : Value).ownBlock) v0_ r1 ∧ Kd.R k56 56 w' w.heap.size (fun k_ => (w.heap.size ≤ k_)) v1_ r2 ∧ Below w.heap.size w w' := by
 have hu48 := Try.underlying48
 have hu56 := Try.underlying56
 have HR0_0 := a_ hr0_0
 have HC0_0 := a_ hc0_0
 clear hr0_0 hc0_0
 have HR0_1 := a_ hr0_1
 have HC0_1 := a_ hc0_1
 clear hr0_1 hc0_1
 have HB := a_ (Below.refl w.heap.size w)
 have H : ((skiarearef53_Own.f k l0_0 l0_1).bind fun bt619 => (if bt619.2.length < 5864062014805 then ((some (bt619.2 ++ [(⟨a1_0, a1_1, a1_2⟩ : S56)] : List (S56))).bind fun y626 => ((skiarearef53_Right.f k bt619.1 y626).bind fun t629 => (if t629 = 0 then (some (bt619.1, y626, 0)) else (some (([] : List (S63)), ([] : List (S56)), t629))))) else (none))) = some (r1, r2, r3) := h
 clear h
 replace H := Option.bind_eq_some_iff.mp H
 obtain ⟨⟨t619, t622⟩, A30, H⟩ := H
 replace H : (if t622.length < 5864062014805 then ((some (t622 ++ [(⟨a1_0, a1_1, a1_2⟩ : S56)] : List (S56))).bind fun y626 => ((skiarearef53_Right.f k t619 y626).bind fun t629 => (if t629 = 0 then (some (t619, y626, 0)) else (some (([] : List (S63)), ([] : List (S56)), t629))))) else (none)) = some (r1, r2, r3) := H
 have A3 := a_ A30
 clear A30
 by_cases c4 : t622.length < 5864062014805
 ·rw [if_pos c4] at H
  have LMc4 := a_ c4
  clear c4
  obtain ⟨y626, hy626⟩ : ∃ y_ : List (S56), y_ = (t622 ++ [(⟨a1_0, a1_1, a1_2⟩ : S56)]) := ⟨_, rfl⟩
  replace H : ((skiarearef53_Right.f k t619 y626).bind fun t629 => (if t629 = 0 then (some (t619, y626, 0)) else (some (([] : List (S63)), ([] : List (S56)), t629)))) = some (r1, r2, r3) := by first | (rw [hy626]; with_reducible exact H) | (have H2_ := (Option.bind_some _ _).symm.trans H; rw [hy626]; with_reducible exact H2_) | (have H2_ := (Option.bind_some _ _).symm.trans H; with_reducible exact H2_) | with_reducible exact H | (rw [hy626]; exact H) | exact H
  have Ny626 := a_ hy626
  clear hy626
  replace H := Option.bind_eq_some_iff.mp H
  obtain ⟨t629, A50, H⟩ := H
  replace H : (if t629 = 0 then (some (t619, y626, 0)) else (some (([] : List (S63)), ([] : List (S56)), t629))) = some (r1, r2, r3) := H
  have A5 := a_ A50
  clear A50
  by_cases c6 : t629 = 0
  ·rw [if_pos c6] at H
   have c6b0 : (t629 == 0) = true := beq_iff_eq.mpr c6
   have c6b1 : (t629 != 0) = false := bne_eq_false_iff_eq.mpr c6
   clear c6
   simp only [Option.some.injEq, Prod.mk.injEq] at H
   obtain ⟨rfl, rfl, rfl⟩ := H
   go_enter Try.func43, Try.ntmps43
   go_wp2_with (first | ((with_reducible refine gate_dst (N := 2) rfl ?_); refine box_event ?hg (N := 2) ?hd (cs := #[.slice A0_0 l0_0.length c0_0, .slice A0_1 l0_1.length c0_1]) (t := 48) ?hr ?_; (case hd => rfl); (case hg => rfl); (case hr => first | (go_simp; done) | (go_simp; rfl)); intro gb616 hg w7 hbox hb; have n0_ := a_ (below_step bel_ hb); have n1_ := a_ (hbox); have n2_ := a_ (bz_ hg : w.heap.size ≤ gb616); have n3_ := a_ (bz_ hg : w.heap.size ≤ gb616); clear HB; have HB := n0_; have BK616 := n1_; have GW616 := n2_; have GE616 := n3_; clear n0_ n1_ n2_ n3_; clear hb hbox hg) | ((with_reducible refine gate_dst (N := 3) rfl ?_); refine box_event ?hg (N := 3) ?hd (cs := #[.int .i64 a1_0, .int .i64 a1_1, .int .i64 a1_2]) (t := 56) ?hr ?_; (case hd => rfl); (case hg => rfl); (case hr => first | (go_simp; done) | (go_simp; rfl)); intro gb617 hg w8 hbox hb; have n0_ := a_ (blk_below (bk_ BK616.out) hb); have n1_ := a_ (below_step bel_ hb); have n2_ := a_ (hbox); have n3_ := a_ (bz_ hg : w.heap.size ≤ gb617); have n4_ := a_ (bz_ hg : w.heap.size ≤ gb617); have n5_ := a_ (nl_ hg (bk_ BK616.out)); have n6_ := a_ (ng_ hg (bk_ BK616.out)); clear BK616; clear HB; have BK616 := n0_; have HB := n1_; have BK617 := n2_; have GW617 := n3_; have GE617 := n4_; have NB616_617 := n5_; have NB617_616 := n6_; clear n0_ n1_ n2_ n3_ n4_ n5_ n6_; clear hb hbox hg) | ((with_reducible refine gate_dst (N := 4) rfl ?_); refine box_event ?hg (N := 4) ?hd (cs := #[.slice none 0 0, .slice none 0 0]) (t := 48) ?hr ?_; (case hd => rfl); (case hg => rfl); (case hr => first | (go_simp; done) | (go_simp; rfl)); intro gb618 hg w9 hbox hb; have n0_ := a_ (blk_below (bk_ BK616.out) hb); have n1_ := a_ (blk_below (bk_ BK617.out) hb); have n2_ := a_ (below_step bel_ hb); have n3_ := a_ (hbox); have n4_ := a_ (bz_ hg : w.heap.size ≤ gb618); have n5_ := a_ (bz_ hg : w.heap.size ≤ gb618); have n6_ := a_ (nl_ hg (bk_ BK616.out)); have n7_ := a_ (ng_ hg (bk_ BK616.out)); have n8_ := a_ (nl_ hg (bk_ BK617.out)); have n9_ := a_ (ng_ hg (bk_ BK617.out)); clear BK616; clear BK617; clear HB; have BK616 := n0_; have BK617 := n1_; have HB := n2_; have BK618 := n3_; have GW618 := n4_; have GE618 := n5_; have NB616_618 := n6_; have NB618_616 := n7_; have NB617_618 := n8_; have NB618_617 := n9_; clear n0_ n1_ n2_ n3_ n4_ n5_ n6_ n7_ n8_ n9_; clear hb hbox hg; have hnb10 := NB616_617.out; have hnc10 := NB617_616.out; have hnb11 := NB616_618.out; have hnc11 := NB618_616.out; have hcz12_0 := cz_ BK616 0; have hcz12_1 := cz_ BK616 1; have hfz12_0 := fz_ BK616 0; have hfz12_1 := fz_ BK616 1) | ((with_reducible refine gate_callee (f := 70) rfl ?_); refine gs_ (some 9) Try.func70 #[.agg #[.slice A0_0 l0_0.length c0_0, .slice A0_1 l0_1.length c0_1]] ?_; (with_reducible refine (skiarearef53_Own.calls k _ _ l0_0 _ _ l0_1 t619 t622 _ ?side1 ?side2 ?side3 ?side4 A3.out).mono ?_); (case side1 => exact kC_ (Kd.C_below HR0_0.out HB.out)); (case side2 => exact HC0_0.out); (case side3 => exact kC_ (Kd.C_below HR0_1.out HB.out)); (case side4 => exact HC0_1.out); rintro e w13 ⟨v620, v623, rfl, ho0, ho1, hb⟩; refine ⟨_, rfl, ?_⟩; have n0_ := a_ (Kd.N_lower (Kd.N_mono (ok' := fun k_ => (w.heap.size ≤ k_) ∧ some k_ ≠ (v623 : Value).ownBlock ∧ k_ ≠ gb616 ∧ k_ ≠ gb617 ∧ k_ ≠ gb618) ho0 (fun k_ hk_ => ⟨(Nat.le_trans (below_size bel_) hk_.1), hk_.2, (Kd.freshB (bk_ BK616.out) k_ hk_.1), (Kd.freshB (bk_ BK617.out) k_ hk_.1), (Kd.freshB (bk_ BK618.out) k_ hk_.1)⟩)) (below_size bel_)); have n1_ := a_ (Kd.R_lower (Kd.R_newB (Kd.R_newM (M := fun k_ => (w.heap.size ≤ k_)) (Kd.R_mono (ok' := fun k_ => True) ho1 (fun _ hk_ => trivial)) (below_size bel_) (fun k_ h_ => h_)) (bk_ BK617.out)) (below_size bel_)); have n2_ := a_ (blk_below (bk_ BK616.out) hb); have n3_ := a_ (blk_below (bk_ BK617.out) hb); have n4_ := a_ (blk_below (bk_ BK618.out) hb); have n5_ := a_ (below_step bel_ hb); clear BK616; clear BK617; clear BK618; clear HB; have HO621 := n0_; have HO624 := n1_; have BK616 := n2_; have BK617 := n3_; have BK618 := n4_; have HB := n5_; clear n0_ n1_ n2_ n3_ n4_ n5_; (try clear hb); (try clear hb2); (try clear hk); (try clear hi); (try clear ho0); (try clear ho1)) | ((with_reducible refine gate_dst (N := 6) rfl ?_); refine box_event ?hg (N := 6) ?hd (cs := #[.slice none 0 0, .slice none 0 0]) (t := 48) ?hr ?_; (case hd => rfl); (case hg => rfl); (case hr => first | (go_simp; done) | (go_simp; rfl)); intro gb625 hg w14 hbox hb; have n0_ := a_ (Kd.N_below (Kd.N_elderB (kN_ HO621.out) gb625 (Nat.le_of_eq hg.symm)) hb); have n1_ := a_ (Kd.R_below (kR_ HO624.out) hb); have n2_ := a_ (blk_below (bk_ BK616.out) hb); have n3_ := a_ (blk_below (bk_ BK617.out) hb); have n4_ := a_ (blk_below (bk_ BK618.out) hb); have n5_ := a_ (below_step bel_ hb); have n6_ := a_ (hbox); have n7_ := a_ (bz_ hg : w.heap.size ≤ gb625); have n8_ := a_ (bz_ hg : w.heap.size ≤ gb625); have n9_ := a_ (nl_ hg (bk_ BK616.out)); have n10_ := a_ (ng_ hg (bk_ BK616.out)); have n11_ := a_ (nl_ hg (bk_ BK617.out)); have n12_ := a_ (ng_ hg (bk_ BK617.out)); have n13_ := a_ (nl_ hg (bk_ BK618.out)); have n14_ := a_ (ng_ hg (bk_ BK618.out)); clear HO621; clear HO624; clear BK616; clear BK617; clear BK618; clear HB; have HO621 := n0_; have HO624 := n1_; have BK616 := n2_; have BK617 := n3_; have BK618 := n4_; have HB := n5_; have BK625 := n6_; have GW625 := n7_; have GE625 := n8_; have NB616_625 := n9_; have NB625_616 := n10_; have NB617_625 := n11_; have NB625_617 := n12_; have NB618_625 := n13_; have NB625_618 := n14_; clear n0_ n1_ n2_ n3_ n4_ n5_ n6_ n7_ n8_ n9_ n10_ n11_ n12_ n13_ n14_; clear hb hbox hg; obtain ⟨Ao15, co15, eo15⟩ := Kd.N_slice HO621.out; subst eo15; have hnb16 := NB625_616.out; have hnc16 := NB616_625.out; have hnb17 := NB625_617.out; have hnc17 := NB617_625.out; have hnb18 := NB625_618.out; have hnc18 := NB618_625.out; have hcz19_0 := cz_ BK625 0; have hcz19_1 := cz_ BK625 1; have hfz19_0 := fz_ BK625 0; have hfz19_1 := fz_ BK625 1; obtain ⟨Ao20, co20, eo20⟩ := Kd.R_slice HO624.out; subst eo20; have hnb21 := NB617_618.out; have hnc21 := NB618_617.out; have hcz22_0 := cz_ BK617 0; have hcz22_1 := cz_ BK617 1; have hcz22_2 := cz_ BK617 2; have hfz22_0 := fz_ BK617 0; have hfz22_1 := fz_ BK617 1; have hfz22_2 := fz_ BK617 2) | ((with_reducible refine gate_builtin (b := .append) (xs := #[.tmp 11, .tmp 13]) rfl ?_); at_builtin; refine Kd.R_append k56 (w0 := w) w.heap.size rfl (.tmp 11) (.tmp 13) 46 56 (.agg #[(.int .i64 0), (.int .i64 0), (.int .i64 0)]) 24 rfl Try.underlying46 info56 rfl (by decide) (by omega) (.slice Ao20 t622.length co20) t622 (⟨a1_0, a1_1, a1_2⟩ : S56) [.int .i64 a1_0, .int .i64 a1_1, .int .i64 a1_2] (fun k_ => (w.heap.size ≤ k_) ∧ k_ ≠ gb617) (fun _ => False) rfl (by first | (go_simp; done) | (go_simp; rfl)) ?aP (fun _ hk => hk.elim) ?aF ?aO ?aB ?aS ?aL ?_; (case aP => exact k56_mkM _ _ _ (⟨a1_0, a1_1, a1_2⟩ : S56)); (case aB => exact bel_); (case aF => exact (fun k_ hk => ⟨(Nat.le_trans (below_size bel_) hk), Kd.freshB (g := gb617) (o := .cells #[.int .i64 a1_0, .int .i64 a1_1, .int .i64 a1_2] 56 (0, 0)) (by refine blk_far ?_ NB617_625.out _; refine blk_far ?_ NB617_625.out _; exact BK617.out) k_ hk⟩)); (case aO => exact (by (with_reducible repeat (first | apply Kd.R_alloc | apply Kd.R_drewN | apply Kd.R_drew)); exact Kd.R_mono (Kd.R_far (p := ⟨gb625, 1, none⟩) (Kd.R_far (p := ⟨gb625, 0, none⟩) (Kd.R_types HO624.out BK625.out (by decide)) (fun _ hk => hk.2) (.slice Ao15 t619.length co15)) (fun _ hk => hk.2) (.slice Ao20 t622.length co20)) (fun _ hk => ⟨hk.1.1.1, hk.1.2⟩))); (case aS => exact (below_size bel_)); (case aL => have := LMc4.out; omega); intro v627 w23 ho hb hg hat; rw [← Ny626.out] at ho; have n0_ := a_ (blk_grown (g := gb616) (o := .cells #[.slice A0_0 l0_0.length c0_0, .slice A0_1 l0_1.length c0_1] 48 (0, 0)) (by refine blk_far ?_ NB616_625.out _; refine blk_far ?_ NB616_625.out _; exact BK616.out) hg (Kd.R_ne HO624.out BK616.out (by decide))); have n1_ := a_ (blk_grown (g := gb617) (o := .cells #[.int .i64 a1_0, .int .i64 a1_1, .int .i64 a1_2] 56 (0, 0)) (by refine blk_far ?_ NB617_625.out _; refine blk_far ?_ NB617_625.out _; exact BK617.out) hg (Kd.R_away HO624.out (fun _ hk => hk.2))); have n2_ := a_ (blk_grown (g := gb618) (o := .cells #[.slice none 0 0, .slice none 0 0] 48 (0, 0)) (by refine blk_far ?_ NB618_625.out _; refine blk_far ?_ NB618_625.out _; exact BK618.out) hg (Kd.R_ne HO624.out BK618.out (by decide))); have n3_ := a_ (Kd.N_afterv (ok := (fun k_ => (w.heap.size ≤ k_) ∧ k_ ≠ gb616 ∧ k_ ≠ gb617 ∧ k_ ≠ gb618 ∧ k_ ≠ gb625)) (by (with_reducible repeat (first | apply Kd.N_alloc | apply Kd.N_drewN | apply Kd.N_drew)); exact Kd.N_mono (Kd.N_far (p := ⟨gb625, 1, none⟩) (Kd.N_far (p := ⟨gb625, 0, none⟩) (Kd.N_mono HO621.out (fun k_ hk => (⟨hk, hk.2⟩ : _ ∧ k_ ≠ gb625))) (fun _ hk => hk.2) (.slice Ao15 t619.length co15)) (fun _ hk => hk.2) (.slice Ao20 t622.length co20)) (fun _ hk => ⟨⟨hk.1.1.1, ⟨hk.1.1.2.2.1, ⟨hk.1.1.2.2.2.1, ⟨hk.1.1.2.2.2.2, hk.1.2⟩⟩⟩⟩, hk.1.1.2.1⟩)) hg hat); have n4_ := a_ (blk_grown (g := gb625) (o := .cells #[.slice Ao15 t619.length co15, .slice Ao20 t622.length co20] 48 (0, 0)) (by refine blk_put (cs := #[.slice Ao15 t619.length co15, .slice none 0 0]) ?_ 1 _ rfl; refine blk_put (cs := #[.slice none 0 0, .slice none 0 0]) ?_ 0 _ rfl; exact BK625.out) hg (Kd.R_ne HO624.out BK625.out (by decide))); have n5_ := a_ (hb); have n6_ := a_ (ho); clear BK616; clear BK617; clear BK618; clear HO621; clear BK625; clear HB; clear HO624; have BK616 := n0_; have BK617 := n1_; have BK618 := n2_; have HO621 := n3_; have BK625 := n4_; have HB := n5_; have HO628 := n6_; clear n0_ n1_ n2_ n3_ n4_ n5_ n6_; clear ho hb hg hat; obtain ⟨Ao24, co24, eo24⟩ := Kd.R_slice HO628.out; subst eo24; have hcz25_0 := cz_ BK625 0; have hcz25_1 := cz_ BK625 1; have hfz25_0 := fz_ BK625 0; have hfz25_1 := fz_ BK625 1) | ((with_reducible refine gate_callee (f := 37) rfl ?_); refine gs_ (some 17) Try.func37 #[.agg #[.slice Ao15 t619.length co15, .slice Ao24 y626.length co24]] ?_; (with_reducible refine (skiarearef53_Right.calls k _ _ t619 _ _ y626 t629 _ ?side1 ?side2 ?side3 ?side4 A5.out).mono ?_); (case side1 => refine (Kd.N_reads' (e := 63) (base := w.heap.size) (ok := fun k_ => (((w.heap.size ≤ k_) ∧ (k_ ≠ gb616 ∧ (k_ ≠ gb617 ∧ (k_ ≠ gb618 ∧ k_ ≠ gb625)))) ∧ some k_ ≠ (.slice Ao24 y626.length co24 : Value).ownBlock)) (n := t619.length) (c := co15) ?_).2.2; exact (by (with_reducible repeat (first | apply Kd.N_alloc | apply Kd.N_drewN | apply Kd.N_drew)); exact (Kd.N_mono (Kd.N_far (p := ⟨gb625, 1, none⟩) (Kd.N_mono HO621.out (fun k_ hk => (⟨hk, hk.1.2.2.2.2⟩ : _ ∧ k_ ≠ gb625))) (fun _ hk => hk.2) (.slice Ao24 y626.length co24)) (fun _ h_ => h_.1)))); (case side2 => exact (Kd.N_reads' HO621.out).2.1); (case side3 => refine (Kd.R_reads' (e := 56) (base := w.heap.size) (ok := fun k_ => ((w.heap.size ≤ k_) ∧ k_ ≠ gb617)) (n := y626.length) (c := co24) ?_).2.2; exact (by (with_reducible repeat (first | apply Kd.R_alloc | apply Kd.R_drewN | apply Kd.R_drew)); exact (Kd.R_mono (Kd.R_far (p := ⟨gb625, 1, none⟩) (Kd.R_types HO628.out BK625.out (by decide)) (fun _ hk => hk.2) (.slice Ao24 y626.length co24)) (fun _ h_ => h_.1)))); (case side4 => exact (Kd.R_reads' HO628.out).2.1); rintro e w26 ⟨rfl, hb⟩; refine ⟨_, rfl, ?_⟩; have n0_ := a_ (Kd.N_below (by (with_reducible repeat (first | apply Kd.N_alloc | apply Kd.N_drewN | apply Kd.N_drew)); exact (Kd.N_mono (Kd.N_far (p := ⟨gb625, 1, none⟩) (Kd.N_mono HO621.out (fun k_ hk => (⟨hk, hk.1.2.2.2.2⟩ : _ ∧ k_ ≠ gb625))) (fun _ hk => hk.2) (.slice Ao24 y626.length co24)) (fun _ h_ => h_.1))) hb); have n1_ := a_ (Kd.R_below (by (with_reducible repeat (first | apply Kd.R_alloc | apply Kd.R_drewN | apply Kd.R_drew)); exact (Kd.R_mono (Kd.R_far (p := ⟨gb625, 1, none⟩) (Kd.R_types HO628.out BK625.out (by decide)) (fun _ hk => hk.2) (.slice Ao24 y626.length co24)) (fun _ h_ => h_.1))) hb); have n2_ := a_ (blk_below (g := gb616) (o := .cells #[.slice A0_0 l0_0.length c0_0, .slice A0_1 l0_1.length c0_1] 48 (0, 0)) (by refine blk_far ?_ NB616_625.out _; exact BK616.out) hb); have n3_ := a_ (blk_below (g := gb617) (o := .cells #[.int .i64 a1_0, .int .i64 a1_1, .int .i64 a1_2] 56 (0, 0)) (by refine blk_far ?_ NB617_625.out _; exact BK617.out) hb); have n4_ := a_ (blk_below (g := gb618) (o := .cells #[.slice none 0 0, .slice none 0 0] 48 (0, 0)) (by refine blk_far ?_ NB618_625.out _; exact BK618.out) hb); have n5_ := a_ (blk_below (g := gb625) (o := .cells #[.slice Ao15 t619.length co15, .slice Ao24 y626.length co24] 48 (0, 0)) (by refine blk_put (cs := #[.slice Ao15 t619.length co15, .slice Ao20 t622.length co20]) ?_ 1 _ rfl; exact BK625.out) hb); have n6_ := a_ (below_step bel_ hb); clear HO621; clear HO628; clear BK616; clear BK617; clear BK618; clear BK625; clear HB; have HO621 := n0_; have HO628 := n1_; have BK616 := n2_; have BK617 := n3_; have BK618 := n4_; have BK625 := n5_; have HB := n6_; clear n0_ n1_ n2_ n3_ n4_ n5_ n6_; (try clear hb); (try clear hb2); (try clear hk); (try clear hi); have hcz27_0 := cz_ BK625 0; have hcz27_1 := cz_ BK625 1; have hfz27_0 := fz_ BK625 0; have hfz27_1 := fz_ BK625 1; have hcz28_0 := cz_ BK618 0; have hcz28_1 := cz_ BK618 1; have hfz28_0 := fz_ BK618 0; have hfz28_1 := fz_ BK618 1))
   refine bodyPost_ret (results_ct rfl _ _ gb618 48 #[.slice Ao15 t619.length co15, .slice Ao24 y626.length co24] (0, 0) _ rfl (by refine blk_put (cs := #[.slice Ao15 t619.length co15, .slice none 0 0]) ?_ 1 _ rfl; refine blk_put (cs := #[.slice none 0 0, .slice none 0 0]) ?_ 0 _ rfl; exact BK618.out) Try.underlying48 rfl (by kernel_rfl)) rfl ?_
   exact ⟨_, _, by first | rfl | (simp [errW_none, errW_some] <;> rfl) | (simp [*, errW_none, errW_some] <;> rfl), by (with_reducible repeat (first | apply Kd.N_alloc | apply Kd.N_drewN | apply Kd.N_drew)); exact Kd.N_mono (Kd.N_far (p := ⟨gb618, 1, none⟩) (Kd.N_far (p := ⟨gb618, 0, none⟩) (Kd.N_mono HO621.out (fun k_ hk => (⟨hk, hk.1.2.2.2.1⟩ : _ ∧ k_ ≠ gb618))) (fun _ hk => hk.2) (.slice Ao15 t619.length co15)) (fun _ hk => hk.2) (.slice Ao24 y626.length co24)) (fun _ hk => ⟨hk.1.1.1, hk.1.2⟩), by (with_reducible repeat (first | apply Kd.R_alloc | apply Kd.R_drewN | apply Kd.R_drew)); exact Kd.R_mono (Kd.R_far (p := ⟨gb618, 1, none⟩) (Kd.R_far (p := ⟨gb618, 0, none⟩) (Kd.R_types HO628.out BK618.out (by decide)) (fun _ hk => hk.2) (.slice Ao15 t619.length co15)) (fun _ hk => hk.2) (.slice Ao24 y626.length co24)) (fun _ hk => hk.1.1), by repeat (first | (with_reducible first | exact HB.out | apply below_alloc | apply pw_below_drewN | apply below_drew1 | refine below_set ?_ GE616.out | refine below_set ?_ GE617.out | refine below_set ?_ GE618.out | refine below_set ?_ GE625.out) | exact HB.out)⟩
  ·rw [if_neg c6] at H
   have c6b0 : (t629 == 0) = false := beq_eq_false_iff_ne.mpr c6
   have c6b1 : (t629 != 0) = true := bne_iff_ne.mpr c6
   simp only [Option.some.injEq, Prod.mk.injEq] at H
   obtain ⟨rfl, rfl, rfl⟩ := H
   go_enter Try.func43, Try.ntmps43
   go_wp2_with (first | ((with_reducible refine gate_dst (N := 2) rfl ?_); refine box_event ?hg (N := 2) ?hd (cs := #[.slice A0_0 l0_0.length c0_0, .slice A0_1 l0_1.length c0_1]) (t := 48) ?hr ?_; (case hd => rfl); (case hg => rfl); (case hr => first | (go_simp; done) | (go_simp; rfl)); intro gb616 hg w29 hbox hb; have n0_ := a_ (below_step bel_ hb); have n1_ := a_ (hbox); have n2_ := a_ (bz_ hg : w.heap.size ≤ gb616); have n3_ := a_ (bz_ hg : w.heap.size ≤ gb616); clear HB; have HB := n0_; have BK616 := n1_; have GW616 := n2_; have GE616 := n3_; clear n0_ n1_ n2_ n3_; clear hb hbox hg) | ((with_reducible refine gate_dst (N := 3) rfl ?_); refine box_event ?hg (N := 3) ?hd (cs := #[.int .i64 a1_0, .int .i64 a1_1, .int .i64 a1_2]) (t := 56) ?hr ?_; (case hd => rfl); (case hg => rfl); (case hr => first | (go_simp; done) | (go_simp; rfl)); intro gb617 hg w30 hbox hb; have n0_ := a_ (blk_below (bk_ BK616.out) hb); have n1_ := a_ (below_step bel_ hb); have n2_ := a_ (hbox); have n3_ := a_ (bz_ hg : w.heap.size ≤ gb617); have n4_ := a_ (bz_ hg : w.heap.size ≤ gb617); have n5_ := a_ (nl_ hg (bk_ BK616.out)); have n6_ := a_ (ng_ hg (bk_ BK616.out)); clear BK616; clear HB; have BK616 := n0_; have HB := n1_; have BK617 := n2_; have GW617 := n3_; have GE617 := n4_; have NB616_617 := n5_; have NB617_616 := n6_; clear n0_ n1_ n2_ n3_ n4_ n5_ n6_; clear hb hbox hg) | ((with_reducible refine gate_dst (N := 4) rfl ?_); refine box_event ?hg (N := 4) ?hd (cs := #[.slice none 0 0, .slice none 0 0]) (t := 48) ?hr ?_; (case hd => rfl); (case hg => rfl); (case hr => first | (go_simp; done) | (go_simp; rfl)); intro gb618 hg w31 hbox hb; have n0_ := a_ (blk_below (bk_ BK616.out) hb); have n1_ := a_ (blk_below (bk_ BK617.out) hb); have n2_ := a_ (below_step bel_ hb); have n3_ := a_ (hbox); have n4_ := a_ (bz_ hg : w.heap.size ≤ gb618); have n5_ := a_ (bz_ hg : w.heap.size ≤ gb618); have n6_ := a_ (nl_ hg (bk_ BK616.out)); have n7_ := a_ (ng_ hg (bk_ BK616.out)); have n8_ := a_ (nl_ hg (bk_ BK617.out)); have n9_ := a_ (ng_ hg (bk_ BK617.out)); clear BK616; clear BK617; clear HB; have BK616 := n0_; have BK617 := n1_; have HB := n2_; have BK618 := n3_; have GW618 := n4_; have GE618 := n5_; have NB616_618 := n6_; have NB618_616 := n7_; have NB617_618 := n8_; have NB618_617 := n9_; clear n0_ n1_ n2_ n3_ n4_ n5_ n6_ n7_ n8_ n9_; clear hb hbox hg; have hnb32 := NB616_617.out; have hnc32 := NB617_616.out; have hnb33 := NB616_618.out; have hnc33 := NB618_616.out; have hcz34_0 := cz_ BK616 0; have hcz34_1 := cz_ BK616 1; have hfz34_0 := fz_ BK616 0; have hfz34_1 := fz_ BK616 1) | ((with_reducible refine gate_callee (f := 70) rfl ?_); refine gs_ (some 9) Try.func70 #[.agg #[.slice A0_0 l0_0.length c0_0, .slice A0_1 l0_1.length c0_1]] ?_; (with_reducible refine (skiarearef53_Own.calls k _ _ l0_0 _ _ l0_1 t619 t622 _ ?side1 ?side2 ?side3 ?side4 A3.out).mono ?_); (case side1 => exact kC_ (Kd.C_below HR0_0.out HB.out)); (case side2 => exact HC0_0.out); (case side3 => exact kC_ (Kd.C_below HR0_1.out HB.out)); (case side4 => exact HC0_1.out); rintro e w35 ⟨v620, v623, rfl, ho0, ho1, hb⟩; refine ⟨_, rfl, ?_⟩; have n0_ := a_ (Kd.N_lower (Kd.N_mono (ok' := fun k_ => (w.heap.size ≤ k_) ∧ some k_ ≠ (v623 : Value).ownBlock ∧ k_ ≠ gb616 ∧ k_ ≠ gb617 ∧ k_ ≠ gb618) ho0 (fun k_ hk_ => ⟨(Nat.le_trans (below_size bel_) hk_.1), hk_.2, (Kd.freshB (bk_ BK616.out) k_ hk_.1), (Kd.freshB (bk_ BK617.out) k_ hk_.1), (Kd.freshB (bk_ BK618.out) k_ hk_.1)⟩)) (below_size bel_)); have n1_ := a_ (Kd.R_lower (Kd.R_newB (Kd.R_newM (M := fun k_ => (w.heap.size ≤ k_)) (Kd.R_mono (ok' := fun k_ => True) ho1 (fun _ hk_ => trivial)) (below_size bel_) (fun k_ h_ => h_)) (bk_ BK617.out)) (below_size bel_)); have n2_ := a_ (blk_below (bk_ BK616.out) hb); have n3_ := a_ (blk_below (bk_ BK617.out) hb); have n4_ := a_ (blk_below (bk_ BK618.out) hb); have n5_ := a_ (below_step bel_ hb); clear BK616; clear BK617; clear BK618; clear HB; have HO621 := n0_; have HO624 := n1_; have BK616 := n2_; have BK617 := n3_; have BK618 := n4_; have HB := n5_; clear n0_ n1_ n2_ n3_ n4_ n5_; (try clear hb); (try clear hb2); (try clear hk); (try clear hi); (try clear ho0); (try clear ho1)) | ((with_reducible refine gate_dst (N := 6) rfl ?_); refine box_event ?hg (N := 6) ?hd (cs := #[.slice none 0 0, .slice none 0 0]) (t := 48) ?hr ?_; (case hd => rfl); (case hg => rfl); (case hr => first | (go_simp; done) | (go_simp; rfl)); intro gb625 hg w36 hbox hb; have n0_ := a_ (Kd.N_below (Kd.N_elderB (kN_ HO621.out) gb625 (Nat.le_of_eq hg.symm)) hb); have n1_ := a_ (Kd.R_below (kR_ HO624.out) hb); have n2_ := a_ (blk_below (bk_ BK616.out) hb); have n3_ := a_ (blk_below (bk_ BK617.out) hb); have n4_ := a_ (blk_below (bk_ BK618.out) hb); have n5_ := a_ (below_step bel_ hb); have n6_ := a_ (hbox); have n7_ := a_ (bz_ hg : w.heap.size ≤ gb625); have n8_ := a_ (bz_ hg : w.heap.size ≤ gb625); have n9_ := a_ (nl_ hg (bk_ BK616.out)); have n10_ := a_ (ng_ hg (bk_ BK616.out)); have n11_ := a_ (nl_ hg (bk_ BK617.out)); have n12_ := a_ (ng_ hg (bk_ BK617.out)); have n13_ := a_ (nl_ hg (bk_ BK618.out)); have n14_ := a_ (ng_ hg (bk_ BK618.out)); clear HO621; clear HO624; clear BK616; clear BK617; clear BK618; clear HB; have HO621 := n0_; have HO624 := n1_; have BK616 := n2_; have BK617 := n3_; have BK618 := n4_; have HB := n5_; have BK625 := n6_; have GW625 := n7_; have GE625 := n8_; have NB616_625 := n9_; have NB625_616 := n10_; have NB617_625 := n11_; have NB625_617 := n12_; have NB618_625 := n13_; have NB625_618 := n14_; clear n0_ n1_ n2_ n3_ n4_ n5_ n6_ n7_ n8_ n9_ n10_ n11_ n12_ n13_ n14_; clear hb hbox hg; obtain ⟨Ao37, co37, eo37⟩ := Kd.N_slice HO621.out; subst eo37; have hnb38 := NB625_616.out; have hnc38 := NB616_625.out; have hnb39 := NB625_617.out; have hnc39 := NB617_625.out; have hnb40 := NB625_618.out; have hnc40 := NB618_625.out; have hcz41_0 := cz_ BK625 0; have hcz41_1 := cz_ BK625 1; have hfz41_0 := fz_ BK625 0; have hfz41_1 := fz_ BK625 1; obtain ⟨Ao42, co42, eo42⟩ := Kd.R_slice HO624.out; subst eo42; have hnb43 := NB617_618.out; have hnc43 := NB618_617.out; have hcz44_0 := cz_ BK617 0; have hcz44_1 := cz_ BK617 1; have hcz44_2 := cz_ BK617 2; have hfz44_0 := fz_ BK617 0; have hfz44_1 := fz_ BK617 1; have hfz44_2 := fz_ BK617 2) | ((with_reducible refine gate_builtin (b := .append) (xs := #[.tmp 11, .tmp 13]) rfl ?_); at_builtin; refine Kd.R_append k56 (w0 := w) w.heap.size rfl (.tmp 11) (.tmp 13) 46 56 (.agg #[(.int .i64 0), (.int .i64 0), (.int .i64 0)]) 24 rfl Try.underlying46 info56 rfl (by decide) (by omega) (.slice Ao42 t622.length co42) t622 (⟨a1_0, a1_1, a1_2⟩ : S56) [.int .i64 a1_0, .int .i64 a1_1, .int .i64 a1_2] (fun k_ => (w.heap.size ≤ k_) ∧ k_ ≠ gb617) (fun _ => False) rfl (by first | (go_simp; done) | (go_simp; rfl)) ?aP (fun _ hk => hk.elim) ?aF ?aO ?aB ?aS ?aL ?_; (case aP => exact k56_mkM _ _ _ (⟨a1_0, a1_1, a1_2⟩ : S56)); (case aB => exact bel_); (case aF => exact (fun k_ hk => ⟨(Nat.le_trans (below_size bel_) hk), Kd.freshB (g := gb617) (o := .cells #[.int .i64 a1_0, .int .i64 a1_1, .int .i64 a1_2] 56 (0, 0)) (by refine blk_far ?_ NB617_625.out _; refine blk_far ?_ NB617_625.out _; exact BK617.out) k_ hk⟩)); (case aO => exact (by (with_reducible repeat (first | apply Kd.R_alloc | apply Kd.R_drewN | apply Kd.R_drew)); exact Kd.R_mono (Kd.R_far (p := ⟨gb625, 1, none⟩) (Kd.R_far (p := ⟨gb625, 0, none⟩) (Kd.R_types HO624.out BK625.out (by decide)) (fun _ hk => hk.2) (.slice Ao37 t619.length co37)) (fun _ hk => hk.2) (.slice Ao42 t622.length co42)) (fun _ hk => ⟨hk.1.1.1, hk.1.2⟩))); (case aS => exact (below_size bel_)); (case aL => have := LMc4.out; omega); intro v627 w45 ho hb hg hat; rw [← Ny626.out] at ho; have n0_ := a_ (blk_grown (g := gb616) (o := .cells #[.slice A0_0 l0_0.length c0_0, .slice A0_1 l0_1.length c0_1] 48 (0, 0)) (by refine blk_far ?_ NB616_625.out _; refine blk_far ?_ NB616_625.out _; exact BK616.out) hg (Kd.R_ne HO624.out BK616.out (by decide))); have n1_ := a_ (blk_grown (g := gb617) (o := .cells #[.int .i64 a1_0, .int .i64 a1_1, .int .i64 a1_2] 56 (0, 0)) (by refine blk_far ?_ NB617_625.out _; refine blk_far ?_ NB617_625.out _; exact BK617.out) hg (Kd.R_away HO624.out (fun _ hk => hk.2))); have n2_ := a_ (blk_grown (g := gb618) (o := .cells #[.slice none 0 0, .slice none 0 0] 48 (0, 0)) (by refine blk_far ?_ NB618_625.out _; refine blk_far ?_ NB618_625.out _; exact BK618.out) hg (Kd.R_ne HO624.out BK618.out (by decide))); have n3_ := a_ (Kd.N_afterv (ok := (fun k_ => (w.heap.size ≤ k_) ∧ k_ ≠ gb616 ∧ k_ ≠ gb617 ∧ k_ ≠ gb618 ∧ k_ ≠ gb625)) (by (with_reducible repeat (first | apply Kd.N_alloc | apply Kd.N_drewN | apply Kd.N_drew)); exact Kd.N_mono (Kd.N_far (p := ⟨gb625, 1, none⟩) (Kd.N_far (p := ⟨gb625, 0, none⟩) (Kd.N_mono HO621.out (fun k_ hk => (⟨hk, hk.2⟩ : _ ∧ k_ ≠ gb625))) (fun _ hk => hk.2) (.slice Ao37 t619.length co37)) (fun _ hk => hk.2) (.slice Ao42 t622.length co42)) (fun _ hk => ⟨⟨hk.1.1.1, ⟨hk.1.1.2.2.1, ⟨hk.1.1.2.2.2.1, ⟨hk.1.1.2.2.2.2, hk.1.2⟩⟩⟩⟩, hk.1.1.2.1⟩)) hg hat); have n4_ := a_ (blk_grown (g := gb625) (o := .cells #[.slice Ao37 t619.length co37, .slice Ao42 t622.length co42] 48 (0, 0)) (by refine blk_put (cs := #[.slice Ao37 t619.length co37, .slice none 0 0]) ?_ 1 _ rfl; refine blk_put (cs := #[.slice none 0 0, .slice none 0 0]) ?_ 0 _ rfl; exact BK625.out) hg (Kd.R_ne HO624.out BK625.out (by decide))); have n5_ := a_ (hb); have n6_ := a_ (ho); clear BK616; clear BK617; clear BK618; clear HO621; clear BK625; clear HB; clear HO624; have BK616 := n0_; have BK617 := n1_; have BK618 := n2_; have HO621 := n3_; have BK625 := n4_; have HB := n5_; have HO628 := n6_; clear n0_ n1_ n2_ n3_ n4_ n5_ n6_; clear ho hb hg hat; obtain ⟨Ao46, co46, eo46⟩ := Kd.R_slice HO628.out; subst eo46; have hcz47_0 := cz_ BK625 0; have hcz47_1 := cz_ BK625 1; have hfz47_0 := fz_ BK625 0; have hfz47_1 := fz_ BK625 1) | ((with_reducible refine gate_callee (f := 37) rfl ?_); refine gs_ (some 17) Try.func37 #[.agg #[.slice Ao37 t619.length co37, .slice Ao46 y626.length co46]] ?_; (with_reducible refine (skiarearef53_Right.calls k _ _ t619 _ _ y626 t629 _ ?side1 ?side2 ?side3 ?side4 A5.out).mono ?_); (case side1 => refine (Kd.N_reads' (e := 63) (base := w.heap.size) (ok := fun k_ => (((w.heap.size ≤ k_) ∧ (k_ ≠ gb616 ∧ (k_ ≠ gb617 ∧ (k_ ≠ gb618 ∧ k_ ≠ gb625)))) ∧ some k_ ≠ (.slice Ao46 y626.length co46 : Value).ownBlock)) (n := t619.length) (c := co37) ?_).2.2; exact (by (with_reducible repeat (first | apply Kd.N_alloc | apply Kd.N_drewN | apply Kd.N_drew)); exact (Kd.N_mono (Kd.N_far (p := ⟨gb625, 1, none⟩) (Kd.N_mono HO621.out (fun k_ hk => (⟨hk, hk.1.2.2.2.2⟩ : _ ∧ k_ ≠ gb625))) (fun _ hk => hk.2) (.slice Ao46 y626.length co46)) (fun _ h_ => h_.1)))); (case side2 => exact (Kd.N_reads' HO621.out).2.1); (case side3 => refine (Kd.R_reads' (e := 56) (base := w.heap.size) (ok := fun k_ => ((w.heap.size ≤ k_) ∧ k_ ≠ gb617)) (n := y626.length) (c := co46) ?_).2.2; exact (by (with_reducible repeat (first | apply Kd.R_alloc | apply Kd.R_drewN | apply Kd.R_drew)); exact (Kd.R_mono (Kd.R_far (p := ⟨gb625, 1, none⟩) (Kd.R_types HO628.out BK625.out (by decide)) (fun _ hk => hk.2) (.slice Ao46 y626.length co46)) (fun _ h_ => h_.1)))); (case side4 => exact (Kd.R_reads' HO628.out).2.1); rintro e w48 ⟨rfl, hb⟩; refine ⟨_, rfl, ?_⟩; have n0_ := a_ (Kd.N_below (by (with_reducible repeat (first | apply Kd.N_alloc | apply Kd.N_drewN | apply Kd.N_drew)); exact (Kd.N_mono (Kd.N_far (p := ⟨gb625, 1, none⟩) (Kd.N_mono HO621.out (fun k_ hk => (⟨hk, hk.1.2.2.2.2⟩ : _ ∧ k_ ≠ gb625))) (fun _ hk => hk.2) (.slice Ao46 y626.length co46)) (fun _ h_ => h_.1))) hb); have n1_ := a_ (Kd.R_below (by (with_reducible repeat (first | apply Kd.R_alloc | apply Kd.R_drewN | apply Kd.R_drew)); exact (Kd.R_mono (Kd.R_far (p := ⟨gb625, 1, none⟩) (Kd.R_types HO628.out BK625.out (by decide)) (fun _ hk => hk.2) (.slice Ao46 y626.length co46)) (fun _ h_ => h_.1))) hb); have n2_ := a_ (blk_below (g := gb616) (o := .cells #[.slice A0_0 l0_0.length c0_0, .slice A0_1 l0_1.length c0_1] 48 (0, 0)) (by refine blk_far ?_ NB616_625.out _; exact BK616.out) hb); have n3_ := a_ (blk_below (g := gb617) (o := .cells #[.int .i64 a1_0, .int .i64 a1_1, .int .i64 a1_2] 56 (0, 0)) (by refine blk_far ?_ NB617_625.out _; exact BK617.out) hb); have n4_ := a_ (blk_below (g := gb618) (o := .cells #[.slice none 0 0, .slice none 0 0] 48 (0, 0)) (by refine blk_far ?_ NB618_625.out _; exact BK618.out) hb); have n5_ := a_ (blk_below (g := gb625) (o := .cells #[.slice Ao37 t619.length co37, .slice Ao46 y626.length co46] 48 (0, 0)) (by refine blk_put (cs := #[.slice Ao37 t619.length co37, .slice Ao42 t622.length co42]) ?_ 1 _ rfl; exact BK625.out) hb); have n6_ := a_ (below_step bel_ hb); clear HO621; clear HO628; clear BK616; clear BK617; clear BK618; clear BK625; clear HB; have HO621 := n0_; have HO628 := n1_; have BK616 := n2_; have BK617 := n3_; have BK618 := n4_; have BK625 := n5_; have HB := n6_; clear n0_ n1_ n2_ n3_ n4_ n5_ n6_; (try clear hb); (try clear hb2); (try clear hk); (try clear hi); have hcz49_0 := cz_ BK618 0; have hcz49_1 := cz_ BK618 1; have hfz49_0 := fz_ BK618 0; have hfz49_1 := fz_ BK618 1))
   refine bodyPost_ret (results_ct rfl _ _ gb618 48 #[.slice none 0 0, .slice none 0 0] (0, 0) _ rfl (by refine blk_put (cs := #[.slice none 0 0, .slice none 0 0]) ?_ 1 _ rfl; refine blk_put (cs := #[.slice none 0 0, .slice none 0 0]) ?_ 0 _ rfl; exact BK618.out) Try.underlying48 rfl (by kernel_rfl)) rfl ?_
   exact ⟨_, _, by first | rfl | (simp [errW_none, errW_some] <;> rfl) | (simp [*, errW_none, errW_some] <;> rfl), by first | exact Kd.S_nil _ _ _ _ _ | exact Kd.N_nil _ _ _ _ _ | exact Kd.V_nil _ _ _ _ _ | exact Kd.Q_nil _ _ _ _ _ | exact Kd.R_nil _ _ _ _ _, by first | exact Kd.R_nil _ _ _ _ _ | exact Kd.N_nil _ _ _ _ _ | exact Kd.V_nil _ _ _ _ _ | exact Kd.Q_nil _ _ _ _ _ | exact Kd.S_nil _ _ _ _ _, by repeat (first | (with_reducible first | exact HB.out | apply below_alloc | apply pw_below_drewN | apply below_drew1 | refine below_set ?_ GE616.out | refine below_set ?_ GE617.out | refine below_set ?_ GE618.out | refine below_set ?_ GE625.out) | exact HB.out)⟩
 ·rw [if_neg c4] at H
  exact absurd H (by simp)
def skiarearef53_Remove.l0 : Nat → Int → Int → List (S63) → List (S56) → List (S63) → List (S56) → Option ((List (S63)) × (List (S56)) × Int)
 | 0, _, _, _, _, _, _ => none
 | k + 1, x1, x7, x631000, x631001, x639000, x639001 => if x7 < (x631001.length : Int) then (if 0 ≤ x7 then (if ((rd_T56 x631001 x7).f0) = x1 then (skiarearef53_Remove.l0 k x1 (wrap64 (x7 + 1)) x631000 x631001 x639000 x639001) else (if x639001.length < 5864062014805 then (skiarearef53_Remove.l0 k x1 (wrap64 (x7 + 1)) x631000 x631001 x639000 (x639001 ++ [(⟨(rd_T56 x631001 x7).f0, (rd_T56 x631001 x7).f1, (rd_T56 x631001 x7).f2⟩ : S56)])) else (none))) else (none)) else (if (x639001.length : Int) = (x631001.length : Int) then (some (([] : List (S63)), ([] : List (S56)), 8)) else (some (x639000, x639001, 0)))
def skiarearef53_Remove.f (k : Nat) (l0_0 : List (S63)) (l0_1 : List (S56)) (a1 : Int) : Option ((List (S63)) × (List (S56)) × Int) := (skiarearef53_Own.f k l0_0 l0_1).bind fun bt632 => (skiarearef53_Remove.l0 k a1 0 l0_0 l0_1 bt632.1 ([] : List (S56)))
theorem skiarearef53_Remove.mono_l : ∀ k, (∀ y0 y1 y2 y3 y4 y5, LeO (skiarearef53_Remove.l0 k y0 y1 y2 y3 y4 y5) (skiarearef53_Remove.l0 (k + 1) y0 y1 y2 y3 y4 y5))
 | 0 => fun _ _ _ _ _ _ r h => by simp [skiarearef53_Remove.l0] at h
 | k + 1 => by
  have ih0 := skiarearef53_Remove.mono_l k
  ·intro y0 y1 y2 y3 y4 y5
   unfold skiarearef53_Remove.l0
   repeat' first
   | (with_reducible exact ih0 _ _ _ _ _ _)
   | (with_reducible exact skiarearef53_Own.mono _ _ _)
   | (with_reducible exact LeO.refl _)
   | (with_reducible exact LeO.none _)
   | (with_reducible refine LeO.ite ?_ ?_)
   | (with_reducible refine LeO.bind ?_ (fun _ => ?_))
   | exact ih0 _ _ _ _ _ _
   | exact skiarearef53_Own.mono _ _ _
   | exact LeO.none _
   | refine LeO.ite ?_ ?_
   | refine LeO.bind ?_ (fun _ => ?_)
theorem skiarearef53_Remove.mono : ∀ a0 a1 a2 k, LeO (skiarearef53_Remove.f k a0 a1 a2) (skiarearef53_Remove.f (k + 1) a0 a1 a2) := by
 intro a0 a1 a2 k
 have ih0 := skiarearef53_Remove.mono_l k
 unfold skiarearef53_Remove.f
 repeat' first
   | (with_reducible exact ih0 _ _ _ _ _ _)
   | (with_reducible exact skiarearef53_Own.mono _ _ _)
   | (with_reducible exact LeO.refl _)
   | (with_reducible exact LeO.none _)
   | (with_reducible refine LeO.ite ?_ ?_)
   | (with_reducible refine LeO.bind ?_ (fun _ => ?_))
   | exact ih0 _ _ _ _ _ _
   | exact skiarearef53_Own.mono _ _ _
   | exact LeO.none _
   | refine LeO.ite ?_ ?_
   | refine LeO.bind ?_ (fun _ => ?_)
def skiarearef53_Remove.T7 : Bool × List (List Nat × List Nat) := (true, [([], []), ([0], [0]), ([], []), ([2], [2]), ([], []), ([3, 4], [3, 4]), ([5], [5]), ([6], [6]), ([1, 7], [1, 7]), ([0, 1, 2, 3, 4, 5, 6, 7, 8], []), ([9, 8, 8, 0, 1, 2, 3, 4, 5, 6, 7, 8], [8, 9])])
def skiarearef53_Remove.B7 : List Nat := [0, 1, 0, 4, 0, 28, 60, 124, 255, 511, 1023]
theorem skiarearef53_Remove.tab7 : rtab .any (opsOf Try.f45 7) = skiarearef53_Remove.T7 := by kernel_rfl
theorem skiarearef53_Remove.bits7 : waitsOk skiarearef53_Remove.T7.2 skiarearef53_Remove.B7 = true := by kernel_rfl
set_option maxHeartbeats 8000000 in
set_option maxRecDepth 100000 in
theorem skiarearef53_Remove.calls (k : Nat) (A0_0 : Option Addr) (c0_0 : Nat) (l0_0 : List (S63)) (A0_1 : Option Addr) (c0_1 : Nat) (l0_1 : List (S56)) (a1 : Int) (r1 : List (S63)) (r2 : List (S56)) (r3 : Int) (w : World) (hr0_0 : Kd.C k63 w A0_0 l0_0.length l0_0) (hc0_0 : l0_0.length ≤ c0_0) (hr0_1 : Kd.C k56 w A0_1 l0_1.length l0_1) (hc0_1 : l0_1.length ≤ c0_1) (h : skiarearef53_Remove.f k l0_0 l0_1 a1 = some (r1, r2, r3)) :
  Calls Try.prog 45 #[.agg #[.slice A0_0 l0_0.length c0_0, .slice A0_1 l0_1.length c0_1], .int .i64 a1] w fun e w' => ∃ v0_ v1_ : Value, e = .returned (.tuple #[.agg #[v0_, v1_], .int .i64 r3]) ∧ Kd.N k63 63 w' w.heap.size (fun k_ => (w.heap.size ≤ k_) ∧ some k_ ≠ (v1_ : Value).ownBlock) v0_ r1 ∧ Kd.R k56 56 w' w.heap.size (fun k_ => (w.heap.size ≤ k_)) v1_ r2 ∧ Below w.heap.size w w' := by
 have hu48 := Try.underlying48
 have hu56 := Try.underlying56
 have HR0_0 := a_ hr0_0
 have HC0_0 := a_ hc0_0
 clear hr0_0 hc0_0
 have HR0_1 := a_ hr0_1
 have HC0_1 := a_ hc0_1
 clear hr0_1 hc0_1
 have HB := a_ (Below.refl w.heap.size w)
 have H : ((skiarearef53_Own.f k l0_0 l0_1).bind fun bt632 => (skiarearef53_Remove.l0 k a1 0 l0_0 l0_1 bt632.1 ([] : List (S56)))) = some (r1, r2, r3) := h
 clear h
 replace H := Option.bind_eq_some_iff.mp H
 obtain ⟨⟨t632, t635⟩, A30, H⟩ := H
 replace H : (skiarearef53_Remove.l0 k a1 0 l0_0 l0_1 t632 ([] : List (S56))) = some (r1, r2, r3) := H
 have A3 := a_ A30
 clear A30
 have H' := a_ H
 clear H
 go_enter Try.func45, Try.ntmps45
 go_wp2_with (first | ((with_reducible refine gate_dst (N := 2) rfl ?_); refine box_event ?hg (N := 2) ?hd (cs := #[.slice A0_0 l0_0.length c0_0, .slice A0_1 l0_1.length c0_1]) (t := 48) ?hr ?_; (case hd => rfl); (case hg => rfl); (case hr => first | (go_simp; done) | (go_simp; rfl)); intro gb630 hg w4 hbox hb; have n0_ := a_ (below_step bel_ hb); have n1_ := a_ (hbox); have n2_ := a_ (bz_ hg : w.heap.size ≤ gb630); have n3_ := a_ (bz_ hg : w.heap.size ≤ gb630); clear HB; have HB := n0_; have BK630 := n1_; have GW630 := n2_; have GE630 := n3_; clear n0_ n1_ n2_ n3_; clear hb hbox hg) | ((with_reducible refine gate_dst (N := 4) rfl ?_); refine box_event ?hg (N := 4) ?hd (cs := #[.slice none 0 0, .slice none 0 0]) (t := 48) ?hr ?_; (case hd => rfl); (case hg => rfl); (case hr => first | (go_simp; done) | (go_simp; rfl)); intro gb631 hg w5 hbox hb; have n0_ := a_ (blk_below (bk_ BK630.out) hb); have n1_ := a_ (below_step bel_ hb); have n2_ := a_ (hbox); have n3_ := a_ (bz_ hg : w.heap.size ≤ gb631); have n4_ := a_ (bz_ hg : w.heap.size ≤ gb631); have n5_ := a_ (nl_ hg (bk_ BK630.out)); have n6_ := a_ (ng_ hg (bk_ BK630.out)); clear BK630; clear HB; have BK630 := n0_; have HB := n1_; have BK631 := n2_; have GW631 := n3_; have GE631 := n4_; have NB630_631 := n5_; have NB631_630 := n6_; clear n0_ n1_ n2_ n3_ n4_ n5_ n6_; clear hb hbox hg; have hnb6 := NB630_631.out; have hnc6 := NB631_630.out; have hcz7_0 := cz_ BK630 0; have hcz7_1 := cz_ BK630 1; have hfz7_0 := fz_ BK630 0; have hfz7_1 := fz_ BK630 1) | ((with_reducible refine gate_callee (f := 70) rfl ?_); refine gs_ (some 9) Try.func70 #[.agg #[.slice A0_0 l0_0.length c0_0, .slice A0_1 l0_1.length c0_1]] ?_; (with_reducible refine (skiarearef53_Own.calls k _ _ l0_0 _ _ l0_1 t632 t635 _ ?side1 ?side2 ?side3 ?side4 A3.out).mono ?_); (case side1 => exact kC_ (Kd.C_below HR0_0.out HB.out)); (case side2 => exact HC0_0.out); (case side3 => exact kC_ (Kd.C_below HR0_1.out HB.out)); (case side4 => exact HC0_1.out); rintro e w8 ⟨v633, v636, rfl, ho0, ho1, hb⟩; refine ⟨_, rfl, ?_⟩; have n0_ := a_ (Kd.N_lower (Kd.N_mono (ok' := fun k_ => (w.heap.size ≤ k_) ∧ some k_ ≠ (v636 : Value).ownBlock ∧ k_ ≠ gb630 ∧ k_ ≠ gb631) ho0 (fun k_ hk_ => ⟨(Nat.le_trans (below_size bel_) hk_.1), hk_.2, (Kd.freshB (bk_ BK630.out) k_ hk_.1), (Kd.freshB (bk_ BK631.out) k_ hk_.1)⟩)) (below_size bel_)); have n1_ := a_ (Kd.R_lower (Kd.R_newM (M := fun k_ => (w.heap.size ≤ k_)) (Kd.R_mono (ok' := fun k_ => True) ho1 (fun _ hk_ => trivial)) (below_size bel_) (fun k_ h_ => h_)) (below_size bel_)); have n2_ := a_ (blk_below (bk_ BK630.out) hb); have n3_ := a_ (blk_below (bk_ BK631.out) hb); have n4_ := a_ (below_step bel_ hb); clear BK630; clear BK631; clear HB; have HO634 := n0_; have HO637 := n1_; have BK630 := n2_; have BK631 := n3_; have HB := n4_; clear n0_ n1_ n2_ n3_ n4_; (try clear hb); (try clear hb2); (try clear hk); (try clear hi); (try clear ho0); (try clear ho1)) | ((with_reducible refine gate_dst (N := 6) rfl ?_); refine box_event ?hg (N := 6) ?hd (cs := #[.slice none 0 0, .slice none 0 0]) (t := 48) ?hr ?_; (case hd => rfl); (case hg => rfl); (case hr => first | (go_simp; done) | (go_simp; rfl)); intro gb638 hg w9 hbox hb; have n0_ := a_ (Kd.N_below (Kd.N_elderB (kN_ HO634.out) gb638 (Nat.le_of_eq hg.symm)) hb); have n1_ := a_ (Kd.R_below (kR_ HO637.out) hb); have n2_ := a_ (blk_below (bk_ BK630.out) hb); have n3_ := a_ (blk_below (bk_ BK631.out) hb); have n4_ := a_ (below_step bel_ hb); have n5_ := a_ (hbox); have n6_ := a_ (bz_ hg : w.heap.size ≤ gb638); have n7_ := a_ (bz_ hg : w.heap.size ≤ gb638); have n8_ := a_ (nl_ hg (bk_ BK630.out)); have n9_ := a_ (ng_ hg (bk_ BK630.out)); have n10_ := a_ (nl_ hg (bk_ BK631.out)); have n11_ := a_ (ng_ hg (bk_ BK631.out)); clear HO634; clear HO637; clear BK630; clear BK631; clear HB; have HO634 := n0_; have HO637 := n1_; have BK630 := n2_; have BK631 := n3_; have HB := n4_; have BK638 := n5_; have GW638 := n6_; have GE638 := n7_; have NB630_638 := n8_; have NB638_630 := n9_; have NB631_638 := n10_; have NB638_631 := n11_; clear n0_ n1_ n2_ n3_ n4_ n5_ n6_ n7_ n8_ n9_ n10_ n11_; clear hb hbox hg; obtain ⟨Ao10, co10, eo10⟩ := Kd.N_slice HO634.out; subst eo10; have hnb11 := NB638_630.out; have hnc11 := NB630_638.out; have hnb12 := NB638_631.out; have hnc12 := NB631_638.out; have hcz13_0 := cz_ BK638 0; have hcz13_1 := cz_ BK638 1; have hfz13_0 := fz_ BK638 0; have hfz13_1 := fz_ BK638 1; obtain ⟨Ao14, co14, eo14⟩ := Kd.R_slice HO637.out; subst eo14))
 go_loopg [7] k (fun kq v7 w' => ∃ (x7_1 : Int) (x639001_1 : List (S56)) (u639001 : Value), v7 = .int .i64 x7_1 ∧ Aside0 (skiarearef53_Remove.l0 kq a1 x7_1 l0_0 l0_1 t632 x639001_1 = some (r1, r2, r3)) ∧ Aside0 (kq ≤ k) ∧ Aside0 (Kd.N k63 63 w' w.heap.size (fun k_ => (w.heap.size ≤ k_) ∧ some k_ ≠ (u639001 : Value).ownBlock ∧ k_ ≠ gb630 ∧ k_ ≠ gb631 ∧ k_ ≠ gb638) (.slice Ao10 t632.length co10) t632) ∧ Aside0 (Kd.R k56 56 w' w.heap.size (fun k_ => (w.heap.size ≤ k_)) u639001 x639001_1) ∧ Aside0 (w'.heap[gb630]? = some (.cells #[(.slice A0_0 l0_0.length c0_0), (.slice A0_1 l0_1.length c0_1)] 48 (0, 0))) ∧ Aside0 (w'.heap[gb631]? = some (.cells #[(.slice none 0 0), (.slice none 0 0)] 48 (0, 0))) ∧ Aside0 (w'.heap[gb638]? = some (.cells #[(.slice Ao10 t632.length co10), u639001] 48 (0, 0))) ∧ Aside0 (Below w.heap.size w w'))
 case atStart => exact ⟨(0), (([] : List (S56))), (.slice none 0 0), (by first | rfl | (simp; done) | (simp [*]; done)), H', ⟨Nat.le_refl _⟩, ⟨by (with_reducible repeat (first | apply Kd.N_alloc | apply Kd.N_drewN | apply Kd.N_drew)); exact Kd.N_mono (Kd.N_far (p := ⟨gb638, 1, none⟩) (Kd.N_far (p := ⟨gb638, 1, none⟩) (Kd.N_far (p := ⟨gb638, 0, none⟩) (Kd.N_mono HO634.out (fun k_ hk => (⟨hk, hk.2⟩ : _ ∧ k_ ≠ gb638))) (fun _ hk => hk.2) (.slice Ao10 t632.length co10)) (fun _ hk => hk.2) (.slice Ao14 t635.length co14)) (fun _ hk => hk.2) (.slice none 0 0)) (fun _ hk => ⟨hk.1.1.1, ⟨(by simp [Value.ownBlock]), ⟨hk.1.1.2.2.1, ⟨hk.1.1.2.2.2, hk.1.2⟩⟩⟩⟩)⟩, ⟨by first | exact Kd.R_nil _ _ _ _ _ | exact Kd.N_nil _ _ _ _ _ | exact Kd.V_nil _ _ _ _ _ | exact Kd.Q_nil _ _ _ _ _ | exact Kd.S_nil _ _ _ _ _⟩, ⟨by refine blk_far ?_ NB630_638.out _; refine blk_far ?_ NB630_638.out _; refine blk_far ?_ NB630_638.out _; exact BK630.out⟩, ⟨by refine blk_far ?_ NB631_638.out _; refine blk_far ?_ NB631_638.out _; refine blk_far ?_ NB631_638.out _; exact BK631.out⟩, ⟨by refine blk_put (cs := #[.slice Ao10 t632.length co10, .slice Ao14 t635.length co14]) ?_ 1 _ rfl; refine blk_put (cs := #[.slice Ao10 t632.length co10, .slice none 0 0]) ?_ 1 _ rfl; refine blk_put (cs := #[.slice none 0 0, .slice none 0 0]) ?_ 0 _ rfl; exact BK638.out⟩, ⟨by repeat (first | (with_reducible first | exact HB.out | apply below_alloc | apply pw_below_drewN | apply below_drew1 | refine below_set ?_ GE630.out | refine below_set ?_ GE631.out | refine below_set ?_ GE638.out) | exact HB.out)⟩⟩
 case round =>
  clear H'
  try clear c1
  try clear p2
  try clear c4
  try clear c6
  try clear c7
  try clear c11
  try clear c12
  try clear hcz13_0
  try clear hcz13_1
  try clear hcz7_0
  try clear hcz7_1
  try clear hfz13_0
  try clear hfz13_1
  try clear hfz7_0
  try clear hfz7_1
  obtain ⟨x7_1, x639001_1, u639001, rfl, HA, HK1, HO_639000, HO_639001, BK630, BK631, BK638, HB⟩ := hrel
  cases gk with
  | zero => exact absurd HA.out (by simp [skiarearef53_Remove.l0])
  | succ k1 =>
   have H := HA.out
   clear HA
   simp only [skiarearef53_Remove.l0] at H
   by_cases c15 : x7_1 < (l0_1.length : Int)
   ·rw [if_pos c15] at H
    have c15b0 : decide (x7_1 < (l0_1.length : Int)) = true := decide_eq_true c15
    clear c15
    by_cases c16 : 0 ≤ x7_1
    ·rw [if_pos c16] at H
     have c16b0 : decide (0 ≤ x7_1) = true := decide_eq_true c16
     clear c16
     by_cases c17 : ((rd_T56 l0_1 x7_1).f0) = a1
     ·rw [if_pos c17] at H
      have c17b0 : (((rd_T56 l0_1 x7_1).f0) == a1) = true := beq_iff_eq.mpr c17
      have c17b1 : (((rd_T56 l0_1 x7_1).f0) != a1) = false := bne_eq_false_iff_eq.mpr c17
      clear c17
      have H' := a_ H
      clear H
      have hnb18 := NB630_631.out
      have hnc18 := NB631_630.out
      have hnb19 := NB630_638.out
      have hnc19 := NB638_630.out
      have hcz20_0 := cz_ BK630 0
      have hcz20_1 := cz_ BK630 1
      have hfz20_0 := fz_ BK630 0
      have hfz20_1 := fz_ BK630 1
      have p639 : 0 ≤ (x7_1 : Int) := od_
      have q639 : x7_1 < (l0_1.length : Int) := od_
      obtain ⟨ad639, e639, hx639_0, hx639_1, hx639_2⟩ := at_T56 HR0_1.out x7_1 p639 q639
      cases e639
      replace hx639_0 := pc_ hx639_0
      replace hx639_1 := pc_ hx639_1
      replace hx639_2 := pc_ hx639_2
      replace p639 := eq_true p639
      replace q639 := eq_true q639
      go_wp2
      go_roundg k1
      case measure => have := HK1.out; omega
      case rel => exact ⟨(wrap64 (x7_1 + 1)), (x639001_1), (u639001), (by first | rfl | (simp; done) | (simp [*]; done)), H', ⟨by have := HK1.out; omega⟩, ⟨by (with_reducible repeat (first | apply Kd.N_alloc | apply Kd.N_drewN | apply Kd.N_drew)); exact HO_639000.out⟩, ⟨by (with_reducible repeat (first | apply Kd.R_alloc | apply Kd.R_drewN | apply Kd.R_drew)); exact HO_639001.out⟩, ⟨by exact BK630.out⟩, ⟨by exact BK631.out⟩, ⟨by exact BK638.out⟩, ⟨by repeat (first | (with_reducible first | exact HB.out | apply below_alloc | apply pw_below_drewN | apply below_drew1 | refine below_set ?_ GE630.out | refine below_set ?_ GE631.out | refine below_set ?_ GE638.out) | exact HB.out)⟩⟩
     ·rw [if_neg c17] at H
      have c17b0 : (((rd_T56 l0_1 x7_1).f0) == a1) = false := beq_eq_false_iff_ne.mpr c17
      have c17b1 : (((rd_T56 l0_1 x7_1).f0) != a1) = true := bne_iff_ne.mpr c17
      by_cases c21 : x639001_1.length < 5864062014805
      ·rw [if_pos c21] at H
       have LMc21 := a_ c21
       clear c21
       obtain ⟨y641, hy641⟩ : ∃ y_ : List (S56), y_ = (x639001_1 ++ [(⟨(rd_T56 l0_1 x7_1).f0, (rd_T56 l0_1 x7_1).f1, (rd_T56 l0_1 x7_1).f2⟩ : S56)]) := ⟨_, rfl⟩
       replace H : (skiarearef53_Remove.l0 k1 a1 (wrap64 (x7_1 + 1)) l0_0 l0_1 t632 y641) = some (r1, r2, r3) := by first | (rw [hy641]; with_reducible exact H) | (have H2_ := (Option.bind_some _ _).symm.trans H; rw [hy641]; with_reducible exact H2_) | (have H2_ := (Option.bind_some _ _).symm.trans H; with_reducible exact H2_) | with_reducible exact H | (rw [hy641]; exact H) | exact H
       have Ny641 := a_ hy641
       clear hy641
       have H' := a_ H
       clear H
       have hnb22 := NB630_631.out
       have hnc22 := NB631_630.out
       have hnb23 := NB630_638.out
       have hnc23 := NB638_630.out
       have hcz24_0 := cz_ BK630 0
       have hcz24_1 := cz_ BK630 1
       have hfz24_0 := fz_ BK630 0
       have hfz24_1 := fz_ BK630 1
       have p639 : 0 ≤ (x7_1 : Int) := od_
       have q639 : x7_1 < (l0_1.length : Int) := od_
       obtain ⟨ad639, e639, hx639_0, hx639_1, hx639_2⟩ := at_T56 HR0_1.out x7_1 p639 q639
       cases e639
       replace hx639_0 := pc_ hx639_0
       replace hx639_1 := pc_ hx639_1
       replace hx639_2 := pc_ hx639_2
       replace p639 := eq_true p639
       replace q639 := eq_true q639
       try go_wp2
       have n0_ := a_ (Kd.N_drew HO_639000.out)
       have n1_ := a_ (Kd.R_drew HO_639001.out)
       have n2_ := a_ (blk_drew BK630.out)
       have n3_ := a_ (blk_drew BK631.out)
       have n4_ := a_ (blk_drew BK638.out)
       have n5_ := a_ (below_drew1 HB.out)
       clear HO_639000
       clear HO_639001
       clear BK630
       clear BK631
       clear BK638
       clear HB
       have HO_639000 := n0_
       have HO_639001 := n1_
       have BK630 := n2_
       have BK631 := n3_
       have BK638 := n4_
       have HB := n5_
       clear n0_ n1_ n2_ n3_ n4_ n5_
       have p640 : 0 ≤ (x7_1 : Int) := od_
       have q640 : x7_1 < (l0_1.length : Int) := od_
       obtain ⟨ad640, e640, hx640_0, hx640_1, hx640_2⟩ := at_T56 HR0_1.out x7_1 p640 q640
       have hw640_2 := hx640_2
       have hw640_1 := hx640_1
       have hw640_0 := hx640_0
       obtain rfl : ad639 = ad640 := (by injection e640)
       replace hx640_0 := pc_ hx640_0
       replace hx640_1 := pc_ hx640_1
       replace hx640_2 := pc_ hx640_2
       replace p640 := eq_true p640
       replace q640 := eq_true q640
       refine start_ (n := 11) (S := fun w' => w'.cell? ⟨gb638, 0, none⟩ = some (.slice Ao10 t632.length co10) ∧ w'.cell? ⟨gb638, 1, none⟩ = some (u639001) ∧ w'.cell? ⟨gb630, 0, none⟩ = some (.slice A0_0 l0_0.length c0_0) ∧ w'.cell? ⟨gb630, 1, none⟩ = some (.slice (some ad639) l0_1.length c0_1) ∧ w'.cell? (ad639.add ((x7_1).toNat * 3)) = some (.int .i64 ((rd_T56 l0_1 x7_1).f0)) ∧ w'.cell? ⟨(ad639.add ((x7_1).toNat * 3)).block, (ad639.add ((x7_1).toNat * 3)).off + 1, none⟩ = some (.int .i64 ((rd_T56 l0_1 x7_1).f1)) ∧ w'.cell? ⟨(ad639.add ((x7_1).toNat * 3)).block, (ad639.add ((x7_1).toNat * 3)).off + 2, none⟩ = some (.int .i64 ((rd_T56 l0_1 x7_1).f2))) (ds := [10]) #[false, false, false, false, false, false, false, false, false, false, false] (by kernel_rfl) rfl rfl ⟨(blk_cell BK638.out 0).trans rfl, (blk_cell BK638.out 1).trans rfl, (blk_cell BK630.out 0).trans rfl, (blk_cell BK630.out 1).trans rfl, (pw_cell_below HB.out hw640_0), (pw_cell_below HB.out hw640_1), (pw_cell_below HB.out hw640_2)⟩ (fun hHeld => ?_); refine with_tabW skiarearef53_Remove.tab7 skiarearef53_Remove.bits7 (fun HT_ HW_ => ?_)
       generalize wr.drew = w25 at HO_639000 HO_639001 BK630 BK631 BK638 HB hx640_0 hx640_1 hx640_2 hHeld ⊢
       refine pq_ 0 (some 26) #[true, false, false, false, false, false, false, false, false, false, false] ?_
       refine pq_ 2 (some 28) #[true, false, true, false, false, false, false, false, false, false, false] ?_
       refine pq_ 4 (some 30) #[true, false, true, false, true, false, false, false, false, false, false] ?_
       refine take_ (i := 1) (N := some 27) (v := ?_) (a' := ?_) #[true, true, true, false, true, false, false, false, false, false, false] rfl rfl (take_ofW HT_.out HW_.out (by kernel_rfl)) (fun _ _ _ h => h) (Or.inl ⟨by rfl, ?_⟩) hHeld ?_ ?_
       rotate_left
       ·rintro w' ⟨s0, s1, s2, s3, s4, s5, s6⟩
        go_simp
        with_reducible rfl
       rotate_left
       ·simp only [Act.put, List.setIfInBounds_toArray, List.set_cons_zero, List.set_cons_succ, i64_w, i32_w]
        rfl
       refine take_ (i := 3) (N := some 29) (v := ?_) (a' := ?_) #[true, true, true, true, true, false, false, false, false, false, false] rfl rfl (take_ofW HT_.out HW_.out (by kernel_rfl)) (fun _ _ _ h => h) (Or.inl ⟨by rfl, ?_⟩) hHeld ?_ ?_
       rotate_left
       ·rintro w' ⟨s0, s1, s2, s3, s4, s5, s6⟩
        go_simp
        with_reducible rfl
       rotate_left
       ·simp only [Act.put, List.setIfInBounds_toArray, List.set_cons_zero, List.set_cons_succ, i64_w, i32_w]
        rfl
       refine pq_ 5 (some 31) #[true, true, true, true, true, true, false, false, false, false, false] ?_
       refine take_ (i := 6) (N := some 32) (v := ?_) (a' := ?_) #[true, true, true, true, true, true, true, false, false, false, false] rfl rfl (take_ofW HT_.out HW_.out (by kernel_rfl)) (fun _ _ _ h => h) (Or.inl ⟨by rfl, ?_⟩) hHeld ?_ ?_
       rotate_left
       ·rintro w' ⟨s0, s1, s2, s3, s4, s5, s6⟩
        go_simp
        with_reducible rfl
       rotate_left
       ·simp only [Act.put, List.setIfInBounds_toArray, List.set_cons_zero, List.set_cons_succ, i64_w, i32_w]
        rfl
       refine one_ (i := 7) (N := some 33) #[true, true, true, true, true, true, true, true, false, false, false] rfl rfl (one_of HT_.out (by kernel_rfl)) (by decide) (fun K hK => ?_)
       refine value_ (w1 := ?_) (v := ?_) (by rfl) rfl ?_ ?_
       rotate_left 2
       ·go_simp
        constructor
        ·rfl
        ·rfl
       refine hK.out _ _ ⟨(blk_cell (blk_alloc BK638.out _) 0).trans rfl, (blk_cell (blk_alloc BK638.out _) 1).trans rfl, (blk_cell (blk_alloc BK630.out _) 0).trans rfl, (blk_cell (blk_alloc BK630.out _) 1).trans rfl, (World.cell?_alloc_lt _ _ _ (World.block_lt_of_cell? _ _ ((pw_cell_below HB.out hw640_0)))).trans ((pw_cell_below HB.out hw640_0)), (World.cell?_alloc_lt _ _ _ (World.block_lt_of_cell? _ _ ((pw_cell_below HB.out hw640_1)))).trans ((pw_cell_below HB.out hw640_1)), (World.cell?_alloc_lt _ _ _ (World.block_lt_of_cell? _ _ ((pw_cell_below HB.out hw640_2)))).trans ((pw_cell_below HB.out hw640_2))⟩ (fun hHeld => ?_)
       clear hK K
       refine norm_ (a' := ?_) ?_ ?_
       rotate_left
       ·show Act.put _ (some 33) _ = _
        simp only [Act.put, List.setIfInBounds_toArray, List.set_cons_zero, List.set_cons_succ, i64_w, i32_w]
        rfl
       refine one_ (i := 8) (N := some 34) #[true, true, true, true, true, true, true, true, true, false, false] rfl rfl (one_of HT_.out (by kernel_rfl)) (by decide) (fun K hK => ?_)
       refine Kd.R_append_step k56 (w0 := w) w.heap.size (by rfl) (.tmp 27) (.tmp 33) 46 56 (.agg #[(.int .i64 0), (.int .i64 0), (.int .i64 0)]) 24 rfl Try.underlying46 info56 rfl (by decide) (by omega) u639001 x639001_1 (⟨(rd_T56 l0_1 x7_1).f0, (rd_T56 l0_1 x7_1).f1, (rd_T56 l0_1 x7_1).f2⟩ : S56) [.int .i64 ((rd_T56 l0_1 x7_1).f0), .int .i64 ((rd_T56 l0_1 x7_1).f1), .int .i64 ((rd_T56 l0_1 x7_1).f2)] (fun k_ => (w.heap.size ≤ k_)) (fun _ => False) rfl rfl ?aP (fun _ hk => hk.elim) ?aF ?aO ?aB ?aS ?aL ?_
       (case aP => exact k56_mkM _ _ _ (⟨(rd_T56 l0_1 x7_1).f0, (rd_T56 l0_1 x7_1).f1, (rd_T56 l0_1 x7_1).f2⟩ : S56))
       (case aB => exact bel_)
       (case aF => exact (fun k_ hk => (Nat.le_trans (below_size bel_) hk)))
       (case aO => exact (kR_ HO_639001.out))
       (case aS => exact (below_size bel_))
       (case aL => have := LMc21.out; omega)
       intro v642 w26 ho hb hg hat
       rw [← Ny641.out] at ho
       have n0_ := a_ (Kd.N_afterv (ok := (fun k_ => (w.heap.size ≤ k_) ∧ k_ ≠ gb630 ∧ k_ ≠ gb631 ∧ k_ ≠ gb638)) (by (with_reducible repeat (first | apply Kd.N_alloc | apply Kd.N_drewN | apply Kd.N_drew)); exact Kd.N_mono HO_639000.out (fun _ hk => ⟨⟨hk.1, ⟨hk.2.2.1, ⟨hk.2.2.2.1, hk.2.2.2.2⟩⟩⟩, hk.2.1⟩)) hg hat)
       have n1_ := a_ (blk_grown (bk_ BK630.out) hg (Kd.R_ne HO_639001.out BK630.out (by decide)))
       have n2_ := a_ (blk_grown (bk_ BK631.out) hg (Kd.R_ne HO_639001.out BK631.out (by decide)))
       have n3_ := a_ (blk_grown (bk_ BK638.out) hg (Kd.R_ne HO_639001.out BK638.out (by decide)))
       have n4_ := a_ (hb)
       have n5_ := a_ (ho)
       clear HO_639000
       clear BK630
       clear BK631
       clear BK638
       clear HB
       clear HO_639001
       have HO_639000 := n0_
       have BK630 := n1_
       have BK631 := n2_
       have BK638 := n3_
       have HB := n4_
       have HO643 := n5_
       clear n0_ n1_ n2_ n3_ n4_ n5_
       clear ho hb hg hat
       obtain ⟨Ao27, co27, eo27⟩ := Kd.R_slice HO643.out
       (first | subst eo27 | (injection eo27 with f1_ f2_ f3_; have f4_ := f1_.symm; have f5_ := f3_.symm; clear f1_ f2_ f3_; subst f4_; subst f5_))
       refine hK.out _ _ ⟨(blk_cell BK638.out 0).trans rfl, (blk_cell BK638.out 1).trans rfl, (blk_cell BK630.out 0).trans rfl, (blk_cell BK630.out 1).trans rfl, (pw_cell_below HB.out hw640_0), (pw_cell_below HB.out hw640_1), (pw_cell_below HB.out hw640_2)⟩ (fun hHeld => ?_)
       clear hK K
       refine norm_ (a' := ?_) ?_ ?_
       rotate_left
       ·show Act.put _ (some 34) _ = _
        simp only [Act.put, List.setIfInBounds_toArray, List.set_cons_zero, List.set_cons_succ, i64_w, i32_w]
        rfl
       refine pq_ 9 (some 35) #[true, true, true, true, true, true, true, true, true, true, false] ?_
       refine last_ (i := 10) (N := none) #[true, true, true, true, true, true, true, true, true, true, true] rfl rfl (one_of HT_.out (by kernel_rfl)) (by decide) (fun K hK => ?_)
       have hs28 : w26.cell? ⟨gb638, 1, none⟩ = some (u639001) := (blk_cell BK638.out 1).trans rfl
       have hfs28 := blk_frozen BK638.out 1
       have hns28_0 := NB630_638.out
       have hns28_1 := NB631_638.out
       have hms28_0 := NB638_630.out
       have hms28_1 := NB638_631.out
       refine skip_ (w1 := ?_) (by rfl) rfl ?_ ?_
       rotate_left
       ·go_simp
        rfl
       refine hK.out _ _ ?_
       clear hK K
       refine done_ (done_of HT_.out (by kernel_rfl)) ?_
       try go_wp2
       go_roundg k1
       case measure => have := HK1.out; omega
       case rel => exact ⟨(wrap64 (x7_1 + 1)), (y641), (.slice Ao27 y641.length co27), (by first | rfl | (simp; done) | (simp [*]; done)), H', ⟨by have := HK1.out; omega⟩, ⟨by (with_reducible repeat (first | apply Kd.N_alloc | apply Kd.N_drewN | apply Kd.N_drew)); exact Kd.N_mono (Kd.N_far (p := ⟨gb638, 1, none⟩) (Kd.N_mono HO_639000.out (fun k_ hk => (⟨hk, hk.1.2.2.2⟩ : _ ∧ k_ ≠ gb638))) (fun _ hk => hk.2) (.slice Ao27 y641.length co27)) (fun _ hk => ⟨hk.1.1.1, ⟨hk.1.2, ⟨hk.1.1.2.1, ⟨hk.1.1.2.2.1, hk.1.1.2.2.2⟩⟩⟩⟩)⟩, ⟨by (with_reducible repeat (first | apply Kd.R_alloc | apply Kd.R_drewN | apply Kd.R_drew)); exact Kd.R_mono (Kd.R_far (p := ⟨gb638, 1, none⟩) (Kd.R_types HO643.out BK638.out (by decide)) (fun _ hk => hk.2) (.slice Ao27 y641.length co27)) (fun _ hk => hk.1)⟩, ⟨by refine blk_far ?_ NB630_638.out _; exact BK630.out⟩, ⟨by refine blk_far ?_ NB631_638.out _; exact BK631.out⟩, ⟨by refine blk_put (cs := #[.slice Ao10 t632.length co10, u639001]) ?_ 1 _ rfl; exact BK638.out⟩, ⟨by repeat (first | (with_reducible first | exact HB.out | apply below_alloc | apply pw_below_drewN | apply below_drew1 | refine below_set ?_ GE630.out | refine below_set ?_ GE631.out | refine below_set ?_ GE638.out) | exact HB.out)⟩⟩
      ·rw [if_neg c21] at H
       exact absurd H (by simp)
    ·rw [if_neg c16] at H
     exact absurd H (by simp)
   ·rw [if_neg c15] at H
    have c15b0 : decide (x7_1 < (l0_1.length : Int)) = false := decide_eq_false c15
    clear c15
    by_cases c29 : (x639001_1.length : Int) = (l0_1.length : Int)
    ·rw [if_pos c29] at H
     have c29b0 : ((x639001_1.length : Int) == (l0_1.length : Int)) = true := beq_iff_eq.mpr c29
     have c29b1 : ((x639001_1.length : Int) != (l0_1.length : Int)) = false := bne_eq_false_iff_eq.mpr c29
     have c29b2 : (x639001_1.length == l0_1.length) = true := by first | simpa using c29 | (simp at c29 ⊢; omega)
     clear c29
     simp only [Option.some.injEq, Prod.mk.injEq] at H
     obtain ⟨rfl, rfl, rfl⟩ := H
     have hnb30 := NB630_631.out
     have hnc30 := NB631_630.out
     have hnb31 := NB630_638.out
     have hnc31 := NB638_630.out
     have hcz32_0 := cz_ BK630 0
     have hcz32_1 := cz_ BK630 1
     have hfz32_0 := fz_ BK630 0
     have hfz32_1 := fz_ BK630 1
     have hnb33 := NB638_631.out
     have hnc33 := NB631_638.out
     have hcz34_0 := cz_ BK638 0
     have hcz34_1 := cz_ BK638 1
     have hfz34_0 := fz_ BK638 0
     have hfz34_1 := fz_ BK638 1
     obtain ⟨Ao35, co35, eo35⟩ := Kd.R_slice HO_639001.out
     subst eo35
     have hcz36_0 := cz_ BK631 0
     have hcz36_1 := cz_ BK631 1
     have hfz36_0 := fz_ BK631 0
     have hfz36_1 := fz_ BK631 1
     go_wp2
     refine bodyPost_ret (results_ct rfl _ _ gb631 48 #[.slice none 0 0, .slice none 0 0] (0, 0) _ rfl (by refine blk_put (cs := #[.slice none 0 0, .slice none 0 0]) ?_ 1 _ rfl; refine blk_put (cs := #[.slice none 0 0, .slice none 0 0]) ?_ 0 _ rfl; exact BK631.out) Try.underlying48 rfl (by kernel_rfl)) rfl ?_
     exact ⟨_, _, by first | rfl | (simp [errW_none, errW_some] <;> rfl) | (simp [*, errW_none, errW_some] <;> rfl), by first | exact Kd.S_nil _ _ _ _ _ | exact Kd.N_nil _ _ _ _ _ | exact Kd.V_nil _ _ _ _ _ | exact Kd.Q_nil _ _ _ _ _ | exact Kd.R_nil _ _ _ _ _, by first | exact Kd.R_nil _ _ _ _ _ | exact Kd.N_nil _ _ _ _ _ | exact Kd.V_nil _ _ _ _ _ | exact Kd.Q_nil _ _ _ _ _ | exact Kd.S_nil _ _ _ _ _, by repeat (first | (with_reducible first | exact HB.out | apply below_alloc | apply pw_below_drewN | apply below_drew1 | refine below_set ?_ GE630.out | refine below_set ?_ GE631.out | refine below_set ?_ GE638.out) | exact HB.out)⟩
    ·rw [if_neg c29] at H
     have c29b0 : ((x639001_1.length : Int) == (l0_1.length : Int)) = false := beq_eq_false_iff_ne.mpr c29
     have c29b1 : ((x639001_1.length : Int) != (l0_1.length : Int)) = true := bne_iff_ne.mpr c29
     have c29b2 : (x639001_1.length == l0_1.length) = false := by first | simpa using c29 | (simp at c29 ⊢; omega)
     simp only [Option.some.injEq, Prod.mk.injEq] at H
     obtain ⟨rfl, rfl, rfl⟩ := H
     have hnb37 := NB630_631.out
     have hnc37 := NB631_630.out
     have hnb38 := NB630_638.out
     have hnc38 := NB638_630.out
     have hcz39_0 := cz_ BK630 0
     have hcz39_1 := cz_ BK630 1
     have hfz39_0 := fz_ BK630 0
     have hfz39_1 := fz_ BK630 1
     have hnb40 := NB638_631.out
     have hnc40 := NB631_638.out
     have hcz41_0 := cz_ BK638 0
     have hcz41_1 := cz_ BK638 1
     have hfz41_0 := fz_ BK638 0
     have hfz41_1 := fz_ BK638 1
     obtain ⟨Ao42, co42, eo42⟩ := Kd.R_slice HO_639001.out
     subst eo42
     have hcz43_0 := cz_ BK631 0
     have hcz43_1 := cz_ BK631 1
     have hfz43_0 := fz_ BK631 0
     have hfz43_1 := fz_ BK631 1
     go_wp2
     refine bodyPost_ret (results_ct rfl _ _ gb631 48 #[.slice Ao10 t632.length co10, .slice Ao42 x639001_1.length co42] (0, 0) _ rfl (by refine blk_put (cs := #[.slice Ao10 t632.length co10, .slice none 0 0]) ?_ 1 _ rfl; refine blk_put (cs := #[.slice none 0 0, .slice none 0 0]) ?_ 0 _ rfl; exact BK631.out) Try.underlying48 rfl (by kernel_rfl)) rfl ?_
     exact ⟨_, _, by first | rfl | (simp [errW_none, errW_some] <;> rfl) | (simp [*, errW_none, errW_some] <;> rfl), by (with_reducible repeat (first | apply Kd.N_alloc | apply Kd.N_drewN | apply Kd.N_drew)); exact Kd.N_mono (Kd.N_far (p := ⟨gb631, 1, none⟩) (Kd.N_far (p := ⟨gb631, 0, none⟩) (Kd.N_mono HO_639000.out (fun k_ hk => (⟨hk, hk.2.2.2.1⟩ : _ ∧ k_ ≠ gb631))) (fun _ hk => hk.2) (.slice Ao10 t632.length co10)) (fun _ hk => hk.2) (.slice Ao42 x639001_1.length co42)) (fun _ hk => ⟨hk.1.1, hk.1.2.1⟩), by (with_reducible repeat (first | apply Kd.R_alloc | apply Kd.R_drewN | apply Kd.R_drew)); exact Kd.R_mono (Kd.R_far (p := ⟨gb631, 1, none⟩) (Kd.R_far (p := ⟨gb631, 0, none⟩) (Kd.R_types HO_639001.out BK631.out (by decide)) (fun _ hk => hk.2) (.slice Ao10 t632.length co10)) (fun _ hk => hk.2) (.slice Ao42 x639001_1.length co42)) (fun _ hk => hk.1), by repeat (first | (with_reducible first | exact HB.out | apply below_alloc | apply pw_below_drewN | apply below_drew1 | refine below_set ?_ GE630.out | refine below_set ?_ GE631.out | refine below_set ?_ GE638.out) | exact HB.out)⟩
end Go.Proofs.Ytmhggplhfcmgkaa.Q
