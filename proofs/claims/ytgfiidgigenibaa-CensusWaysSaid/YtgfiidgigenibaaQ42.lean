-- written by wip/drive.py (this session's program) over the kit's print words
import Derived.Test.YtgfiidgigenibaaQ0
import Derived.Test.YtgfiidgigenibaaQ37
namespace Go.Proofs.Ytgfiidgigenibaa.Q
open Go.RowKit Go.Proofs.YtgfiidgigenibaaW.PrintWords Go.Proofs.YtgfiidgigenibaaW.PrintLast Go.Proofs.YtgfiidgigenibaaW.PrintMore
attribute [local go_sem] max2_int min2_int max_two min_two max_three min_three max_four min_four   -- for this text's walks alone
set_option linter.unusedVariables false
set_option linter.unusedSimpArgs false

/-! ### skiarearef11_down: function 38 -/
def skiarearef11_down.l0 : Nat → List Int → List (S67) → Int → List (S62) → List (S82) → List (S44) → List Int → Option ((List (S67)))
 | 0, _, _, _, _, _, _, _ => none
 | k + 1, x1, x5, x6, x312000, x312001, x312002, x312003 => if x6 < (x312002.length : Int) then (if 0 ≤ x6 then ((skiarearef05_Has.f k x1 ((rd_T44 x312002 x6).f0)).bind fun t314 => (if t314 = true then (if x5.length < 4398046511104 then (skiarearef11_down.l0 k x1 (x5 ++ [(⟨(rd_T44 x312002 x6).f0, (rd_T44 x312002 x6).f2, (rd_T44 x312002 x6).f3, (rd_T44 x312002 x6).f6⟩ : S67)]) (wrap64 (x6 + 1)) x312000 x312001 x312002 x312003) else (none)) else (skiarearef11_down.l0 k x1 x5 (wrap64 (x6 + 1)) x312000 x312001 x312002 x312003))) else (none)) else (some x5)
def skiarearef11_down.f (k : Nat) (l0_0 : List (S62)) (l0_1 : List (S82)) (l0_2 : List (S44)) (l0_3 : List Int) (l1 : List Int) : Option ((List (S67))) := skiarearef11_down.l0 k l1 ([] : List (S67)) 0 l0_0 l0_1 l0_2 l0_3
theorem skiarearef11_down.mono_l : ∀ k, (∀ y0 y1 y2 y3 y4 y5 y6, LeO (skiarearef11_down.l0 k y0 y1 y2 y3 y4 y5 y6) (skiarearef11_down.l0 (k + 1) y0 y1 y2 y3 y4 y5 y6))
 | 0 => fun _ _ _ _ _ _ _ r h => by simp [skiarearef11_down.l0] at h
 | k + 1 => by
  have ih0 := skiarearef11_down.mono_l k
  ·intro y0 y1 y2 y3 y4 y5 y6
   unfold skiarearef11_down.l0
   repeat' first
   | (with_reducible exact ih0 _ _ _ _ _ _ _)
   | (with_reducible exact skiarearef05_Has.mono _ _ _)
   | (with_reducible exact LeO.refl _)
   | (with_reducible exact LeO.none _)
   | (with_reducible refine LeO.ite ?_ ?_)
   | (with_reducible refine LeO.bind ?_ (fun _ => ?_))
   | exact ih0 _ _ _ _ _ _ _
   | exact skiarearef05_Has.mono _ _ _
   | exact LeO.none _
   | refine LeO.ite ?_ ?_
   | refine LeO.bind ?_ (fun _ => ?_)
theorem skiarearef11_down.mono : ∀ a0 a1 a2 a3 a4 k, LeO (skiarearef11_down.f k a0 a1 a2 a3 a4) (skiarearef11_down.f (k + 1) a0 a1 a2 a3 a4) := by
 intro a0 a1 a2 a3 a4 k
 have ih0 := skiarearef11_down.mono_l k
 unfold skiarearef11_down.f
 repeat' first
   | (with_reducible exact ih0 _ _ _ _ _ _ _)
   | (with_reducible exact skiarearef05_Has.mono _ _ _)
   | (with_reducible exact LeO.refl _)
   | (with_reducible exact LeO.none _)
   | (with_reducible refine LeO.ite ?_ ?_)
   | (with_reducible refine LeO.bind ?_ (fun _ => ?_))
   | exact ih0 _ _ _ _ _ _ _
   | exact skiarearef05_Has.mono _ _ _
   | exact LeO.none _
   | refine LeO.ite ?_ ?_
   | refine LeO.bind ?_ (fun _ => ?_)
set_option maxHeartbeats 8000000 in
set_option maxRecDepth 100000 in
theorem skiarearef11_down.calls (k : Nat) (A0_0 : Option Addr) (c0_0 : Nat) (l0_0 : List (S62)) (A0_1 : Option Addr) (c0_1 : Nat) (l0_1 : List (S82)) (A0_2 : Option Addr) (c0_2 : Nat) (l0_2 : List (S44)) (A0_3 : Option Addr) (c0_3 : Nat) (l0_3 : List Int) (A1 : Option Addr) (c1 : Nat) (l1 : List Int) (r : List (S67)) (w : World) (hr0_0 : Kd.C k62 w A0_0 l0_0.length l0_0) (hc0_0 : l0_0.length ≤ c0_0) (hr0_1 : Kd.C k82 w A0_1 l0_1.length l0_1) (hc0_1 : l0_1.length ≤ c0_1) (hr0_2 : Kd.C k44 w A0_2 l0_2.length l0_2) (hc0_2 : l0_2.length ≤ c0_2) (hr0_3 : Kd.C (Kd.int .i64) w A0_3 l0_3.length l0_3) (hc0_3 : l0_3.length ≤ c0_3) (hr1 : Kd.C (Kd.int .i64) w A1 l1.length l1) (hc1 : l1.length ≤ c1) (h : skiarearef11_down.f k l0_0 l0_1 l0_2 l0_3 l1 = some r) :
  Calls Try.prog 38 #[.agg #[.slice A0_0 l0_0.length c0_0, .slice A0_1 l0_1.length c0_1, .slice A0_2 l0_2.length c0_2, .slice A0_3 l0_3.length c0_3], .slice A1 l1.length c1] w fun e w' => ∃ v0_ : Value, e = .returned (v0_) ∧ Kd.R k67 67 w' w.heap.size (fun _ => True) v0_ r ∧ Below w.heap.size w w' := by
 have hu38 := Try.underlying38
 have hu44 := Try.underlying44
 have hu67 := Try.underlying67
 have HR0_0 := Aside0.mk hr0_0
 have HC0_0 := Aside0.mk hc0_0
 clear hr0_0 hc0_0
 have HR0_1 := Aside0.mk hr0_1
 have HC0_1 := Aside0.mk hc0_1
 clear hr0_1 hc0_1
 have HR0_2 := Aside0.mk hr0_2
 have HC0_2 := Aside0.mk hc0_2
 clear hr0_2 hc0_2
 have HR0_3 := Aside0.mk hr0_3
 have HC0_3 := Aside0.mk hc0_3
 clear hr0_3 hc0_3
 have HR1 := Aside0.mk hr1
 have HC1 := Aside0.mk hc1
 clear hr1 hc1
 have HB := Aside0.mk (Below.refl w.heap.size w)
 have H : (skiarearef11_down.l0 k l1 ([] : List (S67)) 0 l0_0 l0_1 l0_2 l0_3) = some r := h
 clear h
 have H' := Aside0.mk H
 clear H
 go_enter Try.func38, Try.ntmps38
 go_wp2_with (first | ((with_reducible refine gate_dst (N := 2) rfl ?_); refine box_event ?hg (N := 2) ?hd (cs := #[.slice A0_0 l0_0.length c0_0, .slice A0_1 l0_1.length c0_1, .slice A0_2 l0_2.length c0_2, .slice A0_3 l0_3.length c0_3]) (t := 38) ?hr ?_; (case hd => rfl); (case hg => rfl); (case hr => first | (go_simp; done) | (go_simp; rfl)); intro gb311 hg w3 hbox hb; have n0_ := Aside0.mk (below_step bel_ hb); have n1_ := Aside0.mk (hbox); have n2_ := Aside0.mk (bz_ hg : w.heap.size ≤ gb311); have n3_ := Aside0.mk (bz_ hg : w.heap.size ≤ gb311); clear HB; have HB := n0_; have BK311 := n1_; have GW311 := n2_; have GE311 := n3_; clear n0_ n1_ n2_ n3_; clear hb hbox hg))
 go_loopg [5, 6] k (fun kq v5 v6 w' => ∃ (x5_1 : List (S67)) (x6_1 : Int), v6 = .int .i64 x6_1 ∧ Aside0 (skiarearef11_down.l0 kq l1 x5_1 x6_1 l0_0 l0_1 l0_2 l0_3 = some r) ∧ Aside0 (kq ≤ k) ∧ Aside0 (Kd.R k67 67 w' w.heap.size (fun _ => True) v5 x5_1) ∧ Aside0 (w'.heap[gb311]? = some (.cells #[(.slice A0_0 l0_0.length c0_0), (.slice A0_1 l0_1.length c0_1), (.slice A0_2 l0_2.length c0_2), (.slice A0_3 l0_3.length c0_3)] 38 (0, 0))) ∧ Aside0 (Below w.heap.size w w'))
 case atStart => exact ⟨(([] : List (S67))), (0), (by first | rfl | (simp; done) | (simp [*]; done)), H', ⟨Nat.le_refl _⟩, ⟨by first | exact Kd.R_nil _ _ _ _ _ | exact Kd.N_nil _ _ _ _ _ | exact Kd.V_nil _ _ _ _ _ | exact Kd.Q_nil _ _ _ _ _ | exact Kd.S_nil _ _ _ _ _⟩, ⟨by (with_reducible repeat (first | refine blk_drewN ?_ _ | refine blk_drew ?_ | refine blk_alloc ?_ _)); exact BK311.out⟩, ⟨by repeat (first | (with_reducible first | exact HB.out | apply below_alloc | apply pw_below_drewN | apply below_drew1 | refine below_set ?_ GE311.out) | exact HB.out)⟩⟩
 case round =>
  clear H'
  try clear c1
  try clear p2
  try clear c3
  obtain ⟨x5_1, x6_1, rfl, HA, HK1, HO_5, BK311, HB⟩ := hrel
  cases gk with
  | zero => exact absurd HA.out (by simp [skiarearef11_down.l0])
  | succ k1 =>
   have H := HA.out
   clear HA
   simp only [skiarearef11_down.l0] at H
   by_cases c4 : x6_1 < (l0_2.length : Int)
   ·rw [if_pos c4] at H
    have c4b0 : decide (x6_1 < (l0_2.length : Int)) = true := decide_eq_true c4
    clear c4
    by_cases c5 : 0 ≤ x6_1
    ·rw [if_pos c5] at H
     have c5b0 : decide (0 ≤ x6_1) = true := decide_eq_true c5
     clear c5
     replace H := Option.bind_eq_some_iff.mp H
     obtain ⟨t314, A60, H⟩ := H
     replace H : (if t314 = true then (if x5_1.length < 4398046511104 then (skiarearef11_down.l0 k1 l1 (x5_1 ++ [(⟨(rd_T44 l0_2 x6_1).f0, (rd_T44 l0_2 x6_1).f2, (rd_T44 l0_2 x6_1).f3, (rd_T44 l0_2 x6_1).f6⟩ : S67)]) (wrap64 (x6_1 + 1)) l0_0 l0_1 l0_2 l0_3) else (none)) else (skiarearef11_down.l0 k1 l1 x5_1 (wrap64 (x6_1 + 1)) l0_0 l0_1 l0_2 l0_3)) = some r := H
     have A6 := Aside0.mk A60
     clear A60
     by_cases c7 : t314 = true
     ·subst c7
      have H1 : (if x5_1.length < 4398046511104 then (skiarearef11_down.l0 k1 l1 (x5_1 ++ [(⟨(rd_T44 l0_2 x6_1).f0, (rd_T44 l0_2 x6_1).f2, (rd_T44 l0_2 x6_1).f3, (rd_T44 l0_2 x6_1).f6⟩ : S67)]) (wrap64 (x6_1 + 1)) l0_0 l0_1 l0_2 l0_3) else (none)) = some r := by rw [if_pos rfl] at H; exact H
      clear H
      have H := H1
      clear H1
      by_cases c8 : x5_1.length < 4398046511104
      ·rw [if_pos c8] at H
       have LMc8 := Aside0.mk c8
       clear c8
       obtain ⟨y315, hy315⟩ : ∃ y_ : List (S67), y_ = (x5_1 ++ [(⟨(rd_T44 l0_2 x6_1).f0, (rd_T44 l0_2 x6_1).f2, (rd_T44 l0_2 x6_1).f3, (rd_T44 l0_2 x6_1).f6⟩ : S67)]) := ⟨_, rfl⟩
       replace H : (skiarearef11_down.l0 k1 l1 y315 (wrap64 (x6_1 + 1)) l0_0 l0_1 l0_2 l0_3) = some r := by first | (rw [hy315]; with_reducible exact H) | (have H2_ := (Option.bind_some _ _).symm.trans H; rw [hy315]; with_reducible exact H2_) | (have H2_ := (Option.bind_some _ _).symm.trans H; with_reducible exact H2_) | with_reducible exact H | (rw [hy315]; exact H) | exact H
       have Ny315 := Aside0.mk hy315
       clear hy315
       have H' := Aside0.mk H
       clear H
       have hcz9_0 := cz_ BK311 0
       have hcz9_1 := cz_ BK311 1
       have hcz9_2 := cz_ BK311 2
       have hcz9_3 := cz_ BK311 3
       have hfz9_0 := fz_ BK311 0
       have hfz9_1 := fz_ BK311 1
       have hfz9_2 := fz_ BK311 2
       have hfz9_3 := fz_ BK311 3
       have p312 : 0 ≤ (x6_1 : Int) := od_
       have q312 : x6_1 < (l0_2.length : Int) := od_
       obtain ⟨ad312, e312, hx312_0, hx312_1, hx312_2, hx312_3, hx312_4, hx312_5, hx312_6⟩ := at_T44 HR0_2.out x6_1 p312 q312
       cases e312
       replace hx312_0 := pc_ hx312_0
       replace hx312_1 := pc_ hx312_1
       replace hx312_2 := pc_ hx312_2
       replace hx312_3 := pc_ hx312_3
       replace hx312_4 := pc_ hx312_4
       replace hx312_5 := pc_ hx312_5
       replace hx312_6 := pc_ hx312_6
       replace p312 := eq_true p312
       replace q312 := eq_true q312
       go_wp2_with (first | ((with_reducible refine gate_dst (N := 7) rfl ?_); refine box_event ?hg (N := 7) ?hd (cs := #[.int .i64 0, .int .i64 0, .int .i64 0, .int .i64 0, .int .i64 0, .int .i64 0, .int .i64 0]) (t := 44) ?hr ?_; (case hd => rfl); (case hg => rfl); (case hr => first | (go_simp; done) | (go_simp; rfl)); intro gb313 hg w10 hbox hb; have n0_ := Aside0.mk (Kd.R_below (kR_ HO_5.out) hb); have n1_ := Aside0.mk (blk_below (g := gb311) (o := .cells #[.slice A0_0 l0_0.length c0_0, .slice A0_1 l0_1.length c0_1, .slice (some ad312) l0_2.length c0_2, .slice A0_3 l0_3.length c0_3] 38 (0, 0)) (by (with_reducible repeat (first | refine blk_drewN ?_ _ | refine blk_drew ?_ | refine blk_alloc ?_ _)); exact BK311.out) hb); have n2_ := Aside0.mk (below_step bel_ hb); have n3_ := Aside0.mk (hbox); have n4_ := Aside0.mk (bz_ hg : w.heap.size ≤ gb313); have n5_ := Aside0.mk (bz_ hg : w.heap.size ≤ gb313); have n6_ := Aside0.mk ((by rw [hg]; exact Nat.ne_of_lt (blk_lt (g := gb311) (o := .cells #[.slice A0_0 l0_0.length c0_0, .slice A0_1 l0_1.length c0_1, .slice (some ad312) l0_2.length c0_2, .slice A0_3 l0_3.length c0_3] 38 (0, 0)) (by (with_reducible repeat (first | refine blk_drewN ?_ _ | refine blk_drew ?_ | refine blk_alloc ?_ _)); exact BK311.out)) : gb311 ≠ gb313)); have n7_ := Aside0.mk ((by rw [hg]; exact Nat.ne_of_gt (blk_lt (g := gb311) (o := .cells #[.slice A0_0 l0_0.length c0_0, .slice A0_1 l0_1.length c0_1, .slice (some ad312) l0_2.length c0_2, .slice A0_3 l0_3.length c0_3] 38 (0, 0)) (by (with_reducible repeat (first | refine blk_drewN ?_ _ | refine blk_drew ?_ | refine blk_alloc ?_ _)); exact BK311.out)) : gb313 ≠ gb311)); clear HO_5; clear BK311; clear HB; have HO_5 := n0_; have BK311 := n1_; have HB := n2_; have BK313 := n3_; have GW313 := n4_; have GE313 := n5_; have NB311_313 := n6_; have NB313_311 := n7_; clear n0_ n1_ n2_ n3_ n4_ n5_ n6_ n7_; clear hb hbox hg; have hnb11 := NB313_311.out; have hnc11 := NB311_313.out; have hcz12_0 := cz_ BK313 0; have hcz12_1 := cz_ BK313 1; have hcz12_2 := cz_ BK313 2; have hcz12_3 := cz_ BK313 3; have hcz12_4 := cz_ BK313 4; have hcz12_5 := cz_ BK313 5; have hcz12_6 := cz_ BK313 6; have hfz12_0 := fz_ BK313 0; have hfz12_1 := fz_ BK313 1; have hfz12_2 := fz_ BK313 2; have hfz12_3 := fz_ BK313 3; have hfz12_4 := fz_ BK313 4; have hfz12_5 := fz_ BK313 5; have hfz12_6 := fz_ BK313 6) | ((with_reducible refine gate_callee (f := 53) rfl ?_); refine goesL_ (some 23) rfl rfl Try.func53 (by kernel_rfl) rfl #[.slice A1 l1.length c1, .int .i64 ((rd_T44 l0_2 x6_1).f0)] rfl (by (try simp only [List.map_toArray, List.map_cons, List.map_nil]); first | done | rfl | (simp only [List.length_drop, List.length_take]; rfl)) ?_; (with_reducible refine (skiarearef05_Has.calls k1 _ _ l1 ((rd_T44 l0_2 x6_1).f0) true _ ?side1 ?side2 A6.out).mono ?_); (case side1 => exact Kd.C_below HR1.out bel_); (case side2 => exact HC1.out); rintro e w' ⟨rfl, ⟨nd, rfl⟩⟩; refine ⟨_, rfl, ?_⟩) | ((with_reducible refine gate_builtin (b := .append) (xs := #[.tmp 24, .tmp 34]) rfl ?_); at_builtin; refine Kd.R_append k67 (w0 := w) w.heap.size rfl (.tmp 24) (.tmp 34) 65 67 (.agg #[(.int .i64 0), (.int .i64 0), (.int .i64 0), (.int .i64 0)]) 32 rfl Try.underlying65 info67 rfl (by decide) (by omega) u5 x5_1 (⟨(rd_T44 l0_2 x6_1).f0, (rd_T44 l0_2 x6_1).f2, (rd_T44 l0_2 x6_1).f3, (rd_T44 l0_2 x6_1).f6⟩ : S67) [.int .i64 ((rd_T44 l0_2 x6_1).f0), .int .i64 ((rd_T44 l0_2 x6_1).f2), .int .i64 ((rd_T44 l0_2 x6_1).f3), .int .i64 ((rd_T44 l0_2 x6_1).f6)] (fun _ => True) (fun _ => False) rfl (by first | (go_simp; done) | (go_simp; rfl)) ?aP (fun _ hk => hk.elim) ?aF ?aO ?aB ?aS ?aL ?_; (case aP => exact k67_mkM _ _ _ (⟨(rd_T44 l0_2 x6_1).f0, (rd_T44 l0_2 x6_1).f2, (rd_T44 l0_2 x6_1).f3, (rd_T44 l0_2 x6_1).f6⟩ : S67)); (case aB => exact bel_); (case aF => exact (fun _ _ => trivial)); (case aO => exact (by (with_reducible repeat (first | apply Kd.R_alloc | apply Kd.R_drewN | apply Kd.R_drew)); exact Kd.R_mono (Kd.R_far (p := ⟨gb313, 6, none⟩) (Kd.R_far (p := ⟨gb313, 5, none⟩) (Kd.R_far (p := ⟨gb313, 4, none⟩) (Kd.R_far (p := ⟨gb313, 3, none⟩) (Kd.R_far (p := ⟨gb313, 2, none⟩) (Kd.R_far (p := ⟨gb313, 1, none⟩) (Kd.R_far (p := ⟨gb313, 0, none⟩) (Kd.R_types HO_5.out BK313.out (by decide)) (fun _ hk => hk.2) (.int .i64 ((rd_T44 l0_2 x6_1).f0))) (fun _ hk => hk.2) (.int .i64 ((rd_T44 l0_2 x6_1).f1))) (fun _ hk => hk.2) (.int .i64 ((rd_T44 l0_2 x6_1).f2))) (fun _ hk => hk.2) (.int .i64 ((rd_T44 l0_2 x6_1).f3))) (fun _ hk => hk.2) (.int .i64 ((rd_T44 l0_2 x6_1).f4))) (fun _ hk => hk.2) (.int .i64 ((rd_T44 l0_2 x6_1).f5))) (fun _ hk => hk.2) (.int .i64 ((rd_T44 l0_2 x6_1).f6))) (fun _ hk => trivial))); (case aS => exact (below_size bel_)); (case aL => have := LMc8.out; omega); intro v316 w13 ho hb hg hat; rw [← Ny315.out] at ho; have n0_ := Aside0.mk (blk_grown (g := gb311) (o := .cells #[.slice A0_0 l0_0.length c0_0, .slice A0_1 l0_1.length c0_1, .slice (some ad312) l0_2.length c0_2, .slice A0_3 l0_3.length c0_3] 38 (0, 0)) (by (with_reducible repeat (first | refine blk_drewN ?_ _ | refine blk_drew ?_ | refine blk_alloc ?_ _)); refine blk_far ?_ NB311_313.out _; (with_reducible repeat (first | refine blk_drewN ?_ _ | refine blk_drew ?_ | refine blk_alloc ?_ _)); refine blk_far ?_ NB311_313.out _; (with_reducible repeat (first | refine blk_drewN ?_ _ | refine blk_drew ?_ | refine blk_alloc ?_ _)); refine blk_far ?_ NB311_313.out _; (with_reducible repeat (first | refine blk_drewN ?_ _ | refine blk_drew ?_ | refine blk_alloc ?_ _)); refine blk_far ?_ NB311_313.out _; (with_reducible repeat (first | refine blk_drewN ?_ _ | refine blk_drew ?_ | refine blk_alloc ?_ _)); refine blk_far ?_ NB311_313.out _; (with_reducible repeat (first | refine blk_drewN ?_ _ | refine blk_drew ?_ | refine blk_alloc ?_ _)); refine blk_far ?_ NB311_313.out _; (with_reducible repeat (first | refine blk_drewN ?_ _ | refine blk_drew ?_ | refine blk_alloc ?_ _)); refine blk_far ?_ NB311_313.out _; (with_reducible repeat (first | refine blk_drewN ?_ _ | refine blk_drew ?_ | refine blk_alloc ?_ _)); exact BK311.out) hg (Kd.R_ne HO_5.out BK311.out (by decide))); have n1_ := Aside0.mk (blk_grown (g := gb313) (o := .cells #[.int .i64 ((rd_T44 l0_2 x6_1).f0), .int .i64 ((rd_T44 l0_2 x6_1).f1), .int .i64 ((rd_T44 l0_2 x6_1).f2), .int .i64 ((rd_T44 l0_2 x6_1).f3), .int .i64 ((rd_T44 l0_2 x6_1).f4), .int .i64 ((rd_T44 l0_2 x6_1).f5), .int .i64 ((rd_T44 l0_2 x6_1).f6)] 44 (0, 0)) (by (with_reducible repeat (first | refine blk_drewN ?_ _ | refine blk_drew ?_ | refine blk_alloc ?_ _)); refine blk_put (cs := #[.int .i64 ((rd_T44 l0_2 x6_1).f0), .int .i64 ((rd_T44 l0_2 x6_1).f1), .int .i64 ((rd_T44 l0_2 x6_1).f2), .int .i64 ((rd_T44 l0_2 x6_1).f3), .int .i64 ((rd_T44 l0_2 x6_1).f4), .int .i64 ((rd_T44 l0_2 x6_1).f5), .int .i64 0]) ?_ 6 _ rfl; (with_reducible repeat (first | refine blk_drewN ?_ _ | refine blk_drew ?_ | refine blk_alloc ?_ _)); refine blk_put (cs := #[.int .i64 ((rd_T44 l0_2 x6_1).f0), .int .i64 ((rd_T44 l0_2 x6_1).f1), .int .i64 ((rd_T44 l0_2 x6_1).f2), .int .i64 ((rd_T44 l0_2 x6_1).f3), .int .i64 ((rd_T44 l0_2 x6_1).f4), .int .i64 0, .int .i64 0]) ?_ 5 _ rfl; (with_reducible repeat (first | refine blk_drewN ?_ _ | refine blk_drew ?_ | refine blk_alloc ?_ _)); refine blk_put (cs := #[.int .i64 ((rd_T44 l0_2 x6_1).f0), .int .i64 ((rd_T44 l0_2 x6_1).f1), .int .i64 ((rd_T44 l0_2 x6_1).f2), .int .i64 ((rd_T44 l0_2 x6_1).f3), .int .i64 0, .int .i64 0, .int .i64 0]) ?_ 4 _ rfl; (with_reducible repeat (first | refine blk_drewN ?_ _ | refine blk_drew ?_ | refine blk_alloc ?_ _)); refine blk_put (cs := #[.int .i64 ((rd_T44 l0_2 x6_1).f0), .int .i64 ((rd_T44 l0_2 x6_1).f1), .int .i64 ((rd_T44 l0_2 x6_1).f2), .int .i64 0, .int .i64 0, .int .i64 0, .int .i64 0]) ?_ 3 _ rfl; (with_reducible repeat (first | refine blk_drewN ?_ _ | refine blk_drew ?_ | refine blk_alloc ?_ _)); refine blk_put (cs := #[.int .i64 ((rd_T44 l0_2 x6_1).f0), .int .i64 ((rd_T44 l0_2 x6_1).f1), .int .i64 0, .int .i64 0, .int .i64 0, .int .i64 0, .int .i64 0]) ?_ 2 _ rfl; (with_reducible repeat (first | refine blk_drewN ?_ _ | refine blk_drew ?_ | refine blk_alloc ?_ _)); refine blk_put (cs := #[.int .i64 ((rd_T44 l0_2 x6_1).f0), .int .i64 0, .int .i64 0, .int .i64 0, .int .i64 0, .int .i64 0, .int .i64 0]) ?_ 1 _ rfl; (with_reducible repeat (first | refine blk_drewN ?_ _ | refine blk_drew ?_ | refine blk_alloc ?_ _)); refine blk_put (cs := #[.int .i64 0, .int .i64 0, .int .i64 0, .int .i64 0, .int .i64 0, .int .i64 0, .int .i64 0]) ?_ 0 _ rfl; (with_reducible repeat (first | refine blk_drewN ?_ _ | refine blk_drew ?_ | refine blk_alloc ?_ _)); exact BK313.out) hg (Kd.R_ne HO_5.out BK313.out (by decide))); have n2_ := Aside0.mk (hb); have n3_ := Aside0.mk (ho); clear BK311; clear BK313; clear HB; clear HO_5; have BK311 := n0_; have BK313 := n1_; have HB := n2_; have HO317 := n3_; clear n0_ n1_ n2_ n3_; clear ho hb hg hat))
       go_roundg k1
       case measure => have := HK1.out; omega
       case rel => exact ⟨(y315), (wrap64 (x6_1 + 1)), (by first | rfl | (simp; done) | (simp [*]; done)), H', ⟨by have := HK1.out; omega⟩, ⟨by (with_reducible repeat (first | apply Kd.R_alloc | apply Kd.R_drewN | apply Kd.R_drew)); exact HO317.out⟩, ⟨by (with_reducible repeat (first | refine blk_drewN ?_ _ | refine blk_drew ?_ | refine blk_alloc ?_ _)); exact BK311.out⟩, ⟨by repeat (first | (with_reducible first | exact HB.out | apply below_alloc | apply pw_below_drewN | apply below_drew1 | refine below_set ?_ GE311.out | refine below_set ?_ GE313.out) | exact HB.out)⟩⟩
      ·rw [if_neg c8] at H
       exact absurd H (by simp)
     ·replace c7 := Bool.eq_false_iff.mpr c7
      subst c7
      have H1 : (skiarearef11_down.l0 k1 l1 x5_1 (wrap64 (x6_1 + 1)) l0_0 l0_1 l0_2 l0_3) = some r := by rw [if_neg (show ¬ (false = true) by decide)] at H; exact H
      clear H
      have H := H1
      clear H1
      have H' := Aside0.mk H
      clear H
      have hcz14_0 := cz_ BK311 0
      have hcz14_1 := cz_ BK311 1
      have hcz14_2 := cz_ BK311 2
      have hcz14_3 := cz_ BK311 3
      have hfz14_0 := fz_ BK311 0
      have hfz14_1 := fz_ BK311 1
      have hfz14_2 := fz_ BK311 2
      have hfz14_3 := fz_ BK311 3
      have p312 : 0 ≤ (x6_1 : Int) := od_
      have q312 : x6_1 < (l0_2.length : Int) := od_
      obtain ⟨ad312, e312, hx312_0, hx312_1, hx312_2, hx312_3, hx312_4, hx312_5, hx312_6⟩ := at_T44 HR0_2.out x6_1 p312 q312
      cases e312
      replace hx312_0 := pc_ hx312_0
      replace hx312_1 := pc_ hx312_1
      replace hx312_2 := pc_ hx312_2
      replace hx312_3 := pc_ hx312_3
      replace hx312_4 := pc_ hx312_4
      replace hx312_5 := pc_ hx312_5
      replace hx312_6 := pc_ hx312_6
      replace p312 := eq_true p312
      replace q312 := eq_true q312
      go_wp2_with (first | ((with_reducible refine gate_dst (N := 7) rfl ?_); refine box_event ?hg (N := 7) ?hd (cs := #[.int .i64 0, .int .i64 0, .int .i64 0, .int .i64 0, .int .i64 0, .int .i64 0, .int .i64 0]) (t := 44) ?hr ?_; (case hd => rfl); (case hg => rfl); (case hr => first | (go_simp; done) | (go_simp; rfl)); intro gb313 hg w15 hbox hb; have n0_ := Aside0.mk (Kd.R_below (kR_ HO_5.out) hb); have n1_ := Aside0.mk (blk_below (g := gb311) (o := .cells #[.slice A0_0 l0_0.length c0_0, .slice A0_1 l0_1.length c0_1, .slice (some ad312) l0_2.length c0_2, .slice A0_3 l0_3.length c0_3] 38 (0, 0)) (by (with_reducible repeat (first | refine blk_drewN ?_ _ | refine blk_drew ?_ | refine blk_alloc ?_ _)); exact BK311.out) hb); have n2_ := Aside0.mk (below_step bel_ hb); have n3_ := Aside0.mk (hbox); have n4_ := Aside0.mk (bz_ hg : w.heap.size ≤ gb313); have n5_ := Aside0.mk (bz_ hg : w.heap.size ≤ gb313); have n6_ := Aside0.mk ((by rw [hg]; exact Nat.ne_of_lt (blk_lt (g := gb311) (o := .cells #[.slice A0_0 l0_0.length c0_0, .slice A0_1 l0_1.length c0_1, .slice (some ad312) l0_2.length c0_2, .slice A0_3 l0_3.length c0_3] 38 (0, 0)) (by (with_reducible repeat (first | refine blk_drewN ?_ _ | refine blk_drew ?_ | refine blk_alloc ?_ _)); exact BK311.out)) : gb311 ≠ gb313)); have n7_ := Aside0.mk ((by rw [hg]; exact Nat.ne_of_gt (blk_lt (g := gb311) (o := .cells #[.slice A0_0 l0_0.length c0_0, .slice A0_1 l0_1.length c0_1, .slice (some ad312) l0_2.length c0_2, .slice A0_3 l0_3.length c0_3] 38 (0, 0)) (by (with_reducible repeat (first | refine blk_drewN ?_ _ | refine blk_drew ?_ | refine blk_alloc ?_ _)); exact BK311.out)) : gb313 ≠ gb311)); clear HO_5; clear BK311; clear HB; have HO_5 := n0_; have BK311 := n1_; have HB := n2_; have BK313 := n3_; have GW313 := n4_; have GE313 := n5_; have NB311_313 := n6_; have NB313_311 := n7_; clear n0_ n1_ n2_ n3_ n4_ n5_ n6_ n7_; clear hb hbox hg; have hnb16 := NB313_311.out; have hnc16 := NB311_313.out; have hcz17_0 := cz_ BK313 0; have hcz17_1 := cz_ BK313 1; have hcz17_2 := cz_ BK313 2; have hcz17_3 := cz_ BK313 3; have hcz17_4 := cz_ BK313 4; have hcz17_5 := cz_ BK313 5; have hcz17_6 := cz_ BK313 6; have hfz17_0 := fz_ BK313 0; have hfz17_1 := fz_ BK313 1; have hfz17_2 := fz_ BK313 2; have hfz17_3 := fz_ BK313 3; have hfz17_4 := fz_ BK313 4; have hfz17_5 := fz_ BK313 5; have hfz17_6 := fz_ BK313 6) | ((with_reducible refine gate_callee (f := 53) rfl ?_); refine goesL_ (some 23) rfl rfl Try.func53 (by kernel_rfl) rfl #[.slice A1 l1.length c1, .int .i64 ((rd_T44 l0_2 x6_1).f0)] rfl (by (try simp only [List.map_toArray, List.map_cons, List.map_nil]); first | done | rfl | (simp only [List.length_drop, List.length_take]; rfl)) ?_; (with_reducible refine (skiarearef05_Has.calls k1 _ _ l1 ((rd_T44 l0_2 x6_1).f0) false _ ?side1 ?side2 A6.out).mono ?_); (case side1 => exact Kd.C_below HR1.out bel_); (case side2 => exact HC1.out); rintro e w' ⟨rfl, ⟨nd, rfl⟩⟩; refine ⟨_, rfl, ?_⟩))
      go_roundg k1
      case measure => have := HK1.out; omega
      case rel => exact ⟨(x5_1), (wrap64 (x6_1 + 1)), (by first | rfl | (simp; done) | (simp [*]; done)), H', ⟨by have := HK1.out; omega⟩, ⟨by (with_reducible repeat (first | apply Kd.R_alloc | apply Kd.R_drewN | apply Kd.R_drew)); exact Kd.R_mono (Kd.R_far (p := ⟨gb313, 6, none⟩) (Kd.R_far (p := ⟨gb313, 5, none⟩) (Kd.R_far (p := ⟨gb313, 4, none⟩) (Kd.R_far (p := ⟨gb313, 3, none⟩) (Kd.R_far (p := ⟨gb313, 2, none⟩) (Kd.R_far (p := ⟨gb313, 1, none⟩) (Kd.R_far (p := ⟨gb313, 0, none⟩) (Kd.R_types HO_5.out BK313.out (by decide)) (fun _ hk => hk.2) (.int .i64 ((rd_T44 l0_2 x6_1).f0))) (fun _ hk => hk.2) (.int .i64 ((rd_T44 l0_2 x6_1).f1))) (fun _ hk => hk.2) (.int .i64 ((rd_T44 l0_2 x6_1).f2))) (fun _ hk => hk.2) (.int .i64 ((rd_T44 l0_2 x6_1).f3))) (fun _ hk => hk.2) (.int .i64 ((rd_T44 l0_2 x6_1).f4))) (fun _ hk => hk.2) (.int .i64 ((rd_T44 l0_2 x6_1).f5))) (fun _ hk => hk.2) (.int .i64 ((rd_T44 l0_2 x6_1).f6))) (fun _ hk => trivial)⟩, ⟨by (with_reducible repeat (first | refine blk_drewN ?_ _ | refine blk_drew ?_ | refine blk_alloc ?_ _)); refine blk_far ?_ NB311_313.out _; (with_reducible repeat (first | refine blk_drewN ?_ _ | refine blk_drew ?_ | refine blk_alloc ?_ _)); refine blk_far ?_ NB311_313.out _; (with_reducible repeat (first | refine blk_drewN ?_ _ | refine blk_drew ?_ | refine blk_alloc ?_ _)); refine blk_far ?_ NB311_313.out _; (with_reducible repeat (first | refine blk_drewN ?_ _ | refine blk_drew ?_ | refine blk_alloc ?_ _)); refine blk_far ?_ NB311_313.out _; (with_reducible repeat (first | refine blk_drewN ?_ _ | refine blk_drew ?_ | refine blk_alloc ?_ _)); refine blk_far ?_ NB311_313.out _; (with_reducible repeat (first | refine blk_drewN ?_ _ | refine blk_drew ?_ | refine blk_alloc ?_ _)); refine blk_far ?_ NB311_313.out _; (with_reducible repeat (first | refine blk_drewN ?_ _ | refine blk_drew ?_ | refine blk_alloc ?_ _)); refine blk_far ?_ NB311_313.out _; (with_reducible repeat (first | refine blk_drewN ?_ _ | refine blk_drew ?_ | refine blk_alloc ?_ _)); exact BK311.out⟩, ⟨by repeat (first | (with_reducible first | exact HB.out | apply below_alloc | apply pw_below_drewN | apply below_drew1 | refine below_set ?_ GE311.out | refine below_set ?_ GE313.out) | exact HB.out)⟩⟩
    ·rw [if_neg c5] at H
     exact absurd H (by simp)
   ·rw [if_neg c4] at H
    have c4b0 : decide (x6_1 < (l0_2.length : Int)) = false := decide_eq_false c4
    clear c4
    obtain rfl := Option.some.inj H
    have hcz18_0 := cz_ BK311 0
    have hcz18_1 := cz_ BK311 1
    have hcz18_2 := cz_ BK311 2
    have hcz18_3 := cz_ BK311 3
    have hfz18_0 := fz_ BK311 0
    have hfz18_1 := fz_ BK311 1
    have hfz18_2 := fz_ BK311 2
    have hfz18_3 := fz_ BK311 3
    go_wp2
    go_ret
    exact ⟨_, by first | rfl | (simp [errW_none, errW_some] <;> rfl) | (simp [*, errW_none, errW_some] <;> rfl), by (with_reducible repeat (first | apply Kd.R_alloc | apply Kd.R_drewN | apply Kd.R_drew)); exact HO_5.out, by repeat (first | (with_reducible first | exact HB.out | apply below_alloc | apply pw_below_drewN | apply below_drew1 | refine below_set ?_ GE311.out) | exact HB.out)⟩

end Go.Proofs.Ytgfiidgigenibaa.Q
