-- written by wip/drive.py (this session's program) over the kit's print words
import Derived.Test.YtmhggplhfcmgkaaQ0
import Derived.Test.YtmhggplhfcmgkaaQ32
import Derived.Test.YtmhggplhfcmgkaaQ61
namespace Go.Proofs.Ytmhggplhfcmgkaa.Q
open Go.RowKit Go.Proofs.YtmhggplhfcmgkaaW.PrintWords Go.Proofs.YtmhggplhfcmgkaaW.PrintLast Go.Proofs.YtmhggplhfcmgkaaW.PrintMore
attribute [local go_sem] max2_int min2_int max_two min_two max_three min_three max_four min_four   -- for this text's walks alone
set_option linter.unusedVariables false
set_option linter.unusedSimpArgs false

/-! ### skiarearef53_Ready: function 47 -/
mutual
def skiarearef53_Ready.j0 : Nat → Int → Bool → List (S63) → List (S56) → Option (Bool)
 | 0, _, _, _, _ => none
 | k + 1, x1, x24, x666000, x666001 => if x24 = true then (some false) else (skiarearef53_Ready.l0 k x1 0 x666000 x666001)
def skiarearef53_Ready.l0 : Nat → Int → Int → List (S63) → List (S56) → Option (Bool)
 | 0, _, _, _, _ => none
 | k + 1, x1, x8, x666000, x666001 => if x8 < (x666001.length : Int) then (if 0 ≤ x8 then (if ((rd_T56 x666001 x8).f1) = x1 then (some false) else (skiarearef53_Ready.l0 k x1 (wrap64 (x8 + 1)) x666000 x666001)) else (none)) else (some true)
end
def skiarearef53_Ready.f (k : Nat) (l0_0 : List (S63)) (l0_1 : List (S56)) (a1 : Int) (a2 : Int) : Option (Bool) := (skiarearef53_at.f k l0_0 l0_1 a1).bind fun t666 => (if t666 < 0 then (skiarearef53_Ready.j0 k a1 true l0_0 l0_1) else (if 0 ≤ t666 then (if t666 < (l0_0.length : Int) then ((skiarearef19_Done.f k ((rd_T63 l0_0 t666).f1.f0) ((rd_T63 l0_0 t666).f1.f1) ((rd_T63 l0_0 t666).f1.f2) a2).bind fun t668 => (skiarearef53_Ready.j0 k a1 (!t668) l0_0 l0_1)) else (none)) else (none)))
theorem skiarearef53_Ready.mono_l : ∀ k, (∀ y0 y1 y2 y3, LeO (skiarearef53_Ready.j0 k y0 y1 y2 y3) (skiarearef53_Ready.j0 (k + 1) y0 y1 y2 y3)) ∧ (∀ y0 y1 y2 y3, LeO (skiarearef53_Ready.l0 k y0 y1 y2 y3) (skiarearef53_Ready.l0 (k + 1) y0 y1 y2 y3))
 | 0 => ⟨fun _ _ _ _ r h => by simp [skiarearef53_Ready.j0] at h, fun _ _ _ _ r h => by simp [skiarearef53_Ready.l0] at h⟩
 | k + 1 => by
  obtain ⟨ih0, ih1⟩ := skiarearef53_Ready.mono_l k
  refine ⟨?_, ?_⟩
  ·intro y0 y1 y2 y3
   unfold skiarearef53_Ready.j0
   repeat' first
   | (with_reducible exact ih0 _ _ _ _)
   | (with_reducible exact ih1 _ _ _ _)
   | (with_reducible exact skiarearef19_Done.mono _ _ _ _ _)
   | (with_reducible exact skiarearef53_at.mono _ _ _ _)
   | (with_reducible exact LeO.refl _)
   | (with_reducible exact LeO.none _)
   | (with_reducible refine LeO.ite ?_ ?_)
   | (with_reducible refine LeO.bind ?_ (fun _ => ?_))
   | exact ih0 _ _ _ _
   | exact ih1 _ _ _ _
   | exact skiarearef19_Done.mono _ _ _ _ _
   | exact skiarearef53_at.mono _ _ _ _
   | exact LeO.none _
   | refine LeO.ite ?_ ?_
   | refine LeO.bind ?_ (fun _ => ?_)
  ·intro y0 y1 y2 y3
   unfold skiarearef53_Ready.l0
   repeat' first
   | (with_reducible exact ih0 _ _ _ _)
   | (with_reducible exact ih1 _ _ _ _)
   | (with_reducible exact skiarearef19_Done.mono _ _ _ _ _)
   | (with_reducible exact skiarearef53_at.mono _ _ _ _)
   | (with_reducible exact LeO.refl _)
   | (with_reducible exact LeO.none _)
   | (with_reducible refine LeO.ite ?_ ?_)
   | (with_reducible refine LeO.bind ?_ (fun _ => ?_))
   | exact ih0 _ _ _ _
   | exact ih1 _ _ _ _
   | exact skiarearef19_Done.mono _ _ _ _ _
   | exact skiarearef53_at.mono _ _ _ _
   | exact LeO.none _
   | refine LeO.ite ?_ ?_
   | refine LeO.bind ?_ (fun _ => ?_)
theorem skiarearef53_Ready.mono : ∀ a0 a1 a2 a3 k, LeO (skiarearef53_Ready.f k a0 a1 a2 a3) (skiarearef53_Ready.f (k + 1) a0 a1 a2 a3) := by
 intro a0 a1 a2 a3 k
 obtain ⟨ih0, ih1⟩ := skiarearef53_Ready.mono_l k
 unfold skiarearef53_Ready.f
 repeat' first
   | (with_reducible exact ih0 _ _ _ _)
   | (with_reducible exact ih1 _ _ _ _)
   | (with_reducible exact skiarearef19_Done.mono _ _ _ _ _)
   | (with_reducible exact skiarearef53_at.mono _ _ _ _)
   | (with_reducible exact LeO.refl _)
   | (with_reducible exact LeO.none _)
   | (with_reducible refine LeO.ite ?_ ?_)
   | (with_reducible refine LeO.bind ?_ (fun _ => ?_))
   | exact ih0 _ _ _ _
   | exact ih1 _ _ _ _
   | exact skiarearef19_Done.mono _ _ _ _ _
   | exact skiarearef53_at.mono _ _ _ _
   | exact LeO.none _
   | refine LeO.ite ?_ ?_
   | refine LeO.bind ?_ (fun _ => ?_)
set_option maxHeartbeats 8000000 in
set_option maxRecDepth 100000 in
theorem skiarearef53_Ready.calls (k : Nat) (A0_0 : Option Addr) (c0_0 : Nat) (l0_0 : List (S63)) (A0_1 : Option Addr) (c0_1 : Nat) (l0_1 : List (S56)) (a1 : Int) (a2 : Int) (r : Bool) (w : World) (hr0_0 : Kd.C k63 w A0_0 l0_0.length l0_0) (hc0_0 : l0_0.length ≤ c0_0) (hr0_1 : Kd.C k56 w A0_1 l0_1.length l0_1) (hc0_1 : l0_1.length ≤ c0_1) (h : skiarearef53_Ready.f k l0_0 l0_1 a1 a2 = some r) :
  Calls Try.prog 47 #[.agg #[.slice A0_0 l0_0.length c0_0, .slice A0_1 l0_1.length c0_1], .int .i64 a1, .int .i64 a2] w fun e w' => e = .returned (.bool r) ∧ Below w.heap.size w w' := by
 have hu48 := Try.underlying48
 have hu25 := Try.underlying25
 have HR0_0 := Aside0.mk hr0_0
 have HC0_0 := Aside0.mk hc0_0
 clear hr0_0 hc0_0
 have HR0_1 := Aside0.mk hr0_1
 have HC0_1 := Aside0.mk hc0_1
 clear hr0_1 hc0_1
 have HB := Aside0.mk (Below.refl w.heap.size w)
 have H : ((skiarearef53_at.f k l0_0 l0_1 a1).bind fun t666 => (if t666 < 0 then (skiarearef53_Ready.j0 k a1 true l0_0 l0_1) else (if 0 ≤ t666 then (if t666 < (l0_0.length : Int) then ((skiarearef19_Done.f k ((rd_T63 l0_0 t666).f1.f0) ((rd_T63 l0_0 t666).f1.f1) ((rd_T63 l0_0 t666).f1.f2) a2).bind fun t668 => (skiarearef53_Ready.j0 k a1 (!t668) l0_0 l0_1)) else (none)) else (none)))) = some r := h
 clear h
 replace H := Option.bind_eq_some_iff.mp H
 obtain ⟨t666, A40, H⟩ := H
 replace H : (if t666 < 0 then (skiarearef53_Ready.j0 k a1 true l0_0 l0_1) else (if 0 ≤ t666 then (if t666 < (l0_0.length : Int) then ((skiarearef19_Done.f k ((rd_T63 l0_0 t666).f1.f0) ((rd_T63 l0_0 t666).f1.f1) ((rd_T63 l0_0 t666).f1.f2) a2).bind fun t668 => (skiarearef53_Ready.j0 k a1 (!t668) l0_0 l0_1)) else (none)) else (none))) = some r := H
 have A4 := Aside0.mk A40
 clear A40
 have HC5 := Aside0.mk H
 clear H
 go_enter Try.func47, Try.ntmps47
 go_upto_region 2 with (first | ((with_reducible refine gate_dst (N := 3) rfl ?_); refine box_event ?hg (N := 3) ?hd (cs := #[.slice A0_0 l0_0.length c0_0, .slice A0_1 l0_1.length c0_1]) (t := 48) ?hr ?_; (case hd => rfl); (case hg => rfl); (case hr => first | (go_simp; done) | (go_simp; rfl)); intro gb665 hg w6 hbox hb; have n0_ := Aside0.mk (below_step bel_ hb); have n1_ := Aside0.mk (hbox); have n2_ := Aside0.mk ((by rw [hg]; exact (below_size bel_) : w.heap.size ≤ gb665)); have n3_ := Aside0.mk ((by rw [hg]; exact (below_size bel_) : w.heap.size ≤ gb665)); clear HB; have HB := n0_; have BK665 := n1_; have GW665 := n2_; have GE665 := n3_; clear n0_ n1_ n2_ n3_; clear hb hbox hg; have hcz7_0 : w6.cell? ⟨gb665, 0, none⟩ = some (.slice A0_0 l0_0.length c0_0) := (blk_cell BK665.out 0).trans rfl; have hcz7_1 : w6.cell? ⟨gb665, 1, none⟩ = some (.slice A0_1 l0_1.length c0_1) := (blk_cell BK665.out 1).trans rfl; have hfz7_0 := blk_frozen BK665.out 0; have hfz7_1 := blk_frozen BK665.out 1) | ((with_reducible refine gate_callee (f := 68) rfl ?_); refine goesL_ (some 11) rfl rfl Try.func68 (by kernel_rfl) rfl #[.agg #[.slice A0_0 l0_0.length c0_0, .slice A0_1 l0_1.length c0_1], .int .i64 a1] rfl (by (try simp only [List.map_toArray, List.map_cons, List.map_nil]); first | done | rfl | (simp only [List.length_drop, List.length_take]; rfl)) ?_; (with_reducible refine (skiarearef53_at.calls k _ _ l0_0 _ _ l0_1 a1 t666 _ ?side1 ?side2 ?side3 ?side4 A4.out).mono ?_); (case side1 => repeat (first | exact (Kd.C_below HR0_0.out HB.out) | (with_reducible refine Kd.C_alloc ?_ _) | (with_reducible refine Kd.C_drewN ?_ _) | (with_reducible refine Kd.C_drew ?_))); (case side2 => exact HC0_0.out); (case side3 => repeat (first | exact (Kd.C_below HR0_1.out HB.out) | (with_reducible refine Kd.C_alloc ?_ _) | (with_reducible refine Kd.C_drewN ?_ _) | (with_reducible refine Kd.C_drew ?_))); (case side4 => exact HC0_1.out); rintro e w8 ⟨rfl, hb⟩; refine ⟨_, rfl, ?_⟩; have n0_ := Aside0.mk (blk_below BK665.out hb); have n1_ := Aside0.mk (below_step bel_ hb); clear BK665; clear HB; have BK665 := n0_; have HB := n1_; clear n0_ n1_; (try clear hb); (try clear hb2); (try clear hk); (try clear hi)))
 (try simp only [Act.put, List.setIfInBounds_toArray, List.set_cons_zero, List.set_cons_succ])
 go_cut [24] (fun v24 wc => ∃ (kq : Nat) (x24_4 : Bool), v24 = .bool x24_4 ∧ Aside0 (skiarearef53_Ready.j0 kq a1 x24_4 l0_0 l0_1 = some r) ∧ Aside0 (kq ≤ k) ∧ Aside0 (wc.heap[gb665]? = some (.cells #[(.slice A0_0 l0_0.length c0_0), (.slice A0_1 l0_1.length c0_1)] 48 (0, 0))) ∧ Aside0 (Below w.heap.size w wc))
 case first =>
  have H := HC5.out
  clear HC5
  by_cases c9 : t666 < 0
  ·rw [if_pos c9] at H
   have c9b0 : decide (t666 < 0) = true := decide_eq_true c9
   clear c9
   (first | rw [c9b0] | (simp only [i64_w, i32_w]; rw [c9b0]) | skip)
   have H' := Aside0.mk H
   clear H
   go_wp2
   go_meet
   case rel => exact ⟨_, (true), (by first | rfl | (simp; done) | (simp [*]; done)), H', ⟨by first | omega | exact Nat.le_refl _⟩, ⟨by exact BK665.out⟩, ⟨by repeat (first | (with_reducible first | exact HB.out | apply below_alloc | apply pw_below_drewN | apply below_drew1 | refine below_set ?_ GE665.out) | exact HB.out)⟩⟩
  ·rw [if_neg c9] at H
   have c9b0 : decide (t666 < 0) = false := decide_eq_false c9
   clear c9
   (first | rw [c9b0] | (simp only [i64_w, i32_w]; rw [c9b0]) | skip)
   by_cases c10 : 0 ≤ t666
   ·rw [if_pos c10] at H
    have c10b0 : decide (0 ≤ t666) = true := decide_eq_true c10
    clear c10
    by_cases c11 : t666 < (l0_0.length : Int)
    ·rw [if_pos c11] at H
     have c11b0 : decide (t666 < (l0_0.length : Int)) = true := decide_eq_true c11
     clear c11
     replace H := Option.bind_eq_some_iff.mp H
     obtain ⟨t668, A120, H⟩ := H
     replace H : (skiarearef53_Ready.j0 k a1 (!t668) l0_0 l0_1) = some r := H
     have A12 := Aside0.mk A120
     clear A120
     have H' := Aside0.mk H
     clear H
     have hcz13_0 : w8.cell? ⟨gb665, 0, none⟩ = some (.slice A0_0 l0_0.length c0_0) := (blk_cell BK665.out 0).trans rfl
     have hcz13_1 : w8.cell? ⟨gb665, 1, none⟩ = some (.slice A0_1 l0_1.length c0_1) := (blk_cell BK665.out 1).trans rfl
     have hfz13_0 := blk_frozen BK665.out 0
     have hfz13_1 := blk_frozen BK665.out 1
     have p667 : 0 ≤ (t666 : Int) := of_decide_eq_true (by first | (with_reducible assumption) | assumption)
     have q667 : t666 < (l0_0.length : Int) := of_decide_eq_true (by first | (with_reducible assumption) | assumption)
     obtain ⟨ad667, A667_1, c667_1, A667_3, c667_3, e667, hx667_0, hx667_1, hx667_2, hx667_3, hl667_1, hi667_1, hl667_3, hi667_3⟩ := at_T63 HR0_0.out t666 p667 q667
     cases e667
     replace hx667_0 := (HB.out.cell (World.block_lt_of_cell? w _ hx667_0)).trans hx667_0
     replace hx667_1 := (HB.out.cell (World.block_lt_of_cell? w _ hx667_1)).trans hx667_1
     replace hx667_2 := (HB.out.cell (World.block_lt_of_cell? w _ hx667_2)).trans hx667_2
     replace hx667_3 := (HB.out.cell (World.block_lt_of_cell? w _ hx667_3)).trans hx667_3
     have HR667_1 := Aside0.mk hi667_1
     have HC667_1 := Aside0.mk hl667_1
     clear hi667_1 hl667_1
     have HR667_3 := Aside0.mk hi667_3
     have HC667_3 := Aside0.mk hl667_3
     clear hi667_3 hl667_3
     replace p667 := eq_true p667
     replace q667 := eq_true q667
     go_wp2_with (first | (go_at_call 30; (with_reducible refine (skiarearef19_Done.calls k _ _ ((rd_T63 l0_0 t666).f1.f0) ((rd_T63 l0_0 t666).f1.f1) _ _ ((rd_T63 l0_0 t666).f1.f2) a2 t668 _ ?side1 ?side2 ?side3 ?side4 A12.out).mono ?_); (case side1 => repeat (first | exact (Kd.C_below HR667_1.out HB.out) | (with_reducible refine Kd.C_alloc ?_ _) | (with_reducible refine Kd.C_drewN ?_ _) | (with_reducible refine Kd.C_drew ?_))); (case side2 => exact HC667_1.out); (case side3 => repeat (first | exact (Kd.C_below HR667_3.out HB.out) | (with_reducible refine Kd.C_alloc ?_ _) | (with_reducible refine Kd.C_drewN ?_ _) | (with_reducible refine Kd.C_drew ?_))); (case side4 => exact HC667_3.out); rintro e w14 ⟨rfl, hb⟩; have n0_ := Aside0.mk (blk_below BK665.out hb); have n1_ := Aside0.mk (below_step bel_ hb); clear BK665; clear HB; have BK665 := n0_; have HB := n1_; clear n0_ n1_; (try clear hb); (try clear hb2); (try clear hk); (try clear hi)))
     go_meet
     case rel => exact ⟨_, (!t668), (by first | rfl | (simp; done) | (simp [*]; done)), H', ⟨by first | omega | exact Nat.le_refl _⟩, ⟨by exact BK665.out⟩, ⟨by repeat (first | (with_reducible first | exact HB.out | apply below_alloc | apply pw_below_drewN | apply below_drew1 | refine below_set ?_ GE665.out) | exact HB.out)⟩⟩
    ·rw [if_neg c11] at H
     exact absurd H (by simp)
   ·rw [if_neg c10] at H
    exact absurd H (by simp)
 case rest =>
  clear HC5
  try clear c1
  try clear p2
  try clear c4
  try clear c6
  try clear p6
  try clear q6
  try clear hx6
  try clear c9
  try clear c9b0
  try clear c10
  try clear c10b0
  try clear c11
  try clear c11b0
  try clear hcz13_0
  try clear hcz13_1
  try clear hcz7_0
  try clear hcz7_1
  try clear hfz13_0
  try clear hfz13_1
  try clear hfz7_0
  try clear hfz7_1
  try clear hx667_0
  try clear hx667_1
  try clear hx667_2
  try clear hx667_3
  try clear p667
  try clear q667
  obtain ⟨kq, x24_4, rfl, HA, HJ4, BK665, HB⟩ := hcut
  cases kq with
  | zero => exact absurd HA.out (by simp [skiarearef53_Ready.j0])
  | succ kj4 =>
   have H := HA.out
   clear HA
   simp only [skiarearef53_Ready.j0] at H
   by_cases c15 : x24_4 = true
   ·subst c15
    have H1 : (some false) = some r := by rw [if_pos rfl] at H; exact H
    clear H
    have H := H1
    clear H1
    obtain rfl := Option.some.inj H
    go_wp2
    go_ret
    exact ⟨by first | rfl | (simp [errW_none, errW_some] <;> rfl) | (simp [*, errW_none, errW_some] <;> rfl), by repeat (first | (with_reducible first | exact HB.out | apply below_alloc | apply pw_below_drewN | apply below_drew1 | refine below_set ?_ GE665.out) | exact HB.out)⟩
   ·replace c15 := Bool.eq_false_iff.mpr c15
    subst c15
    have H1 : (skiarearef53_Ready.l0 kj4 a1 0 l0_0 l0_1) = some r := by rw [if_neg (show ¬ (false = true) by decide)] at H; exact H
    clear H
    have H := H1
    clear H1
    have H' := Aside0.mk H
    clear H
    go_wp2
    go_loopg [8] kj4 (fun kq v8 w' => ∃ (x8_2 : Int), v8 = .int .i64 x8_2 ∧ Aside0 (skiarearef53_Ready.l0 kq a1 x8_2 l0_0 l0_1 = some r) ∧ Aside0 (kq ≤ kj4) ∧ Aside0 (w'.heap[gb665]? = some (.cells #[(.slice A0_0 l0_0.length c0_0), (.slice A0_1 l0_1.length c0_1)] 48 (0, 0))) ∧ Aside0 (Below w.heap.size w w'))
    case atStart => exact ⟨(0), (by first | rfl | (simp; done) | (simp [*]; done)), H', ⟨Nat.le_refl _⟩, ⟨by exact BK665.out⟩, ⟨by repeat (first | (with_reducible first | exact HB.out | apply below_alloc | apply pw_below_drewN | apply below_drew1 | refine below_set ?_ GE665.out) | exact HB.out)⟩⟩
    case round =>
     clear H'
     try clear c1
     try clear p2
     try clear c4
     try clear c6
     try clear p6
     try clear q6
     try clear hx6
     try clear c9
     try clear c9b0
     try clear c10
     try clear c10b0
     try clear c11
     try clear c11b0
     try clear c15
     try clear hcz13_0
     try clear hcz13_1
     try clear hcz7_0
     try clear hcz7_1
     try clear hfz13_0
     try clear hfz13_1
     try clear hfz7_0
     try clear hfz7_1
     try clear hx667_0
     try clear hx667_1
     try clear hx667_2
     try clear hx667_3
     try clear p2
     try clear p6
     try clear p667
     try clear q6
     try clear q667
     obtain ⟨x8_2, rfl, HA, HK2, BK665, HB⟩ := hrel
     cases gk with
     | zero => exact absurd HA.out (by simp [skiarearef53_Ready.l0])
     | succ k2 =>
      have H := HA.out
      clear HA
      simp only [skiarearef53_Ready.l0] at H
      by_cases c16 : x8_2 < (l0_1.length : Int)
      ·rw [if_pos c16] at H
       have c16b0 : decide (x8_2 < (l0_1.length : Int)) = true := decide_eq_true c16
       clear c16
       by_cases c17 : 0 ≤ x8_2
       ·rw [if_pos c17] at H
        have c17b0 : decide (0 ≤ x8_2) = true := decide_eq_true c17
        clear c17
        by_cases c18 : ((rd_T56 l0_1 x8_2).f1) = a1
        ·rw [if_pos c18] at H
         have c18b0 : (((rd_T56 l0_1 x8_2).f1) == a1) = true := beq_iff_eq.mpr c18
         have c18b1 : (((rd_T56 l0_1 x8_2).f1) != a1) = false := bne_eq_false_iff_eq.mpr c18
         clear c18
         obtain rfl := Option.some.inj H
         have hcz19_0 : wr.cell? ⟨gb665, 0, none⟩ = some (.slice A0_0 l0_0.length c0_0) := (blk_cell BK665.out 0).trans rfl
         have hcz19_1 : wr.cell? ⟨gb665, 1, none⟩ = some (.slice A0_1 l0_1.length c0_1) := (blk_cell BK665.out 1).trans rfl
         have hfz19_0 := blk_frozen BK665.out 0
         have hfz19_1 := blk_frozen BK665.out 1
         have p669 : 0 ≤ (x8_2 : Int) := of_decide_eq_true (by first | (with_reducible assumption) | assumption)
         have q669 : x8_2 < (l0_1.length : Int) := of_decide_eq_true (by first | (with_reducible assumption) | assumption)
         obtain ⟨ad669, e669, hx669_0, hx669_1, hx669_2⟩ := at_T56 HR0_1.out x8_2 p669 q669
         cases e669
         replace hx669_0 := (HB.out.cell (World.block_lt_of_cell? w _ hx669_0)).trans hx669_0
         replace hx669_1 := (HB.out.cell (World.block_lt_of_cell? w _ hx669_1)).trans hx669_1
         replace hx669_2 := (HB.out.cell (World.block_lt_of_cell? w _ hx669_2)).trans hx669_2
         replace p669 := eq_true p669
         replace q669 := eq_true q669
         go_wp2
         go_ret
         exact ⟨by first | rfl | (simp [errW_none, errW_some] <;> rfl) | (simp [*, errW_none, errW_some] <;> rfl), by repeat (first | (with_reducible first | exact HB.out | apply below_alloc | apply pw_below_drewN | apply below_drew1 | refine below_set ?_ GE665.out) | exact HB.out)⟩
        ·rw [if_neg c18] at H
         have c18b0 : (((rd_T56 l0_1 x8_2).f1) == a1) = false := beq_eq_false_iff_ne.mpr c18
         have c18b1 : (((rd_T56 l0_1 x8_2).f1) != a1) = true := bne_iff_ne.mpr c18
         have H' := Aside0.mk H
         clear H
         have hcz20_0 : wr.cell? ⟨gb665, 0, none⟩ = some (.slice A0_0 l0_0.length c0_0) := (blk_cell BK665.out 0).trans rfl
         have hcz20_1 : wr.cell? ⟨gb665, 1, none⟩ = some (.slice A0_1 l0_1.length c0_1) := (blk_cell BK665.out 1).trans rfl
         have hfz20_0 := blk_frozen BK665.out 0
         have hfz20_1 := blk_frozen BK665.out 1
         have p669 : 0 ≤ (x8_2 : Int) := of_decide_eq_true (by first | (with_reducible assumption) | assumption)
         have q669 : x8_2 < (l0_1.length : Int) := of_decide_eq_true (by first | (with_reducible assumption) | assumption)
         obtain ⟨ad669, e669, hx669_0, hx669_1, hx669_2⟩ := at_T56 HR0_1.out x8_2 p669 q669
         cases e669
         replace hx669_0 := (HB.out.cell (World.block_lt_of_cell? w _ hx669_0)).trans hx669_0
         replace hx669_1 := (HB.out.cell (World.block_lt_of_cell? w _ hx669_1)).trans hx669_1
         replace hx669_2 := (HB.out.cell (World.block_lt_of_cell? w _ hx669_2)).trans hx669_2
         replace p669 := eq_true p669
         replace q669 := eq_true q669
         go_wp2
         go_roundg k2
         case measure => have := HJ4.out; have := HK2.out; omega
         case rel => exact ⟨(wrap64 (x8_2 + 1)), (by first | rfl | (simp; done) | (simp [*]; done)), H', ⟨by have := HJ4.out; have := HK2.out; omega⟩, ⟨by exact BK665.out⟩, ⟨by repeat (first | (with_reducible first | exact HB.out | apply below_alloc | apply pw_below_drewN | apply below_drew1 | refine below_set ?_ GE665.out) | exact HB.out)⟩⟩
       ·rw [if_neg c17] at H
        exact absurd H (by simp)
      ·rw [if_neg c16] at H
       have c16b0 : decide (x8_2 < (l0_1.length : Int)) = false := decide_eq_false c16
       clear c16
       obtain rfl := Option.some.inj H
       have hcz21_0 : wr.cell? ⟨gb665, 0, none⟩ = some (.slice A0_0 l0_0.length c0_0) := (blk_cell BK665.out 0).trans rfl
       have hcz21_1 : wr.cell? ⟨gb665, 1, none⟩ = some (.slice A0_1 l0_1.length c0_1) := (blk_cell BK665.out 1).trans rfl
       have hfz21_0 := blk_frozen BK665.out 0
       have hfz21_1 := blk_frozen BK665.out 1
       go_wp2
       go_ret
       exact ⟨by first | rfl | (simp [errW_none, errW_some] <;> rfl) | (simp [*, errW_none, errW_some] <;> rfl), by repeat (first | (with_reducible first | exact HB.out | apply below_alloc | apply pw_below_drewN | apply below_drew1 | refine below_set ?_ GE665.out) | exact HB.out)⟩

end Go.Proofs.Ytmhggplhfcmgkaa.Q
