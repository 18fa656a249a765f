-- written by wip/drive.py (this session's program) over the kit's print words
import Derived.Test.YtgfiidgigenibaaQ0
import Derived.Test.YtgfiidgigenibaaQ28
namespace Go.Proofs.Ytgfiidgigenibaa.Q
open Go.RowKit Go.Proofs.YtgfiidgigenibaaW.PrintWords Go.Proofs.YtgfiidgigenibaaW.PrintLast Go.Proofs.YtgfiidgigenibaaW.PrintMore
attribute [local go_sem] max2_int min2_int max_two min_two max_three min_three max_four min_four   -- for this text's walks alone
set_option linter.unusedVariables false
set_option linter.unusedSimpArgs false

/-! ### skiarearef10_bases: function 46 -/
mutual
def skiarearef10_bases.l0 : Nat → Int → List (S62) → List (S82) → List (S44) → List Int → Option (Int)
 | 0, _, _, _, _, _ => none
 | k + 1, x3, x252000, x252001, x252002, x252003 => if x3 < (x252003.length : Int) then (if 0 ≤ x3 then ((skiarearef10_Node.f k x252000 x252001 x252002 x252003 (rd x252003 x3)).bind fun bt253 => (if bt253.2.2 = true then (skiarearef10_bases.l0 k (wrap64 (x3 + 1)) x252000 x252001 x252002 x252003) else (some 8))) else (none)) else (skiarearef10_bases.l1 k 1 x252000 x252001 x252002 x252003)
def skiarearef10_bases.l1 : Nat → Int → List (S62) → List (S82) → List (S44) → List Int → Option (Int)
 | 0, _, _, _, _, _ => none
 | k + 1, x6, x252000, x252001, x252002, x252003 => if x6 < (x252003.length : Int) then (if 0 ≤ x6 then (if 0 ≤ (wrap64 (x6 - 1)) then (if (wrap64 (x6 - 1)) < (x252003.length : Int) then (if (rd x252003 x6) ≤ (rd x252003 (wrap64 (x6 - 1))) then (some 7) else (skiarearef10_bases.l1 k (wrap64 (x6 + 1)) x252000 x252001 x252002 x252003)) else (none)) else (none)) else (none)) else (some 0)
end
def skiarearef10_bases.f (k : Nat) (l0_0 : List (S62)) (l0_1 : List (S82)) (l0_2 : List (S44)) (l0_3 : List Int) : Option (Int) := if (l0_3.length : Int) = 0 then (some 8) else (skiarearef10_bases.l0 k 0 l0_0 l0_1 l0_2 l0_3)
theorem skiarearef10_bases.mono_l : ∀ k, (∀ y0 y1 y2 y3 y4, LeO (skiarearef10_bases.l0 k y0 y1 y2 y3 y4) (skiarearef10_bases.l0 (k + 1) y0 y1 y2 y3 y4)) ∧ (∀ y0 y1 y2 y3 y4, LeO (skiarearef10_bases.l1 k y0 y1 y2 y3 y4) (skiarearef10_bases.l1 (k + 1) y0 y1 y2 y3 y4))
 | 0 => ⟨fun _ _ _ _ _ r h => by simp [skiarearef10_bases.l0] at h, fun _ _ _ _ _ r h => by simp [skiarearef10_bases.l1] at h⟩
 | k + 1 => by
  obtain ⟨ih0, ih1⟩ := skiarearef10_bases.mono_l k
  refine ⟨?_, ?_⟩
  ·intro y0 y1 y2 y3 y4
   unfold skiarearef10_bases.l0
   repeat' first
   | (with_reducible exact ih0 _ _ _ _ _)
   | (with_reducible exact ih1 _ _ _ _ _)
   | (with_reducible exact skiarearef10_Node.mono _ _ _ _ _ _)
   | (with_reducible exact LeO.refl _)
   | (with_reducible exact LeO.none _)
   | (with_reducible refine LeO.ite ?_ ?_)
   | (with_reducible refine LeO.bind ?_ (fun _ => ?_))
   | exact ih0 _ _ _ _ _
   | exact ih1 _ _ _ _ _
   | exact skiarearef10_Node.mono _ _ _ _ _ _
   | exact LeO.none _
   | refine LeO.ite ?_ ?_
   | refine LeO.bind ?_ (fun _ => ?_)
  ·intro y0 y1 y2 y3 y4
   unfold skiarearef10_bases.l1
   repeat' first
   | (with_reducible exact ih0 _ _ _ _ _)
   | (with_reducible exact ih1 _ _ _ _ _)
   | (with_reducible exact skiarearef10_Node.mono _ _ _ _ _ _)
   | (with_reducible exact LeO.refl _)
   | (with_reducible exact LeO.none _)
   | (with_reducible refine LeO.ite ?_ ?_)
   | (with_reducible refine LeO.bind ?_ (fun _ => ?_))
   | exact ih0 _ _ _ _ _
   | exact ih1 _ _ _ _ _
   | exact skiarearef10_Node.mono _ _ _ _ _ _
   | exact LeO.none _
   | refine LeO.ite ?_ ?_
   | refine LeO.bind ?_ (fun _ => ?_)
theorem skiarearef10_bases.mono : ∀ a0 a1 a2 a3 k, LeO (skiarearef10_bases.f k a0 a1 a2 a3) (skiarearef10_bases.f (k + 1) a0 a1 a2 a3) := by
 intro a0 a1 a2 a3 k
 obtain ⟨ih0, ih1⟩ := skiarearef10_bases.mono_l k
 unfold skiarearef10_bases.f
 repeat' first
   | (with_reducible exact ih0 _ _ _ _ _)
   | (with_reducible exact ih1 _ _ _ _ _)
   | (with_reducible exact skiarearef10_Node.mono _ _ _ _ _ _)
   | (with_reducible exact LeO.refl _)
   | (with_reducible exact LeO.none _)
   | (with_reducible refine LeO.ite ?_ ?_)
   | (with_reducible refine LeO.bind ?_ (fun _ => ?_))
   | exact ih0 _ _ _ _ _
   | exact ih1 _ _ _ _ _
   | exact skiarearef10_Node.mono _ _ _ _ _ _
   | exact LeO.none _
   | refine LeO.ite ?_ ?_
   | refine LeO.bind ?_ (fun _ => ?_)
def skiarearef10_bases.T6 : Bool × List (List Nat × List Nat) := (true, [([], []), ([], []), ([1], [1]), ([], []), ([2, 3], [2, 3]), ([4], [4]), ([0, 5], [0, 5]), ([6], [6]), ([7], [7]), ([7], [7]), ([], []), ([10, 8, 6, 0, 1, 2, 3, 4, 5, 6, 7, 8, 10], [8, 10]), ([9, 11, 0, 1, 2, 3, 4, 5, 6, 7, 8, 9, 10, 11], [9])])
def skiarearef10_bases.B6 : List Nat := [0, 0, 2, 0, 14, 30, 63, 127, 255, 255, 0, 1535, 4095]
theorem skiarearef10_bases.tab6 : rtab .any (opsOf Try.f46 6) = skiarearef10_bases.T6 := by kernel_rfl
theorem skiarearef10_bases.bits6 : waitsOk skiarearef10_bases.T6.2 skiarearef10_bases.B6 = true := by kernel_rfl
def skiarearef10_bases.T12 : Bool × List (List Nat × List Nat) := (true, [([], []), ([0], [0]), ([], []), ([1, 2], [1, 2]), ([3], [3]), ([], []), ([5], [5]), ([], []), ([7], [7]), ([6, 8], [6, 8]), ([9], [9]), ([4, 10], [4, 10])])
def skiarearef10_bases.B12 : List Nat := [0, 1, 0, 7, 15, 0, 32, 0, 128, 480, 992, 2047]
theorem skiarearef10_bases.tab12 : rtab .any (opsOf Try.f46 12) = skiarearef10_bases.T12 := by kernel_rfl
theorem skiarearef10_bases.bits12 : waitsOk skiarearef10_bases.T12.2 skiarearef10_bases.B12 = true := by kernel_rfl
set_option maxHeartbeats 8000000 in
set_option maxRecDepth 100000 in
theorem skiarearef10_bases.calls (k : Nat) (A0_0 : Option Addr) (c0_0 : Nat) (l0_0 : List (S62)) (A0_1 : Option Addr) (c0_1 : Nat) (l0_1 : List (S82)) (A0_2 : Option Addr) (c0_2 : Nat) (l0_2 : List (S44)) (A0_3 : Option Addr) (c0_3 : Nat) (l0_3 : List Int) (r : Int) (w : World) (hr0_0 : Kd.C k62 w A0_0 l0_0.length l0_0) (hc0_0 : l0_0.length ≤ c0_0) (hr0_1 : Kd.C k82 w A0_1 l0_1.length l0_1) (hc0_1 : l0_1.length ≤ c0_1) (hr0_2 : Kd.C k44 w A0_2 l0_2.length l0_2) (hc0_2 : l0_2.length ≤ c0_2) (hr0_3 : Kd.C (Kd.int .i64) w A0_3 l0_3.length l0_3) (hc0_3 : l0_3.length ≤ c0_3) (h : skiarearef10_bases.f k l0_0 l0_1 l0_2 l0_3 = some r) :
  Calls Try.prog 46 #[.agg #[.slice A0_0 l0_0.length c0_0, .slice A0_1 l0_1.length c0_1, .slice A0_2 l0_2.length c0_2, .slice A0_3 l0_3.length c0_3]] w fun e w' => e = .returned (.int .i64 r) ∧ Below w.heap.size w w' := by
 have hu38 := Try.underlying38
 have hu62 := Try.underlying62
 have HR0_0 := Aside0.mk hr0_0
 have HC0_0 := Aside0.mk hc0_0
 clear hr0_0 hc0_0
 have HR0_1 := Aside0.mk hr0_1
 have HC0_1 := Aside0.mk hc0_1
 clear hr0_1 hc0_1
 have HR0_2 := Aside0.mk hr0_2
 have HC0_2 := Aside0.mk hc0_2
 clear hr0_2 hc0_2
 have HR0_3 := Aside0.mk hr0_3
 have HC0_3 := Aside0.mk hc0_3
 clear hr0_3 hc0_3
 have HB := Aside0.mk (Below.refl w.heap.size w)
 have H : (if (l0_3.length : Int) = 0 then (some 8) else (skiarearef10_bases.l0 k 0 l0_0 l0_1 l0_2 l0_3)) = some r := h
 clear h
 by_cases c2 : (l0_3.length : Int) = 0
 ·rw [if_pos c2] at H
  have c2b0 : ((l0_3.length : Int) == 0) = true := beq_iff_eq.mpr c2
  have c2b1 : ((l0_3.length : Int) != 0) = false := bne_eq_false_iff_eq.mpr c2
  clear c2
  obtain rfl := Option.some.inj H
  go_enter Try.func46, Try.ntmps46
  go_wp2_with (first | ((with_reducible refine gate_dst (N := 1) rfl ?_); refine box_event ?hg (N := 1) ?hd (cs := #[.slice A0_0 l0_0.length c0_0, .slice A0_1 l0_1.length c0_1, .slice A0_2 l0_2.length c0_2, .slice A0_3 l0_3.length c0_3]) (t := 38) ?hr ?_; (case hd => rfl); (case hg => rfl); (case hr => first | (go_simp; done) | (go_simp; rfl)); intro gb251 hg w3 hbox hb; have n0_ := Aside0.mk (below_step bel_ hb); have n1_ := Aside0.mk (hbox); have n2_ := Aside0.mk (bz_ hg : w.heap.size ≤ gb251); have n3_ := Aside0.mk (bz_ hg : w.heap.size ≤ gb251); clear HB; have HB := n0_; have BK251 := n1_; have GW251 := n2_; have GE251 := n3_; clear n0_ n1_ n2_ n3_; clear hb hbox hg; have hcz4_0 := cz_ BK251 0; have hcz4_1 := cz_ BK251 1; have hcz4_2 := cz_ BK251 2; have hcz4_3 := cz_ BK251 3; have hfz4_0 := fz_ BK251 0; have hfz4_1 := fz_ BK251 1; have hfz4_2 := fz_ BK251 2; have hfz4_3 := fz_ BK251 3))
  go_ret
  exact ⟨by first | rfl | (simp [errW_none, errW_some] <;> rfl) | (simp [*, errW_none, errW_some] <;> rfl), by repeat (first | (with_reducible first | exact HB.out | apply below_alloc | apply pw_below_drewN | apply below_drew1 | refine below_set ?_ GE251.out) | exact HB.out)⟩
 ·rw [if_neg c2] at H
  have c2b0 : ((l0_3.length : Int) == 0) = false := beq_eq_false_iff_ne.mpr c2
  have c2b1 : ((l0_3.length : Int) != 0) = true := bne_iff_ne.mpr c2
  have c2b2 : ¬ (l0_3 = []) := fun h_ => c2 (by rw [h_]; rfl)
  have H' := Aside0.mk H
  clear H
  go_enter Try.func46, Try.ntmps46
  go_wp2_with (first | ((with_reducible refine gate_dst (N := 1) rfl ?_); refine box_event ?hg (N := 1) ?hd (cs := #[.slice A0_0 l0_0.length c0_0, .slice A0_1 l0_1.length c0_1, .slice A0_2 l0_2.length c0_2, .slice A0_3 l0_3.length c0_3]) (t := 38) ?hr ?_; (case hd => rfl); (case hg => rfl); (case hr => first | (go_simp; done) | (go_simp; rfl)); intro gb251 hg w5 hbox hb; have n0_ := Aside0.mk (below_step bel_ hb); have n1_ := Aside0.mk (hbox); have n2_ := Aside0.mk (bz_ hg : w.heap.size ≤ gb251); have n3_ := Aside0.mk (bz_ hg : w.heap.size ≤ gb251); clear HB; have HB := n0_; have BK251 := n1_; have GW251 := n2_; have GE251 := n3_; clear n0_ n1_ n2_ n3_; clear hb hbox hg; have hcz6_0 := cz_ BK251 0; have hcz6_1 := cz_ BK251 1; have hcz6_2 := cz_ BK251 2; have hcz6_3 := cz_ BK251 3; have hfz6_0 := fz_ BK251 0; have hfz6_1 := fz_ BK251 1; have hfz6_2 := fz_ BK251 2; have hfz6_3 := fz_ BK251 3))
  go_loopg [3] k (fun kq v3 w' => ∃ (x3_1 : Int), v3 = .int .i64 x3_1 ∧ Aside0 (skiarearef10_bases.l0 kq x3_1 l0_0 l0_1 l0_2 l0_3 = some r) ∧ Aside0 (kq ≤ k) ∧ Aside0 (w'.heap[gb251]? = some (.cells #[(.slice A0_0 l0_0.length c0_0), (.slice A0_1 l0_1.length c0_1), (.slice A0_2 l0_2.length c0_2), (.slice A0_3 l0_3.length c0_3)] 38 (0, 0))) ∧ Aside0 (Below w.heap.size w w'))
  case atStart => exact ⟨(0), (by first | rfl | (simp; done) | (simp [*]; done)), H', ⟨Nat.le_refl _⟩, ⟨by (with_reducible repeat (first | refine blk_drewN ?_ _ | refine blk_drew ?_ | refine blk_alloc ?_ _)); exact BK251.out⟩, ⟨by repeat (first | (with_reducible first | exact HB.out | apply below_alloc | apply pw_below_drewN | apply below_drew1 | refine below_set ?_ GE251.out) | exact HB.out)⟩⟩
  case round =>
   clear H'
   try clear c2
   try clear c2b0
   try clear c2b1
   try clear c2b2
   try clear p2
   try clear c4
   try clear hcz4_0
   try clear hcz4_1
   try clear hcz4_2
   try clear hcz4_3
   try clear hcz6_0
   try clear hcz6_1
   try clear hcz6_2
   try clear hcz6_3
   try clear hfz4_0
   try clear hfz4_1
   try clear hfz4_2
   try clear hfz4_3
   try clear hfz6_0
   try clear hfz6_1
   try clear hfz6_2
   try clear hfz6_3
   obtain ⟨x3_1, rfl, HA, HK1, BK251, HB⟩ := hrel
   cases gk with
   | zero => exact absurd HA.out (by simp [skiarearef10_bases.l0])
   | succ k1 =>
    have H := HA.out
    clear HA
    simp only [skiarearef10_bases.l0] at H
    by_cases c7 : x3_1 < (l0_3.length : Int)
    ·rw [if_pos c7] at H
     have c7b0 : decide (x3_1 < (l0_3.length : Int)) = true := decide_eq_true c7
     clear c7
     by_cases c8 : 0 ≤ x3_1
     ·rw [if_pos c8] at H
      have c8b0 : decide (0 ≤ x3_1) = true := decide_eq_true c8
      clear c8
      replace H := Option.bind_eq_some_iff.mp H
      obtain ⟨⟨t253, t254, t255⟩, A90, H⟩ := H
      replace H : (if t255 = true then (skiarearef10_bases.l0 k1 (wrap64 (x3_1 + 1)) l0_0 l0_1 l0_2 l0_3) else (some 8)) = some r := H
      have A9 := Aside0.mk A90
      clear A90
      by_cases c10 : t255 = true
      ·subst c10
       have H1 : (skiarearef10_bases.l0 k1 (wrap64 (x3_1 + 1)) l0_0 l0_1 l0_2 l0_3) = some r := by rw [if_pos rfl] at H; exact H
       clear H
       have H := H1
       clear H1
       have H' := Aside0.mk H
       clear H
       have hcz11_0 := cz_ BK251 0
       have hcz11_1 := cz_ BK251 1
       have hcz11_2 := cz_ BK251 2
       have hcz11_3 := cz_ BK251 3
       have hfz11_0 := fz_ BK251 0
       have hfz11_1 := fz_ BK251 1
       have hfz11_2 := fz_ BK251 2
       have hfz11_3 := fz_ BK251 3
       try go_wp2
       have n0_ := Aside0.mk (blk_drew BK251.out)
       have n1_ := Aside0.mk (below_drew1 HB.out)
       clear BK251
       clear HB
       have BK251 := n0_
       have HB := n1_
       clear n0_ n1_
       have p252 : 0 ≤ (x3_1 : Int) := od_
       have q252 : x3_1 < (l0_3.length : Int) := od_
       obtain ⟨ad252, e252, hx252_0⟩ := Kd.at_int HR0_3.out x3_1 p252 q252
       have hw252_0 := hx252_0
       cases e252
       replace hx252_0 := pc_ hx252_0
       replace p252 := eq_true p252
       replace q252 := eq_true q252
       refine start_ (n := 13) (S := fun w' => w'.cell? ⟨gb251, 0, none⟩ = some (.slice A0_0 l0_0.length c0_0) ∧ w'.cell? ⟨gb251, 1, none⟩ = some (.slice A0_1 l0_1.length c0_1) ∧ w'.cell? ⟨gb251, 2, none⟩ = some (.slice A0_2 l0_2.length c0_2) ∧ w'.cell? ⟨gb251, 3, none⟩ = some (.slice (some ad252) l0_3.length c0_3) ∧ w'.cell? (ad252.add (x3_1).toNat) = some (.int .i64 (rd l0_3 x3_1))) (ds := []) #[false, false, false, false, false, false, false, false, false, false, false, false, false] (by kernel_rfl) rfl rfl ⟨(blk_cell BK251.out 0).trans rfl, (blk_cell BK251.out 1).trans rfl, (blk_cell BK251.out 2).trans rfl, (blk_cell BK251.out 3).trans rfl, (pw_cell_below HB.out hw252_0)⟩ (fun hHeld => ?_); refine with_tabW skiarearef10_bases.tab6 skiarearef10_bases.bits6 (fun HT_ HW_ => ?_)
       generalize wr.drew = w12 at BK251 HB hx252_0 hHeld ⊢
       refine pn_ 1 (some 20) ?_
       refine pn_ 3 (some 22) ?_
       refine tk_ 0 (some 19) ?_ (hy := by rintro w' ⟨s0, s1, s2, s3, s4⟩; go_simp; with_reducible rfl)
       refine tk_ 2 (some 21) ?_ (hy := by rintro w' ⟨s0, s1, s2, s3, s4⟩; go_simp; with_reducible rfl)
       refine pn_ 4 (some 23) ?_
       refine tk_ 5 (some 24) ?_ (hy := by rintro w' ⟨s0, s1, s2, s3, s4⟩; go_simp; with_reducible rfl)
       refine join_ (σ := Nat) 2 #[true, true, true, true, true, true, true, true, true, true, true, false, false] (fun s_ => [(25, .tuple #[.agg #[.int .i64 t253, .int .i64 t254], .bool true]), (4, .pointer (some ⟨s_, 0, none⟩)), (18, .tuple #[.agg #[.int .i64 t253, .int .i64 t254], .bool true]), (26, .agg #[.int .i64 t253, .int .i64 t254]), (27, .bool true)]) (fun s_ w' => (w'.cell? ⟨gb251, 0, none⟩ = some (.slice A0_0 l0_0.length c0_0) ∧ w'.cell? ⟨gb251, 1, none⟩ = some (.slice A0_1 l0_1.length c0_1) ∧ w'.cell? ⟨gb251, 2, none⟩ = some (.slice A0_2 l0_2.length c0_2) ∧ w'.cell? ⟨gb251, 3, none⟩ = some (.slice (some ad252) l0_3.length c0_3) ∧ w'.cell? (ad252.add (x3_1).toNat) = some (.int .i64 (rd l0_3 x3_1))) ∧ (w'.heap[gb251]? = some (.cells #[.slice A0_0 l0_0.length c0_0, .slice A0_1 l0_1.length c0_1, .slice A0_2 l0_2.length c0_2, .slice (some ad252) l0_3.length c0_3] 38 (0, 0))) ∧ (w'.heap[s_]? = some (.cells #[.int .i64 0, .int .i64 0] 62 (0, 0))) ∧ (w.heap.size ≤ s_) ∧ (w.heap.size ≤ s_) ∧ (gb251 ≠ s_) ∧ (s_ ≠ gb251) ∧ (Below w.heap.size w w')) ?_ ?_
       rotate_left
       ·intro hCont
        refine two_ (i := 6) (j := 10) (Ni := some 25) (Nj := some 4) #[true, true, true, true, true, true, true, false, false, false, false, false, false] #[true, true, true, true, true, true, false, false, false, false, true, false, false] rfl rfl rfl rfl (two_of HT_.out (by kernel_rfl)) (by decide) (by decide) (fun K hK => ?_) (fun K hK => ?_)
        ·skip
         refine goes_ Try.func41 (by kernel_rfl) rfl #[.agg #[.slice A0_0 l0_0.length c0_0, .slice A0_1 l0_1.length c0_1, .slice A0_2 l0_2.length c0_2, .slice (some ad252) l0_3.length c0_3], .int .i64 (rd l0_3 x3_1)] (by rfl) rfl rfl (by (try simp only [List.map_toArray, List.map_cons, List.map_nil]); first | done | rfl | (simp only [List.length_drop, List.length_take]; rfl)) ?_
         with_reducible refine (skiarearef10_Node.calls k1 _ _ l0_0 _ _ l0_1 _ _ l0_2 _ _ l0_3 (rd l0_3 x3_1) t253 t254 true _ ?side1 ?side2 ?side3 ?side4 ?side5 ?side6 ?side7 ?side8 A9.out).mono ?_
         (case side1 => exact kC_ (Kd.C_below HR0_0.out HB.out))
         (case side2 => exact HC0_0.out)
         (case side3 => exact kC_ (Kd.C_below HR0_1.out HB.out))
         (case side4 => exact HC0_1.out)
         (case side5 => exact kC_ (Kd.C_below HR0_2.out HB.out))
         (case side6 => exact HC0_2.out)
         (case side7 => exact kC_ (Kd.C_below HR0_3.out HB.out))
         (case side8 => exact HC0_3.out)
         rintro e w13 ⟨rfl, hb⟩
         refine ⟨_, rfl, ?_⟩
         have n0_ := Aside0.mk (blk_below (g := gb251) (o := .cells #[.slice A0_0 l0_0.length c0_0, .slice A0_1 l0_1.length c0_1, .slice A0_2 l0_2.length c0_2, .slice (some ad252) l0_3.length c0_3] 38 (0, 0)) (by (with_reducible repeat (first | refine blk_drewN ?_ _ | refine blk_drew ?_ | refine blk_alloc ?_ _)); exact BK251.out) hb)
         have n1_ := Aside0.mk (below_step bel_ hb)
         clear BK251
         clear HB
         have BK251 := n0_
         have HB := n1_
         clear n0_ n1_
         (try clear hb)
         (try clear hb2)
         (try clear hk)
         (try clear hi)
         refine hK.out _ _ ⟨(blk_cell BK251.out 0).trans rfl, (blk_cell BK251.out 1).trans rfl, (blk_cell BK251.out 2).trans rfl, (blk_cell BK251.out 3).trans rfl, (pw_cell_below HB.out hw252_0)⟩ (fun hHeld => ?_)
         clear hK K
         refine norm_ (a' := ?_) ?_ ?_
         rotate_left
         ·show Act.put _ (some 25) _ = _
          simp only [Act.put, List.setIfInBounds_toArray, List.set_cons_zero, List.set_cons_succ, i64_w, i32_w]
          rfl
         refine pn_ 7 (some 18) ?_
         refine pn_ 8 (some 26) ?_
         refine pn_ 9 (some 27) ?_
         refine one_ (i := 10) (N := some 4) #[true, true, true, true, true, true, true, true, true, true, true, false, false] rfl rfl (one_of HT_.out (by kernel_rfl)) (by decide) (fun K hK => ?_)
         refine box_step ?hg (N := 4) ?hd (cs := #[.int .i64 0, .int .i64 0]) (t := 62) ?hr ?_; (case hd => rfl); (case hg => rfl); (case hr => first | (go_simp; done) | (go_simp; rfl))
         intro gb256 hg w14 hbox hb
         have n0_ := Aside0.mk (blk_below (g := gb251) (o := .cells #[.slice A0_0 l0_0.length c0_0, .slice A0_1 l0_1.length c0_1, .slice A0_2 l0_2.length c0_2, .slice (some ad252) l0_3.length c0_3] 38 (0, 0)) (by (with_reducible repeat (first | refine blk_drewN ?_ _ | refine blk_drew ?_ | refine blk_alloc ?_ _)); exact BK251.out) hb)
         have n1_ := Aside0.mk (below_step bel_ hb)
         have n2_ := Aside0.mk (hbox)
         have n3_ := Aside0.mk (bz_ hg : w.heap.size ≤ gb256)
         have n4_ := Aside0.mk (bz_ hg : w.heap.size ≤ gb256)
         have n5_ := Aside0.mk ((by rw [hg]; exact Nat.ne_of_lt (blk_lt (g := gb251) (o := .cells #[.slice A0_0 l0_0.length c0_0, .slice A0_1 l0_1.length c0_1, .slice A0_2 l0_2.length c0_2, .slice (some ad252) l0_3.length c0_3] 38 (0, 0)) (by (with_reducible repeat (first | refine blk_drewN ?_ _ | refine blk_drew ?_ | refine blk_alloc ?_ _)); exact BK251.out)) : gb251 ≠ gb256))
         have n6_ := Aside0.mk ((by rw [hg]; exact Nat.ne_of_gt (blk_lt (g := gb251) (o := .cells #[.slice A0_0 l0_0.length c0_0, .slice A0_1 l0_1.length c0_1, .slice A0_2 l0_2.length c0_2, .slice (some ad252) l0_3.length c0_3] 38 (0, 0)) (by (with_reducible repeat (first | refine blk_drewN ?_ _ | refine blk_drew ?_ | refine blk_alloc ?_ _)); exact BK251.out)) : gb256 ≠ gb251))
         clear BK251
         clear HB
         have BK251 := n0_
         have HB := n1_
         have BK256 := n2_
         have GW256 := n3_
         have GE256 := n4_
         have NB251_256 := n5_
         have NB256_251 := n6_
         clear n0_ n1_ n2_ n3_ n4_ n5_ n6_
         clear hb hbox hg
         refine hK.out _ _ ⟨(blk_cell BK251.out 0).trans rfl, (blk_cell BK251.out 1).trans rfl, (blk_cell BK251.out 2).trans rfl, (blk_cell BK251.out 3).trans rfl, (pw_cell_below HB.out hw252_0)⟩ (fun hHeld => ?_)
         clear hK K
         refine norm_ (a' := ?_) ?_ ?_
         rotate_left
         ·show Act.put _ (some 4) _ = _
          simp only [Act.put, List.setIfInBounds_toArray, List.set_cons_zero, List.set_cons_succ, i64_w, i32_w]
          rfl
         exact norm_ (by simp only [putAll, Act.put, List.setIfInBounds_toArray, List.set_cons_zero, List.set_cons_succ]) (hCont (gb256) _ ⟨hHeld, (by (with_reducible repeat (first | refine blk_drewN ?_ _ | refine blk_drew ?_ | refine blk_alloc ?_ _)); exact BK251.out), (by (with_reducible repeat (first | refine blk_drewN ?_ _ | refine blk_drew ?_ | refine blk_alloc ?_ _)); exact BK256.out), GW256.out, GE256.out, NB251_256.out, NB256_251.out, bel_⟩)
        ·skip
         refine box_step ?hg (N := 4) ?hd (cs := #[.int .i64 0, .int .i64 0]) (t := 62) ?hr ?_; (case hd => rfl); (case hg => rfl); (case hr => first | (go_simp; done) | (go_simp; rfl))
         intro gb256 hg w13 hbox hb
         have n0_ := Aside0.mk (blk_below (g := gb251) (o := .cells #[.slice A0_0 l0_0.length c0_0, .slice A0_1 l0_1.length c0_1, .slice A0_2 l0_2.length c0_2, .slice (some ad252) l0_3.length c0_3] 38 (0, 0)) (by (with_reducible repeat (first | refine blk_drewN ?_ _ | refine blk_drew ?_ | refine blk_alloc ?_ _)); exact BK251.out) hb)
         have n1_ := Aside0.mk (below_step bel_ hb)
         have n2_ := Aside0.mk (hbox)
         have n3_ := Aside0.mk (bz_ hg : w.heap.size ≤ gb256)
         have n4_ := Aside0.mk (bz_ hg : w.heap.size ≤ gb256)
         have n5_ := Aside0.mk ((by rw [hg]; exact Nat.ne_of_lt (blk_lt (g := gb251) (o := .cells #[.slice A0_0 l0_0.length c0_0, .slice A0_1 l0_1.length c0_1, .slice A0_2 l0_2.length c0_2, .slice (some ad252) l0_3.length c0_3] 38 (0, 0)) (by (with_reducible repeat (first | refine blk_drewN ?_ _ | refine blk_drew ?_ | refine blk_alloc ?_ _)); exact BK251.out)) : gb251 ≠ gb256))
         have n6_ := Aside0.mk ((by rw [hg]; exact Nat.ne_of_gt (blk_lt (g := gb251) (o := .cells #[.slice A0_0 l0_0.length c0_0, .slice A0_1 l0_1.length c0_1, .slice A0_2 l0_2.length c0_2, .slice (some ad252) l0_3.length c0_3] 38 (0, 0)) (by (with_reducible repeat (first | refine blk_drewN ?_ _ | refine blk_drew ?_ | refine blk_alloc ?_ _)); exact BK251.out)) : gb256 ≠ gb251))
         clear BK251
         clear HB
         have BK251 := n0_
         have HB := n1_
         have BK256 := n2_
         have GW256 := n3_
         have GE256 := n4_
         have NB251_256 := n5_
         have NB256_251 := n6_
         clear n0_ n1_ n2_ n3_ n4_ n5_ n6_
         clear hb hbox hg
         refine hK.out _ _ ⟨(blk_cell BK251.out 0).trans rfl, (blk_cell BK251.out 1).trans rfl, (blk_cell BK251.out 2).trans rfl, (blk_cell BK251.out 3).trans rfl, (pw_cell_below HB.out hw252_0)⟩ (fun hHeld => ?_)
         clear hK K
         refine norm_ (a' := ?_) ?_ ?_
         rotate_left
         ·show Act.put _ (some 4) _ = _
          simp only [Act.put, List.setIfInBounds_toArray, List.set_cons_zero, List.set_cons_succ, i64_w, i32_w]
          rfl
         refine one_ (i := 6) (N := some 25) #[true, true, true, true, true, true, true, false, false, false, true, false, false] rfl rfl (one_of HT_.out (by kernel_rfl)) (by decide) (fun K hK => ?_)
         refine goes_ Try.func41 (by kernel_rfl) rfl #[.agg #[.slice A0_0 l0_0.length c0_0, .slice A0_1 l0_1.length c0_1, .slice A0_2 l0_2.length c0_2, .slice (some ad252) l0_3.length c0_3], .int .i64 (rd l0_3 x3_1)] (by rfl) rfl rfl (by (try simp only [List.map_toArray, List.map_cons, List.map_nil]); first | done | rfl | (simp only [List.length_drop, List.length_take]; rfl)) ?_
         with_reducible refine (skiarearef10_Node.calls k1 _ _ l0_0 _ _ l0_1 _ _ l0_2 _ _ l0_3 (rd l0_3 x3_1) t253 t254 true _ ?side1 ?side2 ?side3 ?side4 ?side5 ?side6 ?side7 ?side8 A9.out).mono ?_
         (case side1 => exact kC_ (Kd.C_below HR0_0.out HB.out))
         (case side2 => exact HC0_0.out)
         (case side3 => exact kC_ (Kd.C_below HR0_1.out HB.out))
         (case side4 => exact HC0_1.out)
         (case side5 => exact kC_ (Kd.C_below HR0_2.out HB.out))
         (case side6 => exact HC0_2.out)
         (case side7 => exact kC_ (Kd.C_below HR0_3.out HB.out))
         (case side8 => exact HC0_3.out)
         rintro e w14 ⟨rfl, hb⟩
         refine ⟨_, rfl, ?_⟩
         have n0_ := Aside0.mk (blk_below (g := gb251) (o := .cells #[.slice A0_0 l0_0.length c0_0, .slice A0_1 l0_1.length c0_1, .slice A0_2 l0_2.length c0_2, .slice (some ad252) l0_3.length c0_3] 38 (0, 0)) (by (with_reducible repeat (first | refine blk_drewN ?_ _ | refine blk_drew ?_ | refine blk_alloc ?_ _)); exact BK251.out) hb)
         have n1_ := Aside0.mk (blk_below (g := gb256) (o := .cells #[.int .i64 0, .int .i64 0] 62 (0, 0)) (by (with_reducible repeat (first | refine blk_drewN ?_ _ | refine blk_drew ?_ | refine blk_alloc ?_ _)); exact BK256.out) hb)
         have n2_ := Aside0.mk (below_step bel_ hb)
         clear BK251
         clear BK256
         clear HB
         have BK251 := n0_
         have BK256 := n1_
         have HB := n2_
         clear n0_ n1_ n2_
         (try clear hb)
         (try clear hb2)
         (try clear hk)
         (try clear hi)
         refine hK.out _ _ ⟨(blk_cell BK251.out 0).trans rfl, (blk_cell BK251.out 1).trans rfl, (blk_cell BK251.out 2).trans rfl, (blk_cell BK251.out 3).trans rfl, (pw_cell_below HB.out hw252_0)⟩ (fun hHeld => ?_)
         clear hK K
         refine norm_ (a' := ?_) ?_ ?_
         rotate_left
         ·show Act.put _ (some 25) _ = _
          simp only [Act.put, List.setIfInBounds_toArray, List.set_cons_zero, List.set_cons_succ, i64_w, i32_w]
          rfl
         refine pn_ 7 (some 18) ?_
         refine pn_ 8 (some 26) ?_
         refine pn_ 9 (some 27) ?_
         exact norm_ (by simp only [putAll, Act.put, List.setIfInBounds_toArray, List.set_cons_zero, List.set_cons_succ]) (hCont (gb256) _ ⟨hHeld, (by (with_reducible repeat (first | refine blk_drewN ?_ _ | refine blk_drew ?_ | refine blk_alloc ?_ _)); exact BK251.out), (by (with_reducible repeat (first | refine blk_drewN ?_ _ | refine blk_drew ?_ | refine blk_alloc ?_ _)); exact BK256.out), GW256.out, GE256.out, NB251_256.out, NB256_251.out, bel_⟩)
       rintro gb256 w15 ⟨hS_, h0_, h1_, h2_, h3_, h4_, h5_, h6_⟩
       have n0_ : Aside0 (w15.heap[gb251]? = some (.cells #[.slice A0_0 l0_0.length c0_0, .slice A0_1 l0_1.length c0_1, .slice A0_2 l0_2.length c0_2, .slice (some ad252) l0_3.length c0_3] 38 (0, 0))) := ⟨h0_⟩
       have n1_ : Aside0 (w15.heap[gb256]? = some (.cells #[.int .i64 0, .int .i64 0] 62 (0, 0))) := ⟨h1_⟩
       have n2_ : Aside0 (w.heap.size ≤ gb256) := ⟨h2_⟩
       have n3_ : Aside0 (w.heap.size ≤ gb256) := ⟨h3_⟩
       have n4_ : Aside0 (gb251 ≠ gb256) := ⟨h4_⟩
       have n5_ : Aside0 (gb256 ≠ gb251) := ⟨h5_⟩
       have n6_ : Aside0 (Below w.heap.size w w15) := ⟨h6_⟩
       clear BK251
       clear HB
       clear h0_ h1_ h2_ h3_ h4_ h5_ h6_
       have BK251 := n0_
       have BK256 := n1_
       have GW256 := n2_
       have GE256 := n3_
       have NB251_256 := n4_
       have NB256_251 := n5_
       have HB := n6_
       clear n0_ n1_ n2_ n3_ n4_ n5_ n6_
       have hHeld : w15.cell? ⟨gb251, 0, none⟩ = some (.slice A0_0 l0_0.length c0_0) ∧ w15.cell? ⟨gb251, 1, none⟩ = some (.slice A0_1 l0_1.length c0_1) ∧ w15.cell? ⟨gb251, 2, none⟩ = some (.slice A0_2 l0_2.length c0_2) ∧ w15.cell? ⟨gb251, 3, none⟩ = some (.slice (some ad252) l0_3.length c0_3) ∧ w15.cell? (ad252.add (x3_1).toNat) = some (.int .i64 (rd l0_3 x3_1)) := hS_
       refine norm_ (a' := ?_) ?_ ?_
       rotate_left
       ·simp only [putAll, Act.put, List.setIfInBounds_toArray, List.set_cons_zero, List.set_cons_succ]
        rfl
       refine one_ (i := 11) (N := none) #[true, true, true, true, true, true, true, true, true, true, true, true, false] rfl rfl (one_of HT_.out (by kernel_rfl)) (by decide) (fun K hK => ?_)
       have hs16 : w15.cell? ⟨gb256, 0, none⟩ = some (.int .i64 0) := (blk_cell BK256.out 0).trans rfl
       have hfs16 := blk_frozen BK256.out 0
       have hns16_0 := NB251_256.out
       have hms16_0 := NB256_251.out
       have hs17 : w15.cell? ⟨gb256, 1, none⟩ = some (.int .i64 0) := (blk_cell BK256.out 1).trans rfl
       have hfs17 := blk_frozen BK256.out 1
       have hns17_0 := NB251_256.out
       have hms17_0 := NB256_251.out
       refine skip_ (w1 := ?_) (by rfl) rfl ?_ ?_
       rotate_left
       ·go_simp
        rfl
       refine hK.out _ _ ⟨((cell_far (p := ⟨gb256, _, none⟩) NB251_256.out _).trans (((cell_far (p := ⟨gb256, _, none⟩) NB251_256.out _).trans (hHeld.1)))), ((cell_far (p := ⟨gb256, _, none⟩) NB251_256.out _).trans (((cell_far (p := ⟨gb256, _, none⟩) NB251_256.out _).trans (hHeld.2.1)))), ((cell_far (p := ⟨gb256, _, none⟩) NB251_256.out _).trans (((cell_far (p := ⟨gb256, _, none⟩) NB251_256.out _).trans (hHeld.2.2.1)))), ((cell_far (p := ⟨gb256, _, none⟩) NB251_256.out _).trans (((cell_far (p := ⟨gb256, _, none⟩) NB251_256.out _).trans (hHeld.2.2.2.1)))), ((cell_far (p := ⟨gb256, _, none⟩) (by first | exact Nat.ne_of_lt (Nat.lt_of_lt_of_le (by have := World.block_lt_of_cell? _ _ hw252_0; first | rwa [add_block] at this | exact this) GW256.out) | (rw [add_block]; exact Nat.ne_of_lt (Nat.lt_of_lt_of_le (by have := World.block_lt_of_cell? _ _ hw252_0; first | rwa [add_block] at this | exact this) GW256.out)) | (show (Addr.add _ _).block ≠ _; rw [add_block]; exact Nat.ne_of_lt (Nat.lt_of_lt_of_le (by have := World.block_lt_of_cell? _ _ hw252_0; first | rwa [add_block] at this | exact this) GW256.out)) | (dsimp only; exact Nat.ne_of_lt (Nat.lt_of_lt_of_le (by have := World.block_lt_of_cell? _ _ hw252_0; first | rwa [add_block] at this | exact this) GW256.out))) _).trans (((cell_far (p := ⟨gb256, _, none⟩) (by first | exact Nat.ne_of_lt (Nat.lt_of_lt_of_le (by have := World.block_lt_of_cell? _ _ hw252_0; first | rwa [add_block] at this | exact this) GW256.out) | (rw [add_block]; exact Nat.ne_of_lt (Nat.lt_of_lt_of_le (by have := World.block_lt_of_cell? _ _ hw252_0; first | rwa [add_block] at this | exact this) GW256.out)) | (show (Addr.add _ _).block ≠ _; rw [add_block]; exact Nat.ne_of_lt (Nat.lt_of_lt_of_le (by have := World.block_lt_of_cell? _ _ hw252_0; first | rwa [add_block] at this | exact this) GW256.out)) | (dsimp only; exact Nat.ne_of_lt (Nat.lt_of_lt_of_le (by have := World.block_lt_of_cell? _ _ hw252_0; first | rwa [add_block] at this | exact this) GW256.out))) _).trans (hHeld.2.2.2.2))))⟩ (fun hHeld => ?_)
       clear hK K
       refine pn_ 12 (some 5) ?_
       refine done_ (done_of HT_.out (by kernel_rfl)) ?_
       try go_wp2
       go_roundg k1
       case measure => have := HK1.out; omega
       case rel => exact ⟨(wrap64 (x3_1 + 1)), (by first | rfl | (simp; done) | (simp [*]; done)), H', ⟨by have := HK1.out; omega⟩, ⟨by (with_reducible repeat (first | refine blk_drewN ?_ _ | refine blk_drew ?_ | refine blk_alloc ?_ _)); refine blk_far ?_ NB251_256.out _; (with_reducible repeat (first | refine blk_drewN ?_ _ | refine blk_drew ?_ | refine blk_alloc ?_ _)); refine blk_far ?_ NB251_256.out _; (with_reducible repeat (first | refine blk_drewN ?_ _ | refine blk_drew ?_ | refine blk_alloc ?_ _)); exact BK251.out⟩, ⟨by repeat (first | (with_reducible first | exact HB.out | apply below_alloc | apply pw_below_drewN | apply below_drew1 | refine below_set ?_ GE251.out | refine below_set ?_ GE256.out) | exact HB.out)⟩⟩
      ·replace c10 := Bool.eq_false_iff.mpr c10
       subst c10
       have H1 : (some 8) = some r := by rw [if_neg (show ¬ (false = true) by decide)] at H; exact H
       clear H
       have H := H1
       clear H1
       obtain rfl := Option.some.inj H
       have hcz18_0 := cz_ BK251 0
       have hcz18_1 := cz_ BK251 1
       have hcz18_2 := cz_ BK251 2
       have hcz18_3 := cz_ BK251 3
       have hfz18_0 := fz_ BK251 0
       have hfz18_1 := fz_ BK251 1
       have hfz18_2 := fz_ BK251 2
       have hfz18_3 := fz_ BK251 3
       try go_wp2
       have n0_ := Aside0.mk (blk_drew BK251.out)
       have n1_ := Aside0.mk (below_drew1 HB.out)
       clear BK251
       clear HB
       have BK251 := n0_
       have HB := n1_
       clear n0_ n1_
       have p252 : 0 ≤ (x3_1 : Int) := od_
       have q252 : x3_1 < (l0_3.length : Int) := od_
       obtain ⟨ad252, e252, hx252_0⟩ := Kd.at_int HR0_3.out x3_1 p252 q252
       have hw252_0 := hx252_0
       cases e252
       replace hx252_0 := pc_ hx252_0
       replace p252 := eq_true p252
       replace q252 := eq_true q252
       refine start_ (n := 13) (S := fun w' => w'.cell? ⟨gb251, 0, none⟩ = some (.slice A0_0 l0_0.length c0_0) ∧ w'.cell? ⟨gb251, 1, none⟩ = some (.slice A0_1 l0_1.length c0_1) ∧ w'.cell? ⟨gb251, 2, none⟩ = some (.slice A0_2 l0_2.length c0_2) ∧ w'.cell? ⟨gb251, 3, none⟩ = some (.slice (some ad252) l0_3.length c0_3) ∧ w'.cell? (ad252.add (x3_1).toNat) = some (.int .i64 (rd l0_3 x3_1))) (ds := []) #[false, false, false, false, false, false, false, false, false, false, false, false, false] (by kernel_rfl) rfl rfl ⟨(blk_cell BK251.out 0).trans rfl, (blk_cell BK251.out 1).trans rfl, (blk_cell BK251.out 2).trans rfl, (blk_cell BK251.out 3).trans rfl, (pw_cell_below HB.out hw252_0)⟩ (fun hHeld => ?_); refine with_tabW skiarearef10_bases.tab6 skiarearef10_bases.bits6 (fun HT_ HW_ => ?_)
       generalize wr.drew = w19 at BK251 HB hx252_0 hHeld ⊢
       refine pn_ 1 (some 20) ?_
       refine pn_ 3 (some 22) ?_
       refine tk_ 0 (some 19) ?_ (hy := by rintro w' ⟨s0, s1, s2, s3, s4⟩; go_simp; with_reducible rfl)
       refine tk_ 2 (some 21) ?_ (hy := by rintro w' ⟨s0, s1, s2, s3, s4⟩; go_simp; with_reducible rfl)
       refine pn_ 4 (some 23) ?_
       refine tk_ 5 (some 24) ?_ (hy := by rintro w' ⟨s0, s1, s2, s3, s4⟩; go_simp; with_reducible rfl)
       refine join_ (σ := Nat) 2 #[true, true, true, true, true, true, true, true, true, true, true, false, false] (fun s_ => [(25, .tuple #[.agg #[.int .i64 t253, .int .i64 t254], .bool false]), (4, .pointer (some ⟨s_, 0, none⟩)), (18, .tuple #[.agg #[.int .i64 t253, .int .i64 t254], .bool false]), (26, .agg #[.int .i64 t253, .int .i64 t254]), (27, .bool false)]) (fun s_ w' => (w'.cell? ⟨gb251, 0, none⟩ = some (.slice A0_0 l0_0.length c0_0) ∧ w'.cell? ⟨gb251, 1, none⟩ = some (.slice A0_1 l0_1.length c0_1) ∧ w'.cell? ⟨gb251, 2, none⟩ = some (.slice A0_2 l0_2.length c0_2) ∧ w'.cell? ⟨gb251, 3, none⟩ = some (.slice (some ad252) l0_3.length c0_3) ∧ w'.cell? (ad252.add (x3_1).toNat) = some (.int .i64 (rd l0_3 x3_1))) ∧ (w'.heap[gb251]? = some (.cells #[.slice A0_0 l0_0.length c0_0, .slice A0_1 l0_1.length c0_1, .slice A0_2 l0_2.length c0_2, .slice (some ad252) l0_3.length c0_3] 38 (0, 0))) ∧ (w'.heap[s_]? = some (.cells #[.int .i64 0, .int .i64 0] 62 (0, 0))) ∧ (w.heap.size ≤ s_) ∧ (w.heap.size ≤ s_) ∧ (gb251 ≠ s_) ∧ (s_ ≠ gb251) ∧ (Below w.heap.size w w')) ?_ ?_
       rotate_left
       ·intro hCont
        refine two_ (i := 6) (j := 10) (Ni := some 25) (Nj := some 4) #[true, true, true, true, true, true, true, false, false, false, false, false, false] #[true, true, true, true, true, true, false, false, false, false, true, false, false] rfl rfl rfl rfl (two_of HT_.out (by kernel_rfl)) (by decide) (by decide) (fun K hK => ?_) (fun K hK => ?_)
        ·skip
         refine goes_ Try.func41 (by kernel_rfl) rfl #[.agg #[.slice A0_0 l0_0.length c0_0, .slice A0_1 l0_1.length c0_1, .slice A0_2 l0_2.length c0_2, .slice (some ad252) l0_3.length c0_3], .int .i64 (rd l0_3 x3_1)] (by rfl) rfl rfl (by (try simp only [List.map_toArray, List.map_cons, List.map_nil]); first | done | rfl | (simp only [List.length_drop, List.length_take]; rfl)) ?_
         with_reducible refine (skiarearef10_Node.calls k1 _ _ l0_0 _ _ l0_1 _ _ l0_2 _ _ l0_3 (rd l0_3 x3_1) t253 t254 false _ ?side1 ?side2 ?side3 ?side4 ?side5 ?side6 ?side7 ?side8 A9.out).mono ?_
         (case side1 => exact kC_ (Kd.C_below HR0_0.out HB.out))
         (case side2 => exact HC0_0.out)
         (case side3 => exact kC_ (Kd.C_below HR0_1.out HB.out))
         (case side4 => exact HC0_1.out)
         (case side5 => exact kC_ (Kd.C_below HR0_2.out HB.out))
         (case side6 => exact HC0_2.out)
         (case side7 => exact kC_ (Kd.C_below HR0_3.out HB.out))
         (case side8 => exact HC0_3.out)
         rintro e w20 ⟨rfl, hb⟩
         refine ⟨_, rfl, ?_⟩
         have n0_ := Aside0.mk (blk_below (g := gb251) (o := .cells #[.slice A0_0 l0_0.length c0_0, .slice A0_1 l0_1.length c0_1, .slice A0_2 l0_2.length c0_2, .slice (some ad252) l0_3.length c0_3] 38 (0, 0)) (by (with_reducible repeat (first | refine blk_drewN ?_ _ | refine blk_drew ?_ | refine blk_alloc ?_ _)); exact BK251.out) hb)
         have n1_ := Aside0.mk (below_step bel_ hb)
         clear BK251
         clear HB
         have BK251 := n0_
         have HB := n1_
         clear n0_ n1_
         (try clear hb)
         (try clear hb2)
         (try clear hk)
         (try clear hi)
         refine hK.out _ _ ⟨(blk_cell BK251.out 0).trans rfl, (blk_cell BK251.out 1).trans rfl, (blk_cell BK251.out 2).trans rfl, (blk_cell BK251.out 3).trans rfl, (pw_cell_below HB.out hw252_0)⟩ (fun hHeld => ?_)
         clear hK K
         refine norm_ (a' := ?_) ?_ ?_
         rotate_left
         ·show Act.put _ (some 25) _ = _
          simp only [Act.put, List.setIfInBounds_toArray, List.set_cons_zero, List.set_cons_succ, i64_w, i32_w]
          rfl
         refine pn_ 7 (some 18) ?_
         refine pn_ 8 (some 26) ?_
         refine pn_ 9 (some 27) ?_
         refine one_ (i := 10) (N := some 4) #[true, true, true, true, true, true, true, true, true, true, true, false, false] rfl rfl (one_of HT_.out (by kernel_rfl)) (by decide) (fun K hK => ?_)
         refine box_step ?hg (N := 4) ?hd (cs := #[.int .i64 0, .int .i64 0]) (t := 62) ?hr ?_; (case hd => rfl); (case hg => rfl); (case hr => first | (go_simp; done) | (go_simp; rfl))
         intro gb256 hg w21 hbox hb
         have n0_ := Aside0.mk (blk_below (g := gb251) (o := .cells #[.slice A0_0 l0_0.length c0_0, .slice A0_1 l0_1.length c0_1, .slice A0_2 l0_2.length c0_2, .slice (some ad252) l0_3.length c0_3] 38 (0, 0)) (by (with_reducible repeat (first | refine blk_drewN ?_ _ | refine blk_drew ?_ | refine blk_alloc ?_ _)); exact BK251.out) hb)
         have n1_ := Aside0.mk (below_step bel_ hb)
         have n2_ := Aside0.mk (hbox)
         have n3_ := Aside0.mk (bz_ hg : w.heap.size ≤ gb256)
         have n4_ := Aside0.mk (bz_ hg : w.heap.size ≤ gb256)
         have n5_ := Aside0.mk ((by rw [hg]; exact Nat.ne_of_lt (blk_lt (g := gb251) (o := .cells #[.slice A0_0 l0_0.length c0_0, .slice A0_1 l0_1.length c0_1, .slice A0_2 l0_2.length c0_2, .slice (some ad252) l0_3.length c0_3] 38 (0, 0)) (by (with_reducible repeat (first | refine blk_drewN ?_ _ | refine blk_drew ?_ | refine blk_alloc ?_ _)); exact BK251.out)) : gb251 ≠ gb256))
         have n6_ := Aside0.mk ((by rw [hg]; exact Nat.ne_of_gt (blk_lt (g := gb251) (o := .cells #[.slice A0_0 l0_0.length c0_0, .slice A0_1 l0_1.length c0_1, .slice A0_2 l0_2.length c0_2, .slice (some ad252) l0_3.length c0_3] 38 (0, 0)) (by (with_reducible repeat (first | refine blk_drewN ?_ _ | refine blk_drew ?_ | refine blk_alloc ?_ _)); exact BK251.out)) : gb256 ≠ gb251))
         clear BK251
         clear HB
         have BK251 := n0_
         have HB := n1_
         have BK256 := n2_
         have GW256 := n3_
         have GE256 := n4_
         have NB251_256 := n5_
         have NB256_251 := n6_
         clear n0_ n1_ n2_ n3_ n4_ n5_ n6_
         clear hb hbox hg
         refine hK.out _ _ ⟨(blk_cell BK251.out 0).trans rfl, (blk_cell BK251.out 1).trans rfl, (blk_cell BK251.out 2).trans rfl, (blk_cell BK251.out 3).trans rfl, (pw_cell_below HB.out hw252_0)⟩ (fun hHeld => ?_)
         clear hK K
         refine norm_ (a' := ?_) ?_ ?_
         rotate_left
         ·show Act.put _ (some 4) _ = _
          simp only [Act.put, List.setIfInBounds_toArray, List.set_cons_zero, List.set_cons_succ, i64_w, i32_w]
          rfl
         exact norm_ (by simp only [putAll, Act.put, List.setIfInBounds_toArray, List.set_cons_zero, List.set_cons_succ]) (hCont (gb256) _ ⟨hHeld, (by (with_reducible repeat (first | refine blk_drewN ?_ _ | refine blk_drew ?_ | refine blk_alloc ?_ _)); exact BK251.out), (by (with_reducible repeat (first | refine blk_drewN ?_ _ | refine blk_drew ?_ | refine blk_alloc ?_ _)); exact BK256.out), GW256.out, GE256.out, NB251_256.out, NB256_251.out, bel_⟩)
        ·skip
         refine box_step ?hg (N := 4) ?hd (cs := #[.int .i64 0, .int .i64 0]) (t := 62) ?hr ?_; (case hd => rfl); (case hg => rfl); (case hr => first | (go_simp; done) | (go_simp; rfl))
         intro gb256 hg w20 hbox hb
         have n0_ := Aside0.mk (blk_below (g := gb251) (o := .cells #[.slice A0_0 l0_0.length c0_0, .slice A0_1 l0_1.length c0_1, .slice A0_2 l0_2.length c0_2, .slice (some ad252) l0_3.length c0_3] 38 (0, 0)) (by (with_reducible repeat (first | refine blk_drewN ?_ _ | refine blk_drew ?_ | refine blk_alloc ?_ _)); exact BK251.out) hb)
         have n1_ := Aside0.mk (below_step bel_ hb)
         have n2_ := Aside0.mk (hbox)
         have n3_ := Aside0.mk (bz_ hg : w.heap.size ≤ gb256)
         have n4_ := Aside0.mk (bz_ hg : w.heap.size ≤ gb256)
         have n5_ := Aside0.mk ((by rw [hg]; exact Nat.ne_of_lt (blk_lt (g := gb251) (o := .cells #[.slice A0_0 l0_0.length c0_0, .slice A0_1 l0_1.length c0_1, .slice A0_2 l0_2.length c0_2, .slice (some ad252) l0_3.length c0_3] 38 (0, 0)) (by (with_reducible repeat (first | refine blk_drewN ?_ _ | refine blk_drew ?_ | refine blk_alloc ?_ _)); exact BK251.out)) : gb251 ≠ gb256))
         have n6_ := Aside0.mk ((by rw [hg]; exact Nat.ne_of_gt (blk_lt (g := gb251) (o := .cells #[.slice A0_0 l0_0.length c0_0, .slice A0_1 l0_1.length c0_1, .slice A0_2 l0_2.length c0_2, .slice (some ad252) l0_3.length c0_3] 38 (0, 0)) (by (with_reducible repeat (first | refine blk_drewN ?_ _ | refine blk_drew ?_ | refine blk_alloc ?_ _)); exact BK251.out)) : gb256 ≠ gb251))
         clear BK251
         clear HB
         have BK251 := n0_
         have HB := n1_
         have BK256 := n2_
         have GW256 := n3_
         have GE256 := n4_
         have NB251_256 := n5_
         have NB256_251 := n6_
         clear n0_ n1_ n2_ n3_ n4_ n5_ n6_
         clear hb hbox hg
         refine hK.out _ _ ⟨(blk_cell BK251.out 0).trans rfl, (blk_cell BK251.out 1).trans rfl, (blk_cell BK251.out 2).trans rfl, (blk_cell BK251.out 3).trans rfl, (pw_cell_below HB.out hw252_0)⟩ (fun hHeld => ?_)
         clear hK K
         refine norm_ (a' := ?_) ?_ ?_
         rotate_left
         ·show Act.put _ (some 4) _ = _
          simp only [Act.put, List.setIfInBounds_toArray, List.set_cons_zero, List.set_cons_succ, i64_w, i32_w]
          rfl
         refine one_ (i := 6) (N := some 25) #[true, true, true, true, true, true, true, false, false, false, true, false, false] rfl rfl (one_of HT_.out (by kernel_rfl)) (by decide) (fun K hK => ?_)
         refine goes_ Try.func41 (by kernel_rfl) rfl #[.agg #[.slice A0_0 l0_0.length c0_0, .slice A0_1 l0_1.length c0_1, .slice A0_2 l0_2.length c0_2, .slice (some ad252) l0_3.length c0_3], .int .i64 (rd l0_3 x3_1)] (by rfl) rfl rfl (by (try simp only [List.map_toArray, List.map_cons, List.map_nil]); first | done | rfl | (simp only [List.length_drop, List.length_take]; rfl)) ?_
         with_reducible refine (skiarearef10_Node.calls k1 _ _ l0_0 _ _ l0_1 _ _ l0_2 _ _ l0_3 (rd l0_3 x3_1) t253 t254 false _ ?side1 ?side2 ?side3 ?side4 ?side5 ?side6 ?side7 ?side8 A9.out).mono ?_
         (case side1 => exact kC_ (Kd.C_below HR0_0.out HB.out))
         (case side2 => exact HC0_0.out)
         (case side3 => exact kC_ (Kd.C_below HR0_1.out HB.out))
         (case side4 => exact HC0_1.out)
         (case side5 => exact kC_ (Kd.C_below HR0_2.out HB.out))
         (case side6 => exact HC0_2.out)
         (case side7 => exact kC_ (Kd.C_below HR0_3.out HB.out))
         (case side8 => exact HC0_3.out)
         rintro e w21 ⟨rfl, hb⟩
         refine ⟨_, rfl, ?_⟩
         have n0_ := Aside0.mk (blk_below (g := gb251) (o := .cells #[.slice A0_0 l0_0.length c0_0, .slice A0_1 l0_1.length c0_1, .slice A0_2 l0_2.length c0_2, .slice (some ad252) l0_3.length c0_3] 38 (0, 0)) (by (with_reducible repeat (first | refine blk_drewN ?_ _ | refine blk_drew ?_ | refine blk_alloc ?_ _)); exact BK251.out) hb)
         have n1_ := Aside0.mk (blk_below (g := gb256) (o := .cells #[.int .i64 0, .int .i64 0] 62 (0, 0)) (by (with_reducible repeat (first | refine blk_drewN ?_ _ | refine blk_drew ?_ | refine blk_alloc ?_ _)); exact BK256.out) hb)
         have n2_ := Aside0.mk (below_step bel_ hb)
         clear BK251
         clear BK256
         clear HB
         have BK251 := n0_
         have BK256 := n1_
         have HB := n2_
         clear n0_ n1_ n2_
         (try clear hb)
         (try clear hb2)
         (try clear hk)
         (try clear hi)
         refine hK.out _ _ ⟨(blk_cell BK251.out 0).trans rfl, (blk_cell BK251.out 1).trans rfl, (blk_cell BK251.out 2).trans rfl, (blk_cell BK251.out 3).trans rfl, (pw_cell_below HB.out hw252_0)⟩ (fun hHeld => ?_)
         clear hK K
         refine norm_ (a' := ?_) ?_ ?_
         rotate_left
         ·show Act.put _ (some 25) _ = _
          simp only [Act.put, List.setIfInBounds_toArray, List.set_cons_zero, List.set_cons_succ, i64_w, i32_w]
          rfl
         refine pn_ 7 (some 18) ?_
         refine pn_ 8 (some 26) ?_
         refine pn_ 9 (some 27) ?_
         exact norm_ (by simp only [putAll, Act.put, List.setIfInBounds_toArray, List.set_cons_zero, List.set_cons_succ]) (hCont (gb256) _ ⟨hHeld, (by (with_reducible repeat (first | refine blk_drewN ?_ _ | refine blk_drew ?_ | refine blk_alloc ?_ _)); exact BK251.out), (by (with_reducible repeat (first | refine blk_drewN ?_ _ | refine blk_drew ?_ | refine blk_alloc ?_ _)); exact BK256.out), GW256.out, GE256.out, NB251_256.out, NB256_251.out, bel_⟩)
       rintro gb256 w22 ⟨hS_, h0_, h1_, h2_, h3_, h4_, h5_, h6_⟩
       have n0_ : Aside0 (w22.heap[gb251]? = some (.cells #[.slice A0_0 l0_0.length c0_0, .slice A0_1 l0_1.length c0_1, .slice A0_2 l0_2.length c0_2, .slice (some ad252) l0_3.length c0_3] 38 (0, 0))) := ⟨h0_⟩
       have n1_ : Aside0 (w22.heap[gb256]? = some (.cells #[.int .i64 0, .int .i64 0] 62 (0, 0))) := ⟨h1_⟩
       have n2_ : Aside0 (w.heap.size ≤ gb256) := ⟨h2_⟩
       have n3_ : Aside0 (w.heap.size ≤ gb256) := ⟨h3_⟩
       have n4_ : Aside0 (gb251 ≠ gb256) := ⟨h4_⟩
       have n5_ : Aside0 (gb256 ≠ gb251) := ⟨h5_⟩
       have n6_ : Aside0 (Below w.heap.size w w22) := ⟨h6_⟩
       clear BK251
       clear HB
       clear h0_ h1_ h2_ h3_ h4_ h5_ h6_
       have BK251 := n0_
       have BK256 := n1_
       have GW256 := n2_
       have GE256 := n3_
       have NB251_256 := n4_
       have NB256_251 := n5_
       have HB := n6_
       clear n0_ n1_ n2_ n3_ n4_ n5_ n6_
       have hHeld : w22.cell? ⟨gb251, 0, none⟩ = some (.slice A0_0 l0_0.length c0_0) ∧ w22.cell? ⟨gb251, 1, none⟩ = some (.slice A0_1 l0_1.length c0_1) ∧ w22.cell? ⟨gb251, 2, none⟩ = some (.slice A0_2 l0_2.length c0_2) ∧ w22.cell? ⟨gb251, 3, none⟩ = some (.slice (some ad252) l0_3.length c0_3) ∧ w22.cell? (ad252.add (x3_1).toNat) = some (.int .i64 (rd l0_3 x3_1)) := hS_
       refine norm_ (a' := ?_) ?_ ?_
       rotate_left
       ·simp only [putAll, Act.put, List.setIfInBounds_toArray, List.set_cons_zero, List.set_cons_succ]
        rfl
       refine one_ (i := 11) (N := none) #[true, true, true, true, true, true, true, true, true, true, true, true, false] rfl rfl (one_of HT_.out (by kernel_rfl)) (by decide) (fun K hK => ?_)
       have hs23 : w22.cell? ⟨gb256, 0, none⟩ = some (.int .i64 0) := (blk_cell BK256.out 0).trans rfl
       have hfs23 := blk_frozen BK256.out 0
       have hns23_0 := NB251_256.out
       have hms23_0 := NB256_251.out
       have hs24 : w22.cell? ⟨gb256, 1, none⟩ = some (.int .i64 0) := (blk_cell BK256.out 1).trans rfl
       have hfs24 := blk_frozen BK256.out 1
       have hns24_0 := NB251_256.out
       have hms24_0 := NB256_251.out
       refine skip_ (w1 := ?_) (by rfl) rfl ?_ ?_
       rotate_left
       ·go_simp
        rfl
       refine hK.out _ _ ⟨((cell_far (p := ⟨gb256, _, none⟩) NB251_256.out _).trans (((cell_far (p := ⟨gb256, _, none⟩) NB251_256.out _).trans (hHeld.1)))), ((cell_far (p := ⟨gb256, _, none⟩) NB251_256.out _).trans (((cell_far (p := ⟨gb256, _, none⟩) NB251_256.out _).trans (hHeld.2.1)))), ((cell_far (p := ⟨gb256, _, none⟩) NB251_256.out _).trans (((cell_far (p := ⟨gb256, _, none⟩) NB251_256.out _).trans (hHeld.2.2.1)))), ((cell_far (p := ⟨gb256, _, none⟩) NB251_256.out _).trans (((cell_far (p := ⟨gb256, _, none⟩) NB251_256.out _).trans (hHeld.2.2.2.1)))), ((cell_far (p := ⟨gb256, _, none⟩) (by first | exact Nat.ne_of_lt (Nat.lt_of_lt_of_le (by have := World.block_lt_of_cell? _ _ hw252_0; first | rwa [add_block] at this | exact this) GW256.out) | (rw [add_block]; exact Nat.ne_of_lt (Nat.lt_of_lt_of_le (by have := World.block_lt_of_cell? _ _ hw252_0; first | rwa [add_block] at this | exact this) GW256.out)) | (show (Addr.add _ _).block ≠ _; rw [add_block]; exact Nat.ne_of_lt (Nat.lt_of_lt_of_le (by have := World.block_lt_of_cell? _ _ hw252_0; first | rwa [add_block] at this | exact this) GW256.out)) | (dsimp only; exact Nat.ne_of_lt (Nat.lt_of_lt_of_le (by have := World.block_lt_of_cell? _ _ hw252_0; first | rwa [add_block] at this | exact this) GW256.out))) _).trans (((cell_far (p := ⟨gb256, _, none⟩) (by first | exact Nat.ne_of_lt (Nat.lt_of_lt_of_le (by have := World.block_lt_of_cell? _ _ hw252_0; first | rwa [add_block] at this | exact this) GW256.out) | (rw [add_block]; exact Nat.ne_of_lt (Nat.lt_of_lt_of_le (by have := World.block_lt_of_cell? _ _ hw252_0; first | rwa [add_block] at this | exact this) GW256.out)) | (show (Addr.add _ _).block ≠ _; rw [add_block]; exact Nat.ne_of_lt (Nat.lt_of_lt_of_le (by have := World.block_lt_of_cell? _ _ hw252_0; first | rwa [add_block] at this | exact this) GW256.out)) | (dsimp only; exact Nat.ne_of_lt (Nat.lt_of_lt_of_le (by have := World.block_lt_of_cell? _ _ hw252_0; first | rwa [add_block] at this | exact this) GW256.out))) _).trans (hHeld.2.2.2.2))))⟩ (fun hHeld => ?_)
       clear hK K
       refine pn_ 12 (some 5) ?_
       refine done_ (done_of HT_.out (by kernel_rfl)) ?_
       try go_wp2
       go_ret
       exact ⟨by first | rfl | (simp [errW_none, errW_some] <;> rfl) | (simp [*, errW_none, errW_some] <;> rfl), by repeat (first | (with_reducible first | exact HB.out | apply below_alloc | apply pw_below_drewN | apply below_drew1 | refine below_set ?_ GE251.out | refine below_set ?_ GE256.out) | exact HB.out)⟩
     ·rw [if_neg c8] at H
      exact absurd H (by simp)
    ·rw [if_neg c7] at H
     have c7b0 : decide (x3_1 < (l0_3.length : Int)) = false := decide_eq_false c7
     clear c7
     have H' := Aside0.mk H
     clear H
     have hcz25_0 := cz_ BK251 0
     have hcz25_1 := cz_ BK251 1
     have hcz25_2 := cz_ BK251 2
     have hcz25_3 := cz_ BK251 3
     have hfz25_0 := fz_ BK251 0
     have hfz25_1 := fz_ BK251 1
     have hfz25_2 := fz_ BK251 2
     have hfz25_3 := fz_ BK251 3
     go_wp2
     go_loopg [6] k1 (fun kq v6 w' => ∃ (x6_2 : Int), v6 = .int .i64 x6_2 ∧ Aside0 (skiarearef10_bases.l1 kq x6_2 l0_0 l0_1 l0_2 l0_3 = some r) ∧ Aside0 (kq ≤ k1) ∧ Aside0 (w'.heap[gb251]? = some (.cells #[(.slice A0_0 l0_0.length c0_0), (.slice A0_1 l0_1.length c0_1), (.slice A0_2 l0_2.length c0_2), (.slice A0_3 l0_3.length c0_3)] 38 (0, 0))) ∧ Aside0 (Below w.heap.size w w'))
     case atStart => exact ⟨(1), (by first | rfl | (simp; done) | (simp [*]; done)), H', ⟨Nat.le_refl _⟩, ⟨by (with_reducible repeat (first | refine blk_drewN ?_ _ | refine blk_drew ?_ | refine blk_alloc ?_ _)); exact BK251.out⟩, ⟨by repeat (first | (with_reducible first | exact HB.out | apply below_alloc | apply pw_below_drewN | apply below_drew1 | refine below_set ?_ GE251.out) | exact HB.out)⟩⟩
     case round =>
      clear H'
      try clear c1
      try clear p2
      try clear q2
      try clear hx2
      try clear c4
      try clear p6
      try clear c7
      try clear c7b0
      try clear c8
      try clear c10
      try clear p25
      try clear q25
      try clear hx25
      try clear hcz18_0
      try clear hcz18_1
      try clear hcz18_2
      try clear hcz18_3
      try clear hcz25_0
      try clear hcz25_1
      try clear hcz25_2
      try clear hcz25_3
      try clear hfz18_0
      try clear hfz18_1
      try clear hfz18_2
      try clear hfz18_3
      try clear hfz25_0
      try clear hfz25_1
      try clear hfz25_2
      try clear hfz25_3
      try clear hx252_0
      try clear p252
      try clear q252
      obtain ⟨x6_2, rfl, HA, HK2, BK251, HB⟩ := hrel
      cases gk with
      | zero => exact absurd HA.out (by simp [skiarearef10_bases.l1])
      | succ k2 =>
       have H := HA.out
       clear HA
       simp only [skiarearef10_bases.l1] at H
       by_cases c26 : x6_2 < (l0_3.length : Int)
       ·rw [if_pos c26] at H
        have c26b0 : decide (x6_2 < (l0_3.length : Int)) = true := decide_eq_true c26
        clear c26
        by_cases c27 : 0 ≤ x6_2
        ·rw [if_pos c27] at H
         have c27b0 : decide (0 ≤ x6_2) = true := decide_eq_true c27
         clear c27
         obtain ⟨ji28, hji28⟩ : ∃ j_ : Int, (wrap64 (x6_2 - 1)) = j_ := ⟨_, rfl⟩
         replace H : (if 0 ≤ (ji28) then (if (ji28) < (l0_3.length : Int) then (if (rd l0_3 x6_2) ≤ (rd l0_3 (ji28)) then (some 7) else (skiarearef10_bases.l1 k2 (wrap64 (x6_2 + 1)) l0_0 l0_1 l0_2 l0_3)) else (none)) else (none)) = some r := by first | (rw [hji28] at H; exact H) | (simp only [hji28] at H ⊢; exact H)
         have hji28w : (IntKind.i64.wrap (x6_2 - 1)) = ji28 := (i64_w _).trans hji28
         by_cases c29 : 0 ≤ (ji28)
         ·rw [if_pos c29] at H
          have c29b0 : decide (0 ≤ (ji28)) = true := decide_eq_true c29
          clear c29
          by_cases c30 : (ji28) < (l0_3.length : Int)
          ·rw [if_pos c30] at H
           have c30b0 : decide ((ji28) < (l0_3.length : Int)) = true := decide_eq_true c30
           clear c30
           by_cases c31 : (rd l0_3 x6_2) ≤ (rd l0_3 (ji28))
           ·rw [if_pos c31] at H
            have c31b0 : decide ((rd l0_3 x6_2) ≤ (rd l0_3 (ji28))) = true := decide_eq_true c31
            clear c31
            obtain rfl := Option.some.inj H
            have hcz32_0 := cz_ BK251 0
            have hcz32_1 := cz_ BK251 1
            have hcz32_2 := cz_ BK251 2
            have hcz32_3 := cz_ BK251 3
            have hfz32_0 := fz_ BK251 0
            have hfz32_1 := fz_ BK251 1
            have hfz32_2 := fz_ BK251 2
            have hfz32_3 := fz_ BK251 3
            try go_wp2
            have n0_ := Aside0.mk (blk_drew BK251.out)
            have n1_ := Aside0.mk (below_drew1 HB.out)
            clear BK251
            clear HB
            have BK251 := n0_
            have HB := n1_
            clear n0_ n1_
            have p257 : 0 ≤ (x6_2 : Int) := od_
            have q257 : x6_2 < (l0_3.length : Int) := od_
            obtain ⟨ad257, e257, hx257_0⟩ := Kd.at_int HR0_3.out x6_2 p257 q257
            have hw257_0 := hx257_0
            cases e257
            replace hx257_0 := pc_ hx257_0
            replace p257 := eq_true p257
            replace q257 := eq_true q257
            have p258 : 0 ≤ ((ji28) : Int) := od_
            have q258 : (ji28) < (l0_3.length : Int) := od_
            obtain ⟨ad258, e258, hx258_0⟩ := Kd.at_int HR0_3.out (ji28) p258 q258
            have hw258_0 := hx258_0
            obtain rfl : ad257 = ad258 := (by injection e258)
            replace hx258_0 := pc_ hx258_0
            replace p258 := eq_true p258
            replace q258 := eq_true q258
            refine start_ (n := 12) (S := fun w' => w'.cell? ⟨gb251, 0, none⟩ = some (.slice A0_0 l0_0.length c0_0) ∧ w'.cell? ⟨gb251, 1, none⟩ = some (.slice A0_1 l0_1.length c0_1) ∧ w'.cell? ⟨gb251, 2, none⟩ = some (.slice A0_2 l0_2.length c0_2) ∧ w'.cell? ⟨gb251, 3, none⟩ = some (.slice (some ad257) l0_3.length c0_3) ∧ w'.cell? (ad257.add (x6_2).toNat) = some (.int .i64 (rd l0_3 x6_2)) ∧ w'.cell? (ad257.add ((ji28)).toNat) = some (.int .i64 (rd l0_3 (ji28)))) (ds := []) #[false, false, false, false, false, false, false, false, false, false, false, false] (by kernel_rfl) rfl rfl ⟨(blk_cell BK251.out 0).trans rfl, (blk_cell BK251.out 1).trans rfl, (blk_cell BK251.out 2).trans rfl, (blk_cell BK251.out 3).trans rfl, (pw_cell_below HB.out hw257_0), (pw_cell_below HB.out hw258_0)⟩ (fun hHeld => ?_); refine with_tabW skiarearef10_bases.tab12 skiarearef10_bases.bits12 (fun HT_ HW_ => ?_)
            generalize wr.drew = w33 at BK251 HB hx257_0 hx258_0 hHeld ⊢
            refine pn_ 0 (some 37) ?_
            refine pn_ 2 (some 39) ?_
            refine pn_ 5 (some 42) ?_
            refine pn_ 7 (some 44) ?_
            refine pn_ 8 (some 45) ?_
            refine tk_ 1 (some 38) ?_ (hy := by rintro w' ⟨s0, s1, s2, s3, s4, s5⟩; go_simp; with_reducible rfl)
            refine pn_ 3 (some 40) ?_
            refine tk_ 4 (some 41) ?_ (hy := by rintro w' ⟨s0, s1, s2, s3, s4, s5⟩; go_simp; with_reducible rfl)
            refine tk_ 6 (some 43) ?_ (hy := by rintro w' ⟨s0, s1, s2, s3, s4, s5⟩; go_simp; with_reducible rfl)
            refine pn_ 9 (some 46) ?_
            refine tk_ 10 (some 47) ?_ (hy := by rintro w' ⟨s0, s1, s2, s3, s4, s5⟩; go_simp; with_reducible rfl)
            refine pn_ 11 (some 48) ?_
            refine done_ (done_of HT_.out (by kernel_rfl)) ?_
            try go_wp2
            go_ret
            exact ⟨by first | rfl | (simp [errW_none, errW_some] <;> rfl) | (simp only [← hji28]; first | rfl | (simp [errW_none, errW_some] <;> rfl)) | (simp [*, errW_none, errW_some] <;> rfl), by repeat (first | (with_reducible first | exact HB.out | apply below_alloc | apply pw_below_drewN | apply below_drew1 | refine below_set ?_ GE251.out) | exact HB.out)⟩
           ·rw [if_neg c31] at H
            have c31b0 : decide ((rd l0_3 x6_2) ≤ (rd l0_3 (ji28))) = false := decide_eq_false c31
            clear c31
            have H' := Aside0.mk H
            clear H
            have hcz34_0 := cz_ BK251 0
            have hcz34_1 := cz_ BK251 1
            have hcz34_2 := cz_ BK251 2
            have hcz34_3 := cz_ BK251 3
            have hfz34_0 := fz_ BK251 0
            have hfz34_1 := fz_ BK251 1
            have hfz34_2 := fz_ BK251 2
            have hfz34_3 := fz_ BK251 3
            try go_wp2
            have n0_ := Aside0.mk (blk_drew BK251.out)
            have n1_ := Aside0.mk (below_drew1 HB.out)
            clear BK251
            clear HB
            have BK251 := n0_
            have HB := n1_
            clear n0_ n1_
            have p257 : 0 ≤ (x6_2 : Int) := od_
            have q257 : x6_2 < (l0_3.length : Int) := od_
            obtain ⟨ad257, e257, hx257_0⟩ := Kd.at_int HR0_3.out x6_2 p257 q257
            have hw257_0 := hx257_0
            cases e257
            replace hx257_0 := pc_ hx257_0
            replace p257 := eq_true p257
            replace q257 := eq_true q257
            have p258 : 0 ≤ ((ji28) : Int) := od_
            have q258 : (ji28) < (l0_3.length : Int) := od_
            obtain ⟨ad258, e258, hx258_0⟩ := Kd.at_int HR0_3.out (ji28) p258 q258
            have hw258_0 := hx258_0
            obtain rfl : ad257 = ad258 := (by injection e258)
            replace hx258_0 := pc_ hx258_0
            replace p258 := eq_true p258
            replace q258 := eq_true q258
            refine start_ (n := 12) (S := fun w' => w'.cell? ⟨gb251, 0, none⟩ = some (.slice A0_0 l0_0.length c0_0) ∧ w'.cell? ⟨gb251, 1, none⟩ = some (.slice A0_1 l0_1.length c0_1) ∧ w'.cell? ⟨gb251, 2, none⟩ = some (.slice A0_2 l0_2.length c0_2) ∧ w'.cell? ⟨gb251, 3, none⟩ = some (.slice (some ad257) l0_3.length c0_3) ∧ w'.cell? (ad257.add (x6_2).toNat) = some (.int .i64 (rd l0_3 x6_2)) ∧ w'.cell? (ad257.add ((ji28)).toNat) = some (.int .i64 (rd l0_3 (ji28)))) (ds := []) #[false, false, false, false, false, false, false, false, false, false, false, false] (by kernel_rfl) rfl rfl ⟨(blk_cell BK251.out 0).trans rfl, (blk_cell BK251.out 1).trans rfl, (blk_cell BK251.out 2).trans rfl, (blk_cell BK251.out 3).trans rfl, (pw_cell_below HB.out hw257_0), (pw_cell_below HB.out hw258_0)⟩ (fun hHeld => ?_); refine with_tabW skiarearef10_bases.tab12 skiarearef10_bases.bits12 (fun HT_ HW_ => ?_)
            generalize wr.drew = w35 at BK251 HB hx257_0 hx258_0 hHeld ⊢
            refine pn_ 0 (some 37) ?_
            refine pn_ 2 (some 39) ?_
            refine pn_ 5 (some 42) ?_
            refine pn_ 7 (some 44) ?_
            refine pn_ 8 (some 45) ?_
            refine tk_ 1 (some 38) ?_ (hy := by rintro w' ⟨s0, s1, s2, s3, s4, s5⟩; go_simp; with_reducible rfl)
            refine pn_ 3 (some 40) ?_
            refine tk_ 4 (some 41) ?_ (hy := by rintro w' ⟨s0, s1, s2, s3, s4, s5⟩; go_simp; with_reducible rfl)
            refine tk_ 6 (some 43) ?_ (hy := by rintro w' ⟨s0, s1, s2, s3, s4, s5⟩; go_simp; with_reducible rfl)
            refine pn_ 9 (some 46) ?_
            refine tk_ 10 (some 47) ?_ (hy := by rintro w' ⟨s0, s1, s2, s3, s4, s5⟩; go_simp; with_reducible rfl)
            refine pn_ 11 (some 48) ?_
            refine done_ (done_of HT_.out (by kernel_rfl)) ?_
            try go_wp2
            go_roundg k2
            case measure => have := HK1.out; have := HK2.out; omega
            case rel => exact ⟨(wrap64 (x6_2 + 1)), (by first | rfl | (simp; done) | (simp [*]; done)), H', ⟨by have := HK1.out; have := HK2.out; omega⟩, ⟨by (with_reducible repeat (first | refine blk_drewN ?_ _ | refine blk_drew ?_ | refine blk_alloc ?_ _)); exact BK251.out⟩, ⟨by repeat (first | (with_reducible first | exact HB.out | apply below_alloc | apply pw_below_drewN | apply below_drew1 | refine below_set ?_ GE251.out) | exact HB.out)⟩⟩
          ·rw [if_neg c30] at H
           exact absurd H (by simp)
         ·rw [if_neg c29] at H
          exact absurd H (by simp)
        ·rw [if_neg c27] at H
         exact absurd H (by simp)
       ·rw [if_neg c26] at H
        have c26b0 : decide (x6_2 < (l0_3.length : Int)) = false := decide_eq_false c26
        clear c26
        obtain rfl := Option.some.inj H
        have hcz36_0 := cz_ BK251 0
        have hcz36_1 := cz_ BK251 1
        have hcz36_2 := cz_ BK251 2
        have hcz36_3 := cz_ BK251 3
        have hfz36_0 := fz_ BK251 0
        have hfz36_1 := fz_ BK251 1
        have hfz36_2 := fz_ BK251 2
        have hfz36_3 := fz_ BK251 3
        go_wp2
        go_ret
        exact ⟨by first | rfl | (simp [errW_none, errW_some] <;> rfl) | (simp [*, errW_none, errW_some] <;> rfl), by repeat (first | (with_reducible first | exact HB.out | apply below_alloc | apply pw_below_drewN | apply below_drew1 | refine below_set ?_ GE251.out) | exact HB.out)⟩

end Go.Proofs.Ytgfiidgigenibaa.Q
