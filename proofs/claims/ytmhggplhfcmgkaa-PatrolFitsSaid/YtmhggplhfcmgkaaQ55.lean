-- written by wip/drive.py (this session's program) over the kit's print words
import Derived.Test.YtmhggplhfcmgkaaQ0
import Derived.Test.YtmhggplhfcmgkaaQ3
import Derived.Test.YtmhggplhfcmgkaaQ18
import Derived.Test.YtmhggplhfcmgkaaQ19
import Derived.Test.YtmhggplhfcmgkaaQ44
namespace Go.Proofs.Ytmhggplhfcmgkaa.Q
open Go.RowKit Go.Proofs.YtmhggplhfcmgkaaW.PrintWords Go.Proofs.YtmhggplhfcmgkaaW.PrintLast Go.Proofs.YtmhggplhfcmgkaaW.PrintMore
attribute [local go_sem] max2_int min2_int max_two min_two max_three min_three max_four min_four   -- for this text's walks alone
set_option linter.unusedVariables false
set_option linter.unusedSimpArgs false

/-! ### patrol_Ready: function 46 -/
def patrol_Ready.f (l0_0 : List S63) (l0_1 : List S56) (a1 : Int) (a2 : Int) : Option Bool :=
 if 0 ≤ idxFrom (fun x : S63 => decide (x.f0 = a1)) l0_0 0 then (inspect_Done.f (rd_T63 l0_0 (idxFrom (fun x : S63 => decide (x.f0 = a1)) l0_0 0)).f1.f0 (rd_T63 l0_0 (idxFrom (fun x : S63 => decide (x.f0 = a1)) l0_0 0)).f1.f1 (rd_T63 l0_0 (idxFrom (fun x : S63 => decide (x.f0 = a1)) l0_0 0)).f1.f2 a2).bind fun d => if d = true then some (!(l0_1.any fun h : S56 => decide (h.f1 = a1))) else some false
 else some false
set_option maxHeartbeats 4000000 in
theorem patrol_Ready.calls (A0_0 : Option Addr) (c0_0 : Nat) (l0_0 : List S63) (A0_1 : Option Addr) (c0_1 : Nat) (l0_1 : List S56) (a1 : Int) (a2 : Int) (r : Bool) (w : World) (hr0_0 : Kd.C k63 w A0_0 l0_0.length l0_0) (hc0_0 : l0_0.length ≤ c0_0) (hr0_1 : Kd.C k56 w A0_1 l0_1.length l0_1) (hc0_1 : l0_1.length ≤ c0_1) (h : patrol_Ready.f l0_0 l0_1 a1 a2 = some r) :
  Calls Try.prog 46 #[.agg #[.slice A0_0 l0_0.length c0_0, .slice A0_1 l0_1.length c0_1], .int .i64 a1, .int .i64 a2] w fun e w' => e = .returned (.bool r) ∧ Below w.heap.size w w' := by
 have hu48 := Try.underlying48
 have hu63 := Try.underlying63
 have hmf : ∀ (fn : Fn) (first cap : Array Value) (w : World), (Instr.makeFunc fn first cap).run Try.prog w = .ok (.func fn first cap) w := fun _ _ _ _ => rfl
 have HR0_0 := Aside0.mk hr0_0
 have HC0_0 := Aside0.mk hc0_0
 have HR0_1 := Aside0.mk hr0_1
 have HC0_1 := Aside0.mk hc0_1
 clear hr0_0 hc0_0 hr0_1 hc0_1
 unfold patrol_Ready.f at h
 obtain ⟨z, hz⟩ : ∃ z, idxFrom (fun x : S63 => decide (x.f0 = a1)) l0_0 0 = z := ⟨_, rfl⟩
 rw [hz] at h
 have HZ := Aside0.mk hz
 have hz1 := idxFrom_lt (fun x : S63 => decide (x.f0 = a1)) l0_0 0
 rw [hz] at hz1
 have HZ1 : Aside0 (z < l0_0.length) := ⟨by omega⟩
 clear hz hz1
 have HB := Aside0.mk (Below.refl w.heap.size w)
 have HPL : Aside0 (∀ W, Below w.heap.size w W → Calls Try.prog 67 #[.slice A0_0 l0_0.length c0_0, .int .i64 a1] W fun e w' => e = .returned (.int .i64 z) ∧ Below W.heap.size W w') := ⟨fun W hb => patrol_list.calls A0_0 c0_0 l0_0 a1 z W (Kd.C_below HR0_0.out hb) HC0_0.out (by unfold patrol_list.f; rw [HZ.out])⟩
 by_cases hzn : 0 ≤ z
 ·rw [if_pos hzn] at h
  obtain ⟨d, A1, H⟩ := Option.bind_eq_some_iff.mp h
  clear h
  have HD := Aside0.mk A1
  clear A1
  have dz : decide (0 ≤ z) = true := decide_eq_true hzn
  have pz := eq_true hzn
  have qz := eq_true HZ1.out
  obtain ⟨ad, A1, c1, A3, c3, e, y0, y1, y2, y3, i1, i2, i3, i4⟩ := at_T63 HR0_0.out z hzn HZ1.out
  cases e
  have Y0 := Aside0.mk y0
  have Y1 := Aside0.mk y1
  have Y2 := Aside0.mk y2
  have Y3 := Aside0.mk y3
  have I1 := Aside0.mk i1
  have I2 := Aside0.mk i2
  have I3 := Aside0.mk i3
  have I4 := Aside0.mk i4
  clear y0 y1 y2 y3 i1 i2 i3 i4 hzn
  cases d with
  | false =>
   obtain rfl : false = r := by simpa using H
   clear H
   go_enter Try.func46, Try.ntmps46
   go_wp2_with (first | ((with_reducible refine gate_dst (N := 3) rfl ?_); refine box_event ?hg (N := 3) ?hd (cs := #[.slice (some ad) l0_0.length c0_0, .slice A0_1 l0_1.length c0_1]) (t := 48) ?hr ?_; (case hd => rfl); (case hg => rfl); (case hr => first | (go_simp; done) | (go_simp; rfl)); intro gb hg w_gb hbox hb; have n0_ := Aside0.mk (below_step bel_ hb); have n1_ := Aside0.mk (hbox); have n2_ := Aside0.mk ((by rw [hg]; exact (below_size bel_) : w.heap.size ≤ gb)); clear HB; have HB := n0_; have BKgb := n1_; have GEgb := n2_; clear n0_ n1_ n2_; clear hb hbox hg; have hczgb_0 : w_gb.cell? ⟨gb, 0, none⟩ = some (.slice (some ad) l0_0.length c0_0) := (blk_cell BKgb.out 0).trans rfl; have hczgb_1 : w_gb.cell? ⟨gb, 1, none⟩ = some (.slice A0_1 l0_1.length c0_1) := (blk_cell BKgb.out 1).trans rfl; have hfzgb_0 := blk_frozen BKgb.out 0; have hfzgb_1 := blk_frozen BKgb.out 1) | ((with_reducible refine gate_dst (N := 4) rfl ?_); refine box_event ?hg (N := 4) ?hd (cs := #[.int .i64 a1]) (t := 3) ?hr ?_; (case hd => rfl); (case hg => rfl); (case hr => first | (go_simp; done) | (go_simp; rfl)); intro gc hg w_gc hbox hb; have n0_ := Aside0.mk (below_step bel_ hb); have n1_ := Aside0.mk (hbox); have n2_ := Aside0.mk ((by rw [hg]; exact (below_size bel_) : w.heap.size ≤ gc)); clear HB; have HB := n0_; have BKgc := n1_; have GEgc := n2_; clear n0_ n1_ n2_; have m_gb := Aside0.mk (blk_below BKgb.out hb); clear BKgb; (try clear hczgb_0 hczgb_1); (try clear hfzgb_0 hfzgb_1); have BKgb := m_gb; clear m_gb; have hczgb_0 : w_gc.cell? ⟨gb, 0, none⟩ = some (.slice (some ad) l0_0.length c0_0) := (blk_cell BKgb.out 0).trans rfl; have hczgb_1 : w_gc.cell? ⟨gb, 1, none⟩ = some (.slice A0_1 l0_1.length c0_1) := (blk_cell BKgb.out 1).trans rfl; have hfzgb_0 := blk_frozen BKgb.out 0; have hfzgb_1 := blk_frozen BKgb.out 1; clear hb hbox hg; have hczgc_0 : w_gc.cell? ⟨gc, 0, none⟩ = some (.int .i64 a1) := (blk_cell BKgc.out 0).trans rfl; have hfzgc_0 := blk_frozen BKgc.out 0) | (go_at_call 67; (with_reducible refine (HPL.out _ HB.out).mono ?_); rintro e w5 ⟨rfl, hb⟩; have n0_ := Aside0.mk (below_step HB.out hb); clear HB; have HB := n0_; clear n0_; have m_gb := Aside0.mk (blk_below BKgb.out hb); clear BKgb; (try clear hczgb_0 hczgb_1); (try clear hfzgb_0 hfzgb_1); have BKgb := m_gb; clear m_gb; have hczgb_0 : w5.cell? ⟨gb, 0, none⟩ = some (.slice (some ad) l0_0.length c0_0) := (blk_cell BKgb.out 0).trans rfl; have hczgb_1 : w5.cell? ⟨gb, 1, none⟩ = some (.slice A0_1 l0_1.length c0_1) := (blk_cell BKgb.out 1).trans rfl; have hfzgb_0 := blk_frozen BKgb.out 0; have hfzgb_1 := blk_frozen BKgb.out 1; have m_gc := Aside0.mk (blk_below BKgc.out hb); clear BKgc; (try clear hczgc_0); (try clear hfzgc_0); have BKgc := m_gc; clear m_gc; have hczgc_0 : w5.cell? ⟨gc, 0, none⟩ = some (.int .i64 a1) := (blk_cell BKgc.out 0).trans rfl; have hfzgc_0 := blk_frozen BKgc.out 0; clear hb; have yy1 := (HB.out.cell (World.block_lt_of_cell? w _ Y1.out)).trans Y1.out; have yy2 := (HB.out.cell (World.block_lt_of_cell? w _ Y2.out)).trans Y2.out; have yy3 := (HB.out.cell (World.block_lt_of_cell? w _ Y3.out)).trans Y3.out) | (go_at_call 29; (with_reducible refine (inspect_Done.calls A1 c1 (rd_T63 l0_0 z).f1.f0 (rd_T63 l0_0 z).f1.f1 A3 c3 (rd_T63 l0_0 z).f1.f2 a2 false _ ?s1 I1.out ?s2 I3.out HD.out).mono ?_); (case s1 => exact Kd.C_below I2.out HB.out); (case s2 => exact Kd.C_below I4.out HB.out); rintro e w6 ⟨rfl, hb⟩; clear yy1 yy2 yy3; have n0_ := Aside0.mk (below_step HB.out hb); clear HB; have HB := n0_; clear n0_; have m_gb := Aside0.mk (blk_below BKgb.out hb); clear BKgb; (try clear hczgb_0 hczgb_1); (try clear hfzgb_0 hfzgb_1); have BKgb := m_gb; clear m_gb; have hczgb_0 : w6.cell? ⟨gb, 0, none⟩ = some (.slice (some ad) l0_0.length c0_0) := (blk_cell BKgb.out 0).trans rfl; have hczgb_1 : w6.cell? ⟨gb, 1, none⟩ = some (.slice A0_1 l0_1.length c0_1) := (blk_cell BKgb.out 1).trans rfl; have hfzgb_0 := blk_frozen BKgb.out 0; have hfzgb_1 := blk_frozen BKgb.out 1; have m_gc := Aside0.mk (blk_below BKgc.out hb); clear BKgc; (try clear hczgc_0); (try clear hfzgc_0); have BKgc := m_gc; clear m_gc; have hczgc_0 : w6.cell? ⟨gc, 0, none⟩ = some (.int .i64 a1) := (blk_cell BKgc.out 0).trans rfl; have hfzgc_0 := blk_frozen BKgc.out 0; clear hb))
   go_ret
   exact ⟨rfl, HB.out⟩
  | true =>
   have HH : Aside0 ((l0_1.any fun h : S56 => decide (h.f1 = a1)) = !r) := ⟨by have := Option.some.inj (show some (!(l0_1.any fun h : S56 => decide (h.f1 = a1))) = some r by simpa using H); rw [← this]; simp⟩
   clear H
   cases r
   all_goals
    go_enter Try.func46, Try.ntmps46
    go_wp2_with (first | ((with_reducible refine gate_dst (N := 3) rfl ?_); refine box_event ?hg (N := 3) ?hd (cs := #[.slice (some ad) l0_0.length c0_0, .slice A0_1 l0_1.length c0_1]) (t := 48) ?hr ?_; (case hd => rfl); (case hg => rfl); (case hr => first | (go_simp; done) | (go_simp; rfl)); intro gb hg w_gb hbox hb; have n0_ := Aside0.mk (below_step bel_ hb); have n1_ := Aside0.mk (hbox); have n2_ := Aside0.mk ((by rw [hg]; exact (below_size bel_) : w.heap.size ≤ gb)); clear HB; have HB := n0_; have BKgb := n1_; have GEgb := n2_; clear n0_ n1_ n2_; clear hb hbox hg; have hczgb_0 : w_gb.cell? ⟨gb, 0, none⟩ = some (.slice (some ad) l0_0.length c0_0) := (blk_cell BKgb.out 0).trans rfl; have hczgb_1 : w_gb.cell? ⟨gb, 1, none⟩ = some (.slice A0_1 l0_1.length c0_1) := (blk_cell BKgb.out 1).trans rfl; have hfzgb_0 := blk_frozen BKgb.out 0; have hfzgb_1 := blk_frozen BKgb.out 1) | ((with_reducible refine gate_dst (N := 4) rfl ?_); refine box_event ?hg (N := 4) ?hd (cs := #[.int .i64 a1]) (t := 3) ?hr ?_; (case hd => rfl); (case hg => rfl); (case hr => first | (go_simp; done) | (go_simp; rfl)); intro gc hg w_gc hbox hb; have n0_ := Aside0.mk (below_step bel_ hb); have n1_ := Aside0.mk (hbox); have n2_ := Aside0.mk ((by rw [hg]; exact (below_size bel_) : w.heap.size ≤ gc)); clear HB; have HB := n0_; have BKgc := n1_; have GEgc := n2_; clear n0_ n1_ n2_; have m_gb := Aside0.mk (blk_below BKgb.out hb); clear BKgb; (try clear hczgb_0 hczgb_1); (try clear hfzgb_0 hfzgb_1); have BKgb := m_gb; clear m_gb; have hczgb_0 : w_gc.cell? ⟨gb, 0, none⟩ = some (.slice (some ad) l0_0.length c0_0) := (blk_cell BKgb.out 0).trans rfl; have hczgb_1 : w_gc.cell? ⟨gb, 1, none⟩ = some (.slice A0_1 l0_1.length c0_1) := (blk_cell BKgb.out 1).trans rfl; have hfzgb_0 := blk_frozen BKgb.out 0; have hfzgb_1 := blk_frozen BKgb.out 1; clear hb hbox hg; have hczgc_0 : w_gc.cell? ⟨gc, 0, none⟩ = some (.int .i64 a1) := (blk_cell BKgc.out 0).trans rfl; have hfzgc_0 := blk_frozen BKgc.out 0) | (go_at_call 67; (with_reducible refine (HPL.out _ HB.out).mono ?_); rintro e w5 ⟨rfl, hb⟩; have n0_ := Aside0.mk (below_step HB.out hb); clear HB; have HB := n0_; clear n0_; have m_gb := Aside0.mk (blk_below BKgb.out hb); clear BKgb; (try clear hczgb_0 hczgb_1); (try clear hfzgb_0 hfzgb_1); have BKgb := m_gb; clear m_gb; have hczgb_0 : w5.cell? ⟨gb, 0, none⟩ = some (.slice (some ad) l0_0.length c0_0) := (blk_cell BKgb.out 0).trans rfl; have hczgb_1 : w5.cell? ⟨gb, 1, none⟩ = some (.slice A0_1 l0_1.length c0_1) := (blk_cell BKgb.out 1).trans rfl; have hfzgb_0 := blk_frozen BKgb.out 0; have hfzgb_1 := blk_frozen BKgb.out 1; have m_gc := Aside0.mk (blk_below BKgc.out hb); clear BKgc; (try clear hczgc_0); (try clear hfzgc_0); have BKgc := m_gc; clear m_gc; have hczgc_0 : w5.cell? ⟨gc, 0, none⟩ = some (.int .i64 a1) := (blk_cell BKgc.out 0).trans rfl; have hfzgc_0 := blk_frozen BKgc.out 0; clear hb; have yy1 := (HB.out.cell (World.block_lt_of_cell? w _ Y1.out)).trans Y1.out; have yy2 := (HB.out.cell (World.block_lt_of_cell? w _ Y2.out)).trans Y2.out; have yy3 := (HB.out.cell (World.block_lt_of_cell? w _ Y3.out)).trans Y3.out) | (go_at_call 29; (with_reducible refine (inspect_Done.calls A1 c1 (rd_T63 l0_0 z).f1.f0 (rd_T63 l0_0 z).f1.f1 A3 c3 (rd_T63 l0_0 z).f1.f2 a2 true _ ?s1 I1.out ?s2 I3.out HD.out).mono ?_); (case s1 => exact Kd.C_below I2.out HB.out); (case s2 => exact Kd.C_below I4.out HB.out); rintro e w6 ⟨rfl, hb⟩; clear yy1 yy2 yy3; have n0_ := Aside0.mk (below_step HB.out hb); clear HB; have HB := n0_; clear n0_; have m_gb := Aside0.mk (blk_below BKgb.out hb); clear BKgb; (try clear hczgb_0 hczgb_1); (try clear hfzgb_0 hfzgb_1); have BKgb := m_gb; clear m_gb; have hczgb_0 : w6.cell? ⟨gb, 0, none⟩ = some (.slice (some ad) l0_0.length c0_0) := (blk_cell BKgb.out 0).trans rfl; have hczgb_1 : w6.cell? ⟨gb, 1, none⟩ = some (.slice A0_1 l0_1.length c0_1) := (blk_cell BKgb.out 1).trans rfl; have hfzgb_0 := blk_frozen BKgb.out 0; have hfzgb_1 := blk_frozen BKgb.out 1; have m_gc := Aside0.mk (blk_below BKgc.out hb); clear BKgc; (try clear hczgc_0); (try clear hfzgc_0); have BKgc := m_gc; clear m_gc; have hczgc_0 : w6.cell? ⟨gc, 0, none⟩ = some (.int .i64 a1) := (blk_cell BKgc.out 0).trans rfl; have hfzgc_0 := blk_frozen BKgc.out 0; clear hb) | (go_at_call 73; (with_reducible refine (any56_72 gc (fun h : S56 => decide (h.f1 = a1)) A0_1 c0_1 l0_1 _ ?s1 HC0_1.out ?s2 _ HH.out).mono ?_); (case s1 => exact Kd.C_below HR0_1.out HB.out); (case s2 => exact fun W x b hbW hpx => rdy72_calls x gc a1 b W (pw_cell_below hbW ((blk_cell BKgc.out 0).trans rfl)) hpx); rintro e w7 ⟨rfl, hb⟩; have n0_ := Aside0.mk (below_step HB.out hb); clear HB; have HB := n0_; clear n0_; have m_gb := Aside0.mk (blk_below BKgb.out hb); clear BKgb; (try clear hczgb_0 hczgb_1); (try clear hfzgb_0 hfzgb_1); have BKgb := m_gb; clear m_gb; have hczgb_0 : w7.cell? ⟨gb, 0, none⟩ = some (.slice (some ad) l0_0.length c0_0) := (blk_cell BKgb.out 0).trans rfl; have hczgb_1 : w7.cell? ⟨gb, 1, none⟩ = some (.slice A0_1 l0_1.length c0_1) := (blk_cell BKgb.out 1).trans rfl; have hfzgb_0 := blk_frozen BKgb.out 0; have hfzgb_1 := blk_frozen BKgb.out 1; have m_gc := Aside0.mk (blk_below BKgc.out hb); clear BKgc; (try clear hczgc_0); (try clear hfzgc_0); have BKgc := m_gc; clear m_gc; have hczgc_0 : w7.cell? ⟨gc, 0, none⟩ = some (.int .i64 a1) := (blk_cell BKgc.out 0).trans rfl; have hfzgc_0 := blk_frozen BKgc.out 0; clear hb))
    go_ret
    exact ⟨rfl, HB.out⟩
 ·rw [if_neg hzn] at h
  obtain rfl : false = r := by simpa using h
  have dz : decide (0 ≤ z) = false := decide_eq_false hzn
  clear h hzn
  go_enter Try.func46, Try.ntmps46
  go_wp2_with (first | ((with_reducible refine gate_dst (N := 3) rfl ?_); refine box_event ?hg (N := 3) ?hd (cs := #[.slice A0_0 l0_0.length c0_0, .slice A0_1 l0_1.length c0_1]) (t := 48) ?hr ?_; (case hd => rfl); (case hg => rfl); (case hr => first | (go_simp; done) | (go_simp; rfl)); intro gb hg w_gb hbox hb; have n0_ := Aside0.mk (below_step bel_ hb); have n1_ := Aside0.mk (hbox); have n2_ := Aside0.mk ((by rw [hg]; exact (below_size bel_) : w.heap.size ≤ gb)); clear HB; have HB := n0_; have BKgb := n1_; have GEgb := n2_; clear n0_ n1_ n2_; clear hb hbox hg; have hczgb_0 : w_gb.cell? ⟨gb, 0, none⟩ = some (.slice A0_0 l0_0.length c0_0) := (blk_cell BKgb.out 0).trans rfl; have hczgb_1 : w_gb.cell? ⟨gb, 1, none⟩ = some (.slice A0_1 l0_1.length c0_1) := (blk_cell BKgb.out 1).trans rfl; have hfzgb_0 := blk_frozen BKgb.out 0; have hfzgb_1 := blk_frozen BKgb.out 1) | ((with_reducible refine gate_dst (N := 4) rfl ?_); refine box_event ?hg (N := 4) ?hd (cs := #[.int .i64 a1]) (t := 3) ?hr ?_; (case hd => rfl); (case hg => rfl); (case hr => first | (go_simp; done) | (go_simp; rfl)); intro gc hg w_gc hbox hb; have n0_ := Aside0.mk (below_step bel_ hb); have n1_ := Aside0.mk (hbox); have n2_ := Aside0.mk ((by rw [hg]; exact (below_size bel_) : w.heap.size ≤ gc)); clear HB; have HB := n0_; have BKgc := n1_; have GEgc := n2_; clear n0_ n1_ n2_; have m_gb := Aside0.mk (blk_below BKgb.out hb); clear BKgb; (try clear hczgb_0 hczgb_1); (try clear hfzgb_0 hfzgb_1); have BKgb := m_gb; clear m_gb; have hczgb_0 : w_gc.cell? ⟨gb, 0, none⟩ = some (.slice A0_0 l0_0.length c0_0) := (blk_cell BKgb.out 0).trans rfl; have hczgb_1 : w_gc.cell? ⟨gb, 1, none⟩ = some (.slice A0_1 l0_1.length c0_1) := (blk_cell BKgb.out 1).trans rfl; have hfzgb_0 := blk_frozen BKgb.out 0; have hfzgb_1 := blk_frozen BKgb.out 1; clear hb hbox hg; have hczgc_0 : w_gc.cell? ⟨gc, 0, none⟩ = some (.int .i64 a1) := (blk_cell BKgc.out 0).trans rfl; have hfzgc_0 := blk_frozen BKgc.out 0) | (go_at_call 67; (with_reducible refine (HPL.out _ HB.out).mono ?_); rintro e w' ⟨rfl, hb⟩; have n0_ := Aside0.mk (below_step HB.out hb); clear HB; have HB := n0_; clear n0_; have m_gb := Aside0.mk (blk_below BKgb.out hb); clear BKgb; (try clear hczgb_0 hczgb_1); (try clear hfzgb_0 hfzgb_1); have BKgb := m_gb; clear m_gb; have hczgb_0 : w'.cell? ⟨gb, 0, none⟩ = some (.slice A0_0 l0_0.length c0_0) := (blk_cell BKgb.out 0).trans rfl; have hczgb_1 : w'.cell? ⟨gb, 1, none⟩ = some (.slice A0_1 l0_1.length c0_1) := (blk_cell BKgb.out 1).trans rfl; have hfzgb_0 := blk_frozen BKgb.out 0; have hfzgb_1 := blk_frozen BKgb.out 1; have m_gc := Aside0.mk (blk_below BKgc.out hb); clear BKgc; (try clear hczgc_0); (try clear hfzgc_0); have BKgc := m_gc; clear m_gc; have hczgc_0 : w'.cell? ⟨gc, 0, none⟩ = some (.int .i64 a1) := (blk_cell BKgc.out 0).trans rfl; have hfzgc_0 := blk_frozen BKgc.out 0; clear hb))
  go_ret
  exact ⟨rfl, HB.out⟩



end Go.Proofs.Ytmhggplhfcmgkaa.Q
