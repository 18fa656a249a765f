/- Walks and plain laws that this claim bears (this session's). -/
import Derived.Test.YtmhggplhfcmgkaaM10
namespace Go.Proofs.Ytmhggplhfcmgkaa.Q
open Go.RowKit Go.Proofs.YtmhggplhfcmgkaaW.PrintWords Go.Proofs.YtmhggplhfcmgkaaW.PrintLast Go.Proofs.YtmhggplhfcmgkaaW.PrintMore
attribute [local go_sem] max2_int min2_int max_two min_two max_three min_three max_four min_four   -- for this text's walks alone
set_option linter.unusedVariables false
set_option linter.unusedSimpArgs false
mutual
def skiarearef19_Sign.l0 : Nat → Int → Int → Int → Int → List Int → Int → List (S35) → List Int → Int → Option (List Int × Int × (List (S35)) × Int)
 | 0, _, _, _, _, _, _, _, _, _ => none
 | k + 1, x1, x2, x3, x11, x242000, x242001, x242002, x244000, x244001 => if x11 < (x242000.length : Int) then (if 0 ≤ x11 then (if x244000.length < 17592186044416 then (skiarearef19_Sign.l0 k x1 x2 x3 (wrap64 (x11 + 1)) x242000 x242001 x242002 (x244000 ++ [rd x242000 x11]) x244001) else (none)) else (none)) else (skiarearef19_Sign.l1 k x1 x2 x3 0 x242000 x242001 x242002 x244000 x244001 ([] : List (S35)))
def skiarearef19_Sign.l1 : Nat → Int → Int → Int → Int → List Int → Int → List (S35) → List Int → Int → List (S35) → Option (List Int × Int × (List (S35)) × Int)
 | 0, _, _, _, _, _, _, _, _, _, _ => none
 | k + 1, x1, x2, x3, x12, x242000, x242001, x242002, x244000, x244001, x244002 => if x12 < (x242002.length : Int) then (if 0 ≤ x12 then (if ((rd_T35 x242002 x12).f0) = x1 then (skiarearef19_Sign.l1 k x1 x2 x3 (wrap64 (x12 + 1)) x242000 x242001 x242002 x244000 x244001 x244002) else (if x244002.length < 5864062014805 then (skiarearef19_Sign.l1 k x1 x2 x3 (wrap64 (x12 + 1)) x242000 x242001 x242002 x244000 x244001 (x244002 ++ [(⟨(rd_T35 x242002 x12).f0, (rd_T35 x242002 x12).f1, (rd_T35 x242002 x12).f2⟩ : S35)])) else (none))) else (none)) else (if x244002.length < 5864062014805 then ((some (x244002 ++ [(⟨x1, x2, x3⟩ : S35)] : List (S35))).bind fun y253 => ((skiarearef19_Right.f k x244000 x244001 y253).bind fun t256 => (if t256 = 0 then (some (x244000, x244001, y253, 0)) else (some (([] : List Int), 0, ([] : List (S35)), t256))))) else (none))
end
def skiarearef19_Sign.f (k : Nat) (l0_0 : List Int) (a0_1 : Int) (l0_2 : List (S35)) (a1 : Int) (a2 : Int) (a3 : Int) : Option (List Int × Int × (List (S35)) × Int) := skiarearef19_Sign.l0 k a1 a2 a3 0 l0_0 a0_1 l0_2 ([] : List Int) a0_1
theorem skiarearef19_Sign.mono_l : ∀ k, (∀ y0 y1 y2 y3 y4 y5 y6 y7 y8, LeO (skiarearef19_Sign.l0 k y0 y1 y2 y3 y4 y5 y6 y7 y8) (skiarearef19_Sign.l0 (k + 1) y0 y1 y2 y3 y4 y5 y6 y7 y8)) ∧ (∀ y0 y1 y2 y3 y4 y5 y6 y7 y8 y9, LeO (skiarearef19_Sign.l1 k y0 y1 y2 y3 y4 y5 y6 y7 y8 y9) (skiarearef19_Sign.l1 (k + 1) y0 y1 y2 y3 y4 y5 y6 y7 y8 y9))
 | 0 => ⟨fun _ _ _ _ _ _ _ _ _ r h => by simp [skiarearef19_Sign.l0] at h, fun _ _ _ _ _ _ _ _ _ _ r h => by simp [skiarearef19_Sign.l1] at h⟩
 | k + 1 => by
  obtain ⟨ih0, ih1⟩ := skiarearef19_Sign.mono_l k
  refine ⟨?_, ?_⟩
  ·intro y0 y1 y2 y3 y4 y5 y6 y7 y8
   unfold skiarearef19_Sign.l0
   repeat' first
   | (with_reducible exact ih0 _ _ _ _ _ _ _ _ _)
   | (with_reducible exact ih1 _ _ _ _ _ _ _ _ _ _)
   | (with_reducible exact skiarearef19_Right.mono _ _ _ _)
   | (with_reducible exact LeO.refl _)
   | (with_reducible exact LeO.none _)
   | (with_reducible refine LeO.ite ?_ ?_)
   | (with_reducible refine LeO.bind ?_ (fun _ => ?_))
   | exact ih0 _ _ _ _ _ _ _ _ _
   | exact ih1 _ _ _ _ _ _ _ _ _ _
   | exact skiarearef19_Right.mono _ _ _ _
   | exact LeO.none _
   | refine LeO.ite ?_ ?_
   | refine LeO.bind ?_ (fun _ => ?_)
  ·intro y0 y1 y2 y3 y4 y5 y6 y7 y8 y9
   unfold skiarearef19_Sign.l1
   repeat' first
   | (with_reducible exact ih0 _ _ _ _ _ _ _ _ _)
   | (with_reducible exact ih1 _ _ _ _ _ _ _ _ _ _)
   | (with_reducible exact skiarearef19_Right.mono _ _ _ _)
   | (with_reducible exact LeO.refl _)
   | (with_reducible exact LeO.none _)
   | (with_reducible refine LeO.ite ?_ ?_)
   | (with_reducible refine LeO.bind ?_ (fun _ => ?_))
   | exact ih0 _ _ _ _ _ _ _ _ _
   | exact ih1 _ _ _ _ _ _ _ _ _ _
   | exact skiarearef19_Right.mono _ _ _ _
   | exact LeO.none _
   | refine LeO.ite ?_ ?_
   | refine LeO.bind ?_ (fun _ => ?_)
theorem skiarearef19_Sign.mono : ∀ a0 a1 a2 a3 a4 a5 k, LeO (skiarearef19_Sign.f k a0 a1 a2 a3 a4 a5) (skiarearef19_Sign.f (k + 1) a0 a1 a2 a3 a4 a5) := by
 intro a0 a1 a2 a3 a4 a5 k
 obtain ⟨ih0, ih1⟩ := skiarearef19_Sign.mono_l k
 unfold skiarearef19_Sign.f
 repeat' first
   | (with_reducible exact ih0 _ _ _ _ _ _ _ _ _)
   | (with_reducible exact ih1 _ _ _ _ _ _ _ _ _ _)
   | (with_reducible exact skiarearef19_Right.mono _ _ _ _)
   | (with_reducible exact LeO.refl _)
   | (with_reducible exact LeO.none _)
   | (with_reducible refine LeO.ite ?_ ?_)
   | (with_reducible refine LeO.bind ?_ (fun _ => ?_))
   | exact ih0 _ _ _ _ _ _ _ _ _
   | exact ih1 _ _ _ _ _ _ _ _ _ _
   | exact skiarearef19_Right.mono _ _ _ _
   | exact LeO.none _
   | refine LeO.ite ?_ ?_
   | refine LeO.bind ?_ (fun _ => ?_)
def skiarearef19_Sign.T5 : Bool × List (List Nat × List Nat) := (true, [([], []), ([0], [0]), ([], []), ([2], [2]), ([], []), ([3, 4], [3, 4]), ([5], [5]), ([6], [6]), ([1, 7], [1, 7]), ([0, 1, 2, 3, 4, 5, 6, 7, 8], []), ([9, 8, 8, 0, 1, 2, 3, 4, 5, 6, 7, 8], [8, 9])])
def skiarearef19_Sign.B5 : List Nat := [0, 1, 0, 4, 0, 28, 60, 124, 255, 511, 1023]
theorem skiarearef19_Sign.tab5 : rtab .any (opsOf Try.f22 5) = skiarearef19_Sign.T5 := by kernel_rfl
theorem skiarearef19_Sign.bits5 : waitsOk skiarearef19_Sign.T5.2 skiarearef19_Sign.B5 = true := by kernel_rfl
def skiarearef19_Sign.T10 : Bool × List (List Nat × List Nat) := (true, [([], []), ([0], [0]), ([], []), ([2], [2]), ([], []), ([3, 4], [3, 4]), ([5], [5]), ([6], [6]), ([1, 7], [1, 7]), ([0, 1, 2, 3, 4, 5, 6, 7, 8], []), ([9, 8, 8, 0, 1, 2, 3, 4, 5, 6, 7, 8], [8, 9])])
def skiarearef19_Sign.B10 : List Nat := [0, 1, 0, 4, 0, 28, 60, 124, 255, 511, 1023]
theorem skiarearef19_Sign.tab10 : rtab .any (opsOf Try.f22 10) = skiarearef19_Sign.T10 := by kernel_rfl
theorem skiarearef19_Sign.bits10 : waitsOk skiarearef19_Sign.T10.2 skiarearef19_Sign.B10 = true := by kernel_rfl
set_option maxHeartbeats 8000000 in
set_option maxRecDepth 100000 in
theorem skiarearef19_Sign.calls (k : Nat) (A0_0 : Option Addr) (c0_0 : Nat) (l0_0 : List Int) (a0_1 : Int) (A0_2 : Option Addr) (c0_2 : Nat) (l0_2 : List (S35)) (a1 : Int) (a2 : Int) (a3 : Int) (r1 : List Int) (r2 : Int) (r3 : List (S35)) (r4 : Int) (w : World) (hr0_0 : Kd.C (Kd.int .i64) w A0_0 l0_0.length l0_0) (hc0_0 : l0_0.length ≤ c0_0) (hr0_2 : Kd.C k35 w A0_2 l0_2.length l0_2) (hc0_2 : l0_2.length ≤ c0_2) (h : skiarearef19_Sign.f k l0_0 a0_1 l0_2 a1 a2 a3 = some (r1, r2, r3, r4)) :
  Calls Try.prog 22 #[.agg #[.slice A0_0 l0_0.length c0_0, .int .i64 a0_1, .slice A0_2 l0_2.length c0_2], .int .i64 a1, .int .i64 a2, .int .i64 a3] w fun e w' => ∃ v0_ v2_ : Value, e = .returned (.tuple #[.agg #[v0_, .int .i64 r2, v2_], .int .i64 r4]) ∧ Kd.R (Kd.int .i64) 3 w' w.heap.size (fun _ => True) v0_ r1 ∧ Kd.R k35 35 w' w.heap.size (fun _ => True) v2_ r3 ∧ Below w.heap.size w w' := by
 have hu25 := Try.underlying25
 have hu35 := Try.underlying35
 have HR0_0 := a_ hr0_0
 have HC0_0 := a_ hc0_0
 clear hr0_0 hc0_0
 have HR0_2 := a_ hr0_2
 have HC0_2 := a_ hc0_2
 clear hr0_2 hc0_2
 have HB := a_ (Below.refl w.heap.size w)
 have H : (skiarearef19_Sign.l0 k a1 a2 a3 0 l0_0 a0_1 l0_2 ([] : List Int) a0_1) = some (r1, r2, r3, r4) := h
 clear h
 have H' := a_ H
 clear H
 go_enter Try.func22, Try.ntmps22
 go_wp2_with (first | ((with_reducible refine gate_dst (N := 4) rfl ?_); refine box_event ?hg (N := 4) ?hd (cs := #[.slice A0_0 l0_0.length c0_0, .int .i64 a0_1, .slice A0_2 l0_2.length c0_2]) (t := 25) ?hr ?_; (case hd => rfl); (case hg => rfl); (case hr => first | (go_simp; done) | (go_simp; rfl)); intro gb241 hg w5 hbox hb; have n0_ := a_ (below_step bel_ hb); have n1_ := a_ (hbox); have n2_ := a_ (bz_ hg : w.heap.size ≤ gb241); have n3_ := a_ (bz_ hg : w.heap.size ≤ gb241); clear HB; have HB := n0_; have BK241 := n1_; have GW241 := n2_; have GE241 := n3_; clear n0_ n1_ n2_ n3_; clear hb hbox hg) | ((with_reducible refine gate_dst (N := 8) rfl ?_); refine box_event ?hg (N := 8) ?hd (cs := #[.slice none 0 0, .int .i64 0, .slice none 0 0]) (t := 25) ?hr ?_; (case hd => rfl); (case hg => rfl); (case hr => first | (go_simp; done) | (go_simp; rfl)); intro gb242 hg w6 hbox hb; have n0_ := a_ (blk_below (bk_ BK241.out) hb); have n1_ := a_ (below_step bel_ hb); have n2_ := a_ (hbox); have n3_ := a_ (bz_ hg : w.heap.size ≤ gb242); have n4_ := a_ (bz_ hg : w.heap.size ≤ gb242); have n5_ := a_ (nl_ hg (bk_ BK241.out)); have n6_ := a_ (ng_ hg (bk_ BK241.out)); clear BK241; clear HB; have BK241 := n0_; have HB := n1_; have BK242 := n2_; have GW242 := n3_; have GE242 := n4_; have NB241_242 := n5_; have NB242_241 := n6_; clear n0_ n1_ n2_ n3_ n4_ n5_ n6_; clear hb hbox hg; have hnb7 := NB241_242.out; have hnc7 := NB242_241.out; have hcz8_0 := cz_ BK241 0; have hcz8_1 := cz_ BK241 1; have hcz8_2 := cz_ BK241 2; have hfz8_0 := fz_ BK241 0; have hfz8_1 := fz_ BK241 1; have hfz8_2 := fz_ BK241 2) | ((with_reducible refine gate_dst (N := 10) rfl ?_); refine box_event ?hg (N := 10) ?hd (cs := #[.slice none 0 0, .int .i64 0, .slice none 0 0]) (t := 25) ?hr ?_; (case hd => rfl); (case hg => rfl); (case hr => first | (go_simp; done) | (go_simp; rfl)); intro gb243 hg w9 hbox hb; have n0_ := a_ (blk_below (bk_ BK241.out) hb); have n1_ := a_ (blk_below (bk_ BK242.out) hb); have n2_ := a_ (below_step bel_ hb); have n3_ := a_ (hbox); have n4_ := a_ (bz_ hg : w.heap.size ≤ gb243); have n5_ := a_ (bz_ hg : w.heap.size ≤ gb243); have n6_ := a_ (nl_ hg (bk_ BK241.out)); have n7_ := a_ (ng_ hg (bk_ BK241.out)); have n8_ := a_ (nl_ hg (bk_ BK242.out)); have n9_ := a_ (ng_ hg (bk_ BK242.out)); clear BK241; clear BK242; clear HB; have BK241 := n0_; have BK242 := n1_; have HB := n2_; have BK243 := n3_; have GW243 := n4_; have GE243 := n5_; have NB241_243 := n6_; have NB243_241 := n7_; have NB242_243 := n8_; have NB243_242 := n9_; clear n0_ n1_ n2_ n3_ n4_ n5_ n6_ n7_ n8_ n9_; clear hb hbox hg; have hnb10 := NB243_241.out; have hnc10 := NB241_243.out; have hnb11 := NB243_242.out; have hnc11 := NB242_243.out; have hcz12_0 := cz_ BK243 0; have hcz12_1 := cz_ BK243 1; have hcz12_2 := cz_ BK243 2; have hfz12_0 := fz_ BK243 0; have hfz12_1 := fz_ BK243 1; have hfz12_2 := fz_ BK243 2))
 go_loopg [11] k (fun kq v11 w' => ∃ (x11_1 : Int) (x244000_1 : List Int) (u244000 : Value), v11 = .int .i64 x11_1 ∧ Aside0 (skiarearef19_Sign.l0 kq a1 a2 a3 x11_1 l0_0 a0_1 l0_2 x244000_1 a0_1 = some (r1, r2, r3, r4)) ∧ Aside0 (kq ≤ k) ∧ Aside0 (Kd.R (Kd.int .i64) 3 w' w.heap.size (fun _ => True) u244000 x244000_1) ∧ Aside0 (w'.heap[gb241]? = some (.cells #[(.slice A0_0 l0_0.length c0_0), .int .i64 a0_1, (.slice A0_2 l0_2.length c0_2)] 25 (0, 0))) ∧ Aside0 (w'.heap[gb242]? = some (.cells #[(.slice none 0 0), .int .i64 0, (.slice none 0 0)] 25 (0, 0))) ∧ Aside0 (w'.heap[gb243]? = some (.cells #[u244000, .int .i64 a0_1, (.slice none 0 0)] 25 (0, 0))) ∧ Aside0 (Below w.heap.size w w'))
 case atStart => exact ⟨(0), (([] : List Int)), (.slice none 0 0), (by first | rfl | (simp; done) | (simp [*]; done)), H', ⟨Nat.le_refl _⟩, ⟨by first | exact Kd.R_nil _ _ _ _ _ | exact Kd.N_nil _ _ _ _ _ | exact Kd.V_nil _ _ _ _ _ | exact Kd.Q_nil _ _ _ _ _ | exact Kd.S_nil _ _ _ _ _⟩, ⟨by refine blk_far ?_ NB241_243.out _; refine blk_far ?_ NB241_243.out _; refine blk_far ?_ NB241_243.out _; exact BK241.out⟩, ⟨by refine blk_far ?_ NB242_243.out _; refine blk_far ?_ NB242_243.out _; refine blk_far ?_ NB242_243.out _; exact BK242.out⟩, ⟨by refine blk_put (cs := #[.slice none 0 0, .int .i64 a0_1, .slice none 0 0]) ?_ 2 _ rfl; refine blk_put (cs := #[.slice none 0 0, .int .i64 0, .slice none 0 0]) ?_ 1 _ rfl; refine blk_put (cs := #[.slice none 0 0, .int .i64 0, .slice none 0 0]) ?_ 0 _ rfl; exact BK243.out⟩, ⟨by repeat (first | (with_reducible first | exact HB.out | apply below_alloc | apply pw_below_drewN | apply below_drew1 | refine below_set ?_ GE241.out | refine below_set ?_ GE242.out | refine below_set ?_ GE243.out) | exact HB.out)⟩⟩
 case round =>
  clear H'
  try clear c1
  try clear c2
  try clear p2
  try clear c7
  try clear c10
  try clear c11
  try clear hcz12_0
  try clear hcz12_1
  try clear hcz12_2
  try clear hcz8_0
  try clear hcz8_1
  try clear hcz8_2
  try clear hfz12_0
  try clear hfz12_1
  try clear hfz12_2
  try clear hfz8_0
  try clear hfz8_1
  try clear hfz8_2
  obtain ⟨x11_1, x244000_1, u244000, rfl, HA, HK1, HO_244000, BK241, BK242, BK243, HB⟩ := hrel
  cases gk with
  | zero => exact absurd HA.out (by simp [skiarearef19_Sign.l0])
  | succ k1 =>
   have H := HA.out
   clear HA
   simp only [skiarearef19_Sign.l0] at H
   by_cases c13 : x11_1 < (l0_0.length : Int)
   ·rw [if_pos c13] at H
    have c13b0 : decide (x11_1 < (l0_0.length : Int)) = true := decide_eq_true c13
    clear c13
    by_cases c14 : 0 ≤ x11_1
    ·rw [if_pos c14] at H
     have c14b0 : decide (0 ≤ x11_1) = true := decide_eq_true c14
     clear c14
     by_cases c15 : x244000_1.length < 17592186044416
     ·rw [if_pos c15] at H
      have LMc15 := a_ c15
      clear c15
      obtain ⟨y245, hy245⟩ : ∃ y_ : List Int, y_ = (x244000_1 ++ [rd l0_0 x11_1]) := ⟨_, rfl⟩
      replace H : (skiarearef19_Sign.l0 k1 a1 a2 a3 (wrap64 (x11_1 + 1)) l0_0 a0_1 l0_2 y245 a0_1) = some (r1, r2, r3, r4) := by first | (rw [hy245]; with_reducible exact H) | (have H2_ := (Option.bind_some _ _).symm.trans H; rw [hy245]; with_reducible exact H2_) | (have H2_ := (Option.bind_some _ _).symm.trans H; with_reducible exact H2_) | with_reducible exact H | (rw [hy245]; exact H) | exact H
      have Ny245 := a_ hy245
      clear hy245
      have H' := a_ H
      clear H
      have hnb16 := NB241_242.out
      have hnc16 := NB242_241.out
      have hnb17 := NB241_243.out
      have hnc17 := NB243_241.out
      have hcz18_0 := cz_ BK241 0
      have hcz18_1 := cz_ BK241 1
      have hcz18_2 := cz_ BK241 2
      have hfz18_0 := fz_ BK241 0
      have hfz18_1 := fz_ BK241 1
      have hfz18_2 := fz_ BK241 2
      try go_wp2
      have n0_ := a_ (Kd.R_drew HO_244000.out)
      have n1_ := a_ (blk_drew BK241.out)
      have n2_ := a_ (blk_drew BK242.out)
      have n3_ := a_ (blk_drew BK243.out)
      have n4_ := a_ (below_drew1 HB.out)
      clear HO_244000
      clear BK241
      clear BK242
      clear BK243
      clear HB
      have HO_244000 := n0_
      have BK241 := n1_
      have BK242 := n2_
      have BK243 := n3_
      have HB := n4_
      clear n0_ n1_ n2_ n3_ n4_
      have p244 : 0 ≤ (x11_1 : Int) := od_
      have q244 : x11_1 < (l0_0.length : Int) := od_
      obtain ⟨ad244, e244, hx244_0⟩ := Kd.at_int HR0_0.out x11_1 p244 q244
      have hw244_0 := hx244_0
      cases e244
      replace hx244_0 := pc_ hx244_0
      replace p244 := eq_true p244
      replace q244 := eq_true q244
      refine start_ (n := 11) (S := fun w' => w'.cell? ⟨gb243, 0, none⟩ = some (u244000) ∧ w'.cell? ⟨gb243, 1, none⟩ = some (.int .i64 a0_1) ∧ w'.cell? ⟨gb243, 2, none⟩ = some (.slice none 0 0) ∧ w'.cell? ⟨gb241, 0, none⟩ = some (.slice (some ad244) l0_0.length c0_0) ∧ w'.cell? ⟨gb241, 1, none⟩ = some (.int .i64 a0_1) ∧ w'.cell? ⟨gb241, 2, none⟩ = some (.slice A0_2 l0_2.length c0_2) ∧ w'.cell? (ad244.add (x11_1).toNat) = some (.int .i64 (rd l0_0 x11_1))) (ds := [10]) #[false, false, false, false, false, false, false, false, false, false, false] (by kernel_rfl) rfl rfl ⟨(blk_cell BK243.out 0).trans rfl, (blk_cell BK243.out 1).trans rfl, (blk_cell BK243.out 2).trans rfl, (blk_cell BK241.out 0).trans rfl, (blk_cell BK241.out 1).trans rfl, (blk_cell BK241.out 2).trans rfl, (pw_cell_below HB.out hw244_0)⟩ (fun hHeld => ?_); refine with_tabW skiarearef19_Sign.tab5 skiarearef19_Sign.bits5 (fun HT_ HW_ => ?_)
      generalize wr.drew = w19 at HO_244000 BK241 BK242 BK243 HB hx244_0 hHeld ⊢
      refine pq_ 0 (some 24) #[true, false, false, false, false, false, false, false, false, false, false] ?_
      refine pq_ 2 (some 26) #[true, false, true, false, false, false, false, false, false, false, false] ?_
      refine pq_ 4 (some 28) #[true, false, true, false, true, false, false, false, false, false, false] ?_
      refine take_ (i := 1) (N := some 25) (v := ?_) (a' := ?_) #[true, true, true, false, true, false, false, false, false, false, false] rfl rfl (take_ofW HT_.out HW_.out (by kernel_rfl)) (fun _ _ _ h => h) (Or.inl ⟨by rfl, ?_⟩) hHeld ?_ ?_
      rotate_left
      ·rintro w' ⟨s0, s1, s2, s3, s4, s5, s6⟩
       go_simp
       with_reducible rfl
      rotate_left
      ·simp only [Act.put, List.setIfInBounds_toArray, List.set_cons_zero, List.set_cons_succ, i64_w, i32_w]
       rfl
      refine take_ (i := 3) (N := some 27) (v := ?_) (a' := ?_) #[true, true, true, true, true, false, false, false, false, false, false] rfl rfl (take_ofW HT_.out HW_.out (by kernel_rfl)) (fun _ _ _ h => h) (Or.inl ⟨by rfl, ?_⟩) hHeld ?_ ?_
      rotate_left
      ·rintro w' ⟨s0, s1, s2, s3, s4, s5, s6⟩
       go_simp
       with_reducible rfl
      rotate_left
      ·simp only [Act.put, List.setIfInBounds_toArray, List.set_cons_zero, List.set_cons_succ, i64_w, i32_w]
       rfl
      refine pq_ 5 (some 29) #[true, true, true, true, true, true, false, false, false, false, false] ?_
      refine take_ (i := 6) (N := some 30) (v := ?_) (a' := ?_) #[true, true, true, true, true, true, true, false, false, false, false] rfl rfl (take_ofW HT_.out HW_.out (by kernel_rfl)) (fun _ _ _ h => h) (Or.inl ⟨by rfl, ?_⟩) hHeld ?_ ?_
      rotate_left
      ·rintro w' ⟨s0, s1, s2, s3, s4, s5, s6⟩
       go_simp
       with_reducible rfl
      rotate_left
      ·simp only [Act.put, List.setIfInBounds_toArray, List.set_cons_zero, List.set_cons_succ, i64_w, i32_w]
       rfl
      refine one_ (i := 7) (N := some 31) #[true, true, true, true, true, true, true, true, false, false, false] rfl rfl (one_of HT_.out (by kernel_rfl)) (by decide) (fun K hK => ?_)
      refine value_ (w1 := ?_) (v := ?_) (by rfl) rfl ?_ ?_
      rotate_left 2
      ·go_simp
       constructor
       ·rfl
       ·rfl
      refine hK.out _ _ ⟨(blk_cell (blk_alloc BK243.out _) 0).trans rfl, (blk_cell (blk_alloc BK243.out _) 1).trans rfl, (blk_cell (blk_alloc BK243.out _) 2).trans rfl, (blk_cell (blk_alloc BK241.out _) 0).trans rfl, (blk_cell (blk_alloc BK241.out _) 1).trans rfl, (blk_cell (blk_alloc BK241.out _) 2).trans rfl, (World.cell?_alloc_lt _ _ _ (World.block_lt_of_cell? _ _ ((pw_cell_below HB.out hw244_0)))).trans ((pw_cell_below HB.out hw244_0))⟩ (fun hHeld => ?_)
      clear hK K
      refine norm_ (a' := ?_) ?_ ?_
      rotate_left
      ·show Act.put _ (some 31) _ = _
       simp only [Act.put, List.setIfInBounds_toArray, List.set_cons_zero, List.set_cons_succ, i64_w, i32_w]
       rfl
      refine one_ (i := 8) (N := some 32) #[true, true, true, true, true, true, true, true, true, false, false] rfl rfl (one_of HT_.out (by kernel_rfl)) (by decide) (fun K hK => ?_)
      refine Kd.R_append_step (Kd.int .i64) (w0 := w) w.heap.size (by rfl) (.tmp 25) (.tmp 31) 22 3 (.int .i64 0) 8 rfl Try.underlying22 info3 rfl (by decide) (by omega) u244000 x244000_1 (rd l0_0 x11_1) [.int .i64 (rd l0_0 x11_1)] (fun _ => True) (fun _ => False) rfl rfl ?aP (fun _ hk => hk.elim) ?aF ?aO ?aB ?aS ?aL ?_
      (case aP => exact rfl)
      (case aB => exact bel_)
      (case aF => exact (fun _ _ => trivial))
      (case aO => exact (kR_ HO_244000.out))
      (case aS => exact (below_size bel_))
      (case aL => have := LMc15.out; omega)
      intro v246 w20 ho hb hg hat
      rw [← Ny245.out] at ho
      have n0_ := a_ (blk_grown (bk_ BK241.out) hg (Kd.R_ne HO_244000.out BK241.out (by decide)))
      have n1_ := a_ (blk_grown (bk_ BK242.out) hg (Kd.R_ne HO_244000.out BK242.out (by decide)))
      have n2_ := a_ (blk_grown (bk_ BK243.out) hg (Kd.R_ne HO_244000.out BK243.out (by decide)))
      have n3_ := a_ (hb)
      have n4_ := a_ (ho)
      clear BK241
      clear BK242
      clear BK243
      clear HB
      clear HO_244000
      have BK241 := n0_
      have BK242 := n1_
      have BK243 := n2_
      have HB := n3_
      have HO247 := n4_
      clear n0_ n1_ n2_ n3_ n4_
      clear ho hb hg hat
      obtain ⟨Ao21, co21, eo21⟩ := Kd.R_slice HO247.out
      (first | subst eo21 | (injection eo21 with f1_ f2_ f3_; have f4_ := f1_.symm; have f5_ := f3_.symm; clear f1_ f2_ f3_; subst f4_; subst f5_))
      refine hK.out _ _ ⟨(blk_cell BK243.out 0).trans rfl, (blk_cell BK243.out 1).trans rfl, (blk_cell BK243.out 2).trans rfl, (blk_cell BK241.out 0).trans rfl, (blk_cell BK241.out 1).trans rfl, (blk_cell BK241.out 2).trans rfl, (pw_cell_below HB.out hw244_0)⟩ (fun hHeld => ?_)
      clear hK K
      refine norm_ (a' := ?_) ?_ ?_
      rotate_left
      ·show Act.put _ (some 32) _ = _
       simp only [Act.put, List.setIfInBounds_toArray, List.set_cons_zero, List.set_cons_succ, i64_w, i32_w]
       rfl
      refine pq_ 9 (some 33) #[true, true, true, true, true, true, true, true, true, true, false] ?_
      refine last_ (i := 10) (N := none) #[true, true, true, true, true, true, true, true, true, true, true] rfl rfl (one_of HT_.out (by kernel_rfl)) (by decide) (fun K hK => ?_)
      have hs22 : w20.cell? ⟨gb243, 0, none⟩ = some (u244000) := (blk_cell BK243.out 0).trans rfl
      have hfs22 := blk_frozen BK243.out 0
      have hns22_0 := NB241_243.out
      have hns22_1 := NB242_243.out
      have hms22_0 := NB243_241.out
      have hms22_1 := NB243_242.out
      refine skip_ (w1 := ?_) (by rfl) rfl ?_ ?_
      rotate_left
      ·go_simp
       rfl
      refine hK.out _ _ ?_
      clear hK K
      refine done_ (done_of HT_.out (by kernel_rfl)) ?_
      try go_wp2
      go_roundg k1
      case measure => have := HK1.out; omega
      case rel => exact ⟨(wrap64 (x11_1 + 1)), (y245), (.slice Ao21 y245.length co21), (by first | rfl | (simp; done) | (simp [*]; done)), H', ⟨by have := HK1.out; omega⟩, ⟨by (with_reducible repeat (first | apply Kd.R_alloc | apply Kd.R_drewN | apply Kd.R_drew)); exact Kd.R_mono (Kd.R_far (p := ⟨gb243, 0, none⟩) (Kd.R_types HO247.out BK243.out (by decide)) (fun _ hk => hk.2) (.slice Ao21 y245.length co21)) (fun _ hk => trivial)⟩, ⟨by refine blk_far ?_ NB241_243.out _; exact BK241.out⟩, ⟨by refine blk_far ?_ NB242_243.out _; exact BK242.out⟩, ⟨by refine blk_put (cs := #[u244000, .int .i64 a0_1, .slice none 0 0]) ?_ 0 _ rfl; exact BK243.out⟩, ⟨by repeat (first | (with_reducible first | exact HB.out | apply below_alloc | apply pw_below_drewN | apply below_drew1 | refine below_set ?_ GE241.out | refine below_set ?_ GE242.out | refine below_set ?_ GE243.out) | exact HB.out)⟩⟩
     ·rw [if_neg c15] at H
      exact absurd H (by simp)
    ·rw [if_neg c14] at H
     exact absurd H (by simp)
   ·rw [if_neg c13] at H
    have c13b0 : decide (x11_1 < (l0_0.length : Int)) = false := decide_eq_false c13
    clear c13
    have H' := a_ H
    clear H
    have hnb23 := NB241_242.out
    have hnc23 := NB242_241.out
    have hnb24 := NB241_243.out
    have hnc24 := NB243_241.out
    have hcz25_0 := cz_ BK241 0
    have hcz25_1 := cz_ BK241 1
    have hcz25_2 := cz_ BK241 2
    have hfz25_0 := fz_ BK241 0
    have hfz25_1 := fz_ BK241 1
    have hfz25_2 := fz_ BK241 2
    go_wp2
    go_loopg [12] k1 (fun kq v12 w' => ∃ (x12_2 : Int) (x244002_2 : List (S35)) (u244002 : Value), v12 = .int .i64 x12_2 ∧ Aside0 (skiarearef19_Sign.l1 kq a1 a2 a3 x12_2 l0_0 a0_1 l0_2 x244000_1 a0_1 x244002_2 = some (r1, r2, r3, r4)) ∧ Aside0 (kq ≤ k1) ∧ Aside0 (Kd.R (Kd.int .i64) 3 w' w.heap.size (fun _ => True) u244000 x244000_1) ∧ Aside0 (Kd.R k35 35 w' w.heap.size (fun _ => True) u244002 x244002_2) ∧ Aside0 (w'.heap[gb241]? = some (.cells #[(.slice A0_0 l0_0.length c0_0), .int .i64 a0_1, (.slice A0_2 l0_2.length c0_2)] 25 (0, 0))) ∧ Aside0 (w'.heap[gb242]? = some (.cells #[(.slice none 0 0), .int .i64 0, (.slice none 0 0)] 25 (0, 0))) ∧ Aside0 (w'.heap[gb243]? = some (.cells #[u244000, .int .i64 a0_1, u244002] 25 (0, 0))) ∧ Aside0 (Below w.heap.size w w'))
    case atStart => exact ⟨(0), (([] : List (S35))), (.slice none 0 0), (by first | rfl | (simp; done) | (simp [*]; done)), H', ⟨Nat.le_refl _⟩, ⟨by (with_reducible repeat (first | apply Kd.R_alloc | apply Kd.R_drewN | apply Kd.R_drew)); exact HO_244000.out⟩, ⟨by first | exact Kd.R_nil _ _ _ _ _ | exact Kd.N_nil _ _ _ _ _ | exact Kd.V_nil _ _ _ _ _ | exact Kd.Q_nil _ _ _ _ _ | exact Kd.S_nil _ _ _ _ _⟩, ⟨by exact BK241.out⟩, ⟨by exact BK242.out⟩, ⟨by exact BK243.out⟩, ⟨by repeat (first | (with_reducible first | exact HB.out | apply below_alloc | apply pw_below_drewN | apply below_drew1 | refine below_set ?_ GE241.out | refine below_set ?_ GE242.out | refine below_set ?_ GE243.out) | exact HB.out)⟩⟩
    case round =>
     clear H'
     try clear c1
     try clear c2
     try clear p2
     try clear q2
     try clear hx2
     try clear p6
     try clear c7
     try clear c10
     try clear c11
     try clear c13
     try clear c13b0
     try clear c14
     try clear c14b0
     try clear c15
     try clear c16
     try clear c17
     try clear c22
     try clear c23
     try clear c24
     try clear p24
     try clear q24
     try clear hx24
     try clear hcz12_0
     try clear hcz12_1
     try clear hcz12_2
     try clear hcz18_0
     try clear hcz18_1
     try clear hcz18_2
     try clear hcz25_0
     try clear hcz25_1
     try clear hcz25_2
     try clear hcz8_0
     try clear hcz8_1
     try clear hcz8_2
     try clear hfz12_0
     try clear hfz12_1
     try clear hfz12_2
     try clear hfz18_0
     try clear hfz18_1
     try clear hfz18_2
     try clear hfz25_0
     try clear hfz25_1
     try clear hfz25_2
     try clear hfz8_0
     try clear hfz8_1
     try clear hfz8_2
     try clear hx244_0
     try clear p2
     try clear p244
     try clear q244
     obtain ⟨x12_2, x244002_2, u244002, rfl, HA, HK2, HO_244000, HO_244002, BK241, BK242, BK243, HB⟩ := hrel
     cases gk with
     | zero => exact absurd HA.out (by simp [skiarearef19_Sign.l1])
     | succ k2 =>
      have H := HA.out
      clear HA
      simp only [skiarearef19_Sign.l1] at H
      by_cases c26 : x12_2 < (l0_2.length : Int)
      ·rw [if_pos c26] at H
       have c26b0 : decide (x12_2 < (l0_2.length : Int)) = true := decide_eq_true c26
       clear c26
       by_cases c27 : 0 ≤ x12_2
       ·rw [if_pos c27] at H
        have c27b0 : decide (0 ≤ x12_2) = true := decide_eq_true c27
        clear c27
        by_cases c28 : ((rd_T35 l0_2 x12_2).f0) = a1
        ·rw [if_pos c28] at H
         have c28b0 : (((rd_T35 l0_2 x12_2).f0) == a1) = true := beq_iff_eq.mpr c28
         have c28b1 : (((rd_T35 l0_2 x12_2).f0) != a1) = false := bne_eq_false_iff_eq.mpr c28
         clear c28
         have H' := a_ H
         clear H
         have hnb29 := NB241_242.out
         have hnc29 := NB242_241.out
         have hnb30 := NB241_243.out
         have hnc30 := NB243_241.out
         have hcz31_0 := cz_ BK241 0
         have hcz31_1 := cz_ BK241 1
         have hcz31_2 := cz_ BK241 2
         have hfz31_0 := fz_ BK241 0
         have hfz31_1 := fz_ BK241 1
         have hfz31_2 := fz_ BK241 2
         have p248 : 0 ≤ (x12_2 : Int) := od_
         have q248 : x12_2 < (l0_2.length : Int) := od_
         obtain ⟨ad248, e248, hx248_0, hx248_1, hx248_2⟩ := at_T35 HR0_2.out x12_2 p248 q248
         cases e248
         replace hx248_0 := pc_ hx248_0
         replace hx248_1 := pc_ hx248_1
         replace hx248_2 := pc_ hx248_2
         replace p248 := eq_true p248
         replace q248 := eq_true q248
         go_wp2
         go_roundg k2
         case measure => have := HK1.out; have := HK2.out; omega
         case rel => exact ⟨(wrap64 (x12_2 + 1)), (x244002_2), (u244002), (by first | rfl | (simp; done) | (simp [*]; done)), H', ⟨by have := HK1.out; have := HK2.out; omega⟩, ⟨by (with_reducible repeat (first | apply Kd.R_alloc | apply Kd.R_drewN | apply Kd.R_drew)); exact HO_244000.out⟩, ⟨by (with_reducible repeat (first | apply Kd.R_alloc | apply Kd.R_drewN | apply Kd.R_drew)); exact HO_244002.out⟩, ⟨by exact BK241.out⟩, ⟨by exact BK242.out⟩, ⟨by exact BK243.out⟩, ⟨by repeat (first | (with_reducible first | exact HB.out | apply below_alloc | apply pw_below_drewN | apply below_drew1 | refine below_set ?_ GE241.out | refine below_set ?_ GE242.out | refine below_set ?_ GE243.out) | exact HB.out)⟩⟩
        ·rw [if_neg c28] at H
         have c28b0 : (((rd_T35 l0_2 x12_2).f0) == a1) = false := beq_eq_false_iff_ne.mpr c28
         have c28b1 : (((rd_T35 l0_2 x12_2).f0) != a1) = true := bne_iff_ne.mpr c28
         by_cases c32 : x244002_2.length < 5864062014805
         ·rw [if_pos c32] at H
          have LMc32 := a_ c32
          clear c32
          obtain ⟨y250, hy250⟩ : ∃ y_ : List (S35), y_ = (x244002_2 ++ [(⟨(rd_T35 l0_2 x12_2).f0, (rd_T35 l0_2 x12_2).f1, (rd_T35 l0_2 x12_2).f2⟩ : S35)]) := ⟨_, rfl⟩
          replace H : (skiarearef19_Sign.l1 k2 a1 a2 a3 (wrap64 (x12_2 + 1)) l0_0 a0_1 l0_2 x244000_1 a0_1 y250) = some (r1, r2, r3, r4) := by first | (rw [hy250]; with_reducible exact H) | (have H2_ := (Option.bind_some _ _).symm.trans H; rw [hy250]; with_reducible exact H2_) | (have H2_ := (Option.bind_some _ _).symm.trans H; with_reducible exact H2_) | with_reducible exact H | (rw [hy250]; exact H) | exact H
          have Ny250 := a_ hy250
          clear hy250
          have H' := a_ H
          clear H
          have hnb33 := NB241_242.out
          have hnc33 := NB242_241.out
          have hnb34 := NB241_243.out
          have hnc34 := NB243_241.out
          have hcz35_0 := cz_ BK241 0
          have hcz35_1 := cz_ BK241 1
          have hcz35_2 := cz_ BK241 2
          have hfz35_0 := fz_ BK241 0
          have hfz35_1 := fz_ BK241 1
          have hfz35_2 := fz_ BK241 2
          have p248 : 0 ≤ (x12_2 : Int) := od_
          have q248 : x12_2 < (l0_2.length : Int) := od_
          obtain ⟨ad248, e248, hx248_0, hx248_1, hx248_2⟩ := at_T35 HR0_2.out x12_2 p248 q248
          cases e248
          replace hx248_0 := pc_ hx248_0
          replace hx248_1 := pc_ hx248_1
          replace hx248_2 := pc_ hx248_2
          replace p248 := eq_true p248
          replace q248 := eq_true q248
          try go_wp2
          have n0_ := a_ (Kd.R_drew HO_244000.out)
          have n1_ := a_ (Kd.R_drew HO_244002.out)
          have n2_ := a_ (blk_drew BK241.out)
          have n3_ := a_ (blk_drew BK242.out)
          have n4_ := a_ (blk_drew BK243.out)
          have n5_ := a_ (below_drew1 HB.out)
          clear HO_244000
          clear HO_244002
          clear BK241
          clear BK242
          clear BK243
          clear HB
          have HO_244000 := n0_
          have HO_244002 := n1_
          have BK241 := n2_
          have BK242 := n3_
          have BK243 := n4_
          have HB := n5_
          clear n0_ n1_ n2_ n3_ n4_ n5_
          have p249 : 0 ≤ (x12_2 : Int) := od_
          have q249 : x12_2 < (l0_2.length : Int) := od_
          obtain ⟨ad249, e249, hx249_0, hx249_1, hx249_2⟩ := at_T35 HR0_2.out x12_2 p249 q249
          have hw249_2 := hx249_2
          have hw249_1 := hx249_1
          have hw249_0 := hx249_0
          obtain rfl : ad248 = ad249 := (by injection e249)
          replace hx249_0 := pc_ hx249_0
          replace hx249_1 := pc_ hx249_1
          replace hx249_2 := pc_ hx249_2
          replace p249 := eq_true p249
          replace q249 := eq_true q249
          refine start_ (n := 11) (S := fun w' => w'.cell? ⟨gb243, 0, none⟩ = some (u244000) ∧ w'.cell? ⟨gb243, 1, none⟩ = some (.int .i64 a0_1) ∧ w'.cell? ⟨gb243, 2, none⟩ = some (u244002) ∧ w'.cell? ⟨gb241, 0, none⟩ = some (.slice A0_0 l0_0.length c0_0) ∧ w'.cell? ⟨gb241, 1, none⟩ = some (.int .i64 a0_1) ∧ w'.cell? ⟨gb241, 2, none⟩ = some (.slice (some ad248) l0_2.length c0_2) ∧ w'.cell? (ad248.add ((x12_2).toNat * 3)) = some (.int .i64 ((rd_T35 l0_2 x12_2).f0)) ∧ w'.cell? ⟨(ad248.add ((x12_2).toNat * 3)).block, (ad248.add ((x12_2).toNat * 3)).off + 1, none⟩ = some (.int .i64 ((rd_T35 l0_2 x12_2).f1)) ∧ w'.cell? ⟨(ad248.add ((x12_2).toNat * 3)).block, (ad248.add ((x12_2).toNat * 3)).off + 2, none⟩ = some (.int .i64 ((rd_T35 l0_2 x12_2).f2))) (ds := [10]) #[false, false, false, false, false, false, false, false, false, false, false] (by kernel_rfl) rfl rfl ⟨(blk_cell BK243.out 0).trans rfl, (blk_cell BK243.out 1).trans rfl, (blk_cell BK243.out 2).trans rfl, (blk_cell BK241.out 0).trans rfl, (blk_cell BK241.out 1).trans rfl, (blk_cell BK241.out 2).trans rfl, (pw_cell_below HB.out hw249_0), (pw_cell_below HB.out hw249_1), (pw_cell_below HB.out hw249_2)⟩ (fun hHeld => ?_); refine with_tabW skiarearef19_Sign.tab10 skiarearef19_Sign.bits10 (fun HT_ HW_ => ?_)
          generalize wr.drew = w36 at HO_244000 HO_244002 BK241 BK242 BK243 HB hx249_0 hx249_1 hx249_2 hHeld ⊢
          refine pq_ 0 (some 49) #[true, false, false, false, false, false, false, false, false, false, false] ?_
          refine pq_ 2 (some 51) #[true, false, true, false, false, false, false, false, false, false, false] ?_
          refine pq_ 4 (some 53) #[true, false, true, false, true, false, false, false, false, false, false] ?_
          refine take_ (i := 1) (N := some 50) (v := ?_) (a' := ?_) #[true, true, true, false, true, false, false, false, false, false, false] rfl rfl (take_ofW HT_.out HW_.out (by kernel_rfl)) (fun _ _ _ h => h) (Or.inl ⟨by rfl, ?_⟩) hHeld ?_ ?_
          rotate_left
          ·rintro w' ⟨s0, s1, s2, s3, s4, s5, s6, s7, s8⟩
           go_simp
           with_reducible rfl
          rotate_left
          ·simp only [Act.put, List.setIfInBounds_toArray, List.set_cons_zero, List.set_cons_succ, i64_w, i32_w]
           rfl
          refine take_ (i := 3) (N := some 52) (v := ?_) (a' := ?_) #[true, true, true, true, true, false, false, false, false, false, false] rfl rfl (take_ofW HT_.out HW_.out (by kernel_rfl)) (fun _ _ _ h => h) (Or.inl ⟨by rfl, ?_⟩) hHeld ?_ ?_
          rotate_left
          ·rintro w' ⟨s0, s1, s2, s3, s4, s5, s6, s7, s8⟩
           go_simp
           with_reducible rfl
          rotate_left
          ·simp only [Act.put, List.setIfInBounds_toArray, List.set_cons_zero, List.set_cons_succ, i64_w, i32_w]
           rfl
          refine pq_ 5 (some 54) #[true, true, true, true, true, true, false, false, false, false, false] ?_
          refine take_ (i := 6) (N := some 55) (v := ?_) (a' := ?_) #[true, true, true, true, true, true, true, false, false, false, false] rfl rfl (take_ofW HT_.out HW_.out (by kernel_rfl)) (fun _ _ _ h => h) (Or.inl ⟨by rfl, ?_⟩) hHeld ?_ ?_
          rotate_left
          ·rintro w' ⟨s0, s1, s2, s3, s4, s5, s6, s7, s8⟩
           go_simp
           with_reducible rfl
          rotate_left
          ·simp only [Act.put, List.setIfInBounds_toArray, List.set_cons_zero, List.set_cons_succ, i64_w, i32_w]
           rfl
          refine one_ (i := 7) (N := some 56) #[true, true, true, true, true, true, true, true, false, false, false] rfl rfl (one_of HT_.out (by kernel_rfl)) (by decide) (fun K hK => ?_)
          refine value_ (w1 := ?_) (v := ?_) (by rfl) rfl ?_ ?_
          rotate_left 2
          ·go_simp
           constructor
           ·rfl
           ·rfl
          refine hK.out _ _ ⟨(blk_cell (blk_alloc BK243.out _) 0).trans rfl, (blk_cell (blk_alloc BK243.out _) 1).trans rfl, (blk_cell (blk_alloc BK243.out _) 2).trans rfl, (blk_cell (blk_alloc BK241.out _) 0).trans rfl, (blk_cell (blk_alloc BK241.out _) 1).trans rfl, (blk_cell (blk_alloc BK241.out _) 2).trans rfl, (World.cell?_alloc_lt _ _ _ (World.block_lt_of_cell? _ _ ((pw_cell_below HB.out hw249_0)))).trans ((pw_cell_below HB.out hw249_0)), (World.cell?_alloc_lt _ _ _ (World.block_lt_of_cell? _ _ ((pw_cell_below HB.out hw249_1)))).trans ((pw_cell_below HB.out hw249_1)), (World.cell?_alloc_lt _ _ _ (World.block_lt_of_cell? _ _ ((pw_cell_below HB.out hw249_2)))).trans ((pw_cell_below HB.out hw249_2))⟩ (fun hHeld => ?_)
          clear hK K
          refine norm_ (a' := ?_) ?_ ?_
          rotate_left
          ·show Act.put _ (some 56) _ = _
           simp only [Act.put, List.setIfInBounds_toArray, List.set_cons_zero, List.set_cons_succ, i64_w, i32_w]
           rfl
          refine one_ (i := 8) (N := some 57) #[true, true, true, true, true, true, true, true, true, false, false] rfl rfl (one_of HT_.out (by kernel_rfl)) (by decide) (fun K hK => ?_)
          refine Kd.R_append_step k35 (w0 := w) w.heap.size (by rfl) (.tmp 50) (.tmp 56) 23 35 (.agg #[(.int .i64 0), (.int .i64 0), (.int .i64 0)]) 24 rfl Try.underlying23 info35 rfl (by decide) (by omega) u244002 x244002_2 (⟨(rd_T35 l0_2 x12_2).f0, (rd_T35 l0_2 x12_2).f1, (rd_T35 l0_2 x12_2).f2⟩ : S35) [.int .i64 ((rd_T35 l0_2 x12_2).f0), .int .i64 ((rd_T35 l0_2 x12_2).f1), .int .i64 ((rd_T35 l0_2 x12_2).f2)] (fun _ => True) (fun _ => False) rfl rfl ?aP (fun _ hk => hk.elim) ?aF ?aO ?aB ?aS ?aL ?_
          (case aP => exact k35_mkM _ _ _ (⟨(rd_T35 l0_2 x12_2).f0, (rd_T35 l0_2 x12_2).f1, (rd_T35 l0_2 x12_2).f2⟩ : S35))
          (case aB => exact bel_)
          (case aF => exact (fun _ _ => trivial))
          (case aO => exact (kR_ HO_244002.out))
          (case aS => exact (below_size bel_))
          (case aL => have := LMc32.out; omega)
          intro v251 w37 ho hb hg hat
          rw [← Ny250.out] at ho
          have n0_ := a_ (Kd.R_over' (kR_ HO_244000.out) (Kd.R_typed (kR_ HO_244002.out)) (by decide) hg)
          have n1_ := a_ (blk_grown (bk_ BK241.out) hg (Kd.R_ne HO_244002.out BK241.out (by decide)))
          have n2_ := a_ (blk_grown (bk_ BK242.out) hg (Kd.R_ne HO_244002.out BK242.out (by decide)))
          have n3_ := a_ (blk_grown (bk_ BK243.out) hg (Kd.R_ne HO_244002.out BK243.out (by decide)))
          have n4_ := a_ (hb)
          have n5_ := a_ (ho)
          clear HO_244000
          clear BK241
          clear BK242
          clear BK243
          clear HB
          clear HO_244002
          have HO_244000 := n0_
          have BK241 := n1_
          have BK242 := n2_
          have BK243 := n3_
          have HB := n4_
          have HO252 := n5_
          clear n0_ n1_ n2_ n3_ n4_ n5_
          clear ho hb hg hat
          obtain ⟨Ao38, co38, eo38⟩ := Kd.R_slice HO252.out
          (first | subst eo38 | (injection eo38 with f1_ f2_ f3_; have f4_ := f1_.symm; have f5_ := f3_.symm; clear f1_ f2_ f3_; subst f4_; subst f5_))
          refine hK.out _ _ ⟨(blk_cell BK243.out 0).trans rfl, (blk_cell BK243.out 1).trans rfl, (blk_cell BK243.out 2).trans rfl, (blk_cell BK241.out 0).trans rfl, (blk_cell BK241.out 1).trans rfl, (blk_cell BK241.out 2).trans rfl, (pw_cell_below HB.out hw249_0), (pw_cell_below HB.out hw249_1), (pw_cell_below HB.out hw249_2)⟩ (fun hHeld => ?_)
          clear hK K
          refine norm_ (a' := ?_) ?_ ?_
          rotate_left
          ·show Act.put _ (some 57) _ = _
           simp only [Act.put, List.setIfInBounds_toArray, List.set_cons_zero, List.set_cons_succ, i64_w, i32_w]
           rfl
          refine pq_ 9 (some 58) #[true, true, true, true, true, true, true, true, true, true, false] ?_
          refine last_ (i := 10) (N := none) #[true, true, true, true, true, true, true, true, true, true, true] rfl rfl (one_of HT_.out (by kernel_rfl)) (by decide) (fun K hK => ?_)
          have hs39 : w37.cell? ⟨gb243, 2, none⟩ = some (u244002) := (blk_cell BK243.out 2).trans rfl
          have hfs39 := blk_frozen BK243.out 2
          have hns39_0 := NB241_243.out
          have hns39_1 := NB242_243.out
          have hms39_0 := NB243_241.out
          have hms39_1 := NB243_242.out
          refine skip_ (w1 := ?_) (by rfl) rfl ?_ ?_
          rotate_left
          ·go_simp
           rfl
          refine hK.out _ _ ?_
          clear hK K
          refine done_ (done_of HT_.out (by kernel_rfl)) ?_
          try go_wp2
          go_roundg k2
          case measure => have := HK1.out; have := HK2.out; omega
          case rel => exact ⟨(wrap64 (x12_2 + 1)), (y250), (.slice Ao38 y250.length co38), (by first | rfl | (simp; done) | (simp [*]; done)), H', ⟨by have := HK1.out; have := HK2.out; omega⟩, ⟨by (with_reducible repeat (first | apply Kd.R_alloc | apply Kd.R_drewN | apply Kd.R_drew)); exact Kd.R_mono (Kd.R_far (p := ⟨gb243, 2, none⟩) (Kd.R_types HO_244000.out BK243.out (by decide)) (fun _ hk => hk.2) (.slice Ao38 y250.length co38)) (fun _ hk => trivial)⟩, ⟨by (with_reducible repeat (first | apply Kd.R_alloc | apply Kd.R_drewN | apply Kd.R_drew)); exact Kd.R_mono (Kd.R_far (p := ⟨gb243, 2, none⟩) (Kd.R_types HO252.out BK243.out (by decide)) (fun _ hk => hk.2) (.slice Ao38 y250.length co38)) (fun _ hk => trivial)⟩, ⟨by refine blk_far ?_ NB241_243.out _; exact BK241.out⟩, ⟨by refine blk_far ?_ NB242_243.out _; exact BK242.out⟩, ⟨by refine blk_put (cs := #[u244000, .int .i64 a0_1, u244002]) ?_ 2 _ rfl; exact BK243.out⟩, ⟨by repeat (first | (with_reducible first | exact HB.out | apply below_alloc | apply pw_below_drewN | apply below_drew1 | refine below_set ?_ GE241.out | refine below_set ?_ GE242.out | refine below_set ?_ GE243.out) | exact HB.out)⟩⟩
         ·rw [if_neg c32] at H
          exact absurd H (by simp)
       ·rw [if_neg c27] at H
        exact absurd H (by simp)
      ·rw [if_neg c26] at H
       have c26b0 : decide (x12_2 < (l0_2.length : Int)) = false := decide_eq_false c26
       clear c26
       by_cases c40 : x244002_2.length < 5864062014805
       ·rw [if_pos c40] at H
        have LMc40 := a_ c40
        clear c40
        obtain ⟨y253, hy253⟩ : ∃ y_ : List (S35), y_ = (x244002_2 ++ [(⟨a1, a2, a3⟩ : S35)]) := ⟨_, rfl⟩
        replace H : ((skiarearef19_Right.f k2 x244000_1 a0_1 y253).bind fun t256 => (if t256 = 0 then (some (x244000_1, a0_1, y253, 0)) else (some (([] : List Int), 0, ([] : List (S35)), t256)))) = some (r1, r2, r3, r4) := by first | (rw [hy253]; with_reducible exact H) | (have H2_ := (Option.bind_some _ _).symm.trans H; rw [hy253]; with_reducible exact H2_) | (have H2_ := (Option.bind_some _ _).symm.trans H; with_reducible exact H2_) | with_reducible exact H | (rw [hy253]; exact H) | exact H
        have Ny253 := a_ hy253
        clear hy253
        replace H := Option.bind_eq_some_iff.mp H
        obtain ⟨t256, A410, H⟩ := H
        replace H : (if t256 = 0 then (some (x244000_1, a0_1, y253, 0)) else (some (([] : List Int), 0, ([] : List (S35)), t256))) = some (r1, r2, r3, r4) := H
        have A41 := a_ A410
        clear A410
        by_cases c42 : t256 = 0
        ·rw [if_pos c42] at H
         have c42b0 : (t256 == 0) = true := beq_iff_eq.mpr c42
         have c42b1 : (t256 != 0) = false := bne_eq_false_iff_eq.mpr c42
         clear c42
         simp only [Option.some.injEq, Prod.mk.injEq] at H
         obtain ⟨rfl, rfl, rfl, rfl⟩ := H
         have hnb43 := NB241_242.out
         have hnc43 := NB242_241.out
         have hnb44 := NB241_243.out
         have hnc44 := NB243_241.out
         have hcz45_0 := cz_ BK241 0
         have hcz45_1 := cz_ BK241 1
         have hcz45_2 := cz_ BK241 2
         have hfz45_0 := fz_ BK241 0
         have hfz45_1 := fz_ BK241 1
         have hfz45_2 := fz_ BK241 2
         have hnb46 := NB243_242.out
         have hnc46 := NB242_243.out
         have hcz47_0 := cz_ BK243 0
         have hcz47_1 := cz_ BK243 1
         have hcz47_2 := cz_ BK243 2
         have hfz47_0 := fz_ BK243 0
         have hfz47_1 := fz_ BK243 1
         have hfz47_2 := fz_ BK243 2
         go_wp2_with (first | ((with_reducible refine gate_builtin (b := .append) (xs := #[.tmp 60, .tmp 65]) rfl ?_); at_builtin; refine Kd.R_append k35 (w0 := w) w.heap.size rfl (.tmp 60) (.tmp 65) 23 35 (.agg #[(.int .i64 0), (.int .i64 0), (.int .i64 0)]) 24 rfl Try.underlying23 info35 rfl (by decide) (by omega) u244002 x244002_2 (⟨a1, a2, a3⟩ : S35) [.int .i64 a1, .int .i64 a2, .int .i64 a3] (fun _ => True) (fun _ => False) rfl rfl ?aP (fun _ hk => hk.elim) ?aF ?aO ?aB ?aS ?aL ?_; (case aP => exact k35_mkM _ _ _ (⟨a1, a2, a3⟩ : S35)); (case aB => exact bel_); (case aF => exact (fun _ _ => trivial)); (case aO => exact (kR_ HO_244002.out)); (case aS => exact (below_size bel_)); (case aL => have := LMc40.out; omega); intro v254 w48 ho hb hg hat; rw [← Ny253.out] at ho; have n0_ := a_ (Kd.R_over' (kR_ HO_244000.out) (Kd.R_typed (kR_ HO_244002.out)) (by decide) hg); have n1_ := a_ (blk_grown (bk_ BK241.out) hg (Kd.R_ne HO_244002.out BK241.out (by decide))); have n2_ := a_ (blk_grown (bk_ BK242.out) hg (Kd.R_ne HO_244002.out BK242.out (by decide))); have n3_ := a_ (blk_grown (bk_ BK243.out) hg (Kd.R_ne HO_244002.out BK243.out (by decide))); have n4_ := a_ (hb); have n5_ := a_ (ho); clear HO_244000; clear BK241; clear BK242; clear BK243; clear HB; clear HO_244002; have HO_244000 := n0_; have BK241 := n1_; have BK242 := n2_; have BK243 := n3_; have HB := n4_; have HO255 := n5_; clear n0_ n1_ n2_ n3_ n4_ n5_; clear ho hb hg hat; obtain ⟨Ao49, co49, eo49⟩ := Kd.R_slice HO255.out; subst eo49; have hcz50_0 := cz_ BK243 0; have hcz50_1 := cz_ BK243 1; have hcz50_2 := cz_ BK243 2; have hfz50_0 := fz_ BK243 0; have hfz50_1 := fz_ BK243 1; have hfz50_2 := fz_ BK243 2; obtain ⟨Ao51, co51, eo51⟩ := Kd.R_slice HO_244000.out; subst eo51) | ((with_reducible refine gate_callee (f := 20) rfl ?_); refine gs_ (some 69) Try.func20 #[.agg #[.slice Ao51 x244000_1.length co51, .int .i64 a0_1, .slice Ao49 y253.length co49]] ?_; (with_reducible refine (skiarearef19_Right.calls k2 _ _ x244000_1 a0_1 _ _ y253 t256 _ ?side1 ?side2 ?side3 ?side4 A41.out).mono ?_); (case side1 => refine (Kd.R_reads' (e := 3) (base := w.heap.size) (ok := fun k_ => True) (n := x244000_1.length) (c := co51) ?_).2.2; exact (by (with_reducible repeat (first | apply Kd.R_alloc | apply Kd.R_drewN | apply Kd.R_drew)); exact (Kd.R_mono (Kd.R_far (p := ⟨gb243, 2, none⟩) (Kd.R_types HO_244000.out BK243.out (by decide)) (fun _ hk => hk.2) (.slice Ao49 y253.length co49)) (fun _ h_ => h_.1)))); (case side2 => exact (Kd.R_reads' HO_244000.out).2.1); (case side3 => refine (Kd.R_reads' (e := 35) (base := w.heap.size) (ok := fun k_ => True) (n := y253.length) (c := co49) ?_).2.2; exact (by (with_reducible repeat (first | apply Kd.R_alloc | apply Kd.R_drewN | apply Kd.R_drew)); exact (Kd.R_mono (Kd.R_far (p := ⟨gb243, 2, none⟩) (Kd.R_types HO255.out BK243.out (by decide)) (fun _ hk => hk.2) (.slice Ao49 y253.length co49)) (fun _ h_ => h_.1)))); (case side4 => exact (Kd.R_reads' HO255.out).2.1); rintro e w52 ⟨rfl, hb⟩; refine ⟨_, rfl, ?_⟩; have n0_ := a_ (Kd.R_below (by (with_reducible repeat (first | apply Kd.R_alloc | apply Kd.R_drewN | apply Kd.R_drew)); exact (Kd.R_mono (Kd.R_far (p := ⟨gb243, 2, none⟩) (Kd.R_types HO_244000.out BK243.out (by decide)) (fun _ hk => hk.2) (.slice Ao49 y253.length co49)) (fun _ h_ => h_.1))) hb); have n1_ := a_ (Kd.R_below (by (with_reducible repeat (first | apply Kd.R_alloc | apply Kd.R_drewN | apply Kd.R_drew)); exact (Kd.R_mono (Kd.R_far (p := ⟨gb243, 2, none⟩) (Kd.R_types HO255.out BK243.out (by decide)) (fun _ hk => hk.2) (.slice Ao49 y253.length co49)) (fun _ h_ => h_.1))) hb); have n2_ := a_ (blk_below (g := gb241) (o := .cells #[.slice A0_0 l0_0.length c0_0, .int .i64 a0_1, .slice A0_2 l0_2.length c0_2] 25 (0, 0)) (by refine blk_far ?_ NB241_243.out _; exact BK241.out) hb); have n3_ := a_ (blk_below (g := gb242) (o := .cells #[.slice none 0 0, .int .i64 0, .slice none 0 0] 25 (0, 0)) (by refine blk_far ?_ NB242_243.out _; exact BK242.out) hb); have n4_ := a_ (blk_below (g := gb243) (o := .cells #[.slice Ao51 x244000_1.length co51, .int .i64 a0_1, .slice Ao49 y253.length co49] 25 (0, 0)) (by refine blk_put (cs := #[.slice Ao51 x244000_1.length co51, .int .i64 a0_1, u244002]) ?_ 2 _ rfl; exact BK243.out) hb); have n5_ := a_ (below_step bel_ hb); clear HO_244000; clear HO255; clear BK241; clear BK242; clear BK243; clear HB; have HO_244000 := n0_; have HO255 := n1_; have BK241 := n2_; have BK242 := n3_; have BK243 := n4_; have HB := n5_; clear n0_ n1_ n2_ n3_ n4_ n5_; (try clear hb); (try clear hb2); (try clear hk); (try clear hi); have hcz53_0 := cz_ BK243 0; have hcz53_1 := cz_ BK243 1; have hcz53_2 := cz_ BK243 2; have hfz53_0 := fz_ BK243 0; have hfz53_1 := fz_ BK243 1; have hfz53_2 := fz_ BK243 2; have hcz54_0 := cz_ BK242 0; have hcz54_1 := cz_ BK242 1; have hcz54_2 := cz_ BK242 2; have hfz54_0 := fz_ BK242 0; have hfz54_1 := fz_ BK242 1; have hfz54_2 := fz_ BK242 2))
         refine bodyPost_ret (results_ct rfl _ _ gb242 25 #[.slice Ao51 x244000_1.length co51, .int .i64 a0_1, .slice Ao49 y253.length co49] (0, 0) _ rfl (by refine blk_put (cs := #[.slice Ao51 x244000_1.length co51, .int .i64 a0_1, .slice none 0 0]) ?_ 2 _ rfl; refine blk_put (cs := #[.slice Ao51 x244000_1.length co51, .int .i64 0, .slice none 0 0]) ?_ 1 _ rfl; refine blk_put (cs := #[.slice none 0 0, .int .i64 0, .slice none 0 0]) ?_ 0 _ rfl; exact BK242.out) Try.underlying25 rfl (by kernel_rfl)) rfl ?_
         exact ⟨_, _, by first | rfl | (simp [errW_none, errW_some] <;> rfl) | (simp [*, errW_none, errW_some] <;> rfl), by (with_reducible repeat (first | apply Kd.R_alloc | apply Kd.R_drewN | apply Kd.R_drew)); exact Kd.R_mono (Kd.R_far (p := ⟨gb242, 2, none⟩) (Kd.R_far (p := ⟨gb242, 1, none⟩) (Kd.R_far (p := ⟨gb242, 0, none⟩) (Kd.R_types HO_244000.out BK242.out (by decide)) (fun _ hk => hk.2) (.slice Ao51 x244000_1.length co51)) (fun _ hk => hk.2) (.int .i64 a0_1)) (fun _ hk => hk.2) (.slice Ao49 y253.length co49)) (fun _ hk => trivial), by (with_reducible repeat (first | apply Kd.R_alloc | apply Kd.R_drewN | apply Kd.R_drew)); exact Kd.R_mono (Kd.R_far (p := ⟨gb242, 2, none⟩) (Kd.R_far (p := ⟨gb242, 1, none⟩) (Kd.R_far (p := ⟨gb242, 0, none⟩) (Kd.R_types HO255.out BK242.out (by decide)) (fun _ hk => hk.2) (.slice Ao51 x244000_1.length co51)) (fun _ hk => hk.2) (.int .i64 a0_1)) (fun _ hk => hk.2) (.slice Ao49 y253.length co49)) (fun _ hk => trivial), by repeat (first | (with_reducible first | exact HB.out | apply below_alloc | apply pw_below_drewN | apply below_drew1 | refine below_set ?_ GE241.out | refine below_set ?_ GE242.out | refine below_set ?_ GE243.out) | exact HB.out)⟩
        ·rw [if_neg c42] at H
         have c42b0 : (t256 == 0) = false := beq_eq_false_iff_ne.mpr c42
         have c42b1 : (t256 != 0) = true := bne_iff_ne.mpr c42
         simp only [Option.some.injEq, Prod.mk.injEq] at H
         obtain ⟨rfl, rfl, rfl, rfl⟩ := H
         have hnb55 := NB241_242.out
         have hnc55 := NB242_241.out
         have hnb56 := NB241_243.out
         have hnc56 := NB243_241.out
         have hcz57_0 := cz_ BK241 0
         have hcz57_1 := cz_ BK241 1
         have hcz57_2 := cz_ BK241 2
         have hfz57_0 := fz_ BK241 0
         have hfz57_1 := fz_ BK241 1
         have hfz57_2 := fz_ BK241 2
         have hnb58 := NB243_242.out
         have hnc58 := NB242_243.out
         have hcz59_0 := cz_ BK243 0
         have hcz59_1 := cz_ BK243 1
         have hcz59_2 := cz_ BK243 2
         have hfz59_0 := fz_ BK243 0
         have hfz59_1 := fz_ BK243 1
         have hfz59_2 := fz_ BK243 2
         go_wp2_with (first | ((with_reducible refine gate_builtin (b := .append) (xs := #[.tmp 60, .tmp 65]) rfl ?_); at_builtin; refine Kd.R_append k35 (w0 := w) w.heap.size rfl (.tmp 60) (.tmp 65) 23 35 (.agg #[(.int .i64 0), (.int .i64 0), (.int .i64 0)]) 24 rfl Try.underlying23 info35 rfl (by decide) (by omega) u244002 x244002_2 (⟨a1, a2, a3⟩ : S35) [.int .i64 a1, .int .i64 a2, .int .i64 a3] (fun _ => True) (fun _ => False) rfl rfl ?aP (fun _ hk => hk.elim) ?aF ?aO ?aB ?aS ?aL ?_; (case aP => exact k35_mkM _ _ _ (⟨a1, a2, a3⟩ : S35)); (case aB => exact bel_); (case aF => exact (fun _ _ => trivial)); (case aO => exact (kR_ HO_244002.out)); (case aS => exact (below_size bel_)); (case aL => have := LMc40.out; omega); intro v254 w60 ho hb hg hat; rw [← Ny253.out] at ho; have n0_ := a_ (Kd.R_over' (kR_ HO_244000.out) (Kd.R_typed (kR_ HO_244002.out)) (by decide) hg); have n1_ := a_ (blk_grown (bk_ BK241.out) hg (Kd.R_ne HO_244002.out BK241.out (by decide))); have n2_ := a_ (blk_grown (bk_ BK242.out) hg (Kd.R_ne HO_244002.out BK242.out (by decide))); have n3_ := a_ (blk_grown (bk_ BK243.out) hg (Kd.R_ne HO_244002.out BK243.out (by decide))); have n4_ := a_ (hb); have n5_ := a_ (ho); clear HO_244000; clear BK241; clear BK242; clear BK243; clear HB; clear HO_244002; have HO_244000 := n0_; have BK241 := n1_; have BK242 := n2_; have BK243 := n3_; have HB := n4_; have HO255 := n5_; clear n0_ n1_ n2_ n3_ n4_ n5_; clear ho hb hg hat; obtain ⟨Ao61, co61, eo61⟩ := Kd.R_slice HO255.out; subst eo61; have hcz62_0 := cz_ BK243 0; have hcz62_1 := cz_ BK243 1; have hcz62_2 := cz_ BK243 2; have hfz62_0 := fz_ BK243 0; have hfz62_1 := fz_ BK243 1; have hfz62_2 := fz_ BK243 2; obtain ⟨Ao63, co63, eo63⟩ := Kd.R_slice HO_244000.out; subst eo63) | ((with_reducible refine gate_callee (f := 20) rfl ?_); refine gs_ (some 69) Try.func20 #[.agg #[.slice Ao63 x244000_1.length co63, .int .i64 a0_1, .slice Ao61 y253.length co61]] ?_; (with_reducible refine (skiarearef19_Right.calls k2 _ _ x244000_1 a0_1 _ _ y253 t256 _ ?side1 ?side2 ?side3 ?side4 A41.out).mono ?_); (case side1 => refine (Kd.R_reads' (e := 3) (base := w.heap.size) (ok := fun k_ => True) (n := x244000_1.length) (c := co63) ?_).2.2; exact (by (with_reducible repeat (first | apply Kd.R_alloc | apply Kd.R_drewN | apply Kd.R_drew)); exact (Kd.R_mono (Kd.R_far (p := ⟨gb243, 2, none⟩) (Kd.R_types HO_244000.out BK243.out (by decide)) (fun _ hk => hk.2) (.slice Ao61 y253.length co61)) (fun _ h_ => h_.1)))); (case side2 => exact (Kd.R_reads' HO_244000.out).2.1); (case side3 => refine (Kd.R_reads' (e := 35) (base := w.heap.size) (ok := fun k_ => True) (n := y253.length) (c := co61) ?_).2.2; exact (by (with_reducible repeat (first | apply Kd.R_alloc | apply Kd.R_drewN | apply Kd.R_drew)); exact (Kd.R_mono (Kd.R_far (p := ⟨gb243, 2, none⟩) (Kd.R_types HO255.out BK243.out (by decide)) (fun _ hk => hk.2) (.slice Ao61 y253.length co61)) (fun _ h_ => h_.1)))); (case side4 => exact (Kd.R_reads' HO255.out).2.1); rintro e w64 ⟨rfl, hb⟩; refine ⟨_, rfl, ?_⟩; have n0_ := a_ (Kd.R_below (by (with_reducible repeat (first | apply Kd.R_alloc | apply Kd.R_drewN | apply Kd.R_drew)); exact (Kd.R_mono (Kd.R_far (p := ⟨gb243, 2, none⟩) (Kd.R_types HO_244000.out BK243.out (by decide)) (fun _ hk => hk.2) (.slice Ao61 y253.length co61)) (fun _ h_ => h_.1))) hb); have n1_ := a_ (Kd.R_below (by (with_reducible repeat (first | apply Kd.R_alloc | apply Kd.R_drewN | apply Kd.R_drew)); exact (Kd.R_mono (Kd.R_far (p := ⟨gb243, 2, none⟩) (Kd.R_types HO255.out BK243.out (by decide)) (fun _ hk => hk.2) (.slice Ao61 y253.length co61)) (fun _ h_ => h_.1))) hb); have n2_ := a_ (blk_below (g := gb241) (o := .cells #[.slice A0_0 l0_0.length c0_0, .int .i64 a0_1, .slice A0_2 l0_2.length c0_2] 25 (0, 0)) (by refine blk_far ?_ NB241_243.out _; exact BK241.out) hb); have n3_ := a_ (blk_below (g := gb242) (o := .cells #[.slice none 0 0, .int .i64 0, .slice none 0 0] 25 (0, 0)) (by refine blk_far ?_ NB242_243.out _; exact BK242.out) hb); have n4_ := a_ (blk_below (g := gb243) (o := .cells #[.slice Ao63 x244000_1.length co63, .int .i64 a0_1, .slice Ao61 y253.length co61] 25 (0, 0)) (by refine blk_put (cs := #[.slice Ao63 x244000_1.length co63, .int .i64 a0_1, u244002]) ?_ 2 _ rfl; exact BK243.out) hb); have n5_ := a_ (below_step bel_ hb); clear HO_244000; clear HO255; clear BK241; clear BK242; clear BK243; clear HB; have HO_244000 := n0_; have HO255 := n1_; have BK241 := n2_; have BK242 := n3_; have BK243 := n4_; have HB := n5_; clear n0_ n1_ n2_ n3_ n4_ n5_; (try clear hb); (try clear hb2); (try clear hk); (try clear hi); have hcz65_0 := cz_ BK242 0; have hcz65_1 := cz_ BK242 1; have hcz65_2 := cz_ BK242 2; have hfz65_0 := fz_ BK242 0; have hfz65_1 := fz_ BK242 1; have hfz65_2 := fz_ BK242 2))
         refine bodyPost_ret (results_ct rfl _ _ gb242 25 #[.slice none 0 0, .int .i64 0, .slice none 0 0] (0, 0) _ rfl (by refine blk_put (cs := #[.slice none 0 0, .int .i64 0, .slice none 0 0]) ?_ 2 _ rfl; refine blk_put (cs := #[.slice none 0 0, .int .i64 0, .slice none 0 0]) ?_ 1 _ rfl; refine blk_put (cs := #[.slice none 0 0, .int .i64 0, .slice none 0 0]) ?_ 0 _ rfl; exact BK242.out) Try.underlying25 rfl (by kernel_rfl)) rfl ?_
         exact ⟨_, _, by first | rfl | (simp [errW_none, errW_some] <;> rfl) | (simp [*, errW_none, errW_some] <;> rfl), by first | exact Kd.R_nil _ _ _ _ _ | exact Kd.N_nil _ _ _ _ _ | exact Kd.V_nil _ _ _ _ _ | exact Kd.Q_nil _ _ _ _ _ | exact Kd.S_nil _ _ _ _ _, by first | exact Kd.R_nil _ _ _ _ _ | exact Kd.N_nil _ _ _ _ _ | exact Kd.V_nil _ _ _ _ _ | exact Kd.Q_nil _ _ _ _ _ | exact Kd.S_nil _ _ _ _ _, by repeat (first | (with_reducible first | exact HB.out | apply below_alloc | apply pw_below_drewN | apply below_drew1 | refine below_set ?_ GE241.out | refine below_set ?_ GE242.out | refine below_set ?_ GE243.out) | exact HB.out)⟩
       ·rw [if_neg c40] at H
        exact absurd H (by simp)
end Go.Proofs.Ytmhggplhfcmgkaa.Q
