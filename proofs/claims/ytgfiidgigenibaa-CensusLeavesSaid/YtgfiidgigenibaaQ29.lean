-- written by wip/drive.py (this session's program) over the kit's print words
import Derived.Test.YtgfiidgigenibaaQ0
import Derived.Test.YtgfiidgigenibaaQ28
namespace Go.Proofs.Ytgfiidgigenibaa.Q
open Go.RowKit Go.Proofs.YtgfiidgigenibaaW.PrintWords Go.Proofs.YtgfiidgigenibaaW.PrintLast Go.Proofs.YtgfiidgigenibaaW.PrintMore
attribute [local go_sem] max2_int min2_int max_two min_two max_three min_three max_four min_four   -- for this text's walks alone
set_option linter.unusedVariables false
set_option linter.unusedSimpArgs false

/-! ### skiarearef10_rises: function 57 -/
def skiarearef10_rises.j0 : Nat → Bool → Int → Int → Int → Int → Option (Int)
 | 0, _, _, _, _, _ => none
 | k + 1, x28, x223000, x223001, x227000, x227001 => if x28 = true then (some 8) else (if x227001 ≤ x223001 then (some 11) else (some 0))
def skiarearef10_rises.f (k : Nat) (l0_0 : List (S62)) (l0_1 : List (S82)) (l0_2 : List (S44)) (l0_3 : List Int) (a1 : Int) (a2 : Int) : Option (Int) := (skiarearef10_Node.f k l0_0 l0_1 l0_2 l0_3 a1).bind fun bt219 => ((skiarearef10_Node.f k l0_0 l0_1 l0_2 l0_3 a2).bind fun bt223 => (if bt219.2.2 = true then (skiarearef10_rises.j0 k (!bt223.2.2) bt219.1 bt219.2.1 bt223.1 bt223.2.1) else (skiarearef10_rises.j0 k true bt219.1 bt219.2.1 bt223.1 bt223.2.1)))
theorem skiarearef10_rises.mono_l : ∀ k, (∀ y0 y1 y2 y3 y4, LeO (skiarearef10_rises.j0 k y0 y1 y2 y3 y4) (skiarearef10_rises.j0 (k + 1) y0 y1 y2 y3 y4))
 | 0 => fun _ _ _ _ _ r h => by simp [skiarearef10_rises.j0] at h
 | k + 1 => by
  have ih0 := skiarearef10_rises.mono_l k
  ·intro y0 y1 y2 y3 y4
   unfold skiarearef10_rises.j0
   repeat' first
   | (with_reducible exact ih0 _ _ _ _ _)
   | (with_reducible exact skiarearef10_Node.mono _ _ _ _ _ _)
   | (with_reducible exact LeO.refl _)
   | (with_reducible exact LeO.none _)
   | (with_reducible refine LeO.ite ?_ ?_)
   | (with_reducible refine LeO.bind ?_ (fun _ => ?_))
   | exact ih0 _ _ _ _ _
   | exact skiarearef10_Node.mono _ _ _ _ _ _
   | exact LeO.none _
   | refine LeO.ite ?_ ?_
   | refine LeO.bind ?_ (fun _ => ?_)
theorem skiarearef10_rises.mono : ∀ a0 a1 a2 a3 a4 a5 k, LeO (skiarearef10_rises.f k a0 a1 a2 a3 a4 a5) (skiarearef10_rises.f (k + 1) a0 a1 a2 a3 a4 a5) := by
 intro a0 a1 a2 a3 a4 a5 k
 have ih0 := skiarearef10_rises.mono_l k
 unfold skiarearef10_rises.f
 repeat' first
   | (with_reducible exact ih0 _ _ _ _ _)
   | (with_reducible exact skiarearef10_Node.mono _ _ _ _ _ _)
   | (with_reducible exact LeO.refl _)
   | (with_reducible exact LeO.none _)
   | (with_reducible refine LeO.ite ?_ ?_)
   | (with_reducible refine LeO.bind ?_ (fun _ => ?_))
   | exact ih0 _ _ _ _ _
   | exact skiarearef10_Node.mono _ _ _ _ _ _
   | exact LeO.none _
   | refine LeO.ite ?_ ?_
   | refine LeO.bind ?_ (fun _ => ?_)
set_option maxHeartbeats 8000000 in
set_option maxRecDepth 100000 in
theorem skiarearef10_rises.calls (k : Nat) (A0_0 : Option Addr) (c0_0 : Nat) (l0_0 : List (S62)) (A0_1 : Option Addr) (c0_1 : Nat) (l0_1 : List (S82)) (A0_2 : Option Addr) (c0_2 : Nat) (l0_2 : List (S44)) (A0_3 : Option Addr) (c0_3 : Nat) (l0_3 : List Int) (a1 : Int) (a2 : Int) (r : Int) (w : World) (hr0_0 : Kd.C k62 w A0_0 l0_0.length l0_0) (hc0_0 : l0_0.length ≤ c0_0) (hr0_1 : Kd.C k82 w A0_1 l0_1.length l0_1) (hc0_1 : l0_1.length ≤ c0_1) (hr0_2 : Kd.C k44 w A0_2 l0_2.length l0_2) (hc0_2 : l0_2.length ≤ c0_2) (hr0_3 : Kd.C (Kd.int .i64) w A0_3 l0_3.length l0_3) (hc0_3 : l0_3.length ≤ c0_3) (h : skiarearef10_rises.f k l0_0 l0_1 l0_2 l0_3 a1 a2 = some r) :
  Calls Try.prog 57 #[.agg #[.slice A0_0 l0_0.length c0_0, .slice A0_1 l0_1.length c0_1, .slice A0_2 l0_2.length c0_2, .slice A0_3 l0_3.length c0_3], .int .i64 a1, .int .i64 a2] w fun e w' => e = .returned (.int .i64 r) ∧ Below w.heap.size w w' := by
 have hu38 := Try.underlying38
 have hu62 := Try.underlying62
 have HR0_0 := a_ hr0_0
 have HC0_0 := a_ hc0_0
 clear hr0_0 hc0_0
 have HR0_1 := a_ hr0_1
 have HC0_1 := a_ hc0_1
 clear hr0_1 hc0_1
 have HR0_2 := a_ hr0_2
 have HC0_2 := a_ hc0_2
 clear hr0_2 hc0_2
 have HR0_3 := a_ hr0_3
 have HC0_3 := a_ hc0_3
 clear hr0_3 hc0_3
 have HB := a_ (Below.refl w.heap.size w)
 have H : ((skiarearef10_Node.f k l0_0 l0_1 l0_2 l0_3 a1).bind fun bt219 => ((skiarearef10_Node.f k l0_0 l0_1 l0_2 l0_3 a2).bind fun bt223 => (if bt219.2.2 = true then (skiarearef10_rises.j0 k (!bt223.2.2) bt219.1 bt219.2.1 bt223.1 bt223.2.1) else (skiarearef10_rises.j0 k true bt219.1 bt219.2.1 bt223.1 bt223.2.1)))) = some r := h
 clear h
 replace H := Option.bind_eq_some_iff.mp H
 obtain ⟨⟨t219, t220, t221⟩, A40, H⟩ := H
 replace H : ((skiarearef10_Node.f k l0_0 l0_1 l0_2 l0_3 a2).bind fun bt223 => (if t221 = true then (skiarearef10_rises.j0 k (!bt223.2.2) t219 t220 bt223.1 bt223.2.1) else (skiarearef10_rises.j0 k true t219 t220 bt223.1 bt223.2.1))) = some r := H
 have A4 := a_ A40
 clear A40
 replace H := Option.bind_eq_some_iff.mp H
 obtain ⟨⟨t223, t224, t225⟩, A50, H⟩ := H
 replace H : (if t221 = true then (skiarearef10_rises.j0 k (!t225) t219 t220 t223 t224) else (skiarearef10_rises.j0 k true t219 t220 t223 t224)) = some r := H
 have A5 := a_ A50
 clear A50
 have HC6 := a_ H
 clear H
 go_enter Try.func57, Try.ntmps57
 go_upto_region 3 with (first | ((with_reducible refine gate_dst (N := 3) rfl ?_); refine box_event ?hg (N := 3) ?hd (cs := #[.slice A0_0 l0_0.length c0_0, .slice A0_1 l0_1.length c0_1, .slice A0_2 l0_2.length c0_2, .slice A0_3 l0_3.length c0_3]) (t := 38) ?hr ?_; (case hd => rfl); (case hg => rfl); (case hr => first | (go_simp; done) | (go_simp; rfl)); intro gb218 hg w7 hbox hb; have n0_ := a_ (below_step bel_ hb); have n1_ := a_ (hbox); have n2_ := a_ (bz_ hg : w.heap.size ≤ gb218); have n3_ := a_ (bz_ hg : w.heap.size ≤ gb218); clear HB; have HB := n0_; have BK218 := n1_; have GW218 := n2_; have GE218 := n3_; clear n0_ n1_ n2_ n3_; clear hb hbox hg; have hcz8_0 := cz_ BK218 0; have hcz8_1 := cz_ BK218 1; have hcz8_2 := cz_ BK218 2; have hcz8_3 := cz_ BK218 3; have hfz8_0 := fz_ BK218 0; have hfz8_1 := fz_ BK218 1; have hfz8_2 := fz_ BK218 2; have hfz8_3 := fz_ BK218 3) | ((with_reducible refine gate_callee (f := 41) rfl ?_); refine gs_ (some 14) Try.func41 #[.agg #[.slice A0_0 l0_0.length c0_0, .slice A0_1 l0_1.length c0_1, .slice A0_2 l0_2.length c0_2, .slice A0_3 l0_3.length c0_3], .int .i64 a1] ?_; (with_reducible refine (skiarearef10_Node.calls k _ _ l0_0 _ _ l0_1 _ _ l0_2 _ _ l0_3 a1 t219 t220 t221 _ ?side1 ?side2 ?side3 ?side4 ?side5 ?side6 ?side7 ?side8 A4.out).mono ?_); (case side1 => exact kC_ (Kd.C_below HR0_0.out HB.out)); (case side2 => exact HC0_0.out); (case side3 => exact kC_ (Kd.C_below HR0_1.out HB.out)); (case side4 => exact HC0_1.out); (case side5 => exact kC_ (Kd.C_below HR0_2.out HB.out)); (case side6 => exact HC0_2.out); (case side7 => exact kC_ (Kd.C_below HR0_3.out HB.out)); (case side8 => exact HC0_3.out); rintro e w9 ⟨rfl, hb⟩; refine ⟨_, rfl, ?_⟩; have n0_ := a_ (blk_below (bk_ BK218.out) hb); have n1_ := a_ (below_step bel_ hb); clear BK218; clear HB; have BK218 := n0_; have HB := n1_; clear n0_ n1_; (try clear hb); (try clear hb2); (try clear hk); (try clear hi)) | ((with_reducible refine gate_dst (N := 7) rfl ?_); refine box_event ?hg (N := 7) ?hd (cs := #[.int .i64 0, .int .i64 0]) (t := 62) ?hr ?_; (case hd => rfl); (case hg => rfl); (case hr => first | (go_simp; done) | (go_simp; rfl)); intro gb222 hg w10 hbox hb; have n0_ := a_ (blk_below (bk_ BK218.out) hb); have n1_ := a_ (below_step bel_ hb); have n2_ := a_ (hbox); have n3_ := a_ (bz_ hg : w.heap.size ≤ gb222); have n4_ := a_ (bz_ hg : w.heap.size ≤ gb222); have n5_ := a_ (nl_ hg (bk_ BK218.out)); have n6_ := a_ (ng_ hg (bk_ BK218.out)); clear BK218; clear HB; have BK218 := n0_; have HB := n1_; have BK222 := n2_; have GW222 := n3_; have GE222 := n4_; have NB218_222 := n5_; have NB222_218 := n6_; clear n0_ n1_ n2_ n3_ n4_ n5_ n6_; clear hb hbox hg; have hnb11 := NB222_218.out; have hnc11 := NB218_222.out; have hcz12_0 := cz_ BK222 0; have hcz12_1 := cz_ BK222 1; have hfz12_0 := fz_ BK222 0; have hfz12_1 := fz_ BK222 1; have hcz13_0 := cz_ BK218 0; have hcz13_1 := cz_ BK218 1; have hcz13_2 := cz_ BK218 2; have hcz13_3 := cz_ BK218 3; have hfz13_0 := fz_ BK218 0; have hfz13_1 := fz_ BK218 1; have hfz13_2 := fz_ BK218 2; have hfz13_3 := fz_ BK218 3) | ((with_reducible refine gate_callee (f := 41) rfl ?_); refine gs_ (some 20) Try.func41 #[.agg #[.slice A0_0 l0_0.length c0_0, .slice A0_1 l0_1.length c0_1, .slice A0_2 l0_2.length c0_2, .slice A0_3 l0_3.length c0_3], .int .i64 a2] ?_; (with_reducible refine (skiarearef10_Node.calls k _ _ l0_0 _ _ l0_1 _ _ l0_2 _ _ l0_3 a2 t223 t224 t225 _ ?side1 ?side2 ?side3 ?side4 ?side5 ?side6 ?side7 ?side8 A5.out).mono ?_); (case side1 => exact Kd.C_below HR0_0.out bel_); (case side2 => exact HC0_0.out); (case side3 => exact Kd.C_below HR0_1.out bel_); (case side4 => exact HC0_1.out); (case side5 => exact Kd.C_below HR0_2.out bel_); (case side6 => exact HC0_2.out); (case side7 => exact Kd.C_below HR0_3.out bel_); (case side8 => exact HC0_3.out); rintro e w14 ⟨rfl, hb⟩; refine ⟨_, rfl, ?_⟩; have n0_ := a_ (blk_below (g := gb218) (o := .cells #[.slice A0_0 l0_0.length c0_0, .slice A0_1 l0_1.length c0_1, .slice A0_2 l0_2.length c0_2, .slice A0_3 l0_3.length c0_3] 38 (0, 0)) (by refine blk_far ?_ NB218_222.out _; refine blk_far ?_ NB218_222.out _; exact BK218.out) hb); have n1_ := a_ (blk_below (g := gb222) (o := .cells #[.int .i64 t219, .int .i64 t220] 62 (0, 0)) (by refine blk_put (cs := #[.int .i64 t219, .int .i64 0]) ?_ 1 _ rfl; refine blk_put (cs := #[.int .i64 0, .int .i64 0]) ?_ 0 _ rfl; exact BK222.out) hb); have n2_ := a_ (below_step bel_ hb); clear BK218; clear BK222; clear HB; have BK218 := n0_; have BK222 := n1_; have HB := n2_; clear n0_ n1_ n2_; (try clear hb); (try clear hb2); (try clear hk); (try clear hi)) | ((with_reducible refine gate_dst (N := 9) rfl ?_); refine box_event ?hg (N := 9) ?hd (cs := #[.int .i64 0, .int .i64 0]) (t := 62) ?hr ?_; (case hd => rfl); (case hg => rfl); (case hr => first | (go_simp; done) | (go_simp; rfl)); intro gb226 hg w15 hbox hb; have n0_ := a_ (blk_below (bk_ BK218.out) hb); have n1_ := a_ (blk_below (bk_ BK222.out) hb); have n2_ := a_ (below_step bel_ hb); have n3_ := a_ (hbox); have n4_ := a_ (bz_ hg : w.heap.size ≤ gb226); have n5_ := a_ (bz_ hg : w.heap.size ≤ gb226); have n6_ := a_ (nl_ hg (bk_ BK218.out)); have n7_ := a_ (ng_ hg (bk_ BK218.out)); have n8_ := a_ (nl_ hg (bk_ BK222.out)); have n9_ := a_ (ng_ hg (bk_ BK222.out)); clear BK218; clear BK222; clear HB; have BK218 := n0_; have BK222 := n1_; have HB := n2_; have BK226 := n3_; have GW226 := n4_; have GE226 := n5_; have NB218_226 := n6_; have NB226_218 := n7_; have NB222_226 := n8_; have NB226_222 := n9_; clear n0_ n1_ n2_ n3_ n4_ n5_ n6_ n7_ n8_ n9_; clear hb hbox hg; have hnb16 := NB226_218.out; have hnc16 := NB218_226.out; have hnb17 := NB226_222.out; have hnc17 := NB222_226.out; have hcz18_0 := cz_ BK226 0; have hcz18_1 := cz_ BK226 1; have hfz18_0 := fz_ BK226 0; have hfz18_1 := fz_ BK226 1))
 (try simp only [Act.put, List.setIfInBounds_toArray, List.set_cons_zero, List.set_cons_succ])
 go_cut [28] (fun v28 wc => ∃ (kq : Nat) (x28_5 : Bool), v28 = .bool x28_5 ∧ Aside0 (skiarearef10_rises.j0 kq x28_5 t219 t220 t223 t224 = some r) ∧ Aside0 (kq ≤ k) ∧ Aside0 (wc.heap[gb218]? = some (.cells #[(.slice A0_0 l0_0.length c0_0), (.slice A0_1 l0_1.length c0_1), (.slice A0_2 l0_2.length c0_2), (.slice A0_3 l0_3.length c0_3)] 38 (0, 0))) ∧ Aside0 (wc.heap[gb222]? = some (.cells #[.int .i64 t219, .int .i64 t220] 62 (0, 0))) ∧ Aside0 (wc.heap[gb226]? = some (.cells #[.int .i64 t223, .int .i64 t224] 62 (0, 0))) ∧ Aside0 (Below w.heap.size w wc))
 case first =>
  have H := HC6.out
  clear HC6
  by_cases c19 : t221 = true
  ·subst c19
   have H1 : (skiarearef10_rises.j0 k (!t225) t219 t220 t223 t224) = some r := by rw [if_pos rfl] at H; exact H
   clear H
   have H := H1
   clear H1
   have H' := a_ H
   clear H
   go_wp2
   go_meet
   case rel => exact ⟨_, (!t225), (by first | rfl | (simp; done) | (simp [*]; done)), H', ⟨by first | omega | exact Nat.le_refl _⟩, ⟨by refine blk_far ?_ NB218_226.out _; refine blk_far ?_ NB218_226.out _; exact BK218.out⟩, ⟨by refine blk_far ?_ NB222_226.out _; refine blk_far ?_ NB222_226.out _; exact BK222.out⟩, ⟨by refine blk_put (cs := #[.int .i64 t223, .int .i64 0]) ?_ 1 _ rfl; refine blk_put (cs := #[.int .i64 0, .int .i64 0]) ?_ 0 _ rfl; exact BK226.out⟩, ⟨by repeat (first | (with_reducible first | exact HB.out | apply below_alloc | apply pw_below_drewN | apply below_drew1 | refine below_set ?_ GE218.out | refine below_set ?_ GE222.out | refine below_set ?_ GE226.out) | exact HB.out)⟩⟩
  ·replace c19 := Bool.eq_false_iff.mpr c19
   subst c19
   have H1 : (skiarearef10_rises.j0 k true t219 t220 t223 t224) = some r := by rw [if_neg (show ¬ (false = true) by decide)] at H; exact H
   clear H
   have H := H1
   clear H1
   have H' := a_ H
   clear H
   go_wp2
   go_meet
   case rel => exact ⟨_, (true), (by first | rfl | (simp; done) | (simp [*]; done)), H', ⟨by first | omega | exact Nat.le_refl _⟩, ⟨by refine blk_far ?_ NB218_226.out _; refine blk_far ?_ NB218_226.out _; exact BK218.out⟩, ⟨by refine blk_far ?_ NB222_226.out _; refine blk_far ?_ NB222_226.out _; exact BK222.out⟩, ⟨by refine blk_put (cs := #[.int .i64 t223, .int .i64 0]) ?_ 1 _ rfl; refine blk_put (cs := #[.int .i64 0, .int .i64 0]) ?_ 0 _ rfl; exact BK226.out⟩, ⟨by repeat (first | (with_reducible first | exact HB.out | apply below_alloc | apply pw_below_drewN | apply below_drew1 | refine below_set ?_ GE218.out | refine below_set ?_ GE222.out | refine below_set ?_ GE226.out) | exact HB.out)⟩⟩
 case rest =>
  clear HC6
  try clear c1
  try clear p2
  try clear c4
  try clear c5
  try clear c11
  try clear c16
  try clear c17
  try clear c19
  try clear hcz12_0
  try clear hcz12_1
  try clear hcz13_0
  try clear hcz13_1
  try clear hcz13_2
  try clear hcz13_3
  try clear hcz18_0
  try clear hcz18_1
  try clear hcz8_0
  try clear hcz8_1
  try clear hcz8_2
  try clear hcz8_3
  try clear hfz12_0
  try clear hfz12_1
  try clear hfz13_0
  try clear hfz13_1
  try clear hfz13_2
  try clear hfz13_3
  try clear hfz18_0
  try clear hfz18_1
  try clear hfz8_0
  try clear hfz8_1
  try clear hfz8_2
  try clear hfz8_3
  obtain ⟨kq, x28_5, rfl, HA, HJ5, BK218, BK222, BK226, HB⟩ := hcut
  cases kq with
  | zero => exact absurd HA.out (by simp [skiarearef10_rises.j0])
  | succ kj5 =>
   have H := HA.out
   clear HA
   simp only [skiarearef10_rises.j0] at H
   by_cases c20 : x28_5 = true
   ·subst c20
    have H1 : (some 8) = some r := by rw [if_pos rfl] at H; exact H
    clear H
    have H := H1
    clear H1
    obtain rfl := Option.some.inj H
    go_wp2
    go_ret
    exact ⟨by first | rfl | (simp [errW_none, errW_some] <;> rfl) | (simp [*, errW_none, errW_some] <;> rfl), by repeat (first | (with_reducible first | exact HB.out | apply below_alloc | apply pw_below_drewN | apply below_drew1 | refine below_set ?_ GE218.out | refine below_set ?_ GE222.out | refine below_set ?_ GE226.out) | exact HB.out)⟩
   ·replace c20 := Bool.eq_false_iff.mpr c20
    subst c20
    have H1 : (if t224 ≤ t220 then (some 11) else (some 0)) = some r := by rw [if_neg (show ¬ (false = true) by decide)] at H; exact H
    clear H
    have H := H1
    clear H1
    by_cases c21 : t224 ≤ t220
    ·rw [if_pos c21] at H
     have c21b0 : decide (t224 ≤ t220) = true := decide_eq_true c21
     clear c21
     obtain rfl := Option.some.inj H
     have hnb22 := NB226_218.out
     have hnc22 := NB218_226.out
     have hnb23 := NB226_222.out
     have hnc23 := NB222_226.out
     have hcz24_0 := cz_ BK226 0
     have hcz24_1 := cz_ BK226 1
     have hfz24_0 := fz_ BK226 0
     have hfz24_1 := fz_ BK226 1
     have hnb25 := NB222_218.out
     have hnc25 := NB218_222.out
     have hcz26_0 := cz_ BK222 0
     have hcz26_1 := cz_ BK222 1
     have hfz26_0 := fz_ BK222 0
     have hfz26_1 := fz_ BK222 1
     go_wp2
     go_ret
     exact ⟨by first | rfl | (simp [errW_none, errW_some] <;> rfl) | (simp [*, errW_none, errW_some] <;> rfl), by repeat (first | (with_reducible first | exact HB.out | apply below_alloc | apply pw_below_drewN | apply below_drew1 | refine below_set ?_ GE218.out | refine below_set ?_ GE222.out | refine below_set ?_ GE226.out) | exact HB.out)⟩
    ·rw [if_neg c21] at H
     have c21b0 : decide (t224 ≤ t220) = false := decide_eq_false c21
     clear c21
     obtain rfl := Option.some.inj H
     have hnb27 := NB226_218.out
     have hnc27 := NB218_226.out
     have hnb28 := NB226_222.out
     have hnc28 := NB222_226.out
     have hcz29_0 := cz_ BK226 0
     have hcz29_1 := cz_ BK226 1
     have hfz29_0 := fz_ BK226 0
     have hfz29_1 := fz_ BK226 1
     have hnb30 := NB222_218.out
     have hnc30 := NB218_222.out
     have hcz31_0 := cz_ BK222 0
     have hcz31_1 := cz_ BK222 1
     have hfz31_0 := fz_ BK222 0
     have hfz31_1 := fz_ BK222 1
     go_wp2
     go_ret
     exact ⟨by first | rfl | (simp [errW_none, errW_some] <;> rfl) | (simp [*, errW_none, errW_some] <;> rfl), by repeat (first | (with_reducible first | exact HB.out | apply below_alloc | apply pw_below_drewN | apply below_drew1 | refine below_set ?_ GE218.out | refine below_set ?_ GE222.out | refine below_set ?_ GE226.out) | exact HB.out)⟩

end Go.Proofs.Ytgfiidgigenibaa.Q
