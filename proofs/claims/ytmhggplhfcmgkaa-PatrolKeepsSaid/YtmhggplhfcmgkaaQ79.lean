-- written by wip/drive.py (this session's program) over the kit's print words
import Derived.Test.YtmhggplhfcmgkaaQ0
import Derived.Test.YtmhggplhfcmgkaaQ2
import Derived.Test.YtmhggplhfcmgkaaQ11
import Derived.Test.YtmhggplhfcmgkaaQ45
import Derived.Test.YtmhggplhfcmgkaaQ50
import Derived.Test.YtmhggplhfcmgkaaQ55
import Derived.Test.YtmhggplhfcmgkaaQ59
import Derived.Test.YtmhggplhfcmgkaaQ60
import Derived.Test.YtmhggplhfcmgkaaQ78
namespace Go.Proofs.Ytmhggplhfcmgkaa.Q
open Go.RowKit Go.Proofs.YtmhggplhfcmgkaaW.PrintWords Go.Proofs.YtmhggplhfcmgkaaW.PrintLast Go.Proofs.YtmhggplhfcmgkaaW.PrintMore
attribute [local go_sem] max2_int min2_int max_two min_two max_three min_three max_four min_four   -- for this text's walks alone
set_option linter.unusedVariables false
set_option linter.unusedSimpArgs false

attribute [local go_sem high] eqA56
/-! ### skiarealaw53_PatrolKeeps: function 17 -/
mutual
def skiarealaw53_PatrolKeeps.j0 : Nat → Int → Int → Int → Bool → List (S63) → List (S56) → Int → Int → Int → Option (Bool)
 | 0, _, _, _, _, _, _, _, _, _ => none
 | k + 1, x1, x3, x4, x24, x737000, x737001, x738000, x738001, x738002 => if x24 = true then (some true) else ((patrol_Sign.f k x737000 x737001 x1 x738000 x738001 x738002).bind fun bt741 => (if bt741.2.2 = 0 then ((patrol_Right.f k bt741.1 bt741.2.1).bind fun t749 => (if t749 = 0 then (if (bt741.1.length : Int) = (x737000.length : Int) then (if (bt741.2.1.length : Int) = (x737001.length : Int) then (if x738002 ≤ x4 then ((skiarealaw53_latest.f k x737000 x737001 x1 x738002).bind fun t750 => (if t750 = true then ((patrol_Ready.f x737000 x737001 x3 x4).bind fun t751 => (if t751 = true then ((patrol_Ready.f bt741.1 bt741.2.1 x3 x4).bind fun t752 => (skiarealaw53_PatrolKeeps.j1 k x1 (!t752) x737000 x737001 bt741.1 bt741.2.1)) else (skiarealaw53_PatrolKeeps.j1 k x1 false x737000 x737001 bt741.1 bt741.2.1))) else (skiarealaw53_PatrolKeeps.j1 k x1 false x737000 x737001 bt741.1 bt741.2.1))) else (skiarealaw53_PatrolKeeps.j1 k x1 false x737000 x737001 bt741.1 bt741.2.1)) else (skiarealaw53_PatrolKeeps.j1 k x1 true x737000 x737001 bt741.1 bt741.2.1)) else (skiarealaw53_PatrolKeeps.j1 k x1 true x737000 x737001 bt741.1 bt741.2.1)) else (skiarealaw53_PatrolKeeps.j1 k x1 true x737000 x737001 bt741.1 bt741.2.1))) else (if (bt741.1.length : Int) = 0 then (some ((bt741.2.1.length : Int) == 0)) else (some false))))
def skiarealaw53_PatrolKeeps.j1 : Nat → Int → Bool → List (S63) → List (S56) → List (S63) → List (S56) → Option (Bool)
 | 0, _, _, _, _, _, _ => none
 | k + 1, x1, x95, x737000, x737001, x749000, x749001 => if x95 = true then (some false) else (skiarealaw53_PatrolKeeps.l0 k x1 0 x737000 x737001 x749000 x749001)
def skiarealaw53_PatrolKeeps.l0 : Nat → Int → Int → List (S63) → List (S56) → List (S63) → List (S56) → Option (Bool)
 | 0, _, _, _, _, _, _ => none
 | k + 1, x1, x13, x737000, x737001, x749000, x749001 => if x13 < (x749000.length : Int) then (if 0 ≤ x13 then (if x13 < (x737000.length : Int) then (if ((rd_T63 x749000 x13).f0) = ((rd_T63 x737000 x13).f0) then (if ((rd_T63 x749000 x13).f0) = x1 then (skiarealaw53_PatrolKeeps.l0 k x1 (wrap64 (x13 + 1)) x737000 x737001 x749000 x749001) else ((skiarearef19_Same.f k ((rd_T63 x749000 x13).f1.f0) ((rd_T63 x749000 x13).f1.f1) ((rd_T63 x749000 x13).f1.f2) ((rd_T63 x737000 x13).f1.f0) ((rd_T63 x737000 x13).f1.f1) ((rd_T63 x737000 x13).f1.f2)).bind fun t758 => (if t758 = true then (skiarealaw53_PatrolKeeps.l0 k x1 (wrap64 (x13 + 1)) x737000 x737001 x749000 x749001) else (some false)))) else (some false)) else (none)) else (none)) else (skiarealaw53_PatrolKeeps.l1 k 0 x737000 x737001 x749000 x749001)
def skiarealaw53_PatrolKeeps.l1 : Nat → Int → List (S63) → List (S56) → List (S63) → List (S56) → Option (Bool)
 | 0, _, _, _, _, _ => none
 | k + 1, x14, x737000, x737001, x749000, x749001 => if x14 < (x749001.length : Int) then (if 0 ≤ x14 then (if x14 < (x737001.length : Int) then (if (!(((rd_T56 x749001 x14).f0) == ((rd_T56 x737001 x14).f0)) || (!(((rd_T56 x749001 x14).f1) == ((rd_T56 x737001 x14).f1)) || (!(((rd_T56 x749001 x14).f2) == ((rd_T56 x737001 x14).f2))))) = true then (some false) else (skiarealaw53_PatrolKeeps.l1 k (wrap64 (x14 + 1)) x737000 x737001 x749000 x749001)) else (none)) else (none)) else (some true)
end
def skiarealaw53_PatrolKeeps.f (k : Nat) (l0_0 : List (S63)) (l0_1 : List (S56)) (a1 : Int) (a2_0 : Int) (a2_1 : Int) (a2_2 : Int) (a3 : Int) (a4 : Int) : Option (Bool) := (skiarealaw53_alive.f).bind fun t738 => (if t738 = true then ((skiarealaw53_small.f k l0_0 l0_1).bind fun t739 => (if t739 = true then ((patrol_Right.f k l0_0 l0_1).bind fun t740 => (skiarealaw53_PatrolKeeps.j0 k a1 a3 a4 (t740 != 0) l0_0 l0_1 a2_0 a2_1 a2_2)) else (skiarealaw53_PatrolKeeps.j0 k a1 a3 a4 true l0_0 l0_1 a2_0 a2_1 a2_2))) else (some false))
theorem skiarealaw53_PatrolKeeps.mono_l : ∀ k, (∀ y0 y1 y2 y3 y4 y5 y6 y7 y8, LeO (skiarealaw53_PatrolKeeps.j0 k y0 y1 y2 y3 y4 y5 y6 y7 y8) (skiarealaw53_PatrolKeeps.j0 (k + 1) y0 y1 y2 y3 y4 y5 y6 y7 y8)) ∧ (∀ y0 y1 y2 y3 y4 y5, LeO (skiarealaw53_PatrolKeeps.j1 k y0 y1 y2 y3 y4 y5) (skiarealaw53_PatrolKeeps.j1 (k + 1) y0 y1 y2 y3 y4 y5)) ∧ (∀ y0 y1 y2 y3 y4 y5, LeO (skiarealaw53_PatrolKeeps.l0 k y0 y1 y2 y3 y4 y5) (skiarealaw53_PatrolKeeps.l0 (k + 1) y0 y1 y2 y3 y4 y5)) ∧ (∀ y0 y1 y2 y3 y4, LeO (skiarealaw53_PatrolKeeps.l1 k y0 y1 y2 y3 y4) (skiarealaw53_PatrolKeeps.l1 (k + 1) y0 y1 y2 y3 y4))
 | 0 => ⟨fun _ _ _ _ _ _ _ _ _ r h => by simp [skiarealaw53_PatrolKeeps.j0] at h, fun _ _ _ _ _ _ r h => by simp [skiarealaw53_PatrolKeeps.j1] at h, fun _ _ _ _ _ _ r h => by simp [skiarealaw53_PatrolKeeps.l0] at h, fun _ _ _ _ _ r h => by simp [skiarealaw53_PatrolKeeps.l1] at h⟩
 | k + 1 => by
  obtain ⟨ih0, ih1, ih2, ih3⟩ := skiarealaw53_PatrolKeeps.mono_l k
  refine ⟨?_, ?_, ?_, ?_⟩
  ·intro y0 y1 y2 y3 y4 y5 y6 y7 y8
   unfold skiarealaw53_PatrolKeeps.j0
   repeat' first
   | (with_reducible exact ih0 _ _ _ _ _ _ _ _ _)
   | (with_reducible exact ih1 _ _ _ _ _ _)
   | (with_reducible exact ih2 _ _ _ _ _ _)
   | (with_reducible exact ih3 _ _ _ _ _)
   | (with_reducible exact patrol_Right.mono _ _ _)
   | (with_reducible exact patrol_Sign.mono _ _ _ _ _ _ _)
   | (with_reducible exact skiarealaw53_latest.mono _ _ _ _ _)
   | (with_reducible exact skiarealaw53_small.mono _ _ _)
   | (with_reducible exact skiarearef19_Same.mono _ _ _ _ _ _ _)
   | (with_reducible exact LeO.refl _)
   | (with_reducible exact LeO.none _)
   | (with_reducible refine LeO.ite ?_ ?_)
   | (with_reducible refine LeO.bind ?_ (fun _ => ?_))
   | exact ih0 _ _ _ _ _ _ _ _ _
   | exact ih1 _ _ _ _ _ _
   | exact ih2 _ _ _ _ _ _
   | exact ih3 _ _ _ _ _
   | exact patrol_Right.mono _ _ _
   | exact patrol_Sign.mono _ _ _ _ _ _ _
   | exact skiarealaw53_latest.mono _ _ _ _ _
   | exact skiarealaw53_small.mono _ _ _
   | exact skiarearef19_Same.mono _ _ _ _ _ _ _
   | exact LeO.none _
   | refine LeO.ite ?_ ?_
   | refine LeO.bind ?_ (fun _ => ?_)
  ·intro y0 y1 y2 y3 y4 y5
   unfold skiarealaw53_PatrolKeeps.j1
   repeat' first
   | (with_reducible exact ih0 _ _ _ _ _ _ _ _ _)
   | (with_reducible exact ih1 _ _ _ _ _ _)
   | (with_reducible exact ih2 _ _ _ _ _ _)
   | (with_reducible exact ih3 _ _ _ _ _)
   | (with_reducible exact patrol_Right.mono _ _ _)
   | (with_reducible exact patrol_Sign.mono _ _ _ _ _ _ _)
   | (with_reducible exact skiarealaw53_latest.mono _ _ _ _ _)
   | (with_reducible exact skiarealaw53_small.mono _ _ _)
   | (with_reducible exact skiarearef19_Same.mono _ _ _ _ _ _ _)
   | (with_reducible exact LeO.refl _)
   | (with_reducible exact LeO.none _)
   | (with_reducible refine LeO.ite ?_ ?_)
   | (with_reducible refine LeO.bind ?_ (fun _ => ?_))
   | exact ih0 _ _ _ _ _ _ _ _ _
   | exact ih1 _ _ _ _ _ _
   | exact ih2 _ _ _ _ _ _
   | exact ih3 _ _ _ _ _
   | exact patrol_Right.mono _ _ _
   | exact patrol_Sign.mono _ _ _ _ _ _ _
   | exact skiarealaw53_latest.mono _ _ _ _ _
   | exact skiarealaw53_small.mono _ _ _
   | exact skiarearef19_Same.mono _ _ _ _ _ _ _
   | exact LeO.none _
   | refine LeO.ite ?_ ?_
   | refine LeO.bind ?_ (fun _ => ?_)
  ·intro y0 y1 y2 y3 y4 y5
   unfold skiarealaw53_PatrolKeeps.l0
   repeat' first
   | (with_reducible exact ih0 _ _ _ _ _ _ _ _ _)
   | (with_reducible exact ih1 _ _ _ _ _ _)
   | (with_reducible exact ih2 _ _ _ _ _ _)
   | (with_reducible exact ih3 _ _ _ _ _)
   | (with_reducible exact patrol_Right.mono _ _ _)
   | (with_reducible exact patrol_Sign.mono _ _ _ _ _ _ _)
   | (with_reducible exact skiarealaw53_latest.mono _ _ _ _ _)
   | (with_reducible exact skiarealaw53_small.mono _ _ _)
   | (with_reducible exact skiarearef19_Same.mono _ _ _ _ _ _ _)
   | (with_reducible exact LeO.refl _)
   | (with_reducible exact LeO.none _)
   | (with_reducible refine LeO.ite ?_ ?_)
   | (with_reducible refine LeO.bind ?_ (fun _ => ?_))
   | exact ih0 _ _ _ _ _ _ _ _ _
   | exact ih1 _ _ _ _ _ _
   | exact ih2 _ _ _ _ _ _
   | exact ih3 _ _ _ _ _
   | exact patrol_Right.mono _ _ _
   | exact patrol_Sign.mono _ _ _ _ _ _ _
   | exact skiarealaw53_latest.mono _ _ _ _ _
   | exact skiarealaw53_small.mono _ _ _
   | exact skiarearef19_Same.mono _ _ _ _ _ _ _
   | exact LeO.none _
   | refine LeO.ite ?_ ?_
   | refine LeO.bind ?_ (fun _ => ?_)
  ·intro y0 y1 y2 y3 y4
   unfold skiarealaw53_PatrolKeeps.l1
   repeat' first
   | (with_reducible exact ih0 _ _ _ _ _ _ _ _ _)
   | (with_reducible exact ih1 _ _ _ _ _ _)
   | (with_reducible exact ih2 _ _ _ _ _ _)
   | (with_reducible exact ih3 _ _ _ _ _)
   | (with_reducible exact patrol_Right.mono _ _ _)
   | (with_reducible exact patrol_Sign.mono _ _ _ _ _ _ _)
   | (with_reducible exact skiarealaw53_latest.mono _ _ _ _ _)
   | (with_reducible exact skiarealaw53_small.mono _ _ _)
   | (with_reducible exact skiarearef19_Same.mono _ _ _ _ _ _ _)
   | (with_reducible exact LeO.refl _)
   | (with_reducible exact LeO.none _)
   | (with_reducible refine LeO.ite ?_ ?_)
   | (with_reducible refine LeO.bind ?_ (fun _ => ?_))
   | exact ih0 _ _ _ _ _ _ _ _ _
   | exact ih1 _ _ _ _ _ _
   | exact ih2 _ _ _ _ _ _
   | exact ih3 _ _ _ _ _
   | exact patrol_Right.mono _ _ _
   | exact patrol_Sign.mono _ _ _ _ _ _ _
   | exact skiarealaw53_latest.mono _ _ _ _ _
   | exact skiarealaw53_small.mono _ _ _
   | exact skiarearef19_Same.mono _ _ _ _ _ _ _
   | exact LeO.none _
   | refine LeO.ite ?_ ?_
   | refine LeO.bind ?_ (fun _ => ?_)
theorem skiarealaw53_PatrolKeeps.mono : ∀ a0 a1 a2 a3 a4 a5 a6 a7 k, LeO (skiarealaw53_PatrolKeeps.f k a0 a1 a2 a3 a4 a5 a6 a7) (skiarealaw53_PatrolKeeps.f (k + 1) a0 a1 a2 a3 a4 a5 a6 a7) := by
 intro a0 a1 a2 a3 a4 a5 a6 a7 k
 obtain ⟨ih0, ih1, ih2, ih3⟩ := skiarealaw53_PatrolKeeps.mono_l k
 unfold skiarealaw53_PatrolKeeps.f
 repeat' first
   | (with_reducible exact ih0 _ _ _ _ _ _ _ _ _)
   | (with_reducible exact ih1 _ _ _ _ _ _)
   | (with_reducible exact ih2 _ _ _ _ _ _)
   | (with_reducible exact ih3 _ _ _ _ _)
   | (with_reducible exact patrol_Right.mono _ _ _)
   | (with_reducible exact patrol_Sign.mono _ _ _ _ _ _ _)
   | (with_reducible exact skiarealaw53_latest.mono _ _ _ _ _)
   | (with_reducible exact skiarealaw53_small.mono _ _ _)
   | (with_reducible exact skiarearef19_Same.mono _ _ _ _ _ _ _)
   | (with_reducible exact LeO.refl _)
   | (with_reducible exact LeO.none _)
   | (with_reducible refine LeO.ite ?_ ?_)
   | (with_reducible refine LeO.bind ?_ (fun _ => ?_))
   | exact ih0 _ _ _ _ _ _ _ _ _
   | exact ih1 _ _ _ _ _ _
   | exact ih2 _ _ _ _ _ _
   | exact ih3 _ _ _ _ _
   | exact patrol_Right.mono _ _ _
   | exact patrol_Sign.mono _ _ _ _ _ _ _
   | exact skiarealaw53_latest.mono _ _ _ _ _
   | exact skiarealaw53_small.mono _ _ _
   | exact skiarearef19_Same.mono _ _ _ _ _ _ _
   | exact LeO.none _
   | refine LeO.ite ?_ ?_
   | refine LeO.bind ?_ (fun _ => ?_)
def skiarealaw53_PatrolKeeps.T13 : Bool × List (List Nat × List Nat) := (true, [([], []), ([0], [0]), ([], []), ([1, 2], [1, 2]), ([3], [3]), ([4], [4]), ([], []), ([6], [6]), ([], []), ([7, 8], [7, 8]), ([9], [9]), ([10], [10]), ([5, 11], [5, 11]), ([12], [12]), ([13], [13]), ([14, 13], [13, 14]), ([13], [13]), ([15, 16, 13], [13, 15, 16]), ([17, 13], [13, 17]), ([18, 13], [13, 18]), ([13], [13]), ([19, 20, 13], [13, 19, 20]), ([21, 13, 13], [13, 21]), ([22], [22]), ([23, 22], [22, 23]), ([22], [22]), ([24, 25, 22], [22, 24, 25]), ([26, 22], [22, 26]), ([27, 22], [22, 27]), ([22], [22]), ([29, 22], [22, 29]), ([22], [22]), ([30, 31, 22], [22, 30, 31]), ([32, 22], [22, 32]), ([33, 22], [22, 33]), ([28, 34, 22, 22], [22, 28, 34]), ([35, 22], [22, 35]), ([22, 36, 13], [13, 22, 36]), ([13, 37], [13, 37])])
def skiarealaw53_PatrolKeeps.B13 : List Nat := [0, 1, 0, 7, 15, 31, 0, 64, 0, 448, 960, 1984, 4095, 8191, 16383, 32767, 16383, 131071, 262143, 524287, 16383, 2097151, 4194303, 8388607, 16777215, 8388607, 67108863, 134217727, 268435455, 8388607, 545259519, 8388607, 3766484991, 8061452287, 16651386879, 34359738367, 68719476735, 137438953471, 274877906943]
theorem skiarealaw53_PatrolKeeps.tab13 : rtab .any (opsOf Try.f17 13) = skiarealaw53_PatrolKeeps.T13 := by kernel_rfl
theorem skiarealaw53_PatrolKeeps.bits13 : waitsOk skiarealaw53_PatrolKeeps.T13.2 skiarealaw53_PatrolKeeps.B13 = true := by kernel_rfl
def skiarealaw53_PatrolKeeps.T18 : Bool × List (List Nat × List Nat) := (true, [([], []), ([0], [0]), ([], []), ([1, 2], [1, 2]), ([3], [3]), ([], []), ([5], [5]), ([], []), ([6, 7], [6, 7]), ([8], [8]), ([4, 9], [4, 9])])
def skiarealaw53_PatrolKeeps.B18 : List Nat := [0, 1, 0, 7, 15, 0, 32, 0, 224, 480, 1023]
theorem skiarealaw53_PatrolKeeps.tab18 : rtab .any (opsOf Try.f17 18) = skiarealaw53_PatrolKeeps.T18 := by kernel_rfl
theorem skiarealaw53_PatrolKeeps.bits18 : waitsOk skiarealaw53_PatrolKeeps.T18.2 skiarealaw53_PatrolKeeps.B18 = true := by kernel_rfl
set_option maxHeartbeats 8000000 in
set_option maxRecDepth 100000 in
theorem skiarealaw53_PatrolKeeps.calls (k : Nat) (A0_0 : Option Addr) (c0_0 : Nat) (l0_0 : List (S63)) (A0_1 : Option Addr) (c0_1 : Nat) (l0_1 : List (S56)) (a1 : Int) (a2_0 : Int) (a2_1 : Int) (a2_2 : Int) (a3 : Int) (a4 : Int) (w : World) (hr0_0 : Kd.C k63 w A0_0 l0_0.length l0_0) (hc0_0 : l0_0.length ≤ c0_0) (hr0_1 : Kd.C k56 w A0_1 l0_1.length l0_1) (hc0_1 : l0_1.length ≤ c0_1) (h : skiarealaw53_PatrolKeeps.f k l0_0 l0_1 a1 a2_0 a2_1 a2_2 a3 a4 = some true) :
  Calls Try.prog 17 #[.agg #[.slice A0_0 l0_0.length c0_0, .slice A0_1 l0_1.length c0_1], .int .i64 a1, .agg #[.int .i64 a2_0, .int .i64 a2_1, .int .i64 a2_2], .int .i64 a3, .int .i64 a4] w fun e w' => e = .returned (.bool true) ∧ Below w.heap.size w w' := by
 have hu48 := Try.underlying48
 have hu35 := Try.underlying35
 have hu25 := Try.underlying25
 have hu56 := Try.underlying56
 have HR0_0 := Aside0.mk hr0_0
 have HC0_0 := Aside0.mk hc0_0
 clear hr0_0 hc0_0
 have HR0_1 := Aside0.mk hr0_1
 have HC0_1 := Aside0.mk hc0_1
 clear hr0_1 hc0_1
 have HB := Aside0.mk (Below.refl w.heap.size w)
 have H : ((skiarealaw53_alive.f).bind fun t738 => (if t738 = true then ((skiarealaw53_small.f k l0_0 l0_1).bind fun t739 => (if t739 = true then ((patrol_Right.f k l0_0 l0_1).bind fun t740 => (skiarealaw53_PatrolKeeps.j0 k a1 a3 a4 (t740 != 0) l0_0 l0_1 a2_0 a2_1 a2_2)) else (skiarealaw53_PatrolKeeps.j0 k a1 a3 a4 true l0_0 l0_1 a2_0 a2_1 a2_2))) else (some false))) = some true := h
 clear h
 replace H := Option.bind_eq_some_iff.mp H
 obtain ⟨t738, A60, H⟩ := H
 replace H : (if t738 = true then ((skiarealaw53_small.f k l0_0 l0_1).bind fun t739 => (if t739 = true then ((patrol_Right.f k l0_0 l0_1).bind fun t740 => (skiarealaw53_PatrolKeeps.j0 k a1 a3 a4 (t740 != 0) l0_0 l0_1 a2_0 a2_1 a2_2)) else (skiarealaw53_PatrolKeeps.j0 k a1 a3 a4 true l0_0 l0_1 a2_0 a2_1 a2_2))) else (some false)) = some true := H
 have A6 := Aside0.mk A60
 clear A60
 by_cases c7 : t738 = true
 ·subst c7
  have H1 : ((skiarealaw53_small.f k l0_0 l0_1).bind fun t739 => (if t739 = true then ((patrol_Right.f k l0_0 l0_1).bind fun t740 => (skiarealaw53_PatrolKeeps.j0 k a1 a3 a4 (t740 != 0) l0_0 l0_1 a2_0 a2_1 a2_2)) else (skiarealaw53_PatrolKeeps.j0 k a1 a3 a4 true l0_0 l0_1 a2_0 a2_1 a2_2))) = some true := by rw [if_pos rfl] at H; exact H
  clear H
  have H := H1
  clear H1
  have HC8 := Aside0.mk H
  clear H
  go_enter Try.func17, Try.ntmps17
  go_upto_region 3 with (first | ((with_reducible refine gate_dst (N := 5) rfl ?_); (try (refine gate_guard (by rfl) ?_; dsimp only)); refine box_event ?hg (N := 5) ?hd (cs := #[.slice A0_0 l0_0.length c0_0, .slice A0_1 l0_1.length c0_1]) (t := 48) ?hr ?_; (case hd => rfl); (case hg => rfl); (case hr => first | (go_simp; done) | (go_simp; rfl)); intro gb736 hg w9 hbox hb; have n0_ := Aside0.mk (below_step bel_ hb); have n1_ := Aside0.mk (hbox); have n2_ := Aside0.mk ((by rw [hg]; exact (below_size bel_) : w.heap.size ≤ gb736)); have n3_ := Aside0.mk ((by rw [hg]; exact (below_size bel_) : w.heap.size ≤ gb736)); clear HB; have HB := n0_; have BK736 := n1_; have GW736 := n2_; have GE736 := n3_; clear n0_ n1_ n2_ n3_; clear hb hbox hg) | ((with_reducible refine gate_dst (N := 7) rfl ?_); (try (refine gate_guard (by rfl) ?_; dsimp only)); refine box_event ?hg (N := 7) ?hd (cs := #[.int .i64 a2_0, .int .i64 a2_1, .int .i64 a2_2]) (t := 35) ?hr ?_; (case hd => rfl); (case hg => rfl); (case hr => first | (go_simp; done) | (go_simp; rfl)); intro gb737 hg w10 hbox hb; have n0_ := Aside0.mk (blk_below BK736.out hb); have n1_ := Aside0.mk (below_step bel_ hb); have n2_ := Aside0.mk (hbox); have n3_ := Aside0.mk ((by rw [hg]; exact (below_size bel_) : w.heap.size ≤ gb737)); have n4_ := Aside0.mk ((by rw [hg]; exact (below_size bel_) : w.heap.size ≤ gb737)); have n5_ := Aside0.mk ((by rw [hg]; exact Nat.ne_of_lt (blk_lt BK736.out) : gb736 ≠ gb737)); have n6_ := Aside0.mk ((by rw [hg]; exact Nat.ne_of_gt (blk_lt BK736.out) : gb737 ≠ gb736)); clear BK736; clear HB; have BK736 := n0_; have HB := n1_; have BK737 := n2_; have GW737 := n3_; have GE737 := n4_; have NB736_737 := n5_; have NB737_736 := n6_; clear n0_ n1_ n2_ n3_ n4_ n5_ n6_; clear hb hbox hg) | ((with_reducible refine gate_callee (f := 34) rfl ?_); refine goesL_ (some 15) rfl rfl Try.func34 (by kernel_rfl) rfl #[] rfl (by (try simp only [List.map_toArray, List.map_cons, List.map_nil]); first | done | rfl | (simp only [List.length_drop, List.length_take]; rfl)) ?_; (with_reducible refine (skiarealaw53_alive.calls  true _ A6.out).mono ?_); rintro e w11 ⟨rfl, hb⟩; refine ⟨_, rfl, ?_⟩; have n0_ := Aside0.mk (blk_below BK736.out hb); have n1_ := Aside0.mk (blk_below BK737.out hb); have n2_ := Aside0.mk (below_step bel_ hb); clear BK736; clear BK737; clear HB; have BK736 := n0_; have BK737 := n1_; have HB := n2_; clear n0_ n1_ n2_; (try clear hb); (try clear hb2); (try clear hk); (try clear hi)))
  (try simp only [Act.put, List.setIfInBounds_toArray, List.set_cons_zero, List.set_cons_succ])
  go_cut [24] (fun v24 wc => ∃ (kq : Nat) (x24_7 : Bool), v24 = .bool x24_7 ∧ Aside0 (skiarealaw53_PatrolKeeps.j0 kq a1 a3 a4 x24_7 l0_0 l0_1 a2_0 a2_1 a2_2 = some true) ∧ Aside0 (kq ≤ k) ∧ Aside0 (wc.heap[gb736]? = some (.cells #[(.slice A0_0 l0_0.length c0_0), (.slice A0_1 l0_1.length c0_1)] 48 (0, 0))) ∧ Aside0 (wc.heap[gb737]? = some (.cells #[.int .i64 a2_0, .int .i64 a2_1, .int .i64 a2_2] 35 (0, 0))) ∧ Aside0 (Below w.heap.size w wc))
  case first =>
   have H := HC8.out
   clear HC8
   replace H := Option.bind_eq_some_iff.mp H
   obtain ⟨t739, A120, H⟩ := H
   replace H : (if t739 = true then ((patrol_Right.f k l0_0 l0_1).bind fun t740 => (skiarealaw53_PatrolKeeps.j0 k a1 a3 a4 (t740 != 0) l0_0 l0_1 a2_0 a2_1 a2_2)) else (skiarealaw53_PatrolKeeps.j0 k a1 a3 a4 true l0_0 l0_1 a2_0 a2_1 a2_2)) = some true := H
   have A12 := Aside0.mk A120
   clear A120
   by_cases c13 : t739 = true
   ·subst c13
    have H1 : ((patrol_Right.f k l0_0 l0_1).bind fun t740 => (skiarealaw53_PatrolKeeps.j0 k a1 a3 a4 (t740 != 0) l0_0 l0_1 a2_0 a2_1 a2_2)) = some true := by rw [if_pos rfl] at H; exact H
    clear H
    have H := H1
    clear H1
    replace H := Option.bind_eq_some_iff.mp H
    obtain ⟨t740, A140, H⟩ := H
    replace H : (skiarealaw53_PatrolKeeps.j0 k a1 a3 a4 (t740 != 0) l0_0 l0_1 a2_0 a2_1 a2_2) = some true := H
    have A14 := Aside0.mk A140
    clear A140
    have H' := Aside0.mk H
    clear H
    have hnb15 := NB736_737.out
    have hnc15 := NB737_736.out
    have hcz16_0 : w11.cell? ⟨gb736, 0, none⟩ = some (.slice A0_0 l0_0.length c0_0) := (blk_cell BK736.out 0).trans rfl
    have hcz16_1 : w11.cell? ⟨gb736, 1, none⟩ = some (.slice A0_1 l0_1.length c0_1) := (blk_cell BK736.out 1).trans rfl
    have hfz16_0 := blk_frozen BK736.out 0
    have hfz16_1 := blk_frozen BK736.out 1
    go_wp2_with (first | ((with_reducible refine gate_callee (f := 35) rfl ?_); refine goesL_ (some 18) rfl rfl Try.func35 (by kernel_rfl) rfl #[.agg #[.slice A0_0 l0_0.length c0_0, .slice A0_1 l0_1.length c0_1]] rfl (by (try simp only [List.map_toArray, List.map_cons, List.map_nil]); first | done | rfl | (simp only [List.length_drop, List.length_take]; rfl)) ?_; (with_reducible refine (skiarealaw53_small.calls k _ _ l0_0 _ _ l0_1 true _ ?side1 ?side2 ?side3 ?side4 A12.out).mono ?_); (case side1 => repeat (first | exact (Kd.C_below HR0_0.out HB.out) | (with_reducible refine Kd.C_alloc ?_ _) | (with_reducible refine Kd.C_drewN ?_ _) | (with_reducible refine Kd.C_drew ?_))); (case side2 => exact HC0_0.out); (case side3 => repeat (first | exact (Kd.C_below HR0_1.out HB.out) | (with_reducible refine Kd.C_alloc ?_ _) | (with_reducible refine Kd.C_drewN ?_ _) | (with_reducible refine Kd.C_drew ?_))); (case side4 => exact HC0_1.out); rintro e w17 ⟨rfl, hb⟩; refine ⟨_, rfl, ?_⟩; have n0_ := Aside0.mk (blk_below BK736.out hb); have n1_ := Aside0.mk (blk_below BK737.out hb); have n2_ := Aside0.mk (below_step bel_ hb); clear BK736; clear BK737; clear HB; have BK736 := n0_; have BK737 := n1_; have HB := n2_; clear n0_ n1_ n2_; (try clear hb); (try clear hb2); (try clear hk); (try clear hi); have hcz18_0 : w17.cell? ⟨gb736, 0, none⟩ = some (.slice A0_0 l0_0.length c0_0) := (blk_cell BK736.out 0).trans rfl; have hcz18_1 : w17.cell? ⟨gb736, 1, none⟩ = some (.slice A0_1 l0_1.length c0_1) := (blk_cell BK736.out 1).trans rfl; have hfz18_0 := blk_frozen BK736.out 0; have hfz18_1 := blk_frozen BK736.out 1) | (go_at_call 36; (with_reducible refine (patrol_Right.calls k _ _ l0_0 _ _ l0_1 t740 _ ?side1 ?side2 ?side3 ?side4 A14.out).mono ?_); (case side1 => repeat (first | exact (Kd.C_below HR0_0.out HB.out) | (with_reducible refine Kd.C_alloc ?_ _) | (with_reducible refine Kd.C_drewN ?_ _) | (with_reducible refine Kd.C_drew ?_))); (case side2 => exact HC0_0.out); (case side3 => repeat (first | exact (Kd.C_below HR0_1.out HB.out) | (with_reducible refine Kd.C_alloc ?_ _) | (with_reducible refine Kd.C_drewN ?_ _) | (with_reducible refine Kd.C_drew ?_))); (case side4 => exact HC0_1.out); rintro e w19 ⟨rfl, hb⟩; have n0_ := Aside0.mk (blk_below BK736.out hb); have n1_ := Aside0.mk (blk_below BK737.out hb); have n2_ := Aside0.mk (below_step bel_ hb); clear BK736; clear BK737; clear HB; have BK736 := n0_; have BK737 := n1_; have HB := n2_; clear n0_ n1_ n2_; (try clear hb); (try clear hb2); (try clear hk); (try clear hi)))
    go_meet
    case rel => exact ⟨_, ((t740 != 0)), (by first | rfl | (simp; done) | (simp [*]; done)), H', ⟨by first | omega | exact Nat.le_refl _⟩, ⟨by exact BK736.out⟩, ⟨by exact BK737.out⟩, ⟨by repeat (first | (with_reducible first | exact HB.out | apply below_alloc | apply pw_below_drewN | apply below_drew1 | refine below_set ?_ GE736.out | refine below_set ?_ GE737.out) | exact HB.out)⟩⟩
   ·replace c13 := Bool.eq_false_iff.mpr c13
    subst c13
    have H1 : (skiarealaw53_PatrolKeeps.j0 k a1 a3 a4 true l0_0 l0_1 a2_0 a2_1 a2_2) = some true := by rw [if_neg (show ¬ (false = true) by decide)] at H; exact H
    clear H
    have H := H1
    clear H1
    have H' := Aside0.mk H
    clear H
    have hnb20 := NB736_737.out
    have hnc20 := NB737_736.out
    have hcz21_0 : w11.cell? ⟨gb736, 0, none⟩ = some (.slice A0_0 l0_0.length c0_0) := (blk_cell BK736.out 0).trans rfl
    have hcz21_1 : w11.cell? ⟨gb736, 1, none⟩ = some (.slice A0_1 l0_1.length c0_1) := (blk_cell BK736.out 1).trans rfl
    have hfz21_0 := blk_frozen BK736.out 0
    have hfz21_1 := blk_frozen BK736.out 1
    go_wp2_with (first | ((with_reducible refine gate_callee (f := 35) rfl ?_); refine goesL_ (some 18) rfl rfl Try.func35 (by kernel_rfl) rfl #[.agg #[.slice A0_0 l0_0.length c0_0, .slice A0_1 l0_1.length c0_1]] rfl (by (try simp only [List.map_toArray, List.map_cons, List.map_nil]); first | done | rfl | (simp only [List.length_drop, List.length_take]; rfl)) ?_; (with_reducible refine (skiarealaw53_small.calls k _ _ l0_0 _ _ l0_1 false _ ?side1 ?side2 ?side3 ?side4 A12.out).mono ?_); (case side1 => repeat (first | exact (Kd.C_below HR0_0.out HB.out) | (with_reducible refine Kd.C_alloc ?_ _) | (with_reducible refine Kd.C_drewN ?_ _) | (with_reducible refine Kd.C_drew ?_))); (case side2 => exact HC0_0.out); (case side3 => repeat (first | exact (Kd.C_below HR0_1.out HB.out) | (with_reducible refine Kd.C_alloc ?_ _) | (with_reducible refine Kd.C_drewN ?_ _) | (with_reducible refine Kd.C_drew ?_))); (case side4 => exact HC0_1.out); rintro e w22 ⟨rfl, hb⟩; refine ⟨_, rfl, ?_⟩; have n0_ := Aside0.mk (blk_below BK736.out hb); have n1_ := Aside0.mk (blk_below BK737.out hb); have n2_ := Aside0.mk (below_step bel_ hb); clear BK736; clear BK737; clear HB; have BK736 := n0_; have BK737 := n1_; have HB := n2_; clear n0_ n1_ n2_; (try clear hb); (try clear hb2); (try clear hk); (try clear hi)))
    go_meet
    case rel => exact ⟨_, (true), (by first | rfl | (simp; done) | (simp [*]; done)), H', ⟨by first | omega | exact Nat.le_refl _⟩, ⟨by exact BK736.out⟩, ⟨by exact BK737.out⟩, ⟨by repeat (first | (with_reducible first | exact HB.out | apply below_alloc | apply pw_below_drewN | apply below_drew1 | refine below_set ?_ GE736.out | refine below_set ?_ GE737.out) | exact HB.out)⟩⟩
  case rest =>
   clear HC8
   try clear c1
   try clear c2
   try clear p2
   try clear c3
   try clear c7
   try clear c13
   try clear c15
   try clear c17
   try clear c20
   try clear hcz16_0
   try clear hcz16_1
   try clear hcz18_0
   try clear hcz18_1
   try clear hcz21_0
   try clear hcz21_1
   try clear hfz16_0
   try clear hfz16_1
   try clear hfz18_0
   try clear hfz18_1
   try clear hfz21_0
   try clear hfz21_1
   obtain ⟨kq, x24_7, rfl, HA, HJ7, BK736, BK737, HB⟩ := hcut
   cases kq with
   | zero => exact absurd HA.out (by simp [skiarealaw53_PatrolKeeps.j0])
   | succ kj7 =>
    have H := HA.out
    clear HA
    simp only [skiarealaw53_PatrolKeeps.j0] at H
    by_cases c23 : x24_7 = true
    ·subst c23
     have H1 : (some true) = some true := rfl
     clear H
     have H := H1
     clear H1
     clear H
     go_wp2
     go_ret
     exact ⟨by first | rfl | (rw [HTR.out]; rfl) | (exact congrArg (fun b => Ending.returned (Value.bool b)) HTR.out) | (simpa using HTR.out) | (simp [errW_none, errW_some] <;> rfl) | (simp [*, errW_none, errW_some] <;> rfl), by repeat (first | (with_reducible first | exact HB.out | apply below_alloc | apply pw_below_drewN | apply below_drew1 | refine below_set ?_ GE736.out | refine below_set ?_ GE737.out) | exact HB.out)⟩
    ·replace c23 := Bool.eq_false_iff.mpr c23
     subst c23
     have H1 : ((patrol_Sign.f kj7 l0_0 l0_1 a1 a2_0 a2_1 a2_2).bind fun bt741 => (if bt741.2.2 = 0 then ((patrol_Right.f kj7 bt741.1 bt741.2.1).bind fun t749 => (if t749 = 0 then (if (bt741.1.length : Int) = (l0_0.length : Int) then (if (bt741.2.1.length : Int) = (l0_1.length : Int) then (if a2_2 ≤ a4 then ((skiarealaw53_latest.f kj7 l0_0 l0_1 a1 a2_2).bind fun t750 => (if t750 = true then ((patrol_Ready.f l0_0 l0_1 a3 a4).bind fun t751 => (if t751 = true then ((patrol_Ready.f bt741.1 bt741.2.1 a3 a4).bind fun t752 => (skiarealaw53_PatrolKeeps.j1 kj7 a1 (!t752) l0_0 l0_1 bt741.1 bt741.2.1)) else (skiarealaw53_PatrolKeeps.j1 kj7 a1 false l0_0 l0_1 bt741.1 bt741.2.1))) else (skiarealaw53_PatrolKeeps.j1 kj7 a1 false l0_0 l0_1 bt741.1 bt741.2.1))) else (skiarealaw53_PatrolKeeps.j1 kj7 a1 false l0_0 l0_1 bt741.1 bt741.2.1)) else (skiarealaw53_PatrolKeeps.j1 kj7 a1 true l0_0 l0_1 bt741.1 bt741.2.1)) else (skiarealaw53_PatrolKeeps.j1 kj7 a1 true l0_0 l0_1 bt741.1 bt741.2.1)) else (skiarealaw53_PatrolKeeps.j1 kj7 a1 true l0_0 l0_1 bt741.1 bt741.2.1))) else (if (bt741.1.length : Int) = 0 then (some ((bt741.2.1.length : Int) == 0)) else (some false)))) = some true := by rw [if_neg (show ¬ (false = true) by decide)] at H; exact H
     clear H
     have H := H1
     clear H1
     replace H := Option.bind_eq_some_iff.mp H
     obtain ⟨⟨t741, t744, t747⟩, A240, H⟩ := H
     replace H : (if t747 = 0 then ((patrol_Right.f kj7 t741 t744).bind fun t749 => (if t749 = 0 then (if (t741.length : Int) = (l0_0.length : Int) then (if (t744.length : Int) = (l0_1.length : Int) then (if a2_2 ≤ a4 then ((skiarealaw53_latest.f kj7 l0_0 l0_1 a1 a2_2).bind fun t750 => (if t750 = true then ((patrol_Ready.f l0_0 l0_1 a3 a4).bind fun t751 => (if t751 = true then ((patrol_Ready.f t741 t744 a3 a4).bind fun t752 => (skiarealaw53_PatrolKeeps.j1 kj7 a1 (!t752) l0_0 l0_1 t741 t744)) else (skiarealaw53_PatrolKeeps.j1 kj7 a1 false l0_0 l0_1 t741 t744))) else (skiarealaw53_PatrolKeeps.j1 kj7 a1 false l0_0 l0_1 t741 t744))) else (skiarealaw53_PatrolKeeps.j1 kj7 a1 false l0_0 l0_1 t741 t744)) else (skiarealaw53_PatrolKeeps.j1 kj7 a1 true l0_0 l0_1 t741 t744)) else (skiarealaw53_PatrolKeeps.j1 kj7 a1 true l0_0 l0_1 t741 t744)) else (skiarealaw53_PatrolKeeps.j1 kj7 a1 true l0_0 l0_1 t741 t744))) else (if (t741.length : Int) = 0 then (some ((t744.length : Int) == 0)) else (some false))) = some true := H
     have A24 := Aside0.mk A240
     clear A240
     by_cases c25 : t747 = 0
     ·rw [if_pos c25] at H
      have c25b0 : (t747 == 0) = true := beq_iff_eq.mpr c25
      have c25b1 : (t747 != 0) = false := bne_eq_false_iff_eq.mpr c25
      clear c25
      have HC26 := Aside0.mk H
      clear H
      have hnb27 := NB736_737.out
      have hnc27 := NB737_736.out
      have hcz28_0 : wc.cell? ⟨gb736, 0, none⟩ = some (.slice A0_0 l0_0.length c0_0) := (blk_cell BK736.out 0).trans rfl
      have hcz28_1 : wc.cell? ⟨gb736, 1, none⟩ = some (.slice A0_1 l0_1.length c0_1) := (blk_cell BK736.out 1).trans rfl
      have hfz28_0 := blk_frozen BK736.out 0
      have hfz28_1 := blk_frozen BK736.out 1
      have hcz29_0 : wc.cell? ⟨gb737, 0, none⟩ = some (.int .i64 a2_0) := (blk_cell BK737.out 0).trans rfl
      have hcz29_1 : wc.cell? ⟨gb737, 1, none⟩ = some (.int .i64 a2_1) := (blk_cell BK737.out 1).trans rfl
      have hcz29_2 : wc.cell? ⟨gb737, 2, none⟩ = some (.int .i64 a2_2) := (blk_cell BK737.out 2).trans rfl
      have hfz29_0 := blk_frozen BK737.out 0
      have hfz29_1 := blk_frozen BK737.out 1
      have hfz29_2 := blk_frozen BK737.out 2
      go_upto_region 8 with (first | ((with_reducible refine gate_callee (f := 39) rfl ?_); refine goesL_ (some 34) rfl rfl Try.func39 (by kernel_rfl) rfl #[.agg #[.slice A0_0 l0_0.length c0_0, .slice A0_1 l0_1.length c0_1], .int .i64 a1, .int .i64 a2_0, .int .i64 a2_1, .int .i64 a2_2] rfl (by (try simp only [List.map_toArray, List.map_cons, List.map_nil]); first | done | rfl | (simp only [List.length_drop, List.length_take]; rfl)) ?_; (with_reducible refine (patrol_Sign.calls kj7 _ _ l0_0 _ _ l0_1 a1 a2_0 a2_1 a2_2 t741 t744 t747 _ ?side1 ?side2 ?side3 ?side4 A24.out).mono ?_); (case side1 => repeat (first | exact (Kd.C_below HR0_0.out HB.out) | (with_reducible refine Kd.C_alloc ?_ _) | (with_reducible refine Kd.C_drewN ?_ _) | (with_reducible refine Kd.C_drew ?_))); (case side2 => exact HC0_0.out); (case side3 => repeat (first | exact (Kd.C_below HR0_1.out HB.out) | (with_reducible refine Kd.C_alloc ?_ _) | (with_reducible refine Kd.C_drewN ?_ _) | (with_reducible refine Kd.C_drew ?_))); (case side4 => exact HC0_1.out); rintro e w30 ⟨v742, v745, rfl, ho0, ho1, hb⟩; refine ⟨_, rfl, ?_⟩; have n0_ := Aside0.mk (Kd.N_lower (Kd.N_mono (ok' := fun k_ => some k_ ≠ (v745 : Value).ownBlock ∧ k_ ≠ gb736 ∧ k_ ≠ gb737) ho0 (fun k_ hk_ => ⟨hk_.2, (Kd.freshB BK736.out k_ hk_.1), (Kd.freshB BK737.out k_ hk_.1)⟩)) (below_size bel_)); have n1_ := Aside0.mk (Kd.R_lower (Kd.R_mono (ok' := fun k_ => True) ho1 (fun _ hk_ => trivial)) (below_size bel_)); have n2_ := Aside0.mk (blk_below BK736.out hb); have n3_ := Aside0.mk (blk_below BK737.out hb); have n4_ := Aside0.mk (below_step bel_ hb); clear BK736; clear BK737; clear HB; have HO743 := n0_; have HO746 := n1_; have BK736 := n2_; have BK737 := n3_; have HB := n4_; clear n0_ n1_ n2_ n3_ n4_; (try clear hb); (try clear hb2); (try clear hk); (try clear hi); (try clear ho0); (try clear ho1)) | ((with_reducible refine gate_dst (N := 11) rfl ?_); (try (refine gate_guard (by rfl) ?_; dsimp only)); refine box_event ?hg (N := 11) ?hd (cs := #[.slice none 0 0, .slice none 0 0]) (t := 48) ?hr ?_; (case hd => rfl); (case hg => rfl); (case hr => first | (go_simp; done) | (go_simp; rfl)); intro gb748 hg w31 hbox hb; have n0_ := Aside0.mk (Kd.N_below (Kd.N_elderB HO743.out gb748 (Nat.le_of_eq hg.symm)) hb); have n1_ := Aside0.mk (Kd.R_below HO746.out hb); have n2_ := Aside0.mk (blk_below BK736.out hb); have n3_ := Aside0.mk (blk_below BK737.out hb); have n4_ := Aside0.mk (below_step bel_ hb); have n5_ := Aside0.mk (hbox); have n6_ := Aside0.mk ((by rw [hg]; exact (below_size bel_) : w.heap.size ≤ gb748)); have n7_ := Aside0.mk ((by rw [hg]; exact (below_size bel_) : w.heap.size ≤ gb748)); have n8_ := Aside0.mk ((by rw [hg]; exact Nat.ne_of_lt (blk_lt BK736.out) : gb736 ≠ gb748)); have n9_ := Aside0.mk ((by rw [hg]; exact Nat.ne_of_gt (blk_lt BK736.out) : gb748 ≠ gb736)); have n10_ := Aside0.mk ((by rw [hg]; exact Nat.ne_of_lt (blk_lt BK737.out) : gb737 ≠ gb748)); have n11_ := Aside0.mk ((by rw [hg]; exact Nat.ne_of_gt (blk_lt BK737.out) : gb748 ≠ gb737)); clear HO743; clear HO746; clear BK736; clear BK737; clear HB; have HO743 := n0_; have HO746 := n1_; have BK736 := n2_; have BK737 := n3_; have HB := n4_; have BK748 := n5_; have GW748 := n6_; have GE748 := n7_; have NB736_748 := n8_; have NB748_736 := n9_; have NB737_748 := n10_; have NB748_737 := n11_; clear n0_ n1_ n2_ n3_ n4_ n5_ n6_ n7_ n8_ n9_ n10_ n11_; clear hb hbox hg; obtain ⟨Ao32, co32, eo32⟩ := Kd.N_slice HO743.out; subst eo32; have hnb33 := NB748_736.out; have hnc33 := NB736_748.out; have hnb34 := NB748_737.out; have hnc34 := NB737_748.out; have hcz35_0 : w31.cell? ⟨gb748, 0, none⟩ = some (.slice none 0 0) := (blk_cell BK748.out 0).trans rfl; have hcz35_1 : w31.cell? ⟨gb748, 1, none⟩ = some (.slice none 0 0) := (blk_cell BK748.out 1).trans rfl; have hfz35_0 := blk_frozen BK748.out 0; have hfz35_1 := blk_frozen BK748.out 1; obtain ⟨Ao36, co36, eo36⟩ := Kd.R_slice HO746.out; subst eo36))
      (try simp only [Act.put, List.setIfInBounds_toArray, List.set_cons_zero, List.set_cons_succ])
      go_cut [95] (fun v95 wc => ∃ (kq : Nat) (x95_25 : Bool), v95 = .bool x95_25 ∧ Aside0 (skiarealaw53_PatrolKeeps.j1 kq a1 x95_25 l0_0 l0_1 t741 t744 = some true) ∧ Aside0 (kq ≤ kj7) ∧ Aside0 (Kd.N k63 63 wc w.heap.size (fun k_ => some k_ ≠ ((.slice Ao36 t744.length co36) : Value).ownBlock ∧ k_ ≠ gb736 ∧ k_ ≠ gb737 ∧ k_ ≠ gb748) (.slice Ao32 t741.length co32) t741) ∧ Aside0 (Kd.R k56 56 wc w.heap.size (fun _ => True) (.slice Ao36 t744.length co36) t744) ∧ Aside0 (wc.heap[gb736]? = some (.cells #[(.slice A0_0 l0_0.length c0_0), (.slice A0_1 l0_1.length c0_1)] 48 (0, 0))) ∧ Aside0 (wc.heap[gb737]? = some (.cells #[.int .i64 a2_0, .int .i64 a2_1, .int .i64 a2_2] 35 (0, 0))) ∧ Aside0 (wc.heap[gb748]? = some (.cells #[(.slice Ao32 t741.length co32), (.slice Ao36 t744.length co36)] 48 (0, 0))) ∧ Aside0 (Below w.heap.size w wc))
      case first =>
       have H := HC26.out
       clear HC26
       replace H := Option.bind_eq_some_iff.mp H
       obtain ⟨t749, A370, H⟩ := H
       replace H : (if t749 = 0 then (if (t741.length : Int) = (l0_0.length : Int) then (if (t744.length : Int) = (l0_1.length : Int) then (if a2_2 ≤ a4 then ((skiarealaw53_latest.f kj7 l0_0 l0_1 a1 a2_2).bind fun t750 => (if t750 = true then ((patrol_Ready.f l0_0 l0_1 a3 a4).bind fun t751 => (if t751 = true then ((patrol_Ready.f t741 t744 a3 a4).bind fun t752 => (skiarealaw53_PatrolKeeps.j1 kj7 a1 (!t752) l0_0 l0_1 t741 t744)) else (skiarealaw53_PatrolKeeps.j1 kj7 a1 false l0_0 l0_1 t741 t744))) else (skiarealaw53_PatrolKeeps.j1 kj7 a1 false l0_0 l0_1 t741 t744))) else (skiarealaw53_PatrolKeeps.j1 kj7 a1 false l0_0 l0_1 t741 t744)) else (skiarealaw53_PatrolKeeps.j1 kj7 a1 true l0_0 l0_1 t741 t744)) else (skiarealaw53_PatrolKeeps.j1 kj7 a1 true l0_0 l0_1 t741 t744)) else (skiarealaw53_PatrolKeeps.j1 kj7 a1 true l0_0 l0_1 t741 t744)) = some true := H
       have A37 := Aside0.mk A370
       clear A370
       by_cases c38 : t749 = 0
       ·rw [if_pos c38] at H
        have c38b0 : (t749 == 0) = true := beq_iff_eq.mpr c38
        have c38b1 : (t749 != 0) = false := bne_eq_false_iff_eq.mpr c38
        clear c38
        (first | rw [c38b0] | (simp only [i64_w, i32_w]; rw [c38b0]) | skip)
        by_cases c39 : (t741.length : Int) = (l0_0.length : Int)
        ·rw [if_pos c39] at H
         have c39b0 : ((t741.length : Int) == (l0_0.length : Int)) = true := beq_iff_eq.mpr c39
         have c39b1 : ((t741.length : Int) != (l0_0.length : Int)) = false := bne_eq_false_iff_eq.mpr c39
         have c39b2 : (t741.length == l0_0.length) = true := by first | simpa using c39 | (simp at c39 ⊢; omega)
         clear c39
         by_cases c40 : (t744.length : Int) = (l0_1.length : Int)
         ·rw [if_pos c40] at H
          have c40b0 : ((t744.length : Int) == (l0_1.length : Int)) = true := beq_iff_eq.mpr c40
          have c40b1 : ((t744.length : Int) != (l0_1.length : Int)) = false := bne_eq_false_iff_eq.mpr c40
          have c40b2 : (t744.length == l0_1.length) = true := by first | simpa using c40 | (simp at c40 ⊢; omega)
          clear c40
          by_cases c41 : a2_2 ≤ a4
          ·rw [if_pos c41] at H
           have c41b0 : decide (a2_2 ≤ a4) = true := decide_eq_true c41
           clear c41
           replace H := Option.bind_eq_some_iff.mp H
           obtain ⟨t750, A420, H⟩ := H
           replace H : (if t750 = true then ((patrol_Ready.f l0_0 l0_1 a3 a4).bind fun t751 => (if t751 = true then ((patrol_Ready.f t741 t744 a3 a4).bind fun t752 => (skiarealaw53_PatrolKeeps.j1 kj7 a1 (!t752) l0_0 l0_1 t741 t744)) else (skiarealaw53_PatrolKeeps.j1 kj7 a1 false l0_0 l0_1 t741 t744))) else (skiarealaw53_PatrolKeeps.j1 kj7 a1 false l0_0 l0_1 t741 t744)) = some true := H
           have A42 := Aside0.mk A420
           clear A420
           by_cases c43 : t750 = true
           ·subst c43
            have H1 : ((patrol_Ready.f l0_0 l0_1 a3 a4).bind fun t751 => (if t751 = true then ((patrol_Ready.f t741 t744 a3 a4).bind fun t752 => (skiarealaw53_PatrolKeeps.j1 kj7 a1 (!t752) l0_0 l0_1 t741 t744)) else (skiarealaw53_PatrolKeeps.j1 kj7 a1 false l0_0 l0_1 t741 t744))) = some true := by rw [if_pos rfl] at H; exact H
            clear H
            have H := H1
            clear H1
            replace H := Option.bind_eq_some_iff.mp H
            obtain ⟨t751, A440, H⟩ := H
            replace H : (if t751 = true then ((patrol_Ready.f t741 t744 a3 a4).bind fun t752 => (skiarealaw53_PatrolKeeps.j1 kj7 a1 (!t752) l0_0 l0_1 t741 t744)) else (skiarealaw53_PatrolKeeps.j1 kj7 a1 false l0_0 l0_1 t741 t744)) = some true := H
            have A44 := Aside0.mk A440
            clear A440
            by_cases c45 : t751 = true
            ·subst c45
             have H1 : ((patrol_Ready.f t741 t744 a3 a4).bind fun t752 => (skiarealaw53_PatrolKeeps.j1 kj7 a1 (!t752) l0_0 l0_1 t741 t744)) = some true := by rw [if_pos rfl] at H; exact H
             clear H
             have H := H1
             clear H1
             replace H := Option.bind_eq_some_iff.mp H
             obtain ⟨t752, A460, H⟩ := H
             replace H : (skiarealaw53_PatrolKeeps.j1 kj7 a1 (!t752) l0_0 l0_1 t741 t744) = some true := H
             have A46 := Aside0.mk A460
             clear A460
             have H' := Aside0.mk H
             clear H
             have hnb47 := NB748_736.out
             have hnc47 := NB736_748.out
             have hnb48 := NB748_737.out
             have hnc48 := NB737_748.out
             have hcz49_0 : w31.cell? ⟨gb748, 0, none⟩ = some (.slice none 0 0) := (blk_cell BK748.out 0).trans rfl
             have hcz49_1 : w31.cell? ⟨gb748, 1, none⟩ = some (.slice none 0 0) := (blk_cell BK748.out 1).trans rfl
             have hfz49_0 := blk_frozen BK748.out 0
             have hfz49_1 := blk_frozen BK748.out 1
             go_wp2_with (first | ((with_reducible refine gate_callee (f := 36) rfl ?_); refine goesL_ (some 50) rfl rfl Try.func36 (by kernel_rfl) rfl #[.agg #[.slice Ao32 t741.length co32, .slice Ao36 t744.length co36]] rfl (by (try simp only [List.map_toArray, List.map_cons, List.map_nil]); first | done | rfl | (simp only [List.length_drop, List.length_take]; rfl)) ?_; (with_reducible refine (patrol_Right.calls kj7 _ _ t741 _ _ t744 t749 _ ?side1 ?side2 ?side3 ?side4 A37.out).mono ?_); (case side1 => refine (Kd.N_reads' (e := 63) (base := w.heap.size) (ok := fun k_ => ((some k_ ≠ (.slice Ao36 t744.length co36 : Value).ownBlock ∧ (k_ ≠ gb736 ∧ k_ ≠ gb737)) ∧ k_ ≠ gb748)) (n := t741.length) (c := co32) ?_).2.2; exact (by (with_reducible repeat (first | apply Kd.N_alloc | apply Kd.N_drewN | apply Kd.N_drew)); exact (Kd.N_mono (Kd.N_far (p := ⟨gb748, 1, none⟩) (Kd.N_far (p := ⟨gb748, 0, none⟩) (Kd.N_mono HO743.out (fun k_ hk => (⟨hk, hk.2⟩ : _ ∧ k_ ≠ gb748))) (fun _ hk => hk.2) (.slice Ao32 t741.length co32)) (fun _ hk => hk.2) (.slice Ao36 t744.length co36)) (fun _ h_ => h_.1)))); (case side2 => exact (Kd.N_reads' HO743.out).2.1); (case side3 => refine (Kd.R_reads' (e := 56) (base := w.heap.size) (ok := fun k_ => True) (n := t744.length) (c := co36) ?_).2.2; exact (by (with_reducible repeat (first | apply Kd.R_alloc | apply Kd.R_drewN | apply Kd.R_drew)); exact (Kd.R_mono (Kd.R_far (p := ⟨gb748, 1, none⟩) (Kd.R_far (p := ⟨gb748, 0, none⟩) (Kd.R_types HO746.out BK748.out (by decide)) (fun _ hk => hk.2) (.slice Ao32 t741.length co32)) (fun _ hk => hk.2) (.slice Ao36 t744.length co36)) (fun _ h_ => h_.1)))); (case side4 => exact (Kd.R_reads' HO746.out).2.1); rintro e w50 ⟨rfl, hb⟩; refine ⟨_, rfl, ?_⟩; have n0_ := Aside0.mk (Kd.N_below (by (with_reducible repeat (first | apply Kd.N_alloc | apply Kd.N_drewN | apply Kd.N_drew)); exact (Kd.N_mono (Kd.N_far (p := ⟨gb748, 1, none⟩) (Kd.N_far (p := ⟨gb748, 0, none⟩) (Kd.N_mono HO743.out (fun k_ hk => (⟨hk, hk.2⟩ : _ ∧ k_ ≠ gb748))) (fun _ hk => hk.2) (.slice Ao32 t741.length co32)) (fun _ hk => hk.2) (.slice Ao36 t744.length co36)) (fun _ h_ => h_.1))) hb); have n1_ := Aside0.mk (Kd.R_below (by (with_reducible repeat (first | apply Kd.R_alloc | apply Kd.R_drewN | apply Kd.R_drew)); exact (Kd.R_mono (Kd.R_far (p := ⟨gb748, 1, none⟩) (Kd.R_far (p := ⟨gb748, 0, none⟩) (Kd.R_types HO746.out BK748.out (by decide)) (fun _ hk => hk.2) (.slice Ao32 t741.length co32)) (fun _ hk => hk.2) (.slice Ao36 t744.length co36)) (fun _ h_ => h_.1))) hb); have n2_ := Aside0.mk (blk_below (g := gb736) (o := .cells #[.slice A0_0 l0_0.length c0_0, .slice A0_1 l0_1.length c0_1] 48 (0, 0)) (by refine blk_far ?_ NB736_748.out _; refine blk_far ?_ NB736_748.out _; exact BK736.out) hb); have n3_ := Aside0.mk (blk_below (g := gb737) (o := .cells #[.int .i64 a2_0, .int .i64 a2_1, .int .i64 a2_2] 35 (0, 0)) (by refine blk_far ?_ NB737_748.out _; refine blk_far ?_ NB737_748.out _; exact BK737.out) hb); have n4_ := Aside0.mk (blk_below (g := gb748) (o := .cells #[.slice Ao32 t741.length co32, .slice Ao36 t744.length co36] 48 (0, 0)) (by refine blk_put (cs := #[.slice Ao32 t741.length co32, .slice none 0 0]) ?_ 1 _ rfl; refine blk_put (cs := #[.slice none 0 0, .slice none 0 0]) ?_ 0 _ rfl; exact BK748.out) hb); have n5_ := Aside0.mk (below_step bel_ hb); clear HO743; clear HO746; clear BK736; clear BK737; clear BK748; clear HB; have HO743 := n0_; have HO746 := n1_; have BK736 := n2_; have BK737 := n3_; have BK748 := n4_; have HB := n5_; clear n0_ n1_ n2_ n3_ n4_ n5_; (try clear hb); (try clear hb2); (try clear hk); (try clear hi); have hcz51_0 : w50.cell? ⟨gb748, 0, none⟩ = some (.slice Ao32 t741.length co32) := (blk_cell BK748.out 0).trans rfl; have hcz51_1 : w50.cell? ⟨gb748, 1, none⟩ = some (.slice Ao36 t744.length co36) := (blk_cell BK748.out 1).trans rfl; have hfz51_0 := blk_frozen BK748.out 0; have hfz51_1 := blk_frozen BK748.out 1; have hnb52 := NB736_737.out; have hnc52 := NB737_736.out; have hcz53_0 : w50.cell? ⟨gb736, 0, none⟩ = some (.slice A0_0 l0_0.length c0_0) := (blk_cell BK736.out 0).trans rfl; have hcz53_1 : w50.cell? ⟨gb736, 1, none⟩ = some (.slice A0_1 l0_1.length c0_1) := (blk_cell BK736.out 1).trans rfl; have hfz53_0 := blk_frozen BK736.out 0; have hfz53_1 := blk_frozen BK736.out 1; have hcz54_0 : w50.cell? ⟨gb737, 0, none⟩ = some (.int .i64 a2_0) := (blk_cell BK737.out 0).trans rfl; have hcz54_1 : w50.cell? ⟨gb737, 1, none⟩ = some (.int .i64 a2_1) := (blk_cell BK737.out 1).trans rfl; have hcz54_2 : w50.cell? ⟨gb737, 2, none⟩ = some (.int .i64 a2_2) := (blk_cell BK737.out 2).trans rfl; have hfz54_0 := blk_frozen BK737.out 0; have hfz54_1 := blk_frozen BK737.out 1; have hfz54_2 := blk_frozen BK737.out 2) | (go_at_call 52; (with_reducible refine (skiarealaw53_latest.calls kj7 _ _ l0_0 _ _ l0_1 a1 a2_2 true _ ?side1 ?side2 ?side3 ?side4 A42.out).mono ?_); (case side1 => repeat (first | exact (Kd.C_below HR0_0.out HB.out) | (with_reducible refine Kd.C_alloc ?_ _) | (with_reducible refine Kd.C_drewN ?_ _) | (with_reducible refine Kd.C_drew ?_))); (case side2 => exact HC0_0.out); (case side3 => repeat (first | exact (Kd.C_below HR0_1.out HB.out) | (with_reducible refine Kd.C_alloc ?_ _) | (with_reducible refine Kd.C_drewN ?_ _) | (with_reducible refine Kd.C_drew ?_))); (case side4 => exact HC0_1.out); rintro e w55 ⟨rfl, hb⟩; have n0_ := Aside0.mk (Kd.N_below HO743.out hb); have n1_ := Aside0.mk (Kd.R_below HO746.out hb); have n2_ := Aside0.mk (blk_below BK736.out hb); have n3_ := Aside0.mk (blk_below BK737.out hb); have n4_ := Aside0.mk (blk_below BK748.out hb); have n5_ := Aside0.mk (below_step bel_ hb); clear HO743; clear HO746; clear BK736; clear BK737; clear BK748; clear HB; have HO743 := n0_; have HO746 := n1_; have BK736 := n2_; have BK737 := n3_; have BK748 := n4_; have HB := n5_; clear n0_ n1_ n2_ n3_ n4_ n5_; (try clear hb); (try clear hb2); (try clear hk); (try clear hi); have hcz56_0 : w55.cell? ⟨gb736, 0, none⟩ = some (.slice A0_0 l0_0.length c0_0) := (blk_cell BK736.out 0).trans rfl; have hcz56_1 : w55.cell? ⟨gb736, 1, none⟩ = some (.slice A0_1 l0_1.length c0_1) := (blk_cell BK736.out 1).trans rfl; have hfz56_0 := blk_frozen BK736.out 0; have hfz56_1 := blk_frozen BK736.out 1) | (go_at_call 46; (with_reducible refine (patrol_Ready.calls _ _ l0_0 _ _ l0_1 a3 a4 true _ ?side1 ?side2 ?side3 ?side4 A44.out).mono ?_); (case side1 => repeat (first | exact (Kd.C_below HR0_0.out HB.out) | (with_reducible refine Kd.C_alloc ?_ _) | (with_reducible refine Kd.C_drewN ?_ _) | (with_reducible refine Kd.C_drew ?_))); (case side2 => exact HC0_0.out); (case side3 => repeat (first | exact (Kd.C_below HR0_1.out HB.out) | (with_reducible refine Kd.C_alloc ?_ _) | (with_reducible refine Kd.C_drewN ?_ _) | (with_reducible refine Kd.C_drew ?_))); (case side4 => exact HC0_1.out); rintro e w57 ⟨rfl, hb⟩; have n0_ := Aside0.mk (Kd.N_below HO743.out hb); have n1_ := Aside0.mk (Kd.R_below HO746.out hb); have n2_ := Aside0.mk (blk_below BK736.out hb); have n3_ := Aside0.mk (blk_below BK737.out hb); have n4_ := Aside0.mk (blk_below BK748.out hb); have n5_ := Aside0.mk (below_step bel_ hb); clear HO743; clear HO746; clear BK736; clear BK737; clear BK748; clear HB; have HO743 := n0_; have HO746 := n1_; have BK736 := n2_; have BK737 := n3_; have BK748 := n4_; have HB := n5_; clear n0_ n1_ n2_ n3_ n4_ n5_; (try clear hb); (try clear hb2); (try clear hk); (try clear hi); have hcz58_0 : w57.cell? ⟨gb748, 0, none⟩ = some (.slice Ao32 t741.length co32) := (blk_cell BK748.out 0).trans rfl; have hcz58_1 : w57.cell? ⟨gb748, 1, none⟩ = some (.slice Ao36 t744.length co36) := (blk_cell BK748.out 1).trans rfl; have hfz58_0 := blk_frozen BK748.out 0; have hfz58_1 := blk_frozen BK748.out 1) | (go_at_call 46; (with_reducible refine (patrol_Ready.calls _ _ t741 _ _ t744 a3 a4 t752 _ ?side1 ?side2 ?side3 ?side4 A46.out).mono ?_); (case side1 => repeat (first | exact (Kd.N_reads' HO743.out).2.2 | (with_reducible refine Kd.C_alloc ?_ _) | (with_reducible refine Kd.C_drewN ?_ _) | (with_reducible refine Kd.C_drew ?_))); (case side2 => exact (Kd.N_reads' HO743.out).2.1); (case side3 => repeat (first | exact (Kd.R_reads' HO746.out).2.2 | (with_reducible refine Kd.C_alloc ?_ _) | (with_reducible refine Kd.C_drewN ?_ _) | (with_reducible refine Kd.C_drew ?_))); (case side4 => exact (Kd.R_reads' HO746.out).2.1); rintro e w59 ⟨rfl, hb⟩; have n0_ := Aside0.mk (Kd.N_below HO743.out hb); have n1_ := Aside0.mk (Kd.R_below HO746.out hb); have n2_ := Aside0.mk (blk_below BK736.out hb); have n3_ := Aside0.mk (blk_below BK737.out hb); have n4_ := Aside0.mk (blk_below BK748.out hb); have n5_ := Aside0.mk (below_step bel_ hb); clear HO743; clear HO746; clear BK736; clear BK737; clear BK748; clear HB; have HO743 := n0_; have HO746 := n1_; have BK736 := n2_; have BK737 := n3_; have BK748 := n4_; have HB := n5_; clear n0_ n1_ n2_ n3_ n4_ n5_; (try clear hb); (try clear hb2); (try clear hk); (try clear hi)))
             go_meet
             case rel => exact ⟨_, (!t752), (by first | rfl | (simp; done) | (simp [*]; done)), H', ⟨by have := HJ7.out; first | omega | exact Nat.le_refl _⟩, ⟨by (with_reducible repeat (first | apply Kd.N_alloc | apply Kd.N_drewN | apply Kd.N_drew)); exact Kd.N_mono HO743.out (fun _ hk => ⟨hk.1.1, ⟨hk.1.2.1, ⟨hk.1.2.2, hk.2⟩⟩⟩)⟩, ⟨by (with_reducible repeat (first | apply Kd.R_alloc | apply Kd.R_drewN | apply Kd.R_drew)); exact HO746.out⟩, ⟨by exact BK736.out⟩, ⟨by exact BK737.out⟩, ⟨by exact BK748.out⟩, ⟨by repeat (first | (with_reducible first | exact HB.out | apply below_alloc | apply pw_below_drewN | apply below_drew1 | refine below_set ?_ GE736.out | refine below_set ?_ GE737.out | refine below_set ?_ GE748.out) | exact HB.out)⟩⟩
            ·replace c45 := Bool.eq_false_iff.mpr c45
             subst c45
             have H1 : (skiarealaw53_PatrolKeeps.j1 kj7 a1 false l0_0 l0_1 t741 t744) = some true := by rw [if_neg (show ¬ (false = true) by decide)] at H; exact H
             clear H
             have H := H1
             clear H1
             have H' := Aside0.mk H
             clear H
             have hnb60 := NB748_736.out
             have hnc60 := NB736_748.out
             have hnb61 := NB748_737.out
             have hnc61 := NB737_748.out
             have hcz62_0 : w31.cell? ⟨gb748, 0, none⟩ = some (.slice none 0 0) := (blk_cell BK748.out 0).trans rfl
             have hcz62_1 : w31.cell? ⟨gb748, 1, none⟩ = some (.slice none 0 0) := (blk_cell BK748.out 1).trans rfl
             have hfz62_0 := blk_frozen BK748.out 0
             have hfz62_1 := blk_frozen BK748.out 1
             go_wp2_with (first | ((with_reducible refine gate_callee (f := 36) rfl ?_); refine goesL_ (some 50) rfl rfl Try.func36 (by kernel_rfl) rfl #[.agg #[.slice Ao32 t741.length co32, .slice Ao36 t744.length co36]] rfl (by (try simp only [List.map_toArray, List.map_cons, List.map_nil]); first | done | rfl | (simp only [List.length_drop, List.length_take]; rfl)) ?_; (with_reducible refine (patrol_Right.calls kj7 _ _ t741 _ _ t744 t749 _ ?side1 ?side2 ?side3 ?side4 A37.out).mono ?_); (case side1 => refine (Kd.N_reads' (e := 63) (base := w.heap.size) (ok := fun k_ => ((some k_ ≠ (.slice Ao36 t744.length co36 : Value).ownBlock ∧ (k_ ≠ gb736 ∧ k_ ≠ gb737)) ∧ k_ ≠ gb748)) (n := t741.length) (c := co32) ?_).2.2; exact (by (with_reducible repeat (first | apply Kd.N_alloc | apply Kd.N_drewN | apply Kd.N_drew)); exact (Kd.N_mono (Kd.N_far (p := ⟨gb748, 1, none⟩) (Kd.N_far (p := ⟨gb748, 0, none⟩) (Kd.N_mono HO743.out (fun k_ hk => (⟨hk, hk.2⟩ : _ ∧ k_ ≠ gb748))) (fun _ hk => hk.2) (.slice Ao32 t741.length co32)) (fun _ hk => hk.2) (.slice Ao36 t744.length co36)) (fun _ h_ => h_.1)))); (case side2 => exact (Kd.N_reads' HO743.out).2.1); (case side3 => refine (Kd.R_reads' (e := 56) (base := w.heap.size) (ok := fun k_ => True) (n := t744.length) (c := co36) ?_).2.2; exact (by (with_reducible repeat (first | apply Kd.R_alloc | apply Kd.R_drewN | apply Kd.R_drew)); exact (Kd.R_mono (Kd.R_far (p := ⟨gb748, 1, none⟩) (Kd.R_far (p := ⟨gb748, 0, none⟩) (Kd.R_types HO746.out BK748.out (by decide)) (fun _ hk => hk.2) (.slice Ao32 t741.length co32)) (fun _ hk => hk.2) (.slice Ao36 t744.length co36)) (fun _ h_ => h_.1)))); (case side4 => exact (Kd.R_reads' HO746.out).2.1); rintro e w63 ⟨rfl, hb⟩; refine ⟨_, rfl, ?_⟩; have n0_ := Aside0.mk (Kd.N_below (by (with_reducible repeat (first | apply Kd.N_alloc | apply Kd.N_drewN | apply Kd.N_drew)); exact (Kd.N_mono (Kd.N_far (p := ⟨gb748, 1, none⟩) (Kd.N_far (p := ⟨gb748, 0, none⟩) (Kd.N_mono HO743.out (fun k_ hk => (⟨hk, hk.2⟩ : _ ∧ k_ ≠ gb748))) (fun _ hk => hk.2) (.slice Ao32 t741.length co32)) (fun _ hk => hk.2) (.slice Ao36 t744.length co36)) (fun _ h_ => h_.1))) hb); have n1_ := Aside0.mk (Kd.R_below (by (with_reducible repeat (first | apply Kd.R_alloc | apply Kd.R_drewN | apply Kd.R_drew)); exact (Kd.R_mono (Kd.R_far (p := ⟨gb748, 1, none⟩) (Kd.R_far (p := ⟨gb748, 0, none⟩) (Kd.R_types HO746.out BK748.out (by decide)) (fun _ hk => hk.2) (.slice Ao32 t741.length co32)) (fun _ hk => hk.2) (.slice Ao36 t744.length co36)) (fun _ h_ => h_.1))) hb); have n2_ := Aside0.mk (blk_below (g := gb736) (o := .cells #[.slice A0_0 l0_0.length c0_0, .slice A0_1 l0_1.length c0_1] 48 (0, 0)) (by refine blk_far ?_ NB736_748.out _; refine blk_far ?_ NB736_748.out _; exact BK736.out) hb); have n3_ := Aside0.mk (blk_below (g := gb737) (o := .cells #[.int .i64 a2_0, .int .i64 a2_1, .int .i64 a2_2] 35 (0, 0)) (by refine blk_far ?_ NB737_748.out _; refine blk_far ?_ NB737_748.out _; exact BK737.out) hb); have n4_ := Aside0.mk (blk_below (g := gb748) (o := .cells #[.slice Ao32 t741.length co32, .slice Ao36 t744.length co36] 48 (0, 0)) (by refine blk_put (cs := #[.slice Ao32 t741.length co32, .slice none 0 0]) ?_ 1 _ rfl; refine blk_put (cs := #[.slice none 0 0, .slice none 0 0]) ?_ 0 _ rfl; exact BK748.out) hb); have n5_ := Aside0.mk (below_step bel_ hb); clear HO743; clear HO746; clear BK736; clear BK737; clear BK748; clear HB; have HO743 := n0_; have HO746 := n1_; have BK736 := n2_; have BK737 := n3_; have BK748 := n4_; have HB := n5_; clear n0_ n1_ n2_ n3_ n4_ n5_; (try clear hb); (try clear hb2); (try clear hk); (try clear hi); have hcz64_0 : w63.cell? ⟨gb748, 0, none⟩ = some (.slice Ao32 t741.length co32) := (blk_cell BK748.out 0).trans rfl; have hcz64_1 : w63.cell? ⟨gb748, 1, none⟩ = some (.slice Ao36 t744.length co36) := (blk_cell BK748.out 1).trans rfl; have hfz64_0 := blk_frozen BK748.out 0; have hfz64_1 := blk_frozen BK748.out 1; have hnb65 := NB736_737.out; have hnc65 := NB737_736.out; have hcz66_0 : w63.cell? ⟨gb736, 0, none⟩ = some (.slice A0_0 l0_0.length c0_0) := (blk_cell BK736.out 0).trans rfl; have hcz66_1 : w63.cell? ⟨gb736, 1, none⟩ = some (.slice A0_1 l0_1.length c0_1) := (blk_cell BK736.out 1).trans rfl; have hfz66_0 := blk_frozen BK736.out 0; have hfz66_1 := blk_frozen BK736.out 1; have hcz67_0 : w63.cell? ⟨gb737, 0, none⟩ = some (.int .i64 a2_0) := (blk_cell BK737.out 0).trans rfl; have hcz67_1 : w63.cell? ⟨gb737, 1, none⟩ = some (.int .i64 a2_1) := (blk_cell BK737.out 1).trans rfl; have hcz67_2 : w63.cell? ⟨gb737, 2, none⟩ = some (.int .i64 a2_2) := (blk_cell BK737.out 2).trans rfl; have hfz67_0 := blk_frozen BK737.out 0; have hfz67_1 := blk_frozen BK737.out 1; have hfz67_2 := blk_frozen BK737.out 2) | (go_at_call 52; (with_reducible refine (skiarealaw53_latest.calls kj7 _ _ l0_0 _ _ l0_1 a1 a2_2 true _ ?side1 ?side2 ?side3 ?side4 A42.out).mono ?_); (case side1 => repeat (first | exact (Kd.C_below HR0_0.out HB.out) | (with_reducible refine Kd.C_alloc ?_ _) | (with_reducible refine Kd.C_drewN ?_ _) | (with_reducible refine Kd.C_drew ?_))); (case side2 => exact HC0_0.out); (case side3 => repeat (first | exact (Kd.C_below HR0_1.out HB.out) | (with_reducible refine Kd.C_alloc ?_ _) | (with_reducible refine Kd.C_drewN ?_ _) | (with_reducible refine Kd.C_drew ?_))); (case side4 => exact HC0_1.out); rintro e w68 ⟨rfl, hb⟩; have n0_ := Aside0.mk (Kd.N_below HO743.out hb); have n1_ := Aside0.mk (Kd.R_below HO746.out hb); have n2_ := Aside0.mk (blk_below BK736.out hb); have n3_ := Aside0.mk (blk_below BK737.out hb); have n4_ := Aside0.mk (blk_below BK748.out hb); have n5_ := Aside0.mk (below_step bel_ hb); clear HO743; clear HO746; clear BK736; clear BK737; clear BK748; clear HB; have HO743 := n0_; have HO746 := n1_; have BK736 := n2_; have BK737 := n3_; have BK748 := n4_; have HB := n5_; clear n0_ n1_ n2_ n3_ n4_ n5_; (try clear hb); (try clear hb2); (try clear hk); (try clear hi); have hcz69_0 : w68.cell? ⟨gb736, 0, none⟩ = some (.slice A0_0 l0_0.length c0_0) := (blk_cell BK736.out 0).trans rfl; have hcz69_1 : w68.cell? ⟨gb736, 1, none⟩ = some (.slice A0_1 l0_1.length c0_1) := (blk_cell BK736.out 1).trans rfl; have hfz69_0 := blk_frozen BK736.out 0; have hfz69_1 := blk_frozen BK736.out 1) | (go_at_call 46; (with_reducible refine (patrol_Ready.calls _ _ l0_0 _ _ l0_1 a3 a4 false _ ?side1 ?side2 ?side3 ?side4 A44.out).mono ?_); (case side1 => repeat (first | exact (Kd.C_below HR0_0.out HB.out) | (with_reducible refine Kd.C_alloc ?_ _) | (with_reducible refine Kd.C_drewN ?_ _) | (with_reducible refine Kd.C_drew ?_))); (case side2 => exact HC0_0.out); (case side3 => repeat (first | exact (Kd.C_below HR0_1.out HB.out) | (with_reducible refine Kd.C_alloc ?_ _) | (with_reducible refine Kd.C_drewN ?_ _) | (with_reducible refine Kd.C_drew ?_))); (case side4 => exact HC0_1.out); rintro e w70 ⟨rfl, hb⟩; have n0_ := Aside0.mk (Kd.N_below HO743.out hb); have n1_ := Aside0.mk (Kd.R_below HO746.out hb); have n2_ := Aside0.mk (blk_below BK736.out hb); have n3_ := Aside0.mk (blk_below BK737.out hb); have n4_ := Aside0.mk (blk_below BK748.out hb); have n5_ := Aside0.mk (below_step bel_ hb); clear HO743; clear HO746; clear BK736; clear BK737; clear BK748; clear HB; have HO743 := n0_; have HO746 := n1_; have BK736 := n2_; have BK737 := n3_; have BK748 := n4_; have HB := n5_; clear n0_ n1_ n2_ n3_ n4_ n5_; (try clear hb); (try clear hb2); (try clear hk); (try clear hi)))
             go_meet
             case rel => exact ⟨_, (false), (by first | rfl | (simp; done) | (simp [*]; done)), H', ⟨by have := HJ7.out; first | omega | exact Nat.le_refl _⟩, ⟨by (with_reducible repeat (first | apply Kd.N_alloc | apply Kd.N_drewN | apply Kd.N_drew)); exact Kd.N_mono HO743.out (fun _ hk => ⟨hk.1.1, ⟨hk.1.2.1, ⟨hk.1.2.2, hk.2⟩⟩⟩)⟩, ⟨by (with_reducible repeat (first | apply Kd.R_alloc | apply Kd.R_drewN | apply Kd.R_drew)); exact HO746.out⟩, ⟨by exact BK736.out⟩, ⟨by exact BK737.out⟩, ⟨by exact BK748.out⟩, ⟨by repeat (first | (with_reducible first | exact HB.out | apply below_alloc | apply pw_below_drewN | apply below_drew1 | refine below_set ?_ GE736.out | refine below_set ?_ GE737.out | refine below_set ?_ GE748.out) | exact HB.out)⟩⟩
           ·replace c43 := Bool.eq_false_iff.mpr c43
            subst c43
            have H1 : (skiarealaw53_PatrolKeeps.j1 kj7 a1 false l0_0 l0_1 t741 t744) = some true := by rw [if_neg (show ¬ (false = true) by decide)] at H; exact H
            clear H
            have H := H1
            clear H1
            have H' := Aside0.mk H
            clear H
            have hnb71 := NB748_736.out
            have hnc71 := NB736_748.out
            have hnb72 := NB748_737.out
            have hnc72 := NB737_748.out
            have hcz73_0 : w31.cell? ⟨gb748, 0, none⟩ = some (.slice none 0 0) := (blk_cell BK748.out 0).trans rfl
            have hcz73_1 : w31.cell? ⟨gb748, 1, none⟩ = some (.slice none 0 0) := (blk_cell BK748.out 1).trans rfl
            have hfz73_0 := blk_frozen BK748.out 0
            have hfz73_1 := blk_frozen BK748.out 1
            go_wp2_with (first | ((with_reducible refine gate_callee (f := 36) rfl ?_); refine goesL_ (some 50) rfl rfl Try.func36 (by kernel_rfl) rfl #[.agg #[.slice Ao32 t741.length co32, .slice Ao36 t744.length co36]] rfl (by (try simp only [List.map_toArray, List.map_cons, List.map_nil]); first | done | rfl | (simp only [List.length_drop, List.length_take]; rfl)) ?_; (with_reducible refine (patrol_Right.calls kj7 _ _ t741 _ _ t744 t749 _ ?side1 ?side2 ?side3 ?side4 A37.out).mono ?_); (case side1 => refine (Kd.N_reads' (e := 63) (base := w.heap.size) (ok := fun k_ => ((some k_ ≠ (.slice Ao36 t744.length co36 : Value).ownBlock ∧ (k_ ≠ gb736 ∧ k_ ≠ gb737)) ∧ k_ ≠ gb748)) (n := t741.length) (c := co32) ?_).2.2; exact (by (with_reducible repeat (first | apply Kd.N_alloc | apply Kd.N_drewN | apply Kd.N_drew)); exact (Kd.N_mono (Kd.N_far (p := ⟨gb748, 1, none⟩) (Kd.N_far (p := ⟨gb748, 0, none⟩) (Kd.N_mono HO743.out (fun k_ hk => (⟨hk, hk.2⟩ : _ ∧ k_ ≠ gb748))) (fun _ hk => hk.2) (.slice Ao32 t741.length co32)) (fun _ hk => hk.2) (.slice Ao36 t744.length co36)) (fun _ h_ => h_.1)))); (case side2 => exact (Kd.N_reads' HO743.out).2.1); (case side3 => refine (Kd.R_reads' (e := 56) (base := w.heap.size) (ok := fun k_ => True) (n := t744.length) (c := co36) ?_).2.2; exact (by (with_reducible repeat (first | apply Kd.R_alloc | apply Kd.R_drewN | apply Kd.R_drew)); exact (Kd.R_mono (Kd.R_far (p := ⟨gb748, 1, none⟩) (Kd.R_far (p := ⟨gb748, 0, none⟩) (Kd.R_types HO746.out BK748.out (by decide)) (fun _ hk => hk.2) (.slice Ao32 t741.length co32)) (fun _ hk => hk.2) (.slice Ao36 t744.length co36)) (fun _ h_ => h_.1)))); (case side4 => exact (Kd.R_reads' HO746.out).2.1); rintro e w74 ⟨rfl, hb⟩; refine ⟨_, rfl, ?_⟩; have n0_ := Aside0.mk (Kd.N_below (by (with_reducible repeat (first | apply Kd.N_alloc | apply Kd.N_drewN | apply Kd.N_drew)); exact (Kd.N_mono (Kd.N_far (p := ⟨gb748, 1, none⟩) (Kd.N_far (p := ⟨gb748, 0, none⟩) (Kd.N_mono HO743.out (fun k_ hk => (⟨hk, hk.2⟩ : _ ∧ k_ ≠ gb748))) (fun _ hk => hk.2) (.slice Ao32 t741.length co32)) (fun _ hk => hk.2) (.slice Ao36 t744.length co36)) (fun _ h_ => h_.1))) hb); have n1_ := Aside0.mk (Kd.R_below (by (with_reducible repeat (first | apply Kd.R_alloc | apply Kd.R_drewN | apply Kd.R_drew)); exact (Kd.R_mono (Kd.R_far (p := ⟨gb748, 1, none⟩) (Kd.R_far (p := ⟨gb748, 0, none⟩) (Kd.R_types HO746.out BK748.out (by decide)) (fun _ hk => hk.2) (.slice Ao32 t741.length co32)) (fun _ hk => hk.2) (.slice Ao36 t744.length co36)) (fun _ h_ => h_.1))) hb); have n2_ := Aside0.mk (blk_below (g := gb736) (o := .cells #[.slice A0_0 l0_0.length c0_0, .slice A0_1 l0_1.length c0_1] 48 (0, 0)) (by refine blk_far ?_ NB736_748.out _; refine blk_far ?_ NB736_748.out _; exact BK736.out) hb); have n3_ := Aside0.mk (blk_below (g := gb737) (o := .cells #[.int .i64 a2_0, .int .i64 a2_1, .int .i64 a2_2] 35 (0, 0)) (by refine blk_far ?_ NB737_748.out _; refine blk_far ?_ NB737_748.out _; exact BK737.out) hb); have n4_ := Aside0.mk (blk_below (g := gb748) (o := .cells #[.slice Ao32 t741.length co32, .slice Ao36 t744.length co36] 48 (0, 0)) (by refine blk_put (cs := #[.slice Ao32 t741.length co32, .slice none 0 0]) ?_ 1 _ rfl; refine blk_put (cs := #[.slice none 0 0, .slice none 0 0]) ?_ 0 _ rfl; exact BK748.out) hb); have n5_ := Aside0.mk (below_step bel_ hb); clear HO743; clear HO746; clear BK736; clear BK737; clear BK748; clear HB; have HO743 := n0_; have HO746 := n1_; have BK736 := n2_; have BK737 := n3_; have BK748 := n4_; have HB := n5_; clear n0_ n1_ n2_ n3_ n4_ n5_; (try clear hb); (try clear hb2); (try clear hk); (try clear hi); have hcz75_0 : w74.cell? ⟨gb748, 0, none⟩ = some (.slice Ao32 t741.length co32) := (blk_cell BK748.out 0).trans rfl; have hcz75_1 : w74.cell? ⟨gb748, 1, none⟩ = some (.slice Ao36 t744.length co36) := (blk_cell BK748.out 1).trans rfl; have hfz75_0 := blk_frozen BK748.out 0; have hfz75_1 := blk_frozen BK748.out 1; have hnb76 := NB736_737.out; have hnc76 := NB737_736.out; have hcz77_0 : w74.cell? ⟨gb736, 0, none⟩ = some (.slice A0_0 l0_0.length c0_0) := (blk_cell BK736.out 0).trans rfl; have hcz77_1 : w74.cell? ⟨gb736, 1, none⟩ = some (.slice A0_1 l0_1.length c0_1) := (blk_cell BK736.out 1).trans rfl; have hfz77_0 := blk_frozen BK736.out 0; have hfz77_1 := blk_frozen BK736.out 1; have hcz78_0 : w74.cell? ⟨gb737, 0, none⟩ = some (.int .i64 a2_0) := (blk_cell BK737.out 0).trans rfl; have hcz78_1 : w74.cell? ⟨gb737, 1, none⟩ = some (.int .i64 a2_1) := (blk_cell BK737.out 1).trans rfl; have hcz78_2 : w74.cell? ⟨gb737, 2, none⟩ = some (.int .i64 a2_2) := (blk_cell BK737.out 2).trans rfl; have hfz78_0 := blk_frozen BK737.out 0; have hfz78_1 := blk_frozen BK737.out 1; have hfz78_2 := blk_frozen BK737.out 2) | (go_at_call 52; (with_reducible refine (skiarealaw53_latest.calls kj7 _ _ l0_0 _ _ l0_1 a1 a2_2 false _ ?side1 ?side2 ?side3 ?side4 A42.out).mono ?_); (case side1 => repeat (first | exact (Kd.C_below HR0_0.out HB.out) | (with_reducible refine Kd.C_alloc ?_ _) | (with_reducible refine Kd.C_drewN ?_ _) | (with_reducible refine Kd.C_drew ?_))); (case side2 => exact HC0_0.out); (case side3 => repeat (first | exact (Kd.C_below HR0_1.out HB.out) | (with_reducible refine Kd.C_alloc ?_ _) | (with_reducible refine Kd.C_drewN ?_ _) | (with_reducible refine Kd.C_drew ?_))); (case side4 => exact HC0_1.out); rintro e w79 ⟨rfl, hb⟩; have n0_ := Aside0.mk (Kd.N_below HO743.out hb); have n1_ := Aside0.mk (Kd.R_below HO746.out hb); have n2_ := Aside0.mk (blk_below BK736.out hb); have n3_ := Aside0.mk (blk_below BK737.out hb); have n4_ := Aside0.mk (blk_below BK748.out hb); have n5_ := Aside0.mk (below_step bel_ hb); clear HO743; clear HO746; clear BK736; clear BK737; clear BK748; clear HB; have HO743 := n0_; have HO746 := n1_; have BK736 := n2_; have BK737 := n3_; have BK748 := n4_; have HB := n5_; clear n0_ n1_ n2_ n3_ n4_ n5_; (try clear hb); (try clear hb2); (try clear hk); (try clear hi)))
            go_meet
            case rel => exact ⟨_, (false), (by first | rfl | (simp; done) | (simp [*]; done)), H', ⟨by have := HJ7.out; first | omega | exact Nat.le_refl _⟩, ⟨by (with_reducible repeat (first | apply Kd.N_alloc | apply Kd.N_drewN | apply Kd.N_drew)); exact Kd.N_mono HO743.out (fun _ hk => ⟨hk.1.1, ⟨hk.1.2.1, ⟨hk.1.2.2, hk.2⟩⟩⟩)⟩, ⟨by (with_reducible repeat (first | apply Kd.R_alloc | apply Kd.R_drewN | apply Kd.R_drew)); exact HO746.out⟩, ⟨by exact BK736.out⟩, ⟨by exact BK737.out⟩, ⟨by exact BK748.out⟩, ⟨by repeat (first | (with_reducible first | exact HB.out | apply below_alloc | apply pw_below_drewN | apply below_drew1 | refine below_set ?_ GE736.out | refine below_set ?_ GE737.out | refine below_set ?_ GE748.out) | exact HB.out)⟩⟩
          ·rw [if_neg c41] at H
           have c41b0 : decide (a2_2 ≤ a4) = false := decide_eq_false c41
           clear c41
           have H' := Aside0.mk H
           clear H
           have hnb80 := NB748_736.out
           have hnc80 := NB736_748.out
           have hnb81 := NB748_737.out
           have hnc81 := NB737_748.out
           have hcz82_0 : w31.cell? ⟨gb748, 0, none⟩ = some (.slice none 0 0) := (blk_cell BK748.out 0).trans rfl
           have hcz82_1 : w31.cell? ⟨gb748, 1, none⟩ = some (.slice none 0 0) := (blk_cell BK748.out 1).trans rfl
           have hfz82_0 := blk_frozen BK748.out 0
           have hfz82_1 := blk_frozen BK748.out 1
           go_wp2_with (first | ((with_reducible refine gate_callee (f := 36) rfl ?_); refine goesL_ (some 50) rfl rfl Try.func36 (by kernel_rfl) rfl #[.agg #[.slice Ao32 t741.length co32, .slice Ao36 t744.length co36]] rfl (by (try simp only [List.map_toArray, List.map_cons, List.map_nil]); first | done | rfl | (simp only [List.length_drop, List.length_take]; rfl)) ?_; (with_reducible refine (patrol_Right.calls kj7 _ _ t741 _ _ t744 t749 _ ?side1 ?side2 ?side3 ?side4 A37.out).mono ?_); (case side1 => refine (Kd.N_reads' (e := 63) (base := w.heap.size) (ok := fun k_ => ((some k_ ≠ (.slice Ao36 t744.length co36 : Value).ownBlock ∧ (k_ ≠ gb736 ∧ k_ ≠ gb737)) ∧ k_ ≠ gb748)) (n := t741.length) (c := co32) ?_).2.2; exact (by (with_reducible repeat (first | apply Kd.N_alloc | apply Kd.N_drewN | apply Kd.N_drew)); exact (Kd.N_mono (Kd.N_far (p := ⟨gb748, 1, none⟩) (Kd.N_far (p := ⟨gb748, 0, none⟩) (Kd.N_mono HO743.out (fun k_ hk => (⟨hk, hk.2⟩ : _ ∧ k_ ≠ gb748))) (fun _ hk => hk.2) (.slice Ao32 t741.length co32)) (fun _ hk => hk.2) (.slice Ao36 t744.length co36)) (fun _ h_ => h_.1)))); (case side2 => exact (Kd.N_reads' HO743.out).2.1); (case side3 => refine (Kd.R_reads' (e := 56) (base := w.heap.size) (ok := fun k_ => True) (n := t744.length) (c := co36) ?_).2.2; exact (by (with_reducible repeat (first | apply Kd.R_alloc | apply Kd.R_drewN | apply Kd.R_drew)); exact (Kd.R_mono (Kd.R_far (p := ⟨gb748, 1, none⟩) (Kd.R_far (p := ⟨gb748, 0, none⟩) (Kd.R_types HO746.out BK748.out (by decide)) (fun _ hk => hk.2) (.slice Ao32 t741.length co32)) (fun _ hk => hk.2) (.slice Ao36 t744.length co36)) (fun _ h_ => h_.1)))); (case side4 => exact (Kd.R_reads' HO746.out).2.1); rintro e w83 ⟨rfl, hb⟩; refine ⟨_, rfl, ?_⟩; have n0_ := Aside0.mk (Kd.N_below (by (with_reducible repeat (first | apply Kd.N_alloc | apply Kd.N_drewN | apply Kd.N_drew)); exact (Kd.N_mono (Kd.N_far (p := ⟨gb748, 1, none⟩) (Kd.N_far (p := ⟨gb748, 0, none⟩) (Kd.N_mono HO743.out (fun k_ hk => (⟨hk, hk.2⟩ : _ ∧ k_ ≠ gb748))) (fun _ hk => hk.2) (.slice Ao32 t741.length co32)) (fun _ hk => hk.2) (.slice Ao36 t744.length co36)) (fun _ h_ => h_.1))) hb); have n1_ := Aside0.mk (Kd.R_below (by (with_reducible repeat (first | apply Kd.R_alloc | apply Kd.R_drewN | apply Kd.R_drew)); exact (Kd.R_mono (Kd.R_far (p := ⟨gb748, 1, none⟩) (Kd.R_far (p := ⟨gb748, 0, none⟩) (Kd.R_types HO746.out BK748.out (by decide)) (fun _ hk => hk.2) (.slice Ao32 t741.length co32)) (fun _ hk => hk.2) (.slice Ao36 t744.length co36)) (fun _ h_ => h_.1))) hb); have n2_ := Aside0.mk (blk_below (g := gb736) (o := .cells #[.slice A0_0 l0_0.length c0_0, .slice A0_1 l0_1.length c0_1] 48 (0, 0)) (by refine blk_far ?_ NB736_748.out _; refine blk_far ?_ NB736_748.out _; exact BK736.out) hb); have n3_ := Aside0.mk (blk_below (g := gb737) (o := .cells #[.int .i64 a2_0, .int .i64 a2_1, .int .i64 a2_2] 35 (0, 0)) (by refine blk_far ?_ NB737_748.out _; refine blk_far ?_ NB737_748.out _; exact BK737.out) hb); have n4_ := Aside0.mk (blk_below (g := gb748) (o := .cells #[.slice Ao32 t741.length co32, .slice Ao36 t744.length co36] 48 (0, 0)) (by refine blk_put (cs := #[.slice Ao32 t741.length co32, .slice none 0 0]) ?_ 1 _ rfl; refine blk_put (cs := #[.slice none 0 0, .slice none 0 0]) ?_ 0 _ rfl; exact BK748.out) hb); have n5_ := Aside0.mk (below_step bel_ hb); clear HO743; clear HO746; clear BK736; clear BK737; clear BK748; clear HB; have HO743 := n0_; have HO746 := n1_; have BK736 := n2_; have BK737 := n3_; have BK748 := n4_; have HB := n5_; clear n0_ n1_ n2_ n3_ n4_ n5_; (try clear hb); (try clear hb2); (try clear hk); (try clear hi); have hcz84_0 : w83.cell? ⟨gb748, 0, none⟩ = some (.slice Ao32 t741.length co32) := (blk_cell BK748.out 0).trans rfl; have hcz84_1 : w83.cell? ⟨gb748, 1, none⟩ = some (.slice Ao36 t744.length co36) := (blk_cell BK748.out 1).trans rfl; have hfz84_0 := blk_frozen BK748.out 0; have hfz84_1 := blk_frozen BK748.out 1; have hnb85 := NB736_737.out; have hnc85 := NB737_736.out; have hcz86_0 : w83.cell? ⟨gb736, 0, none⟩ = some (.slice A0_0 l0_0.length c0_0) := (blk_cell BK736.out 0).trans rfl; have hcz86_1 : w83.cell? ⟨gb736, 1, none⟩ = some (.slice A0_1 l0_1.length c0_1) := (blk_cell BK736.out 1).trans rfl; have hfz86_0 := blk_frozen BK736.out 0; have hfz86_1 := blk_frozen BK736.out 1; have hcz87_0 : w83.cell? ⟨gb737, 0, none⟩ = some (.int .i64 a2_0) := (blk_cell BK737.out 0).trans rfl; have hcz87_1 : w83.cell? ⟨gb737, 1, none⟩ = some (.int .i64 a2_1) := (blk_cell BK737.out 1).trans rfl; have hcz87_2 : w83.cell? ⟨gb737, 2, none⟩ = some (.int .i64 a2_2) := (blk_cell BK737.out 2).trans rfl; have hfz87_0 := blk_frozen BK737.out 0; have hfz87_1 := blk_frozen BK737.out 1; have hfz87_2 := blk_frozen BK737.out 2))
           go_meet
           case rel => exact ⟨_, (false), (by first | rfl | (simp; done) | (simp [*]; done)), H', ⟨by have := HJ7.out; first | omega | exact Nat.le_refl _⟩, ⟨by (with_reducible repeat (first | apply Kd.N_alloc | apply Kd.N_drewN | apply Kd.N_drew)); exact Kd.N_mono HO743.out (fun _ hk => ⟨hk.1.1, ⟨hk.1.2.1, ⟨hk.1.2.2, hk.2⟩⟩⟩)⟩, ⟨by (with_reducible repeat (first | apply Kd.R_alloc | apply Kd.R_drewN | apply Kd.R_drew)); exact HO746.out⟩, ⟨by exact BK736.out⟩, ⟨by exact BK737.out⟩, ⟨by exact BK748.out⟩, ⟨by repeat (first | (with_reducible first | exact HB.out | apply below_alloc | apply pw_below_drewN | apply below_drew1 | refine below_set ?_ GE736.out | refine below_set ?_ GE737.out | refine below_set ?_ GE748.out) | exact HB.out)⟩⟩
         ·rw [if_neg c40] at H
          have c40b0 : ((t744.length : Int) == (l0_1.length : Int)) = false := beq_eq_false_iff_ne.mpr c40
          have c40b1 : ((t744.length : Int) != (l0_1.length : Int)) = true := bne_iff_ne.mpr c40
          have c40b2 : (t744.length == l0_1.length) = false := by first | simpa using c40 | (simp at c40 ⊢; omega)
          cases kj7 with
          | zero => exact absurd H (by simp [skiarealaw53_PatrolKeeps.j1])
          | succ k_ => exact absurd H (by simp [skiarealaw53_PatrolKeeps.j1])
        ·rw [if_neg c39] at H
         have c39b0 : ((t741.length : Int) == (l0_0.length : Int)) = false := beq_eq_false_iff_ne.mpr c39
         have c39b1 : ((t741.length : Int) != (l0_0.length : Int)) = true := bne_iff_ne.mpr c39
         have c39b2 : (t741.length == l0_0.length) = false := by first | simpa using c39 | (simp at c39 ⊢; omega)
         cases kj7 with
         | zero => exact absurd H (by simp [skiarealaw53_PatrolKeeps.j1])
         | succ k_ => exact absurd H (by simp [skiarealaw53_PatrolKeeps.j1])
       ·rw [if_neg c38] at H
        have c38b0 : (t749 == 0) = false := beq_eq_false_iff_ne.mpr c38
        have c38b1 : (t749 != 0) = true := bne_iff_ne.mpr c38
        (first | rw [c38b0] | (simp only [i64_w, i32_w]; rw [c38b0]) | skip)
        cases kj7 with
        | zero => exact absurd H (by simp [skiarealaw53_PatrolKeeps.j1])
        | succ k_ => exact absurd H (by simp [skiarealaw53_PatrolKeeps.j1])
      case rest =>
       clear HC26
       try clear c1
       try clear c2
       try clear p2
       try clear c3
       try clear c4
       try clear c5
       try clear c6
       try clear c7
       try clear c8
       try clear c13
       try clear c15
       try clear c17
       try clear c20
       try clear c23
       try clear c25
       try clear c25b0
       try clear c25b1
       try clear c27
       try clear c33
       try clear c34
       try clear c35
       try clear c36
       try clear c38
       try clear c38b0
       try clear c38b1
       try clear c39
       try clear c39b0
       try clear c39b1
       try clear c39b2
       try clear c40
       try clear c40b0
       try clear c40b1
       try clear c40b2
       try clear c41
       try clear c41b0
       try clear c43
       try clear c45
       try clear c47
       try clear c48
       try clear c52
       try clear c60
       try clear c61
       try clear c65
       try clear c71
       try clear c72
       try clear c76
       try clear c80
       try clear c81
       try clear c85
       try clear hcz16_0
       try clear hcz16_1
       try clear hcz18_0
       try clear hcz18_1
       try clear hcz21_0
       try clear hcz21_1
       try clear hcz28_0
       try clear hcz28_1
       try clear hcz29_0
       try clear hcz29_1
       try clear hcz29_2
       try clear hcz35_0
       try clear hcz35_1
       try clear hcz49_0
       try clear hcz49_1
       try clear hcz51_0
       try clear hcz51_1
       try clear hcz53_0
       try clear hcz53_1
       try clear hcz54_0
       try clear hcz54_1
       try clear hcz54_2
       try clear hcz56_0
       try clear hcz56_1
       try clear hcz58_0
       try clear hcz58_1
       try clear hcz62_0
       try clear hcz62_1
       try clear hcz64_0
       try clear hcz64_1
       try clear hcz66_0
       try clear hcz66_1
       try clear hcz67_0
       try clear hcz67_1
       try clear hcz67_2
       try clear hcz69_0
       try clear hcz69_1
       try clear hcz73_0
       try clear hcz73_1
       try clear hcz75_0
       try clear hcz75_1
       try clear hcz77_0
       try clear hcz77_1
       try clear hcz78_0
       try clear hcz78_1
       try clear hcz78_2
       try clear hcz82_0
       try clear hcz82_1
       try clear hcz84_0
       try clear hcz84_1
       try clear hcz86_0
       try clear hcz86_1
       try clear hcz87_0
       try clear hcz87_1
       try clear hcz87_2
       try clear hfz16_0
       try clear hfz16_1
       try clear hfz18_0
       try clear hfz18_1
       try clear hfz21_0
       try clear hfz21_1
       try clear hfz28_0
       try clear hfz28_1
       try clear hfz29_0
       try clear hfz29_1
       try clear hfz29_2
       try clear hfz35_0
       try clear hfz35_1
       try clear hfz49_0
       try clear hfz49_1
       try clear hfz51_0
       try clear hfz51_1
       try clear hfz53_0
       try clear hfz53_1
       try clear hfz54_0
       try clear hfz54_1
       try clear hfz54_2
       try clear hfz56_0
       try clear hfz56_1
       try clear hfz58_0
       try clear hfz58_1
       try clear hfz62_0
       try clear hfz62_1
       try clear hfz64_0
       try clear hfz64_1
       try clear hfz66_0
       try clear hfz66_1
       try clear hfz67_0
       try clear hfz67_1
       try clear hfz67_2
       try clear hfz69_0
       try clear hfz69_1
       try clear hfz73_0
       try clear hfz73_1
       try clear hfz75_0
       try clear hfz75_1
       try clear hfz77_0
       try clear hfz77_1
       try clear hfz78_0
       try clear hfz78_1
       try clear hfz78_2
       try clear hfz82_0
       try clear hfz82_1
       try clear hfz84_0
       try clear hfz84_1
       try clear hfz86_0
       try clear hfz86_1
       try clear hfz87_0
       try clear hfz87_1
       try clear hfz87_2
       try clear p2
       obtain ⟨kq, x95_25, rfl, HA, HJ25, HO_749000, HO_749001, BK736, BK737, BK748, HB⟩ := hcut
       cases kq with
       | zero => exact absurd HA.out (by simp [skiarealaw53_PatrolKeeps.j1])
       | succ kj25 =>
        have H := HA.out
        clear HA
        simp only [skiarealaw53_PatrolKeeps.j1] at H
        by_cases c88 : x95_25 = true
        ·subst c88
         have H1 : (some false) = some true := by rw [if_pos rfl] at H; exact H
         clear H
         have H := H1
         clear H1
         exact absurd H (by simp)
        ·replace c88 := Bool.eq_false_iff.mpr c88
         subst c88
         have H1 : (skiarealaw53_PatrolKeeps.l0 kj25 a1 0 l0_0 l0_1 t741 t744) = some true := by rw [if_neg (show ¬ (false = true) by decide)] at H; exact H
         clear H
         have H := H1
         clear H1
         have H' := Aside0.mk H
         clear H
         go_wp2
         go_loopg [13] kj25 (fun kq v13 w' => ∃ (x13_3 : Int), v13 = .int .i64 x13_3 ∧ Aside0 (skiarealaw53_PatrolKeeps.l0 kq a1 x13_3 l0_0 l0_1 t741 t744 = some true) ∧ Aside0 (kq ≤ kj25) ∧ Aside0 (Kd.N k63 63 w' w.heap.size (fun k_ => some k_ ≠ ((.slice Ao36 t744.length co36) : Value).ownBlock ∧ k_ ≠ gb736 ∧ k_ ≠ gb737 ∧ k_ ≠ gb748) (.slice Ao32 t741.length co32) t741) ∧ Aside0 (Kd.R k56 56 w' w.heap.size (fun _ => True) (.slice Ao36 t744.length co36) t744) ∧ Aside0 (w'.heap[gb736]? = some (.cells #[(.slice A0_0 l0_0.length c0_0), (.slice A0_1 l0_1.length c0_1)] 48 (0, 0))) ∧ Aside0 (w'.heap[gb737]? = some (.cells #[.int .i64 a2_0, .int .i64 a2_1, .int .i64 a2_2] 35 (0, 0))) ∧ Aside0 (w'.heap[gb748]? = some (.cells #[(.slice Ao32 t741.length co32), (.slice Ao36 t744.length co36)] 48 (0, 0))) ∧ Aside0 (Below w.heap.size w w'))
         case atStart => exact ⟨(0), (by first | rfl | (simp; done) | (simp [*]; done)), H', ⟨Nat.le_refl _⟩, ⟨by (with_reducible repeat (first | apply Kd.N_alloc | apply Kd.N_drewN | apply Kd.N_drew)); exact HO_749000.out⟩, ⟨by (with_reducible repeat (first | apply Kd.R_alloc | apply Kd.R_drewN | apply Kd.R_drew)); exact HO_749001.out⟩, ⟨by exact BK736.out⟩, ⟨by exact BK737.out⟩, ⟨by exact BK748.out⟩, ⟨by repeat (first | (with_reducible first | exact HB.out | apply below_alloc | apply pw_below_drewN | apply below_drew1 | refine below_set ?_ GE736.out | refine below_set ?_ GE737.out | refine below_set ?_ GE748.out) | exact HB.out)⟩⟩
         case round =>
          clear H'
          try clear c1
          try clear c2
          try clear p2
          try clear c3
          try clear c4
          try clear c5
          try clear c6
          try clear c7
          try clear c8
          try clear c13
          try clear c15
          try clear c17
          try clear c20
          try clear c23
          try clear c25
          try clear c25b0
          try clear c25b1
          try clear c27
          try clear c33
          try clear c34
          try clear c35
          try clear c36
          try clear c38
          try clear c38b0
          try clear c38b1
          try clear c39
          try clear c39b0
          try clear c39b1
          try clear c39b2
          try clear c40
          try clear c40b0
          try clear c40b1
          try clear c40b2
          try clear c41
          try clear c41b0
          try clear c43
          try clear c45
          try clear c47
          try clear c48
          try clear c52
          try clear c60
          try clear c61
          try clear c65
          try clear c71
          try clear c72
          try clear c76
          try clear c80
          try clear c81
          try clear c85
          try clear c88
          try clear hcz16_0
          try clear hcz16_1
          try clear hcz18_0
          try clear hcz18_1
          try clear hcz21_0
          try clear hcz21_1
          try clear hcz28_0
          try clear hcz28_1
          try clear hcz29_0
          try clear hcz29_1
          try clear hcz29_2
          try clear hcz35_0
          try clear hcz35_1
          try clear hcz49_0
          try clear hcz49_1
          try clear hcz51_0
          try clear hcz51_1
          try clear hcz53_0
          try clear hcz53_1
          try clear hcz54_0
          try clear hcz54_1
          try clear hcz54_2
          try clear hcz56_0
          try clear hcz56_1
          try clear hcz58_0
          try clear hcz58_1
          try clear hcz62_0
          try clear hcz62_1
          try clear hcz64_0
          try clear hcz64_1
          try clear hcz66_0
          try clear hcz66_1
          try clear hcz67_0
          try clear hcz67_1
          try clear hcz67_2
          try clear hcz69_0
          try clear hcz69_1
          try clear hcz73_0
          try clear hcz73_1
          try clear hcz75_0
          try clear hcz75_1
          try clear hcz77_0
          try clear hcz77_1
          try clear hcz78_0
          try clear hcz78_1
          try clear hcz78_2
          try clear hcz82_0
          try clear hcz82_1
          try clear hcz84_0
          try clear hcz84_1
          try clear hcz86_0
          try clear hcz86_1
          try clear hcz87_0
          try clear hcz87_1
          try clear hcz87_2
          try clear hfz16_0
          try clear hfz16_1
          try clear hfz18_0
          try clear hfz18_1
          try clear hfz21_0
          try clear hfz21_1
          try clear hfz28_0
          try clear hfz28_1
          try clear hfz29_0
          try clear hfz29_1
          try clear hfz29_2
          try clear hfz35_0
          try clear hfz35_1
          try clear hfz49_0
          try clear hfz49_1
          try clear hfz51_0
          try clear hfz51_1
          try clear hfz53_0
          try clear hfz53_1
          try clear hfz54_0
          try clear hfz54_1
          try clear hfz54_2
          try clear hfz56_0
          try clear hfz56_1
          try clear hfz58_0
          try clear hfz58_1
          try clear hfz62_0
          try clear hfz62_1
          try clear hfz64_0
          try clear hfz64_1
          try clear hfz66_0
          try clear hfz66_1
          try clear hfz67_0
          try clear hfz67_1
          try clear hfz67_2
          try clear hfz69_0
          try clear hfz69_1
          try clear hfz73_0
          try clear hfz73_1
          try clear hfz75_0
          try clear hfz75_1
          try clear hfz77_0
          try clear hfz77_1
          try clear hfz78_0
          try clear hfz78_1
          try clear hfz78_2
          try clear hfz82_0
          try clear hfz82_1
          try clear hfz84_0
          try clear hfz84_1
          try clear hfz86_0
          try clear hfz86_1
          try clear hfz87_0
          try clear hfz87_1
          try clear hfz87_2
          try clear p2
          obtain ⟨x13_3, rfl, HA, HK3, HO_749000, HO_749001, BK736, BK737, BK748, HB⟩ := hrel
          cases gk with
          | zero => exact absurd HA.out (by simp [skiarealaw53_PatrolKeeps.l0])
          | succ k3 =>
           have H := HA.out
           clear HA
           simp only [skiarealaw53_PatrolKeeps.l0] at H
           by_cases c89 : x13_3 < (t741.length : Int)
           ·rw [if_pos c89] at H
            have c89b0 : decide (x13_3 < (t741.length : Int)) = true := decide_eq_true c89
            clear c89
            by_cases c90 : 0 ≤ x13_3
            ·rw [if_pos c90] at H
             have c90b0 : decide (0 ≤ x13_3) = true := decide_eq_true c90
             clear c90
             by_cases c91 : x13_3 < (l0_0.length : Int)
             ·rw [if_pos c91] at H
              have c91b0 : decide (x13_3 < (l0_0.length : Int)) = true := decide_eq_true c91
              clear c91
              by_cases c92 : ((rd_T63 t741 x13_3).f0) = ((rd_T63 l0_0 x13_3).f0)
              ·rw [if_pos c92] at H
               have c92b0 : (((rd_T63 t741 x13_3).f0) == ((rd_T63 l0_0 x13_3).f0)) = true := beq_iff_eq.mpr c92
               have c92b1 : (((rd_T63 t741 x13_3).f0) != ((rd_T63 l0_0 x13_3).f0)) = false := bne_eq_false_iff_eq.mpr c92
               clear c92
               by_cases c93 : ((rd_T63 t741 x13_3).f0) = a1
               ·rw [if_pos c93] at H
                have c93b0 : (((rd_T63 t741 x13_3).f0) == a1) = true := beq_iff_eq.mpr c93
                have c93b1 : (((rd_T63 t741 x13_3).f0) != a1) = false := bne_eq_false_iff_eq.mpr c93
                clear c93
                have H' := Aside0.mk H
                clear H
                have hnb94 := NB748_736.out
                have hnc94 := NB736_748.out
                have hnb95 := NB748_737.out
                have hnc95 := NB737_748.out
                have hcz96_0 : wr.cell? ⟨gb748, 0, none⟩ = some (.slice Ao32 t741.length co32) := (blk_cell BK748.out 0).trans rfl
                have hcz96_1 : wr.cell? ⟨gb748, 1, none⟩ = some (.slice Ao36 t744.length co36) := (blk_cell BK748.out 1).trans rfl
                have hfz96_0 := blk_frozen BK748.out 0
                have hfz96_1 := blk_frozen BK748.out 1
                try go_wp2
                have n0_ := Aside0.mk (Kd.N_drew HO_749000.out)
                have n1_ := Aside0.mk (Kd.R_drew HO_749001.out)
                have n2_ := Aside0.mk (blk_drew BK736.out)
                have n3_ := Aside0.mk (blk_drew BK737.out)
                have n4_ := Aside0.mk (blk_drew BK748.out)
                have n5_ := Aside0.mk (below_drew1 HB.out)
                clear HO_749000
                clear HO_749001
                clear BK736
                clear BK737
                clear BK748
                clear HB
                have HO_749000 := n0_
                have HO_749001 := n1_
                have BK736 := n2_
                have BK737 := n3_
                have BK748 := n4_
                have HB := n5_
                clear n0_ n1_ n2_ n3_ n4_ n5_
                have p753 : 0 ≤ (x13_3 : Int) := of_decide_eq_true (by first | (with_reducible assumption) | assumption)
                have q753 : x13_3 < (t741.length : Int) := of_decide_eq_true (by first | (with_reducible assumption) | assumption)
                obtain ⟨ad753, A753_1, c753_1, A753_3, c753_3, e753, hx753_0, hx753_1, hx753_2, hx753_3, hl753_1, hi753_1, hl753_3, hi753_3⟩ := at_T63 (Kd.N_reads' HO_749000.out).2.2 x13_3 p753 q753
                cases e753
                obtain ⟨ce753, hce753, hMe753, hcc753⟩ := Kd.N_get HO_749000.out z63 x13_3 p753 (by first | exact q753 | exact of_decide_eq_true (by first | (with_reducible assumption) | assumption) | (have e_ := (Kd.N_reads' HO_749000.out).1; omega))
                obtain ⟨ua753_1, uc753_1, ua753_3, uc753_3, rfl, ul753_1, ge753_1, ul753_3, ge753_3⟩ := k63_openF hMe753
                have hv753_1 := hcc753 1 _ rfl
                rw [add_field _ _ 1 (by omega)] at hv753_1
                replace hv753_1 := Option.some.inj (hv753_1.symm.trans hx753_1)
                injection hv753_1 with hva_ hvn_ hvc_
                rw [hva_] at ge753_1
                rw [hvc_] at ul753_1
                have HL753_1 := Aside0.mk (show Kd.V (Kd.int .i64) 3 _ w.heap.size _ _ ((rd_T63 t741 x13_3).f1.f0) from Kd.V_mk ul753_1 ge753_1)
                clear hva_ hvn_ hvc_ ge753_1 ul753_1
                have hv753_3 := hcc753 3 _ rfl
                rw [add_field _ _ 3 (by omega)] at hv753_3
                replace hv753_3 := Option.some.inj (hv753_3.symm.trans hx753_3)
                injection hv753_3 with hva_ hvn_ hvc_
                rw [hva_] at ge753_3
                rw [hvc_] at ul753_3
                have HL753_3 := Aside0.mk (show Kd.V k35 35 _ w.heap.size _ _ ((rd_T63 t741 x13_3).f1.f2) from Kd.V_mk ul753_3 ge753_3)
                clear hva_ hvn_ hvc_ ge753_3 ul753_3
                clear hcc753 hce753
                have HR753_1 := Aside0.mk hi753_1
                have HC753_1 := Aside0.mk hl753_1
                clear hi753_1 hl753_1
                have HR753_3 := Aside0.mk hi753_3
                have HC753_3 := Aside0.mk hl753_3
                clear hi753_3 hl753_3
                replace p753 := eq_true p753
                replace q753 := eq_true q753
                have p754 : 0 ≤ (x13_3 : Int) := of_decide_eq_true (by first | (with_reducible assumption) | assumption)
                have q754 : x13_3 < (l0_0.length : Int) := of_decide_eq_true (by first | (with_reducible assumption) | assumption)
                obtain ⟨ad754, A754_1, c754_1, A754_3, c754_3, e754, hx754_0, hx754_1, hx754_2, hx754_3, hl754_1, hi754_1, hl754_3, hi754_3⟩ := at_T63 HR0_0.out x13_3 p754 q754
                have hw754_3 := hx754_3
                have hw754_2 := hx754_2
                have hw754_1 := hx754_1
                have hw754_0 := hx754_0
                cases e754
                replace hx754_0 := (HB.out.cell (World.block_lt_of_cell? w _ hx754_0)).trans hx754_0
                replace hx754_1 := (HB.out.cell (World.block_lt_of_cell? w _ hx754_1)).trans hx754_1
                replace hx754_2 := (HB.out.cell (World.block_lt_of_cell? w _ hx754_2)).trans hx754_2
                replace hx754_3 := (HB.out.cell (World.block_lt_of_cell? w _ hx754_3)).trans hx754_3
                have HR754_1 := Aside0.mk hi754_1
                have HC754_1 := Aside0.mk hl754_1
                clear hi754_1 hl754_1
                have HR754_3 := Aside0.mk hi754_3
                have HC754_3 := Aside0.mk hl754_3
                clear hi754_3 hl754_3
                replace p754 := eq_true p754
                replace q754 := eq_true q754
                have p755 : 0 ≤ (x13_3 : Int) := of_decide_eq_true (by first | (with_reducible assumption) | assumption)
                have q755 : x13_3 < (t741.length : Int) := of_decide_eq_true (by first | (with_reducible assumption) | assumption)
                obtain ⟨ad755, A755_1, c755_1, A755_3, c755_3, e755, hx755_0, hx755_1, hx755_2, hx755_3, hl755_1, hi755_1, hl755_3, hi755_3⟩ := at_T63 (Kd.N_reads' HO_749000.out).2.2 x13_3 p755 q755
                obtain rfl : ad753 = ad755 := (by injection e755)
                obtain ⟨ce755, hce755, hMe755, hcc755⟩ := Kd.N_get HO_749000.out z63 x13_3 p755 (by first | exact q755 | exact of_decide_eq_true (by first | (with_reducible assumption) | assumption) | (have e_ := (Kd.N_reads' HO_749000.out).1; omega))
                obtain ⟨ua755_1, uc755_1, ua755_3, uc755_3, rfl, ul755_1, ge755_1, ul755_3, ge755_3⟩ := k63_openF hMe755
                have hv755_1 := hcc755 1 _ rfl
                rw [add_field _ _ 1 (by omega)] at hv755_1
                replace hv755_1 := Option.some.inj (hv755_1.symm.trans hx755_1)
                injection hv755_1 with hva_ hvn_ hvc_
                rw [hva_] at ge755_1
                rw [hvc_] at ul755_1
                have HL755_1 := Aside0.mk (show Kd.V (Kd.int .i64) 3 _ w.heap.size _ _ ((rd_T63 t741 x13_3).f1.f0) from Kd.V_mk ul755_1 ge755_1)
                clear hva_ hvn_ hvc_ ge755_1 ul755_1
                have hv755_3 := hcc755 3 _ rfl
                rw [add_field _ _ 3 (by omega)] at hv755_3
                replace hv755_3 := Option.some.inj (hv755_3.symm.trans hx755_3)
                injection hv755_3 with hva_ hvn_ hvc_
                rw [hva_] at ge755_3
                rw [hvc_] at ul755_3
                have HL755_3 := Aside0.mk (show Kd.V k35 35 _ w.heap.size _ _ ((rd_T63 t741 x13_3).f1.f2) from Kd.V_mk ul755_3 ge755_3)
                clear hva_ hvn_ hvc_ ge755_3 ul755_3
                clear hcc755 hce755
                have HR755_1 := Aside0.mk hi755_1
                have HC755_1 := Aside0.mk hl755_1
                clear hi755_1 hl755_1
                have HR755_3 := Aside0.mk hi755_3
                have HC755_3 := Aside0.mk hl755_3
                clear hi755_3 hl755_3
                replace p755 := eq_true p755
                replace q755 := eq_true q755
                have ea_ := Option.some.inj (hx753_1.symm.trans hx755_1)
                injection ea_ with ea_ en_ ec_
                subst ea_
                subst ec_
                clear en_
                have ea_ := Option.some.inj (hx753_3.symm.trans hx755_3)
                injection ea_ with ea_ en_ ec_
                subst ea_
                subst ec_
                clear en_
                refine start_ (n := 39) (S := fun w' => w'.cell? ⟨gb748, 0, none⟩ = some (.slice (some ad753) t741.length co32) ∧ w'.cell? ⟨gb748, 1, none⟩ = some (.slice Ao36 t744.length co36) ∧ w'.cell? ⟨gb736, 0, none⟩ = some (.slice (some ad754) l0_0.length c0_0) ∧ w'.cell? ⟨gb736, 1, none⟩ = some (.slice A0_1 l0_1.length c0_1) ∧ w'.cell? (ad753.add ((x13_3).toNat * 4)) = some (.int .i64 ((rd_T63 t741 x13_3).f0)) ∧ w'.cell? ⟨(ad753.add ((x13_3).toNat * 4)).block, (ad753.add ((x13_3).toNat * 4)).off + 1, none⟩ = some (.slice A753_1 ((rd_T63 t741 x13_3).f1.f0).length c753_1) ∧ w'.cell? ⟨(ad753.add ((x13_3).toNat * 4)).block, (ad753.add ((x13_3).toNat * 4)).off + 2, none⟩ = some (.int .i64 ((rd_T63 t741 x13_3).f1.f1)) ∧ w'.cell? ⟨(ad753.add ((x13_3).toNat * 4)).block, (ad753.add ((x13_3).toNat * 4)).off + 3, none⟩ = some (.slice A753_3 ((rd_T63 t741 x13_3).f1.f2).length c753_3) ∧ w'.cell? (ad754.add ((x13_3).toNat * 4)) = some (.int .i64 ((rd_T63 l0_0 x13_3).f0)) ∧ w'.cell? ⟨(ad754.add ((x13_3).toNat * 4)).block, (ad754.add ((x13_3).toNat * 4)).off + 1, none⟩ = some (.slice A754_1 ((rd_T63 l0_0 x13_3).f1.f0).length c754_1) ∧ w'.cell? ⟨(ad754.add ((x13_3).toNat * 4)).block, (ad754.add ((x13_3).toNat * 4)).off + 2, none⟩ = some (.int .i64 ((rd_T63 l0_0 x13_3).f1.f1)) ∧ w'.cell? ⟨(ad754.add ((x13_3).toNat * 4)).block, (ad754.add ((x13_3).toNat * 4)).off + 3, none⟩ = some (.slice A754_3 ((rd_T63 l0_0 x13_3).f1.f2).length c754_3) ∧ w'.cell? (ad753.add ((x13_3).toNat * 4)) = some (.int .i64 ((rd_T63 t741 x13_3).f0)) ∧ w'.cell? ⟨(ad753.add ((x13_3).toNat * 4)).block, (ad753.add ((x13_3).toNat * 4)).off + 1, none⟩ = some (.slice A753_1 ((rd_T63 t741 x13_3).f1.f0).length c753_1) ∧ w'.cell? ⟨(ad753.add ((x13_3).toNat * 4)).block, (ad753.add ((x13_3).toNat * 4)).off + 2, none⟩ = some (.int .i64 ((rd_T63 t741 x13_3).f1.f1)) ∧ w'.cell? ⟨(ad753.add ((x13_3).toNat * 4)).block, (ad753.add ((x13_3).toNat * 4)).off + 3, none⟩ = some (.slice A753_3 ((rd_T63 t741 x13_3).f1.f2).length c753_3)) (ds := []) #[false, false, false, false, false, false, false, false, false, false, false, false, false, false, false, false, false, false, false, false, false, false, false, false, false, false, false, false, false, false, false, false, false, false, false, false, false, false, false] (by kernel_rfl) rfl rfl ⟨(blk_cell BK748.out 0).trans rfl, (blk_cell BK748.out 1).trans rfl, (blk_cell BK736.out 0).trans rfl, (blk_cell BK736.out 1).trans rfl, hx753_0, hx753_1, hx753_2, hx753_3, ((HB.out.cell (World.block_lt_of_cell? w _ hw754_0)).trans hw754_0), ((HB.out.cell (World.block_lt_of_cell? w _ hw754_1)).trans hw754_1), ((HB.out.cell (World.block_lt_of_cell? w _ hw754_2)).trans hw754_2), ((HB.out.cell (World.block_lt_of_cell? w _ hw754_3)).trans hw754_3), hx755_0, hx755_1, hx755_2, hx755_3⟩ (fun hHeld => ?_); refine with_tabW skiarealaw53_PatrolKeeps.tab13 skiarealaw53_PatrolKeeps.bits13 (fun HT_ HW_ => ?_)
                generalize wr.drew = w97 at HO_749000 HO_749001 BK736 BK737 BK748 HB HL753_1 HL753_3 HL755_1 HL755_3 HR753_1 HR753_3 HR754_1 HR754_3 HR755_1 HR755_3 hx753_0 hx753_1 hx753_2 hx753_3 hx754_0 hx754_1 hx754_2 hx754_3 hx755_0 hx755_1 hx755_2 hx755_3 hHeld ⊢
                refine pure_ (i := 0) (N := some 103) (v := ?_) (a' := ?_) #[true, false, false, false, false, false, false, false, false, false, false, false, false, false, false, false, false, false, false, false, false, false, false, false, false, false, false, false, false, false, false, false, false, false, false, false, false, false, false] rfl rfl (any_of HT_.out (by kernel_rfl)) (fun _ _ _ h => h) (Or.inl ⟨by rfl, ?_⟩) ?_ ?_
                rotate_left
                ·intro w'
                 go_simp
                 with_reducible rfl
                rotate_left
                ·simp only [Act.put, List.setIfInBounds_toArray, List.set_cons_zero, List.set_cons_succ, i64_w, i32_w]
                 rfl
                refine pure_ (i := 2) (N := some 105) (v := ?_) (a' := ?_) #[true, false, true, false, false, false, false, false, false, false, false, false, false, false, false, false, false, false, false, false, false, false, false, false, false, false, false, false, false, false, false, false, false, false, false, false, false, false, false] rfl rfl (any_of HT_.out (by kernel_rfl)) (fun _ _ _ h => h) (Or.inl ⟨by rfl, ?_⟩) ?_ ?_
                rotate_left
                ·intro w'
                 go_simp
                 with_reducible rfl
                rotate_left
                ·simp only [Act.put, List.setIfInBounds_toArray, List.set_cons_zero, List.set_cons_succ, i64_w, i32_w]
                 rfl
                refine pure_ (i := 6) (N := some 109) (v := ?_) (a' := ?_) #[true, false, true, false, false, false, true, false, false, false, false, false, false, false, false, false, false, false, false, false, false, false, false, false, false, false, false, false, false, false, false, false, false, false, false, false, false, false, false] rfl rfl (any_of HT_.out (by kernel_rfl)) (fun _ _ _ h => h) (Or.inl ⟨by rfl, ?_⟩) ?_ ?_
                rotate_left
                ·intro w'
                 go_simp
                 with_reducible rfl
                rotate_left
                ·simp only [Act.put, List.setIfInBounds_toArray, List.set_cons_zero, List.set_cons_succ, i64_w, i32_w]
                 rfl
                refine pure_ (i := 8) (N := some 111) (v := ?_) (a' := ?_) #[true, false, true, false, false, false, true, false, true, false, false, false, false, false, false, false, false, false, false, false, false, false, false, false, false, false, false, false, false, false, false, false, false, false, false, false, false, false, false] rfl rfl (any_of HT_.out (by kernel_rfl)) (fun _ _ _ h => h) (Or.inl ⟨by rfl, ?_⟩) ?_ ?_
                rotate_left
                ·intro w'
                 go_simp
                 with_reducible rfl
                rotate_left
                ·simp only [Act.put, List.setIfInBounds_toArray, List.set_cons_zero, List.set_cons_succ, i64_w, i32_w]
                 rfl
                refine take_ (i := 1) (N := some 104) (v := ?_) (a' := ?_) #[true, true, true, false, false, false, true, false, true, false, false, false, false, false, false, false, false, false, false, false, false, false, false, false, false, false, false, false, false, false, false, false, false, false, false, false, false, false, false] rfl rfl (take_ofW HT_.out HW_.out (by kernel_rfl)) (fun _ _ _ h => h) (Or.inl ⟨by rfl, ?_⟩) hHeld ?_ ?_
                rotate_left
                ·rintro w' ⟨s0, s1, s2, s3, s4, s5, s6, s7, s8, s9, s10, s11, s12, s13, s14, s15⟩
                 go_simp
                 with_reducible rfl
                rotate_left
                ·simp only [Act.put, List.setIfInBounds_toArray, List.set_cons_zero, List.set_cons_succ, i64_w, i32_w]
                 rfl
                refine pure_ (i := 3) (N := some 106) (v := ?_) (a' := ?_) #[true, true, true, true, false, false, true, false, true, false, false, false, false, false, false, false, false, false, false, false, false, false, false, false, false, false, false, false, false, false, false, false, false, false, false, false, false, false, false] rfl rfl (any_of HT_.out (by kernel_rfl)) (fun _ _ _ h => h) (Or.inl ⟨by rfl, ?_⟩) ?_ ?_
                rotate_left
                ·intro w'
                 go_simp
                 with_reducible rfl
                rotate_left
                ·simp only [Act.put, List.setIfInBounds_toArray, List.set_cons_zero, List.set_cons_succ, i64_w, i32_w]
                 rfl
                refine pure_ (i := 4) (N := some 107) (v := ?_) (a' := ?_) #[true, true, true, true, true, false, true, false, true, false, false, false, false, false, false, false, false, false, false, false, false, false, false, false, false, false, false, false, false, false, false, false, false, false, false, false, false, false, false] rfl rfl (any_of HT_.out (by kernel_rfl)) (fun _ _ _ h => h) (Or.inl ⟨by rfl, ?_⟩) ?_ ?_
                rotate_left
                ·intro w'
                 go_simp
                 with_reducible rfl
                rotate_left
                ·simp only [Act.put, List.setIfInBounds_toArray, List.set_cons_zero, List.set_cons_succ, i64_w, i32_w]
                 rfl
                refine take_ (i := 5) (N := some 108) (v := ?_) (a' := ?_) #[true, true, true, true, true, true, true, false, true, false, false, false, false, false, false, false, false, false, false, false, false, false, false, false, false, false, false, false, false, false, false, false, false, false, false, false, false, false, false] rfl rfl (take_ofW HT_.out HW_.out (by kernel_rfl)) (fun _ _ _ h => h) (Or.inl ⟨by rfl, ?_⟩) hHeld ?_ ?_
                rotate_left
                ·rintro w' ⟨s0, s1, s2, s3, s4, s5, s6, s7, s8, s9, s10, s11, s12, s13, s14, s15⟩
                 go_simp
                 with_reducible rfl
                rotate_left
                ·simp only [Act.put, List.setIfInBounds_toArray, List.set_cons_zero, List.set_cons_succ, i64_w, i32_w]
                 rfl
                refine take_ (i := 7) (N := some 110) (v := ?_) (a' := ?_) #[true, true, true, true, true, true, true, true, true, false, false, false, false, false, false, false, false, false, false, false, false, false, false, false, false, false, false, false, false, false, false, false, false, false, false, false, false, false, false] rfl rfl (take_ofW HT_.out HW_.out (by kernel_rfl)) (fun _ _ _ h => h) (Or.inl ⟨by rfl, ?_⟩) hHeld ?_ ?_
                rotate_left
                ·rintro w' ⟨s0, s1, s2, s3, s4, s5, s6, s7, s8, s9, s10, s11, s12, s13, s14, s15⟩
                 go_simp
                 with_reducible rfl
                rotate_left
                ·simp only [Act.put, List.setIfInBounds_toArray, List.set_cons_zero, List.set_cons_succ, i64_w, i32_w]
                 rfl
                refine pure_ (i := 9) (N := some 112) (v := ?_) (a' := ?_) #[true, true, true, true, true, true, true, true, true, true, false, false, false, false, false, false, false, false, false, false, false, false, false, false, false, false, false, false, false, false, false, false, false, false, false, false, false, false, false] rfl rfl (any_of HT_.out (by kernel_rfl)) (fun _ _ _ h => h) (Or.inl ⟨by rfl, ?_⟩) ?_ ?_
                rotate_left
                ·intro w'
                 go_simp
                 with_reducible rfl
                rotate_left
                ·simp only [Act.put, List.setIfInBounds_toArray, List.set_cons_zero, List.set_cons_succ, i64_w, i32_w]
                 rfl
                refine pure_ (i := 10) (N := some 113) (v := ?_) (a' := ?_) #[true, true, true, true, true, true, true, true, true, true, true, false, false, false, false, false, false, false, false, false, false, false, false, false, false, false, false, false, false, false, false, false, false, false, false, false, false, false, false] rfl rfl (any_of HT_.out (by kernel_rfl)) (fun _ _ _ h => h) (Or.inl ⟨by rfl, ?_⟩) ?_ ?_
                rotate_left
                ·intro w'
                 go_simp
                 with_reducible rfl
                rotate_left
                ·simp only [Act.put, List.setIfInBounds_toArray, List.set_cons_zero, List.set_cons_succ, i64_w, i32_w]
                 rfl
                refine take_ (i := 11) (N := some 114) (v := ?_) (a' := ?_) #[true, true, true, true, true, true, true, true, true, true, true, true, false, false, false, false, false, false, false, false, false, false, false, false, false, false, false, false, false, false, false, false, false, false, false, false, false, false, false] rfl rfl (take_ofW HT_.out HW_.out (by kernel_rfl)) (fun _ _ _ h => h) (Or.inl ⟨by rfl, ?_⟩) hHeld ?_ ?_
                rotate_left
                ·rintro w' ⟨s0, s1, s2, s3, s4, s5, s6, s7, s8, s9, s10, s11, s12, s13, s14, s15⟩
                 go_simp
                 with_reducible rfl
                rotate_left
                ·simp only [Act.put, List.setIfInBounds_toArray, List.set_cons_zero, List.set_cons_succ, i64_w, i32_w]
                 rfl
                refine pure_ (i := 12) (N := some 115) (v := ?_) (a' := ?_) #[true, true, true, true, true, true, true, true, true, true, true, true, true, false, false, false, false, false, false, false, false, false, false, false, false, false, false, false, false, false, false, false, false, false, false, false, false, false, false] rfl rfl (any_of HT_.out (by kernel_rfl)) (fun _ _ _ h => h) (Or.inl ⟨by rfl, ?_⟩) ?_ ?_
                rotate_left
                ·intro w'
                 go_simp
                 with_reducible rfl
                rotate_left
                ·simp only [Act.put, List.setIfInBounds_toArray, List.set_cons_zero, List.set_cons_succ, i64_w, i32_w]
                 rfl
                refine pure_ (i := 13) (N := some 116) (v := ?_) (a' := ?_) #[true, true, true, true, true, true, true, true, true, true, true, true, true, true, false, false, false, false, false, false, false, false, false, false, false, false, false, false, false, false, false, false, false, false, false, false, false, false, false] rfl rfl (any_of HT_.out (by kernel_rfl)) (fun _ _ _ h => h) (Or.inl ⟨by rfl, ?_⟩) ?_ ?_
                rotate_left
                ·intro w'
                 go_simp
                 with_reducible rfl
                rotate_left
                ·simp only [Act.put, List.setIfInBounds_toArray, List.set_cons_zero, List.set_cons_succ, i64_w, i32_w]
                 rfl
                refine pure_ (i := 14) (N := some 117) (v := ?_) (a' := ?_) #[true, true, true, true, true, true, true, true, true, true, true, true, true, true, true, false, false, false, false, false, false, false, false, false, false, false, false, false, false, false, false, false, false, false, false, false, false, false, false] rfl rfl (any_of HT_.out (by kernel_rfl)) (fun _ _ _ h => h) (Or.inl ⟨by rfl, ?_⟩) ?_ ?_
                rotate_left
                ·intro w'
                 go_simp
                 with_reducible rfl
                rotate_left
                ·simp only [Act.put, List.setIfInBounds_toArray, List.set_cons_zero, List.set_cons_succ, i64_w, i32_w]
                 rfl
                refine pure_ (i := 16) (N := some 119) (v := ?_) (a' := ?_) #[true, true, true, true, true, true, true, true, true, true, true, true, true, true, true, false, true, false, false, false, false, false, false, false, false, false, false, false, false, false, false, false, false, false, false, false, false, false, false] rfl rfl (any_of HT_.out (by kernel_rfl)) (fun _ _ _ h => h) (Or.inl ⟨by rfl, ?_⟩) ?_ ?_
                rotate_left
                ·intro w'
                 go_simp
                 with_reducible rfl
                rotate_left
                ·simp only [Act.put, List.setIfInBounds_toArray, List.set_cons_zero, List.set_cons_succ, i64_w, i32_w]
                 rfl
                refine pure_ (i := 20) (N := some 123) (v := ?_) (a' := ?_) #[true, true, true, true, true, true, true, true, true, true, true, true, true, true, true, false, true, false, false, false, true, false, false, false, false, false, false, false, false, false, false, false, false, false, false, false, false, false, false] rfl rfl (any_of HT_.out (by kernel_rfl)) (fun _ _ _ h => h) (Or.inl ⟨by rfl, ?_⟩) ?_ ?_
                rotate_left
                ·intro w'
                 go_simp
                 with_reducible rfl
                rotate_left
                ·simp only [Act.put, List.setIfInBounds_toArray, List.set_cons_zero, List.set_cons_succ, i64_w, i32_w]
                 rfl
                refine take_ (i := 15) (N := some 118) (v := ?_) (a' := ?_) #[true, true, true, true, true, true, true, true, true, true, true, true, true, true, true, true, true, false, false, false, true, false, false, false, false, false, false, false, false, false, false, false, false, false, false, false, false, false, false] rfl rfl (take_ofW HT_.out HW_.out (by kernel_rfl)) (fun _ _ _ h => h) (Or.inl ⟨by rfl, ?_⟩) hHeld ?_ ?_
                rotate_left
                ·rintro w' ⟨s0, s1, s2, s3, s4, s5, s6, s7, s8, s9, s10, s11, s12, s13, s14, s15⟩
                 go_simp
                 with_reducible rfl
                rotate_left
                ·simp only [Act.put, List.setIfInBounds_toArray, List.set_cons_zero, List.set_cons_succ, i64_w, i32_w]
                 rfl
                refine pure_ (i := 17) (N := some 120) (v := ?_) (a' := ?_) #[true, true, true, true, true, true, true, true, true, true, true, true, true, true, true, true, true, true, false, false, true, false, false, false, false, false, false, false, false, false, false, false, false, false, false, false, false, false, false] rfl rfl (any_of HT_.out (by kernel_rfl)) (fun _ _ _ h => h) (Or.inl ⟨by rfl, ?_⟩) ?_ ?_
                rotate_left
                ·intro w'
                 go_simp
                 with_reducible rfl
                rotate_left
                ·simp only [Act.put, List.setIfInBounds_toArray, List.set_cons_zero, List.set_cons_succ, i64_w, i32_w]
                 rfl
                refine pure_ (i := 18) (N := some 121) (v := ?_) (a' := ?_) #[true, true, true, true, true, true, true, true, true, true, true, true, true, true, true, true, true, true, true, false, true, false, false, false, false, false, false, false, false, false, false, false, false, false, false, false, false, false, false] rfl rfl (any_of HT_.out (by kernel_rfl)) (fun _ _ _ h => h) (Or.inl ⟨by rfl, ?_⟩) ?_ ?_
                rotate_left
                ·intro w'
                 go_simp
                 with_reducible rfl
                rotate_left
                ·simp only [Act.put, List.setIfInBounds_toArray, List.set_cons_zero, List.set_cons_succ, i64_w, i32_w]
                 rfl
                refine take_ (i := 19) (N := some 122) (v := ?_) (a' := ?_) #[true, true, true, true, true, true, true, true, true, true, true, true, true, true, true, true, true, true, true, true, true, false, false, false, false, false, false, false, false, false, false, false, false, false, false, false, false, false, false] rfl rfl (take_ofW HT_.out HW_.out (by kernel_rfl)) (fun _ _ _ h => h) (Or.inl ⟨by rfl, ?_⟩) hHeld ?_ ?_
                rotate_left
                ·rintro w' ⟨s0, s1, s2, s3, s4, s5, s6, s7, s8, s9, s10, s11, s12, s13, s14, s15⟩
                 go_simp
                 with_reducible rfl
                rotate_left
                ·simp only [Act.put, List.setIfInBounds_toArray, List.set_cons_zero, List.set_cons_succ, i64_w, i32_w]
                 rfl
                refine pure_ (i := 21) (N := some 124) (v := ?_) (a' := ?_) #[true, true, true, true, true, true, true, true, true, true, true, true, true, true, true, true, true, true, true, true, true, true, false, false, false, false, false, false, false, false, false, false, false, false, false, false, false, false, false] rfl rfl (any_of HT_.out (by kernel_rfl)) (fun _ _ _ h => h) (Or.inl ⟨by rfl, ?_⟩) ?_ ?_
                rotate_left
                ·intro w'
                 go_simp
                 with_reducible rfl
                rotate_left
                ·simp only [Act.put, List.setIfInBounds_toArray, List.set_cons_zero, List.set_cons_succ, i64_w, i32_w]
                 rfl
                refine pure_ (i := 22) (N := some 125) (v := ?_) (a' := ?_) #[true, true, true, true, true, true, true, true, true, true, true, true, true, true, true, true, true, true, true, true, true, true, true, false, false, false, false, false, false, false, false, false, false, false, false, false, false, false, false] rfl rfl (any_of HT_.out (by kernel_rfl)) (fun _ _ _ h => h) (Or.inl ⟨by rfl, ?_⟩) ?_ ?_
                rotate_left
                ·intro w'
                 go_simp
                 with_reducible rfl
                rotate_left
                ·simp only [Act.put, List.setIfInBounds_toArray, List.set_cons_zero, List.set_cons_succ, i64_w, i32_w]
                 rfl
                refine pure_ (i := 23) (N := some 126) (v := undef) (a' := ?_) #[true, true, true, true, true, true, true, true, true, true, true, true, true, true, true, true, true, true, true, true, true, true, true, true, false, false, false, false, false, false, false, false, false, false, false, false, false, false, false] rfl rfl (any_of HT_.out (by kernel_rfl)) (fun _ _ _ h => h) (Or.inr ⟨by rfl, rfl⟩) ?_ ?_
                rotate_left
                ·simp only [Act.put, List.setIfInBounds_toArray, List.set_cons_zero, List.set_cons_succ, i64_w, i32_w]
                 rfl
                refine pure_ (i := 24) (N := some 127) (v := undef) (a' := ?_) #[true, true, true, true, true, true, true, true, true, true, true, true, true, true, true, true, true, true, true, true, true, true, true, true, true, false, false, false, false, false, false, false, false, false, false, false, false, false, false] rfl rfl (any_of HT_.out (by kernel_rfl)) (fun _ _ _ h => h) (Or.inr ⟨by rfl, rfl⟩) ?_ ?_
                rotate_left
                ·simp only [Act.put, List.setIfInBounds_toArray, List.set_cons_zero, List.set_cons_succ, i64_w, i32_w]
                 rfl
                refine pure_ (i := 25) (N := some 128) (v := undef) (a' := ?_) #[true, true, true, true, true, true, true, true, true, true, true, true, true, true, true, true, true, true, true, true, true, true, true, true, true, true, false, false, false, false, false, false, false, false, false, false, false, false, false] rfl rfl (any_of HT_.out (by kernel_rfl)) (fun _ _ _ h => h) (Or.inr ⟨by rfl, rfl⟩) ?_ ?_
                rotate_left
                ·simp only [Act.put, List.setIfInBounds_toArray, List.set_cons_zero, List.set_cons_succ, i64_w, i32_w]
                 rfl
                refine pure_ (i := 26) (N := some 129) (v := undef) (a' := ?_) #[true, true, true, true, true, true, true, true, true, true, true, true, true, true, true, true, true, true, true, true, true, true, true, true, true, true, true, false, false, false, false, false, false, false, false, false, false, false, false] rfl rfl (any_of HT_.out (by kernel_rfl)) (fun _ _ _ h => h) (Or.inr ⟨by rfl, rfl⟩) ?_ ?_
                rotate_left
                ·simp only [Act.put, List.setIfInBounds_toArray, List.set_cons_zero, List.set_cons_succ, i64_w, i32_w]
                 rfl
                refine pure_ (i := 27) (N := some 130) (v := undef) (a' := ?_) #[true, true, true, true, true, true, true, true, true, true, true, true, true, true, true, true, true, true, true, true, true, true, true, true, true, true, true, true, false, false, false, false, false, false, false, false, false, false, false] rfl rfl (any_of HT_.out (by kernel_rfl)) (fun _ _ _ h => h) (Or.inr ⟨by rfl, rfl⟩) ?_ ?_
                rotate_left
                ·simp only [Act.put, List.setIfInBounds_toArray, List.set_cons_zero, List.set_cons_succ, i64_w, i32_w]
                 rfl
                refine pure_ (i := 28) (N := some 131) (v := undef) (a' := ?_) #[true, true, true, true, true, true, true, true, true, true, true, true, true, true, true, true, true, true, true, true, true, true, true, true, true, true, true, true, true, false, false, false, false, false, false, false, false, false, false] rfl rfl (any_of HT_.out (by kernel_rfl)) (fun _ _ _ h => h) (Or.inr ⟨by rfl, rfl⟩) ?_ ?_
                rotate_left
                ·simp only [Act.put, List.setIfInBounds_toArray, List.set_cons_zero, List.set_cons_succ, i64_w, i32_w]
                 rfl
                refine pure_ (i := 29) (N := some 132) (v := undef) (a' := ?_) #[true, true, true, true, true, true, true, true, true, true, true, true, true, true, true, true, true, true, true, true, true, true, true, true, true, true, true, true, true, true, false, false, false, false, false, false, false, false, false] rfl rfl (any_of HT_.out (by kernel_rfl)) (fun _ _ _ h => h) (Or.inr ⟨by rfl, rfl⟩) ?_ ?_
                rotate_left
                ·simp only [Act.put, List.setIfInBounds_toArray, List.set_cons_zero, List.set_cons_succ, i64_w, i32_w]
                 rfl
                refine pure_ (i := 30) (N := some 133) (v := undef) (a' := ?_) #[true, true, true, true, true, true, true, true, true, true, true, true, true, true, true, true, true, true, true, true, true, true, true, true, true, true, true, true, true, true, true, false, false, false, false, false, false, false, false] rfl rfl (any_of HT_.out (by kernel_rfl)) (fun _ _ _ h => h) (Or.inr ⟨by rfl, rfl⟩) ?_ ?_
                rotate_left
                ·simp only [Act.put, List.setIfInBounds_toArray, List.set_cons_zero, List.set_cons_succ, i64_w, i32_w]
                 rfl
                refine pure_ (i := 31) (N := some 134) (v := undef) (a' := ?_) #[true, true, true, true, true, true, true, true, true, true, true, true, true, true, true, true, true, true, true, true, true, true, true, true, true, true, true, true, true, true, true, true, false, false, false, false, false, false, false] rfl rfl (any_of HT_.out (by kernel_rfl)) (fun _ _ _ h => h) (Or.inr ⟨by rfl, rfl⟩) ?_ ?_
                rotate_left
                ·simp only [Act.put, List.setIfInBounds_toArray, List.set_cons_zero, List.set_cons_succ, i64_w, i32_w]
                 rfl
                refine pure_ (i := 32) (N := some 135) (v := undef) (a' := ?_) #[true, true, true, true, true, true, true, true, true, true, true, true, true, true, true, true, true, true, true, true, true, true, true, true, true, true, true, true, true, true, true, true, true, false, false, false, false, false, false] rfl rfl (any_of HT_.out (by kernel_rfl)) (fun _ _ _ h => h) (Or.inr ⟨by rfl, rfl⟩) ?_ ?_
                rotate_left
                ·simp only [Act.put, List.setIfInBounds_toArray, List.set_cons_zero, List.set_cons_succ, i64_w, i32_w]
                 rfl
                refine pure_ (i := 33) (N := some 136) (v := undef) (a' := ?_) #[true, true, true, true, true, true, true, true, true, true, true, true, true, true, true, true, true, true, true, true, true, true, true, true, true, true, true, true, true, true, true, true, true, true, false, false, false, false, false] rfl rfl (any_of HT_.out (by kernel_rfl)) (fun _ _ _ h => h) (Or.inr ⟨by rfl, rfl⟩) ?_ ?_
                rotate_left
                ·simp only [Act.put, List.setIfInBounds_toArray, List.set_cons_zero, List.set_cons_succ, i64_w, i32_w]
                 rfl
                refine pure_ (i := 34) (N := some 137) (v := undef) (a' := ?_) #[true, true, true, true, true, true, true, true, true, true, true, true, true, true, true, true, true, true, true, true, true, true, true, true, true, true, true, true, true, true, true, true, true, true, true, false, false, false, false] rfl rfl (any_of HT_.out (by kernel_rfl)) (fun _ _ _ h => h) (Or.inr ⟨by rfl, rfl⟩) ?_ ?_
                rotate_left
                ·simp only [Act.put, List.setIfInBounds_toArray, List.set_cons_zero, List.set_cons_succ, i64_w, i32_w]
                 rfl
                refine pure_ (i := 35) (N := some 138) (v := undef) (a' := ?_) #[true, true, true, true, true, true, true, true, true, true, true, true, true, true, true, true, true, true, true, true, true, true, true, true, true, true, true, true, true, true, true, true, true, true, true, true, false, false, false] rfl rfl (any_of HT_.out (by kernel_rfl)) (fun _ _ _ h => h) (Or.inr ⟨by rfl, rfl⟩) ?_ ?_
                rotate_left
                ·simp only [Act.put, List.setIfInBounds_toArray, List.set_cons_zero, List.set_cons_succ, i64_w, i32_w]
                 rfl
                refine pure_ (i := 36) (N := some 139) (v := undef) (a' := ?_) #[true, true, true, true, true, true, true, true, true, true, true, true, true, true, true, true, true, true, true, true, true, true, true, true, true, true, true, true, true, true, true, true, true, true, true, true, true, false, false] rfl rfl (any_of HT_.out (by kernel_rfl)) (fun _ _ _ h => h) (Or.inr ⟨by rfl, rfl⟩) ?_ ?_
                rotate_left
                ·simp only [Act.put, List.setIfInBounds_toArray, List.set_cons_zero, List.set_cons_succ, i64_w, i32_w]
                 rfl
                refine pure_ (i := 37) (N := some 140) (v := ?_) (a' := ?_) #[true, true, true, true, true, true, true, true, true, true, true, true, true, true, true, true, true, true, true, true, true, true, true, true, true, true, true, true, true, true, true, true, true, true, true, true, true, true, false] rfl rfl (any_of HT_.out (by kernel_rfl)) (fun _ _ _ h => h) (Or.inl ⟨by rfl, ?_⟩) ?_ ?_
                rotate_left
                ·intro w'
                 go_simp
                 with_reducible rfl
                rotate_left
                ·simp only [Act.put, List.setIfInBounds_toArray, List.set_cons_zero, List.set_cons_succ, i64_w, i32_w]
                 rfl
                refine pure_ (i := 38) (N := some 141) (v := ?_) (a' := ?_) #[true, true, true, true, true, true, true, true, true, true, true, true, true, true, true, true, true, true, true, true, true, true, true, true, true, true, true, true, true, true, true, true, true, true, true, true, true, true, true] rfl rfl (any_of HT_.out (by kernel_rfl)) (fun _ _ _ h => h) (Or.inl ⟨by rfl, ?_⟩) ?_ ?_
                rotate_left
                ·intro w'
                 go_simp
                 with_reducible rfl
                rotate_left
                ·simp only [Act.put, List.setIfInBounds_toArray, List.set_cons_zero, List.set_cons_succ, i64_w, i32_w]
                 rfl
                refine done_ (done_of HT_.out (by kernel_rfl)) ?_
                try go_wp2
                go_roundg k3
                case measure => have := HJ7.out; have := HJ25.out; have := HK3.out; omega
                case rel => exact ⟨(wrap64 (x13_3 + 1)), (by first | rfl | (simp; done) | (simp [*]; done)), H', ⟨by have := HJ7.out; have := HJ25.out; have := HK3.out; omega⟩, ⟨by (with_reducible repeat (first | apply Kd.N_alloc | apply Kd.N_drewN | apply Kd.N_drew)); exact HO_749000.out⟩, ⟨by (with_reducible repeat (first | apply Kd.R_alloc | apply Kd.R_drewN | apply Kd.R_drew)); exact HO_749001.out⟩, ⟨by exact BK736.out⟩, ⟨by exact BK737.out⟩, ⟨by exact BK748.out⟩, ⟨by repeat (first | (with_reducible first | exact HB.out | apply below_alloc | apply pw_below_drewN | apply below_drew1 | refine below_set ?_ GE736.out | refine below_set ?_ GE737.out | refine below_set ?_ GE748.out) | exact HB.out)⟩⟩
               ·rw [if_neg c93] at H
                have c93b0 : (((rd_T63 t741 x13_3).f0) == a1) = false := beq_eq_false_iff_ne.mpr c93
                have c93b1 : (((rd_T63 t741 x13_3).f0) != a1) = true := bne_iff_ne.mpr c93
                replace H := Option.bind_eq_some_iff.mp H
                obtain ⟨t758, A980, H⟩ := H
                replace H : (if t758 = true then (skiarealaw53_PatrolKeeps.l0 k3 a1 (wrap64 (x13_3 + 1)) l0_0 l0_1 t741 t744) else (some false)) = some true := H
                have A98 := Aside0.mk A980
                clear A980
                by_cases c99 : t758 = true
                ·subst c99
                 have H1 : (skiarealaw53_PatrolKeeps.l0 k3 a1 (wrap64 (x13_3 + 1)) l0_0 l0_1 t741 t744) = some true := by rw [if_pos rfl] at H; exact H
                 clear H
                 have H := H1
                 clear H1
                 have H' := Aside0.mk H
                 clear H
                 have hnb100 := NB748_736.out
                 have hnc100 := NB736_748.out
                 have hnb101 := NB748_737.out
                 have hnc101 := NB737_748.out
                 have hcz102_0 : wr.cell? ⟨gb748, 0, none⟩ = some (.slice Ao32 t741.length co32) := (blk_cell BK748.out 0).trans rfl
                 have hcz102_1 : wr.cell? ⟨gb748, 1, none⟩ = some (.slice Ao36 t744.length co36) := (blk_cell BK748.out 1).trans rfl
                 have hfz102_0 := blk_frozen BK748.out 0
                 have hfz102_1 := blk_frozen BK748.out 1
                 try go_wp2
                 have n0_ := Aside0.mk (Kd.N_drew HO_749000.out)
                 have n1_ := Aside0.mk (Kd.R_drew HO_749001.out)
                 have n2_ := Aside0.mk (blk_drew BK736.out)
                 have n3_ := Aside0.mk (blk_drew BK737.out)
                 have n4_ := Aside0.mk (blk_drew BK748.out)
                 have n5_ := Aside0.mk (below_drew1 HB.out)
                 clear HO_749000
                 clear HO_749001
                 clear BK736
                 clear BK737
                 clear BK748
                 clear HB
                 have HO_749000 := n0_
                 have HO_749001 := n1_
                 have BK736 := n2_
                 have BK737 := n3_
                 have BK748 := n4_
                 have HB := n5_
                 clear n0_ n1_ n2_ n3_ n4_ n5_
                 have p753 : 0 ≤ (x13_3 : Int) := of_decide_eq_true (by first | (with_reducible assumption) | assumption)
                 have q753 : x13_3 < (t741.length : Int) := of_decide_eq_true (by first | (with_reducible assumption) | assumption)
                 obtain ⟨ad753, A753_1, c753_1, A753_3, c753_3, e753, hx753_0, hx753_1, hx753_2, hx753_3, hl753_1, hi753_1, hl753_3, hi753_3⟩ := at_T63 (Kd.N_reads' HO_749000.out).2.2 x13_3 p753 q753
                 cases e753
                 obtain ⟨ce753, hce753, hMe753, hcc753⟩ := Kd.N_get HO_749000.out z63 x13_3 p753 (by first | exact q753 | exact of_decide_eq_true (by first | (with_reducible assumption) | assumption) | (have e_ := (Kd.N_reads' HO_749000.out).1; omega))
                 obtain ⟨ua753_1, uc753_1, ua753_3, uc753_3, rfl, ul753_1, ge753_1, ul753_3, ge753_3⟩ := k63_openF hMe753
                 have hv753_1 := hcc753 1 _ rfl
                 rw [add_field _ _ 1 (by omega)] at hv753_1
                 replace hv753_1 := Option.some.inj (hv753_1.symm.trans hx753_1)
                 injection hv753_1 with hva_ hvn_ hvc_
                 rw [hva_] at ge753_1
                 rw [hvc_] at ul753_1
                 have HL753_1 := Aside0.mk (show Kd.V (Kd.int .i64) 3 _ w.heap.size _ _ ((rd_T63 t741 x13_3).f1.f0) from Kd.V_mk ul753_1 ge753_1)
                 clear hva_ hvn_ hvc_ ge753_1 ul753_1
                 have hv753_3 := hcc753 3 _ rfl
                 rw [add_field _ _ 3 (by omega)] at hv753_3
                 replace hv753_3 := Option.some.inj (hv753_3.symm.trans hx753_3)
                 injection hv753_3 with hva_ hvn_ hvc_
                 rw [hva_] at ge753_3
                 rw [hvc_] at ul753_3
                 have HL753_3 := Aside0.mk (show Kd.V k35 35 _ w.heap.size _ _ ((rd_T63 t741 x13_3).f1.f2) from Kd.V_mk ul753_3 ge753_3)
                 clear hva_ hvn_ hvc_ ge753_3 ul753_3
                 clear hcc753 hce753
                 have HR753_1 := Aside0.mk hi753_1
                 have HC753_1 := Aside0.mk hl753_1
                 clear hi753_1 hl753_1
                 have HR753_3 := Aside0.mk hi753_3
                 have HC753_3 := Aside0.mk hl753_3
                 clear hi753_3 hl753_3
                 replace p753 := eq_true p753
                 replace q753 := eq_true q753
                 have p754 : 0 ≤ (x13_3 : Int) := of_decide_eq_true (by first | (with_reducible assumption) | assumption)
                 have q754 : x13_3 < (l0_0.length : Int) := of_decide_eq_true (by first | (with_reducible assumption) | assumption)
                 obtain ⟨ad754, A754_1, c754_1, A754_3, c754_3, e754, hx754_0, hx754_1, hx754_2, hx754_3, hl754_1, hi754_1, hl754_3, hi754_3⟩ := at_T63 HR0_0.out x13_3 p754 q754
                 have hw754_3 := hx754_3
                 have hw754_2 := hx754_2
                 have hw754_1 := hx754_1
                 have hw754_0 := hx754_0
                 cases e754
                 replace hx754_0 := (HB.out.cell (World.block_lt_of_cell? w _ hx754_0)).trans hx754_0
                 replace hx754_1 := (HB.out.cell (World.block_lt_of_cell? w _ hx754_1)).trans hx754_1
                 replace hx754_2 := (HB.out.cell (World.block_lt_of_cell? w _ hx754_2)).trans hx754_2
                 replace hx754_3 := (HB.out.cell (World.block_lt_of_cell? w _ hx754_3)).trans hx754_3
                 have HR754_1 := Aside0.mk hi754_1
                 have HC754_1 := Aside0.mk hl754_1
                 clear hi754_1 hl754_1
                 have HR754_3 := Aside0.mk hi754_3
                 have HC754_3 := Aside0.mk hl754_3
                 clear hi754_3 hl754_3
                 replace p754 := eq_true p754
                 replace q754 := eq_true q754
                 have p755 : 0 ≤ (x13_3 : Int) := of_decide_eq_true (by first | (with_reducible assumption) | assumption)
                 have q755 : x13_3 < (t741.length : Int) := of_decide_eq_true (by first | (with_reducible assumption) | assumption)
                 obtain ⟨ad755, A755_1, c755_1, A755_3, c755_3, e755, hx755_0, hx755_1, hx755_2, hx755_3, hl755_1, hi755_1, hl755_3, hi755_3⟩ := at_T63 (Kd.N_reads' HO_749000.out).2.2 x13_3 p755 q755
                 obtain rfl : ad753 = ad755 := (by injection e755)
                 obtain ⟨ce755, hce755, hMe755, hcc755⟩ := Kd.N_get HO_749000.out z63 x13_3 p755 (by first | exact q755 | exact of_decide_eq_true (by first | (with_reducible assumption) | assumption) | (have e_ := (Kd.N_reads' HO_749000.out).1; omega))
                 obtain ⟨ua755_1, uc755_1, ua755_3, uc755_3, rfl, ul755_1, ge755_1, ul755_3, ge755_3⟩ := k63_openF hMe755
                 have hv755_1 := hcc755 1 _ rfl
                 rw [add_field _ _ 1 (by omega)] at hv755_1
                 replace hv755_1 := Option.some.inj (hv755_1.symm.trans hx755_1)
                 injection hv755_1 with hva_ hvn_ hvc_
                 rw [hva_] at ge755_1
                 rw [hvc_] at ul755_1
                 have HL755_1 := Aside0.mk (show Kd.V (Kd.int .i64) 3 _ w.heap.size _ _ ((rd_T63 t741 x13_3).f1.f0) from Kd.V_mk ul755_1 ge755_1)
                 clear hva_ hvn_ hvc_ ge755_1 ul755_1
                 have hv755_3 := hcc755 3 _ rfl
                 rw [add_field _ _ 3 (by omega)] at hv755_3
                 replace hv755_3 := Option.some.inj (hv755_3.symm.trans hx755_3)
                 injection hv755_3 with hva_ hvn_ hvc_
                 rw [hva_] at ge755_3
                 rw [hvc_] at ul755_3
                 have HL755_3 := Aside0.mk (show Kd.V k35 35 _ w.heap.size _ _ ((rd_T63 t741 x13_3).f1.f2) from Kd.V_mk ul755_3 ge755_3)
                 clear hva_ hvn_ hvc_ ge755_3 ul755_3
                 clear hcc755 hce755
                 have HR755_1 := Aside0.mk hi755_1
                 have HC755_1 := Aside0.mk hl755_1
                 clear hi755_1 hl755_1
                 have HR755_3 := Aside0.mk hi755_3
                 have HC755_3 := Aside0.mk hl755_3
                 clear hi755_3 hl755_3
                 replace p755 := eq_true p755
                 replace q755 := eq_true q755
                 have ea_ := Option.some.inj (hx753_1.symm.trans hx755_1)
                 injection ea_ with ea_ en_ ec_
                 subst ea_
                 subst ec_
                 clear en_
                 have ea_ := Option.some.inj (hx753_3.symm.trans hx755_3)
                 injection ea_ with ea_ en_ ec_
                 subst ea_
                 subst ec_
                 clear en_
                 have p756 : 0 ≤ (x13_3 : Int) := of_decide_eq_true (by first | (with_reducible assumption) | assumption)
                 have q756 : x13_3 < (t741.length : Int) := of_decide_eq_true (by first | (with_reducible assumption) | assumption)
                 obtain ⟨ad756, A756_1, c756_1, A756_3, c756_3, e756, hx756_0, hx756_1, hx756_2, hx756_3, hl756_1, hi756_1, hl756_3, hi756_3⟩ := at_T63 (Kd.N_reads' HO_749000.out).2.2 x13_3 p756 q756
                 obtain rfl : ad753 = ad756 := (by injection e756)
                 obtain ⟨ce756, hce756, hMe756, hcc756⟩ := Kd.N_get HO_749000.out z63 x13_3 p756 (by first | exact q756 | exact of_decide_eq_true (by first | (with_reducible assumption) | assumption) | (have e_ := (Kd.N_reads' HO_749000.out).1; omega))
                 obtain ⟨ua756_1, uc756_1, ua756_3, uc756_3, rfl, ul756_1, ge756_1, ul756_3, ge756_3⟩ := k63_openF hMe756
                 have hv756_1 := hcc756 1 _ rfl
                 rw [add_field _ _ 1 (by omega)] at hv756_1
                 replace hv756_1 := Option.some.inj (hv756_1.symm.trans hx756_1)
                 injection hv756_1 with hva_ hvn_ hvc_
                 rw [hva_] at ge756_1
                 rw [hvc_] at ul756_1
                 have HL756_1 := Aside0.mk (show Kd.V (Kd.int .i64) 3 _ w.heap.size _ _ ((rd_T63 t741 x13_3).f1.f0) from Kd.V_mk ul756_1 ge756_1)
                 clear hva_ hvn_ hvc_ ge756_1 ul756_1
                 have hv756_3 := hcc756 3 _ rfl
                 rw [add_field _ _ 3 (by omega)] at hv756_3
                 replace hv756_3 := Option.some.inj (hv756_3.symm.trans hx756_3)
                 injection hv756_3 with hva_ hvn_ hvc_
                 rw [hva_] at ge756_3
                 rw [hvc_] at ul756_3
                 have HL756_3 := Aside0.mk (show Kd.V k35 35 _ w.heap.size _ _ ((rd_T63 t741 x13_3).f1.f2) from Kd.V_mk ul756_3 ge756_3)
                 clear hva_ hvn_ hvc_ ge756_3 ul756_3
                 clear hcc756 hce756
                 have HR756_1 := Aside0.mk hi756_1
                 have HC756_1 := Aside0.mk hl756_1
                 clear hi756_1 hl756_1
                 have HR756_3 := Aside0.mk hi756_3
                 have HC756_3 := Aside0.mk hl756_3
                 clear hi756_3 hl756_3
                 replace p756 := eq_true p756
                 replace q756 := eq_true q756
                 have ea_ := Option.some.inj (hx753_1.symm.trans hx756_1)
                 injection ea_ with ea_ en_ ec_
                 subst ea_
                 subst ec_
                 clear en_
                 have ea_ := Option.some.inj (hx753_3.symm.trans hx756_3)
                 injection ea_ with ea_ en_ ec_
                 subst ea_
                 subst ec_
                 clear en_
                 have p757 : 0 ≤ (x13_3 : Int) := of_decide_eq_true (by first | (with_reducible assumption) | assumption)
                 have q757 : x13_3 < (l0_0.length : Int) := of_decide_eq_true (by first | (with_reducible assumption) | assumption)
                 obtain ⟨ad757, A757_1, c757_1, A757_3, c757_3, e757, hx757_0, hx757_1, hx757_2, hx757_3, hl757_1, hi757_1, hl757_3, hi757_3⟩ := at_T63 HR0_0.out x13_3 p757 q757
                 have hw757_3 := hx757_3
                 have hw757_2 := hx757_2
                 have hw757_1 := hx757_1
                 have hw757_0 := hx757_0
                 obtain rfl : ad754 = ad757 := (by injection e757)
                 replace hx757_0 := (HB.out.cell (World.block_lt_of_cell? w _ hx757_0)).trans hx757_0
                 replace hx757_1 := (HB.out.cell (World.block_lt_of_cell? w _ hx757_1)).trans hx757_1
                 replace hx757_2 := (HB.out.cell (World.block_lt_of_cell? w _ hx757_2)).trans hx757_2
                 replace hx757_3 := (HB.out.cell (World.block_lt_of_cell? w _ hx757_3)).trans hx757_3
                 have HR757_1 := Aside0.mk hi757_1
                 have HC757_1 := Aside0.mk hl757_1
                 clear hi757_1 hl757_1
                 have HR757_3 := Aside0.mk hi757_3
                 have HC757_3 := Aside0.mk hl757_3
                 clear hi757_3 hl757_3
                 replace p757 := eq_true p757
                 replace q757 := eq_true q757
                 have ea_ := Option.some.inj (hx754_1.symm.trans hx757_1)
                 injection ea_ with ea_ en_ ec_
                 subst ea_
                 subst ec_
                 clear en_
                 have ea_ := Option.some.inj (hx754_3.symm.trans hx757_3)
                 injection ea_ with ea_ en_ ec_
                 subst ea_
                 subst ec_
                 clear en_
                 refine start_ (n := 39) (S := fun w' => w'.cell? ⟨gb748, 0, none⟩ = some (.slice (some ad753) t741.length co32) ∧ w'.cell? ⟨gb748, 1, none⟩ = some (.slice Ao36 t744.length co36) ∧ w'.cell? ⟨gb736, 0, none⟩ = some (.slice (some ad754) l0_0.length c0_0) ∧ w'.cell? ⟨gb736, 1, none⟩ = some (.slice A0_1 l0_1.length c0_1) ∧ w'.cell? (ad753.add ((x13_3).toNat * 4)) = some (.int .i64 ((rd_T63 t741 x13_3).f0)) ∧ w'.cell? ⟨(ad753.add ((x13_3).toNat * 4)).block, (ad753.add ((x13_3).toNat * 4)).off + 1, none⟩ = some (.slice A753_1 ((rd_T63 t741 x13_3).f1.f0).length c753_1) ∧ w'.cell? ⟨(ad753.add ((x13_3).toNat * 4)).block, (ad753.add ((x13_3).toNat * 4)).off + 2, none⟩ = some (.int .i64 ((rd_T63 t741 x13_3).f1.f1)) ∧ w'.cell? ⟨(ad753.add ((x13_3).toNat * 4)).block, (ad753.add ((x13_3).toNat * 4)).off + 3, none⟩ = some (.slice A753_3 ((rd_T63 t741 x13_3).f1.f2).length c753_3) ∧ w'.cell? (ad754.add ((x13_3).toNat * 4)) = some (.int .i64 ((rd_T63 l0_0 x13_3).f0)) ∧ w'.cell? ⟨(ad754.add ((x13_3).toNat * 4)).block, (ad754.add ((x13_3).toNat * 4)).off + 1, none⟩ = some (.slice A754_1 ((rd_T63 l0_0 x13_3).f1.f0).length c754_1) ∧ w'.cell? ⟨(ad754.add ((x13_3).toNat * 4)).block, (ad754.add ((x13_3).toNat * 4)).off + 2, none⟩ = some (.int .i64 ((rd_T63 l0_0 x13_3).f1.f1)) ∧ w'.cell? ⟨(ad754.add ((x13_3).toNat * 4)).block, (ad754.add ((x13_3).toNat * 4)).off + 3, none⟩ = some (.slice A754_3 ((rd_T63 l0_0 x13_3).f1.f2).length c754_3) ∧ w'.cell? (ad753.add ((x13_3).toNat * 4)) = some (.int .i64 ((rd_T63 t741 x13_3).f0)) ∧ w'.cell? ⟨(ad753.add ((x13_3).toNat * 4)).block, (ad753.add ((x13_3).toNat * 4)).off + 1, none⟩ = some (.slice A753_1 ((rd_T63 t741 x13_3).f1.f0).length c753_1) ∧ w'.cell? ⟨(ad753.add ((x13_3).toNat * 4)).block, (ad753.add ((x13_3).toNat * 4)).off + 2, none⟩ = some (.int .i64 ((rd_T63 t741 x13_3).f1.f1)) ∧ w'.cell? ⟨(ad753.add ((x13_3).toNat * 4)).block, (ad753.add ((x13_3).toNat * 4)).off + 3, none⟩ = some (.slice A753_3 ((rd_T63 t741 x13_3).f1.f2).length c753_3) ∧ w'.cell? (ad753.add ((x13_3).toNat * 4)) = some (.int .i64 ((rd_T63 t741 x13_3).f0)) ∧ w'.cell? ⟨(ad753.add ((x13_3).toNat * 4)).block, (ad753.add ((x13_3).toNat * 4)).off + 1, none⟩ = some (.slice A753_1 ((rd_T63 t741 x13_3).f1.f0).length c753_1) ∧ w'.cell? ⟨(ad753.add ((x13_3).toNat * 4)).block, (ad753.add ((x13_3).toNat * 4)).off + 2, none⟩ = some (.int .i64 ((rd_T63 t741 x13_3).f1.f1)) ∧ w'.cell? ⟨(ad753.add ((x13_3).toNat * 4)).block, (ad753.add ((x13_3).toNat * 4)).off + 3, none⟩ = some (.slice A753_3 ((rd_T63 t741 x13_3).f1.f2).length c753_3) ∧ w'.cell? (ad754.add ((x13_3).toNat * 4)) = some (.int .i64 ((rd_T63 l0_0 x13_3).f0)) ∧ w'.cell? ⟨(ad754.add ((x13_3).toNat * 4)).block, (ad754.add ((x13_3).toNat * 4)).off + 1, none⟩ = some (.slice A754_1 ((rd_T63 l0_0 x13_3).f1.f0).length c754_1) ∧ w'.cell? ⟨(ad754.add ((x13_3).toNat * 4)).block, (ad754.add ((x13_3).toNat * 4)).off + 2, none⟩ = some (.int .i64 ((rd_T63 l0_0 x13_3).f1.f1)) ∧ w'.cell? ⟨(ad754.add ((x13_3).toNat * 4)).block, (ad754.add ((x13_3).toNat * 4)).off + 3, none⟩ = some (.slice A754_3 ((rd_T63 l0_0 x13_3).f1.f2).length c754_3)) (ds := []) #[false, false, false, false, false, false, false, false, false, false, false, false, false, false, false, false, false, false, false, false, false, false, false, false, false, false, false, false, false, false, false, false, false, false, false, false, false, false, false] (by kernel_rfl) rfl rfl ⟨(blk_cell BK748.out 0).trans rfl, (blk_cell BK748.out 1).trans rfl, (blk_cell BK736.out 0).trans rfl, (blk_cell BK736.out 1).trans rfl, hx753_0, hx753_1, hx753_2, hx753_3, ((HB.out.cell (World.block_lt_of_cell? w _ hw754_0)).trans hw754_0), ((HB.out.cell (World.block_lt_of_cell? w _ hw754_1)).trans hw754_1), ((HB.out.cell (World.block_lt_of_cell? w _ hw754_2)).trans hw754_2), ((HB.out.cell (World.block_lt_of_cell? w _ hw754_3)).trans hw754_3), hx755_0, hx755_1, hx755_2, hx755_3, hx756_0, hx756_1, hx756_2, hx756_3, ((HB.out.cell (World.block_lt_of_cell? w _ hw757_0)).trans hw757_0), ((HB.out.cell (World.block_lt_of_cell? w _ hw757_1)).trans hw757_1), ((HB.out.cell (World.block_lt_of_cell? w _ hw757_2)).trans hw757_2), ((HB.out.cell (World.block_lt_of_cell? w _ hw757_3)).trans hw757_3)⟩ (fun hHeld => ?_); refine with_tabW skiarealaw53_PatrolKeeps.tab13 skiarealaw53_PatrolKeeps.bits13 (fun HT_ HW_ => ?_)
                 generalize wr.drew = w103 at HO_749000 HO_749001 BK736 BK737 BK748 HB HL753_1 HL753_3 HL755_1 HL755_3 HL756_1 HL756_3 HR753_1 HR753_3 HR754_1 HR754_3 HR755_1 HR755_3 HR756_1 HR756_3 HR757_1 HR757_3 hx753_0 hx753_1 hx753_2 hx753_3 hx754_0 hx754_1 hx754_2 hx754_3 hx755_0 hx755_1 hx755_2 hx755_3 hx756_0 hx756_1 hx756_2 hx756_3 hx757_0 hx757_1 hx757_2 hx757_3 hHeld ⊢
                 refine pure_ (i := 0) (N := some 103) (v := ?_) (a' := ?_) #[true, false, false, false, false, false, false, false, false, false, false, false, false, false, false, false, false, false, false, false, false, false, false, false, false, false, false, false, false, false, false, false, false, false, false, false, false, false, false] rfl rfl (any_of HT_.out (by kernel_rfl)) (fun _ _ _ h => h) (Or.inl ⟨by rfl, ?_⟩) ?_ ?_
                 rotate_left
                 ·intro w'
                  go_simp
                  with_reducible rfl
                 rotate_left
                 ·simp only [Act.put, List.setIfInBounds_toArray, List.set_cons_zero, List.set_cons_succ, i64_w, i32_w]
                  rfl
                 refine pure_ (i := 2) (N := some 105) (v := ?_) (a' := ?_) #[true, false, true, false, false, false, false, false, false, false, false, false, false, false, false, false, false, false, false, false, false, false, false, false, false, false, false, false, false, false, false, false, false, false, false, false, false, false, false] rfl rfl (any_of HT_.out (by kernel_rfl)) (fun _ _ _ h => h) (Or.inl ⟨by rfl, ?_⟩) ?_ ?_
                 rotate_left
                 ·intro w'
                  go_simp
                  with_reducible rfl
                 rotate_left
                 ·simp only [Act.put, List.setIfInBounds_toArray, List.set_cons_zero, List.set_cons_succ, i64_w, i32_w]
                  rfl
                 refine pure_ (i := 6) (N := some 109) (v := ?_) (a' := ?_) #[true, false, true, false, false, false, true, false, false, false, false, false, false, false, false, false, false, false, false, false, false, false, false, false, false, false, false, false, false, false, false, false, false, false, false, false, false, false, false] rfl rfl (any_of HT_.out (by kernel_rfl)) (fun _ _ _ h => h) (Or.inl ⟨by rfl, ?_⟩) ?_ ?_
                 rotate_left
                 ·intro w'
                  go_simp
                  with_reducible rfl
                 rotate_left
                 ·simp only [Act.put, List.setIfInBounds_toArray, List.set_cons_zero, List.set_cons_succ, i64_w, i32_w]
                  rfl
                 refine pure_ (i := 8) (N := some 111) (v := ?_) (a' := ?_) #[true, false, true, false, false, false, true, false, true, false, false, false, false, false, false, false, false, false, false, false, false, false, false, false, false, false, false, false, false, false, false, false, false, false, false, false, false, false, false] rfl rfl (any_of HT_.out (by kernel_rfl)) (fun _ _ _ h => h) (Or.inl ⟨by rfl, ?_⟩) ?_ ?_
                 rotate_left
                 ·intro w'
                  go_simp
                  with_reducible rfl
                 rotate_left
                 ·simp only [Act.put, List.setIfInBounds_toArray, List.set_cons_zero, List.set_cons_succ, i64_w, i32_w]
                  rfl
                 refine take_ (i := 1) (N := some 104) (v := ?_) (a' := ?_) #[true, true, true, false, false, false, true, false, true, false, false, false, false, false, false, false, false, false, false, false, false, false, false, false, false, false, false, false, false, false, false, false, false, false, false, false, false, false, false] rfl rfl (take_ofW HT_.out HW_.out (by kernel_rfl)) (fun _ _ _ h => h) (Or.inl ⟨by rfl, ?_⟩) hHeld ?_ ?_
                 rotate_left
                 ·rintro w' ⟨s0, s1, s2, s3, s4, s5, s6, s7, s8, s9, s10, s11, s12, s13, s14, s15, s16, s17, s18, s19, s20, s21, s22, s23⟩
                  go_simp
                  with_reducible rfl
                 rotate_left
                 ·simp only [Act.put, List.setIfInBounds_toArray, List.set_cons_zero, List.set_cons_succ, i64_w, i32_w]
                  rfl
                 refine pure_ (i := 3) (N := some 106) (v := ?_) (a' := ?_) #[true, true, true, true, false, false, true, false, true, false, false, false, false, false, false, false, false, false, false, false, false, false, false, false, false, false, false, false, false, false, false, false, false, false, false, false, false, false, false] rfl rfl (any_of HT_.out (by kernel_rfl)) (fun _ _ _ h => h) (Or.inl ⟨by rfl, ?_⟩) ?_ ?_
                 rotate_left
                 ·intro w'
                  go_simp
                  with_reducible rfl
                 rotate_left
                 ·simp only [Act.put, List.setIfInBounds_toArray, List.set_cons_zero, List.set_cons_succ, i64_w, i32_w]
                  rfl
                 refine pure_ (i := 4) (N := some 107) (v := ?_) (a' := ?_) #[true, true, true, true, true, false, true, false, true, false, false, false, false, false, false, false, false, false, false, false, false, false, false, false, false, false, false, false, false, false, false, false, false, false, false, false, false, false, false] rfl rfl (any_of HT_.out (by kernel_rfl)) (fun _ _ _ h => h) (Or.inl ⟨by rfl, ?_⟩) ?_ ?_
                 rotate_left
                 ·intro w'
                  go_simp
                  with_reducible rfl
                 rotate_left
                 ·simp only [Act.put, List.setIfInBounds_toArray, List.set_cons_zero, List.set_cons_succ, i64_w, i32_w]
                  rfl
                 refine take_ (i := 5) (N := some 108) (v := ?_) (a' := ?_) #[true, true, true, true, true, true, true, false, true, false, false, false, false, false, false, false, false, false, false, false, false, false, false, false, false, false, false, false, false, false, false, false, false, false, false, false, false, false, false] rfl rfl (take_ofW HT_.out HW_.out (by kernel_rfl)) (fun _ _ _ h => h) (Or.inl ⟨by rfl, ?_⟩) hHeld ?_ ?_
                 rotate_left
                 ·rintro w' ⟨s0, s1, s2, s3, s4, s5, s6, s7, s8, s9, s10, s11, s12, s13, s14, s15, s16, s17, s18, s19, s20, s21, s22, s23⟩
                  go_simp
                  with_reducible rfl
                 rotate_left
                 ·simp only [Act.put, List.setIfInBounds_toArray, List.set_cons_zero, List.set_cons_succ, i64_w, i32_w]
                  rfl
                 refine take_ (i := 7) (N := some 110) (v := ?_) (a' := ?_) #[true, true, true, true, true, true, true, true, true, false, false, false, false, false, false, false, false, false, false, false, false, false, false, false, false, false, false, false, false, false, false, false, false, false, false, false, false, false, false] rfl rfl (take_ofW HT_.out HW_.out (by kernel_rfl)) (fun _ _ _ h => h) (Or.inl ⟨by rfl, ?_⟩) hHeld ?_ ?_
                 rotate_left
                 ·rintro w' ⟨s0, s1, s2, s3, s4, s5, s6, s7, s8, s9, s10, s11, s12, s13, s14, s15, s16, s17, s18, s19, s20, s21, s22, s23⟩
                  go_simp
                  with_reducible rfl
                 rotate_left
                 ·simp only [Act.put, List.setIfInBounds_toArray, List.set_cons_zero, List.set_cons_succ, i64_w, i32_w]
                  rfl
                 refine pure_ (i := 9) (N := some 112) (v := ?_) (a' := ?_) #[true, true, true, true, true, true, true, true, true, true, false, false, false, false, false, false, false, false, false, false, false, false, false, false, false, false, false, false, false, false, false, false, false, false, false, false, false, false, false] rfl rfl (any_of HT_.out (by kernel_rfl)) (fun _ _ _ h => h) (Or.inl ⟨by rfl, ?_⟩) ?_ ?_
                 rotate_left
                 ·intro w'
                  go_simp
                  with_reducible rfl
                 rotate_left
                 ·simp only [Act.put, List.setIfInBounds_toArray, List.set_cons_zero, List.set_cons_succ, i64_w, i32_w]
                  rfl
                 refine pure_ (i := 10) (N := some 113) (v := ?_) (a' := ?_) #[true, true, true, true, true, true, true, true, true, true, true, false, false, false, false, false, false, false, false, false, false, false, false, false, false, false, false, false, false, false, false, false, false, false, false, false, false, false, false] rfl rfl (any_of HT_.out (by kernel_rfl)) (fun _ _ _ h => h) (Or.inl ⟨by rfl, ?_⟩) ?_ ?_
                 rotate_left
                 ·intro w'
                  go_simp
                  with_reducible rfl
                 rotate_left
                 ·simp only [Act.put, List.setIfInBounds_toArray, List.set_cons_zero, List.set_cons_succ, i64_w, i32_w]
                  rfl
                 refine take_ (i := 11) (N := some 114) (v := ?_) (a' := ?_) #[true, true, true, true, true, true, true, true, true, true, true, true, false, false, false, false, false, false, false, false, false, false, false, false, false, false, false, false, false, false, false, false, false, false, false, false, false, false, false] rfl rfl (take_ofW HT_.out HW_.out (by kernel_rfl)) (fun _ _ _ h => h) (Or.inl ⟨by rfl, ?_⟩) hHeld ?_ ?_
                 rotate_left
                 ·rintro w' ⟨s0, s1, s2, s3, s4, s5, s6, s7, s8, s9, s10, s11, s12, s13, s14, s15, s16, s17, s18, s19, s20, s21, s22, s23⟩
                  go_simp
                  with_reducible rfl
                 rotate_left
                 ·simp only [Act.put, List.setIfInBounds_toArray, List.set_cons_zero, List.set_cons_succ, i64_w, i32_w]
                  rfl
                 refine pure_ (i := 12) (N := some 115) (v := ?_) (a' := ?_) #[true, true, true, true, true, true, true, true, true, true, true, true, true, false, false, false, false, false, false, false, false, false, false, false, false, false, false, false, false, false, false, false, false, false, false, false, false, false, false] rfl rfl (any_of HT_.out (by kernel_rfl)) (fun _ _ _ h => h) (Or.inl ⟨by rfl, ?_⟩) ?_ ?_
                 rotate_left
                 ·intro w'
                  go_simp
                  with_reducible rfl
                 rotate_left
                 ·simp only [Act.put, List.setIfInBounds_toArray, List.set_cons_zero, List.set_cons_succ, i64_w, i32_w]
                  rfl
                 refine pure_ (i := 13) (N := some 116) (v := ?_) (a' := ?_) #[true, true, true, true, true, true, true, true, true, true, true, true, true, true, false, false, false, false, false, false, false, false, false, false, false, false, false, false, false, false, false, false, false, false, false, false, false, false, false] rfl rfl (any_of HT_.out (by kernel_rfl)) (fun _ _ _ h => h) (Or.inl ⟨by rfl, ?_⟩) ?_ ?_
                 rotate_left
                 ·intro w'
                  go_simp
                  with_reducible rfl
                 rotate_left
                 ·simp only [Act.put, List.setIfInBounds_toArray, List.set_cons_zero, List.set_cons_succ, i64_w, i32_w]
                  rfl
                 refine pure_ (i := 14) (N := some 117) (v := ?_) (a' := ?_) #[true, true, true, true, true, true, true, true, true, true, true, true, true, true, true, false, false, false, false, false, false, false, false, false, false, false, false, false, false, false, false, false, false, false, false, false, false, false, false] rfl rfl (any_of HT_.out (by kernel_rfl)) (fun _ _ _ h => h) (Or.inl ⟨by rfl, ?_⟩) ?_ ?_
                 rotate_left
                 ·intro w'
                  go_simp
                  with_reducible rfl
                 rotate_left
                 ·simp only [Act.put, List.setIfInBounds_toArray, List.set_cons_zero, List.set_cons_succ, i64_w, i32_w]
                  rfl
                 refine pure_ (i := 16) (N := some 119) (v := ?_) (a' := ?_) #[true, true, true, true, true, true, true, true, true, true, true, true, true, true, true, false, true, false, false, false, false, false, false, false, false, false, false, false, false, false, false, false, false, false, false, false, false, false, false] rfl rfl (any_of HT_.out (by kernel_rfl)) (fun _ _ _ h => h) (Or.inl ⟨by rfl, ?_⟩) ?_ ?_
                 rotate_left
                 ·intro w'
                  go_simp
                  with_reducible rfl
                 rotate_left
                 ·simp only [Act.put, List.setIfInBounds_toArray, List.set_cons_zero, List.set_cons_succ, i64_w, i32_w]
                  rfl
                 refine pure_ (i := 20) (N := some 123) (v := ?_) (a' := ?_) #[true, true, true, true, true, true, true, true, true, true, true, true, true, true, true, false, true, false, false, false, true, false, false, false, false, false, false, false, false, false, false, false, false, false, false, false, false, false, false] rfl rfl (any_of HT_.out (by kernel_rfl)) (fun _ _ _ h => h) (Or.inl ⟨by rfl, ?_⟩) ?_ ?_
                 rotate_left
                 ·intro w'
                  go_simp
                  with_reducible rfl
                 rotate_left
                 ·simp only [Act.put, List.setIfInBounds_toArray, List.set_cons_zero, List.set_cons_succ, i64_w, i32_w]
                  rfl
                 refine take_ (i := 15) (N := some 118) (v := ?_) (a' := ?_) #[true, true, true, true, true, true, true, true, true, true, true, true, true, true, true, true, true, false, false, false, true, false, false, false, false, false, false, false, false, false, false, false, false, false, false, false, false, false, false] rfl rfl (take_ofW HT_.out HW_.out (by kernel_rfl)) (fun _ _ _ h => h) (Or.inl ⟨by rfl, ?_⟩) hHeld ?_ ?_
                 rotate_left
                 ·rintro w' ⟨s0, s1, s2, s3, s4, s5, s6, s7, s8, s9, s10, s11, s12, s13, s14, s15, s16, s17, s18, s19, s20, s21, s22, s23⟩
                  go_simp
                  with_reducible rfl
                 rotate_left
                 ·simp only [Act.put, List.setIfInBounds_toArray, List.set_cons_zero, List.set_cons_succ, i64_w, i32_w]
                  rfl
                 refine pure_ (i := 17) (N := some 120) (v := ?_) (a' := ?_) #[true, true, true, true, true, true, true, true, true, true, true, true, true, true, true, true, true, true, false, false, true, false, false, false, false, false, false, false, false, false, false, false, false, false, false, false, false, false, false] rfl rfl (any_of HT_.out (by kernel_rfl)) (fun _ _ _ h => h) (Or.inl ⟨by rfl, ?_⟩) ?_ ?_
                 rotate_left
                 ·intro w'
                  go_simp
                  with_reducible rfl
                 rotate_left
                 ·simp only [Act.put, List.setIfInBounds_toArray, List.set_cons_zero, List.set_cons_succ, i64_w, i32_w]
                  rfl
                 refine pure_ (i := 18) (N := some 121) (v := ?_) (a' := ?_) #[true, true, true, true, true, true, true, true, true, true, true, true, true, true, true, true, true, true, true, false, true, false, false, false, false, false, false, false, false, false, false, false, false, false, false, false, false, false, false] rfl rfl (any_of HT_.out (by kernel_rfl)) (fun _ _ _ h => h) (Or.inl ⟨by rfl, ?_⟩) ?_ ?_
                 rotate_left
                 ·intro w'
                  go_simp
                  with_reducible rfl
                 rotate_left
                 ·simp only [Act.put, List.setIfInBounds_toArray, List.set_cons_zero, List.set_cons_succ, i64_w, i32_w]
                  rfl
                 refine take_ (i := 19) (N := some 122) (v := ?_) (a' := ?_) #[true, true, true, true, true, true, true, true, true, true, true, true, true, true, true, true, true, true, true, true, true, false, false, false, false, false, false, false, false, false, false, false, false, false, false, false, false, false, false] rfl rfl (take_ofW HT_.out HW_.out (by kernel_rfl)) (fun _ _ _ h => h) (Or.inl ⟨by rfl, ?_⟩) hHeld ?_ ?_
                 rotate_left
                 ·rintro w' ⟨s0, s1, s2, s3, s4, s5, s6, s7, s8, s9, s10, s11, s12, s13, s14, s15, s16, s17, s18, s19, s20, s21, s22, s23⟩
                  go_simp
                  with_reducible rfl
                 rotate_left
                 ·simp only [Act.put, List.setIfInBounds_toArray, List.set_cons_zero, List.set_cons_succ, i64_w, i32_w]
                  rfl
                 refine pure_ (i := 21) (N := some 124) (v := ?_) (a' := ?_) #[true, true, true, true, true, true, true, true, true, true, true, true, true, true, true, true, true, true, true, true, true, true, false, false, false, false, false, false, false, false, false, false, false, false, false, false, false, false, false] rfl rfl (any_of HT_.out (by kernel_rfl)) (fun _ _ _ h => h) (Or.inl ⟨by rfl, ?_⟩) ?_ ?_
                 rotate_left
                 ·intro w'
                  go_simp
                  with_reducible rfl
                 rotate_left
                 ·simp only [Act.put, List.setIfInBounds_toArray, List.set_cons_zero, List.set_cons_succ, i64_w, i32_w]
                  rfl
                 refine pure_ (i := 22) (N := some 125) (v := ?_) (a' := ?_) #[true, true, true, true, true, true, true, true, true, true, true, true, true, true, true, true, true, true, true, true, true, true, true, false, false, false, false, false, false, false, false, false, false, false, false, false, false, false, false] rfl rfl (any_of HT_.out (by kernel_rfl)) (fun _ _ _ h => h) (Or.inl ⟨by rfl, ?_⟩) ?_ ?_
                 rotate_left
                 ·intro w'
                  go_simp
                  with_reducible rfl
                 rotate_left
                 ·simp only [Act.put, List.setIfInBounds_toArray, List.set_cons_zero, List.set_cons_succ, i64_w, i32_w]
                  rfl
                 refine pure_ (i := 23) (N := some 126) (v := ?_) (a' := ?_) #[true, true, true, true, true, true, true, true, true, true, true, true, true, true, true, true, true, true, true, true, true, true, true, true, false, false, false, false, false, false, false, false, false, false, false, false, false, false, false] rfl rfl (any_of HT_.out (by kernel_rfl)) (fun _ _ _ h => h) (Or.inl ⟨by rfl, ?_⟩) ?_ ?_
                 rotate_left
                 ·intro w'
                  go_simp
                  with_reducible rfl
                 rotate_left
                 ·simp only [Act.put, List.setIfInBounds_toArray, List.set_cons_zero, List.set_cons_succ, i64_w, i32_w]
                  rfl
                 refine pure_ (i := 25) (N := some 128) (v := ?_) (a' := ?_) #[true, true, true, true, true, true, true, true, true, true, true, true, true, true, true, true, true, true, true, true, true, true, true, true, false, true, false, false, false, false, false, false, false, false, false, false, false, false, false] rfl rfl (any_of HT_.out (by kernel_rfl)) (fun _ _ _ h => h) (Or.inl ⟨by rfl, ?_⟩) ?_ ?_
                 rotate_left
                 ·intro w'
                  go_simp
                  with_reducible rfl
                 rotate_left
                 ·simp only [Act.put, List.setIfInBounds_toArray, List.set_cons_zero, List.set_cons_succ, i64_w, i32_w]
                  rfl
                 refine pure_ (i := 29) (N := some 132) (v := ?_) (a' := ?_) #[true, true, true, true, true, true, true, true, true, true, true, true, true, true, true, true, true, true, true, true, true, true, true, true, false, true, false, false, false, true, false, false, false, false, false, false, false, false, false] rfl rfl (any_of HT_.out (by kernel_rfl)) (fun _ _ _ h => h) (Or.inl ⟨by rfl, ?_⟩) ?_ ?_
                 rotate_left
                 ·intro w'
                  go_simp
                  with_reducible rfl
                 rotate_left
                 ·simp only [Act.put, List.setIfInBounds_toArray, List.set_cons_zero, List.set_cons_succ, i64_w, i32_w]
                  rfl
                 refine pure_ (i := 31) (N := some 134) (v := ?_) (a' := ?_) #[true, true, true, true, true, true, true, true, true, true, true, true, true, true, true, true, true, true, true, true, true, true, true, true, false, true, false, false, false, true, false, true, false, false, false, false, false, false, false] rfl rfl (any_of HT_.out (by kernel_rfl)) (fun _ _ _ h => h) (Or.inl ⟨by rfl, ?_⟩) ?_ ?_
                 rotate_left
                 ·intro w'
                  go_simp
                  with_reducible rfl
                 rotate_left
                 ·simp only [Act.put, List.setIfInBounds_toArray, List.set_cons_zero, List.set_cons_succ, i64_w, i32_w]
                  rfl
                 refine take_ (i := 24) (N := some 127) (v := ?_) (a' := ?_) #[true, true, true, true, true, true, true, true, true, true, true, true, true, true, true, true, true, true, true, true, true, true, true, true, true, true, false, false, false, true, false, true, false, false, false, false, false, false, false] rfl rfl (take_ofW HT_.out HW_.out (by kernel_rfl)) (fun _ _ _ h => h) (Or.inl ⟨by rfl, ?_⟩) hHeld ?_ ?_
                 rotate_left
                 ·rintro w' ⟨s0, s1, s2, s3, s4, s5, s6, s7, s8, s9, s10, s11, s12, s13, s14, s15, s16, s17, s18, s19, s20, s21, s22, s23⟩
                  go_simp
                  with_reducible rfl
                 rotate_left
                 ·simp only [Act.put, List.setIfInBounds_toArray, List.set_cons_zero, List.set_cons_succ, i64_w, i32_w]
                  rfl
                 refine pure_ (i := 26) (N := some 129) (v := ?_) (a' := ?_) #[true, true, true, true, true, true, true, true, true, true, true, true, true, true, true, true, true, true, true, true, true, true, true, true, true, true, true, false, false, true, false, true, false, false, false, false, false, false, false] rfl rfl (any_of HT_.out (by kernel_rfl)) (fun _ _ _ h => h) (Or.inl ⟨by rfl, ?_⟩) ?_ ?_
                 rotate_left
                 ·intro w'
                  go_simp
                  with_reducible rfl
                 rotate_left
                 ·simp only [Act.put, List.setIfInBounds_toArray, List.set_cons_zero, List.set_cons_succ, i64_w, i32_w]
                  rfl
                 refine pure_ (i := 27) (N := some 130) (v := ?_) (a' := ?_) #[true, true, true, true, true, true, true, true, true, true, true, true, true, true, true, true, true, true, true, true, true, true, true, true, true, true, true, true, false, true, false, true, false, false, false, false, false, false, false] rfl rfl (any_of HT_.out (by kernel_rfl)) (fun _ _ _ h => h) (Or.inl ⟨by rfl, ?_⟩) ?_ ?_
                 rotate_left
                 ·intro w'
                  go_simp
                  with_reducible rfl
                 rotate_left
                 ·simp only [Act.put, List.setIfInBounds_toArray, List.set_cons_zero, List.set_cons_succ, i64_w, i32_w]
                  rfl
                 refine take_ (i := 28) (N := some 131) (v := ?_) (a' := ?_) #[true, true, true, true, true, true, true, true, true, true, true, true, true, true, true, true, true, true, true, true, true, true, true, true, true, true, true, true, true, true, false, true, false, false, false, false, false, false, false] rfl rfl (take_ofW HT_.out HW_.out (by kernel_rfl)) (fun _ _ _ h => h) (Or.inl ⟨by rfl, ?_⟩) hHeld ?_ ?_
                 rotate_left
                 ·rintro w' ⟨s0, s1, s2, s3, s4, s5, s6, s7, s8, s9, s10, s11, s12, s13, s14, s15, s16, s17, s18, s19, s20, s21, s22, s23⟩
                  go_simp
                  with_reducible rfl
                 rotate_left
                 ·simp only [Act.put, List.setIfInBounds_toArray, List.set_cons_zero, List.set_cons_succ, i64_w, i32_w]
                  rfl
                 refine take_ (i := 30) (N := some 133) (v := ?_) (a' := ?_) #[true, true, true, true, true, true, true, true, true, true, true, true, true, true, true, true, true, true, true, true, true, true, true, true, true, true, true, true, true, true, true, true, false, false, false, false, false, false, false] rfl rfl (take_ofW HT_.out HW_.out (by kernel_rfl)) (fun _ _ _ h => h) (Or.inl ⟨by rfl, ?_⟩) hHeld ?_ ?_
                 rotate_left
                 ·rintro w' ⟨s0, s1, s2, s3, s4, s5, s6, s7, s8, s9, s10, s11, s12, s13, s14, s15, s16, s17, s18, s19, s20, s21, s22, s23⟩
                  go_simp
                  with_reducible rfl
                 rotate_left
                 ·simp only [Act.put, List.setIfInBounds_toArray, List.set_cons_zero, List.set_cons_succ, i64_w, i32_w]
                  rfl
                 refine pure_ (i := 32) (N := some 135) (v := ?_) (a' := ?_) #[true, true, true, true, true, true, true, true, true, true, true, true, true, true, true, true, true, true, true, true, true, true, true, true, true, true, true, true, true, true, true, true, true, false, false, false, false, false, false] rfl rfl (any_of HT_.out (by kernel_rfl)) (fun _ _ _ h => h) (Or.inl ⟨by rfl, ?_⟩) ?_ ?_
                 rotate_left
                 ·intro w'
                  go_simp
                  with_reducible rfl
                 rotate_left
                 ·simp only [Act.put, List.setIfInBounds_toArray, List.set_cons_zero, List.set_cons_succ, i64_w, i32_w]
                  rfl
                 refine pure_ (i := 33) (N := some 136) (v := ?_) (a' := ?_) #[true, true, true, true, true, true, true, true, true, true, true, true, true, true, true, true, true, true, true, true, true, true, true, true, true, true, true, true, true, true, true, true, true, true, false, false, false, false, false] rfl rfl (any_of HT_.out (by kernel_rfl)) (fun _ _ _ h => h) (Or.inl ⟨by rfl, ?_⟩) ?_ ?_
                 rotate_left
                 ·intro w'
                  go_simp
                  with_reducible rfl
                 rotate_left
                 ·simp only [Act.put, List.setIfInBounds_toArray, List.set_cons_zero, List.set_cons_succ, i64_w, i32_w]
                  rfl
                 refine take_ (i := 34) (N := some 137) (v := ?_) (a' := ?_) #[true, true, true, true, true, true, true, true, true, true, true, true, true, true, true, true, true, true, true, true, true, true, true, true, true, true, true, true, true, true, true, true, true, true, true, false, false, false, false] rfl rfl (take_ofW HT_.out HW_.out (by kernel_rfl)) (fun _ _ _ h => h) (Or.inl ⟨by rfl, ?_⟩) hHeld ?_ ?_
                 rotate_left
                 ·rintro w' ⟨s0, s1, s2, s3, s4, s5, s6, s7, s8, s9, s10, s11, s12, s13, s14, s15, s16, s17, s18, s19, s20, s21, s22, s23⟩
                  go_simp
                  with_reducible rfl
                 rotate_left
                 ·simp only [Act.put, List.setIfInBounds_toArray, List.set_cons_zero, List.set_cons_succ, i64_w, i32_w]
                  rfl
                 refine one_ (i := 35) (N := some 138) #[true, true, true, true, true, true, true, true, true, true, true, true, true, true, true, true, true, true, true, true, true, true, true, true, true, true, true, true, true, true, true, true, true, true, true, true, false, false, false] rfl rfl (one_of HT_.out (by kernel_rfl)) (by decide) (fun K hK => ?_)
                 refine goes_ Try.func23 (by kernel_rfl) rfl #[.agg #[.slice A753_1 ((rd_T63 t741 x13_3).f1.f0).length c753_1, .int .i64 ((rd_T63 t741 x13_3).f1.f1), .slice A753_3 ((rd_T63 t741 x13_3).f1.f2).length c753_3], .agg #[.slice A754_1 ((rd_T63 l0_0 x13_3).f1.f0).length c754_1, .int .i64 ((rd_T63 l0_0 x13_3).f1.f1), .slice A754_3 ((rd_T63 l0_0 x13_3).f1.f2).length c754_3]] (by rfl) rfl rfl (by (try simp only [List.map_toArray, List.map_cons, List.map_nil]); first | done | rfl | (simp only [List.length_drop, List.length_take]; rfl)) ?_
                 with_reducible refine (skiarearef19_Same.calls k3 _ _ ((rd_T63 t741 x13_3).f1.f0) ((rd_T63 t741 x13_3).f1.f1) _ _ ((rd_T63 t741 x13_3).f1.f2) _ _ ((rd_T63 l0_0 x13_3).f1.f0) ((rd_T63 l0_0 x13_3).f1.f1) _ _ ((rd_T63 l0_0 x13_3).f1.f2) true _ ?side1 ?side2 ?side3 ?side4 ?side5 ?side6 ?side7 ?side8 A98.out).mono ?_
                 (case side1 => repeat (first | exact (by repeat (first | (with_reducible exact HR756_1.out) | (with_reducible refine Kd.C_alloc ?_ _) | (with_reducible refine Kd.C_drewN ?_ _) | (with_reducible refine Kd.C_drew ?_) | exact HR756_1.out)) | (with_reducible refine Kd.C_alloc ?_ _) | (with_reducible refine Kd.C_drewN ?_ _) | (with_reducible refine Kd.C_drew ?_)))
                 (case side2 => exact HC756_1.out)
                 (case side3 => repeat (first | exact (by repeat (first | (with_reducible exact HR756_3.out) | (with_reducible refine Kd.C_alloc ?_ _) | (with_reducible refine Kd.C_drewN ?_ _) | (with_reducible refine Kd.C_drew ?_) | exact HR756_3.out)) | (with_reducible refine Kd.C_alloc ?_ _) | (with_reducible refine Kd.C_drewN ?_ _) | (with_reducible refine Kd.C_drew ?_)))
                 (case side4 => exact HC756_3.out)
                 (case side5 => repeat (first | exact (Kd.C_below HR757_1.out HB.out) | (with_reducible refine Kd.C_alloc ?_ _) | (with_reducible refine Kd.C_drewN ?_ _) | (with_reducible refine Kd.C_drew ?_)))
                 (case side6 => exact HC757_1.out)
                 (case side7 => repeat (first | exact (Kd.C_below HR757_3.out HB.out) | (with_reducible refine Kd.C_alloc ?_ _) | (with_reducible refine Kd.C_drewN ?_ _) | (with_reducible refine Kd.C_drew ?_)))
                 (case side8 => exact HC757_3.out)
                 rintro e w104 ⟨rfl, hb⟩
                 have HS4_ := (hb.cell (World.block_lt_of_cell? _ _ (hHeld.2.2.2.2.1))).trans (hHeld.2.2.2.2.1)
                 have HS5_ := (hb.cell (World.block_lt_of_cell? _ _ (hHeld.2.2.2.2.2.1))).trans (hHeld.2.2.2.2.2.1)
                 have HS6_ := (hb.cell (World.block_lt_of_cell? _ _ (hHeld.2.2.2.2.2.2.1))).trans (hHeld.2.2.2.2.2.2.1)
                 have HS7_ := (hb.cell (World.block_lt_of_cell? _ _ (hHeld.2.2.2.2.2.2.2.1))).trans (hHeld.2.2.2.2.2.2.2.1)
                 have HS12_ := (hb.cell (World.block_lt_of_cell? _ _ (hHeld.2.2.2.2.2.2.2.2.2.2.2.2.1))).trans (hHeld.2.2.2.2.2.2.2.2.2.2.2.2.1)
                 have HS13_ := (hb.cell (World.block_lt_of_cell? _ _ (hHeld.2.2.2.2.2.2.2.2.2.2.2.2.2.1))).trans (hHeld.2.2.2.2.2.2.2.2.2.2.2.2.2.1)
                 have HS14_ := (hb.cell (World.block_lt_of_cell? _ _ (hHeld.2.2.2.2.2.2.2.2.2.2.2.2.2.2.1))).trans (hHeld.2.2.2.2.2.2.2.2.2.2.2.2.2.2.1)
                 have HS15_ := (hb.cell (World.block_lt_of_cell? _ _ (hHeld.2.2.2.2.2.2.2.2.2.2.2.2.2.2.2.1))).trans (hHeld.2.2.2.2.2.2.2.2.2.2.2.2.2.2.2.1)
                 have HS16_ := (hb.cell (World.block_lt_of_cell? _ _ (hHeld.2.2.2.2.2.2.2.2.2.2.2.2.2.2.2.2.1))).trans (hHeld.2.2.2.2.2.2.2.2.2.2.2.2.2.2.2.2.1)
                 have HS17_ := (hb.cell (World.block_lt_of_cell? _ _ (hHeld.2.2.2.2.2.2.2.2.2.2.2.2.2.2.2.2.2.1))).trans (hHeld.2.2.2.2.2.2.2.2.2.2.2.2.2.2.2.2.2.1)
                 have HS18_ := (hb.cell (World.block_lt_of_cell? _ _ (hHeld.2.2.2.2.2.2.2.2.2.2.2.2.2.2.2.2.2.2.1))).trans (hHeld.2.2.2.2.2.2.2.2.2.2.2.2.2.2.2.2.2.2.1)
                 have HS19_ := (hb.cell (World.block_lt_of_cell? _ _ (hHeld.2.2.2.2.2.2.2.2.2.2.2.2.2.2.2.2.2.2.2.1))).trans (hHeld.2.2.2.2.2.2.2.2.2.2.2.2.2.2.2.2.2.2.2.1)
                 refine ⟨_, rfl, ?_⟩
                 have n0_ := Aside0.mk (Kd.N_below HO_749000.out hb)
                 have n1_ := Aside0.mk (Kd.R_below HO_749001.out hb)
                 have n2_ := Aside0.mk (Kd.V_below HL753_1.out hb)
                 have n3_ := Aside0.mk (Kd.V_below HL753_3.out hb)
                 have n4_ := Aside0.mk (Kd.V_below HL755_1.out hb)
                 have n5_ := Aside0.mk (Kd.V_below HL755_3.out hb)
                 have n6_ := Aside0.mk (Kd.V_below HL756_1.out hb)
                 have n7_ := Aside0.mk (Kd.V_below HL756_3.out hb)
                 have n8_ := Aside0.mk (blk_below BK736.out hb)
                 have n9_ := Aside0.mk (blk_below BK737.out hb)
                 have n10_ := Aside0.mk (blk_below BK748.out hb)
                 have n11_ := Aside0.mk (Kd.C_below (by repeat (first | (with_reducible exact HR753_1.out) | (with_reducible refine Kd.C_alloc ?_ _) | (with_reducible refine Kd.C_drewN ?_ _) | (with_reducible refine Kd.C_drew ?_) | exact HR753_1.out)) hb)
                 have n12_ := Aside0.mk (Kd.C_below (by repeat (first | (with_reducible exact HR753_3.out) | (with_reducible refine Kd.C_alloc ?_ _) | (with_reducible refine Kd.C_drewN ?_ _) | (with_reducible refine Kd.C_drew ?_) | exact HR753_3.out)) hb)
                 have n13_ := Aside0.mk (Kd.C_below (by repeat (first | (with_reducible exact HR755_1.out) | (with_reducible refine Kd.C_alloc ?_ _) | (with_reducible refine Kd.C_drewN ?_ _) | (with_reducible refine Kd.C_drew ?_) | exact HR755_1.out)) hb)
                 have n14_ := Aside0.mk (Kd.C_below (by repeat (first | (with_reducible exact HR755_3.out) | (with_reducible refine Kd.C_alloc ?_ _) | (with_reducible refine Kd.C_drewN ?_ _) | (with_reducible refine Kd.C_drew ?_) | exact HR755_3.out)) hb)
                 have n15_ := Aside0.mk (Kd.C_below (by repeat (first | (with_reducible exact HR756_1.out) | (with_reducible refine Kd.C_alloc ?_ _) | (with_reducible refine Kd.C_drewN ?_ _) | (with_reducible refine Kd.C_drew ?_) | exact HR756_1.out)) hb)
                 have n16_ := Aside0.mk (Kd.C_below (by repeat (first | (with_reducible exact HR756_3.out) | (with_reducible refine Kd.C_alloc ?_ _) | (with_reducible refine Kd.C_drewN ?_ _) | (with_reducible refine Kd.C_drew ?_) | exact HR756_3.out)) hb)
                 have n17_ := Aside0.mk (below_step bel_ hb)
                 clear HO_749000
                 clear HO_749001
                 clear HL753_1
                 clear HL753_3
                 clear HL755_1
                 clear HL755_3
                 clear HL756_1
                 clear HL756_3
                 clear BK736
                 clear BK737
                 clear BK748
                 clear HR753_1
                 clear HR753_3
                 clear HR755_1
                 clear HR755_3
                 clear HR756_1
                 clear HR756_3
                 clear HB
                 have HO_749000 := n0_
                 have HO_749001 := n1_
                 have HL753_1 := n2_
                 have HL753_3 := n3_
                 have HL755_1 := n4_
                 have HL755_3 := n5_
                 have HL756_1 := n6_
                 have HL756_3 := n7_
                 have BK736 := n8_
                 have BK737 := n9_
                 have BK748 := n10_
                 have HR753_1 := n11_
                 have HR753_3 := n12_
                 have HR755_1 := n13_
                 have HR755_3 := n14_
                 have HR756_1 := n15_
                 have HR756_3 := n16_
                 have HB := n17_
                 clear n0_ n1_ n2_ n3_ n4_ n5_ n6_ n7_ n8_ n9_ n10_ n11_ n12_ n13_ n14_ n15_ n16_ n17_
                 (try clear hb)
                 (try clear hb2)
                 (try clear hk)
                 (try clear hi)
                 refine hK.out _ _ ⟨(blk_cell BK748.out 0).trans rfl, (blk_cell BK748.out 1).trans rfl, (blk_cell BK736.out 0).trans rfl, (blk_cell BK736.out 1).trans rfl, HS4_, HS5_, HS6_, HS7_, ((HB.out.cell (World.block_lt_of_cell? w _ hw754_0)).trans hw754_0), ((HB.out.cell (World.block_lt_of_cell? w _ hw754_1)).trans hw754_1), ((HB.out.cell (World.block_lt_of_cell? w _ hw754_2)).trans hw754_2), ((HB.out.cell (World.block_lt_of_cell? w _ hw754_3)).trans hw754_3), HS12_, HS13_, HS14_, HS15_, HS16_, HS17_, HS18_, HS19_, ((HB.out.cell (World.block_lt_of_cell? w _ hw757_0)).trans hw757_0), ((HB.out.cell (World.block_lt_of_cell? w _ hw757_1)).trans hw757_1), ((HB.out.cell (World.block_lt_of_cell? w _ hw757_2)).trans hw757_2), ((HB.out.cell (World.block_lt_of_cell? w _ hw757_3)).trans hw757_3)⟩ (fun hHeld => ?_)
                 clear hK K
                 refine norm_ (a' := ?_) ?_ ?_
                 rotate_left
                 ·show Act.put _ (some 138) _ = _
                  simp only [Act.put, List.setIfInBounds_toArray, List.set_cons_zero, List.set_cons_succ, i64_w, i32_w]
                  rfl
                 refine pure_ (i := 36) (N := some 139) (v := ?_) (a' := ?_) #[true, true, true, true, true, true, true, true, true, true, true, true, true, true, true, true, true, true, true, true, true, true, true, true, true, true, true, true, true, true, true, true, true, true, true, true, true, false, false] rfl rfl (any_of HT_.out (by kernel_rfl)) (fun _ _ _ h => h) (Or.inl ⟨by rfl, ?_⟩) ?_ ?_
                 rotate_left
                 ·intro w'
                  go_simp
                  with_reducible rfl
                 rotate_left
                 ·simp only [Act.put, List.setIfInBounds_toArray, List.set_cons_zero, List.set_cons_succ, i64_w, i32_w]
                  rfl
                 refine pure_ (i := 37) (N := some 140) (v := ?_) (a' := ?_) #[true, true, true, true, true, true, true, true, true, true, true, true, true, true, true, true, true, true, true, true, true, true, true, true, true, true, true, true, true, true, true, true, true, true, true, true, true, true, false] rfl rfl (any_of HT_.out (by kernel_rfl)) (fun _ _ _ h => h) (Or.inl ⟨by rfl, ?_⟩) ?_ ?_
                 rotate_left
                 ·intro w'
                  go_simp
                  with_reducible rfl
                 rotate_left
                 ·simp only [Act.put, List.setIfInBounds_toArray, List.set_cons_zero, List.set_cons_succ, i64_w, i32_w]
                  rfl
                 refine pure_ (i := 38) (N := some 141) (v := ?_) (a' := ?_) #[true, true, true, true, true, true, true, true, true, true, true, true, true, true, true, true, true, true, true, true, true, true, true, true, true, true, true, true, true, true, true, true, true, true, true, true, true, true, true] rfl rfl (any_of HT_.out (by kernel_rfl)) (fun _ _ _ h => h) (Or.inl ⟨by rfl, ?_⟩) ?_ ?_
                 rotate_left
                 ·intro w'
                  go_simp
                  with_reducible rfl
                 rotate_left
                 ·simp only [Act.put, List.setIfInBounds_toArray, List.set_cons_zero, List.set_cons_succ, i64_w, i32_w]
                  rfl
                 refine done_ (done_of HT_.out (by kernel_rfl)) ?_
                 try go_wp2
                 go_roundg k3
                 case measure => have := HJ7.out; have := HJ25.out; have := HK3.out; omega
                 case rel => exact ⟨(wrap64 (x13_3 + 1)), (by first | rfl | (simp; done) | (simp [*]; done)), H', ⟨by have := HJ7.out; have := HJ25.out; have := HK3.out; omega⟩, ⟨by (with_reducible repeat (first | apply Kd.N_alloc | apply Kd.N_drewN | apply Kd.N_drew)); exact HO_749000.out⟩, ⟨by (with_reducible repeat (first | apply Kd.R_alloc | apply Kd.R_drewN | apply Kd.R_drew)); exact HO_749001.out⟩, ⟨by exact BK736.out⟩, ⟨by exact BK737.out⟩, ⟨by exact BK748.out⟩, ⟨by repeat (first | (with_reducible first | exact HB.out | apply below_alloc | apply pw_below_drewN | apply below_drew1 | refine below_set ?_ GE736.out | refine below_set ?_ GE737.out | refine below_set ?_ GE748.out) | exact HB.out)⟩⟩
                ·replace c99 := Bool.eq_false_iff.mpr c99
                 subst c99
                 have H1 : (some false) = some true := by rw [if_neg (show ¬ (false = true) by decide)] at H; exact H
                 clear H
                 have H := H1
                 clear H1
                 exact absurd H (by simp)
              ·rw [if_neg c92] at H
               have c92b0 : (((rd_T63 t741 x13_3).f0) == ((rd_T63 l0_0 x13_3).f0)) = false := beq_eq_false_iff_ne.mpr c92
               have c92b1 : (((rd_T63 t741 x13_3).f0) != ((rd_T63 l0_0 x13_3).f0)) = true := bne_iff_ne.mpr c92
               exact absurd H (by simp)
             ·rw [if_neg c91] at H
              exact absurd H (by simp)
            ·rw [if_neg c90] at H
             exact absurd H (by simp)
           ·rw [if_neg c89] at H
            have c89b0 : decide (x13_3 < (t741.length : Int)) = false := decide_eq_false c89
            clear c89
            have H' := Aside0.mk H
            clear H
            have hnb105 := NB748_736.out
            have hnc105 := NB736_748.out
            have hnb106 := NB748_737.out
            have hnc106 := NB737_748.out
            have hcz107_0 : wr.cell? ⟨gb748, 0, none⟩ = some (.slice Ao32 t741.length co32) := (blk_cell BK748.out 0).trans rfl
            have hcz107_1 : wr.cell? ⟨gb748, 1, none⟩ = some (.slice Ao36 t744.length co36) := (blk_cell BK748.out 1).trans rfl
            have hfz107_0 := blk_frozen BK748.out 0
            have hfz107_1 := blk_frozen BK748.out 1
            go_wp2
            go_loopg [14] k3 (fun kq v14 w' => ∃ (x14_4 : Int), v14 = .int .i64 x14_4 ∧ Aside0 (skiarealaw53_PatrolKeeps.l1 kq x14_4 l0_0 l0_1 t741 t744 = some true) ∧ Aside0 (kq ≤ k3) ∧ Aside0 (Kd.N k63 63 w' w.heap.size (fun k_ => some k_ ≠ ((.slice Ao36 t744.length co36) : Value).ownBlock ∧ k_ ≠ gb736 ∧ k_ ≠ gb737 ∧ k_ ≠ gb748) (.slice Ao32 t741.length co32) t741) ∧ Aside0 (Kd.R k56 56 w' w.heap.size (fun _ => True) (.slice Ao36 t744.length co36) t744) ∧ Aside0 (w'.heap[gb736]? = some (.cells #[(.slice A0_0 l0_0.length c0_0), (.slice A0_1 l0_1.length c0_1)] 48 (0, 0))) ∧ Aside0 (w'.heap[gb737]? = some (.cells #[.int .i64 a2_0, .int .i64 a2_1, .int .i64 a2_2] 35 (0, 0))) ∧ Aside0 (w'.heap[gb748]? = some (.cells #[(.slice Ao32 t741.length co32), (.slice Ao36 t744.length co36)] 48 (0, 0))) ∧ Aside0 (Below w.heap.size w w'))
            case atStart => exact ⟨(0), (by first | rfl | (simp; done) | (simp [*]; done)), H', ⟨Nat.le_refl _⟩, ⟨by (with_reducible repeat (first | apply Kd.N_alloc | apply Kd.N_drewN | apply Kd.N_drew)); exact HO_749000.out⟩, ⟨by (with_reducible repeat (first | apply Kd.R_alloc | apply Kd.R_drewN | apply Kd.R_drew)); exact HO_749001.out⟩, ⟨by exact BK736.out⟩, ⟨by exact BK737.out⟩, ⟨by exact BK748.out⟩, ⟨by repeat (first | (with_reducible first | exact HB.out | apply below_alloc | apply pw_below_drewN | apply below_drew1 | refine below_set ?_ GE736.out | refine below_set ?_ GE737.out | refine below_set ?_ GE748.out) | exact HB.out)⟩⟩
            case round =>
             clear H'
             try clear c1
             try clear c2
             try clear p2
             try clear p6
             try clear c7
             try clear p7
             try clear q7
             try clear hx7
             try clear c8
             try clear c9
             try clear c10
             try clear c23
             try clear p64
             try clear c75
             try clear p75
             try clear q75
             try clear hx75
             try clear c89
             try clear c89b0
             try clear c90
             try clear c91
             try clear c92
             try clear c92b0
             try clear c92b1
             try clear c99
             try clear c105
             try clear c106
             try clear hcz107_0
             try clear hcz107_1
             try clear hfz107_0
             try clear hfz107_1
             try clear hx753_0
             try clear hx753_1
             try clear hx753_2
             try clear hx753_3
             try clear hx754_0
             try clear hx754_1
             try clear hx754_2
             try clear hx754_3
             try clear hx755_0
             try clear hx755_1
             try clear hx755_2
             try clear hx755_3
             try clear hx756_0
             try clear hx756_1
             try clear hx756_2
             try clear hx756_3
             try clear hx757_0
             try clear hx757_1
             try clear hx757_2
             try clear hx757_3
             try clear p753
             try clear p754
             try clear p755
             try clear p756
             try clear p757
             try clear q753
             try clear q754
             try clear q755
             try clear q756
             try clear q757
             obtain ⟨x14_4, rfl, HA, HK4, HO_749000, HO_749001, BK736, BK737, BK748, HB⟩ := hrel
             cases gk with
             | zero => exact absurd HA.out (by simp [skiarealaw53_PatrolKeeps.l1])
             | succ k4 =>
              have H := HA.out
              clear HA
              simp only [skiarealaw53_PatrolKeeps.l1] at H
              by_cases c108 : x14_4 < (t744.length : Int)
              ·rw [if_pos c108] at H
               have c108b0 : decide (x14_4 < (t744.length : Int)) = true := decide_eq_true c108
               clear c108
               by_cases c109 : 0 ≤ x14_4
               ·rw [if_pos c109] at H
                have c109b0 : decide (0 ≤ x14_4) = true := decide_eq_true c109
                clear c109
                by_cases c110 : x14_4 < (l0_1.length : Int)
                ·rw [if_pos c110] at H
                 have c110b0 : decide (x14_4 < (l0_1.length : Int)) = true := decide_eq_true c110
                 clear c110
                 by_cases c111 : (!(((rd_T56 t744 x14_4).f0) == ((rd_T56 l0_1 x14_4).f0)) || (!(((rd_T56 t744 x14_4).f1) == ((rd_T56 l0_1 x14_4).f1)) || (!(((rd_T56 t744 x14_4).f2) == ((rd_T56 l0_1 x14_4).f2))))) = true
                 ·rw [if_pos c111] at H
                  have c111b0 : (!(((rd_T56 t744 x14_4).f0) == ((rd_T56 l0_1 x14_4).f0)) || (!(((rd_T56 t744 x14_4).f1) == ((rd_T56 l0_1 x14_4).f1)) || (!(((rd_T56 t744 x14_4).f2) == ((rd_T56 l0_1 x14_4).f2))))) = true := c111
                  clear c111
                  exact absurd H (by simp)
                 ·rw [if_neg c111] at H
                  have c111b0 : (!(((rd_T56 t744 x14_4).f0) == ((rd_T56 l0_1 x14_4).f0)) || (!(((rd_T56 t744 x14_4).f1) == ((rd_T56 l0_1 x14_4).f1)) || (!(((rd_T56 t744 x14_4).f2) == ((rd_T56 l0_1 x14_4).f2))))) = false := by simpa using c111
                  clear c111
                  have H' := Aside0.mk H
                  clear H
                  have hnb112 := NB748_736.out
                  have hnc112 := NB736_748.out
                  have hnb113 := NB748_737.out
                  have hnc113 := NB737_748.out
                  have hcz114_0 : wr.cell? ⟨gb748, 0, none⟩ = some (.slice Ao32 t741.length co32) := (blk_cell BK748.out 0).trans rfl
                  have hcz114_1 : wr.cell? ⟨gb748, 1, none⟩ = some (.slice Ao36 t744.length co36) := (blk_cell BK748.out 1).trans rfl
                  have hfz114_0 := blk_frozen BK748.out 0
                  have hfz114_1 := blk_frozen BK748.out 1
                  try go_wp2
                  have n0_ := Aside0.mk (Kd.N_drew HO_749000.out)
                  have n1_ := Aside0.mk (Kd.R_drew HO_749001.out)
                  have n2_ := Aside0.mk (blk_drew BK736.out)
                  have n3_ := Aside0.mk (blk_drew BK737.out)
                  have n4_ := Aside0.mk (blk_drew BK748.out)
                  have n5_ := Aside0.mk (below_drew1 HB.out)
                  clear HO_749000
                  clear HO_749001
                  clear BK736
                  clear BK737
                  clear BK748
                  clear HB
                  have HO_749000 := n0_
                  have HO_749001 := n1_
                  have BK736 := n2_
                  have BK737 := n3_
                  have BK748 := n4_
                  have HB := n5_
                  clear n0_ n1_ n2_ n3_ n4_ n5_
                  have p759 : 0 ≤ (x14_4 : Int) := of_decide_eq_true (by first | (with_reducible assumption) | assumption)
                  have q759 : x14_4 < (t744.length : Int) := of_decide_eq_true (by first | (with_reducible assumption) | assumption)
                  obtain ⟨ad759, e759, hx759_0, hx759_1, hx759_2⟩ := at_T56 (Kd.R_reads' HO_749001.out).2.2 x14_4 p759 q759
                  cases e759
                  replace p759 := eq_true p759
                  replace q759 := eq_true q759
                  have p760 : 0 ≤ (x14_4 : Int) := of_decide_eq_true (by first | (with_reducible assumption) | assumption)
                  have q760 : x14_4 < (l0_1.length : Int) := of_decide_eq_true (by first | (with_reducible assumption) | assumption)
                  obtain ⟨ad760, e760, hx760_0, hx760_1, hx760_2⟩ := at_T56 HR0_1.out x14_4 p760 q760
                  have hw760_2 := hx760_2
                  have hw760_1 := hx760_1
                  have hw760_0 := hx760_0
                  cases e760
                  replace hx760_0 := (HB.out.cell (World.block_lt_of_cell? w _ hx760_0)).trans hx760_0
                  replace hx760_1 := (HB.out.cell (World.block_lt_of_cell? w _ hx760_1)).trans hx760_1
                  replace hx760_2 := (HB.out.cell (World.block_lt_of_cell? w _ hx760_2)).trans hx760_2
                  replace p760 := eq_true p760
                  replace q760 := eq_true q760
                  refine start_ (n := 11) (S := fun w' => w'.cell? ⟨gb748, 0, none⟩ = some (.slice Ao32 t741.length co32) ∧ w'.cell? ⟨gb748, 1, none⟩ = some (.slice (some ad759) t744.length co36) ∧ w'.cell? ⟨gb736, 0, none⟩ = some (.slice A0_0 l0_0.length c0_0) ∧ w'.cell? ⟨gb736, 1, none⟩ = some (.slice (some ad760) l0_1.length c0_1) ∧ w'.cell? (ad759.add ((x14_4).toNat * 3)) = some (.int .i64 ((rd_T56 t744 x14_4).f0)) ∧ w'.cell? ⟨(ad759.add ((x14_4).toNat * 3)).block, (ad759.add ((x14_4).toNat * 3)).off + 1, none⟩ = some (.int .i64 ((rd_T56 t744 x14_4).f1)) ∧ w'.cell? ⟨(ad759.add ((x14_4).toNat * 3)).block, (ad759.add ((x14_4).toNat * 3)).off + 2, none⟩ = some (.int .i64 ((rd_T56 t744 x14_4).f2)) ∧ w'.cell? (ad760.add ((x14_4).toNat * 3)) = some (.int .i64 ((rd_T56 l0_1 x14_4).f0)) ∧ w'.cell? ⟨(ad760.add ((x14_4).toNat * 3)).block, (ad760.add ((x14_4).toNat * 3)).off + 1, none⟩ = some (.int .i64 ((rd_T56 l0_1 x14_4).f1)) ∧ w'.cell? ⟨(ad760.add ((x14_4).toNat * 3)).block, (ad760.add ((x14_4).toNat * 3)).off + 2, none⟩ = some (.int .i64 ((rd_T56 l0_1 x14_4).f2))) (ds := []) #[false, false, false, false, false, false, false, false, false, false, false] (by kernel_rfl) rfl rfl ⟨(blk_cell BK748.out 0).trans rfl, (blk_cell BK748.out 1).trans rfl, (blk_cell BK736.out 0).trans rfl, (blk_cell BK736.out 1).trans rfl, hx759_0, hx759_1, hx759_2, ((HB.out.cell (World.block_lt_of_cell? w _ hw760_0)).trans hw760_0), ((HB.out.cell (World.block_lt_of_cell? w _ hw760_1)).trans hw760_1), ((HB.out.cell (World.block_lt_of_cell? w _ hw760_2)).trans hw760_2)⟩ (fun hHeld => ?_); refine with_tabW skiarealaw53_PatrolKeeps.tab18 skiarealaw53_PatrolKeeps.bits18 (fun HT_ HW_ => ?_)
                  generalize wr.drew = w115 at HO_749000 HO_749001 BK736 BK737 BK748 HB hx759_0 hx759_1 hx759_2 hx760_0 hx760_1 hx760_2 hHeld ⊢
                  refine pure_ (i := 0) (N := some 149) (v := ?_) (a' := ?_) #[true, false, false, false, false, false, false, false, false, false, false] rfl rfl (any_of HT_.out (by kernel_rfl)) (fun _ _ _ h => h) (Or.inl ⟨by rfl, ?_⟩) ?_ ?_
                  rotate_left
                  ·intro w'
                   go_simp
                   with_reducible rfl
                  rotate_left
                  ·simp only [Act.put, List.setIfInBounds_toArray, List.set_cons_zero, List.set_cons_succ, i64_w, i32_w]
                   rfl
                  refine pure_ (i := 2) (N := some 151) (v := ?_) (a' := ?_) #[true, false, true, false, false, false, false, false, false, false, false] rfl rfl (any_of HT_.out (by kernel_rfl)) (fun _ _ _ h => h) (Or.inl ⟨by rfl, ?_⟩) ?_ ?_
                  rotate_left
                  ·intro w'
                   go_simp
                   with_reducible rfl
                  rotate_left
                  ·simp only [Act.put, List.setIfInBounds_toArray, List.set_cons_zero, List.set_cons_succ, i64_w, i32_w]
                   rfl
                  refine pure_ (i := 5) (N := some 154) (v := ?_) (a' := ?_) #[true, false, true, false, false, true, false, false, false, false, false] rfl rfl (any_of HT_.out (by kernel_rfl)) (fun _ _ _ h => h) (Or.inl ⟨by rfl, ?_⟩) ?_ ?_
                  rotate_left
                  ·intro w'
                   go_simp
                   with_reducible rfl
                  rotate_left
                  ·simp only [Act.put, List.setIfInBounds_toArray, List.set_cons_zero, List.set_cons_succ, i64_w, i32_w]
                   rfl
                  refine pure_ (i := 7) (N := some 156) (v := ?_) (a' := ?_) #[true, false, true, false, false, true, false, true, false, false, false] rfl rfl (any_of HT_.out (by kernel_rfl)) (fun _ _ _ h => h) (Or.inl ⟨by rfl, ?_⟩) ?_ ?_
                  rotate_left
                  ·intro w'
                   go_simp
                   with_reducible rfl
                  rotate_left
                  ·simp only [Act.put, List.setIfInBounds_toArray, List.set_cons_zero, List.set_cons_succ, i64_w, i32_w]
                   rfl
                  refine take_ (i := 1) (N := some 150) (v := ?_) (a' := ?_) #[true, true, true, false, false, true, false, true, false, false, false] rfl rfl (take_ofW HT_.out HW_.out (by kernel_rfl)) (fun _ _ _ h => h) (Or.inl ⟨by rfl, ?_⟩) hHeld ?_ ?_
                  rotate_left
                  ·rintro w' ⟨s0, s1, s2, s3, s4, s5, s6, s7, s8, s9⟩
                   go_simp
                   with_reducible rfl
                  rotate_left
                  ·simp only [Act.put, List.setIfInBounds_toArray, List.set_cons_zero, List.set_cons_succ, i64_w, i32_w]
                   rfl
                  refine pure_ (i := 3) (N := some 152) (v := ?_) (a' := ?_) #[true, true, true, true, false, true, false, true, false, false, false] rfl rfl (any_of HT_.out (by kernel_rfl)) (fun _ _ _ h => h) (Or.inl ⟨by rfl, ?_⟩) ?_ ?_
                  rotate_left
                  ·intro w'
                   go_simp
                   with_reducible rfl
                  rotate_left
                  ·simp only [Act.put, List.setIfInBounds_toArray, List.set_cons_zero, List.set_cons_succ, i64_w, i32_w]
                   rfl
                  refine take_ (i := 4) (N := some 153) (v := ?_) (a' := ?_) #[true, true, true, true, true, true, false, true, false, false, false] rfl rfl (take_ofW HT_.out HW_.out (by kernel_rfl)) (fun _ _ _ h => h) (Or.inl ⟨by rfl, ?_⟩) hHeld ?_ ?_
                  rotate_left
                  ·rintro w' ⟨s0, s1, s2, s3, s4, s5, s6, s7, s8, s9⟩
                   go_simp
                   with_reducible rfl
                  rotate_left
                  ·simp only [Act.put, List.setIfInBounds_toArray, List.set_cons_zero, List.set_cons_succ, i64_w, i32_w]
                   rfl
                  refine take_ (i := 6) (N := some 155) (v := ?_) (a' := ?_) #[true, true, true, true, true, true, true, true, false, false, false] rfl rfl (take_ofW HT_.out HW_.out (by kernel_rfl)) (fun _ _ _ h => h) (Or.inl ⟨by rfl, ?_⟩) hHeld ?_ ?_
                  rotate_left
                  ·rintro w' ⟨s0, s1, s2, s3, s4, s5, s6, s7, s8, s9⟩
                   go_simp
                   with_reducible rfl
                  rotate_left
                  ·simp only [Act.put, List.setIfInBounds_toArray, List.set_cons_zero, List.set_cons_succ, i64_w, i32_w]
                   rfl
                  refine pure_ (i := 8) (N := some 157) (v := ?_) (a' := ?_) #[true, true, true, true, true, true, true, true, true, false, false] rfl rfl (any_of HT_.out (by kernel_rfl)) (fun _ _ _ h => h) (Or.inl ⟨by rfl, ?_⟩) ?_ ?_
                  rotate_left
                  ·intro w'
                   go_simp
                   with_reducible rfl
                  rotate_left
                  ·simp only [Act.put, List.setIfInBounds_toArray, List.set_cons_zero, List.set_cons_succ, i64_w, i32_w]
                   rfl
                  refine take_ (i := 9) (N := some 158) (v := ?_) (a' := ?_) #[true, true, true, true, true, true, true, true, true, true, false] rfl rfl (take_ofW HT_.out HW_.out (by kernel_rfl)) (fun _ _ _ h => h) (Or.inl ⟨by rfl, ?_⟩) hHeld ?_ ?_
                  rotate_left
                  ·rintro w' ⟨s0, s1, s2, s3, s4, s5, s6, s7, s8, s9⟩
                   go_simp
                   with_reducible rfl
                  rotate_left
                  ·simp only [Act.put, List.setIfInBounds_toArray, List.set_cons_zero, List.set_cons_succ, i64_w, i32_w]
                   rfl
                  refine pure_ (i := 10) (N := some 159) (v := ?_) (a' := ?_) #[true, true, true, true, true, true, true, true, true, true, true] rfl rfl (any_of HT_.out (by kernel_rfl)) (fun _ _ _ h => h) (Or.inl ⟨by rfl, ?_⟩) ?_ ?_
                  rotate_left
                  ·intro w'
                   go_simp
                   with_reducible rfl
                  rotate_left
                  ·simp only [Act.put, List.setIfInBounds_toArray, List.set_cons_zero, List.set_cons_succ, i64_w, i32_w]
                   rfl
                  refine done_ (done_of HT_.out (by kernel_rfl)) ?_
                  try go_wp2
                  go_roundg k4
                  case measure => have := HJ7.out; have := HJ25.out; have := HK3.out; have := HK4.out; omega
                  case rel => exact ⟨(wrap64 (x14_4 + 1)), (by first | rfl | (simp; done) | (simp [*]; done)), H', ⟨by have := HJ7.out; have := HJ25.out; have := HK3.out; have := HK4.out; omega⟩, ⟨by (with_reducible repeat (first | apply Kd.N_alloc | apply Kd.N_drewN | apply Kd.N_drew)); exact HO_749000.out⟩, ⟨by (with_reducible repeat (first | apply Kd.R_alloc | apply Kd.R_drewN | apply Kd.R_drew)); exact HO_749001.out⟩, ⟨by exact BK736.out⟩, ⟨by exact BK737.out⟩, ⟨by exact BK748.out⟩, ⟨by repeat (first | (with_reducible first | exact HB.out | apply below_alloc | apply pw_below_drewN | apply below_drew1 | refine below_set ?_ GE736.out | refine below_set ?_ GE737.out | refine below_set ?_ GE748.out) | exact HB.out)⟩⟩
                ·rw [if_neg c110] at H
                 exact absurd H (by simp)
               ·rw [if_neg c109] at H
                exact absurd H (by simp)
              ·rw [if_neg c108] at H
               have c108b0 : decide (x14_4 < (t744.length : Int)) = false := decide_eq_false c108
               clear c108
               clear H
               have hnb116 := NB748_736.out
               have hnc116 := NB736_748.out
               have hnb117 := NB748_737.out
               have hnc117 := NB737_748.out
               have hcz118_0 : wr.cell? ⟨gb748, 0, none⟩ = some (.slice Ao32 t741.length co32) := (blk_cell BK748.out 0).trans rfl
               have hcz118_1 : wr.cell? ⟨gb748, 1, none⟩ = some (.slice Ao36 t744.length co36) := (blk_cell BK748.out 1).trans rfl
               have hfz118_0 := blk_frozen BK748.out 0
               have hfz118_1 := blk_frozen BK748.out 1
               go_wp2
               go_ret
               exact ⟨by first | rfl | (rw [HTR.out]; rfl) | (exact congrArg (fun b => Ending.returned (Value.bool b)) HTR.out) | (simpa using HTR.out) | (simp [errW_none, errW_some] <;> rfl) | (simp [*, errW_none, errW_some] <;> rfl), by repeat (first | (with_reducible first | exact HB.out | apply below_alloc | apply pw_below_drewN | apply below_drew1 | refine below_set ?_ GE736.out | refine below_set ?_ GE737.out | refine below_set ?_ GE748.out) | exact HB.out)⟩
     ·rw [if_neg c25] at H
      have c25b0 : (t747 == 0) = false := beq_eq_false_iff_ne.mpr c25
      have c25b1 : (t747 != 0) = true := bne_iff_ne.mpr c25
      by_cases c119 : (t741.length : Int) = 0
      ·rw [if_pos c119] at H
       have c119b0 : ((t741.length : Int) == 0) = true := beq_iff_eq.mpr c119
       have c119b1 : ((t741.length : Int) != 0) = false := bne_eq_false_iff_eq.mpr c119
       clear c119
       have HTR := Aside0.mk (Option.some.inj H)
       clear H
       have hnb120 := NB736_737.out
       have hnc120 := NB737_736.out
       have hcz121_0 : wc.cell? ⟨gb736, 0, none⟩ = some (.slice A0_0 l0_0.length c0_0) := (blk_cell BK736.out 0).trans rfl
       have hcz121_1 : wc.cell? ⟨gb736, 1, none⟩ = some (.slice A0_1 l0_1.length c0_1) := (blk_cell BK736.out 1).trans rfl
       have hfz121_0 := blk_frozen BK736.out 0
       have hfz121_1 := blk_frozen BK736.out 1
       have hcz122_0 : wc.cell? ⟨gb737, 0, none⟩ = some (.int .i64 a2_0) := (blk_cell BK737.out 0).trans rfl
       have hcz122_1 : wc.cell? ⟨gb737, 1, none⟩ = some (.int .i64 a2_1) := (blk_cell BK737.out 1).trans rfl
       have hcz122_2 : wc.cell? ⟨gb737, 2, none⟩ = some (.int .i64 a2_2) := (blk_cell BK737.out 2).trans rfl
       have hfz122_0 := blk_frozen BK737.out 0
       have hfz122_1 := blk_frozen BK737.out 1
       have hfz122_2 := blk_frozen BK737.out 2
       go_wp2_with (first | ((with_reducible refine gate_callee (f := 39) rfl ?_); refine goesL_ (some 34) rfl rfl Try.func39 (by kernel_rfl) rfl #[.agg #[.slice A0_0 l0_0.length c0_0, .slice A0_1 l0_1.length c0_1], .int .i64 a1, .int .i64 a2_0, .int .i64 a2_1, .int .i64 a2_2] rfl (by (try simp only [List.map_toArray, List.map_cons, List.map_nil]); first | done | rfl | (simp only [List.length_drop, List.length_take]; rfl)) ?_; (with_reducible refine (patrol_Sign.calls kj7 _ _ l0_0 _ _ l0_1 a1 a2_0 a2_1 a2_2 t741 t744 t747 _ ?side1 ?side2 ?side3 ?side4 A24.out).mono ?_); (case side1 => repeat (first | exact (Kd.C_below HR0_0.out HB.out) | (with_reducible refine Kd.C_alloc ?_ _) | (with_reducible refine Kd.C_drewN ?_ _) | (with_reducible refine Kd.C_drew ?_))); (case side2 => exact HC0_0.out); (case side3 => repeat (first | exact (Kd.C_below HR0_1.out HB.out) | (with_reducible refine Kd.C_alloc ?_ _) | (with_reducible refine Kd.C_drewN ?_ _) | (with_reducible refine Kd.C_drew ?_))); (case side4 => exact HC0_1.out); rintro e w123 ⟨v742, v745, rfl, ho0, ho1, hb⟩; refine ⟨_, rfl, ?_⟩; have n0_ := Aside0.mk (Kd.N_lower (Kd.N_mono (ok' := fun k_ => some k_ ≠ (v745 : Value).ownBlock ∧ k_ ≠ gb736 ∧ k_ ≠ gb737) ho0 (fun k_ hk_ => ⟨hk_.2, (Kd.freshB BK736.out k_ hk_.1), (Kd.freshB BK737.out k_ hk_.1)⟩)) (below_size bel_)); have n1_ := Aside0.mk (Kd.R_lower (Kd.R_mono (ok' := fun k_ => True) ho1 (fun _ hk_ => trivial)) (below_size bel_)); have n2_ := Aside0.mk (blk_below BK736.out hb); have n3_ := Aside0.mk (blk_below BK737.out hb); have n4_ := Aside0.mk (below_step bel_ hb); clear BK736; clear BK737; clear HB; have HO743 := n0_; have HO746 := n1_; have BK736 := n2_; have BK737 := n3_; have HB := n4_; clear n0_ n1_ n2_ n3_ n4_; (try clear hb); (try clear hb2); (try clear hk); (try clear hi); (try clear ho0); (try clear ho1)) | ((with_reducible refine gate_dst (N := 11) rfl ?_); (try (refine gate_guard (by rfl) ?_; dsimp only)); refine box_event ?hg (N := 11) ?hd (cs := #[.slice none 0 0, .slice none 0 0]) (t := 48) ?hr ?_; (case hd => rfl); (case hg => rfl); (case hr => first | (go_simp; done) | (go_simp; rfl)); intro gb748 hg w124 hbox hb; have n0_ := Aside0.mk (Kd.N_below (Kd.N_elderB HO743.out gb748 (Nat.le_of_eq hg.symm)) hb); have n1_ := Aside0.mk (Kd.R_below HO746.out hb); have n2_ := Aside0.mk (blk_below BK736.out hb); have n3_ := Aside0.mk (blk_below BK737.out hb); have n4_ := Aside0.mk (below_step bel_ hb); have n5_ := Aside0.mk (hbox); have n6_ := Aside0.mk ((by rw [hg]; exact (below_size bel_) : w.heap.size ≤ gb748)); have n7_ := Aside0.mk ((by rw [hg]; exact (below_size bel_) : w.heap.size ≤ gb748)); have n8_ := Aside0.mk ((by rw [hg]; exact Nat.ne_of_lt (blk_lt BK736.out) : gb736 ≠ gb748)); have n9_ := Aside0.mk ((by rw [hg]; exact Nat.ne_of_gt (blk_lt BK736.out) : gb748 ≠ gb736)); have n10_ := Aside0.mk ((by rw [hg]; exact Nat.ne_of_lt (blk_lt BK737.out) : gb737 ≠ gb748)); have n11_ := Aside0.mk ((by rw [hg]; exact Nat.ne_of_gt (blk_lt BK737.out) : gb748 ≠ gb737)); clear HO743; clear HO746; clear BK736; clear BK737; clear HB; have HO743 := n0_; have HO746 := n1_; have BK736 := n2_; have BK737 := n3_; have HB := n4_; have BK748 := n5_; have GW748 := n6_; have GE748 := n7_; have NB736_748 := n8_; have NB748_736 := n9_; have NB737_748 := n10_; have NB748_737 := n11_; clear n0_ n1_ n2_ n3_ n4_ n5_ n6_ n7_ n8_ n9_ n10_ n11_; clear hb hbox hg; obtain ⟨Ao125, co125, eo125⟩ := Kd.N_slice HO743.out; subst eo125; have hnb126 := NB748_736.out; have hnc126 := NB736_748.out; have hnb127 := NB748_737.out; have hnc127 := NB737_748.out; have hcz128_0 : w124.cell? ⟨gb748, 0, none⟩ = some (.slice none 0 0) := (blk_cell BK748.out 0).trans rfl; have hcz128_1 : w124.cell? ⟨gb748, 1, none⟩ = some (.slice none 0 0) := (blk_cell BK748.out 1).trans rfl; have hfz128_0 := blk_frozen BK748.out 0; have hfz128_1 := blk_frozen BK748.out 1; obtain ⟨Ao129, co129, eo129⟩ := Kd.R_slice HO746.out; subst eo129))
       go_ret
       exact ⟨by first | rfl | (rw [HTR.out]; rfl) | (exact congrArg (fun b => Ending.returned (Value.bool b)) HTR.out) | (simpa using HTR.out) | (simp [errW_none, errW_some] <;> rfl) | (simp [*, errW_none, errW_some] <;> rfl), by repeat (first | (with_reducible first | exact HB.out | apply below_alloc | apply pw_below_drewN | apply below_drew1 | refine below_set ?_ GE736.out | refine below_set ?_ GE737.out | refine below_set ?_ GE748.out) | exact HB.out)⟩
      ·rw [if_neg c119] at H
       have c119b0 : ((t741.length : Int) == 0) = false := beq_eq_false_iff_ne.mpr c119
       have c119b1 : ((t741.length : Int) != 0) = true := bne_iff_ne.mpr c119
       have c119b2 : ¬ (t741 = []) := fun h_ => c119 (by rw [h_]; rfl)
       exact absurd H (by simp)
 ·replace c7 := Bool.eq_false_iff.mpr c7
  subst c7
  have H1 : (some false) = some true := by rw [if_neg (show ¬ (false = true) by decide)] at H; exact H
  clear H
  have H := H1
  clear H1
  exact absurd H (by simp)

end Go.Proofs.Ytmhggplhfcmgkaa.Q
