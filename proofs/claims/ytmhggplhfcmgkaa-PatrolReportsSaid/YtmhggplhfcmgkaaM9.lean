/- Walks and plain laws that this claim bears (this session's). -/
import Derived.Test.YtmhggplhfcmgkaaM8
namespace Go.Proofs.Ytmhggplhfcmgkaa.Q
open Go.RowKit Go.Proofs.YtmhggplhfcmgkaaW.PrintWords Go.Proofs.YtmhggplhfcmgkaaW.PrintLast Go.Proofs.YtmhggplhfcmgkaaW.PrintMore
attribute [local go_sem] max2_int min2_int max_two min_two max_three min_three max_four min_four   -- for this text's walks alone
set_option linter.unusedVariables false
set_option linter.unusedSimpArgs false
attribute [local go_sem high] eqA56
mutual
def skiarearef53_Same.j0 : Nat → Bool → List (S63) → List (S56) → List (S63) → List (S56) → Option (Bool)
 | 0, _, _, _, _, _ => none
 | k + 1, x22, x587000, x587001, x588000, x588001 => if x22 = true then (some false) else (skiarearef53_Same.l0 k 0 x587000 x587001 x588000 x588001)
def skiarearef53_Same.l0 : Nat → Int → List (S63) → List (S56) → List (S63) → List (S56) → Option (Bool)
 | 0, _, _, _, _, _ => none
 | k + 1, x5, x587000, x587001, x588000, x588001 => if x5 < (x587000.length : Int) then (if 0 ≤ x5 then (if x5 < (x588000.length : Int) then (if ((rd_T63 x587000 x5).f0) = ((rd_T63 x588000 x5).f0) then ((skiarearef19_Same.f k ((rd_T63 x587000 x5).f1.f0) ((rd_T63 x587000 x5).f1.f1) ((rd_T63 x587000 x5).f1.f2) ((rd_T63 x588000 x5).f1.f0) ((rd_T63 x588000 x5).f1.f1) ((rd_T63 x588000 x5).f1.f2)).bind fun t592 => (if t592 = true then (skiarearef53_Same.l0 k (wrap64 (x5 + 1)) x587000 x587001 x588000 x588001) else (some false))) else (some false)) else (none)) else (none)) else (skiarearef53_Same.l1 k 0 x587000 x587001 x588000 x588001)
def skiarearef53_Same.l1 : Nat → Int → List (S63) → List (S56) → List (S63) → List (S56) → Option (Bool)
 | 0, _, _, _, _, _ => none
 | k + 1, x6, x587000, x587001, x588000, x588001 => if x6 < (x587001.length : Int) then (if 0 ≤ x6 then (if x6 < (x588001.length : Int) then (if (!(((rd_T56 x587001 x6).f0) == ((rd_T56 x588001 x6).f0)) || (!(((rd_T56 x587001 x6).f1) == ((rd_T56 x588001 x6).f1)) || (!(((rd_T56 x587001 x6).f2) == ((rd_T56 x588001 x6).f2))))) = true then (some false) else (skiarearef53_Same.l1 k (wrap64 (x6 + 1)) x587000 x587001 x588000 x588001)) else (none)) else (none)) else (some true)
end
def skiarearef53_Same.f (k : Nat) (l0_0 : List (S63)) (l0_1 : List (S56)) (l1_0 : List (S63)) (l1_1 : List (S56)) : Option (Bool) := if (l0_0.length : Int) = (l1_0.length : Int) then (skiarearef53_Same.j0 k ((l0_1.length : Int) != (l1_1.length : Int)) l0_0 l0_1 l1_0 l1_1) else (skiarearef53_Same.j0 k true l0_0 l0_1 l1_0 l1_1)
theorem skiarearef53_Same.mono_l : ∀ k, (∀ y0 y1 y2 y3 y4, LeO (skiarearef53_Same.j0 k y0 y1 y2 y3 y4) (skiarearef53_Same.j0 (k + 1) y0 y1 y2 y3 y4)) ∧ (∀ y0 y1 y2 y3 y4, LeO (skiarearef53_Same.l0 k y0 y1 y2 y3 y4) (skiarearef53_Same.l0 (k + 1) y0 y1 y2 y3 y4)) ∧ (∀ y0 y1 y2 y3 y4, LeO (skiarearef53_Same.l1 k y0 y1 y2 y3 y4) (skiarearef53_Same.l1 (k + 1) y0 y1 y2 y3 y4))
 | 0 => ⟨fun _ _ _ _ _ r h => by simp [skiarearef53_Same.j0] at h, fun _ _ _ _ _ r h => by simp [skiarearef53_Same.l0] at h, fun _ _ _ _ _ r h => by simp [skiarearef53_Same.l1] at h⟩
 | k + 1 => by
  obtain ⟨ih0, ih1, ih2⟩ := skiarearef53_Same.mono_l k
  refine ⟨?_, ?_, ?_⟩
  ·intro y0 y1 y2 y3 y4
   unfold skiarearef53_Same.j0
   repeat' first
   | (with_reducible exact ih0 _ _ _ _ _)
   | (with_reducible exact ih1 _ _ _ _ _)
   | (with_reducible exact ih2 _ _ _ _ _)
   | (with_reducible exact skiarearef19_Same.mono _ _ _ _ _ _ _)
   | (with_reducible exact LeO.refl _)
   | (with_reducible exact LeO.none _)
   | (with_reducible refine LeO.ite ?_ ?_)
   | (with_reducible refine LeO.bind ?_ (fun _ => ?_))
   | exact ih0 _ _ _ _ _
   | exact ih1 _ _ _ _ _
   | exact ih2 _ _ _ _ _
   | exact skiarearef19_Same.mono _ _ _ _ _ _ _
   | exact LeO.none _
   | refine LeO.ite ?_ ?_
   | refine LeO.bind ?_ (fun _ => ?_)
  ·intro y0 y1 y2 y3 y4
   unfold skiarearef53_Same.l0
   repeat' first
   | (with_reducible exact ih0 _ _ _ _ _)
   | (with_reducible exact ih1 _ _ _ _ _)
   | (with_reducible exact ih2 _ _ _ _ _)
   | (with_reducible exact skiarearef19_Same.mono _ _ _ _ _ _ _)
   | (with_reducible exact LeO.refl _)
   | (with_reducible exact LeO.none _)
   | (with_reducible refine LeO.ite ?_ ?_)
   | (with_reducible refine LeO.bind ?_ (fun _ => ?_))
   | exact ih0 _ _ _ _ _
   | exact ih1 _ _ _ _ _
   | exact ih2 _ _ _ _ _
   | exact skiarearef19_Same.mono _ _ _ _ _ _ _
   | exact LeO.none _
   | refine LeO.ite ?_ ?_
   | refine LeO.bind ?_ (fun _ => ?_)
  ·intro y0 y1 y2 y3 y4
   unfold skiarearef53_Same.l1
   repeat' first
   | (with_reducible exact ih0 _ _ _ _ _)
   | (with_reducible exact ih1 _ _ _ _ _)
   | (with_reducible exact ih2 _ _ _ _ _)
   | (with_reducible exact skiarearef19_Same.mono _ _ _ _ _ _ _)
   | (with_reducible exact LeO.refl _)
   | (with_reducible exact LeO.none _)
   | (with_reducible refine LeO.ite ?_ ?_)
   | (with_reducible refine LeO.bind ?_ (fun _ => ?_))
   | exact ih0 _ _ _ _ _
   | exact ih1 _ _ _ _ _
   | exact ih2 _ _ _ _ _
   | exact skiarearef19_Same.mono _ _ _ _ _ _ _
   | exact LeO.none _
   | refine LeO.ite ?_ ?_
   | refine LeO.bind ?_ (fun _ => ?_)
theorem skiarearef53_Same.mono : ∀ a0 a1 a2 a3 k, LeO (skiarearef53_Same.f k a0 a1 a2 a3) (skiarearef53_Same.f (k + 1) a0 a1 a2 a3) := by
 intro a0 a1 a2 a3 k
 obtain ⟨ih0, ih1, ih2⟩ := skiarearef53_Same.mono_l k
 unfold skiarearef53_Same.f
 repeat' first
   | (with_reducible exact ih0 _ _ _ _ _)
   | (with_reducible exact ih1 _ _ _ _ _)
   | (with_reducible exact ih2 _ _ _ _ _)
   | (with_reducible exact skiarearef19_Same.mono _ _ _ _ _ _ _)
   | (with_reducible exact LeO.refl _)
   | (with_reducible exact LeO.none _)
   | (with_reducible refine LeO.ite ?_ ?_)
   | (with_reducible refine LeO.bind ?_ (fun _ => ?_))
   | exact ih0 _ _ _ _ _
   | exact ih1 _ _ _ _ _
   | exact ih2 _ _ _ _ _
   | exact skiarearef19_Same.mono _ _ _ _ _ _ _
   | exact LeO.none _
   | refine LeO.ite ?_ ?_
   | refine LeO.bind ?_ (fun _ => ?_)
def skiarearef53_Same.T6 : Bool × List (List Nat × List Nat) := (true, [([], []), ([0], [0]), ([], []), ([1, 2], [1, 2]), ([3], [3]), ([4], [4]), ([], []), ([6], [6]), ([], []), ([7, 8], [7, 8]), ([9], [9]), ([10], [10]), ([5, 11], [5, 11]), ([12], [12]), ([13], [13]), ([14, 13], [13, 14]), ([13], [13]), ([15, 16, 13], [13, 15, 16]), ([17, 13], [13, 17]), ([18, 13], [13, 18]), ([13], [13]), ([20, 13], [13, 20]), ([13], [13]), ([21, 22, 13], [13, 21, 22]), ([23, 13], [13, 23]), ([24, 13], [13, 24]), ([19, 25, 13, 13], [13, 19, 25]), ([26, 13], [13, 26]), ([13, 27], [13, 27])])
def skiarearef53_Same.B6 : List Nat := [0, 1, 0, 7, 15, 31, 0, 64, 0, 448, 960, 1984, 4095, 8191, 16383, 32767, 16383, 131071, 262143, 524287, 16383, 1064959, 16383, 7356415, 15745023, 32522239, 67108863, 134217727, 268435455]
theorem skiarearef53_Same.tab6 : rtab .any (opsOf Try.f41 6) = skiarearef53_Same.T6 := by kernel_rfl
theorem skiarearef53_Same.bits6 : waitsOk skiarearef53_Same.T6.2 skiarearef53_Same.B6 = true := by kernel_rfl
def skiarearef53_Same.T11 : Bool × List (List Nat × List Nat) := (true, [([], []), ([0], [0]), ([], []), ([1, 2], [1, 2]), ([3], [3]), ([], []), ([5], [5]), ([], []), ([6, 7], [6, 7]), ([8], [8]), ([4, 9], [4, 9])])
def skiarearef53_Same.B11 : List Nat := [0, 1, 0, 7, 15, 0, 32, 0, 224, 480, 1023]
theorem skiarearef53_Same.tab11 : rtab .any (opsOf Try.f41 11) = skiarearef53_Same.T11 := by kernel_rfl
theorem skiarearef53_Same.bits11 : waitsOk skiarearef53_Same.T11.2 skiarearef53_Same.B11 = true := by kernel_rfl
set_option maxHeartbeats 8000000 in
set_option maxRecDepth 100000 in
theorem skiarearef53_Same.calls (k : Nat) (A0_0 : Option Addr) (c0_0 : Nat) (l0_0 : List (S63)) (A0_1 : Option Addr) (c0_1 : Nat) (l0_1 : List (S56)) (A1_0 : Option Addr) (c1_0 : Nat) (l1_0 : List (S63)) (A1_1 : Option Addr) (c1_1 : Nat) (l1_1 : List (S56)) (r : Bool) (w : World) (hr0_0 : Kd.C k63 w A0_0 l0_0.length l0_0) (hc0_0 : l0_0.length ≤ c0_0) (hr0_1 : Kd.C k56 w A0_1 l0_1.length l0_1) (hc0_1 : l0_1.length ≤ c0_1) (hr1_0 : Kd.C k63 w A1_0 l1_0.length l1_0) (hc1_0 : l1_0.length ≤ c1_0) (hr1_1 : Kd.C k56 w A1_1 l1_1.length l1_1) (hc1_1 : l1_1.length ≤ c1_1) (h : skiarearef53_Same.f k l0_0 l0_1 l1_0 l1_1 = some r) :
  Calls Try.prog 41 #[.agg #[.slice A0_0 l0_0.length c0_0, .slice A0_1 l0_1.length c0_1], .agg #[.slice A1_0 l1_0.length c1_0, .slice A1_1 l1_1.length c1_1]] w fun e w' => e = .returned (.bool r) ∧ Below w.heap.size w w' := by
 have hu48 := Try.underlying48
 have hu25 := Try.underlying25
 have hu56 := Try.underlying56
 have HR0_0 := a_ hr0_0
 have HC0_0 := a_ hc0_0
 clear hr0_0 hc0_0
 have HR0_1 := a_ hr0_1
 have HC0_1 := a_ hc0_1
 clear hr0_1 hc0_1
 have HR1_0 := a_ hr1_0
 have HC1_0 := a_ hc1_0
 clear hr1_0 hc1_0
 have HR1_1 := a_ hr1_1
 have HC1_1 := a_ hc1_1
 clear hr1_1 hc1_1
 have HB := a_ (Below.refl w.heap.size w)
 have H : (if (l0_0.length : Int) = (l1_0.length : Int) then (skiarearef53_Same.j0 k ((l0_1.length : Int) != (l1_1.length : Int)) l0_0 l0_1 l1_0 l1_1) else (skiarearef53_Same.j0 k true l0_0 l0_1 l1_0 l1_1)) = some r := h
 clear h
 have HC3 := a_ H
 clear H
 go_enter Try.func41, Try.ntmps41
 go_upto_region 1 with (first | ((with_reducible refine gate_dst (N := 2) rfl ?_); (try (refine gate_guard (by rfl) ?_; dsimp only)); refine box_event ?hg (N := 2) ?hd (cs := #[.slice A0_0 l0_0.length c0_0, .slice A0_1 l0_1.length c0_1]) (t := 48) ?hr ?_; (case hd => rfl); (case hg => rfl); (case hr => first | (go_simp; done) | (go_simp; rfl)); intro gb586 hg w4 hbox hb; have n0_ := a_ (below_step bel_ hb); have n1_ := a_ (hbox); have n2_ := a_ (bz_ hg : w.heap.size ≤ gb586); have n3_ := a_ (bz_ hg : w.heap.size ≤ gb586); clear HB; have HB := n0_; have BK586 := n1_; have GW586 := n2_; have GE586 := n3_; clear n0_ n1_ n2_ n3_; clear hb hbox hg) | ((with_reducible refine gate_dst (N := 3) rfl ?_); (try (refine gate_guard (by rfl) ?_; dsimp only)); refine box_event ?hg (N := 3) ?hd (cs := #[.slice A1_0 l1_0.length c1_0, .slice A1_1 l1_1.length c1_1]) (t := 48) ?hr ?_; (case hd => rfl); (case hg => rfl); (case hr => first | (go_simp; done) | (go_simp; rfl)); intro gb587 hg w5 hbox hb; have n0_ := a_ (blk_below (bk_ BK586.out) hb); have n1_ := a_ (below_step bel_ hb); have n2_ := a_ (hbox); have n3_ := a_ (bz_ hg : w.heap.size ≤ gb587); have n4_ := a_ (bz_ hg : w.heap.size ≤ gb587); have n5_ := a_ (nl_ hg (bk_ BK586.out)); have n6_ := a_ (ng_ hg (bk_ BK586.out)); clear BK586; clear HB; have BK586 := n0_; have HB := n1_; have BK587 := n2_; have GW587 := n3_; have GE587 := n4_; have NB586_587 := n5_; have NB587_586 := n6_; clear n0_ n1_ n2_ n3_ n4_ n5_ n6_; clear hb hbox hg))
 (try simp only [Act.put, List.setIfInBounds_toArray, List.set_cons_zero, List.set_cons_succ])
 go_cut [22] (fun v22 wc => ∃ (kq : Nat) (x22_2 : Bool), v22 = .bool x22_2 ∧ Aside0 (skiarearef53_Same.j0 kq x22_2 l0_0 l0_1 l1_0 l1_1 = some r) ∧ Aside0 (kq ≤ k) ∧ Aside0 (wc.heap[gb586]? = some (.cells #[(.slice A0_0 l0_0.length c0_0), (.slice A0_1 l0_1.length c0_1)] 48 (0, 0))) ∧ Aside0 (wc.heap[gb587]? = some (.cells #[(.slice A1_0 l1_0.length c1_0), (.slice A1_1 l1_1.length c1_1)] 48 (0, 0))) ∧ Aside0 (Below w.heap.size w wc))
 case first =>
  have H := HC3.out
  clear HC3
  by_cases c6 : (l0_0.length : Int) = (l1_0.length : Int)
  ·rw [if_pos c6] at H
   have c6b0 : ((l0_0.length : Int) == (l1_0.length : Int)) = true := beq_iff_eq.mpr c6
   have c6b1 : ((l0_0.length : Int) != (l1_0.length : Int)) = false := bne_eq_false_iff_eq.mpr c6
   have c6b2 : (l0_0.length == l1_0.length) = true := by first | simpa using c6 | (simp at c6 ⊢; omega)
   clear c6
   (first | rw [c6b0] | (simp only [i64_w, i32_w]; rw [c6b0]) | skip)
   have H' := a_ H
   clear H
   have hnb7 := NB586_587.out
   have hnc7 := NB587_586.out
   have hcz8_0 := cz_ BK586 0
   have hcz8_1 := cz_ BK586 1
   have hfz8_0 := fz_ BK586 0
   have hfz8_1 := fz_ BK586 1
   have hcz9_0 := cz_ BK587 0
   have hcz9_1 := cz_ BK587 1
   have hfz9_0 := fz_ BK587 0
   have hfz9_1 := fz_ BK587 1
   go_wp2
   go_meet
   case rel => exact ⟨_, (((l0_1.length : Int) != (l1_1.length : Int))), (by first | rfl | (simp; done) | (simp [*]; done)), H', ⟨by first | omega | exact Nat.le_refl _⟩, ⟨by exact BK586.out⟩, ⟨by exact BK587.out⟩, ⟨by repeat (first | (with_reducible first | exact HB.out | apply below_alloc | apply pw_below_drewN | apply below_drew1 | refine below_set ?_ GE586.out | refine below_set ?_ GE587.out) | exact HB.out)⟩⟩
  ·rw [if_neg c6] at H
   have c6b0 : ((l0_0.length : Int) == (l1_0.length : Int)) = false := beq_eq_false_iff_ne.mpr c6
   have c6b1 : ((l0_0.length : Int) != (l1_0.length : Int)) = true := bne_iff_ne.mpr c6
   have c6b2 : (l0_0.length == l1_0.length) = false := by first | simpa using c6 | (simp at c6 ⊢; omega)
   (first | rw [c6b0] | (simp only [i64_w, i32_w]; rw [c6b0]) | skip)
   have H' := a_ H
   clear H
   have hnb10 := NB586_587.out
   have hnc10 := NB587_586.out
   have hcz11_0 := cz_ BK586 0
   have hcz11_1 := cz_ BK586 1
   have hfz11_0 := fz_ BK586 0
   have hfz11_1 := fz_ BK586 1
   have hcz12_0 := cz_ BK587 0
   have hcz12_1 := cz_ BK587 1
   have hfz12_0 := fz_ BK587 0
   have hfz12_1 := fz_ BK587 1
   go_wp2
   go_meet
   case rel => exact ⟨_, (true), (by first | rfl | (simp; done) | (simp [*]; done)), H', ⟨by first | omega | exact Nat.le_refl _⟩, ⟨by exact BK586.out⟩, ⟨by exact BK587.out⟩, ⟨by repeat (first | (with_reducible first | exact HB.out | apply below_alloc | apply pw_below_drewN | apply below_drew1 | refine below_set ?_ GE586.out | refine below_set ?_ GE587.out) | exact HB.out)⟩⟩
 case rest =>
  clear HC3
  try clear c1
  try clear p2
  try clear c4
  try clear c6
  try clear c6b0
  try clear c6b1
  try clear c6b2
  try clear c7
  try clear c10
  try clear hcz11_0
  try clear hcz11_1
  try clear hcz12_0
  try clear hcz12_1
  try clear hcz8_0
  try clear hcz8_1
  try clear hcz9_0
  try clear hcz9_1
  try clear hfz11_0
  try clear hfz11_1
  try clear hfz12_0
  try clear hfz12_1
  try clear hfz8_0
  try clear hfz8_1
  try clear hfz9_0
  try clear hfz9_1
  obtain ⟨kq, x22_2, rfl, HA, HJ2, BK586, BK587, HB⟩ := hcut
  cases kq with
  | zero => exact absurd HA.out (by simp [skiarearef53_Same.j0])
  | succ kj2 =>
   have H := HA.out
   clear HA
   simp only [skiarearef53_Same.j0] at H
   by_cases c13 : x22_2 = true
   ·subst c13
    have H1 : (some false) = some r := by rw [if_pos rfl] at H; exact H
    clear H
    have H := H1
    clear H1
    obtain rfl := Option.some.inj H
    go_wp2
    go_ret
    exact ⟨by first | rfl | (simp [errW_none, errW_some] <;> rfl) | (simp [*, errW_none, errW_some] <;> rfl), by repeat (first | (with_reducible first | exact HB.out | apply below_alloc | apply pw_below_drewN | apply below_drew1 | refine below_set ?_ GE586.out | refine below_set ?_ GE587.out) | exact HB.out)⟩
   ·replace c13 := Bool.eq_false_iff.mpr c13
    subst c13
    have H1 : (skiarearef53_Same.l0 kj2 0 l0_0 l0_1 l1_0 l1_1) = some r := by rw [if_neg (show ¬ (false = true) by decide)] at H; exact H
    clear H
    have H := H1
    clear H1
    have H' := a_ H
    clear H
    go_wp2
    go_loopg [5] kj2 (fun kq v5 w' => ∃ (x5_2 : Int), v5 = .int .i64 x5_2 ∧ Aside0 (skiarearef53_Same.l0 kq x5_2 l0_0 l0_1 l1_0 l1_1 = some r) ∧ Aside0 (kq ≤ kj2) ∧ Aside0 (w'.heap[gb586]? = some (.cells #[(.slice A0_0 l0_0.length c0_0), (.slice A0_1 l0_1.length c0_1)] 48 (0, 0))) ∧ Aside0 (w'.heap[gb587]? = some (.cells #[(.slice A1_0 l1_0.length c1_0), (.slice A1_1 l1_1.length c1_1)] 48 (0, 0))) ∧ Aside0 (Below w.heap.size w w'))
    case atStart => exact ⟨(0), (by first | rfl | (simp; done) | (simp [*]; done)), H', ⟨Nat.le_refl _⟩, ⟨by exact BK586.out⟩, ⟨by exact BK587.out⟩, ⟨by repeat (first | (with_reducible first | exact HB.out | apply below_alloc | apply pw_below_drewN | apply below_drew1 | refine below_set ?_ GE586.out | refine below_set ?_ GE587.out) | exact HB.out)⟩⟩
    case round =>
     clear H'
     try clear c1
     try clear p2
     try clear c4
     try clear c6
     try clear c6b0
     try clear c6b1
     try clear c6b2
     try clear c7
     try clear c10
     try clear c13
     try clear hcz11_0
     try clear hcz11_1
     try clear hcz12_0
     try clear hcz12_1
     try clear hcz8_0
     try clear hcz8_1
     try clear hcz9_0
     try clear hcz9_1
     try clear hfz11_0
     try clear hfz11_1
     try clear hfz12_0
     try clear hfz12_1
     try clear hfz8_0
     try clear hfz8_1
     try clear hfz9_0
     try clear hfz9_1
     try clear p2
     obtain ⟨x5_2, rfl, HA, HK2, BK586, BK587, HB⟩ := hrel
     cases gk with
     | zero => exact absurd HA.out (by simp [skiarearef53_Same.l0])
     | succ k2 =>
      have H := HA.out
      clear HA
      simp only [skiarearef53_Same.l0] at H
      by_cases c14 : x5_2 < (l0_0.length : Int)
      ·rw [if_pos c14] at H
       have c14b0 : decide (x5_2 < (l0_0.length : Int)) = true := decide_eq_true c14
       clear c14
       by_cases c15 : 0 ≤ x5_2
       ·rw [if_pos c15] at H
        have c15b0 : decide (0 ≤ x5_2) = true := decide_eq_true c15
        clear c15
        by_cases c16 : x5_2 < (l1_0.length : Int)
        ·rw [if_pos c16] at H
         have c16b0 : decide (x5_2 < (l1_0.length : Int)) = true := decide_eq_true c16
         clear c16
         by_cases c17 : ((rd_T63 l0_0 x5_2).f0) = ((rd_T63 l1_0 x5_2).f0)
         ·rw [if_pos c17] at H
          have c17b0 : (((rd_T63 l0_0 x5_2).f0) == ((rd_T63 l1_0 x5_2).f0)) = true := beq_iff_eq.mpr c17
          have c17b1 : (((rd_T63 l0_0 x5_2).f0) != ((rd_T63 l1_0 x5_2).f0)) = false := bne_eq_false_iff_eq.mpr c17
          clear c17
          replace H := Option.bind_eq_some_iff.mp H
          obtain ⟨t592, A180, H⟩ := H
          replace H : (if t592 = true then (skiarearef53_Same.l0 k2 (wrap64 (x5_2 + 1)) l0_0 l0_1 l1_0 l1_1) else (some false)) = some r := H
          have A18 := a_ A180
          clear A180
          by_cases c19 : t592 = true
          ·subst c19
           have H1 : (skiarearef53_Same.l0 k2 (wrap64 (x5_2 + 1)) l0_0 l0_1 l1_0 l1_1) = some r := by rw [if_pos rfl] at H; exact H
           clear H
           have H := H1
           clear H1
           have H' := a_ H
           clear H
           have hnb20 := NB586_587.out
           have hnc20 := NB587_586.out
           have hcz21_0 := cz_ BK586 0
           have hcz21_1 := cz_ BK586 1
           have hfz21_0 := fz_ BK586 0
           have hfz21_1 := fz_ BK586 1
           try go_wp2
           have n0_ := a_ (blk_drew BK586.out)
           have n1_ := a_ (blk_drew BK587.out)
           have n2_ := a_ (below_drew1 HB.out)
           clear BK586
           clear BK587
           clear HB
           have BK586 := n0_
           have BK587 := n1_
           have HB := n2_
           clear n0_ n1_ n2_
           have p588 : 0 ≤ (x5_2 : Int) := od_
           have q588 : x5_2 < (l0_0.length : Int) := od_
           obtain ⟨ad588, A588_1, c588_1, A588_3, c588_3, e588, hx588_0, hx588_1, hx588_2, hx588_3, hl588_1, hi588_1, hl588_3, hi588_3⟩ := at_T63 HR0_0.out x5_2 p588 q588
           have hw588_3 := hx588_3
           have hw588_2 := hx588_2
           have hw588_1 := hx588_1
           have hw588_0 := hx588_0
           cases e588
           replace hx588_0 := pc_ hx588_0
           replace hx588_1 := pc_ hx588_1
           replace hx588_2 := pc_ hx588_2
           replace hx588_3 := pc_ hx588_3
           have HR588_1 := a_ hi588_1
           have HC588_1 := a_ hl588_1
           clear hi588_1 hl588_1
           have HR588_3 := a_ hi588_3
           have HC588_3 := a_ hl588_3
           clear hi588_3 hl588_3
           replace p588 := eq_true p588
           replace q588 := eq_true q588
           have p589 : 0 ≤ (x5_2 : Int) := od_
           have q589 : x5_2 < (l1_0.length : Int) := od_
           obtain ⟨ad589, A589_1, c589_1, A589_3, c589_3, e589, hx589_0, hx589_1, hx589_2, hx589_3, hl589_1, hi589_1, hl589_3, hi589_3⟩ := at_T63 HR1_0.out x5_2 p589 q589
           have hw589_3 := hx589_3
           have hw589_2 := hx589_2
           have hw589_1 := hx589_1
           have hw589_0 := hx589_0
           cases e589
           replace hx589_0 := pc_ hx589_0
           replace hx589_1 := pc_ hx589_1
           replace hx589_2 := pc_ hx589_2
           replace hx589_3 := pc_ hx589_3
           have HR589_1 := a_ hi589_1
           have HC589_1 := a_ hl589_1
           clear hi589_1 hl589_1
           have HR589_3 := a_ hi589_3
           have HC589_3 := a_ hl589_3
           clear hi589_3 hl589_3
           replace p589 := eq_true p589
           replace q589 := eq_true q589
           have p590 : 0 ≤ (x5_2 : Int) := od_
           have q590 : x5_2 < (l0_0.length : Int) := od_
           obtain ⟨ad590, A590_1, c590_1, A590_3, c590_3, e590, hx590_0, hx590_1, hx590_2, hx590_3, hl590_1, hi590_1, hl590_3, hi590_3⟩ := at_T63 HR0_0.out x5_2 p590 q590
           have hw590_3 := hx590_3
           have hw590_2 := hx590_2
           have hw590_1 := hx590_1
           have hw590_0 := hx590_0
           obtain rfl : ad588 = ad590 := (by injection e590)
           replace hx590_0 := pc_ hx590_0
           replace hx590_1 := pc_ hx590_1
           replace hx590_2 := pc_ hx590_2
           replace hx590_3 := pc_ hx590_3
           have HR590_1 := a_ hi590_1
           have HC590_1 := a_ hl590_1
           clear hi590_1 hl590_1
           have HR590_3 := a_ hi590_3
           have HC590_3 := a_ hl590_3
           clear hi590_3 hl590_3
           replace p590 := eq_true p590
           replace q590 := eq_true q590
           have ea_ := Option.some.inj (hx588_1.symm.trans hx590_1)
           injection ea_ with ea_ en_ ec_
           subst ea_
           subst ec_
           clear en_
           have ea_ := Option.some.inj (hx588_3.symm.trans hx590_3)
           injection ea_ with ea_ en_ ec_
           subst ea_
           subst ec_
           clear en_
           have p591 : 0 ≤ (x5_2 : Int) := od_
           have q591 : x5_2 < (l1_0.length : Int) := od_
           obtain ⟨ad591, A591_1, c591_1, A591_3, c591_3, e591, hx591_0, hx591_1, hx591_2, hx591_3, hl591_1, hi591_1, hl591_3, hi591_3⟩ := at_T63 HR1_0.out x5_2 p591 q591
           have hw591_3 := hx591_3
           have hw591_2 := hx591_2
           have hw591_1 := hx591_1
           have hw591_0 := hx591_0
           obtain rfl : ad589 = ad591 := (by injection e591)
           replace hx591_0 := pc_ hx591_0
           replace hx591_1 := pc_ hx591_1
           replace hx591_2 := pc_ hx591_2
           replace hx591_3 := pc_ hx591_3
           have HR591_1 := a_ hi591_1
           have HC591_1 := a_ hl591_1
           clear hi591_1 hl591_1
           have HR591_3 := a_ hi591_3
           have HC591_3 := a_ hl591_3
           clear hi591_3 hl591_3
           replace p591 := eq_true p591
           replace q591 := eq_true q591
           have ea_ := Option.some.inj (hx589_1.symm.trans hx591_1)
           injection ea_ with ea_ en_ ec_
           subst ea_
           subst ec_
           clear en_
           have ea_ := Option.some.inj (hx589_3.symm.trans hx591_3)
           injection ea_ with ea_ en_ ec_
           subst ea_
           subst ec_
           clear en_
           refine start_ (n := 29) (S := fun w' => w'.cell? ⟨gb586, 0, none⟩ = some (.slice (some ad588) l0_0.length c0_0) ∧ w'.cell? ⟨gb586, 1, none⟩ = some (.slice A0_1 l0_1.length c0_1) ∧ w'.cell? ⟨gb587, 0, none⟩ = some (.slice (some ad589) l1_0.length c1_0) ∧ w'.cell? ⟨gb587, 1, none⟩ = some (.slice A1_1 l1_1.length c1_1) ∧ w'.cell? (ad588.add ((x5_2).toNat * 4)) = some (.int .i64 ((rd_T63 l0_0 x5_2).f0)) ∧ w'.cell? ⟨(ad588.add ((x5_2).toNat * 4)).block, (ad588.add ((x5_2).toNat * 4)).off + 1, none⟩ = some (.slice A588_1 ((rd_T63 l0_0 x5_2).f1.f0).length c588_1) ∧ w'.cell? ⟨(ad588.add ((x5_2).toNat * 4)).block, (ad588.add ((x5_2).toNat * 4)).off + 2, none⟩ = some (.int .i64 ((rd_T63 l0_0 x5_2).f1.f1)) ∧ w'.cell? ⟨(ad588.add ((x5_2).toNat * 4)).block, (ad588.add ((x5_2).toNat * 4)).off + 3, none⟩ = some (.slice A588_3 ((rd_T63 l0_0 x5_2).f1.f2).length c588_3) ∧ w'.cell? (ad589.add ((x5_2).toNat * 4)) = some (.int .i64 ((rd_T63 l1_0 x5_2).f0)) ∧ w'.cell? ⟨(ad589.add ((x5_2).toNat * 4)).block, (ad589.add ((x5_2).toNat * 4)).off + 1, none⟩ = some (.slice A589_1 ((rd_T63 l1_0 x5_2).f1.f0).length c589_1) ∧ w'.cell? ⟨(ad589.add ((x5_2).toNat * 4)).block, (ad589.add ((x5_2).toNat * 4)).off + 2, none⟩ = some (.int .i64 ((rd_T63 l1_0 x5_2).f1.f1)) ∧ w'.cell? ⟨(ad589.add ((x5_2).toNat * 4)).block, (ad589.add ((x5_2).toNat * 4)).off + 3, none⟩ = some (.slice A589_3 ((rd_T63 l1_0 x5_2).f1.f2).length c589_3) ∧ w'.cell? (ad588.add ((x5_2).toNat * 4)) = some (.int .i64 ((rd_T63 l0_0 x5_2).f0)) ∧ w'.cell? ⟨(ad588.add ((x5_2).toNat * 4)).block, (ad588.add ((x5_2).toNat * 4)).off + 1, none⟩ = some (.slice A588_1 ((rd_T63 l0_0 x5_2).f1.f0).length c588_1) ∧ w'.cell? ⟨(ad588.add ((x5_2).toNat * 4)).block, (ad588.add ((x5_2).toNat * 4)).off + 2, none⟩ = some (.int .i64 ((rd_T63 l0_0 x5_2).f1.f1)) ∧ w'.cell? ⟨(ad588.add ((x5_2).toNat * 4)).block, (ad588.add ((x5_2).toNat * 4)).off + 3, none⟩ = some (.slice A588_3 ((rd_T63 l0_0 x5_2).f1.f2).length c588_3) ∧ w'.cell? (ad589.add ((x5_2).toNat * 4)) = some (.int .i64 ((rd_T63 l1_0 x5_2).f0)) ∧ w'.cell? ⟨(ad589.add ((x5_2).toNat * 4)).block, (ad589.add ((x5_2).toNat * 4)).off + 1, none⟩ = some (.slice A589_1 ((rd_T63 l1_0 x5_2).f1.f0).length c589_1) ∧ w'.cell? ⟨(ad589.add ((x5_2).toNat * 4)).block, (ad589.add ((x5_2).toNat * 4)).off + 2, none⟩ = some (.int .i64 ((rd_T63 l1_0 x5_2).f1.f1)) ∧ w'.cell? ⟨(ad589.add ((x5_2).toNat * 4)).block, (ad589.add ((x5_2).toNat * 4)).off + 3, none⟩ = some (.slice A589_3 ((rd_T63 l1_0 x5_2).f1.f2).length c589_3)) (ds := []) #[false, false, false, false, false, false, false, false, false, false, false, false, false, false, false, false, false, false, false, false, false, false, false, false, false, false, false, false, false] (by kernel_rfl) rfl rfl ⟨(blk_cell BK586.out 0).trans rfl, (blk_cell BK586.out 1).trans rfl, (blk_cell BK587.out 0).trans rfl, (blk_cell BK587.out 1).trans rfl, (pw_cell_below HB.out hw588_0), (pw_cell_below HB.out hw588_1), (pw_cell_below HB.out hw588_2), (pw_cell_below HB.out hw588_3), (pw_cell_below HB.out hw589_0), (pw_cell_below HB.out hw589_1), (pw_cell_below HB.out hw589_2), (pw_cell_below HB.out hw589_3), (pw_cell_below HB.out hw590_0), (pw_cell_below HB.out hw590_1), (pw_cell_below HB.out hw590_2), (pw_cell_below HB.out hw590_3), (pw_cell_below HB.out hw591_0), (pw_cell_below HB.out hw591_1), (pw_cell_below HB.out hw591_2), (pw_cell_below HB.out hw591_3)⟩ (fun hHeld => ?_); refine with_tabW skiarearef53_Same.tab6 skiarearef53_Same.bits6 (fun HT_ HW_ => ?_)
           generalize wr.drew = w22 at BK586 BK587 HB HR588_1 HR588_3 HR589_1 HR589_3 HR590_1 HR590_3 HR591_1 HR591_3 hx588_0 hx588_1 hx588_2 hx588_3 hx589_0 hx589_1 hx589_2 hx589_3 hx590_0 hx590_1 hx590_2 hx590_3 hx591_0 hx591_1 hx591_2 hx591_3 hHeld ⊢
           refine pq_ 0 (some 30) #[true, false, false, false, false, false, false, false, false, false, false, false, false, false, false, false, false, false, false, false, false, false, false, false, false, false, false, false, false] ?_
           refine pq_ 2 (some 32) #[true, false, true, false, false, false, false, false, false, false, false, false, false, false, false, false, false, false, false, false, false, false, false, false, false, false, false, false, false] ?_
           refine pq_ 6 (some 36) #[true, false, true, false, false, false, true, false, false, false, false, false, false, false, false, false, false, false, false, false, false, false, false, false, false, false, false, false, false] ?_
           refine pq_ 8 (some 38) #[true, false, true, false, false, false, true, false, true, false, false, false, false, false, false, false, false, false, false, false, false, false, false, false, false, false, false, false, false] ?_
           refine take_ (i := 1) (N := some 31) (v := ?_) (a' := ?_) #[true, true, true, false, false, false, true, false, true, false, false, false, false, false, false, false, false, false, false, false, false, false, false, false, false, false, false, false, false] rfl rfl (take_ofW HT_.out HW_.out (by kernel_rfl)) (fun _ _ _ h => h) (Or.inl ⟨by rfl, ?_⟩) hHeld ?_ ?_
           rotate_left
           ·rintro w' ⟨s0, s1, s2, s3, s4, s5, s6, s7, s8, s9, s10, s11, s12, s13, s14, s15, s16, s17, s18, s19⟩
            go_simp
            with_reducible rfl
           rotate_left
           ·simp only [Act.put, List.setIfInBounds_toArray, List.set_cons_zero, List.set_cons_succ, i64_w, i32_w]
            rfl
           refine pq_ 3 (some 33) #[true, true, true, true, false, false, true, false, true, false, false, false, false, false, false, false, false, false, false, false, false, false, false, false, false, false, false, false, false] ?_
           refine pq_ 4 (some 34) #[true, true, true, true, true, false, true, false, true, false, false, false, false, false, false, false, false, false, false, false, false, false, false, false, false, false, false, false, false] ?_
           refine take_ (i := 5) (N := some 35) (v := ?_) (a' := ?_) #[true, true, true, true, true, true, true, false, true, false, false, false, false, false, false, false, false, false, false, false, false, false, false, false, false, false, false, false, false] rfl rfl (take_ofW HT_.out HW_.out (by kernel_rfl)) (fun _ _ _ h => h) (Or.inl ⟨by rfl, ?_⟩) hHeld ?_ ?_
           rotate_left
           ·rintro w' ⟨s0, s1, s2, s3, s4, s5, s6, s7, s8, s9, s10, s11, s12, s13, s14, s15, s16, s17, s18, s19⟩
            go_simp
            with_reducible rfl
           rotate_left
           ·simp only [Act.put, List.setIfInBounds_toArray, List.set_cons_zero, List.set_cons_succ, i64_w, i32_w]
            rfl
           refine take_ (i := 7) (N := some 37) (v := ?_) (a' := ?_) #[true, true, true, true, true, true, true, true, true, false, false, false, false, false, false, false, false, false, false, false, false, false, false, false, false, false, false, false, false] rfl rfl (take_ofW HT_.out HW_.out (by kernel_rfl)) (fun _ _ _ h => h) (Or.inl ⟨by rfl, ?_⟩) hHeld ?_ ?_
           rotate_left
           ·rintro w' ⟨s0, s1, s2, s3, s4, s5, s6, s7, s8, s9, s10, s11, s12, s13, s14, s15, s16, s17, s18, s19⟩
            go_simp
            with_reducible rfl
           rotate_left
           ·simp only [Act.put, List.setIfInBounds_toArray, List.set_cons_zero, List.set_cons_succ, i64_w, i32_w]
            rfl
           refine pq_ 9 (some 39) #[true, true, true, true, true, true, true, true, true, true, false, false, false, false, false, false, false, false, false, false, false, false, false, false, false, false, false, false, false] ?_
           refine pq_ 10 (some 40) #[true, true, true, true, true, true, true, true, true, true, true, false, false, false, false, false, false, false, false, false, false, false, false, false, false, false, false, false, false] ?_
           refine take_ (i := 11) (N := some 41) (v := ?_) (a' := ?_) #[true, true, true, true, true, true, true, true, true, true, true, true, false, false, false, false, false, false, false, false, false, false, false, false, false, false, false, false, false] rfl rfl (take_ofW HT_.out HW_.out (by kernel_rfl)) (fun _ _ _ h => h) (Or.inl ⟨by rfl, ?_⟩) hHeld ?_ ?_
           rotate_left
           ·rintro w' ⟨s0, s1, s2, s3, s4, s5, s6, s7, s8, s9, s10, s11, s12, s13, s14, s15, s16, s17, s18, s19⟩
            go_simp
            with_reducible rfl
           rotate_left
           ·simp only [Act.put, List.setIfInBounds_toArray, List.set_cons_zero, List.set_cons_succ, i64_w, i32_w]
            rfl
           refine pq_ 12 (some 42) #[true, true, true, true, true, true, true, true, true, true, true, true, true, false, false, false, false, false, false, false, false, false, false, false, false, false, false, false, false] ?_
           refine pq_ 13 (some 43) #[true, true, true, true, true, true, true, true, true, true, true, true, true, true, false, false, false, false, false, false, false, false, false, false, false, false, false, false, false] ?_
           refine pq_ 14 (some 44) #[true, true, true, true, true, true, true, true, true, true, true, true, true, true, true, false, false, false, false, false, false, false, false, false, false, false, false, false, false] ?_
           refine pq_ 16 (some 46) #[true, true, true, true, true, true, true, true, true, true, true, true, true, true, true, false, true, false, false, false, false, false, false, false, false, false, false, false, false] ?_
           refine pq_ 20 (some 50) #[true, true, true, true, true, true, true, true, true, true, true, true, true, true, true, false, true, false, false, false, true, false, false, false, false, false, false, false, false] ?_
           refine pq_ 22 (some 52) #[true, true, true, true, true, true, true, true, true, true, true, true, true, true, true, false, true, false, false, false, true, false, true, false, false, false, false, false, false] ?_
           refine take_ (i := 15) (N := some 45) (v := ?_) (a' := ?_) #[true, true, true, true, true, true, true, true, true, true, true, true, true, true, true, true, true, false, false, false, true, false, true, false, false, false, false, false, false] rfl rfl (take_ofW HT_.out HW_.out (by kernel_rfl)) (fun _ _ _ h => h) (Or.inl ⟨by rfl, ?_⟩) hHeld ?_ ?_
           rotate_left
           ·rintro w' ⟨s0, s1, s2, s3, s4, s5, s6, s7, s8, s9, s10, s11, s12, s13, s14, s15, s16, s17, s18, s19⟩
            go_simp
            with_reducible rfl
           rotate_left
           ·simp only [Act.put, List.setIfInBounds_toArray, List.set_cons_zero, List.set_cons_succ, i64_w, i32_w]
            rfl
           refine pq_ 17 (some 47) #[true, true, true, true, true, true, true, true, true, true, true, true, true, true, true, true, true, true, false, false, true, false, true, false, false, false, false, false, false] ?_
           refine pq_ 18 (some 48) #[true, true, true, true, true, true, true, true, true, true, true, true, true, true, true, true, true, true, true, false, true, false, true, false, false, false, false, false, false] ?_
           refine take_ (i := 19) (N := some 49) (v := ?_) (a' := ?_) #[true, true, true, true, true, true, true, true, true, true, true, true, true, true, true, true, true, true, true, true, true, false, true, false, false, false, false, false, false] rfl rfl (take_ofW HT_.out HW_.out (by kernel_rfl)) (fun _ _ _ h => h) (Or.inl ⟨by rfl, ?_⟩) hHeld ?_ ?_
           rotate_left
           ·rintro w' ⟨s0, s1, s2, s3, s4, s5, s6, s7, s8, s9, s10, s11, s12, s13, s14, s15, s16, s17, s18, s19⟩
            go_simp
            with_reducible rfl
           rotate_left
           ·simp only [Act.put, List.setIfInBounds_toArray, List.set_cons_zero, List.set_cons_succ, i64_w, i32_w]
            rfl
           refine take_ (i := 21) (N := some 51) (v := ?_) (a' := ?_) #[true, true, true, true, true, true, true, true, true, true, true, true, true, true, true, true, true, true, true, true, true, true, true, false, false, false, false, false, false] rfl rfl (take_ofW HT_.out HW_.out (by kernel_rfl)) (fun _ _ _ h => h) (Or.inl ⟨by rfl, ?_⟩) hHeld ?_ ?_
           rotate_left
           ·rintro w' ⟨s0, s1, s2, s3, s4, s5, s6, s7, s8, s9, s10, s11, s12, s13, s14, s15, s16, s17, s18, s19⟩
            go_simp
            with_reducible rfl
           rotate_left
           ·simp only [Act.put, List.setIfInBounds_toArray, List.set_cons_zero, List.set_cons_succ, i64_w, i32_w]
            rfl
           refine pq_ 23 (some 53) #[true, true, true, true, true, true, true, true, true, true, true, true, true, true, true, true, true, true, true, true, true, true, true, true, false, false, false, false, false] ?_
           refine pq_ 24 (some 54) #[true, true, true, true, true, true, true, true, true, true, true, true, true, true, true, true, true, true, true, true, true, true, true, true, true, false, false, false, false] ?_
           refine take_ (i := 25) (N := some 55) (v := ?_) (a' := ?_) #[true, true, true, true, true, true, true, true, true, true, true, true, true, true, true, true, true, true, true, true, true, true, true, true, true, true, false, false, false] rfl rfl (take_ofW HT_.out HW_.out (by kernel_rfl)) (fun _ _ _ h => h) (Or.inl ⟨by rfl, ?_⟩) hHeld ?_ ?_
           rotate_left
           ·rintro w' ⟨s0, s1, s2, s3, s4, s5, s6, s7, s8, s9, s10, s11, s12, s13, s14, s15, s16, s17, s18, s19⟩
            go_simp
            with_reducible rfl
           rotate_left
           ·simp only [Act.put, List.setIfInBounds_toArray, List.set_cons_zero, List.set_cons_succ, i64_w, i32_w]
            rfl
           refine one_ (i := 26) (N := some 56) #[true, true, true, true, true, true, true, true, true, true, true, true, true, true, true, true, true, true, true, true, true, true, true, true, true, true, true, false, false] rfl rfl (one_of HT_.out (by kernel_rfl)) (by decide) (fun K hK => ?_)
           refine goes_ Try.func23 (by kernel_rfl) rfl #[.agg #[.slice A588_1 ((rd_T63 l0_0 x5_2).f1.f0).length c588_1, .int .i64 ((rd_T63 l0_0 x5_2).f1.f1), .slice A588_3 ((rd_T63 l0_0 x5_2).f1.f2).length c588_3], .agg #[.slice A589_1 ((rd_T63 l1_0 x5_2).f1.f0).length c589_1, .int .i64 ((rd_T63 l1_0 x5_2).f1.f1), .slice A589_3 ((rd_T63 l1_0 x5_2).f1.f2).length c589_3]] (by rfl) rfl rfl (by (try simp only [List.map_toArray, List.map_cons, List.map_nil]); first | done | rfl | (simp only [List.length_drop, List.length_take]; rfl)) ?_
           with_reducible refine (skiarearef19_Same.calls k2 _ _ ((rd_T63 l0_0 x5_2).f1.f0) ((rd_T63 l0_0 x5_2).f1.f1) _ _ ((rd_T63 l0_0 x5_2).f1.f2) _ _ ((rd_T63 l1_0 x5_2).f1.f0) ((rd_T63 l1_0 x5_2).f1.f1) _ _ ((rd_T63 l1_0 x5_2).f1.f2) true _ ?side1 ?side2 ?side3 ?side4 ?side5 ?side6 ?side7 ?side8 A18.out).mono ?_
           (case side1 => exact kC_ (Kd.C_below HR590_1.out HB.out))
           (case side2 => exact HC590_1.out)
           (case side3 => exact kC_ (Kd.C_below HR590_3.out HB.out))
           (case side4 => exact HC590_3.out)
           (case side5 => exact kC_ (Kd.C_below HR591_1.out HB.out))
           (case side6 => exact HC591_1.out)
           (case side7 => exact kC_ (Kd.C_below HR591_3.out HB.out))
           (case side8 => exact HC591_3.out)
           rintro e w23 ⟨rfl, hb⟩
           refine ⟨_, rfl, ?_⟩
           have n0_ := a_ (blk_below (bk_ BK586.out) hb)
           have n1_ := a_ (blk_below (bk_ BK587.out) hb)
           have n2_ := a_ (below_step bel_ hb)
           clear BK586
           clear BK587
           clear HB
           have BK586 := n0_
           have BK587 := n1_
           have HB := n2_
           clear n0_ n1_ n2_
           (try clear hb)
           (try clear hb2)
           (try clear hk)
           (try clear hi)
           refine hK.out _ _ ⟨(blk_cell BK586.out 0).trans rfl, (blk_cell BK586.out 1).trans rfl, (blk_cell BK587.out 0).trans rfl, (blk_cell BK587.out 1).trans rfl, (pw_cell_below HB.out hw588_0), (pw_cell_below HB.out hw588_1), (pw_cell_below HB.out hw588_2), (pw_cell_below HB.out hw588_3), (pw_cell_below HB.out hw589_0), (pw_cell_below HB.out hw589_1), (pw_cell_below HB.out hw589_2), (pw_cell_below HB.out hw589_3), (pw_cell_below HB.out hw590_0), (pw_cell_below HB.out hw590_1), (pw_cell_below HB.out hw590_2), (pw_cell_below HB.out hw590_3), (pw_cell_below HB.out hw591_0), (pw_cell_below HB.out hw591_1), (pw_cell_below HB.out hw591_2), (pw_cell_below HB.out hw591_3)⟩ (fun hHeld => ?_)
           clear hK K
           refine norm_ (a' := ?_) ?_ ?_
           rotate_left
           ·show Act.put _ (some 56) _ = _
            simp only [Act.put, List.setIfInBounds_toArray, List.set_cons_zero, List.set_cons_succ, i64_w, i32_w]
            rfl
           refine pq_ 27 (some 57) #[true, true, true, true, true, true, true, true, true, true, true, true, true, true, true, true, true, true, true, true, true, true, true, true, true, true, true, true, false] ?_
           refine pq_ 28 (some 58) #[true, true, true, true, true, true, true, true, true, true, true, true, true, true, true, true, true, true, true, true, true, true, true, true, true, true, true, true, true] ?_
           refine done_ (done_of HT_.out (by kernel_rfl)) ?_
           try go_wp2
           go_roundg k2
           case measure => have := HJ2.out; have := HK2.out; omega
           case rel => exact ⟨(wrap64 (x5_2 + 1)), (by first | rfl | (simp; done) | (simp [*]; done)), H', ⟨by have := HJ2.out; have := HK2.out; omega⟩, ⟨by exact BK586.out⟩, ⟨by exact BK587.out⟩, ⟨by repeat (first | (with_reducible first | exact HB.out | apply below_alloc | apply pw_below_drewN | apply below_drew1 | refine below_set ?_ GE586.out | refine below_set ?_ GE587.out) | exact HB.out)⟩⟩
          ·replace c19 := Bool.eq_false_iff.mpr c19
           subst c19
           have H1 : (some false) = some r := by rw [if_neg (show ¬ (false = true) by decide)] at H; exact H
           clear H
           have H := H1
           clear H1
           obtain rfl := Option.some.inj H
           have hnb24 := NB586_587.out
           have hnc24 := NB587_586.out
           have hcz25_0 := cz_ BK586 0
           have hcz25_1 := cz_ BK586 1
           have hfz25_0 := fz_ BK586 0
           have hfz25_1 := fz_ BK586 1
           try go_wp2
           have n0_ := a_ (blk_drew BK586.out)
           have n1_ := a_ (blk_drew BK587.out)
           have n2_ := a_ (below_drew1 HB.out)
           clear BK586
           clear BK587
           clear HB
           have BK586 := n0_
           have BK587 := n1_
           have HB := n2_
           clear n0_ n1_ n2_
           have p588 : 0 ≤ (x5_2 : Int) := od_
           have q588 : x5_2 < (l0_0.length : Int) := od_
           obtain ⟨ad588, A588_1, c588_1, A588_3, c588_3, e588, hx588_0, hx588_1, hx588_2, hx588_3, hl588_1, hi588_1, hl588_3, hi588_3⟩ := at_T63 HR0_0.out x5_2 p588 q588
           have hw588_3 := hx588_3
           have hw588_2 := hx588_2
           have hw588_1 := hx588_1
           have hw588_0 := hx588_0
           cases e588
           replace hx588_0 := pc_ hx588_0
           replace hx588_1 := pc_ hx588_1
           replace hx588_2 := pc_ hx588_2
           replace hx588_3 := pc_ hx588_3
           have HR588_1 := a_ hi588_1
           have HC588_1 := a_ hl588_1
           clear hi588_1 hl588_1
           have HR588_3 := a_ hi588_3
           have HC588_3 := a_ hl588_3
           clear hi588_3 hl588_3
           replace p588 := eq_true p588
           replace q588 := eq_true q588
           have p589 : 0 ≤ (x5_2 : Int) := od_
           have q589 : x5_2 < (l1_0.length : Int) := od_
           obtain ⟨ad589, A589_1, c589_1, A589_3, c589_3, e589, hx589_0, hx589_1, hx589_2, hx589_3, hl589_1, hi589_1, hl589_3, hi589_3⟩ := at_T63 HR1_0.out x5_2 p589 q589
           have hw589_3 := hx589_3
           have hw589_2 := hx589_2
           have hw589_1 := hx589_1
           have hw589_0 := hx589_0
           cases e589
           replace hx589_0 := pc_ hx589_0
           replace hx589_1 := pc_ hx589_1
           replace hx589_2 := pc_ hx589_2
           replace hx589_3 := pc_ hx589_3
           have HR589_1 := a_ hi589_1
           have HC589_1 := a_ hl589_1
           clear hi589_1 hl589_1
           have HR589_3 := a_ hi589_3
           have HC589_3 := a_ hl589_3
           clear hi589_3 hl589_3
           replace p589 := eq_true p589
           replace q589 := eq_true q589
           have p590 : 0 ≤ (x5_2 : Int) := od_
           have q590 : x5_2 < (l0_0.length : Int) := od_
           obtain ⟨ad590, A590_1, c590_1, A590_3, c590_3, e590, hx590_0, hx590_1, hx590_2, hx590_3, hl590_1, hi590_1, hl590_3, hi590_3⟩ := at_T63 HR0_0.out x5_2 p590 q590
           have hw590_3 := hx590_3
           have hw590_2 := hx590_2
           have hw590_1 := hx590_1
           have hw590_0 := hx590_0
           obtain rfl : ad588 = ad590 := (by injection e590)
           replace hx590_0 := pc_ hx590_0
           replace hx590_1 := pc_ hx590_1
           replace hx590_2 := pc_ hx590_2
           replace hx590_3 := pc_ hx590_3
           have HR590_1 := a_ hi590_1
           have HC590_1 := a_ hl590_1
           clear hi590_1 hl590_1
           have HR590_3 := a_ hi590_3
           have HC590_3 := a_ hl590_3
           clear hi590_3 hl590_3
           replace p590 := eq_true p590
           replace q590 := eq_true q590
           have ea_ := Option.some.inj (hx588_1.symm.trans hx590_1)
           injection ea_ with ea_ en_ ec_
           subst ea_
           subst ec_
           clear en_
           have ea_ := Option.some.inj (hx588_3.symm.trans hx590_3)
           injection ea_ with ea_ en_ ec_
           subst ea_
           subst ec_
           clear en_
           have p591 : 0 ≤ (x5_2 : Int) := od_
           have q591 : x5_2 < (l1_0.length : Int) := od_
           obtain ⟨ad591, A591_1, c591_1, A591_3, c591_3, e591, hx591_0, hx591_1, hx591_2, hx591_3, hl591_1, hi591_1, hl591_3, hi591_3⟩ := at_T63 HR1_0.out x5_2 p591 q591
           have hw591_3 := hx591_3
           have hw591_2 := hx591_2
           have hw591_1 := hx591_1
           have hw591_0 := hx591_0
           obtain rfl : ad589 = ad591 := (by injection e591)
           replace hx591_0 := pc_ hx591_0
           replace hx591_1 := pc_ hx591_1
           replace hx591_2 := pc_ hx591_2
           replace hx591_3 := pc_ hx591_3
           have HR591_1 := a_ hi591_1
           have HC591_1 := a_ hl591_1
           clear hi591_1 hl591_1
           have HR591_3 := a_ hi591_3
           have HC591_3 := a_ hl591_3
           clear hi591_3 hl591_3
           replace p591 := eq_true p591
           replace q591 := eq_true q591
           have ea_ := Option.some.inj (hx589_1.symm.trans hx591_1)
           injection ea_ with ea_ en_ ec_
           subst ea_
           subst ec_
           clear en_
           have ea_ := Option.some.inj (hx589_3.symm.trans hx591_3)
           injection ea_ with ea_ en_ ec_
           subst ea_
           subst ec_
           clear en_
           refine start_ (n := 29) (S := fun w' => w'.cell? ⟨gb586, 0, none⟩ = some (.slice (some ad588) l0_0.length c0_0) ∧ w'.cell? ⟨gb586, 1, none⟩ = some (.slice A0_1 l0_1.length c0_1) ∧ w'.cell? ⟨gb587, 0, none⟩ = some (.slice (some ad589) l1_0.length c1_0) ∧ w'.cell? ⟨gb587, 1, none⟩ = some (.slice A1_1 l1_1.length c1_1) ∧ w'.cell? (ad588.add ((x5_2).toNat * 4)) = some (.int .i64 ((rd_T63 l0_0 x5_2).f0)) ∧ w'.cell? ⟨(ad588.add ((x5_2).toNat * 4)).block, (ad588.add ((x5_2).toNat * 4)).off + 1, none⟩ = some (.slice A588_1 ((rd_T63 l0_0 x5_2).f1.f0).length c588_1) ∧ w'.cell? ⟨(ad588.add ((x5_2).toNat * 4)).block, (ad588.add ((x5_2).toNat * 4)).off + 2, none⟩ = some (.int .i64 ((rd_T63 l0_0 x5_2).f1.f1)) ∧ w'.cell? ⟨(ad588.add ((x5_2).toNat * 4)).block, (ad588.add ((x5_2).toNat * 4)).off + 3, none⟩ = some (.slice A588_3 ((rd_T63 l0_0 x5_2).f1.f2).length c588_3) ∧ w'.cell? (ad589.add ((x5_2).toNat * 4)) = some (.int .i64 ((rd_T63 l1_0 x5_2).f0)) ∧ w'.cell? ⟨(ad589.add ((x5_2).toNat * 4)).block, (ad589.add ((x5_2).toNat * 4)).off + 1, none⟩ = some (.slice A589_1 ((rd_T63 l1_0 x5_2).f1.f0).length c589_1) ∧ w'.cell? ⟨(ad589.add ((x5_2).toNat * 4)).block, (ad589.add ((x5_2).toNat * 4)).off + 2, none⟩ = some (.int .i64 ((rd_T63 l1_0 x5_2).f1.f1)) ∧ w'.cell? ⟨(ad589.add ((x5_2).toNat * 4)).block, (ad589.add ((x5_2).toNat * 4)).off + 3, none⟩ = some (.slice A589_3 ((rd_T63 l1_0 x5_2).f1.f2).length c589_3) ∧ w'.cell? (ad588.add ((x5_2).toNat * 4)) = some (.int .i64 ((rd_T63 l0_0 x5_2).f0)) ∧ w'.cell? ⟨(ad588.add ((x5_2).toNat * 4)).block, (ad588.add ((x5_2).toNat * 4)).off + 1, none⟩ = some (.slice A588_1 ((rd_T63 l0_0 x5_2).f1.f0).length c588_1) ∧ w'.cell? ⟨(ad588.add ((x5_2).toNat * 4)).block, (ad588.add ((x5_2).toNat * 4)).off + 2, none⟩ = some (.int .i64 ((rd_T63 l0_0 x5_2).f1.f1)) ∧ w'.cell? ⟨(ad588.add ((x5_2).toNat * 4)).block, (ad588.add ((x5_2).toNat * 4)).off + 3, none⟩ = some (.slice A588_3 ((rd_T63 l0_0 x5_2).f1.f2).length c588_3) ∧ w'.cell? (ad589.add ((x5_2).toNat * 4)) = some (.int .i64 ((rd_T63 l1_0 x5_2).f0)) ∧ w'.cell? ⟨(ad589.add ((x5_2).toNat * 4)).block, (ad589.add ((x5_2).toNat * 4)).off + 1, none⟩ = some (.slice A589_1 ((rd_T63 l1_0 x5_2).f1.f0).length c589_1) ∧ w'.cell? ⟨(ad589.add ((x5_2).toNat * 4)).block, (ad589.add ((x5_2).toNat * 4)).off + 2, none⟩ = some (.int .i64 ((rd_T63 l1_0 x5_2).f1.f1)) ∧ w'.cell? ⟨(ad589.add ((x5_2).toNat * 4)).block, (ad589.add ((x5_2).toNat * 4)).off + 3, none⟩ = some (.slice A589_3 ((rd_T63 l1_0 x5_2).f1.f2).length c589_3)) (ds := []) #[false, false, false, false, false, false, false, false, false, false, false, false, false, false, false, false, false, false, false, false, false, false, false, false, false, false, false, false, false] (by kernel_rfl) rfl rfl ⟨(blk_cell BK586.out 0).trans rfl, (blk_cell BK586.out 1).trans rfl, (blk_cell BK587.out 0).trans rfl, (blk_cell BK587.out 1).trans rfl, (pw_cell_below HB.out hw588_0), (pw_cell_below HB.out hw588_1), (pw_cell_below HB.out hw588_2), (pw_cell_below HB.out hw588_3), (pw_cell_below HB.out hw589_0), (pw_cell_below HB.out hw589_1), (pw_cell_below HB.out hw589_2), (pw_cell_below HB.out hw589_3), (pw_cell_below HB.out hw590_0), (pw_cell_below HB.out hw590_1), (pw_cell_below HB.out hw590_2), (pw_cell_below HB.out hw590_3), (pw_cell_below HB.out hw591_0), (pw_cell_below HB.out hw591_1), (pw_cell_below HB.out hw591_2), (pw_cell_below HB.out hw591_3)⟩ (fun hHeld => ?_); refine with_tabW skiarearef53_Same.tab6 skiarearef53_Same.bits6 (fun HT_ HW_ => ?_)
           generalize wr.drew = w26 at BK586 BK587 HB HR588_1 HR588_3 HR589_1 HR589_3 HR590_1 HR590_3 HR591_1 HR591_3 hx588_0 hx588_1 hx588_2 hx588_3 hx589_0 hx589_1 hx589_2 hx589_3 hx590_0 hx590_1 hx590_2 hx590_3 hx591_0 hx591_1 hx591_2 hx591_3 hHeld ⊢
           refine pq_ 0 (some 30) #[true, false, false, false, false, false, false, false, false, false, false, false, false, false, false, false, false, false, false, false, false, false, false, false, false, false, false, false, false] ?_
           refine pq_ 2 (some 32) #[true, false, true, false, false, false, false, false, false, false, false, false, false, false, false, false, false, false, false, false, false, false, false, false, false, false, false, false, false] ?_
           refine pq_ 6 (some 36) #[true, false, true, false, false, false, true, false, false, false, false, false, false, false, false, false, false, false, false, false, false, false, false, false, false, false, false, false, false] ?_
           refine pq_ 8 (some 38) #[true, false, true, false, false, false, true, false, true, false, false, false, false, false, false, false, false, false, false, false, false, false, false, false, false, false, false, false, false] ?_
           refine take_ (i := 1) (N := some 31) (v := ?_) (a' := ?_) #[true, true, true, false, false, false, true, false, true, false, false, false, false, false, false, false, false, false, false, false, false, false, false, false, false, false, false, false, false] rfl rfl (take_ofW HT_.out HW_.out (by kernel_rfl)) (fun _ _ _ h => h) (Or.inl ⟨by rfl, ?_⟩) hHeld ?_ ?_
           rotate_left
           ·rintro w' ⟨s0, s1, s2, s3, s4, s5, s6, s7, s8, s9, s10, s11, s12, s13, s14, s15, s16, s17, s18, s19⟩
            go_simp
            with_reducible rfl
           rotate_left
           ·simp only [Act.put, List.setIfInBounds_toArray, List.set_cons_zero, List.set_cons_succ, i64_w, i32_w]
            rfl
           refine pq_ 3 (some 33) #[true, true, true, true, false, false, true, false, true, false, false, false, false, false, false, false, false, false, false, false, false, false, false, false, false, false, false, false, false] ?_
           refine pq_ 4 (some 34) #[true, true, true, true, true, false, true, false, true, false, false, false, false, false, false, false, false, false, false, false, false, false, false, false, false, false, false, false, false] ?_
           refine take_ (i := 5) (N := some 35) (v := ?_) (a' := ?_) #[true, true, true, true, true, true, true, false, true, false, false, false, false, false, false, false, false, false, false, false, false, false, false, false, false, false, false, false, false] rfl rfl (take_ofW HT_.out HW_.out (by kernel_rfl)) (fun _ _ _ h => h) (Or.inl ⟨by rfl, ?_⟩) hHeld ?_ ?_
           rotate_left
           ·rintro w' ⟨s0, s1, s2, s3, s4, s5, s6, s7, s8, s9, s10, s11, s12, s13, s14, s15, s16, s17, s18, s19⟩
            go_simp
            with_reducible rfl
           rotate_left
           ·simp only [Act.put, List.setIfInBounds_toArray, List.set_cons_zero, List.set_cons_succ, i64_w, i32_w]
            rfl
           refine take_ (i := 7) (N := some 37) (v := ?_) (a' := ?_) #[true, true, true, true, true, true, true, true, true, false, false, false, false, false, false, false, false, false, false, false, false, false, false, false, false, false, false, false, false] rfl rfl (take_ofW HT_.out HW_.out (by kernel_rfl)) (fun _ _ _ h => h) (Or.inl ⟨by rfl, ?_⟩) hHeld ?_ ?_
           rotate_left
           ·rintro w' ⟨s0, s1, s2, s3, s4, s5, s6, s7, s8, s9, s10, s11, s12, s13, s14, s15, s16, s17, s18, s19⟩
            go_simp
            with_reducible rfl
           rotate_left
           ·simp only [Act.put, List.setIfInBounds_toArray, List.set_cons_zero, List.set_cons_succ, i64_w, i32_w]
            rfl
           refine pq_ 9 (some 39) #[true, true, true, true, true, true, true, true, true, true, false, false, false, false, false, false, false, false, false, false, false, false, false, false, false, false, false, false, false] ?_
           refine pq_ 10 (some 40) #[true, true, true, true, true, true, true, true, true, true, true, false, false, false, false, false, false, false, false, false, false, false, false, false, false, false, false, false, false] ?_
           refine take_ (i := 11) (N := some 41) (v := ?_) (a' := ?_) #[true, true, true, true, true, true, true, true, true, true, true, true, false, false, false, false, false, false, false, false, false, false, false, false, false, false, false, false, false] rfl rfl (take_ofW HT_.out HW_.out (by kernel_rfl)) (fun _ _ _ h => h) (Or.inl ⟨by rfl, ?_⟩) hHeld ?_ ?_
           rotate_left
           ·rintro w' ⟨s0, s1, s2, s3, s4, s5, s6, s7, s8, s9, s10, s11, s12, s13, s14, s15, s16, s17, s18, s19⟩
            go_simp
            with_reducible rfl
           rotate_left
           ·simp only [Act.put, List.setIfInBounds_toArray, List.set_cons_zero, List.set_cons_succ, i64_w, i32_w]
            rfl
           refine pq_ 12 (some 42) #[true, true, true, true, true, true, true, true, true, true, true, true, true, false, false, false, false, false, false, false, false, false, false, false, false, false, false, false, false] ?_
           refine pq_ 13 (some 43) #[true, true, true, true, true, true, true, true, true, true, true, true, true, true, false, false, false, false, false, false, false, false, false, false, false, false, false, false, false] ?_
           refine pq_ 14 (some 44) #[true, true, true, true, true, true, true, true, true, true, true, true, true, true, true, false, false, false, false, false, false, false, false, false, false, false, false, false, false] ?_
           refine pq_ 16 (some 46) #[true, true, true, true, true, true, true, true, true, true, true, true, true, true, true, false, true, false, false, false, false, false, false, false, false, false, false, false, false] ?_
           refine pq_ 20 (some 50) #[true, true, true, true, true, true, true, true, true, true, true, true, true, true, true, false, true, false, false, false, true, false, false, false, false, false, false, false, false] ?_
           refine pq_ 22 (some 52) #[true, true, true, true, true, true, true, true, true, true, true, true, true, true, true, false, true, false, false, false, true, false, true, false, false, false, false, false, false] ?_
           refine take_ (i := 15) (N := some 45) (v := ?_) (a' := ?_) #[true, true, true, true, true, true, true, true, true, true, true, true, true, true, true, true, true, false, false, false, true, false, true, false, false, false, false, false, false] rfl rfl (take_ofW HT_.out HW_.out (by kernel_rfl)) (fun _ _ _ h => h) (Or.inl ⟨by rfl, ?_⟩) hHeld ?_ ?_
           rotate_left
           ·rintro w' ⟨s0, s1, s2, s3, s4, s5, s6, s7, s8, s9, s10, s11, s12, s13, s14, s15, s16, s17, s18, s19⟩
            go_simp
            with_reducible rfl
           rotate_left
           ·simp only [Act.put, List.setIfInBounds_toArray, List.set_cons_zero, List.set_cons_succ, i64_w, i32_w]
            rfl
           refine pq_ 17 (some 47) #[true, true, true, true, true, true, true, true, true, true, true, true, true, true, true, true, true, true, false, false, true, false, true, false, false, false, false, false, false] ?_
           refine pq_ 18 (some 48) #[true, true, true, true, true, true, true, true, true, true, true, true, true, true, true, true, true, true, true, false, true, false, true, false, false, false, false, false, false] ?_
           refine take_ (i := 19) (N := some 49) (v := ?_) (a' := ?_) #[true, true, true, true, true, true, true, true, true, true, true, true, true, true, true, true, true, true, true, true, true, false, true, false, false, false, false, false, false] rfl rfl (take_ofW HT_.out HW_.out (by kernel_rfl)) (fun _ _ _ h => h) (Or.inl ⟨by rfl, ?_⟩) hHeld ?_ ?_
           rotate_left
           ·rintro w' ⟨s0, s1, s2, s3, s4, s5, s6, s7, s8, s9, s10, s11, s12, s13, s14, s15, s16, s17, s18, s19⟩
            go_simp
            with_reducible rfl
           rotate_left
           ·simp only [Act.put, List.setIfInBounds_toArray, List.set_cons_zero, List.set_cons_succ, i64_w, i32_w]
            rfl
           refine take_ (i := 21) (N := some 51) (v := ?_) (a' := ?_) #[true, true, true, true, true, true, true, true, true, true, true, true, true, true, true, true, true, true, true, true, true, true, true, false, false, false, false, false, false] rfl rfl (take_ofW HT_.out HW_.out (by kernel_rfl)) (fun _ _ _ h => h) (Or.inl ⟨by rfl, ?_⟩) hHeld ?_ ?_
           rotate_left
           ·rintro w' ⟨s0, s1, s2, s3, s4, s5, s6, s7, s8, s9, s10, s11, s12, s13, s14, s15, s16, s17, s18, s19⟩
            go_simp
            with_reducible rfl
           rotate_left
           ·simp only [Act.put, List.setIfInBounds_toArray, List.set_cons_zero, List.set_cons_succ, i64_w, i32_w]
            rfl
           refine pq_ 23 (some 53) #[true, true, true, true, true, true, true, true, true, true, true, true, true, true, true, true, true, true, true, true, true, true, true, true, false, false, false, false, false] ?_
           refine pq_ 24 (some 54) #[true, true, true, true, true, true, true, true, true, true, true, true, true, true, true, true, true, true, true, true, true, true, true, true, true, false, false, false, false] ?_
           refine take_ (i := 25) (N := some 55) (v := ?_) (a' := ?_) #[true, true, true, true, true, true, true, true, true, true, true, true, true, true, true, true, true, true, true, true, true, true, true, true, true, true, false, false, false] rfl rfl (take_ofW HT_.out HW_.out (by kernel_rfl)) (fun _ _ _ h => h) (Or.inl ⟨by rfl, ?_⟩) hHeld ?_ ?_
           rotate_left
           ·rintro w' ⟨s0, s1, s2, s3, s4, s5, s6, s7, s8, s9, s10, s11, s12, s13, s14, s15, s16, s17, s18, s19⟩
            go_simp
            with_reducible rfl
           rotate_left
           ·simp only [Act.put, List.setIfInBounds_toArray, List.set_cons_zero, List.set_cons_succ, i64_w, i32_w]
            rfl
           refine one_ (i := 26) (N := some 56) #[true, true, true, true, true, true, true, true, true, true, true, true, true, true, true, true, true, true, true, true, true, true, true, true, true, true, true, false, false] rfl rfl (one_of HT_.out (by kernel_rfl)) (by decide) (fun K hK => ?_)
           refine goes_ Try.func23 (by kernel_rfl) rfl #[.agg #[.slice A588_1 ((rd_T63 l0_0 x5_2).f1.f0).length c588_1, .int .i64 ((rd_T63 l0_0 x5_2).f1.f1), .slice A588_3 ((rd_T63 l0_0 x5_2).f1.f2).length c588_3], .agg #[.slice A589_1 ((rd_T63 l1_0 x5_2).f1.f0).length c589_1, .int .i64 ((rd_T63 l1_0 x5_2).f1.f1), .slice A589_3 ((rd_T63 l1_0 x5_2).f1.f2).length c589_3]] (by rfl) rfl rfl (by (try simp only [List.map_toArray, List.map_cons, List.map_nil]); first | done | rfl | (simp only [List.length_drop, List.length_take]; rfl)) ?_
           with_reducible refine (skiarearef19_Same.calls k2 _ _ ((rd_T63 l0_0 x5_2).f1.f0) ((rd_T63 l0_0 x5_2).f1.f1) _ _ ((rd_T63 l0_0 x5_2).f1.f2) _ _ ((rd_T63 l1_0 x5_2).f1.f0) ((rd_T63 l1_0 x5_2).f1.f1) _ _ ((rd_T63 l1_0 x5_2).f1.f2) false _ ?side1 ?side2 ?side3 ?side4 ?side5 ?side6 ?side7 ?side8 A18.out).mono ?_
           (case side1 => exact kC_ (Kd.C_below HR590_1.out HB.out))
           (case side2 => exact HC590_1.out)
           (case side3 => exact kC_ (Kd.C_below HR590_3.out HB.out))
           (case side4 => exact HC590_3.out)
           (case side5 => exact kC_ (Kd.C_below HR591_1.out HB.out))
           (case side6 => exact HC591_1.out)
           (case side7 => exact kC_ (Kd.C_below HR591_3.out HB.out))
           (case side8 => exact HC591_3.out)
           rintro e w27 ⟨rfl, hb⟩
           refine ⟨_, rfl, ?_⟩
           have n0_ := a_ (blk_below (bk_ BK586.out) hb)
           have n1_ := a_ (blk_below (bk_ BK587.out) hb)
           have n2_ := a_ (below_step bel_ hb)
           clear BK586
           clear BK587
           clear HB
           have BK586 := n0_
           have BK587 := n1_
           have HB := n2_
           clear n0_ n1_ n2_
           (try clear hb)
           (try clear hb2)
           (try clear hk)
           (try clear hi)
           refine hK.out _ _ ⟨(blk_cell BK586.out 0).trans rfl, (blk_cell BK586.out 1).trans rfl, (blk_cell BK587.out 0).trans rfl, (blk_cell BK587.out 1).trans rfl, (pw_cell_below HB.out hw588_0), (pw_cell_below HB.out hw588_1), (pw_cell_below HB.out hw588_2), (pw_cell_below HB.out hw588_3), (pw_cell_below HB.out hw589_0), (pw_cell_below HB.out hw589_1), (pw_cell_below HB.out hw589_2), (pw_cell_below HB.out hw589_3), (pw_cell_below HB.out hw590_0), (pw_cell_below HB.out hw590_1), (pw_cell_below HB.out hw590_2), (pw_cell_below HB.out hw590_3), (pw_cell_below HB.out hw591_0), (pw_cell_below HB.out hw591_1), (pw_cell_below HB.out hw591_2), (pw_cell_below HB.out hw591_3)⟩ (fun hHeld => ?_)
           clear hK K
           refine norm_ (a' := ?_) ?_ ?_
           rotate_left
           ·show Act.put _ (some 56) _ = _
            simp only [Act.put, List.setIfInBounds_toArray, List.set_cons_zero, List.set_cons_succ, i64_w, i32_w]
            rfl
           refine pq_ 27 (some 57) #[true, true, true, true, true, true, true, true, true, true, true, true, true, true, true, true, true, true, true, true, true, true, true, true, true, true, true, true, false] ?_
           refine pq_ 28 (some 58) #[true, true, true, true, true, true, true, true, true, true, true, true, true, true, true, true, true, true, true, true, true, true, true, true, true, true, true, true, true] ?_
           refine done_ (done_of HT_.out (by kernel_rfl)) ?_
           try go_wp2
           go_ret
           exact ⟨by first | rfl | (simp [errW_none, errW_some] <;> rfl) | (simp [*, errW_none, errW_some] <;> rfl), by repeat (first | (with_reducible first | exact HB.out | apply below_alloc | apply pw_below_drewN | apply below_drew1 | refine below_set ?_ GE586.out | refine below_set ?_ GE587.out) | exact HB.out)⟩
         ·rw [if_neg c17] at H
          have c17b0 : (((rd_T63 l0_0 x5_2).f0) == ((rd_T63 l1_0 x5_2).f0)) = false := beq_eq_false_iff_ne.mpr c17
          have c17b1 : (((rd_T63 l0_0 x5_2).f0) != ((rd_T63 l1_0 x5_2).f0)) = true := bne_iff_ne.mpr c17
          obtain rfl := Option.some.inj H
          have hnb28 := NB586_587.out
          have hnc28 := NB587_586.out
          have hcz29_0 := cz_ BK586 0
          have hcz29_1 := cz_ BK586 1
          have hfz29_0 := fz_ BK586 0
          have hfz29_1 := fz_ BK586 1
          try go_wp2
          have n0_ := a_ (blk_drew BK586.out)
          have n1_ := a_ (blk_drew BK587.out)
          have n2_ := a_ (below_drew1 HB.out)
          clear BK586
          clear BK587
          clear HB
          have BK586 := n0_
          have BK587 := n1_
          have HB := n2_
          clear n0_ n1_ n2_
          have p588 : 0 ≤ (x5_2 : Int) := od_
          have q588 : x5_2 < (l0_0.length : Int) := od_
          obtain ⟨ad588, A588_1, c588_1, A588_3, c588_3, e588, hx588_0, hx588_1, hx588_2, hx588_3, hl588_1, hi588_1, hl588_3, hi588_3⟩ := at_T63 HR0_0.out x5_2 p588 q588
          have hw588_3 := hx588_3
          have hw588_2 := hx588_2
          have hw588_1 := hx588_1
          have hw588_0 := hx588_0
          cases e588
          replace hx588_0 := pc_ hx588_0
          replace hx588_1 := pc_ hx588_1
          replace hx588_2 := pc_ hx588_2
          replace hx588_3 := pc_ hx588_3
          have HR588_1 := a_ hi588_1
          have HC588_1 := a_ hl588_1
          clear hi588_1 hl588_1
          have HR588_3 := a_ hi588_3
          have HC588_3 := a_ hl588_3
          clear hi588_3 hl588_3
          replace p588 := eq_true p588
          replace q588 := eq_true q588
          have p589 : 0 ≤ (x5_2 : Int) := od_
          have q589 : x5_2 < (l1_0.length : Int) := od_
          obtain ⟨ad589, A589_1, c589_1, A589_3, c589_3, e589, hx589_0, hx589_1, hx589_2, hx589_3, hl589_1, hi589_1, hl589_3, hi589_3⟩ := at_T63 HR1_0.out x5_2 p589 q589
          have hw589_3 := hx589_3
          have hw589_2 := hx589_2
          have hw589_1 := hx589_1
          have hw589_0 := hx589_0
          cases e589
          replace hx589_0 := pc_ hx589_0
          replace hx589_1 := pc_ hx589_1
          replace hx589_2 := pc_ hx589_2
          replace hx589_3 := pc_ hx589_3
          have HR589_1 := a_ hi589_1
          have HC589_1 := a_ hl589_1
          clear hi589_1 hl589_1
          have HR589_3 := a_ hi589_3
          have HC589_3 := a_ hl589_3
          clear hi589_3 hl589_3
          replace p589 := eq_true p589
          replace q589 := eq_true q589
          refine start_ (n := 29) (S := fun w' => w'.cell? ⟨gb586, 0, none⟩ = some (.slice (some ad588) l0_0.length c0_0) ∧ w'.cell? ⟨gb586, 1, none⟩ = some (.slice A0_1 l0_1.length c0_1) ∧ w'.cell? ⟨gb587, 0, none⟩ = some (.slice (some ad589) l1_0.length c1_0) ∧ w'.cell? ⟨gb587, 1, none⟩ = some (.slice A1_1 l1_1.length c1_1) ∧ w'.cell? (ad588.add ((x5_2).toNat * 4)) = some (.int .i64 ((rd_T63 l0_0 x5_2).f0)) ∧ w'.cell? ⟨(ad588.add ((x5_2).toNat * 4)).block, (ad588.add ((x5_2).toNat * 4)).off + 1, none⟩ = some (.slice A588_1 ((rd_T63 l0_0 x5_2).f1.f0).length c588_1) ∧ w'.cell? ⟨(ad588.add ((x5_2).toNat * 4)).block, (ad588.add ((x5_2).toNat * 4)).off + 2, none⟩ = some (.int .i64 ((rd_T63 l0_0 x5_2).f1.f1)) ∧ w'.cell? ⟨(ad588.add ((x5_2).toNat * 4)).block, (ad588.add ((x5_2).toNat * 4)).off + 3, none⟩ = some (.slice A588_3 ((rd_T63 l0_0 x5_2).f1.f2).length c588_3) ∧ w'.cell? (ad589.add ((x5_2).toNat * 4)) = some (.int .i64 ((rd_T63 l1_0 x5_2).f0)) ∧ w'.cell? ⟨(ad589.add ((x5_2).toNat * 4)).block, (ad589.add ((x5_2).toNat * 4)).off + 1, none⟩ = some (.slice A589_1 ((rd_T63 l1_0 x5_2).f1.f0).length c589_1) ∧ w'.cell? ⟨(ad589.add ((x5_2).toNat * 4)).block, (ad589.add ((x5_2).toNat * 4)).off + 2, none⟩ = some (.int .i64 ((rd_T63 l1_0 x5_2).f1.f1)) ∧ w'.cell? ⟨(ad589.add ((x5_2).toNat * 4)).block, (ad589.add ((x5_2).toNat * 4)).off + 3, none⟩ = some (.slice A589_3 ((rd_T63 l1_0 x5_2).f1.f2).length c589_3)) (ds := []) #[false, false, false, false, false, false, false, false, false, false, false, false, false, false, false, false, false, false, false, false, false, false, false, false, false, false, false, false, false] (by kernel_rfl) rfl rfl ⟨(blk_cell BK586.out 0).trans rfl, (blk_cell BK586.out 1).trans rfl, (blk_cell BK587.out 0).trans rfl, (blk_cell BK587.out 1).trans rfl, (pw_cell_below HB.out hw588_0), (pw_cell_below HB.out hw588_1), (pw_cell_below HB.out hw588_2), (pw_cell_below HB.out hw588_3), (pw_cell_below HB.out hw589_0), (pw_cell_below HB.out hw589_1), (pw_cell_below HB.out hw589_2), (pw_cell_below HB.out hw589_3)⟩ (fun hHeld => ?_); refine with_tabW skiarearef53_Same.tab6 skiarearef53_Same.bits6 (fun HT_ HW_ => ?_)
          generalize wr.drew = w30 at BK586 BK587 HB HR588_1 HR588_3 HR589_1 HR589_3 hx588_0 hx588_1 hx588_2 hx588_3 hx589_0 hx589_1 hx589_2 hx589_3 hHeld ⊢
          refine pq_ 0 (some 30) #[true, false, false, false, false, false, false, false, false, false, false, false, false, false, false, false, false, false, false, false, false, false, false, false, false, false, false, false, false] ?_
          refine pq_ 2 (some 32) #[true, false, true, false, false, false, false, false, false, false, false, false, false, false, false, false, false, false, false, false, false, false, false, false, false, false, false, false, false] ?_
          refine pq_ 6 (some 36) #[true, false, true, false, false, false, true, false, false, false, false, false, false, false, false, false, false, false, false, false, false, false, false, false, false, false, false, false, false] ?_
          refine pq_ 8 (some 38) #[true, false, true, false, false, false, true, false, true, false, false, false, false, false, false, false, false, false, false, false, false, false, false, false, false, false, false, false, false] ?_
          refine take_ (i := 1) (N := some 31) (v := ?_) (a' := ?_) #[true, true, true, false, false, false, true, false, true, false, false, false, false, false, false, false, false, false, false, false, false, false, false, false, false, false, false, false, false] rfl rfl (take_ofW HT_.out HW_.out (by kernel_rfl)) (fun _ _ _ h => h) (Or.inl ⟨by rfl, ?_⟩) hHeld ?_ ?_
          rotate_left
          ·rintro w' ⟨s0, s1, s2, s3, s4, s5, s6, s7, s8, s9, s10, s11⟩
           go_simp
           with_reducible rfl
          rotate_left
          ·simp only [Act.put, List.setIfInBounds_toArray, List.set_cons_zero, List.set_cons_succ, i64_w, i32_w]
           rfl
          refine pq_ 3 (some 33) #[true, true, true, true, false, false, true, false, true, false, false, false, false, false, false, false, false, false, false, false, false, false, false, false, false, false, false, false, false] ?_
          refine pq_ 4 (some 34) #[true, true, true, true, true, false, true, false, true, false, false, false, false, false, false, false, false, false, false, false, false, false, false, false, false, false, false, false, false] ?_
          refine take_ (i := 5) (N := some 35) (v := ?_) (a' := ?_) #[true, true, true, true, true, true, true, false, true, false, false, false, false, false, false, false, false, false, false, false, false, false, false, false, false, false, false, false, false] rfl rfl (take_ofW HT_.out HW_.out (by kernel_rfl)) (fun _ _ _ h => h) (Or.inl ⟨by rfl, ?_⟩) hHeld ?_ ?_
          rotate_left
          ·rintro w' ⟨s0, s1, s2, s3, s4, s5, s6, s7, s8, s9, s10, s11⟩
           go_simp
           with_reducible rfl
          rotate_left
          ·simp only [Act.put, List.setIfInBounds_toArray, List.set_cons_zero, List.set_cons_succ, i64_w, i32_w]
           rfl
          refine take_ (i := 7) (N := some 37) (v := ?_) (a' := ?_) #[true, true, true, true, true, true, true, true, true, false, false, false, false, false, false, false, false, false, false, false, false, false, false, false, false, false, false, false, false] rfl rfl (take_ofW HT_.out HW_.out (by kernel_rfl)) (fun _ _ _ h => h) (Or.inl ⟨by rfl, ?_⟩) hHeld ?_ ?_
          rotate_left
          ·rintro w' ⟨s0, s1, s2, s3, s4, s5, s6, s7, s8, s9, s10, s11⟩
           go_simp
           with_reducible rfl
          rotate_left
          ·simp only [Act.put, List.setIfInBounds_toArray, List.set_cons_zero, List.set_cons_succ, i64_w, i32_w]
           rfl
          refine pq_ 9 (some 39) #[true, true, true, true, true, true, true, true, true, true, false, false, false, false, false, false, false, false, false, false, false, false, false, false, false, false, false, false, false] ?_
          refine pq_ 10 (some 40) #[true, true, true, true, true, true, true, true, true, true, true, false, false, false, false, false, false, false, false, false, false, false, false, false, false, false, false, false, false] ?_
          refine take_ (i := 11) (N := some 41) (v := ?_) (a' := ?_) #[true, true, true, true, true, true, true, true, true, true, true, true, false, false, false, false, false, false, false, false, false, false, false, false, false, false, false, false, false] rfl rfl (take_ofW HT_.out HW_.out (by kernel_rfl)) (fun _ _ _ h => h) (Or.inl ⟨by rfl, ?_⟩) hHeld ?_ ?_
          rotate_left
          ·rintro w' ⟨s0, s1, s2, s3, s4, s5, s6, s7, s8, s9, s10, s11⟩
           go_simp
           with_reducible rfl
          rotate_left
          ·simp only [Act.put, List.setIfInBounds_toArray, List.set_cons_zero, List.set_cons_succ, i64_w, i32_w]
           rfl
          refine pq_ 12 (some 42) #[true, true, true, true, true, true, true, true, true, true, true, true, true, false, false, false, false, false, false, false, false, false, false, false, false, false, false, false, false] ?_
          refine pq_ 13 (some 43) #[true, true, true, true, true, true, true, true, true, true, true, true, true, true, false, false, false, false, false, false, false, false, false, false, false, false, false, false, false] ?_
          refine pure_ (i := 14) (N := some 44) (v := undef) (a' := ?_) #[true, true, true, true, true, true, true, true, true, true, true, true, true, true, true, false, false, false, false, false, false, false, false, false, false, false, false, false, false] rfl rfl (any_of HT_.out (by kernel_rfl)) (fun _ _ _ h => h) (Or.inr ⟨by rfl, rfl⟩) ?_ ?_
          rotate_left
          ·simp only [Act.put, List.setIfInBounds_toArray, List.set_cons_zero, List.set_cons_succ, i64_w, i32_w]
           rfl
          refine pure_ (i := 15) (N := some 45) (v := undef) (a' := ?_) #[true, true, true, true, true, true, true, true, true, true, true, true, true, true, true, true, false, false, false, false, false, false, false, false, false, false, false, false, false] rfl rfl (any_of HT_.out (by kernel_rfl)) (fun _ _ _ h => h) (Or.inr ⟨by rfl, rfl⟩) ?_ ?_
          rotate_left
          ·simp only [Act.put, List.setIfInBounds_toArray, List.set_cons_zero, List.set_cons_succ, i64_w, i32_w]
           rfl
          refine pure_ (i := 16) (N := some 46) (v := undef) (a' := ?_) #[true, true, true, true, true, true, true, true, true, true, true, true, true, true, true, true, true, false, false, false, false, false, false, false, false, false, false, false, false] rfl rfl (any_of HT_.out (by kernel_rfl)) (fun _ _ _ h => h) (Or.inr ⟨by rfl, rfl⟩) ?_ ?_
          rotate_left
          ·simp only [Act.put, List.setIfInBounds_toArray, List.set_cons_zero, List.set_cons_succ, i64_w, i32_w]
           rfl
          refine pure_ (i := 17) (N := some 47) (v := undef) (a' := ?_) #[true, true, true, true, true, true, true, true, true, true, true, true, true, true, true, true, true, true, false, false, false, false, false, false, false, false, false, false, false] rfl rfl (any_of HT_.out (by kernel_rfl)) (fun _ _ _ h => h) (Or.inr ⟨by rfl, rfl⟩) ?_ ?_
          rotate_left
          ·simp only [Act.put, List.setIfInBounds_toArray, List.set_cons_zero, List.set_cons_succ, i64_w, i32_w]
           rfl
          refine pure_ (i := 18) (N := some 48) (v := undef) (a' := ?_) #[true, true, true, true, true, true, true, true, true, true, true, true, true, true, true, true, true, true, true, false, false, false, false, false, false, false, false, false, false] rfl rfl (any_of HT_.out (by kernel_rfl)) (fun _ _ _ h => h) (Or.inr ⟨by rfl, rfl⟩) ?_ ?_
          rotate_left
          ·simp only [Act.put, List.setIfInBounds_toArray, List.set_cons_zero, List.set_cons_succ, i64_w, i32_w]
           rfl
          refine pure_ (i := 19) (N := some 49) (v := undef) (a' := ?_) #[true, true, true, true, true, true, true, true, true, true, true, true, true, true, true, true, true, true, true, true, false, false, false, false, false, false, false, false, false] rfl rfl (any_of HT_.out (by kernel_rfl)) (fun _ _ _ h => h) (Or.inr ⟨by rfl, rfl⟩) ?_ ?_
          rotate_left
          ·simp only [Act.put, List.setIfInBounds_toArray, List.set_cons_zero, List.set_cons_succ, i64_w, i32_w]
           rfl
          refine pure_ (i := 20) (N := some 50) (v := undef) (a' := ?_) #[true, true, true, true, true, true, true, true, true, true, true, true, true, true, true, true, true, true, true, true, true, false, false, false, false, false, false, false, false] rfl rfl (any_of HT_.out (by kernel_rfl)) (fun _ _ _ h => h) (Or.inr ⟨by rfl, rfl⟩) ?_ ?_
          rotate_left
          ·simp only [Act.put, List.setIfInBounds_toArray, List.set_cons_zero, List.set_cons_succ, i64_w, i32_w]
           rfl
          refine pure_ (i := 21) (N := some 51) (v := undef) (a' := ?_) #[true, true, true, true, true, true, true, true, true, true, true, true, true, true, true, true, true, true, true, true, true, true, false, false, false, false, false, false, false] rfl rfl (any_of HT_.out (by kernel_rfl)) (fun _ _ _ h => h) (Or.inr ⟨by rfl, rfl⟩) ?_ ?_
          rotate_left
          ·simp only [Act.put, List.setIfInBounds_toArray, List.set_cons_zero, List.set_cons_succ, i64_w, i32_w]
           rfl
          refine pure_ (i := 22) (N := some 52) (v := undef) (a' := ?_) #[true, true, true, true, true, true, true, true, true, true, true, true, true, true, true, true, true, true, true, true, true, true, true, false, false, false, false, false, false] rfl rfl (any_of HT_.out (by kernel_rfl)) (fun _ _ _ h => h) (Or.inr ⟨by rfl, rfl⟩) ?_ ?_
          rotate_left
          ·simp only [Act.put, List.setIfInBounds_toArray, List.set_cons_zero, List.set_cons_succ, i64_w, i32_w]
           rfl
          refine pure_ (i := 23) (N := some 53) (v := undef) (a' := ?_) #[true, true, true, true, true, true, true, true, true, true, true, true, true, true, true, true, true, true, true, true, true, true, true, true, false, false, false, false, false] rfl rfl (any_of HT_.out (by kernel_rfl)) (fun _ _ _ h => h) (Or.inr ⟨by rfl, rfl⟩) ?_ ?_
          rotate_left
          ·simp only [Act.put, List.setIfInBounds_toArray, List.set_cons_zero, List.set_cons_succ, i64_w, i32_w]
           rfl
          refine pure_ (i := 24) (N := some 54) (v := undef) (a' := ?_) #[true, true, true, true, true, true, true, true, true, true, true, true, true, true, true, true, true, true, true, true, true, true, true, true, true, false, false, false, false] rfl rfl (any_of HT_.out (by kernel_rfl)) (fun _ _ _ h => h) (Or.inr ⟨by rfl, rfl⟩) ?_ ?_
          rotate_left
          ·simp only [Act.put, List.setIfInBounds_toArray, List.set_cons_zero, List.set_cons_succ, i64_w, i32_w]
           rfl
          refine pure_ (i := 25) (N := some 55) (v := undef) (a' := ?_) #[true, true, true, true, true, true, true, true, true, true, true, true, true, true, true, true, true, true, true, true, true, true, true, true, true, true, false, false, false] rfl rfl (any_of HT_.out (by kernel_rfl)) (fun _ _ _ h => h) (Or.inr ⟨by rfl, rfl⟩) ?_ ?_
          rotate_left
          ·simp only [Act.put, List.setIfInBounds_toArray, List.set_cons_zero, List.set_cons_succ, i64_w, i32_w]
           rfl
          refine pure_ (i := 26) (N := some 56) (v := undef) (a' := ?_) #[true, true, true, true, true, true, true, true, true, true, true, true, true, true, true, true, true, true, true, true, true, true, true, true, true, true, true, false, false] rfl rfl (any_of HT_.out (by kernel_rfl)) (fun _ _ _ h => h) (Or.inr ⟨by rfl, rfl⟩) ?_ ?_
          rotate_left
          ·simp only [Act.put, List.setIfInBounds_toArray, List.set_cons_zero, List.set_cons_succ, i64_w, i32_w]
           rfl
          refine pure_ (i := 27) (N := some 57) (v := undef) (a' := ?_) #[true, true, true, true, true, true, true, true, true, true, true, true, true, true, true, true, true, true, true, true, true, true, true, true, true, true, true, true, false] rfl rfl (any_of HT_.out (by kernel_rfl)) (fun _ _ _ h => h) (Or.inr ⟨by rfl, rfl⟩) ?_ ?_
          rotate_left
          ·simp only [Act.put, List.setIfInBounds_toArray, List.set_cons_zero, List.set_cons_succ, i64_w, i32_w]
           rfl
          refine pq_ 28 (some 58) #[true, true, true, true, true, true, true, true, true, true, true, true, true, true, true, true, true, true, true, true, true, true, true, true, true, true, true, true, true] ?_
          refine done_ (done_of HT_.out (by kernel_rfl)) ?_
          try go_wp2
          go_ret
          exact ⟨by first | rfl | (simp [errW_none, errW_some] <;> rfl) | (simp [*, errW_none, errW_some] <;> rfl), by repeat (first | (with_reducible first | exact HB.out | apply below_alloc | apply pw_below_drewN | apply below_drew1 | refine below_set ?_ GE586.out | refine below_set ?_ GE587.out) | exact HB.out)⟩
        ·rw [if_neg c16] at H
         exact absurd H (by simp)
       ·rw [if_neg c15] at H
        exact absurd H (by simp)
      ·rw [if_neg c14] at H
       have c14b0 : decide (x5_2 < (l0_0.length : Int)) = false := decide_eq_false c14
       clear c14
       have H' := a_ H
       clear H
       have hnb31 := NB586_587.out
       have hnc31 := NB587_586.out
       have hcz32_0 := cz_ BK586 0
       have hcz32_1 := cz_ BK586 1
       have hfz32_0 := fz_ BK586 0
       have hfz32_1 := fz_ BK586 1
       go_wp2
       go_loopg [6] k2 (fun kq v6 w' => ∃ (x6_3 : Int), v6 = .int .i64 x6_3 ∧ Aside0 (skiarearef53_Same.l1 kq x6_3 l0_0 l0_1 l1_0 l1_1 = some r) ∧ Aside0 (kq ≤ k2) ∧ Aside0 (w'.heap[gb586]? = some (.cells #[(.slice A0_0 l0_0.length c0_0), (.slice A0_1 l0_1.length c0_1)] 48 (0, 0))) ∧ Aside0 (w'.heap[gb587]? = some (.cells #[(.slice A1_0 l1_0.length c1_0), (.slice A1_1 l1_1.length c1_1)] 48 (0, 0))) ∧ Aside0 (Below w.heap.size w w'))
       case atStart => exact ⟨(0), (by first | rfl | (simp; done) | (simp [*]; done)), H', ⟨Nat.le_refl _⟩, ⟨by exact BK586.out⟩, ⟨by exact BK587.out⟩, ⟨by repeat (first | (with_reducible first | exact HB.out | apply below_alloc | apply pw_below_drewN | apply below_drew1 | refine below_set ?_ GE586.out | refine below_set ?_ GE587.out) | exact HB.out)⟩⟩
       case round =>
        clear H'
        try clear c1
        try clear c2
        try clear p2
        try clear c3
        try clear c5
        try clear p5
        try clear q5
        try clear hx5
        try clear c14
        try clear c14b0
        try clear c15
        try clear c16
        try clear c17
        try clear c17b0
        try clear c17b1
        try clear c23
        try clear c28
        try clear c31
        try clear hcz29_0
        try clear hcz29_1
        try clear hcz32_0
        try clear hcz32_1
        try clear hfz29_0
        try clear hfz29_1
        try clear hfz32_0
        try clear hfz32_1
        try clear hx588_0
        try clear hx588_1
        try clear hx588_2
        try clear hx588_3
        try clear hx589_0
        try clear hx589_1
        try clear hx589_2
        try clear hx589_3
        try clear hx590_0
        try clear hx590_1
        try clear hx590_2
        try clear hx590_3
        try clear hx591_0
        try clear hx591_1
        try clear hx591_2
        try clear hx591_3
        try clear p588
        try clear p589
        try clear p590
        try clear p591
        try clear q588
        try clear q589
        try clear q590
        try clear q591
        obtain ⟨x6_3, rfl, HA, HK3, BK586, BK587, HB⟩ := hrel
        cases gk with
        | zero => exact absurd HA.out (by simp [skiarearef53_Same.l1])
        | succ k3 =>
         have H := HA.out
         clear HA
         simp only [skiarearef53_Same.l1] at H
         by_cases c33 : x6_3 < (l0_1.length : Int)
         ·rw [if_pos c33] at H
          have c33b0 : decide (x6_3 < (l0_1.length : Int)) = true := decide_eq_true c33
          clear c33
          by_cases c34 : 0 ≤ x6_3
          ·rw [if_pos c34] at H
           have c34b0 : decide (0 ≤ x6_3) = true := decide_eq_true c34
           clear c34
           by_cases c35 : x6_3 < (l1_1.length : Int)
           ·rw [if_pos c35] at H
            have c35b0 : decide (x6_3 < (l1_1.length : Int)) = true := decide_eq_true c35
            clear c35
            by_cases c36 : (!(((rd_T56 l0_1 x6_3).f0) == ((rd_T56 l1_1 x6_3).f0)) || (!(((rd_T56 l0_1 x6_3).f1) == ((rd_T56 l1_1 x6_3).f1)) || (!(((rd_T56 l0_1 x6_3).f2) == ((rd_T56 l1_1 x6_3).f2))))) = true
            ·rw [if_pos c36] at H
             have c36b0 : (!(((rd_T56 l0_1 x6_3).f0) == ((rd_T56 l1_1 x6_3).f0)) || (!(((rd_T56 l0_1 x6_3).f1) == ((rd_T56 l1_1 x6_3).f1)) || (!(((rd_T56 l0_1 x6_3).f2) == ((rd_T56 l1_1 x6_3).f2))))) = true := c36
             clear c36
             obtain rfl := Option.some.inj H
             have hnb37 := NB586_587.out
             have hnc37 := NB587_586.out
             have hcz38_0 := cz_ BK586 0
             have hcz38_1 := cz_ BK586 1
             have hfz38_0 := fz_ BK586 0
             have hfz38_1 := fz_ BK586 1
             try go_wp2
             have n0_ := a_ (blk_drew BK586.out)
             have n1_ := a_ (blk_drew BK587.out)
             have n2_ := a_ (below_drew1 HB.out)
             clear BK586
             clear BK587
             clear HB
             have BK586 := n0_
             have BK587 := n1_
             have HB := n2_
             clear n0_ n1_ n2_
             have p593 : 0 ≤ (x6_3 : Int) := od_
             have q593 : x6_3 < (l0_1.length : Int) := od_
             obtain ⟨ad593, e593, hx593_0, hx593_1, hx593_2⟩ := at_T56 HR0_1.out x6_3 p593 q593
             have hw593_2 := hx593_2
             have hw593_1 := hx593_1
             have hw593_0 := hx593_0
             cases e593
             replace hx593_0 := pc_ hx593_0
             replace hx593_1 := pc_ hx593_1
             replace hx593_2 := pc_ hx593_2
             replace p593 := eq_true p593
             replace q593 := eq_true q593
             have p594 : 0 ≤ (x6_3 : Int) := od_
             have q594 : x6_3 < (l1_1.length : Int) := od_
             obtain ⟨ad594, e594, hx594_0, hx594_1, hx594_2⟩ := at_T56 HR1_1.out x6_3 p594 q594
             have hw594_2 := hx594_2
             have hw594_1 := hx594_1
             have hw594_0 := hx594_0
             cases e594
             replace hx594_0 := pc_ hx594_0
             replace hx594_1 := pc_ hx594_1
             replace hx594_2 := pc_ hx594_2
             replace p594 := eq_true p594
             replace q594 := eq_true q594
             refine start_ (n := 11) (S := fun w' => w'.cell? ⟨gb586, 0, none⟩ = some (.slice A0_0 l0_0.length c0_0) ∧ w'.cell? ⟨gb586, 1, none⟩ = some (.slice (some ad593) l0_1.length c0_1) ∧ w'.cell? ⟨gb587, 0, none⟩ = some (.slice A1_0 l1_0.length c1_0) ∧ w'.cell? ⟨gb587, 1, none⟩ = some (.slice (some ad594) l1_1.length c1_1) ∧ w'.cell? (ad593.add ((x6_3).toNat * 3)) = some (.int .i64 ((rd_T56 l0_1 x6_3).f0)) ∧ w'.cell? ⟨(ad593.add ((x6_3).toNat * 3)).block, (ad593.add ((x6_3).toNat * 3)).off + 1, none⟩ = some (.int .i64 ((rd_T56 l0_1 x6_3).f1)) ∧ w'.cell? ⟨(ad593.add ((x6_3).toNat * 3)).block, (ad593.add ((x6_3).toNat * 3)).off + 2, none⟩ = some (.int .i64 ((rd_T56 l0_1 x6_3).f2)) ∧ w'.cell? (ad594.add ((x6_3).toNat * 3)) = some (.int .i64 ((rd_T56 l1_1 x6_3).f0)) ∧ w'.cell? ⟨(ad594.add ((x6_3).toNat * 3)).block, (ad594.add ((x6_3).toNat * 3)).off + 1, none⟩ = some (.int .i64 ((rd_T56 l1_1 x6_3).f1)) ∧ w'.cell? ⟨(ad594.add ((x6_3).toNat * 3)).block, (ad594.add ((x6_3).toNat * 3)).off + 2, none⟩ = some (.int .i64 ((rd_T56 l1_1 x6_3).f2))) (ds := []) #[false, false, false, false, false, false, false, false, false, false, false] (by kernel_rfl) rfl rfl ⟨(blk_cell BK586.out 0).trans rfl, (blk_cell BK586.out 1).trans rfl, (blk_cell BK587.out 0).trans rfl, (blk_cell BK587.out 1).trans rfl, (pw_cell_below HB.out hw593_0), (pw_cell_below HB.out hw593_1), (pw_cell_below HB.out hw593_2), (pw_cell_below HB.out hw594_0), (pw_cell_below HB.out hw594_1), (pw_cell_below HB.out hw594_2)⟩ (fun hHeld => ?_); refine with_tabW skiarearef53_Same.tab11 skiarearef53_Same.bits11 (fun HT_ HW_ => ?_)
             generalize wr.drew = w39 at BK586 BK587 HB hx593_0 hx593_1 hx593_2 hx594_0 hx594_1 hx594_2 hHeld ⊢
             refine pq_ 0 (some 66) #[true, false, false, false, false, false, false, false, false, false, false] ?_
             refine pq_ 2 (some 68) #[true, false, true, false, false, false, false, false, false, false, false] ?_
             refine pq_ 5 (some 71) #[true, false, true, false, false, true, false, false, false, false, false] ?_
             refine pq_ 7 (some 73) #[true, false, true, false, false, true, false, true, false, false, false] ?_
             refine take_ (i := 1) (N := some 67) (v := ?_) (a' := ?_) #[true, true, true, false, false, true, false, true, false, false, false] rfl rfl (take_ofW HT_.out HW_.out (by kernel_rfl)) (fun _ _ _ h => h) (Or.inl ⟨by rfl, ?_⟩) hHeld ?_ ?_
             rotate_left
             ·rintro w' ⟨s0, s1, s2, s3, s4, s5, s6, s7, s8, s9⟩
              go_simp
              with_reducible rfl
             rotate_left
             ·simp only [Act.put, List.setIfInBounds_toArray, List.set_cons_zero, List.set_cons_succ, i64_w, i32_w]
              rfl
             refine pq_ 3 (some 69) #[true, true, true, true, false, true, false, true, false, false, false] ?_
             refine take_ (i := 4) (N := some 70) (v := ?_) (a' := ?_) #[true, true, true, true, true, true, false, true, false, false, false] rfl rfl (take_ofW HT_.out HW_.out (by kernel_rfl)) (fun _ _ _ h => h) (Or.inl ⟨by rfl, ?_⟩) hHeld ?_ ?_
             rotate_left
             ·rintro w' ⟨s0, s1, s2, s3, s4, s5, s6, s7, s8, s9⟩
              go_simp
              with_reducible rfl
             rotate_left
             ·simp only [Act.put, List.setIfInBounds_toArray, List.set_cons_zero, List.set_cons_succ, i64_w, i32_w]
              rfl
             refine take_ (i := 6) (N := some 72) (v := ?_) (a' := ?_) #[true, true, true, true, true, true, true, true, false, false, false] rfl rfl (take_ofW HT_.out HW_.out (by kernel_rfl)) (fun _ _ _ h => h) (Or.inl ⟨by rfl, ?_⟩) hHeld ?_ ?_
             rotate_left
             ·rintro w' ⟨s0, s1, s2, s3, s4, s5, s6, s7, s8, s9⟩
              go_simp
              with_reducible rfl
             rotate_left
             ·simp only [Act.put, List.setIfInBounds_toArray, List.set_cons_zero, List.set_cons_succ, i64_w, i32_w]
              rfl
             refine pq_ 8 (some 74) #[true, true, true, true, true, true, true, true, true, false, false] ?_
             refine take_ (i := 9) (N := some 75) (v := ?_) (a' := ?_) #[true, true, true, true, true, true, true, true, true, true, false] rfl rfl (take_ofW HT_.out HW_.out (by kernel_rfl)) (fun _ _ _ h => h) (Or.inl ⟨by rfl, ?_⟩) hHeld ?_ ?_
             rotate_left
             ·rintro w' ⟨s0, s1, s2, s3, s4, s5, s6, s7, s8, s9⟩
              go_simp
              with_reducible rfl
             rotate_left
             ·simp only [Act.put, List.setIfInBounds_toArray, List.set_cons_zero, List.set_cons_succ, i64_w, i32_w]
              rfl
             refine pq_ 10 (some 76) #[true, true, true, true, true, true, true, true, true, true, true] ?_
             refine done_ (done_of HT_.out (by kernel_rfl)) ?_
             try go_wp2
             go_ret
             exact ⟨by first | rfl | (simp [errW_none, errW_some] <;> rfl) | (simp [*, errW_none, errW_some] <;> rfl), by repeat (first | (with_reducible first | exact HB.out | apply below_alloc | apply pw_below_drewN | apply below_drew1 | refine below_set ?_ GE586.out | refine below_set ?_ GE587.out) | exact HB.out)⟩
            ·rw [if_neg c36] at H
             have c36b0 : (!(((rd_T56 l0_1 x6_3).f0) == ((rd_T56 l1_1 x6_3).f0)) || (!(((rd_T56 l0_1 x6_3).f1) == ((rd_T56 l1_1 x6_3).f1)) || (!(((rd_T56 l0_1 x6_3).f2) == ((rd_T56 l1_1 x6_3).f2))))) = false := by simpa using c36
             clear c36
             have H' := a_ H
             clear H
             have hnb40 := NB586_587.out
             have hnc40 := NB587_586.out
             have hcz41_0 := cz_ BK586 0
             have hcz41_1 := cz_ BK586 1
             have hfz41_0 := fz_ BK586 0
             have hfz41_1 := fz_ BK586 1
             try go_wp2
             have n0_ := a_ (blk_drew BK586.out)
             have n1_ := a_ (blk_drew BK587.out)
             have n2_ := a_ (below_drew1 HB.out)
             clear BK586
             clear BK587
             clear HB
             have BK586 := n0_
             have BK587 := n1_
             have HB := n2_
             clear n0_ n1_ n2_
             have p593 : 0 ≤ (x6_3 : Int) := od_
             have q593 : x6_3 < (l0_1.length : Int) := od_
             obtain ⟨ad593, e593, hx593_0, hx593_1, hx593_2⟩ := at_T56 HR0_1.out x6_3 p593 q593
             have hw593_2 := hx593_2
             have hw593_1 := hx593_1
             have hw593_0 := hx593_0
             cases e593
             replace hx593_0 := pc_ hx593_0
             replace hx593_1 := pc_ hx593_1
             replace hx593_2 := pc_ hx593_2
             replace p593 := eq_true p593
             replace q593 := eq_true q593
             have p594 : 0 ≤ (x6_3 : Int) := od_
             have q594 : x6_3 < (l1_1.length : Int) := od_
             obtain ⟨ad594, e594, hx594_0, hx594_1, hx594_2⟩ := at_T56 HR1_1.out x6_3 p594 q594
             have hw594_2 := hx594_2
             have hw594_1 := hx594_1
             have hw594_0 := hx594_0
             cases e594
             replace hx594_0 := pc_ hx594_0
             replace hx594_1 := pc_ hx594_1
             replace hx594_2 := pc_ hx594_2
             replace p594 := eq_true p594
             replace q594 := eq_true q594
             refine start_ (n := 11) (S := fun w' => w'.cell? ⟨gb586, 0, none⟩ = some (.slice A0_0 l0_0.length c0_0) ∧ w'.cell? ⟨gb586, 1, none⟩ = some (.slice (some ad593) l0_1.length c0_1) ∧ w'.cell? ⟨gb587, 0, none⟩ = some (.slice A1_0 l1_0.length c1_0) ∧ w'.cell? ⟨gb587, 1, none⟩ = some (.slice (some ad594) l1_1.length c1_1) ∧ w'.cell? (ad593.add ((x6_3).toNat * 3)) = some (.int .i64 ((rd_T56 l0_1 x6_3).f0)) ∧ w'.cell? ⟨(ad593.add ((x6_3).toNat * 3)).block, (ad593.add ((x6_3).toNat * 3)).off + 1, none⟩ = some (.int .i64 ((rd_T56 l0_1 x6_3).f1)) ∧ w'.cell? ⟨(ad593.add ((x6_3).toNat * 3)).block, (ad593.add ((x6_3).toNat * 3)).off + 2, none⟩ = some (.int .i64 ((rd_T56 l0_1 x6_3).f2)) ∧ w'.cell? (ad594.add ((x6_3).toNat * 3)) = some (.int .i64 ((rd_T56 l1_1 x6_3).f0)) ∧ w'.cell? ⟨(ad594.add ((x6_3).toNat * 3)).block, (ad594.add ((x6_3).toNat * 3)).off + 1, none⟩ = some (.int .i64 ((rd_T56 l1_1 x6_3).f1)) ∧ w'.cell? ⟨(ad594.add ((x6_3).toNat * 3)).block, (ad594.add ((x6_3).toNat * 3)).off + 2, none⟩ = some (.int .i64 ((rd_T56 l1_1 x6_3).f2))) (ds := []) #[false, false, false, false, false, false, false, false, false, false, false] (by kernel_rfl) rfl rfl ⟨(blk_cell BK586.out 0).trans rfl, (blk_cell BK586.out 1).trans rfl, (blk_cell BK587.out 0).trans rfl, (blk_cell BK587.out 1).trans rfl, (pw_cell_below HB.out hw593_0), (pw_cell_below HB.out hw593_1), (pw_cell_below HB.out hw593_2), (pw_cell_below HB.out hw594_0), (pw_cell_below HB.out hw594_1), (pw_cell_below HB.out hw594_2)⟩ (fun hHeld => ?_); refine with_tabW skiarearef53_Same.tab11 skiarearef53_Same.bits11 (fun HT_ HW_ => ?_)
             generalize wr.drew = w42 at BK586 BK587 HB hx593_0 hx593_1 hx593_2 hx594_0 hx594_1 hx594_2 hHeld ⊢
             refine pq_ 0 (some 66) #[true, false, false, false, false, false, false, false, false, false, false] ?_
             refine pq_ 2 (some 68) #[true, false, true, false, false, false, false, false, false, false, false] ?_
             refine pq_ 5 (some 71) #[true, false, true, false, false, true, false, false, false, false, false] ?_
             refine pq_ 7 (some 73) #[true, false, true, false, false, true, false, true, false, false, false] ?_
             refine take_ (i := 1) (N := some 67) (v := ?_) (a' := ?_) #[true, true, true, false, false, true, false, true, false, false, false] rfl rfl (take_ofW HT_.out HW_.out (by kernel_rfl)) (fun _ _ _ h => h) (Or.inl ⟨by rfl, ?_⟩) hHeld ?_ ?_
             rotate_left
             ·rintro w' ⟨s0, s1, s2, s3, s4, s5, s6, s7, s8, s9⟩
              go_simp
              with_reducible rfl
             rotate_left
             ·simp only [Act.put, List.setIfInBounds_toArray, List.set_cons_zero, List.set_cons_succ, i64_w, i32_w]
              rfl
             refine pq_ 3 (some 69) #[true, true, true, true, false, true, false, true, false, false, false] ?_
             refine take_ (i := 4) (N := some 70) (v := ?_) (a' := ?_) #[true, true, true, true, true, true, false, true, false, false, false] rfl rfl (take_ofW HT_.out HW_.out (by kernel_rfl)) (fun _ _ _ h => h) (Or.inl ⟨by rfl, ?_⟩) hHeld ?_ ?_
             rotate_left
             ·rintro w' ⟨s0, s1, s2, s3, s4, s5, s6, s7, s8, s9⟩
              go_simp
              with_reducible rfl
             rotate_left
             ·simp only [Act.put, List.setIfInBounds_toArray, List.set_cons_zero, List.set_cons_succ, i64_w, i32_w]
              rfl
             refine take_ (i := 6) (N := some 72) (v := ?_) (a' := ?_) #[true, true, true, true, true, true, true, true, false, false, false] rfl rfl (take_ofW HT_.out HW_.out (by kernel_rfl)) (fun _ _ _ h => h) (Or.inl ⟨by rfl, ?_⟩) hHeld ?_ ?_
             rotate_left
             ·rintro w' ⟨s0, s1, s2, s3, s4, s5, s6, s7, s8, s9⟩
              go_simp
              with_reducible rfl
             rotate_left
             ·simp only [Act.put, List.setIfInBounds_toArray, List.set_cons_zero, List.set_cons_succ, i64_w, i32_w]
              rfl
             refine pq_ 8 (some 74) #[true, true, true, true, true, true, true, true, true, false, false] ?_
             refine take_ (i := 9) (N := some 75) (v := ?_) (a' := ?_) #[true, true, true, true, true, true, true, true, true, true, false] rfl rfl (take_ofW HT_.out HW_.out (by kernel_rfl)) (fun _ _ _ h => h) (Or.inl ⟨by rfl, ?_⟩) hHeld ?_ ?_
             rotate_left
             ·rintro w' ⟨s0, s1, s2, s3, s4, s5, s6, s7, s8, s9⟩
              go_simp
              with_reducible rfl
             rotate_left
             ·simp only [Act.put, List.setIfInBounds_toArray, List.set_cons_zero, List.set_cons_succ, i64_w, i32_w]
              rfl
             refine pq_ 10 (some 76) #[true, true, true, true, true, true, true, true, true, true, true] ?_
             refine done_ (done_of HT_.out (by kernel_rfl)) ?_
             try go_wp2
             go_roundg k3
             case measure => have := HJ2.out; have := HK2.out; have := HK3.out; omega
             case rel => exact ⟨(wrap64 (x6_3 + 1)), (by first | rfl | (simp; done) | (simp [*]; done)), H', ⟨by have := HJ2.out; have := HK2.out; have := HK3.out; omega⟩, ⟨by exact BK586.out⟩, ⟨by exact BK587.out⟩, ⟨by repeat (first | (with_reducible first | exact HB.out | apply below_alloc | apply pw_below_drewN | apply below_drew1 | refine below_set ?_ GE586.out | refine below_set ?_ GE587.out) | exact HB.out)⟩⟩
           ·rw [if_neg c35] at H
            exact absurd H (by simp)
          ·rw [if_neg c34] at H
           exact absurd H (by simp)
         ·rw [if_neg c33] at H
          have c33b0 : decide (x6_3 < (l0_1.length : Int)) = false := decide_eq_false c33
          clear c33
          obtain rfl := Option.some.inj H
          have hnb43 := NB586_587.out
          have hnc43 := NB587_586.out
          have hcz44_0 := cz_ BK586 0
          have hcz44_1 := cz_ BK586 1
          have hfz44_0 := fz_ BK586 0
          have hfz44_1 := fz_ BK586 1
          go_wp2
          go_ret
          exact ⟨by first | rfl | (simp [errW_none, errW_some] <;> rfl) | (simp [*, errW_none, errW_some] <;> rfl), by repeat (first | (with_reducible first | exact HB.out | apply below_alloc | apply pw_below_drewN | apply below_drew1 | refine below_set ?_ GE586.out | refine below_set ?_ GE587.out) | exact HB.out)⟩
end Go.Proofs.Ytmhggplhfcmgkaa.Q
