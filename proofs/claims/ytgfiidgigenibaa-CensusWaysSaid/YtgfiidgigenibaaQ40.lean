-- written by wip/drive.py (this session's program) over the kit's print words
import Derived.Test.YtgfiidgigenibaaQ0
namespace Go.Proofs.Ytgfiidgigenibaa.Q
open Go.RowKit Go.Proofs.YtgfiidgigenibaaW.PrintWords Go.Proofs.YtgfiidgigenibaaW.PrintLast Go.Proofs.YtgfiidgigenibaaW.PrintMore
attribute [local go_sem] max2_int min2_int max_two min_two max_three min_three max_four min_four   -- for this text's walks alone
set_option linter.unusedVariables false
set_option linter.unusedSimpArgs false

/-! ### skiarearef05_turned: function 52 -/
def skiarearef05_turned.l0 : Nat → List (S67) → List (S67) → Int → Option ((List (S67)))
 | 0, _, _, _ => none
 | k + 1, x0, x3, x4 => if x4 < (x0.length : Int) then (if 0 ≤ x4 then (if x3.length < 4398046511104 then (skiarearef05_turned.l0 k x0 (x3 ++ [(⟨(rd_T67 x0 x4).f0, (rd_T67 x0 x4).f2, (rd_T67 x0 x4).f1, (rd_T67 x0 x4).f3⟩ : S67)]) (wrap64 (x4 + 1))) else (none)) else (none)) else (some x3)
def skiarearef05_turned.f (k : Nat) (l0 : List (S67)) : Option ((List (S67))) := skiarearef05_turned.l0 k l0 ([] : List (S67)) 0
theorem skiarearef05_turned.mono_l : ∀ k, (∀ y0 y1 y2, LeO (skiarearef05_turned.l0 k y0 y1 y2) (skiarearef05_turned.l0 (k + 1) y0 y1 y2))
 | 0 => fun _ _ _ r h => by simp [skiarearef05_turned.l0] at h
 | k + 1 => by
  have ih0 := skiarearef05_turned.mono_l k
  ·intro y0 y1 y2
   unfold skiarearef05_turned.l0
   repeat' first
   | (with_reducible exact ih0 _ _ _)
   | (with_reducible exact LeO.refl _)
   | (with_reducible exact LeO.none _)
   | (with_reducible refine LeO.ite ?_ ?_)
   | (with_reducible refine LeO.bind ?_ (fun _ => ?_))
   | exact ih0 _ _ _
   | exact LeO.none _
   | refine LeO.ite ?_ ?_
   | refine LeO.bind ?_ (fun _ => ?_)
theorem skiarearef05_turned.mono : ∀ a0 k, LeO (skiarearef05_turned.f k a0) (skiarearef05_turned.f (k + 1) a0) := by
 intro a0 k
 have ih0 := skiarearef05_turned.mono_l k
 unfold skiarearef05_turned.f
 repeat' first
   | (with_reducible exact ih0 _ _ _)
   | (with_reducible exact LeO.refl _)
   | (with_reducible exact LeO.none _)
   | (with_reducible refine LeO.ite ?_ ?_)
   | (with_reducible refine LeO.bind ?_ (fun _ => ?_))
   | exact ih0 _ _ _
   | exact LeO.none _
   | refine LeO.ite ?_ ?_
   | refine LeO.bind ?_ (fun _ => ?_)
def skiarearef05_turned.T5 : Bool × List (List Nat × List Nat) := (true, [([], []), ([], []), ([], []), ([1, 2], [1, 2]), ([3], [3]), ([4], [4]), ([], []), ([], []), ([6, 7], [6, 7]), ([8], [8]), ([9], [9]), ([], []), ([], []), ([11, 12], [11, 12]), ([13], [13]), ([14], [14]), ([], []), ([], []), ([16, 17], [16, 17]), ([18], [18]), ([19], [19]), ([5, 10, 15, 20], [5, 10, 15, 20]), ([21], [21]), ([0, 22], [0, 22]), ([23, 23, 0, 1, 2, 3, 4, 5, 6, 7, 8, 9, 10, 11, 12, 13, 14, 15, 16, 17, 18, 19, 20, 21, 22, 23], [0, 23])])
def skiarearef05_turned.B5 : List Nat := [0, 0, 0, 6, 14, 30, 0, 0, 192, 448, 960, 0, 0, 6144, 14336, 30720, 0, 0, 196608, 458752, 983040, 2097150, 4194302, 8388607, 16777215]
theorem skiarearef05_turned.tab5 : rtab .any (opsOf Try.f52 5) = skiarearef05_turned.T5 := by kernel_rfl
theorem skiarearef05_turned.bits5 : waitsOk skiarearef05_turned.T5.2 skiarearef05_turned.B5 = true := by kernel_rfl
set_option maxHeartbeats 8000000 in
set_option maxRecDepth 100000 in
theorem skiarearef05_turned.calls (k : Nat) (A0 : Option Addr) (c0 : Nat) (l0 : List (S67)) (r : List (S67)) (w : World) (hr0 : Kd.C k67 w A0 l0.length l0) (hc0 : l0.length ≤ c0) (h : skiarearef05_turned.f k l0 = some r) :
  Calls Try.prog 52 #[.slice A0 l0.length c0] w fun e w' => ∃ v0_ : Value, e = .returned (v0_) ∧ Kd.R k67 67 w' w.heap.size (fun _ => True) v0_ r ∧ Below w.heap.size w w' := by
 have hu67 := Try.underlying67
 have HR0 := a_ hr0
 have HC0 := a_ hc0
 clear hr0 hc0
 have HB := a_ (Below.refl w.heap.size w)
 have H : (skiarearef05_turned.l0 k l0 ([] : List (S67)) 0) = some r := h
 clear h
 have H' := a_ H
 clear H
 go_enter Try.func52, Try.ntmps52
 go_wp2
 go_loopg [3, 4] k (fun kq v3 v4 w' => ∃ (x3_1 : List (S67)) (x4_1 : Int), v4 = .int .i64 x4_1 ∧ Aside0 (skiarearef05_turned.l0 kq l0 x3_1 x4_1 = some r) ∧ Aside0 (kq ≤ k) ∧ Aside0 (Kd.R k67 67 w' w.heap.size (fun _ => True) v3 x3_1) ∧ Aside0 (Below w.heap.size w w'))
 case atStart => exact ⟨(([] : List (S67))), (0), (by first | rfl | (simp; done) | (simp [*]; done)), H', ⟨Nat.le_refl _⟩, ⟨by first | exact Kd.R_nil _ _ _ _ _ | exact Kd.N_nil _ _ _ _ _ | exact Kd.V_nil _ _ _ _ _ | exact Kd.Q_nil _ _ _ _ _ | exact Kd.S_nil _ _ _ _ _⟩, ⟨by repeat (first | (with_reducible first | exact HB.out | apply below_alloc | apply pw_below_drewN | apply below_drew1) | exact HB.out)⟩⟩
 case round =>
  clear H'
  obtain ⟨x3_1, x4_1, rfl, HA, HK1, HO_3, HB⟩ := hrel
  cases gk with
  | zero => exact absurd HA.out (by simp [skiarearef05_turned.l0])
  | succ k1 =>
   have H := HA.out
   clear HA
   simp only [skiarearef05_turned.l0] at H
   by_cases c2 : x4_1 < (l0.length : Int)
   ·rw [if_pos c2] at H
    have c2b0 : decide (x4_1 < (l0.length : Int)) = true := decide_eq_true c2
    clear c2
    by_cases c3 : 0 ≤ x4_1
    ·rw [if_pos c3] at H
     have c3b0 : decide (0 ≤ x4_1) = true := decide_eq_true c3
     clear c3
     by_cases c4 : x3_1.length < 4398046511104
     ·rw [if_pos c4] at H
      have LMc4 := a_ c4
      clear c4
      obtain ⟨y302, hy302⟩ : ∃ y_ : List (S67), y_ = (x3_1 ++ [(⟨(rd_T67 l0 x4_1).f0, (rd_T67 l0 x4_1).f2, (rd_T67 l0 x4_1).f1, (rd_T67 l0 x4_1).f3⟩ : S67)]) := ⟨_, rfl⟩
      replace H : (skiarearef05_turned.l0 k1 l0 y302 (wrap64 (x4_1 + 1))) = some r := by first | (rw [hy302]; with_reducible exact H) | (have H2_ := (Option.bind_some _ _).symm.trans H; rw [hy302]; with_reducible exact H2_) | (have H2_ := (Option.bind_some _ _).symm.trans H; with_reducible exact H2_) | with_reducible exact H | (rw [hy302]; exact H) | exact H
      have Ny302 := a_ hy302
      clear hy302
      have H' := a_ H
      clear H
      try go_wp2
      have n0_ := a_ (Kd.R_drew HO_3.out)
      have n1_ := a_ (below_drew1 HB.out)
      clear HO_3
      clear HB
      have HO_3 := n0_
      have HB := n1_
      clear n0_ n1_
      have p298 : 0 ≤ (x4_1 : Int) := od_
      have q298 : x4_1 < (l0.length : Int) := od_
      obtain ⟨ad298, e298, hx298_0, hx298_1, hx298_2, hx298_3⟩ := at_T67 HR0.out x4_1 p298 q298
      have hw298_3 := hx298_3
      have hw298_2 := hx298_2
      have hw298_1 := hx298_1
      have hw298_0 := hx298_0
      cases e298
      replace hx298_0 := pc_ hx298_0
      replace hx298_1 := pc_ hx298_1
      replace hx298_2 := pc_ hx298_2
      replace hx298_3 := pc_ hx298_3
      replace p298 := eq_true p298
      replace q298 := eq_true q298
      have p299 : 0 ≤ (x4_1 : Int) := od_
      have q299 : x4_1 < (l0.length : Int) := od_
      obtain ⟨ad299, e299, hx299_0, hx299_1, hx299_2, hx299_3⟩ := at_T67 HR0.out x4_1 p299 q299
      have hw299_3 := hx299_3
      have hw299_2 := hx299_2
      have hw299_1 := hx299_1
      have hw299_0 := hx299_0
      obtain rfl : ad298 = ad299 := (by injection e299)
      replace hx299_0 := pc_ hx299_0
      replace hx299_1 := pc_ hx299_1
      replace hx299_2 := pc_ hx299_2
      replace hx299_3 := pc_ hx299_3
      replace p299 := eq_true p299
      replace q299 := eq_true q299
      have p300 : 0 ≤ (x4_1 : Int) := od_
      have q300 : x4_1 < (l0.length : Int) := od_
      obtain ⟨ad300, e300, hx300_0, hx300_1, hx300_2, hx300_3⟩ := at_T67 HR0.out x4_1 p300 q300
      have hw300_3 := hx300_3
      have hw300_2 := hx300_2
      have hw300_1 := hx300_1
      have hw300_0 := hx300_0
      obtain rfl : ad298 = ad300 := (by injection e300)
      replace hx300_0 := pc_ hx300_0
      replace hx300_1 := pc_ hx300_1
      replace hx300_2 := pc_ hx300_2
      replace hx300_3 := pc_ hx300_3
      replace p300 := eq_true p300
      replace q300 := eq_true q300
      have p301 : 0 ≤ (x4_1 : Int) := od_
      have q301 : x4_1 < (l0.length : Int) := od_
      obtain ⟨ad301, e301, hx301_0, hx301_1, hx301_2, hx301_3⟩ := at_T67 HR0.out x4_1 p301 q301
      have hw301_3 := hx301_3
      have hw301_2 := hx301_2
      have hw301_1 := hx301_1
      have hw301_0 := hx301_0
      obtain rfl : ad298 = ad301 := (by injection e301)
      replace hx301_0 := pc_ hx301_0
      replace hx301_1 := pc_ hx301_1
      replace hx301_2 := pc_ hx301_2
      replace hx301_3 := pc_ hx301_3
      replace p301 := eq_true p301
      replace q301 := eq_true q301
      refine start_ (n := 25) (S := fun w' => w'.cell? (ad298.add ((x4_1).toNat * 4)) = some (.int .i64 ((rd_T67 l0 x4_1).f0)) ∧ w'.cell? ⟨(ad298.add ((x4_1).toNat * 4)).block, (ad298.add ((x4_1).toNat * 4)).off + 1, none⟩ = some (.int .i64 ((rd_T67 l0 x4_1).f1)) ∧ w'.cell? ⟨(ad298.add ((x4_1).toNat * 4)).block, (ad298.add ((x4_1).toNat * 4)).off + 2, none⟩ = some (.int .i64 ((rd_T67 l0 x4_1).f2)) ∧ w'.cell? ⟨(ad298.add ((x4_1).toNat * 4)).block, (ad298.add ((x4_1).toNat * 4)).off + 3, none⟩ = some (.int .i64 ((rd_T67 l0 x4_1).f3)) ∧ w'.cell? (ad298.add ((x4_1).toNat * 4)) = some (.int .i64 ((rd_T67 l0 x4_1).f0)) ∧ w'.cell? ⟨(ad298.add ((x4_1).toNat * 4)).block, (ad298.add ((x4_1).toNat * 4)).off + 1, none⟩ = some (.int .i64 ((rd_T67 l0 x4_1).f1)) ∧ w'.cell? ⟨(ad298.add ((x4_1).toNat * 4)).block, (ad298.add ((x4_1).toNat * 4)).off + 2, none⟩ = some (.int .i64 ((rd_T67 l0 x4_1).f2)) ∧ w'.cell? ⟨(ad298.add ((x4_1).toNat * 4)).block, (ad298.add ((x4_1).toNat * 4)).off + 3, none⟩ = some (.int .i64 ((rd_T67 l0 x4_1).f3)) ∧ w'.cell? (ad298.add ((x4_1).toNat * 4)) = some (.int .i64 ((rd_T67 l0 x4_1).f0)) ∧ w'.cell? ⟨(ad298.add ((x4_1).toNat * 4)).block, (ad298.add ((x4_1).toNat * 4)).off + 1, none⟩ = some (.int .i64 ((rd_T67 l0 x4_1).f1)) ∧ w'.cell? ⟨(ad298.add ((x4_1).toNat * 4)).block, (ad298.add ((x4_1).toNat * 4)).off + 2, none⟩ = some (.int .i64 ((rd_T67 l0 x4_1).f2)) ∧ w'.cell? ⟨(ad298.add ((x4_1).toNat * 4)).block, (ad298.add ((x4_1).toNat * 4)).off + 3, none⟩ = some (.int .i64 ((rd_T67 l0 x4_1).f3)) ∧ w'.cell? (ad298.add ((x4_1).toNat * 4)) = some (.int .i64 ((rd_T67 l0 x4_1).f0)) ∧ w'.cell? ⟨(ad298.add ((x4_1).toNat * 4)).block, (ad298.add ((x4_1).toNat * 4)).off + 1, none⟩ = some (.int .i64 ((rd_T67 l0 x4_1).f1)) ∧ w'.cell? ⟨(ad298.add ((x4_1).toNat * 4)).block, (ad298.add ((x4_1).toNat * 4)).off + 2, none⟩ = some (.int .i64 ((rd_T67 l0 x4_1).f2)) ∧ w'.cell? ⟨(ad298.add ((x4_1).toNat * 4)).block, (ad298.add ((x4_1).toNat * 4)).off + 3, none⟩ = some (.int .i64 ((rd_T67 l0 x4_1).f3))) (ds := []) #[false, false, false, false, false, false, false, false, false, false, false, false, false, false, false, false, false, false, false, false, false, false, false, false, false] (by kernel_rfl) rfl rfl ⟨(pw_cell_below HB.out hw298_0), (pw_cell_below HB.out hw298_1), (pw_cell_below HB.out hw298_2), (pw_cell_below HB.out hw298_3), (pw_cell_below HB.out hw299_0), (pw_cell_below HB.out hw299_1), (pw_cell_below HB.out hw299_2), (pw_cell_below HB.out hw299_3), (pw_cell_below HB.out hw300_0), (pw_cell_below HB.out hw300_1), (pw_cell_below HB.out hw300_2), (pw_cell_below HB.out hw300_3), (pw_cell_below HB.out hw301_0), (pw_cell_below HB.out hw301_1), (pw_cell_below HB.out hw301_2), (pw_cell_below HB.out hw301_3)⟩ (fun hHeld => ?_); refine with_tabW skiarearef05_turned.tab5 skiarearef05_turned.bits5 (fun HT_ HW_ => ?_)
      generalize wr.drew = w5 at HO_3 HB hx298_0 hx298_1 hx298_2 hx298_3 hx299_0 hx299_1 hx299_2 hx299_3 hx300_0 hx300_1 hx300_2 hx300_3 hx301_0 hx301_1 hx301_2 hx301_3 hHeld ⊢
      refine pq_ 0 (some 11) #[true, false, false, false, false, false, false, false, false, false, false, false, false, false, false, false, false, false, false, false, false, false, false, false, false] ?_
      refine pq_ 1 (some 12) #[true, true, false, false, false, false, false, false, false, false, false, false, false, false, false, false, false, false, false, false, false, false, false, false, false] ?_
      refine pq_ 2 (some 13) #[true, true, true, false, false, false, false, false, false, false, false, false, false, false, false, false, false, false, false, false, false, false, false, false, false] ?_
      refine pq_ 3 (some 14) #[true, true, true, true, false, false, false, false, false, false, false, false, false, false, false, false, false, false, false, false, false, false, false, false, false] ?_
      refine pq_ 4 (some 15) #[true, true, true, true, true, false, false, false, false, false, false, false, false, false, false, false, false, false, false, false, false, false, false, false, false] ?_
      refine pq_ 6 (some 17) #[true, true, true, true, true, false, true, false, false, false, false, false, false, false, false, false, false, false, false, false, false, false, false, false, false] ?_
      refine pq_ 7 (some 18) #[true, true, true, true, true, false, true, true, false, false, false, false, false, false, false, false, false, false, false, false, false, false, false, false, false] ?_
      refine pq_ 8 (some 19) #[true, true, true, true, true, false, true, true, true, false, false, false, false, false, false, false, false, false, false, false, false, false, false, false, false] ?_
      refine pq_ 9 (some 20) #[true, true, true, true, true, false, true, true, true, true, false, false, false, false, false, false, false, false, false, false, false, false, false, false, false] ?_
      refine pq_ 11 (some 22) #[true, true, true, true, true, false, true, true, true, true, false, true, false, false, false, false, false, false, false, false, false, false, false, false, false] ?_
      refine pq_ 12 (some 23) #[true, true, true, true, true, false, true, true, true, true, false, true, true, false, false, false, false, false, false, false, false, false, false, false, false] ?_
      refine pq_ 13 (some 24) #[true, true, true, true, true, false, true, true, true, true, false, true, true, true, false, false, false, false, false, false, false, false, false, false, false] ?_
      refine pq_ 14 (some 25) #[true, true, true, true, true, false, true, true, true, true, false, true, true, true, true, false, false, false, false, false, false, false, false, false, false] ?_
      refine pq_ 16 (some 27) #[true, true, true, true, true, false, true, true, true, true, false, true, true, true, true, false, true, false, false, false, false, false, false, false, false] ?_
      refine pq_ 17 (some 28) #[true, true, true, true, true, false, true, true, true, true, false, true, true, true, true, false, true, true, false, false, false, false, false, false, false] ?_
      refine pq_ 18 (some 29) #[true, true, true, true, true, false, true, true, true, true, false, true, true, true, true, false, true, true, true, false, false, false, false, false, false] ?_
      refine pq_ 19 (some 30) #[true, true, true, true, true, false, true, true, true, true, false, true, true, true, true, false, true, true, true, true, false, false, false, false, false] ?_
      refine take_ (i := 5) (N := some 16) (v := ?_) (a' := ?_) #[true, true, true, true, true, true, true, true, true, true, false, true, true, true, true, false, true, true, true, true, false, false, false, false, false] rfl rfl (take_ofW HT_.out HW_.out (by kernel_rfl)) (fun _ _ _ h => h) (Or.inl ⟨by rfl, ?_⟩) hHeld ?_ ?_
      rotate_left
      ·rintro w' ⟨s0, s1, s2, s3, s4, s5, s6, s7, s8, s9, s10, s11, s12, s13, s14, s15⟩
       go_simp
       with_reducible rfl
      rotate_left
      ·simp only [Act.put, List.setIfInBounds_toArray, List.set_cons_zero, List.set_cons_succ, i64_w, i32_w]
       rfl
      refine take_ (i := 10) (N := some 21) (v := ?_) (a' := ?_) #[true, true, true, true, true, true, true, true, true, true, true, true, true, true, true, false, true, true, true, true, false, false, false, false, false] rfl rfl (take_ofW HT_.out HW_.out (by kernel_rfl)) (fun _ _ _ h => h) (Or.inl ⟨by rfl, ?_⟩) hHeld ?_ ?_
      rotate_left
      ·rintro w' ⟨s0, s1, s2, s3, s4, s5, s6, s7, s8, s9, s10, s11, s12, s13, s14, s15⟩
       go_simp
       with_reducible rfl
      rotate_left
      ·simp only [Act.put, List.setIfInBounds_toArray, List.set_cons_zero, List.set_cons_succ, i64_w, i32_w]
       rfl
      refine take_ (i := 15) (N := some 26) (v := ?_) (a' := ?_) #[true, true, true, true, true, true, true, true, true, true, true, true, true, true, true, true, true, true, true, true, false, false, false, false, false] rfl rfl (take_ofW HT_.out HW_.out (by kernel_rfl)) (fun _ _ _ h => h) (Or.inl ⟨by rfl, ?_⟩) hHeld ?_ ?_
      rotate_left
      ·rintro w' ⟨s0, s1, s2, s3, s4, s5, s6, s7, s8, s9, s10, s11, s12, s13, s14, s15⟩
       go_simp
       with_reducible rfl
      rotate_left
      ·simp only [Act.put, List.setIfInBounds_toArray, List.set_cons_zero, List.set_cons_succ, i64_w, i32_w]
       rfl
      refine take_ (i := 20) (N := some 31) (v := ?_) (a' := ?_) #[true, true, true, true, true, true, true, true, true, true, true, true, true, true, true, true, true, true, true, true, true, false, false, false, false] rfl rfl (take_ofW HT_.out HW_.out (by kernel_rfl)) (fun _ _ _ h => h) (Or.inl ⟨by rfl, ?_⟩) hHeld ?_ ?_
      rotate_left
      ·rintro w' ⟨s0, s1, s2, s3, s4, s5, s6, s7, s8, s9, s10, s11, s12, s13, s14, s15⟩
       go_simp
       with_reducible rfl
      rotate_left
      ·simp only [Act.put, List.setIfInBounds_toArray, List.set_cons_zero, List.set_cons_succ, i64_w, i32_w]
       rfl
      refine pq_ 21 (some 32) #[true, true, true, true, true, true, true, true, true, true, true, true, true, true, true, true, true, true, true, true, true, true, false, false, false] ?_
      refine one_ (i := 22) (N := some 33) #[true, true, true, true, true, true, true, true, true, true, true, true, true, true, true, true, true, true, true, true, true, true, true, false, false] rfl rfl (one_of HT_.out (by kernel_rfl)) (by decide) (fun K hK => ?_)
      refine value_ (w1 := ?_) (v := ?_) (by rfl) rfl ?_ ?_
      rotate_left 2
      ·go_simp
       constructor
       ·rfl
       ·rfl
      refine hK.out _ _ ⟨(World.cell?_alloc_lt _ _ _ (World.block_lt_of_cell? _ _ ((pw_cell_below HB.out hw298_0)))).trans ((pw_cell_below HB.out hw298_0)), (World.cell?_alloc_lt _ _ _ (World.block_lt_of_cell? _ _ ((pw_cell_below HB.out hw298_1)))).trans ((pw_cell_below HB.out hw298_1)), (World.cell?_alloc_lt _ _ _ (World.block_lt_of_cell? _ _ ((pw_cell_below HB.out hw298_2)))).trans ((pw_cell_below HB.out hw298_2)), (World.cell?_alloc_lt _ _ _ (World.block_lt_of_cell? _ _ ((pw_cell_below HB.out hw298_3)))).trans ((pw_cell_below HB.out hw298_3)), (World.cell?_alloc_lt _ _ _ (World.block_lt_of_cell? _ _ ((pw_cell_below HB.out hw299_0)))).trans ((pw_cell_below HB.out hw299_0)), (World.cell?_alloc_lt _ _ _ (World.block_lt_of_cell? _ _ ((pw_cell_below HB.out hw299_1)))).trans ((pw_cell_below HB.out hw299_1)), (World.cell?_alloc_lt _ _ _ (World.block_lt_of_cell? _ _ ((pw_cell_below HB.out hw299_2)))).trans ((pw_cell_below HB.out hw299_2)), (World.cell?_alloc_lt _ _ _ (World.block_lt_of_cell? _ _ ((pw_cell_below HB.out hw299_3)))).trans ((pw_cell_below HB.out hw299_3)), (World.cell?_alloc_lt _ _ _ (World.block_lt_of_cell? _ _ ((pw_cell_below HB.out hw300_0)))).trans ((pw_cell_below HB.out hw300_0)), (World.cell?_alloc_lt _ _ _ (World.block_lt_of_cell? _ _ ((pw_cell_below HB.out hw300_1)))).trans ((pw_cell_below HB.out hw300_1)), (World.cell?_alloc_lt _ _ _ (World.block_lt_of_cell? _ _ ((pw_cell_below HB.out hw300_2)))).trans ((pw_cell_below HB.out hw300_2)), (World.cell?_alloc_lt _ _ _ (World.block_lt_of_cell? _ _ ((pw_cell_below HB.out hw300_3)))).trans ((pw_cell_below HB.out hw300_3)), (World.cell?_alloc_lt _ _ _ (World.block_lt_of_cell? _ _ ((pw_cell_below HB.out hw301_0)))).trans ((pw_cell_below HB.out hw301_0)), (World.cell?_alloc_lt _ _ _ (World.block_lt_of_cell? _ _ ((pw_cell_below HB.out hw301_1)))).trans ((pw_cell_below HB.out hw301_1)), (World.cell?_alloc_lt _ _ _ (World.block_lt_of_cell? _ _ ((pw_cell_below HB.out hw301_2)))).trans ((pw_cell_below HB.out hw301_2)), (World.cell?_alloc_lt _ _ _ (World.block_lt_of_cell? _ _ ((pw_cell_below HB.out hw301_3)))).trans ((pw_cell_below HB.out hw301_3))⟩ (fun hHeld => ?_)
      clear hK K
      refine norm_ (a' := ?_) ?_ ?_
      rotate_left
      ·show Act.put _ (some 33) _ = _
       simp only [Act.put, List.setIfInBounds_toArray, List.set_cons_zero, List.set_cons_succ, i64_w, i32_w]
       rfl
      refine one_ (i := 23) (N := some 34) #[true, true, true, true, true, true, true, true, true, true, true, true, true, true, true, true, true, true, true, true, true, true, true, true, false] rfl rfl (one_of HT_.out (by kernel_rfl)) (by decide) (fun K hK => ?_)
      refine Kd.R_append_step k67 (w0 := w) w.heap.size (by rfl) (.tmp 11) (.tmp 33) 65 67 (.agg #[(.int .i64 0), (.int .i64 0), (.int .i64 0), (.int .i64 0)]) 32 rfl Try.underlying65 info67 rfl (by decide) (by omega) u3 x3_1 (⟨(rd_T67 l0 x4_1).f0, (rd_T67 l0 x4_1).f2, (rd_T67 l0 x4_1).f1, (rd_T67 l0 x4_1).f3⟩ : S67) [.int .i64 ((rd_T67 l0 x4_1).f0), .int .i64 ((rd_T67 l0 x4_1).f2), .int .i64 ((rd_T67 l0 x4_1).f1), .int .i64 ((rd_T67 l0 x4_1).f3)] (fun _ => True) (fun _ => False) rfl rfl ?aP (fun _ hk => hk.elim) ?aF ?aO ?aB ?aS ?aL ?_
      (case aP => exact k67_mkM _ _ _ (⟨(rd_T67 l0 x4_1).f0, (rd_T67 l0 x4_1).f2, (rd_T67 l0 x4_1).f1, (rd_T67 l0 x4_1).f3⟩ : S67))
      (case aB => exact bel_)
      (case aF => exact (fun _ _ => trivial))
      (case aO => exact (kR_ HO_3.out))
      (case aS => exact (below_size bel_))
      (case aL => have := LMc4.out; omega)
      intro v303 w6 ho hb hg hat
      rw [← Ny302.out] at ho
      have n0_ := a_ (hb)
      have n1_ := a_ (ho)
      clear HB
      clear HO_3
      have HB := n0_
      have HO304 := n1_
      clear n0_ n1_
      clear ho hb hg hat
      refine hK.out _ _ ⟨(pw_cell_below HB.out hw298_0), (pw_cell_below HB.out hw298_1), (pw_cell_below HB.out hw298_2), (pw_cell_below HB.out hw298_3), (pw_cell_below HB.out hw299_0), (pw_cell_below HB.out hw299_1), (pw_cell_below HB.out hw299_2), (pw_cell_below HB.out hw299_3), (pw_cell_below HB.out hw300_0), (pw_cell_below HB.out hw300_1), (pw_cell_below HB.out hw300_2), (pw_cell_below HB.out hw300_3), (pw_cell_below HB.out hw301_0), (pw_cell_below HB.out hw301_1), (pw_cell_below HB.out hw301_2), (pw_cell_below HB.out hw301_3)⟩ (fun hHeld => ?_)
      clear hK K
      refine norm_ (a' := ?_) ?_ ?_
      rotate_left
      ·show Act.put _ (some 34) _ = _
       simp only [Act.put, List.setIfInBounds_toArray, List.set_cons_zero, List.set_cons_succ, i64_w, i32_w]
       rfl
      refine pq_ 24 (some 3) #[true, true, true, true, true, true, true, true, true, true, true, true, true, true, true, true, true, true, true, true, true, true, true, true, true] ?_
      refine done_ (done_of HT_.out (by kernel_rfl)) ?_
      try go_wp2
      go_roundg k1
      case measure => have := HK1.out; omega
      case rel => exact ⟨(y302), (wrap64 (x4_1 + 1)), (by first | rfl | (simp; done) | (simp [*]; done)), H', ⟨by have := HK1.out; omega⟩, ⟨by (with_reducible repeat (first | apply Kd.R_alloc | apply Kd.R_drewN | apply Kd.R_drew)); exact HO304.out⟩, ⟨by repeat (first | (with_reducible first | exact HB.out | apply below_alloc | apply pw_below_drewN | apply below_drew1) | exact HB.out)⟩⟩
     ·rw [if_neg c4] at H
      exact absurd H (by simp)
    ·rw [if_neg c3] at H
     exact absurd H (by simp)
   ·rw [if_neg c2] at H
    have c2b0 : decide (x4_1 < (l0.length : Int)) = false := decide_eq_false c2
    clear c2
    obtain rfl := Option.some.inj H
    go_wp2
    go_ret
    exact ⟨_, by first | rfl | (simp [errW_none, errW_some] <;> rfl) | (simp [*, errW_none, errW_some] <;> rfl), by (with_reducible repeat (first | apply Kd.R_alloc | apply Kd.R_drewN | apply Kd.R_drew)); exact HO_3.out, by repeat (first | (with_reducible first | exact HB.out | apply below_alloc | apply pw_below_drewN | apply below_drew1) | exact HB.out)⟩

end Go.Proofs.Ytgfiidgigenibaa.Q
