-- written by wip/drive.py (this session's program) over the kit's print words
import Derived.Test.YtgfiidgigenibaaQ0
import Derived.Test.YtgfiidgigenibaaQ46
namespace Go.Proofs.Ytgfiidgigenibaa.Q
open Go.RowKit Go.Proofs.YtgfiidgigenibaaW.PrintWords Go.Proofs.YtgfiidgigenibaaW.PrintLast Go.Proofs.YtgfiidgigenibaaW.PrintMore
attribute [local go_sem] max2_int min2_int max_two min_two max_three min_three max_four min_four   -- for this text's walks alone
set_option linter.unusedVariables false
set_option linter.unusedSimpArgs false

/-! ### skiarearef55_Add: function 18 -/
def skiarearef55_Add.f (k : Nat) (l0 : List (S28)) (a1_0 : Int) (a1_1 : Int) (a1_2 : Int) (a1_3 : Int) : Option ((List (S28)) × Int) := (some (([] : List (S28)) : List (S28))).bind fun y354 => (if y354.length + l0.length < 4398046511104 then ((some (y354 ++ l0 : List (S28))).bind fun y357 => ((some (([(⟨a1_0, a1_1, a1_2, a1_3⟩ : S28)] : List (S28)) : List (S28))).bind fun y360 => (if y357.length + y360.length < 4398046511104 then ((some (y357 ++ y360 : List (S28))).bind fun y363 => ((skiarearef55_Right.f k y363).bind fun t366 => (if t366 = 0 then (some (y363, 0)) else (some (([] : List (S28)), t366))))) else (none)))) else (none))
theorem skiarearef55_Add.mono : ∀ a0 a1 a2 a3 a4 k, LeO (skiarearef55_Add.f k a0 a1 a2 a3 a4) (skiarearef55_Add.f (k + 1) a0 a1 a2 a3 a4) := by
 intro a0 a1 a2 a3 a4 k
 unfold skiarearef55_Add.f
 repeat' first
   | (with_reducible exact skiarearef55_Right.mono _ _)
   | (with_reducible exact LeO.refl _)
   | (with_reducible exact LeO.none _)
   | (with_reducible refine LeO.ite ?_ ?_)
   | (with_reducible refine LeO.bind ?_ (fun _ => ?_))
   | exact skiarearef55_Right.mono _ _
   | exact LeO.none _
   | refine LeO.ite ?_ ?_
   | refine LeO.bind ?_ (fun _ => ?_)
set_option maxHeartbeats 8000000 in
set_option maxRecDepth 100000 in
theorem skiarearef55_Add.calls (k : Nat) (A0 : Option Addr) (c0 : Nat) (l0 : List (S28)) (a1_0 : Int) (a1_1 : Int) (a1_2 : Int) (a1_3 : Int) (r1 : List (S28)) (r2 : Int) (w : World) (hr0 : Kd.C k28 w A0 l0.length l0) (hc0 : l0.length ≤ c0) (h : skiarearef55_Add.f k l0 a1_0 a1_1 a1_2 a1_3 = some (r1, r2)) :
  Calls Try.prog 18 #[.slice A0 l0.length c0, .agg #[.int .i64 a1_0, .int .i64 a1_1, .int .i64 a1_2, .int .i64 a1_3]] w fun e w' => ∃ v0_ : Value, e = .returned (.tuple #[v0_, .int .i64 r2]) ∧ Kd.R k28 28 w' w.heap.size (fun _ => True) v0_ r1 ∧ Below w.heap.size w w' := by
 have hu28 := Try.underlying28
 have HR0 := a_ hr0
 have HC0 := a_ hc0
 clear hr0 hc0
 have HB := a_ (Below.refl w.heap.size w)
 have H : ((some (([] : List (S28)) : List (S28))).bind fun y354 => (if y354.length + l0.length < 4398046511104 then ((some (y354 ++ l0 : List (S28))).bind fun y357 => ((some (([(⟨a1_0, a1_1, a1_2, a1_3⟩ : S28)] : List (S28)) : List (S28))).bind fun y360 => (if y357.length + y360.length < 4398046511104 then ((some (y357 ++ y360 : List (S28))).bind fun y363 => ((skiarearef55_Right.f k y363).bind fun t366 => (if t366 = 0 then (some (y363, 0)) else (some (([] : List (S28)), t366))))) else (none)))) else (none))) = some (r1, r2) := h
 clear h
 obtain ⟨y354, hy354⟩ : ∃ y_ : List (S28), y_ = (([] : List (S28))) := ⟨_, rfl⟩
 replace H : (if y354.length + l0.length < 4398046511104 then ((some (y354 ++ l0 : List (S28))).bind fun y357 => ((some (([(⟨a1_0, a1_1, a1_2, a1_3⟩ : S28)] : List (S28)) : List (S28))).bind fun y360 => (if y357.length + y360.length < 4398046511104 then ((some (y357 ++ y360 : List (S28))).bind fun y363 => ((skiarearef55_Right.f k y363).bind fun t366 => (if t366 = 0 then (some (y363, 0)) else (some (([] : List (S28)), t366))))) else (none)))) else (none)) = some (r1, r2) := by first | (rw [hy354]; with_reducible exact H) | (have H2_ := (Option.bind_some _ _).symm.trans H; rw [hy354]; with_reducible exact H2_) | (have H2_ := (Option.bind_some _ _).symm.trans H; with_reducible exact H2_) | with_reducible exact H | (rw [hy354]; exact H) | exact H
 have Ny354 := a_ hy354
 clear hy354
 by_cases c3 : y354.length + l0.length < 4398046511104
 ·rw [if_pos c3] at H
  have LMc3 := a_ c3
  clear c3
  obtain ⟨y357, hy357⟩ : ∃ y_ : List (S28), y_ = (y354 ++ l0) := ⟨_, rfl⟩
  replace H : ((some (([(⟨a1_0, a1_1, a1_2, a1_3⟩ : S28)] : List (S28)) : List (S28))).bind fun y360 => (if y357.length + y360.length < 4398046511104 then ((some (y357 ++ y360 : List (S28))).bind fun y363 => ((skiarearef55_Right.f k y363).bind fun t366 => (if t366 = 0 then (some (y363, 0)) else (some (([] : List (S28)), t366))))) else (none))) = some (r1, r2) := by first | (rw [hy357]; with_reducible exact H) | (have H2_ := (Option.bind_some _ _).symm.trans H; rw [hy357]; with_reducible exact H2_) | (have H2_ := (Option.bind_some _ _).symm.trans H; with_reducible exact H2_) | with_reducible exact H | (rw [hy357]; exact H) | exact H
  have Ny357 := a_ hy357
  clear hy357
  obtain ⟨y360, hy360⟩ : ∃ y_ : List (S28), y_ = (([(⟨a1_0, a1_1, a1_2, a1_3⟩ : S28)] : List (S28))) := ⟨_, rfl⟩
  replace H : (if y357.length + y360.length < 4398046511104 then ((some (y357 ++ y360 : List (S28))).bind fun y363 => ((skiarearef55_Right.f k y363).bind fun t366 => (if t366 = 0 then (some (y363, 0)) else (some (([] : List (S28)), t366))))) else (none)) = some (r1, r2) := by first | (rw [hy360]; with_reducible exact H) | (have H2_ := (Option.bind_some _ _).symm.trans H; rw [hy360]; with_reducible exact H2_) | (have H2_ := (Option.bind_some _ _).symm.trans H; with_reducible exact H2_) | with_reducible exact H | (rw [hy360]; exact H) | exact H
  have Ny360 := a_ hy360
  clear hy360
  by_cases c4 : y357.length + y360.length < 4398046511104
  ·rw [if_pos c4] at H
   have LMc4 := a_ c4
   clear c4
   obtain ⟨y363, hy363⟩ : ∃ y_ : List (S28), y_ = (y357 ++ y360) := ⟨_, rfl⟩
   replace H : ((skiarearef55_Right.f k y363).bind fun t366 => (if t366 = 0 then (some (y363, 0)) else (some (([] : List (S28)), t366)))) = some (r1, r2) := by first | (rw [hy363]; with_reducible exact H) | (have H2_ := (Option.bind_some _ _).symm.trans H; rw [hy363]; with_reducible exact H2_) | (have H2_ := (Option.bind_some _ _).symm.trans H; with_reducible exact H2_) | with_reducible exact H | (rw [hy363]; exact H) | exact H
   have Ny363 := a_ hy363
   clear hy363
   replace H := Option.bind_eq_some_iff.mp H
   obtain ⟨t366, A50, H⟩ := H
   replace H : (if t366 = 0 then (some (y363, 0)) else (some (([] : List (S28)), t366))) = some (r1, r2) := H
   have A5 := a_ A50
   clear A50
   by_cases c6 : t366 = 0
   ·rw [if_pos c6] at H
    have c6b0 : (t366 == 0) = true := beq_iff_eq.mpr c6
    have c6b1 : (t366 != 0) = false := bne_eq_false_iff_eq.mpr c6
    clear c6
    simp only [Option.some.injEq, Prod.mk.injEq] at H
    obtain ⟨rfl, rfl⟩ := H
    go_enter Try.func18, Try.ntmps18
    try go_wp2_with (first | ((with_reducible refine gate_dst (N := 3) rfl ?_); refine box_event ?hg (N := 3) ?hd (cs := #[.int .i64 a1_0, .int .i64 a1_1, .int .i64 a1_2, .int .i64 a1_3]) (t := 28) ?hr ?_; (case hd => rfl); (case hg => rfl); (case hr => first | (go_simp; done) | (go_simp; rfl)); intro gb353 hg w7 hbox hb; have n0_ := a_ (below_step bel_ hb); have n1_ := a_ (hbox); have n2_ := a_ (bz_ hg : w.heap.size ≤ gb353); have n3_ := a_ (bz_ hg : w.heap.size ≤ gb353); clear HB; have HB := n0_; have BK353 := n1_; have GW353 := n2_; have GE353 := n3_; clear n0_ n1_ n2_ n3_; clear hb hbox hg))
    have n0_ := a_ (blk_drew BK353.out)
    have n1_ := a_ (below_drew1 HB.out)
    clear BK353
    clear HB
    have BK353 := n0_
    have HB := n1_
    clear n0_ n1_
    refine start_ (n := 7) (S := fun w' => w'.cell? ⟨gb353, 0, none⟩ = some (.int .i64 a1_0) ∧ w'.cell? ⟨gb353, 1, none⟩ = some (.int .i64 a1_1) ∧ w'.cell? ⟨gb353, 2, none⟩ = some (.int .i64 a1_2) ∧ w'.cell? ⟨gb353, 3, none⟩ = some (.int .i64 a1_3)) (ds := []) #[false, false, false, false, false, false, false] (by kernel_rfl) rfl rfl ⟨(blk_cell BK353.out 0).trans rfl, (blk_cell BK353.out 1).trans rfl, (blk_cell BK353.out 2).trans rfl, (blk_cell BK353.out 3).trans rfl⟩ (fun hHeld => ?_)
    generalize w7.drew = w8 at BK353 HB hHeld ⊢
    refine pure_ (i := 1) (N := some 9) (v := ?_) (a' := ?_) #[false, true, false, false, false, false, false] rfl rfl (by kernel_rfl) (fun _ _ _ h => h) (Or.inl ⟨by rfl, ?_⟩) ?_ ?_
    rotate_left
    ·intro w'
     go_simp
     with_reducible rfl
    rotate_left
    ·simp only [Act.put, List.setIfInBounds_toArray, List.set_cons_zero, List.set_cons_succ, i64_w, i32_w]
     rfl
    refine take_ (i := 3) (N := some 11) (v := ?_) (a' := ?_) #[false, true, false, true, false, false, false] rfl rfl (by kernel_rfl) (fun _ _ _ h => h) (Or.inl ⟨by rfl, ?_⟩) hHeld ?_ ?_
    rotate_left
    ·rintro w' ⟨s0, s1, s2, s3⟩
     go_simp
     with_reducible rfl
    rotate_left
    ·simp only [Act.put, List.setIfInBounds_toArray, List.set_cons_zero, List.set_cons_succ, i64_w, i32_w]
     rfl
    refine join_ (σ := Value × Value × Value) 2 #[true, true, true, true, true, false, false] (fun s_ => [(8, s_.1), (10, s_.2.1), (12, s_.2.2)]) (fun s_ w' => (w'.cell? ⟨gb353, 0, none⟩ = some (.int .i64 a1_0) ∧ w'.cell? ⟨gb353, 1, none⟩ = some (.int .i64 a1_1) ∧ w'.cell? ⟨gb353, 2, none⟩ = some (.int .i64 a1_2) ∧ w'.cell? ⟨gb353, 3, none⟩ = some (.int .i64 a1_3)) ∧ (Kd.R k28 28 w' w.heap.size (fun k_ => some k_ ≠ (s_.2.2 : Value).ownBlock ∧ k_ ≠ gb353) s_.2.1 y357) ∧ (Kd.R k28 28 w' w.heap.size (fun k_ => some k_ ≠ (s_.2.1 : Value).ownBlock ∧ k_ ≠ gb353) s_.2.2 y360) ∧ (w'.heap[gb353]? = some (.cells #[.int .i64 a1_0, .int .i64 a1_1, .int .i64 a1_2, .int .i64 a1_3] 28 (0, 0))) ∧ (Below w.heap.size w w')) ?_ ?_
    rotate_left
    ·intro hCont
     refine two_ (i := 0) (j := 4) (Ni := some 8) (Nj := some 12) #[true, true, false, true, false, false, false] #[false, true, false, true, true, false, false] rfl rfl rfl rfl (by kernel_rfl) (by decide) (by decide) (fun K hK => ?_) (fun K hK => ?_)
     ·skip
      refine Kd.R_lit_step k28 _ 28 ?hg (N := 8) ?hd (xs := ([] : List (S28))) (inner := []) (ok := fun _ => True) (okp := fun _ => True) ?hr ?hp (fun _ hk => hk) trivial (Below.refl _ _) (Nat.le_refl _) (by simp) ?_; (case hd => rfl); (case hg => rfl); (case hr => first | (go_simp; done) | (go_simp; rfl)); (case hp => exact (Reps.none _ _))
      intro v355 w9 ho10 hb hg_ hnew_
      clear hg_ hnew_
      (first | rw [← Ny354.out] at ho10 | (simp only [Int.reduceToNat] at ho10; rw [← Ny354.out] at ho10))
      have n0_ := a_ (Kd.R_lower (Kd.R_newB ho10 (bk_ BK353.out)) (below_size bel_))
      have n1_ := a_ (blk_below (bk_ BK353.out) hb)
      have n2_ := a_ (below_step bel_ hb)
      clear BK353
      clear HB
      have HO356 := n0_
      have BK353 := n1_
      have HB := n2_
      clear n0_ n1_ n2_
      clear hb ho10
      refine hK.out _ _ ⟨(blk_cell BK353.out 0).trans rfl, (blk_cell BK353.out 1).trans rfl, (blk_cell BK353.out 2).trans rfl, (blk_cell BK353.out 3).trans rfl⟩ (fun hHeld => ?_)
      clear hK K
      refine norm_ (a' := ?_) ?_ ?_
      rotate_left
      ·show Act.put _ (some 8) _ = _
       simp only [Act.put, List.setIfInBounds_toArray, List.set_cons_zero, List.set_cons_succ, i64_w, i32_w]
       rfl
      refine two_ (i := 2) (j := 4) (Ni := some 10) (Nj := some 12) #[true, true, true, true, false, false, false] #[true, true, false, true, true, false, false] rfl rfl rfl rfl (by kernel_rfl) (by decide) (by decide) (fun K hK => ?_) (fun K hK => ?_)
      ·skip
       refine Kd.R_append_rows_step k28 (w0 := w) w.heap.size (by rfl) (.tmp 8) (.tmp 9) 22 28 (.agg #[(.int .i64 0), (.int .i64 0), (.int .i64 0), (.int .i64 0)]) 32 rfl Try.underlying22 info28 rfl (by decide) (by omega) v355 y354 l0 _ _ _ (fun k_ => k_ ≠ gb353) (fun _ => False) rfl rfl ?aO ?aR (fun _ _ h => h) (fun _ h => h.elim) ?aF ?aB ?aS ?aL ?_
       (case aR => exact kC_ (Kd.C_below HR0.out HB.out))
       (case aB => exact bel_)
       (case aF => exact (fun k_ hk => Kd.freshB (bk_ BK353.out) k_ hk))
       (case aO => exact (by (with_reducible repeat (first | apply Kd.R_alloc | apply Kd.R_drewN | apply Kd.R_drew)); exact Kd.R_mono HO356.out (fun _ hk => hk.2)))
       (case aS => exact (below_size bel_))
       (case aL => have := LMc3.out; omega)
       intro v358 w11 ho hb hg hat
       rw [← Ny357.out] at ho
       have n0_ := a_ (blk_grown (bk_ BK353.out) hg (Kd.R_away HO356.out (fun _ hk => hk.2)))
       have n1_ := a_ (hb)
       have n2_ := a_ (ho)
       clear BK353
       clear HB
       clear HO356
       have BK353 := n0_
       have HB := n1_
       have HO359 := n2_
       clear n0_ n1_ n2_
       clear ho hb hg hat
       refine hK.out _ _ ⟨(blk_cell BK353.out 0).trans rfl, (blk_cell BK353.out 1).trans rfl, (blk_cell BK353.out 2).trans rfl, (blk_cell BK353.out 3).trans rfl⟩ (fun hHeld => ?_)
       clear hK K
       refine norm_ (a' := ?_) ?_ ?_
       rotate_left
       ·show Act.put _ (some 10) _ = _
        simp only [Act.put, List.setIfInBounds_toArray, List.set_cons_zero, List.set_cons_succ, i64_w, i32_w]
        rfl
       refine one_ (i := 4) (N := some 12) #[true, true, true, true, true, false, false] rfl rfl (by kernel_rfl) (by decide) (fun K hK => ?_)
       refine Kd.R_lit_step k28 _ 28 ?hg (N := 12) ?hd (xs := ([(⟨a1_0, a1_1, a1_2, a1_3⟩ : S28)] : List (S28))) (inner := [.int .i64 a1_0, .int .i64 a1_1, .int .i64 a1_2, .int .i64 a1_3]) (ok := fun _ => True) (okp := fun _ => True) ?hr ?hp (fun _ hk => hk) trivial (Below.refl _ _) (Nat.le_refl _) (by simp) ?_; (case hd => rfl); (case hg => rfl); (case hr => first | (go_simp; done) | (go_simp; rfl)); (case hp => exact (Reps.c4 (show Kd.M k28 _ _ _ (⟨a1_0, a1_1, a1_2, a1_3⟩ : S28) [.int .i64 a1_0, .int .i64 a1_1, .int .i64 a1_2, .int .i64 a1_3] from (k28_mkM _ _ _ (⟨a1_0, a1_1, a1_2, a1_3⟩ : S28) )) (Reps.none _ _)))
       intro v361 w12 ho13 hb hg_ hnew_
       clear hg_ hnew_
       (first | rw [← Ny360.out] at ho13 | (simp only [Int.reduceToNat] at ho13; rw [← Ny360.out] at ho13))
       have n0_ := a_ (Kd.R_elder' (kR_ HO359.out) (Kd.R_base ho13) hb)
       have n1_ := a_ (Kd.R_lower (Kd.R_newB (Kd.R_new' ho13 (Kd.R_lt (kR_ HO359.out))) (bk_ BK353.out)) (below_size bel_))
       have n2_ := a_ (blk_below (bk_ BK353.out) hb)
       have n3_ := a_ (below_step bel_ hb)
       clear HO359
       clear BK353
       clear HB
       have HO359 := n0_
       have HO362 := n1_
       have BK353 := n2_
       have HB := n3_
       clear n0_ n1_ n2_ n3_
       clear hb ho13
       refine hK.out _ _ ⟨(blk_cell BK353.out 0).trans rfl, (blk_cell BK353.out 1).trans rfl, (blk_cell BK353.out 2).trans rfl, (blk_cell BK353.out 3).trans rfl⟩ (fun hHeld => ?_)
       clear hK K
       refine norm_ (a' := ?_) ?_ ?_
       rotate_left
       ·show Act.put _ (some 12) _ = _
        simp only [Act.put, List.setIfInBounds_toArray, List.set_cons_zero, List.set_cons_succ, i64_w, i32_w]
        rfl
       exact norm_ (by simp only [putAll, Act.put, List.setIfInBounds_toArray, List.set_cons_zero, List.set_cons_succ]) (hCont (v355, v358, v361) _ ⟨hHeld, (by (with_reducible repeat (first | apply Kd.R_alloc | apply Kd.R_drewN | apply Kd.R_drew)); exact Kd.R_mono HO359.out (fun _ hk => ⟨hk.2, hk.1⟩)), (by (with_reducible repeat (first | apply Kd.R_alloc | apply Kd.R_drewN | apply Kd.R_drew)); exact Kd.R_mono HO362.out (fun _ hk => ⟨hk.1.2, hk.2⟩)), (bk_ BK353.out), bel_⟩)
      ·skip
       refine Kd.R_lit_step k28 _ 28 ?hg (N := 12) ?hd (xs := ([(⟨a1_0, a1_1, a1_2, a1_3⟩ : S28)] : List (S28))) (inner := [.int .i64 a1_0, .int .i64 a1_1, .int .i64 a1_2, .int .i64 a1_3]) (ok := fun _ => True) (okp := fun _ => True) ?hr ?hp (fun _ hk => hk) trivial (Below.refl _ _) (Nat.le_refl _) (by simp) ?_; (case hd => rfl); (case hg => rfl); (case hr => first | (go_simp; done) | (go_simp; rfl)); (case hp => exact (Reps.c4 (show Kd.M k28 _ _ _ (⟨a1_0, a1_1, a1_2, a1_3⟩ : S28) [.int .i64 a1_0, .int .i64 a1_1, .int .i64 a1_2, .int .i64 a1_3] from (k28_mkM _ _ _ (⟨a1_0, a1_1, a1_2, a1_3⟩ : S28) )) (Reps.none _ _)))
       intro v361 w11 ho12 hb hg_ hnew_
       clear hg_ hnew_
       (first | rw [← Ny360.out] at ho12 | (simp only [Int.reduceToNat] at ho12; rw [← Ny360.out] at ho12))
       have n0_ := a_ (Kd.R_elder' (kR_ HO356.out) (Kd.R_base ho12) hb)
       have n1_ := a_ (Kd.R_lower (Kd.R_newB (Kd.R_new' ho12 (Kd.R_lt (kR_ HO356.out))) (bk_ BK353.out)) (below_size bel_))
       have n2_ := a_ (blk_below (bk_ BK353.out) hb)
       have n3_ := a_ (below_step bel_ hb)
       clear HO356
       clear BK353
       clear HB
       have HO356 := n0_
       have HO362 := n1_
       have BK353 := n2_
       have HB := n3_
       clear n0_ n1_ n2_ n3_
       clear hb ho12
       refine hK.out _ _ ⟨(blk_cell BK353.out 0).trans rfl, (blk_cell BK353.out 1).trans rfl, (blk_cell BK353.out 2).trans rfl, (blk_cell BK353.out 3).trans rfl⟩ (fun hHeld => ?_)
       clear hK K
       refine norm_ (a' := ?_) ?_ ?_
       rotate_left
       ·show Act.put _ (some 12) _ = _
        simp only [Act.put, List.setIfInBounds_toArray, List.set_cons_zero, List.set_cons_succ, i64_w, i32_w]
        rfl
       refine one_ (i := 2) (N := some 10) #[true, true, true, true, true, false, false] rfl rfl (by kernel_rfl) (by decide) (fun K hK => ?_)
       refine Kd.R_append_rows_step k28 (w0 := w) w.heap.size (by rfl) (.tmp 8) (.tmp 9) 22 28 (.agg #[(.int .i64 0), (.int .i64 0), (.int .i64 0), (.int .i64 0)]) 32 rfl Try.underlying22 info28 rfl (by decide) (by omega) v355 y354 l0 _ _ _ (fun k_ => some k_ ≠ (v361 : Value).ownBlock ∧ k_ ≠ gb353) (fun _ => False) rfl rfl ?aO ?aR (fun _ _ h => h) (fun _ h => h.elim) ?aF ?aB ?aS ?aL ?_
       (case aR => exact kC_ (Kd.C_below HR0.out HB.out))
       (case aB => exact bel_)
       (case aF => exact (fun k_ hk => ⟨Kd.fresh' (Kd.R_lt (kR_ HO362.out)) k_ hk, Kd.freshB (bk_ BK353.out) k_ hk⟩))
       (case aO => exact (by (with_reducible repeat (first | apply Kd.R_alloc | apply Kd.R_drewN | apply Kd.R_drew)); exact Kd.R_mono HO356.out (fun _ hk => ⟨hk.2, hk.1.2⟩)))
       (case aS => exact (below_size bel_))
       (case aL => have := LMc3.out; omega)
       intro v358 w13 ho hb hg hat
       rw [← Ny357.out] at ho
       have n0_ := a_ (blk_grown (bk_ BK353.out) hg (Kd.R_away HO356.out (fun _ hk => hk.1.2)))
       have n1_ := a_ (Kd.R_after (ok := (fun k_ => k_ ≠ gb353)) (by (with_reducible repeat (first | apply Kd.R_alloc | apply Kd.R_drewN | apply Kd.R_drew)); exact Kd.R_mono HO362.out (fun _ hk => ⟨hk.2, hk.1.2⟩)) hg hat)
       have n2_ := a_ (hb)
       have n3_ := a_ (ho)
       clear BK353
       clear HO362
       clear HB
       clear HO356
       have BK353 := n0_
       have HO362 := n1_
       have HB := n2_
       have HO359 := n3_
       clear n0_ n1_ n2_ n3_
       clear ho hb hg hat
       refine hK.out _ _ ⟨(blk_cell BK353.out 0).trans rfl, (blk_cell BK353.out 1).trans rfl, (blk_cell BK353.out 2).trans rfl, (blk_cell BK353.out 3).trans rfl⟩ (fun hHeld => ?_)
       clear hK K
       refine norm_ (a' := ?_) ?_ ?_
       rotate_left
       ·show Act.put _ (some 10) _ = _
        simp only [Act.put, List.setIfInBounds_toArray, List.set_cons_zero, List.set_cons_succ, i64_w, i32_w]
        rfl
       exact norm_ (by simp only [putAll, Act.put, List.setIfInBounds_toArray, List.set_cons_zero, List.set_cons_succ]) (hCont (v355, v358, v361) _ ⟨hHeld, (kR_ HO359.out), (by (with_reducible repeat (first | apply Kd.R_alloc | apply Kd.R_drewN | apply Kd.R_drew)); exact Kd.R_mono HO362.out (fun _ hk => ⟨hk.2, hk.1⟩)), (bk_ BK353.out), bel_⟩)
     ·skip
      refine Kd.R_lit_step k28 _ 28 ?hg (N := 12) ?hd (xs := ([(⟨a1_0, a1_1, a1_2, a1_3⟩ : S28)] : List (S28))) (inner := [.int .i64 a1_0, .int .i64 a1_1, .int .i64 a1_2, .int .i64 a1_3]) (ok := fun _ => True) (okp := fun _ => True) ?hr ?hp (fun _ hk => hk) trivial (Below.refl _ _) (Nat.le_refl _) (by simp) ?_; (case hd => rfl); (case hg => rfl); (case hr => first | (go_simp; done) | (go_simp; rfl)); (case hp => exact (Reps.c4 (show Kd.M k28 _ _ _ (⟨a1_0, a1_1, a1_2, a1_3⟩ : S28) [.int .i64 a1_0, .int .i64 a1_1, .int .i64 a1_2, .int .i64 a1_3] from (k28_mkM _ _ _ (⟨a1_0, a1_1, a1_2, a1_3⟩ : S28) )) (Reps.none _ _)))
      intro v361 w9 ho10 hb hg_ hnew_
      clear hg_ hnew_
      (first | rw [← Ny360.out] at ho10 | (simp only [Int.reduceToNat] at ho10; rw [← Ny360.out] at ho10))
      have n0_ := a_ (Kd.R_lower (Kd.R_newB ho10 (bk_ BK353.out)) (below_size bel_))
      have n1_ := a_ (blk_below (bk_ BK353.out) hb)
      have n2_ := a_ (below_step bel_ hb)
      clear BK353
      clear HB
      have HO362 := n0_
      have BK353 := n1_
      have HB := n2_
      clear n0_ n1_ n2_
      clear hb ho10
      refine hK.out _ _ ⟨(blk_cell BK353.out 0).trans rfl, (blk_cell BK353.out 1).trans rfl, (blk_cell BK353.out 2).trans rfl, (blk_cell BK353.out 3).trans rfl⟩ (fun hHeld => ?_)
      clear hK K
      refine norm_ (a' := ?_) ?_ ?_
      rotate_left
      ·show Act.put _ (some 12) _ = _
       simp only [Act.put, List.setIfInBounds_toArray, List.set_cons_zero, List.set_cons_succ, i64_w, i32_w]
       rfl
      refine one_ (i := 0) (N := some 8) #[true, true, false, true, true, false, false] rfl rfl (by kernel_rfl) (by decide) (fun K hK => ?_)
      refine Kd.R_lit_step k28 _ 28 ?hg (N := 8) ?hd (xs := ([] : List (S28))) (inner := []) (ok := fun _ => True) (okp := fun _ => True) ?hr ?hp (fun _ hk => hk) trivial (Below.refl _ _) (Nat.le_refl _) (by simp) ?_; (case hd => rfl); (case hg => rfl); (case hr => first | (go_simp; done) | (go_simp; rfl)); (case hp => exact (Reps.none _ _))
      intro v355 w11 ho12 hb hg_ hnew_
      clear hg_ hnew_
      (first | rw [← Ny354.out] at ho12 | (simp only [Int.reduceToNat] at ho12; rw [← Ny354.out] at ho12))
      have n0_ := a_ (Kd.R_elder' (kR_ HO362.out) (Kd.R_base ho12) hb)
      have n1_ := a_ (Kd.R_lower (Kd.R_newB (Kd.R_new' ho12 (Kd.R_lt (kR_ HO362.out))) (bk_ BK353.out)) (below_size bel_))
      have n2_ := a_ (blk_below (bk_ BK353.out) hb)
      have n3_ := a_ (below_step bel_ hb)
      clear HO362
      clear BK353
      clear HB
      have HO362 := n0_
      have HO356 := n1_
      have BK353 := n2_
      have HB := n3_
      clear n0_ n1_ n2_ n3_
      clear hb ho12
      refine hK.out _ _ ⟨(blk_cell BK353.out 0).trans rfl, (blk_cell BK353.out 1).trans rfl, (blk_cell BK353.out 2).trans rfl, (blk_cell BK353.out 3).trans rfl⟩ (fun hHeld => ?_)
      clear hK K
      refine norm_ (a' := ?_) ?_ ?_
      rotate_left
      ·show Act.put _ (some 8) _ = _
       simp only [Act.put, List.setIfInBounds_toArray, List.set_cons_zero, List.set_cons_succ, i64_w, i32_w]
       rfl
      refine one_ (i := 2) (N := some 10) #[true, true, true, true, true, false, false] rfl rfl (by kernel_rfl) (by decide) (fun K hK => ?_)
      refine Kd.R_append_rows_step k28 (w0 := w) w.heap.size (by rfl) (.tmp 8) (.tmp 9) 22 28 (.agg #[(.int .i64 0), (.int .i64 0), (.int .i64 0), (.int .i64 0)]) 32 rfl Try.underlying22 info28 rfl (by decide) (by omega) v355 y354 l0 _ _ _ (fun k_ => some k_ ≠ (v361 : Value).ownBlock ∧ k_ ≠ gb353) (fun _ => False) rfl rfl ?aO ?aR (fun _ _ h => h) (fun _ h => h.elim) ?aF ?aB ?aS ?aL ?_
      (case aR => exact kC_ (Kd.C_below HR0.out HB.out))
      (case aB => exact bel_)
      (case aF => exact (fun k_ hk => ⟨Kd.fresh' (Kd.R_lt (kR_ HO362.out)) k_ hk, Kd.freshB (bk_ BK353.out) k_ hk⟩))
      (case aO => exact (by (with_reducible repeat (first | apply Kd.R_alloc | apply Kd.R_drewN | apply Kd.R_drew)); exact Kd.R_mono HO356.out (fun _ hk => ⟨hk.1.2, hk.2⟩)))
      (case aS => exact (below_size bel_))
      (case aL => have := LMc3.out; omega)
      intro v358 w13 ho hb hg hat
      rw [← Ny357.out] at ho
      have n0_ := a_ (blk_grown (bk_ BK353.out) hg (Kd.R_away HO356.out (fun _ hk => hk.2)))
      have n1_ := a_ (Kd.R_after (ok := (fun k_ => k_ ≠ gb353)) (by (with_reducible repeat (first | apply Kd.R_alloc | apply Kd.R_drewN | apply Kd.R_drew)); exact Kd.R_mono HO362.out (fun _ hk => ⟨hk.1.2, hk.2⟩)) hg hat)
      have n2_ := a_ (hb)
      have n3_ := a_ (ho)
      clear BK353
      clear HO362
      clear HB
      clear HO356
      have BK353 := n0_
      have HO362 := n1_
      have HB := n2_
      have HO359 := n3_
      clear n0_ n1_ n2_ n3_
      clear ho hb hg hat
      refine hK.out _ _ ⟨(blk_cell BK353.out 0).trans rfl, (blk_cell BK353.out 1).trans rfl, (blk_cell BK353.out 2).trans rfl, (blk_cell BK353.out 3).trans rfl⟩ (fun hHeld => ?_)
      clear hK K
      refine norm_ (a' := ?_) ?_ ?_
      rotate_left
      ·show Act.put _ (some 10) _ = _
       simp only [Act.put, List.setIfInBounds_toArray, List.set_cons_zero, List.set_cons_succ, i64_w, i32_w]
       rfl
      exact norm_ (by simp only [putAll, Act.put, List.setIfInBounds_toArray, List.set_cons_zero, List.set_cons_succ]) (hCont (v355, v358, v361) _ ⟨hHeld, (kR_ HO359.out), (by (with_reducible repeat (first | apply Kd.R_alloc | apply Kd.R_drewN | apply Kd.R_drew)); exact Kd.R_mono HO362.out (fun _ hk => ⟨hk.2, hk.1⟩)), (bk_ BK353.out), bel_⟩)
    rintro ⟨v355, v358, v361⟩ w14 ⟨hS_, h0_, h1_, h2_, h3_⟩
    have n0_ : Aside0 (Kd.R k28 28 w14 w.heap.size (fun k_ => some k_ ≠ (v361 : Value).ownBlock ∧ k_ ≠ gb353) v358 y357) := ⟨h0_⟩
    have n1_ : Aside0 (Kd.R k28 28 w14 w.heap.size (fun k_ => some k_ ≠ (v358 : Value).ownBlock ∧ k_ ≠ gb353) v361 y360) := ⟨h1_⟩
    have n2_ : Aside0 (w14.heap[gb353]? = some (.cells #[.int .i64 a1_0, .int .i64 a1_1, .int .i64 a1_2, .int .i64 a1_3] 28 (0, 0))) := ⟨h2_⟩
    have n3_ : Aside0 (Below w.heap.size w w14) := ⟨h3_⟩
    clear BK353
    clear HB
    clear h0_ h1_ h2_ h3_
    have HO359 := n0_
    have HO362 := n1_
    have BK353 := n2_
    have HB := n3_
    clear n0_ n1_ n2_ n3_
    have hHeld : w14.cell? ⟨gb353, 0, none⟩ = some (.int .i64 a1_0) ∧ w14.cell? ⟨gb353, 1, none⟩ = some (.int .i64 a1_1) ∧ w14.cell? ⟨gb353, 2, none⟩ = some (.int .i64 a1_2) ∧ w14.cell? ⟨gb353, 3, none⟩ = some (.int .i64 a1_3) := hS_
    obtain ⟨Ao16, co16, eo16⟩ := Kd.R_slice HO362.out
    (first | subst eo16 | (injection eo16 with f1_ f2_ f3_; have f4_ := f1_.symm; have f5_ := f3_.symm; clear f1_ f2_ f3_; subst f4_; subst f5_))
    refine norm_ (a' := ?_) ?_ ?_
    rotate_left
    ·simp only [putAll, Act.put, List.setIfInBounds_toArray, List.set_cons_zero, List.set_cons_succ]
     rfl
    refine one_ (i := 5) (N := some 13) #[true, true, true, true, true, true, false] rfl rfl (by kernel_rfl) (by decide) (fun K hK => ?_)
    refine Kd.R_append_rows_step k28 (w0 := w) w.heap.size (by rfl) (.tmp 10) (.tmp 12) 22 28 (.agg #[(.int .i64 0), (.int .i64 0), (.int .i64 0), (.int .i64 0)]) 32 rfl Try.underlying22 info28 rfl (by decide) (by omega) v358 y357 y360 _ _ _ (fun k_ => some k_ ≠ (.slice Ao16 y360.length co16 : Value).ownBlock ∧ k_ ≠ gb353) (fun _ => False) rfl rfl ?aO ?aR (fun _ _ h => h) (fun _ h => h.elim) ?aF ?aB ?aS ?aL ?_
    (case aR => repeat (first | exact (Kd.R_reads' HO362.out).2.2 | (with_reducible refine Kd.C_alloc ?_ _) | (with_reducible refine Kd.C_drewN ?_ _) | (with_reducible refine Kd.C_drew ?_)))
    (case aB => exact bel_)
    (case aF => exact (fun k_ hk => ⟨Kd.fresh' (Kd.R_lt (kR_ HO362.out)) k_ hk, Kd.freshB (bk_ BK353.out) k_ hk⟩))
    (case aO => exact (kR_ HO359.out))
    (case aS => exact (below_size bel_))
    (case aL => have := LMc4.out; omega)
    intro v364 w15 ho hb hg hat
    rw [← Ny363.out] at ho
    have n0_ := a_ (blk_grown (bk_ BK353.out) hg (Kd.R_away HO359.out (fun _ hk => hk.2)))
    have n1_ := a_ (Kd.R_after (ok := (fun k_ => k_ ≠ gb353)) (by (with_reducible repeat (first | apply Kd.R_alloc | apply Kd.R_drewN | apply Kd.R_drew)); exact Kd.R_mono HO362.out (fun _ hk => ⟨hk.2, hk.1⟩)) hg hat)
    have n2_ := a_ (hb)
    have n3_ := a_ (ho)
    clear BK353
    clear HO362
    clear HB
    clear HO359
    have BK353 := n0_
    have HO362 := n1_
    have HB := n2_
    have HO365 := n3_
    clear n0_ n1_ n2_ n3_
    clear ho hb hg hat
    refine hK.out _ _ ⟨(blk_cell BK353.out 0).trans rfl, (blk_cell BK353.out 1).trans rfl, (blk_cell BK353.out 2).trans rfl, (blk_cell BK353.out 3).trans rfl⟩ (fun hHeld => ?_)
    clear hK K
    refine norm_ (a' := ?_) ?_ ?_
    rotate_left
    ·show Act.put _ (some 13) _ = _
     simp only [Act.put, List.setIfInBounds_toArray, List.set_cons_zero, List.set_cons_succ, i64_w, i32_w]
     rfl
    refine pure_ (i := 6) (N := some 6) (v := ?_) (a' := ?_) #[true, true, true, true, true, true, true] rfl rfl (by kernel_rfl) (fun _ _ _ h => h) (Or.inl ⟨by rfl, ?_⟩) ?_ ?_
    rotate_left
    ·intro w'
     go_simp
     with_reducible rfl
    rotate_left
    ·simp only [Act.put, List.setIfInBounds_toArray, List.set_cons_zero, List.set_cons_succ, i64_w, i32_w]
     rfl
    refine done_ (by kernel_rfl) ?_
    obtain ⟨Ao17, co17, eo17⟩ := Kd.R_slice HO365.out
    subst eo17
    try go_wp2_with (first | ((with_reducible refine gate_callee (f := 19) rfl ?_); refine gs_ (some 15) Try.func19 #[.slice Ao17 y363.length co17] ?_; (with_reducible refine (skiarearef55_Right.calls k _ _ y363 t366 _ ?side1 ?side2 A5.out).mono ?_); (case side1 => repeat (first | exact (Kd.R_reads' HO365.out).2.2 | (with_reducible refine Kd.C_alloc ?_ _) | (with_reducible refine Kd.C_drewN ?_ _) | (with_reducible refine Kd.C_drew ?_))); (case side2 => exact (Kd.R_reads' HO365.out).2.1); rintro e w18 ⟨rfl, hb⟩; refine ⟨_, rfl, ?_⟩; have n0_ := a_ (Kd.R_below (kR_ HO362.out) hb); have n1_ := a_ (Kd.R_below (kR_ HO365.out) hb); have n2_ := a_ (blk_below (bk_ BK353.out) hb); have n3_ := a_ (below_step bel_ hb); clear HO362; clear HO365; clear BK353; clear HB; have HO362 := n0_; have HO365 := n1_; have BK353 := n2_; have HB := n3_; clear n0_ n1_ n2_ n3_; (try clear hb); (try clear hb2); (try clear hk); (try clear hi)))
    go_ret2
    exact ⟨_, by first | rfl | (simp [errW_none, errW_some] <;> rfl) | (simp [*, errW_none, errW_some] <;> rfl), by (with_reducible repeat (first | apply Kd.R_alloc | apply Kd.R_drewN | apply Kd.R_drew)); exact Kd.R_mono HO365.out (fun _ hk => trivial), by repeat (first | (with_reducible first | exact HB.out | apply below_alloc | apply pw_below_drewN | apply below_drew1 | refine below_set ?_ GE353.out) | exact HB.out)⟩
   ·rw [if_neg c6] at H
    have c6b0 : (t366 == 0) = false := beq_eq_false_iff_ne.mpr c6
    have c6b1 : (t366 != 0) = true := bne_iff_ne.mpr c6
    simp only [Option.some.injEq, Prod.mk.injEq] at H
    obtain ⟨rfl, rfl⟩ := H
    go_enter Try.func18, Try.ntmps18
    try go_wp2_with (first | ((with_reducible refine gate_dst (N := 3) rfl ?_); refine box_event ?hg (N := 3) ?hd (cs := #[.int .i64 a1_0, .int .i64 a1_1, .int .i64 a1_2, .int .i64 a1_3]) (t := 28) ?hr ?_; (case hd => rfl); (case hg => rfl); (case hr => first | (go_simp; done) | (go_simp; rfl)); intro gb353 hg w19 hbox hb; have n0_ := a_ (below_step bel_ hb); have n1_ := a_ (hbox); have n2_ := a_ (bz_ hg : w.heap.size ≤ gb353); have n3_ := a_ (bz_ hg : w.heap.size ≤ gb353); clear HB; have HB := n0_; have BK353 := n1_; have GW353 := n2_; have GE353 := n3_; clear n0_ n1_ n2_ n3_; clear hb hbox hg))
    have n0_ := a_ (blk_drew BK353.out)
    have n1_ := a_ (below_drew1 HB.out)
    clear BK353
    clear HB
    have BK353 := n0_
    have HB := n1_
    clear n0_ n1_
    refine start_ (n := 7) (S := fun w' => w'.cell? ⟨gb353, 0, none⟩ = some (.int .i64 a1_0) ∧ w'.cell? ⟨gb353, 1, none⟩ = some (.int .i64 a1_1) ∧ w'.cell? ⟨gb353, 2, none⟩ = some (.int .i64 a1_2) ∧ w'.cell? ⟨gb353, 3, none⟩ = some (.int .i64 a1_3)) (ds := []) #[false, false, false, false, false, false, false] (by kernel_rfl) rfl rfl ⟨(blk_cell BK353.out 0).trans rfl, (blk_cell BK353.out 1).trans rfl, (blk_cell BK353.out 2).trans rfl, (blk_cell BK353.out 3).trans rfl⟩ (fun hHeld => ?_)
    generalize w19.drew = w20 at BK353 HB hHeld ⊢
    refine pure_ (i := 1) (N := some 9) (v := ?_) (a' := ?_) #[false, true, false, false, false, false, false] rfl rfl (by kernel_rfl) (fun _ _ _ h => h) (Or.inl ⟨by rfl, ?_⟩) ?_ ?_
    rotate_left
    ·intro w'
     go_simp
     with_reducible rfl
    rotate_left
    ·simp only [Act.put, List.setIfInBounds_toArray, List.set_cons_zero, List.set_cons_succ, i64_w, i32_w]
     rfl
    refine take_ (i := 3) (N := some 11) (v := ?_) (a' := ?_) #[false, true, false, true, false, false, false] rfl rfl (by kernel_rfl) (fun _ _ _ h => h) (Or.inl ⟨by rfl, ?_⟩) hHeld ?_ ?_
    rotate_left
    ·rintro w' ⟨s0, s1, s2, s3⟩
     go_simp
     with_reducible rfl
    rotate_left
    ·simp only [Act.put, List.setIfInBounds_toArray, List.set_cons_zero, List.set_cons_succ, i64_w, i32_w]
     rfl
    refine join_ (σ := Value × Value × Value) 2 #[true, true, true, true, true, false, false] (fun s_ => [(8, s_.1), (10, s_.2.1), (12, s_.2.2)]) (fun s_ w' => (w'.cell? ⟨gb353, 0, none⟩ = some (.int .i64 a1_0) ∧ w'.cell? ⟨gb353, 1, none⟩ = some (.int .i64 a1_1) ∧ w'.cell? ⟨gb353, 2, none⟩ = some (.int .i64 a1_2) ∧ w'.cell? ⟨gb353, 3, none⟩ = some (.int .i64 a1_3)) ∧ (Kd.R k28 28 w' w.heap.size (fun k_ => some k_ ≠ (s_.2.2 : Value).ownBlock ∧ k_ ≠ gb353) s_.2.1 y357) ∧ (Kd.R k28 28 w' w.heap.size (fun k_ => some k_ ≠ (s_.2.1 : Value).ownBlock ∧ k_ ≠ gb353) s_.2.2 y360) ∧ (w'.heap[gb353]? = some (.cells #[.int .i64 a1_0, .int .i64 a1_1, .int .i64 a1_2, .int .i64 a1_3] 28 (0, 0))) ∧ (Below w.heap.size w w')) ?_ ?_
    rotate_left
    ·intro hCont
     refine two_ (i := 0) (j := 4) (Ni := some 8) (Nj := some 12) #[true, true, false, true, false, false, false] #[false, true, false, true, true, false, false] rfl rfl rfl rfl (by kernel_rfl) (by decide) (by decide) (fun K hK => ?_) (fun K hK => ?_)
     ·skip
      refine Kd.R_lit_step k28 _ 28 ?hg (N := 8) ?hd (xs := ([] : List (S28))) (inner := []) (ok := fun _ => True) (okp := fun _ => True) ?hr ?hp (fun _ hk => hk) trivial (Below.refl _ _) (Nat.le_refl _) (by simp) ?_; (case hd => rfl); (case hg => rfl); (case hr => first | (go_simp; done) | (go_simp; rfl)); (case hp => exact (Reps.none _ _))
      intro v355 w21 ho22 hb hg_ hnew_
      clear hg_ hnew_
      (first | rw [← Ny354.out] at ho22 | (simp only [Int.reduceToNat] at ho22; rw [← Ny354.out] at ho22))
      have n0_ := a_ (Kd.R_lower (Kd.R_newB ho22 (bk_ BK353.out)) (below_size bel_))
      have n1_ := a_ (blk_below (bk_ BK353.out) hb)
      have n2_ := a_ (below_step bel_ hb)
      clear BK353
      clear HB
      have HO356 := n0_
      have BK353 := n1_
      have HB := n2_
      clear n0_ n1_ n2_
      clear hb ho22
      refine hK.out _ _ ⟨(blk_cell BK353.out 0).trans rfl, (blk_cell BK353.out 1).trans rfl, (blk_cell BK353.out 2).trans rfl, (blk_cell BK353.out 3).trans rfl⟩ (fun hHeld => ?_)
      clear hK K
      refine norm_ (a' := ?_) ?_ ?_
      rotate_left
      ·show Act.put _ (some 8) _ = _
       simp only [Act.put, List.setIfInBounds_toArray, List.set_cons_zero, List.set_cons_succ, i64_w, i32_w]
       rfl
      refine two_ (i := 2) (j := 4) (Ni := some 10) (Nj := some 12) #[true, true, true, true, false, false, false] #[true, true, false, true, true, false, false] rfl rfl rfl rfl (by kernel_rfl) (by decide) (by decide) (fun K hK => ?_) (fun K hK => ?_)
      ·skip
       refine Kd.R_append_rows_step k28 (w0 := w) w.heap.size (by rfl) (.tmp 8) (.tmp 9) 22 28 (.agg #[(.int .i64 0), (.int .i64 0), (.int .i64 0), (.int .i64 0)]) 32 rfl Try.underlying22 info28 rfl (by decide) (by omega) v355 y354 l0 _ _ _ (fun k_ => k_ ≠ gb353) (fun _ => False) rfl rfl ?aO ?aR (fun _ _ h => h) (fun _ h => h.elim) ?aF ?aB ?aS ?aL ?_
       (case aR => exact kC_ (Kd.C_below HR0.out HB.out))
       (case aB => exact bel_)
       (case aF => exact (fun k_ hk => Kd.freshB (bk_ BK353.out) k_ hk))
       (case aO => exact (by (with_reducible repeat (first | apply Kd.R_alloc | apply Kd.R_drewN | apply Kd.R_drew)); exact Kd.R_mono HO356.out (fun _ hk => hk.2)))
       (case aS => exact (below_size bel_))
       (case aL => have := LMc3.out; omega)
       intro v358 w23 ho hb hg hat
       rw [← Ny357.out] at ho
       have n0_ := a_ (blk_grown (bk_ BK353.out) hg (Kd.R_away HO356.out (fun _ hk => hk.2)))
       have n1_ := a_ (hb)
       have n2_ := a_ (ho)
       clear BK353
       clear HB
       clear HO356
       have BK353 := n0_
       have HB := n1_
       have HO359 := n2_
       clear n0_ n1_ n2_
       clear ho hb hg hat
       refine hK.out _ _ ⟨(blk_cell BK353.out 0).trans rfl, (blk_cell BK353.out 1).trans rfl, (blk_cell BK353.out 2).trans rfl, (blk_cell BK353.out 3).trans rfl⟩ (fun hHeld => ?_)
       clear hK K
       refine norm_ (a' := ?_) ?_ ?_
       rotate_left
       ·show Act.put _ (some 10) _ = _
        simp only [Act.put, List.setIfInBounds_toArray, List.set_cons_zero, List.set_cons_succ, i64_w, i32_w]
        rfl
       refine one_ (i := 4) (N := some 12) #[true, true, true, true, true, false, false] rfl rfl (by kernel_rfl) (by decide) (fun K hK => ?_)
       refine Kd.R_lit_step k28 _ 28 ?hg (N := 12) ?hd (xs := ([(⟨a1_0, a1_1, a1_2, a1_3⟩ : S28)] : List (S28))) (inner := [.int .i64 a1_0, .int .i64 a1_1, .int .i64 a1_2, .int .i64 a1_3]) (ok := fun _ => True) (okp := fun _ => True) ?hr ?hp (fun _ hk => hk) trivial (Below.refl _ _) (Nat.le_refl _) (by simp) ?_; (case hd => rfl); (case hg => rfl); (case hr => first | (go_simp; done) | (go_simp; rfl)); (case hp => exact (Reps.c4 (show Kd.M k28 _ _ _ (⟨a1_0, a1_1, a1_2, a1_3⟩ : S28) [.int .i64 a1_0, .int .i64 a1_1, .int .i64 a1_2, .int .i64 a1_3] from (k28_mkM _ _ _ (⟨a1_0, a1_1, a1_2, a1_3⟩ : S28) )) (Reps.none _ _)))
       intro v361 w24 ho25 hb hg_ hnew_
       clear hg_ hnew_
       (first | rw [← Ny360.out] at ho25 | (simp only [Int.reduceToNat] at ho25; rw [← Ny360.out] at ho25))
       have n0_ := a_ (Kd.R_elder' (kR_ HO359.out) (Kd.R_base ho25) hb)
       have n1_ := a_ (Kd.R_lower (Kd.R_newB (Kd.R_new' ho25 (Kd.R_lt (kR_ HO359.out))) (bk_ BK353.out)) (below_size bel_))
       have n2_ := a_ (blk_below (bk_ BK353.out) hb)
       have n3_ := a_ (below_step bel_ hb)
       clear HO359
       clear BK353
       clear HB
       have HO359 := n0_
       have HO362 := n1_
       have BK353 := n2_
       have HB := n3_
       clear n0_ n1_ n2_ n3_
       clear hb ho25
       refine hK.out _ _ ⟨(blk_cell BK353.out 0).trans rfl, (blk_cell BK353.out 1).trans rfl, (blk_cell BK353.out 2).trans rfl, (blk_cell BK353.out 3).trans rfl⟩ (fun hHeld => ?_)
       clear hK K
       refine norm_ (a' := ?_) ?_ ?_
       rotate_left
       ·show Act.put _ (some 12) _ = _
        simp only [Act.put, List.setIfInBounds_toArray, List.set_cons_zero, List.set_cons_succ, i64_w, i32_w]
        rfl
       exact norm_ (by simp only [putAll, Act.put, List.setIfInBounds_toArray, List.set_cons_zero, List.set_cons_succ]) (hCont (v355, v358, v361) _ ⟨hHeld, (by (with_reducible repeat (first | apply Kd.R_alloc | apply Kd.R_drewN | apply Kd.R_drew)); exact Kd.R_mono HO359.out (fun _ hk => ⟨hk.2, hk.1⟩)), (by (with_reducible repeat (first | apply Kd.R_alloc | apply Kd.R_drewN | apply Kd.R_drew)); exact Kd.R_mono HO362.out (fun _ hk => ⟨hk.1.2, hk.2⟩)), (bk_ BK353.out), bel_⟩)
      ·skip
       refine Kd.R_lit_step k28 _ 28 ?hg (N := 12) ?hd (xs := ([(⟨a1_0, a1_1, a1_2, a1_3⟩ : S28)] : List (S28))) (inner := [.int .i64 a1_0, .int .i64 a1_1, .int .i64 a1_2, .int .i64 a1_3]) (ok := fun _ => True) (okp := fun _ => True) ?hr ?hp (fun _ hk => hk) trivial (Below.refl _ _) (Nat.le_refl _) (by simp) ?_; (case hd => rfl); (case hg => rfl); (case hr => first | (go_simp; done) | (go_simp; rfl)); (case hp => exact (Reps.c4 (show Kd.M k28 _ _ _ (⟨a1_0, a1_1, a1_2, a1_3⟩ : S28) [.int .i64 a1_0, .int .i64 a1_1, .int .i64 a1_2, .int .i64 a1_3] from (k28_mkM _ _ _ (⟨a1_0, a1_1, a1_2, a1_3⟩ : S28) )) (Reps.none _ _)))
       intro v361 w23 ho24 hb hg_ hnew_
       clear hg_ hnew_
       (first | rw [← Ny360.out] at ho24 | (simp only [Int.reduceToNat] at ho24; rw [← Ny360.out] at ho24))
       have n0_ := a_ (Kd.R_elder' (kR_ HO356.out) (Kd.R_base ho24) hb)
       have n1_ := a_ (Kd.R_lower (Kd.R_newB (Kd.R_new' ho24 (Kd.R_lt (kR_ HO356.out))) (bk_ BK353.out)) (below_size bel_))
       have n2_ := a_ (blk_below (bk_ BK353.out) hb)
       have n3_ := a_ (below_step bel_ hb)
       clear HO356
       clear BK353
       clear HB
       have HO356 := n0_
       have HO362 := n1_
       have BK353 := n2_
       have HB := n3_
       clear n0_ n1_ n2_ n3_
       clear hb ho24
       refine hK.out _ _ ⟨(blk_cell BK353.out 0).trans rfl, (blk_cell BK353.out 1).trans rfl, (blk_cell BK353.out 2).trans rfl, (blk_cell BK353.out 3).trans rfl⟩ (fun hHeld => ?_)
       clear hK K
       refine norm_ (a' := ?_) ?_ ?_
       rotate_left
       ·show Act.put _ (some 12) _ = _
        simp only [Act.put, List.setIfInBounds_toArray, List.set_cons_zero, List.set_cons_succ, i64_w, i32_w]
        rfl
       refine one_ (i := 2) (N := some 10) #[true, true, true, true, true, false, false] rfl rfl (by kernel_rfl) (by decide) (fun K hK => ?_)
       refine Kd.R_append_rows_step k28 (w0 := w) w.heap.size (by rfl) (.tmp 8) (.tmp 9) 22 28 (.agg #[(.int .i64 0), (.int .i64 0), (.int .i64 0), (.int .i64 0)]) 32 rfl Try.underlying22 info28 rfl (by decide) (by omega) v355 y354 l0 _ _ _ (fun k_ => some k_ ≠ (v361 : Value).ownBlock ∧ k_ ≠ gb353) (fun _ => False) rfl rfl ?aO ?aR (fun _ _ h => h) (fun _ h => h.elim) ?aF ?aB ?aS ?aL ?_
       (case aR => exact kC_ (Kd.C_below HR0.out HB.out))
       (case aB => exact bel_)
       (case aF => exact (fun k_ hk => ⟨Kd.fresh' (Kd.R_lt (kR_ HO362.out)) k_ hk, Kd.freshB (bk_ BK353.out) k_ hk⟩))
       (case aO => exact (by (with_reducible repeat (first | apply Kd.R_alloc | apply Kd.R_drewN | apply Kd.R_drew)); exact Kd.R_mono HO356.out (fun _ hk => ⟨hk.2, hk.1.2⟩)))
       (case aS => exact (below_size bel_))
       (case aL => have := LMc3.out; omega)
       intro v358 w25 ho hb hg hat
       rw [← Ny357.out] at ho
       have n0_ := a_ (blk_grown (bk_ BK353.out) hg (Kd.R_away HO356.out (fun _ hk => hk.1.2)))
       have n1_ := a_ (Kd.R_after (ok := (fun k_ => k_ ≠ gb353)) (by (with_reducible repeat (first | apply Kd.R_alloc | apply Kd.R_drewN | apply Kd.R_drew)); exact Kd.R_mono HO362.out (fun _ hk => ⟨hk.2, hk.1.2⟩)) hg hat)
       have n2_ := a_ (hb)
       have n3_ := a_ (ho)
       clear BK353
       clear HO362
       clear HB
       clear HO356
       have BK353 := n0_
       have HO362 := n1_
       have HB := n2_
       have HO359 := n3_
       clear n0_ n1_ n2_ n3_
       clear ho hb hg hat
       refine hK.out _ _ ⟨(blk_cell BK353.out 0).trans rfl, (blk_cell BK353.out 1).trans rfl, (blk_cell BK353.out 2).trans rfl, (blk_cell BK353.out 3).trans rfl⟩ (fun hHeld => ?_)
       clear hK K
       refine norm_ (a' := ?_) ?_ ?_
       rotate_left
       ·show Act.put _ (some 10) _ = _
        simp only [Act.put, List.setIfInBounds_toArray, List.set_cons_zero, List.set_cons_succ, i64_w, i32_w]
        rfl
       exact norm_ (by simp only [putAll, Act.put, List.setIfInBounds_toArray, List.set_cons_zero, List.set_cons_succ]) (hCont (v355, v358, v361) _ ⟨hHeld, (kR_ HO359.out), (by (with_reducible repeat (first | apply Kd.R_alloc | apply Kd.R_drewN | apply Kd.R_drew)); exact Kd.R_mono HO362.out (fun _ hk => ⟨hk.2, hk.1⟩)), (bk_ BK353.out), bel_⟩)
     ·skip
      refine Kd.R_lit_step k28 _ 28 ?hg (N := 12) ?hd (xs := ([(⟨a1_0, a1_1, a1_2, a1_3⟩ : S28)] : List (S28))) (inner := [.int .i64 a1_0, .int .i64 a1_1, .int .i64 a1_2, .int .i64 a1_3]) (ok := fun _ => True) (okp := fun _ => True) ?hr ?hp (fun _ hk => hk) trivial (Below.refl _ _) (Nat.le_refl _) (by simp) ?_; (case hd => rfl); (case hg => rfl); (case hr => first | (go_simp; done) | (go_simp; rfl)); (case hp => exact (Reps.c4 (show Kd.M k28 _ _ _ (⟨a1_0, a1_1, a1_2, a1_3⟩ : S28) [.int .i64 a1_0, .int .i64 a1_1, .int .i64 a1_2, .int .i64 a1_3] from (k28_mkM _ _ _ (⟨a1_0, a1_1, a1_2, a1_3⟩ : S28) )) (Reps.none _ _)))
      intro v361 w21 ho22 hb hg_ hnew_
      clear hg_ hnew_
      (first | rw [← Ny360.out] at ho22 | (simp only [Int.reduceToNat] at ho22; rw [← Ny360.out] at ho22))
      have n0_ := a_ (Kd.R_lower (Kd.R_newB ho22 (bk_ BK353.out)) (below_size bel_))
      have n1_ := a_ (blk_below (bk_ BK353.out) hb)
      have n2_ := a_ (below_step bel_ hb)
      clear BK353
      clear HB
      have HO362 := n0_
      have BK353 := n1_
      have HB := n2_
      clear n0_ n1_ n2_
      clear hb ho22
      refine hK.out _ _ ⟨(blk_cell BK353.out 0).trans rfl, (blk_cell BK353.out 1).trans rfl, (blk_cell BK353.out 2).trans rfl, (blk_cell BK353.out 3).trans rfl⟩ (fun hHeld => ?_)
      clear hK K
      refine norm_ (a' := ?_) ?_ ?_
      rotate_left
      ·show Act.put _ (some 12) _ = _
       simp only [Act.put, List.setIfInBounds_toArray, List.set_cons_zero, List.set_cons_succ, i64_w, i32_w]
       rfl
      refine one_ (i := 0) (N := some 8) #[true, true, false, true, true, false, false] rfl rfl (by kernel_rfl) (by decide) (fun K hK => ?_)
      refine Kd.R_lit_step k28 _ 28 ?hg (N := 8) ?hd (xs := ([] : List (S28))) (inner := []) (ok := fun _ => True) (okp := fun _ => True) ?hr ?hp (fun _ hk => hk) trivial (Below.refl _ _) (Nat.le_refl _) (by simp) ?_; (case hd => rfl); (case hg => rfl); (case hr => first | (go_simp; done) | (go_simp; rfl)); (case hp => exact (Reps.none _ _))
      intro v355 w23 ho24 hb hg_ hnew_
      clear hg_ hnew_
      (first | rw [← Ny354.out] at ho24 | (simp only [Int.reduceToNat] at ho24; rw [← Ny354.out] at ho24))
      have n0_ := a_ (Kd.R_elder' (kR_ HO362.out) (Kd.R_base ho24) hb)
      have n1_ := a_ (Kd.R_lower (Kd.R_newB (Kd.R_new' ho24 (Kd.R_lt (kR_ HO362.out))) (bk_ BK353.out)) (below_size bel_))
      have n2_ := a_ (blk_below (bk_ BK353.out) hb)
      have n3_ := a_ (below_step bel_ hb)
      clear HO362
      clear BK353
      clear HB
      have HO362 := n0_
      have HO356 := n1_
      have BK353 := n2_
      have HB := n3_
      clear n0_ n1_ n2_ n3_
      clear hb ho24
      refine hK.out _ _ ⟨(blk_cell BK353.out 0).trans rfl, (blk_cell BK353.out 1).trans rfl, (blk_cell BK353.out 2).trans rfl, (blk_cell BK353.out 3).trans rfl⟩ (fun hHeld => ?_)
      clear hK K
      refine norm_ (a' := ?_) ?_ ?_
      rotate_left
      ·show Act.put _ (some 8) _ = _
       simp only [Act.put, List.setIfInBounds_toArray, List.set_cons_zero, List.set_cons_succ, i64_w, i32_w]
       rfl
      refine one_ (i := 2) (N := some 10) #[true, true, true, true, true, false, false] rfl rfl (by kernel_rfl) (by decide) (fun K hK => ?_)
      refine Kd.R_append_rows_step k28 (w0 := w) w.heap.size (by rfl) (.tmp 8) (.tmp 9) 22 28 (.agg #[(.int .i64 0), (.int .i64 0), (.int .i64 0), (.int .i64 0)]) 32 rfl Try.underlying22 info28 rfl (by decide) (by omega) v355 y354 l0 _ _ _ (fun k_ => some k_ ≠ (v361 : Value).ownBlock ∧ k_ ≠ gb353) (fun _ => False) rfl rfl ?aO ?aR (fun _ _ h => h) (fun _ h => h.elim) ?aF ?aB ?aS ?aL ?_
      (case aR => exact kC_ (Kd.C_below HR0.out HB.out))
      (case aB => exact bel_)
      (case aF => exact (fun k_ hk => ⟨Kd.fresh' (Kd.R_lt (kR_ HO362.out)) k_ hk, Kd.freshB (bk_ BK353.out) k_ hk⟩))
      (case aO => exact (by (with_reducible repeat (first | apply Kd.R_alloc | apply Kd.R_drewN | apply Kd.R_drew)); exact Kd.R_mono HO356.out (fun _ hk => ⟨hk.1.2, hk.2⟩)))
      (case aS => exact (below_size bel_))
      (case aL => have := LMc3.out; omega)
      intro v358 w25 ho hb hg hat
      rw [← Ny357.out] at ho
      have n0_ := a_ (blk_grown (bk_ BK353.out) hg (Kd.R_away HO356.out (fun _ hk => hk.2)))
      have n1_ := a_ (Kd.R_after (ok := (fun k_ => k_ ≠ gb353)) (by (with_reducible repeat (first | apply Kd.R_alloc | apply Kd.R_drewN | apply Kd.R_drew)); exact Kd.R_mono HO362.out (fun _ hk => ⟨hk.1.2, hk.2⟩)) hg hat)
      have n2_ := a_ (hb)
      have n3_ := a_ (ho)
      clear BK353
      clear HO362
      clear HB
      clear HO356
      have BK353 := n0_
      have HO362 := n1_
      have HB := n2_
      have HO359 := n3_
      clear n0_ n1_ n2_ n3_
      clear ho hb hg hat
      refine hK.out _ _ ⟨(blk_cell BK353.out 0).trans rfl, (blk_cell BK353.out 1).trans rfl, (blk_cell BK353.out 2).trans rfl, (blk_cell BK353.out 3).trans rfl⟩ (fun hHeld => ?_)
      clear hK K
      refine norm_ (a' := ?_) ?_ ?_
      rotate_left
      ·show Act.put _ (some 10) _ = _
       simp only [Act.put, List.setIfInBounds_toArray, List.set_cons_zero, List.set_cons_succ, i64_w, i32_w]
       rfl
      exact norm_ (by simp only [putAll, Act.put, List.setIfInBounds_toArray, List.set_cons_zero, List.set_cons_succ]) (hCont (v355, v358, v361) _ ⟨hHeld, (kR_ HO359.out), (by (with_reducible repeat (first | apply Kd.R_alloc | apply Kd.R_drewN | apply Kd.R_drew)); exact Kd.R_mono HO362.out (fun _ hk => ⟨hk.2, hk.1⟩)), (bk_ BK353.out), bel_⟩)
    rintro ⟨v355, v358, v361⟩ w26 ⟨hS_, h0_, h1_, h2_, h3_⟩
    have n0_ : Aside0 (Kd.R k28 28 w26 w.heap.size (fun k_ => some k_ ≠ (v361 : Value).ownBlock ∧ k_ ≠ gb353) v358 y357) := ⟨h0_⟩
    have n1_ : Aside0 (Kd.R k28 28 w26 w.heap.size (fun k_ => some k_ ≠ (v358 : Value).ownBlock ∧ k_ ≠ gb353) v361 y360) := ⟨h1_⟩
    have n2_ : Aside0 (w26.heap[gb353]? = some (.cells #[.int .i64 a1_0, .int .i64 a1_1, .int .i64 a1_2, .int .i64 a1_3] 28 (0, 0))) := ⟨h2_⟩
    have n3_ : Aside0 (Below w.heap.size w w26) := ⟨h3_⟩
    clear BK353
    clear HB
    clear h0_ h1_ h2_ h3_
    have HO359 := n0_
    have HO362 := n1_
    have BK353 := n2_
    have HB := n3_
    clear n0_ n1_ n2_ n3_
    have hHeld : w26.cell? ⟨gb353, 0, none⟩ = some (.int .i64 a1_0) ∧ w26.cell? ⟨gb353, 1, none⟩ = some (.int .i64 a1_1) ∧ w26.cell? ⟨gb353, 2, none⟩ = some (.int .i64 a1_2) ∧ w26.cell? ⟨gb353, 3, none⟩ = some (.int .i64 a1_3) := hS_
    obtain ⟨Ao28, co28, eo28⟩ := Kd.R_slice HO362.out
    (first | subst eo28 | (injection eo28 with f1_ f2_ f3_; have f4_ := f1_.symm; have f5_ := f3_.symm; clear f1_ f2_ f3_; subst f4_; subst f5_))
    refine norm_ (a' := ?_) ?_ ?_
    rotate_left
    ·simp only [putAll, Act.put, List.setIfInBounds_toArray, List.set_cons_zero, List.set_cons_succ]
     rfl
    refine one_ (i := 5) (N := some 13) #[true, true, true, true, true, true, false] rfl rfl (by kernel_rfl) (by decide) (fun K hK => ?_)
    refine Kd.R_append_rows_step k28 (w0 := w) w.heap.size (by rfl) (.tmp 10) (.tmp 12) 22 28 (.agg #[(.int .i64 0), (.int .i64 0), (.int .i64 0), (.int .i64 0)]) 32 rfl Try.underlying22 info28 rfl (by decide) (by omega) v358 y357 y360 _ _ _ (fun k_ => some k_ ≠ (.slice Ao28 y360.length co28 : Value).ownBlock ∧ k_ ≠ gb353) (fun _ => False) rfl rfl ?aO ?aR (fun _ _ h => h) (fun _ h => h.elim) ?aF ?aB ?aS ?aL ?_
    (case aR => repeat (first | exact (Kd.R_reads' HO362.out).2.2 | (with_reducible refine Kd.C_alloc ?_ _) | (with_reducible refine Kd.C_drewN ?_ _) | (with_reducible refine Kd.C_drew ?_)))
    (case aB => exact bel_)
    (case aF => exact (fun k_ hk => ⟨Kd.fresh' (Kd.R_lt (kR_ HO362.out)) k_ hk, Kd.freshB (bk_ BK353.out) k_ hk⟩))
    (case aO => exact (kR_ HO359.out))
    (case aS => exact (below_size bel_))
    (case aL => have := LMc4.out; omega)
    intro v364 w27 ho hb hg hat
    rw [← Ny363.out] at ho
    have n0_ := a_ (blk_grown (bk_ BK353.out) hg (Kd.R_away HO359.out (fun _ hk => hk.2)))
    have n1_ := a_ (Kd.R_after (ok := (fun k_ => k_ ≠ gb353)) (by (with_reducible repeat (first | apply Kd.R_alloc | apply Kd.R_drewN | apply Kd.R_drew)); exact Kd.R_mono HO362.out (fun _ hk => ⟨hk.2, hk.1⟩)) hg hat)
    have n2_ := a_ (hb)
    have n3_ := a_ (ho)
    clear BK353
    clear HO362
    clear HB
    clear HO359
    have BK353 := n0_
    have HO362 := n1_
    have HB := n2_
    have HO365 := n3_
    clear n0_ n1_ n2_ n3_
    clear ho hb hg hat
    refine hK.out _ _ ⟨(blk_cell BK353.out 0).trans rfl, (blk_cell BK353.out 1).trans rfl, (blk_cell BK353.out 2).trans rfl, (blk_cell BK353.out 3).trans rfl⟩ (fun hHeld => ?_)
    clear hK K
    refine norm_ (a' := ?_) ?_ ?_
    rotate_left
    ·show Act.put _ (some 13) _ = _
     simp only [Act.put, List.setIfInBounds_toArray, List.set_cons_zero, List.set_cons_succ, i64_w, i32_w]
     rfl
    refine pure_ (i := 6) (N := some 6) (v := ?_) (a' := ?_) #[true, true, true, true, true, true, true] rfl rfl (by kernel_rfl) (fun _ _ _ h => h) (Or.inl ⟨by rfl, ?_⟩) ?_ ?_
    rotate_left
    ·intro w'
     go_simp
     with_reducible rfl
    rotate_left
    ·simp only [Act.put, List.setIfInBounds_toArray, List.set_cons_zero, List.set_cons_succ, i64_w, i32_w]
     rfl
    refine done_ (by kernel_rfl) ?_
    obtain ⟨Ao29, co29, eo29⟩ := Kd.R_slice HO365.out
    subst eo29
    try go_wp2_with (first | ((with_reducible refine gate_callee (f := 19) rfl ?_); refine gs_ (some 15) Try.func19 #[.slice Ao29 y363.length co29] ?_; (with_reducible refine (skiarearef55_Right.calls k _ _ y363 t366 _ ?side1 ?side2 A5.out).mono ?_); (case side1 => repeat (first | exact (Kd.R_reads' HO365.out).2.2 | (with_reducible refine Kd.C_alloc ?_ _) | (with_reducible refine Kd.C_drewN ?_ _) | (with_reducible refine Kd.C_drew ?_))); (case side2 => exact (Kd.R_reads' HO365.out).2.1); rintro e w30 ⟨rfl, hb⟩; refine ⟨_, rfl, ?_⟩; have n0_ := a_ (Kd.R_below (kR_ HO362.out) hb); have n1_ := a_ (Kd.R_below (kR_ HO365.out) hb); have n2_ := a_ (blk_below (bk_ BK353.out) hb); have n3_ := a_ (below_step bel_ hb); clear HO362; clear HO365; clear BK353; clear HB; have HO362 := n0_; have HO365 := n1_; have BK353 := n2_; have HB := n3_; clear n0_ n1_ n2_ n3_; (try clear hb); (try clear hb2); (try clear hk); (try clear hi)))
    go_ret2
    exact ⟨_, by first | rfl | (simp [errW_none, errW_some] <;> rfl) | (simp [*, errW_none, errW_some] <;> rfl), by first | exact Kd.R_nil _ _ _ _ _ | exact Kd.N_nil _ _ _ _ _ | exact Kd.V_nil _ _ _ _ _ | exact Kd.Q_nil _ _ _ _ _ | exact Kd.S_nil _ _ _ _ _, by repeat (first | (with_reducible first | exact HB.out | apply below_alloc | apply pw_below_drewN | apply below_drew1 | refine below_set ?_ GE353.out) | exact HB.out)⟩
  ·rw [if_neg c4] at H
   exact absurd H (by simp)
 ·rw [if_neg c3] at H
  exact absurd H (by simp)

end Go.Proofs.Ytgfiidgigenibaa.Q
