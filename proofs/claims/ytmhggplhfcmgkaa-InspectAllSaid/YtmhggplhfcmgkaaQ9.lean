-- written by wip/drive.py (this session's program) over the kit's print words
import Derived.Test.YtmhggplhfcmgkaaQ0
import Derived.Test.YtmhggplhfcmgkaaQ7
import Derived.Test.YtmhggplhfcmgkaaQ8
namespace Go.Proofs.Ytmhggplhfcmgkaa.Q
open Go.RowKit Go.Proofs.YtmhggplhfcmgkaaW.PrintWords Go.Proofs.YtmhggplhfcmgkaaW.PrintLast Go.Proofs.YtmhggplhfcmgkaaW.PrintMore
attribute [local go_sem] max2_int min2_int max_two min_two max_three min_three max_four min_four   -- for this text's walks alone
set_option linter.unusedVariables false
set_option linter.unusedSimpArgs false

/-! ### inspect_Sign: function 21 -/
def inspect_Sign.l0 : Nat → Int → Int → Int → List (S35) → Int → Int → List Int → Int → List (S35) → Option (List Int × Int × (List (S35)) × Int)
 | 0, _, _, _, _, _, _, _, _, _ => none
 | k + 1, x1, x2, x3, x21, x22, x23, x117000, x117001, x117002 => if x23 < x22 then (if 0 ≤ x23 then (if x23 < (x21.length : Int) then (if ((rd_T35 x21 x23).f0) = x1 then (inspect_Sign.l0 k x1 x2 x3 x21 x22 (wrap64 (x23 + 1)) x117000 x117001 x117002) else (if x117002.length < 5864062014805 then (inspect_Sign.l0 k x1 x2 x3 x21 x22 (wrap64 (x23 + 1)) x117000 x117001 (x117002 ++ [(⟨(rd_T35 x21 x23).f0, (rd_T35 x21 x23).f1, (rd_T35 x21 x23).f2⟩ : S35)])) else (none))) else (none)) else (none)) else (if x117002.length < 5864062014805 then ((some (x117002 ++ [(⟨x1, x2, x3⟩ : S35)] : List (S35))).bind fun y122 => ((inspect_Right.f k x117000 x117001 y122).bind fun t125 => (if t125 = 0 then (some (x117000, x117001, y122, 0)) else (some (([] : List Int), 0, ([] : List (S35)), t125))))) else (none))
def inspect_Sign.f (k : Nat) (l0_0 : List Int) (a0_1 : Int) (l0_2 : List (S35)) (a1 : Int) (a2 : Int) (a3 : Int) : Option (List Int × Int × (List (S35)) × Int) := (slices_Clone_int_int.f l0_0).bind fun t113 => (inspect_Sign.l0 k a1 a2 a3 l0_2 (l0_2.length : Int) 0 t113 a0_1 ([] : List (S35)))
theorem inspect_Sign.mono_l : ∀ k, (∀ y0 y1 y2 y3 y4 y5 y6 y7 y8, LeO (inspect_Sign.l0 k y0 y1 y2 y3 y4 y5 y6 y7 y8) (inspect_Sign.l0 (k + 1) y0 y1 y2 y3 y4 y5 y6 y7 y8))
 | 0 => fun _ _ _ _ _ _ _ _ _ r h => by simp [inspect_Sign.l0] at h
 | k + 1 => by
  have ih0 := inspect_Sign.mono_l k
  ·intro y0 y1 y2 y3 y4 y5 y6 y7 y8
   unfold inspect_Sign.l0
   repeat' first
   | (with_reducible exact ih0 _ _ _ _ _ _ _ _ _)
   | (with_reducible exact inspect_Right.mono _ _ _ _)
   | (with_reducible exact LeO.refl _)
   | (with_reducible exact LeO.none _)
   | (with_reducible refine LeO.ite ?_ ?_)
   | (with_reducible refine LeO.bind ?_ (fun _ => ?_))
   | exact ih0 _ _ _ _ _ _ _ _ _
   | exact inspect_Right.mono _ _ _ _
   | exact LeO.none _
   | refine LeO.ite ?_ ?_
   | refine LeO.bind ?_ (fun _ => ?_)
theorem inspect_Sign.mono : ∀ a0 a1 a2 a3 a4 a5 k, LeO (inspect_Sign.f k a0 a1 a2 a3 a4 a5) (inspect_Sign.f (k + 1) a0 a1 a2 a3 a4 a5) := by
 intro a0 a1 a2 a3 a4 a5 k
 have ih0 := inspect_Sign.mono_l k
 unfold inspect_Sign.f
 repeat' first
   | (with_reducible exact ih0 _ _ _ _ _ _ _ _ _)
   | (with_reducible exact inspect_Right.mono _ _ _ _)
   | (with_reducible exact LeO.refl _)
   | (with_reducible exact LeO.none _)
   | (with_reducible refine LeO.ite ?_ ?_)
   | (with_reducible refine LeO.bind ?_ (fun _ => ?_))
   | exact ih0 _ _ _ _ _ _ _ _ _
   | exact inspect_Right.mono _ _ _ _
   | exact LeO.none _
   | refine LeO.ite ?_ ?_
   | refine LeO.bind ?_ (fun _ => ?_)
def inspect_Sign.T1 : Bool × List (List Nat × List Nat) := (true, [([], []), ([0], [0]), ([1], [1]), ([], []), ([3], [3]), ([2, 4], [2, 4]), ([], []), ([6, 5, 2, 0, 1, 2, 3, 4, 5, 6], [5, 6])])
def inspect_Sign.B1 : List Nat := [0, 1, 3, 0, 8, 31, 0, 127]
theorem inspect_Sign.tab1 : rtab .any (opsOf Try.f21 1) = inspect_Sign.T1 := by kernel_rfl
theorem inspect_Sign.bits1 : waitsOk inspect_Sign.T1.2 inspect_Sign.B1 = true := by kernel_rfl
set_option maxHeartbeats 8000000 in
set_option maxRecDepth 100000 in
theorem inspect_Sign.calls (k : Nat) (A0_0 : Option Addr) (c0_0 : Nat) (l0_0 : List Int) (a0_1 : Int) (A0_2 : Option Addr) (c0_2 : Nat) (l0_2 : List (S35)) (a1 : Int) (a2 : Int) (a3 : Int) (r1 : List Int) (r2 : Int) (r3 : List (S35)) (r4 : Int) (w : World) (hr0_0 : Kd.C (Kd.int .i64) w A0_0 l0_0.length l0_0) (hc0_0 : l0_0.length ≤ c0_0) (hr0_2 : Kd.C k35 w A0_2 l0_2.length l0_2) (hc0_2 : l0_2.length ≤ c0_2) (h : inspect_Sign.f k l0_0 a0_1 l0_2 a1 a2 a3 = some (r1, r2, r3, r4)) :
  Calls Try.prog 21 #[.agg #[.slice A0_0 l0_0.length c0_0, .int .i64 a0_1, .slice A0_2 l0_2.length c0_2], .int .i64 a1, .int .i64 a2, .int .i64 a3] w fun e w' => ∃ v0_ v2_ : Value, e = .returned (.tuple #[.agg #[v0_, .int .i64 r2, v2_], .int .i64 r4]) ∧ Kd.R (Kd.int .i64) 3 w' w.heap.size (fun _ => True) v0_ r1 ∧ Kd.R k35 35 w' w.heap.size (fun _ => True) v2_ r3 ∧ Below w.heap.size w w' := by
 have hu25 := Try.underlying25
 have hu35 := Try.underlying35
 have HR0_0 := a_ hr0_0
 have HC0_0 := a_ hc0_0
 clear hr0_0 hc0_0
 have HR0_2 := a_ hr0_2
 have HC0_2 := a_ hc0_2
 clear hr0_2 hc0_2
 have HB := a_ (Below.refl w.heap.size w)
 have H : ((slices_Clone_int_int.f l0_0).bind fun t113 => (inspect_Sign.l0 k a1 a2 a3 l0_2 (l0_2.length : Int) 0 t113 a0_1 ([] : List (S35)))) = some (r1, r2, r3, r4) := h
 clear h
 replace H := Option.bind_eq_some_iff.mp H
 obtain ⟨t113, A50, H⟩ := H
 replace H : (inspect_Sign.l0 k a1 a2 a3 l0_2 (l0_2.length : Int) 0 t113 a0_1 ([] : List (S35))) = some (r1, r2, r3, r4) := H
 have A5 := a_ A50
 clear A50
 have H' := a_ H
 clear H
 go_enter Try.func21, Try.ntmps21
 try go_wp2_with (first | ((with_reducible refine gate_dst (N := 4) rfl ?_); refine box_event ?hg (N := 4) ?hd (cs := #[.slice A0_0 l0_0.length c0_0, .int .i64 a0_1, .slice A0_2 l0_2.length c0_2]) (t := 25) ?hr ?_; (case hd => rfl); (case hg => rfl); (case hr => first | (go_simp; done) | (go_simp; rfl)); intro gb111 hg w6 hbox hb; have n0_ := a_ (below_step bel_ hb); have n1_ := a_ (hbox); have n2_ := a_ (bz_ hg : w.heap.size ≤ gb111); have n3_ := a_ (bz_ hg : w.heap.size ≤ gb111); clear HB; have HB := n0_; have BK111 := n1_; have GW111 := n2_; have GE111 := n3_; clear n0_ n1_ n2_ n3_; clear hb hbox hg) | ((with_reducible refine gate_dst (N := 8) rfl ?_); refine box_event ?hg (N := 8) ?hd (cs := #[.slice none 0 0, .int .i64 0, .slice none 0 0]) (t := 25) ?hr ?_; (case hd => rfl); (case hg => rfl); (case hr => first | (go_simp; done) | (go_simp; rfl)); intro gb112 hg w7 hbox hb; have n0_ := a_ (blk_below (bk_ BK111.out) hb); have n1_ := a_ (below_step bel_ hb); have n2_ := a_ (hbox); have n3_ := a_ (bz_ hg : w.heap.size ≤ gb112); have n4_ := a_ (bz_ hg : w.heap.size ≤ gb112); have n5_ := a_ (nl_ hg (bk_ BK111.out)); have n6_ := a_ (ng_ hg (bk_ BK111.out)); clear BK111; clear HB; have BK111 := n0_; have HB := n1_; have BK112 := n2_; have GW112 := n3_; have GE112 := n4_; have NB111_112 := n5_; have NB112_111 := n6_; clear n0_ n1_ n2_ n3_ n4_ n5_ n6_; clear hb hbox hg))
 have n0_ := a_ (blk_drew BK111.out)
 have n1_ := a_ (blk_drew BK112.out)
 have n2_ := a_ (below_drew1 HB.out)
 clear BK111
 clear BK112
 clear HB
 have BK111 := n0_
 have BK112 := n1_
 have HB := n2_
 clear n0_ n1_ n2_
 refine start_ (n := 8) (S := fun w' => w'.cell? ⟨gb111, 0, none⟩ = some (.slice A0_0 l0_0.length c0_0) ∧ w'.cell? ⟨gb111, 1, none⟩ = some (.int .i64 a0_1) ∧ w'.cell? ⟨gb111, 2, none⟩ = some (.slice A0_2 l0_2.length c0_2)) (ds := []) #[false, false, false, false, false, false, false, false] (by kernel_rfl) rfl rfl ⟨(blk_cell BK111.out 0).trans rfl, (blk_cell BK111.out 1).trans rfl, (blk_cell BK111.out 2).trans rfl⟩ (fun hHeld => ?_); refine with_tabW inspect_Sign.tab1 inspect_Sign.bits1 (fun HT_ HW_ => ?_)
 generalize w7.drew = w8 at BK111 BK112 HB hHeld ⊢
 refine pq_ 0 (some 14) #[true, false, false, false, false, false, false, false] ?_
 refine pq_ 3 (some 17) #[true, false, false, true, false, false, false, false] ?_
 refine take_ (i := 1) (N := some 15) (v := ?_) (a' := ?_) #[true, true, false, true, false, false, false, false] rfl rfl (take_ofW HT_.out HW_.out (by kernel_rfl)) (fun _ _ _ h => h) (Or.inl ⟨by rfl, ?_⟩) hHeld ?_ ?_
 rotate_left
 ·rintro w' ⟨s0, s1, s2⟩
  go_simp
  with_reducible rfl
 rotate_left
 ·simp only [Act.put, List.setIfInBounds_toArray, List.set_cons_zero, List.set_cons_succ, i64_w, i32_w]
  rfl
 refine take_ (i := 4) (N := some 18) (v := ?_) (a' := ?_) #[true, true, false, true, true, false, false, false] rfl rfl (take_ofW HT_.out HW_.out (by kernel_rfl)) (fun _ _ _ h => h) (Or.inl ⟨by rfl, ?_⟩) hHeld ?_ ?_
 rotate_left
 ·rintro w' ⟨s0, s1, s2⟩
  go_simp
  with_reducible rfl
 rotate_left
 ·simp only [Act.put, List.setIfInBounds_toArray, List.set_cons_zero, List.set_cons_succ, i64_w, i32_w]
  rfl
 refine join_ (σ := Value × Nat) 1 #[true, true, true, true, true, true, true, false] (fun s_ => [(16, s_.1), (10, .pointer (some ⟨s_.2, 0, none⟩)), (19, .agg #[s_.1, .int .i64 a0_1, .slice none 0 0])]) (fun s_ w' => (w'.cell? ⟨gb111, 0, none⟩ = some (.slice A0_0 l0_0.length c0_0) ∧ w'.cell? ⟨gb111, 1, none⟩ = some (.int .i64 a0_1) ∧ w'.cell? ⟨gb111, 2, none⟩ = some (.slice A0_2 l0_2.length c0_2)) ∧ (Kd.R (Kd.int .i64) 3 w' w.heap.size (fun _ => True) s_.1 t113) ∧ (w'.heap[gb111]? = some (.cells #[.slice A0_0 l0_0.length c0_0, .int .i64 a0_1, .slice A0_2 l0_2.length c0_2] 25 (0, 0))) ∧ (w'.heap[gb112]? = some (.cells #[.slice none 0 0, .int .i64 0, .slice none 0 0] 25 (0, 0))) ∧ (w'.heap[s_.2]? = some (.cells #[.slice none 0 0, .int .i64 0, .slice none 0 0] 25 (0, 0))) ∧ (w.heap.size ≤ s_.2) ∧ (w.heap.size ≤ s_.2) ∧ (gb111 ≠ s_.2) ∧ (s_.2 ≠ gb111) ∧ (gb112 ≠ s_.2) ∧ (s_.2 ≠ gb112) ∧ (Below w.heap.size w w')) ?_ ?_
 rotate_left
 ·intro hCont
  refine two_ (i := 2) (j := 6) (Ni := some 16) (Nj := some 10) #[true, true, true, true, true, false, false, false] #[true, true, false, true, true, false, true, false] rfl rfl rfl rfl (two_of HT_.out (by kernel_rfl)) (by decide) (by decide) (fun K hK => ?_) (fun K hK => ?_)
  ·skip
   refine goes_ Try.func58 (by kernel_rfl) rfl #[.slice A0_0 l0_0.length c0_0] (by rfl) rfl rfl (by (try simp only [List.map_toArray, List.map_cons, List.map_nil]); first | done | rfl | (simp only [List.length_drop, List.length_take]; rfl)) ?_
   with_reducible refine (slices_Clone_int_int.calls _ _ l0_0 t113 _ ?side1 ?side2 A5.out).mono ?_
   (case side1 => exact kC_ (Kd.C_below HR0_0.out HB.out))
   (case side2 => exact HC0_0.out)
   rintro e w9 ⟨v114, rfl, ho0, hb⟩
   refine ⟨_, rfl, ?_⟩
   have n0_ := a_ (Kd.R_lower ho0 (below_size bel_))
   have n1_ := a_ (blk_below (bk_ BK111.out) hb)
   have n2_ := a_ (blk_below (bk_ BK112.out) hb)
   have n3_ := a_ (below_step bel_ hb)
   clear BK111
   clear BK112
   clear HB
   have HO115 := n0_
   have BK111 := n1_
   have BK112 := n2_
   have HB := n3_
   clear n0_ n1_ n2_ n3_
   (try clear hb)
   (try clear hb2)
   (try clear hk)
   (try clear hi)
   (try clear ho0)
   obtain ⟨Ao10, co10, eo10⟩ := Kd.R_slice HO115.out
   (first | subst eo10 | (injection eo10 with f1_ f2_ f3_; have f4_ := f1_.symm; have f5_ := f3_.symm; clear f1_ f2_ f3_; subst f4_; subst f5_))
   refine hK.out _ _ ⟨(blk_cell BK111.out 0).trans rfl, (blk_cell BK111.out 1).trans rfl, (blk_cell BK111.out 2).trans rfl⟩ (fun hHeld => ?_)
   clear hK K
   refine norm_ (a' := ?_) ?_ ?_
   rotate_left
   ·show Act.put _ (some 16) _ = _
    simp only [Act.put, List.setIfInBounds_toArray, List.set_cons_zero, List.set_cons_succ, i64_w, i32_w]
    rfl
   refine pq_ 5 (some 19) #[true, true, true, true, true, true, false, false] ?_
   refine one_ (i := 6) (N := some 10) #[true, true, true, true, true, true, true, false] rfl rfl (one_of HT_.out (by kernel_rfl)) (by decide) (fun K hK => ?_)
   refine box_step ?hg (N := 10) ?hd (cs := #[.slice none 0 0, .int .i64 0, .slice none 0 0]) (t := 25) ?hr ?_; (case hd => rfl); (case hg => rfl); (case hr => first | (go_simp; done) | (go_simp; rfl))
   intro gb116 hg w11 hbox hb
   have n0_ := a_ (Kd.R_below (kR_ HO115.out) hb)
   have n1_ := a_ (blk_below (bk_ BK111.out) hb)
   have n2_ := a_ (blk_below (bk_ BK112.out) hb)
   have n3_ := a_ (below_step bel_ hb)
   have n4_ := a_ (hbox)
   have n5_ := a_ (bz_ hg : w.heap.size ≤ gb116)
   have n6_ := a_ (bz_ hg : w.heap.size ≤ gb116)
   have n7_ := a_ (nl_ hg (bk_ BK111.out))
   have n8_ := a_ (ng_ hg (bk_ BK111.out))
   have n9_ := a_ (nl_ hg (bk_ BK112.out))
   have n10_ := a_ (ng_ hg (bk_ BK112.out))
   clear HO115
   clear BK111
   clear BK112
   clear HB
   have HO115 := n0_
   have BK111 := n1_
   have BK112 := n2_
   have HB := n3_
   have BK116 := n4_
   have GW116 := n5_
   have GE116 := n6_
   have NB111_116 := n7_
   have NB116_111 := n8_
   have NB112_116 := n9_
   have NB116_112 := n10_
   clear n0_ n1_ n2_ n3_ n4_ n5_ n6_ n7_ n8_ n9_ n10_
   clear hb hbox hg
   refine hK.out _ _ ⟨(blk_cell BK111.out 0).trans rfl, (blk_cell BK111.out 1).trans rfl, (blk_cell BK111.out 2).trans rfl⟩ (fun hHeld => ?_)
   clear hK K
   refine norm_ (a' := ?_) ?_ ?_
   rotate_left
   ·show Act.put _ (some 10) _ = _
    simp only [Act.put, List.setIfInBounds_toArray, List.set_cons_zero, List.set_cons_succ, i64_w, i32_w]
    rfl
   exact norm_ (by simp only [putAll, Act.put, List.setIfInBounds_toArray, List.set_cons_zero, List.set_cons_succ]) (hCont (.slice Ao10 t113.length co10, gb116) _ ⟨hHeld, (kR_ HO115.out), (bk_ BK111.out), (bk_ BK112.out), (bk_ BK116.out), GW116.out, GE116.out, NB111_116.out, NB116_111.out, NB112_116.out, NB116_112.out, bel_⟩)
  ·skip
   refine box_step ?hg (N := 10) ?hd (cs := #[.slice none 0 0, .int .i64 0, .slice none 0 0]) (t := 25) ?hr ?_; (case hd => rfl); (case hg => rfl); (case hr => first | (go_simp; done) | (go_simp; rfl))
   intro gb116 hg w9 hbox hb
   have n0_ := a_ (blk_below (bk_ BK111.out) hb)
   have n1_ := a_ (blk_below (bk_ BK112.out) hb)
   have n2_ := a_ (below_step bel_ hb)
   have n3_ := a_ (hbox)
   have n4_ := a_ (bz_ hg : w.heap.size ≤ gb116)
   have n5_ := a_ (bz_ hg : w.heap.size ≤ gb116)
   have n6_ := a_ (nl_ hg (bk_ BK111.out))
   have n7_ := a_ (ng_ hg (bk_ BK111.out))
   have n8_ := a_ (nl_ hg (bk_ BK112.out))
   have n9_ := a_ (ng_ hg (bk_ BK112.out))
   clear BK111
   clear BK112
   clear HB
   have BK111 := n0_
   have BK112 := n1_
   have HB := n2_
   have BK116 := n3_
   have GW116 := n4_
   have GE116 := n5_
   have NB111_116 := n6_
   have NB116_111 := n7_
   have NB112_116 := n8_
   have NB116_112 := n9_
   clear n0_ n1_ n2_ n3_ n4_ n5_ n6_ n7_ n8_ n9_
   clear hb hbox hg
   refine hK.out _ _ ⟨(blk_cell BK111.out 0).trans rfl, (blk_cell BK111.out 1).trans rfl, (blk_cell BK111.out 2).trans rfl⟩ (fun hHeld => ?_)
   clear hK K
   refine norm_ (a' := ?_) ?_ ?_
   rotate_left
   ·show Act.put _ (some 10) _ = _
    simp only [Act.put, List.setIfInBounds_toArray, List.set_cons_zero, List.set_cons_succ, i64_w, i32_w]
    rfl
   refine one_ (i := 2) (N := some 16) #[true, true, true, true, true, false, true, false] rfl rfl (one_of HT_.out (by kernel_rfl)) (by decide) (fun K hK => ?_)
   refine goes_ Try.func58 (by kernel_rfl) rfl #[.slice A0_0 l0_0.length c0_0] (by rfl) rfl rfl (by (try simp only [List.map_toArray, List.map_cons, List.map_nil]); first | done | rfl | (simp only [List.length_drop, List.length_take]; rfl)) ?_
   with_reducible refine (slices_Clone_int_int.calls _ _ l0_0 t113 _ ?side1 ?side2 A5.out).mono ?_
   (case side1 => exact kC_ (Kd.C_below HR0_0.out HB.out))
   (case side2 => exact HC0_0.out)
   rintro e w10 ⟨v114, rfl, ho0, hb⟩
   refine ⟨_, rfl, ?_⟩
   have n0_ := a_ (Kd.R_lower ho0 (below_size bel_))
   have n1_ := a_ (blk_below (bk_ BK111.out) hb)
   have n2_ := a_ (blk_below (bk_ BK112.out) hb)
   have n3_ := a_ (blk_below (bk_ BK116.out) hb)
   have n4_ := a_ (below_step bel_ hb)
   clear BK111
   clear BK112
   clear BK116
   clear HB
   have HO115 := n0_
   have BK111 := n1_
   have BK112 := n2_
   have BK116 := n3_
   have HB := n4_
   clear n0_ n1_ n2_ n3_ n4_
   (try clear hb)
   (try clear hb2)
   (try clear hk)
   (try clear hi)
   (try clear ho0)
   obtain ⟨Ao11, co11, eo11⟩ := Kd.R_slice HO115.out
   (first | subst eo11 | (injection eo11 with f1_ f2_ f3_; have f4_ := f1_.symm; have f5_ := f3_.symm; clear f1_ f2_ f3_; subst f4_; subst f5_))
   refine hK.out _ _ ⟨(blk_cell BK111.out 0).trans rfl, (blk_cell BK111.out 1).trans rfl, (blk_cell BK111.out 2).trans rfl⟩ (fun hHeld => ?_)
   clear hK K
   refine norm_ (a' := ?_) ?_ ?_
   rotate_left
   ·show Act.put _ (some 16) _ = _
    simp only [Act.put, List.setIfInBounds_toArray, List.set_cons_zero, List.set_cons_succ, i64_w, i32_w]
    rfl
   refine pq_ 5 (some 19) #[true, true, true, true, true, true, true, false] ?_
   exact norm_ (by simp only [putAll, Act.put, List.setIfInBounds_toArray, List.set_cons_zero, List.set_cons_succ]) (hCont (.slice Ao11 t113.length co11, gb116) _ ⟨hHeld, (kR_ HO115.out), (bk_ BK111.out), (bk_ BK112.out), (bk_ BK116.out), GW116.out, GE116.out, NB111_116.out, NB116_111.out, NB112_116.out, NB116_112.out, bel_⟩)
 rintro ⟨v114, gb116⟩ w12 ⟨hS_, h0_, h1_, h2_, h3_, h4_, h5_, h6_, h7_, h8_, h9_, h10_⟩
 have n0_ : Aside0 (Kd.R (Kd.int .i64) 3 w12 w.heap.size (fun _ => True) v114 t113) := ⟨h0_⟩
 have n1_ : Aside0 (w12.heap[gb111]? = some (.cells #[.slice A0_0 l0_0.length c0_0, .int .i64 a0_1, .slice A0_2 l0_2.length c0_2] 25 (0, 0))) := ⟨h1_⟩
 have n2_ : Aside0 (w12.heap[gb112]? = some (.cells #[.slice none 0 0, .int .i64 0, .slice none 0 0] 25 (0, 0))) := ⟨h2_⟩
 have n3_ : Aside0 (w12.heap[gb116]? = some (.cells #[.slice none 0 0, .int .i64 0, .slice none 0 0] 25 (0, 0))) := ⟨h3_⟩
 have n4_ : Aside0 (w.heap.size ≤ gb116) := ⟨h4_⟩
 have n5_ : Aside0 (w.heap.size ≤ gb116) := ⟨h5_⟩
 have n6_ : Aside0 (gb111 ≠ gb116) := ⟨h6_⟩
 have n7_ : Aside0 (gb116 ≠ gb111) := ⟨h7_⟩
 have n8_ : Aside0 (gb112 ≠ gb116) := ⟨h8_⟩
 have n9_ : Aside0 (gb116 ≠ gb112) := ⟨h9_⟩
 have n10_ : Aside0 (Below w.heap.size w w12) := ⟨h10_⟩
 clear BK111
 clear BK112
 clear HB
 clear h0_ h1_ h2_ h3_ h4_ h5_ h6_ h7_ h8_ h9_ h10_
 have HO115 := n0_
 have BK111 := n1_
 have BK112 := n2_
 have BK116 := n3_
 have GW116 := n4_
 have GE116 := n5_
 have NB111_116 := n6_
 have NB116_111 := n7_
 have NB112_116 := n8_
 have NB116_112 := n9_
 have HB := n10_
 clear n0_ n1_ n2_ n3_ n4_ n5_ n6_ n7_ n8_ n9_ n10_
 have hHeld : w12.cell? ⟨gb111, 0, none⟩ = some (.slice A0_0 l0_0.length c0_0) ∧ w12.cell? ⟨gb111, 1, none⟩ = some (.int .i64 a0_1) ∧ w12.cell? ⟨gb111, 2, none⟩ = some (.slice A0_2 l0_2.length c0_2) := hS_
 obtain ⟨Ao13, co13, eo13⟩ := Kd.R_slice HO115.out
 (first | subst eo13 | (injection eo13 with f1_ f2_ f3_; have f4_ := f1_.symm; have f5_ := f3_.symm; clear f1_ f2_ f3_; subst f4_; subst f5_))
 refine norm_ (a' := ?_) ?_ ?_
 rotate_left
 ·simp only [putAll, Act.put, List.setIfInBounds_toArray, List.set_cons_zero, List.set_cons_succ]
  rfl
 refine one_ (i := 7) (N := none) #[true, true, true, true, true, true, true, true] rfl rfl (one_of HT_.out (by kernel_rfl)) (by decide) (fun K hK => ?_)
 have hs14 : w12.cell? ⟨gb116, 0, none⟩ = some (.slice none 0 0) := (blk_cell BK116.out 0).trans rfl
 have hfs14 := blk_frozen BK116.out 0
 have hns14_0 := NB111_116.out
 have hns14_1 := NB112_116.out
 have hms14_0 := NB116_111.out
 have hms14_1 := NB116_112.out
 have hs15 : w12.cell? ⟨gb116, 1, none⟩ = some (.int .i64 0) := (blk_cell BK116.out 1).trans rfl
 have hfs15 := blk_frozen BK116.out 1
 have hns15_0 := NB111_116.out
 have hns15_1 := NB112_116.out
 have hms15_0 := NB116_111.out
 have hms15_1 := NB116_112.out
 have hs16 : w12.cell? ⟨gb116, 2, none⟩ = some (.slice none 0 0) := (blk_cell BK116.out 2).trans rfl
 have hfs16 := blk_frozen BK116.out 2
 have hns16_0 := NB111_116.out
 have hns16_1 := NB112_116.out
 have hms16_0 := NB116_111.out
 have hms16_1 := NB116_112.out
 refine skip_ (w1 := ?_) (by rfl) rfl ?_ ?_
 rotate_left
 ·go_simp
  rfl
 refine hK.out _ _ ⟨((cell_far (p := ⟨gb116, _, none⟩) NB111_116.out _).trans (((cell_far (p := ⟨gb116, _, none⟩) NB111_116.out _).trans (((cell_far (p := ⟨gb116, _, none⟩) NB111_116.out _).trans (hHeld.1)))))), ((cell_far (p := ⟨gb116, _, none⟩) NB111_116.out _).trans (((cell_far (p := ⟨gb116, _, none⟩) NB111_116.out _).trans (((cell_far (p := ⟨gb116, _, none⟩) NB111_116.out _).trans (hHeld.2.1)))))), ((cell_far (p := ⟨gb116, _, none⟩) NB111_116.out _).trans (((cell_far (p := ⟨gb116, _, none⟩) NB111_116.out _).trans (((cell_far (p := ⟨gb116, _, none⟩) NB111_116.out _).trans (hHeld.2.2))))))⟩ (fun hHeld => ?_)
 clear hK K
 refine done_ (done_of HT_.out (by kernel_rfl)) ?_
 have hnb17 := NB111_112.out
 have hnc17 := NB112_111.out
 have hnb18 := NB111_116.out
 have hnc18 := NB116_111.out
 have hcz19_0 := cz_ BK111 0
 have hcz19_1 := cz_ BK111 1
 have hcz19_2 := cz_ BK111 2
 have hfz19_0 := fz_ BK111 0
 have hfz19_1 := fz_ BK111 1
 have hfz19_2 := fz_ BK111 2
 try go_wp2
 go_loopg [23] k (fun kq v23 w' => ∃ (x23_1 : Int) (x117002_1 : List (S35)) (u117002 : Value), v23 = .int .i64 x23_1 ∧ Aside0 (inspect_Sign.l0 kq a1 a2 a3 l0_2 (l0_2.length : Int) x23_1 t113 a0_1 x117002_1 = some (r1, r2, r3, r4)) ∧ Aside0 (kq ≤ k) ∧ Aside0 (Kd.R (Kd.int .i64) 3 w' w.heap.size (fun _ => True) (.slice Ao13 t113.length co13) t113) ∧ Aside0 (Kd.R k35 35 w' w.heap.size (fun _ => True) u117002 x117002_1) ∧ Aside0 (w'.heap[gb111]? = some (.cells #[(.slice A0_0 l0_0.length c0_0), .int .i64 a0_1, (.slice A0_2 l0_2.length c0_2)] 25 (0, 0))) ∧ Aside0 (w'.heap[gb112]? = some (.cells #[(.slice none 0 0), .int .i64 0, (.slice none 0 0)] 25 (0, 0))) ∧ Aside0 (w'.heap[gb116]? = some (.cells #[(.slice Ao13 t113.length co13), .int .i64 a0_1, u117002] 25 (0, 0))) ∧ Aside0 (Below w.heap.size w w'))
 case atStart => exact ⟨(0), (([] : List (S35))), (.slice none 0 0), (by first | rfl | (simp; done) | (simp [*]; done)), H', ⟨Nat.le_refl _⟩, ⟨by (with_reducible repeat (first | apply Kd.R_alloc | apply Kd.R_drewN | apply Kd.R_drew)); exact Kd.R_mono (Kd.R_far (p := ⟨gb116, 2, none⟩) (Kd.R_far (p := ⟨gb116, 1, none⟩) (Kd.R_far (p := ⟨gb116, 0, none⟩) (Kd.R_types HO115.out BK116.out (by decide)) (fun _ hk => hk.2) (.slice Ao13 t113.length co13)) (fun _ hk => hk.2) (.int .i64 a0_1)) (fun _ hk => hk.2) (.slice none 0 0)) (fun _ hk => trivial)⟩, ⟨by first | exact Kd.R_nil _ _ _ _ _ | exact Kd.N_nil _ _ _ _ _ | exact Kd.V_nil _ _ _ _ _ | exact Kd.Q_nil _ _ _ _ _ | exact Kd.S_nil _ _ _ _ _⟩, ⟨by refine blk_far ?_ NB111_116.out _; refine blk_far ?_ NB111_116.out _; refine blk_far ?_ NB111_116.out _; exact BK111.out⟩, ⟨by refine blk_far ?_ NB112_116.out _; refine blk_far ?_ NB112_116.out _; refine blk_far ?_ NB112_116.out _; exact BK112.out⟩, ⟨by refine blk_put (cs := #[.slice Ao13 t113.length co13, .int .i64 a0_1, .slice none 0 0]) ?_ 2 _ rfl; refine blk_put (cs := #[.slice Ao13 t113.length co13, .int .i64 0, .slice none 0 0]) ?_ 1 _ rfl; refine blk_put (cs := #[.slice none 0 0, .int .i64 0, .slice none 0 0]) ?_ 0 _ rfl; exact BK116.out⟩, ⟨by repeat (first | (with_reducible first | exact HB.out | apply below_alloc | apply pw_below_drewN | apply below_drew1 | refine below_set ?_ GE111.out | refine below_set ?_ GE112.out | refine below_set ?_ GE116.out) | exact HB.out)⟩⟩
 case round =>
  clear H'
  try clear c1
  try clear c2
  try clear p2
  try clear c5
  try clear c17
  try clear c18
  try clear hcz19_0
  try clear hcz19_1
  try clear hcz19_2
  try clear hfz19_0
  try clear hfz19_1
  try clear hfz19_2
  obtain ⟨x23_1, x117002_1, u117002, rfl, HA, HK1, HO_117000, HO_117002, BK111, BK112, BK116, HB⟩ := hrel
  cases gk with
  | zero => exact absurd HA.out (by simp [inspect_Sign.l0])
  | succ k1 =>
   have H := HA.out
   clear HA
   simp only [inspect_Sign.l0] at H
   by_cases c20 : x23_1 < (l0_2.length : Int)
   ·rw [if_pos c20] at H
    have c20b0 : decide (x23_1 < (l0_2.length : Int)) = true := decide_eq_true c20
    clear c20
    by_cases c21 : 0 ≤ x23_1
    ·rw [if_pos c21] at H
     have c21b0 : decide (0 ≤ x23_1) = true := decide_eq_true c21
     clear c21
     by_cases c22 : x23_1 < (l0_2.length : Int)
     ·rw [if_pos c22] at H
      have c22b0 : decide (x23_1 < (l0_2.length : Int)) = true := decide_eq_true c22
      clear c22
      by_cases c23 : ((rd_T35 l0_2 x23_1).f0) = a1
      ·rw [if_pos c23] at H
       have c23b0 : (((rd_T35 l0_2 x23_1).f0) == a1) = true := beq_iff_eq.mpr c23
       have c23b1 : (((rd_T35 l0_2 x23_1).f0) != a1) = false := bne_eq_false_iff_eq.mpr c23
       clear c23
       have H' := a_ H
       clear H
       have p117 : 0 ≤ (x23_1 : Int) := od_
       have q117 : x23_1 < (l0_2.length : Int) := od_
       obtain ⟨ad117, e117, hx117_0, hx117_1, hx117_2⟩ := at_T35 HR0_2.out x23_1 p117 q117
       cases e117
       replace hx117_0 := pc_ hx117_0
       replace hx117_1 := pc_ hx117_1
       replace hx117_2 := pc_ hx117_2
       replace p117 := eq_true p117
       replace q117 := eq_true q117
       go_wp2_with (first | ((with_reducible refine gate_dst (N := 12) rfl ?_); refine box_event ?hg (N := 12) ?hd (cs := #[.int .i64 0, .int .i64 0, .int .i64 0]) (t := 35) ?hr ?_; (case hd => rfl); (case hg => rfl); (case hr => first | (go_simp; done) | (go_simp; rfl)); intro gb118 hg w24 hbox hb; have n0_ := a_ (Kd.R_below (kR_ HO_117000.out) hb); have n1_ := a_ (Kd.R_below (Kd.R_elderB (kR_ HO_117002.out) gb118 (Nat.le_of_eq hg.symm)) hb); have n2_ := a_ (blk_below (bk_ BK111.out) hb); have n3_ := a_ (blk_below (bk_ BK112.out) hb); have n4_ := a_ (blk_below (bk_ BK116.out) hb); have n5_ := a_ (below_step bel_ hb); have n6_ := a_ (hbox); have n7_ := a_ (bz_ hg : w.heap.size ≤ gb118); have n8_ := a_ (bz_ hg : w.heap.size ≤ gb118); have n9_ := a_ (nl_ hg (bk_ BK111.out)); have n10_ := a_ (ng_ hg (bk_ BK111.out)); have n11_ := a_ (nl_ hg (bk_ BK112.out)); have n12_ := a_ (ng_ hg (bk_ BK112.out)); have n13_ := a_ (nl_ hg (bk_ BK116.out)); have n14_ := a_ (ng_ hg (bk_ BK116.out)); clear HO_117000; clear HO_117002; clear BK111; clear BK112; clear BK116; clear HB; have HO_117000 := n0_; have HO_117002 := n1_; have BK111 := n2_; have BK112 := n3_; have BK116 := n4_; have HB := n5_; have BK118 := n6_; have GW118 := n7_; have GE118 := n8_; have NB111_118 := n9_; have NB118_111 := n10_; have NB112_118 := n11_; have NB118_112 := n12_; have NB116_118 := n13_; have NB118_116 := n14_; clear n0_ n1_ n2_ n3_ n4_ n5_ n6_ n7_ n8_ n9_ n10_ n11_ n12_ n13_ n14_; clear hb hbox hg; have hnb25 := NB118_111.out; have hnc25 := NB111_118.out; have hnb26 := NB118_112.out; have hnc26 := NB112_118.out; have hnb27 := NB118_116.out; have hnc27 := NB116_118.out; have hcz28_0 := cz_ BK118 0; have hcz28_1 := cz_ BK118 1; have hcz28_2 := cz_ BK118 2; have hfz28_0 := fz_ BK118 0; have hfz28_1 := fz_ BK118 1; have hfz28_2 := fz_ BK118 2))
       go_roundg k1
       case measure => have := HK1.out; omega
       case rel => exact ⟨(wrap64 (x23_1 + 1)), (x117002_1), (u117002), (by first | rfl | (simp; done) | (simp [*]; done)), H', ⟨by have := HK1.out; omega⟩, ⟨by (with_reducible repeat (first | apply Kd.R_alloc | apply Kd.R_drewN | apply Kd.R_drew)); exact Kd.R_mono (Kd.R_far (p := ⟨gb118, 2, none⟩) (Kd.R_far (p := ⟨gb118, 1, none⟩) (Kd.R_far (p := ⟨gb118, 0, none⟩) (Kd.R_types HO_117000.out BK118.out (by decide)) (fun _ hk => hk.2) (.int .i64 ((rd_T35 l0_2 x23_1).f0))) (fun _ hk => hk.2) (.int .i64 ((rd_T35 l0_2 x23_1).f1))) (fun _ hk => hk.2) (.int .i64 ((rd_T35 l0_2 x23_1).f2))) (fun _ hk => trivial)⟩, ⟨by (with_reducible repeat (first | apply Kd.R_alloc | apply Kd.R_drewN | apply Kd.R_drew)); exact Kd.R_mono (Kd.R_far (p := ⟨gb118, 2, none⟩) (Kd.R_far (p := ⟨gb118, 1, none⟩) (Kd.R_far (p := ⟨gb118, 0, none⟩) (Kd.R_mono HO_117002.out (fun k_ hk => (⟨hk, hk.2⟩ : _ ∧ k_ ≠ gb118))) (fun _ hk => hk.2) (.int .i64 ((rd_T35 l0_2 x23_1).f0))) (fun _ hk => hk.2) (.int .i64 ((rd_T35 l0_2 x23_1).f1))) (fun _ hk => hk.2) (.int .i64 ((rd_T35 l0_2 x23_1).f2))) (fun _ hk => trivial)⟩, ⟨by refine blk_far ?_ NB111_118.out _; refine blk_far ?_ NB111_118.out _; refine blk_far ?_ NB111_118.out _; exact BK111.out⟩, ⟨by refine blk_far ?_ NB112_118.out _; refine blk_far ?_ NB112_118.out _; refine blk_far ?_ NB112_118.out _; exact BK112.out⟩, ⟨by refine blk_far ?_ NB116_118.out _; refine blk_far ?_ NB116_118.out _; refine blk_far ?_ NB116_118.out _; exact BK116.out⟩, ⟨by repeat (first | (with_reducible first | exact HB.out | apply below_alloc | apply pw_below_drewN | apply below_drew1 | refine below_set ?_ GE111.out | refine below_set ?_ GE112.out | refine below_set ?_ GE116.out | refine below_set ?_ GE118.out) | exact HB.out)⟩⟩
      ·rw [if_neg c23] at H
       have c23b0 : (((rd_T35 l0_2 x23_1).f0) == a1) = false := beq_eq_false_iff_ne.mpr c23
       have c23b1 : (((rd_T35 l0_2 x23_1).f0) != a1) = true := bne_iff_ne.mpr c23
       by_cases c29 : x117002_1.length < 5864062014805
       ·rw [if_pos c29] at H
        have LMc29 := a_ c29
        clear c29
        obtain ⟨y119, hy119⟩ : ∃ y_ : List (S35), y_ = (x117002_1 ++ [(⟨(rd_T35 l0_2 x23_1).f0, (rd_T35 l0_2 x23_1).f1, (rd_T35 l0_2 x23_1).f2⟩ : S35)]) := ⟨_, rfl⟩
        replace H : (inspect_Sign.l0 k1 a1 a2 a3 l0_2 (l0_2.length : Int) (wrap64 (x23_1 + 1)) t113 a0_1 y119) = some (r1, r2, r3, r4) := by first | (rw [hy119]; with_reducible exact H) | (have H2_ := (Option.bind_some _ _).symm.trans H; rw [hy119]; with_reducible exact H2_) | (have H2_ := (Option.bind_some _ _).symm.trans H; with_reducible exact H2_) | with_reducible exact H | (rw [hy119]; exact H) | exact H
        have Ny119 := a_ hy119
        clear hy119
        have H' := a_ H
        clear H
        have p117 : 0 ≤ (x23_1 : Int) := od_
        have q117 : x23_1 < (l0_2.length : Int) := od_
        obtain ⟨ad117, e117, hx117_0, hx117_1, hx117_2⟩ := at_T35 HR0_2.out x23_1 p117 q117
        cases e117
        replace hx117_0 := pc_ hx117_0
        replace hx117_1 := pc_ hx117_1
        replace hx117_2 := pc_ hx117_2
        replace p117 := eq_true p117
        replace q117 := eq_true q117
        go_wp2_with (first | ((with_reducible refine gate_dst (N := 12) rfl ?_); refine box_event ?hg (N := 12) ?hd (cs := #[.int .i64 0, .int .i64 0, .int .i64 0]) (t := 35) ?hr ?_; (case hd => rfl); (case hg => rfl); (case hr => first | (go_simp; done) | (go_simp; rfl)); intro gb118 hg w30 hbox hb; have n0_ := a_ (Kd.R_below (kR_ HO_117000.out) hb); have n1_ := a_ (Kd.R_below (Kd.R_elderB (kR_ HO_117002.out) gb118 (Nat.le_of_eq hg.symm)) hb); have n2_ := a_ (blk_below (bk_ BK111.out) hb); have n3_ := a_ (blk_below (bk_ BK112.out) hb); have n4_ := a_ (blk_below (bk_ BK116.out) hb); have n5_ := a_ (below_step bel_ hb); have n6_ := a_ (hbox); have n7_ := a_ (bz_ hg : w.heap.size ≤ gb118); have n8_ := a_ (bz_ hg : w.heap.size ≤ gb118); have n9_ := a_ (nl_ hg (bk_ BK111.out)); have n10_ := a_ (ng_ hg (bk_ BK111.out)); have n11_ := a_ (nl_ hg (bk_ BK112.out)); have n12_ := a_ (ng_ hg (bk_ BK112.out)); have n13_ := a_ (nl_ hg (bk_ BK116.out)); have n14_ := a_ (ng_ hg (bk_ BK116.out)); clear HO_117000; clear HO_117002; clear BK111; clear BK112; clear BK116; clear HB; have HO_117000 := n0_; have HO_117002 := n1_; have BK111 := n2_; have BK112 := n3_; have BK116 := n4_; have HB := n5_; have BK118 := n6_; have GW118 := n7_; have GE118 := n8_; have NB111_118 := n9_; have NB118_111 := n10_; have NB112_118 := n11_; have NB118_112 := n12_; have NB116_118 := n13_; have NB118_116 := n14_; clear n0_ n1_ n2_ n3_ n4_ n5_ n6_ n7_ n8_ n9_ n10_ n11_ n12_ n13_ n14_; clear hb hbox hg; have hnb31 := NB118_111.out; have hnc31 := NB111_118.out; have hnb32 := NB118_112.out; have hnc32 := NB112_118.out; have hnb33 := NB118_116.out; have hnc33 := NB116_118.out; have hcz34_0 := cz_ BK118 0; have hcz34_1 := cz_ BK118 1; have hcz34_2 := cz_ BK118 2; have hfz34_0 := fz_ BK118 0; have hfz34_1 := fz_ BK118 1; have hfz34_2 := fz_ BK118 2; have hnb35 := NB116_111.out; have hnc35 := NB111_116.out; have hnb36 := NB116_112.out; have hnc36 := NB112_116.out; have hcz37_0 := cz_ BK116 0; have hcz37_1 := cz_ BK116 1; have hcz37_2 := cz_ BK116 2; have hfz37_0 := fz_ BK116 0; have hfz37_1 := fz_ BK116 1; have hfz37_2 := fz_ BK116 2) | ((with_reducible refine gate_builtin (b := .append) (xs := #[.tmp 32, .tmp 34]) rfl ?_); at_builtin; refine Kd.R_append k35 (w0 := w) w.heap.size rfl (.tmp 32) (.tmp 34) 23 35 (.agg #[(.int .i64 0), (.int .i64 0), (.int .i64 0)]) 24 rfl Try.underlying23 info35 rfl (by decide) (by omega) u117002 x117002_1 (⟨(rd_T35 l0_2 x23_1).f0, (rd_T35 l0_2 x23_1).f1, (rd_T35 l0_2 x23_1).f2⟩ : S35) [.int .i64 ((rd_T35 l0_2 x23_1).f0), .int .i64 ((rd_T35 l0_2 x23_1).f1), .int .i64 ((rd_T35 l0_2 x23_1).f2)] (fun k_ => k_ ≠ gb118) (fun _ => False) rfl (by first | (go_simp; done) | (go_simp; rfl)) ?aP (fun _ hk => hk.elim) ?aF ?aO ?aB ?aS ?aL ?_; (case aP => exact k35_mkM _ _ _ (⟨(rd_T35 l0_2 x23_1).f0, (rd_T35 l0_2 x23_1).f1, (rd_T35 l0_2 x23_1).f2⟩ : S35)); (case aB => exact bel_); (case aF => exact (fun k_ hk => Kd.freshB (g := gb118) (o := .cells #[.int .i64 ((rd_T35 l0_2 x23_1).f0), .int .i64 ((rd_T35 l0_2 x23_1).f1), .int .i64 ((rd_T35 l0_2 x23_1).f2)] 35 (0, 0)) (by refine blk_put (cs := #[.int .i64 ((rd_T35 l0_2 x23_1).f0), .int .i64 ((rd_T35 l0_2 x23_1).f1), .int .i64 0]) ?_ 2 _ rfl; refine blk_put (cs := #[.int .i64 ((rd_T35 l0_2 x23_1).f0), .int .i64 0, .int .i64 0]) ?_ 1 _ rfl; refine blk_put (cs := #[.int .i64 0, .int .i64 0, .int .i64 0]) ?_ 0 _ rfl; exact BK118.out) k_ hk)); (case aO => exact (by (with_reducible repeat (first | apply Kd.R_alloc | apply Kd.R_drewN | apply Kd.R_drew)); exact Kd.R_mono (Kd.R_far (p := ⟨gb118, 2, none⟩) (Kd.R_far (p := ⟨gb118, 1, none⟩) (Kd.R_far (p := ⟨gb118, 0, none⟩) (Kd.R_mono HO_117002.out (fun k_ hk => (⟨hk, hk.2⟩ : _ ∧ k_ ≠ gb118))) (fun _ hk => hk.2) (.int .i64 ((rd_T35 l0_2 x23_1).f0))) (fun _ hk => hk.2) (.int .i64 ((rd_T35 l0_2 x23_1).f1))) (fun _ hk => hk.2) (.int .i64 ((rd_T35 l0_2 x23_1).f2))) (fun _ hk => hk.1.2))); (case aS => exact (below_size bel_)); (case aL => have := LMc29.out; omega); intro v120 w38 ho hb hg hat; rw [← Ny119.out] at ho; have n0_ := a_ (Kd.R_over' (by (with_reducible repeat (first | apply Kd.R_alloc | apply Kd.R_drewN | apply Kd.R_drew)); exact (Kd.R_mono (Kd.R_far (p := ⟨gb118, 2, none⟩) (Kd.R_far (p := ⟨gb118, 1, none⟩) (Kd.R_far (p := ⟨gb118, 0, none⟩) (Kd.R_types HO_117000.out BK118.out (by decide)) (fun _ hk => hk.2) (.int .i64 ((rd_T35 l0_2 x23_1).f0))) (fun _ hk => hk.2) (.int .i64 ((rd_T35 l0_2 x23_1).f1))) (fun _ hk => hk.2) (.int .i64 ((rd_T35 l0_2 x23_1).f2))) (fun _ h_ => h_.1))) (Kd.R_typed (by (with_reducible repeat (first | apply Kd.R_alloc | apply Kd.R_drewN | apply Kd.R_drew)); exact (Kd.R_mono (Kd.R_far (p := ⟨gb118, 2, none⟩) (Kd.R_far (p := ⟨gb118, 1, none⟩) (Kd.R_far (p := ⟨gb118, 0, none⟩) (Kd.R_mono HO_117002.out (fun k_ hk => (⟨hk, hk.2⟩ : _ ∧ k_ ≠ gb118))) (fun _ hk => hk.2) (.int .i64 ((rd_T35 l0_2 x23_1).f0))) (fun _ hk => hk.2) (.int .i64 ((rd_T35 l0_2 x23_1).f1))) (fun _ hk => hk.2) (.int .i64 ((rd_T35 l0_2 x23_1).f2))) (fun _ h_ => h_.1)))) (by decide) hg); have n1_ := a_ (blk_grown (g := gb111) (o := .cells #[.slice A0_0 l0_0.length c0_0, .int .i64 a0_1, .slice (some ad117) l0_2.length c0_2] 25 (0, 0)) (by refine blk_far ?_ NB111_118.out _; refine blk_far ?_ NB111_118.out _; refine blk_far ?_ NB111_118.out _; exact BK111.out) hg (Kd.R_ne HO_117002.out BK111.out (by decide))); have n2_ := a_ (blk_grown (g := gb112) (o := .cells #[.slice none 0 0, .int .i64 0, .slice none 0 0] 25 (0, 0)) (by refine blk_far ?_ NB112_118.out _; refine blk_far ?_ NB112_118.out _; refine blk_far ?_ NB112_118.out _; exact BK112.out) hg (Kd.R_ne HO_117002.out BK112.out (by decide))); have n3_ := a_ (blk_grown (g := gb116) (o := .cells #[.slice Ao13 t113.length co13, .int .i64 a0_1, u117002] 25 (0, 0)) (by refine blk_far ?_ NB116_118.out _; refine blk_far ?_ NB116_118.out _; refine blk_far ?_ NB116_118.out _; exact BK116.out) hg (Kd.R_ne HO_117002.out BK116.out (by decide))); have n4_ := a_ (blk_grown (g := gb118) (o := .cells #[.int .i64 ((rd_T35 l0_2 x23_1).f0), .int .i64 ((rd_T35 l0_2 x23_1).f1), .int .i64 ((rd_T35 l0_2 x23_1).f2)] 35 (0, 0)) (by refine blk_put (cs := #[.int .i64 ((rd_T35 l0_2 x23_1).f0), .int .i64 ((rd_T35 l0_2 x23_1).f1), .int .i64 0]) ?_ 2 _ rfl; refine blk_put (cs := #[.int .i64 ((rd_T35 l0_2 x23_1).f0), .int .i64 0, .int .i64 0]) ?_ 1 _ rfl; refine blk_put (cs := #[.int .i64 0, .int .i64 0, .int .i64 0]) ?_ 0 _ rfl; exact BK118.out) hg (Kd.R_away HO_117002.out (fun _ hk => hk.2))); have n5_ := a_ (hb); have n6_ := a_ (ho); clear HO_117000; clear BK111; clear BK112; clear BK116; clear BK118; clear HB; clear HO_117002; have HO_117000 := n0_; have BK111 := n1_; have BK112 := n2_; have BK116 := n3_; have BK118 := n4_; have HB := n5_; have HO121 := n6_; clear n0_ n1_ n2_ n3_ n4_ n5_ n6_; clear ho hb hg hat; obtain ⟨Ao39, co39, eo39⟩ := Kd.R_slice HO121.out; subst eo39; have hcz40_0 := cz_ BK116 0; have hcz40_1 := cz_ BK116 1; have hcz40_2 := cz_ BK116 2; have hfz40_0 := fz_ BK116 0; have hfz40_1 := fz_ BK116 1; have hfz40_2 := fz_ BK116 2))
        go_roundg k1
        case measure => have := HK1.out; omega
        case rel => exact ⟨(wrap64 (x23_1 + 1)), (y119), (.slice Ao39 y119.length co39), (by first | rfl | (simp; done) | (simp [*]; done)), H', ⟨by have := HK1.out; omega⟩, ⟨by (with_reducible repeat (first | apply Kd.R_alloc | apply Kd.R_drewN | apply Kd.R_drew)); exact Kd.R_mono (Kd.R_far (p := ⟨gb116, 2, none⟩) (Kd.R_types HO_117000.out BK116.out (by decide)) (fun _ hk => hk.2) (.slice Ao39 y119.length co39)) (fun _ hk => trivial)⟩, ⟨by (with_reducible repeat (first | apply Kd.R_alloc | apply Kd.R_drewN | apply Kd.R_drew)); exact Kd.R_mono (Kd.R_far (p := ⟨gb116, 2, none⟩) (Kd.R_types HO121.out BK116.out (by decide)) (fun _ hk => hk.2) (.slice Ao39 y119.length co39)) (fun _ hk => trivial)⟩, ⟨by refine blk_far ?_ NB111_116.out _; exact BK111.out⟩, ⟨by refine blk_far ?_ NB112_116.out _; exact BK112.out⟩, ⟨by refine blk_put (cs := #[.slice Ao13 t113.length co13, .int .i64 a0_1, u117002]) ?_ 2 _ rfl; exact BK116.out⟩, ⟨by repeat (first | (with_reducible first | exact HB.out | apply below_alloc | apply pw_below_drewN | apply below_drew1 | refine below_set ?_ GE111.out | refine below_set ?_ GE112.out | refine below_set ?_ GE116.out | refine below_set ?_ GE118.out) | exact HB.out)⟩⟩
       ·rw [if_neg c29] at H
        exact absurd H (by simp)
     ·rw [if_neg c22] at H
      exact absurd H (by simp)
    ·rw [if_neg c21] at H
     exact absurd H (by simp)
   ·rw [if_neg c20] at H
    have c20b0 : decide (x23_1 < (l0_2.length : Int)) = false := decide_eq_false c20
    clear c20
    by_cases c41 : x117002_1.length < 5864062014805
    ·rw [if_pos c41] at H
     have LMc41 := a_ c41
     clear c41
     obtain ⟨y122, hy122⟩ : ∃ y_ : List (S35), y_ = (x117002_1 ++ [(⟨a1, a2, a3⟩ : S35)]) := ⟨_, rfl⟩
     replace H : ((inspect_Right.f k1 t113 a0_1 y122).bind fun t125 => (if t125 = 0 then (some (t113, a0_1, y122, 0)) else (some (([] : List Int), 0, ([] : List (S35)), t125)))) = some (r1, r2, r3, r4) := by first | (rw [hy122]; with_reducible exact H) | (have H2_ := (Option.bind_some _ _).symm.trans H; rw [hy122]; with_reducible exact H2_) | (have H2_ := (Option.bind_some _ _).symm.trans H; with_reducible exact H2_) | with_reducible exact H | (rw [hy122]; exact H) | exact H
     have Ny122 := a_ hy122
     clear hy122
     replace H := Option.bind_eq_some_iff.mp H
     obtain ⟨t125, A420, H⟩ := H
     replace H : (if t125 = 0 then (some (t113, a0_1, y122, 0)) else (some (([] : List Int), 0, ([] : List (S35)), t125))) = some (r1, r2, r3, r4) := H
     have A42 := a_ A420
     clear A420
     by_cases c43 : t125 = 0
     ·rw [if_pos c43] at H
      have c43b0 : (t125 == 0) = true := beq_iff_eq.mpr c43
      have c43b1 : (t125 != 0) = false := bne_eq_false_iff_eq.mpr c43
      clear c43
      simp only [Option.some.injEq, Prod.mk.injEq] at H
      obtain ⟨rfl, rfl, rfl, rfl⟩ := H
      have hnb44 := NB116_111.out
      have hnc44 := NB111_116.out
      have hnb45 := NB116_112.out
      have hnc45 := NB112_116.out
      have hcz46_0 := cz_ BK116 0
      have hcz46_1 := cz_ BK116 1
      have hcz46_2 := cz_ BK116 2
      have hfz46_0 := fz_ BK116 0
      have hfz46_1 := fz_ BK116 1
      have hfz46_2 := fz_ BK116 2
      go_wp2_with (first | ((with_reducible refine gate_builtin (b := .append) (xs := #[.tmp 39, .tmp 44]) rfl ?_); at_builtin; refine Kd.R_append k35 (w0 := w) w.heap.size rfl (.tmp 39) (.tmp 44) 23 35 (.agg #[(.int .i64 0), (.int .i64 0), (.int .i64 0)]) 24 rfl Try.underlying23 info35 rfl (by decide) (by omega) u117002 x117002_1 (⟨a1, a2, a3⟩ : S35) [.int .i64 a1, .int .i64 a2, .int .i64 a3] (fun _ => True) (fun _ => False) rfl rfl ?aP (fun _ hk => hk.elim) ?aF ?aO ?aB ?aS ?aL ?_; (case aP => exact k35_mkM _ _ _ (⟨a1, a2, a3⟩ : S35)); (case aB => exact bel_); (case aF => exact (fun _ _ => trivial)); (case aO => exact (kR_ HO_117002.out)); (case aS => exact (below_size bel_)); (case aL => have := LMc41.out; omega); intro v123 w47 ho hb hg hat; rw [← Ny122.out] at ho; have n0_ := a_ (Kd.R_over' (kR_ HO_117000.out) (Kd.R_typed (kR_ HO_117002.out)) (by decide) hg); have n1_ := a_ (blk_grown (bk_ BK111.out) hg (Kd.R_ne HO_117002.out BK111.out (by decide))); have n2_ := a_ (blk_grown (bk_ BK112.out) hg (Kd.R_ne HO_117002.out BK112.out (by decide))); have n3_ := a_ (blk_grown (bk_ BK116.out) hg (Kd.R_ne HO_117002.out BK116.out (by decide))); have n4_ := a_ (hb); have n5_ := a_ (ho); clear HO_117000; clear BK111; clear BK112; clear BK116; clear HB; clear HO_117002; have HO_117000 := n0_; have BK111 := n1_; have BK112 := n2_; have BK116 := n3_; have HB := n4_; have HO124 := n5_; clear n0_ n1_ n2_ n3_ n4_ n5_; clear ho hb hg hat; obtain ⟨Ao48, co48, eo48⟩ := Kd.R_slice HO124.out; subst eo48; have hcz49_0 := cz_ BK116 0; have hcz49_1 := cz_ BK116 1; have hcz49_2 := cz_ BK116 2; have hfz49_0 := fz_ BK116 0; have hfz49_1 := fz_ BK116 1; have hfz49_2 := fz_ BK116 2) | ((with_reducible refine gate_callee (f := 19) rfl ?_); refine gs_ (some 48) Try.func19 #[.agg #[.slice Ao13 t113.length co13, .int .i64 a0_1, .slice Ao48 y122.length co48]] ?_; (with_reducible refine (inspect_Right.calls k1 _ _ t113 a0_1 _ _ y122 t125 _ ?side1 ?side2 ?side3 ?side4 A42.out).mono ?_); (case side1 => refine (Kd.R_reads' (e := 3) (base := w.heap.size) (ok := fun k_ => True) (n := t113.length) (c := co13) ?_).2.2; exact (by (with_reducible repeat (first | apply Kd.R_alloc | apply Kd.R_drewN | apply Kd.R_drew)); exact (Kd.R_mono (Kd.R_far (p := ⟨gb116, 2, none⟩) (Kd.R_types HO_117000.out BK116.out (by decide)) (fun _ hk => hk.2) (.slice Ao48 y122.length co48)) (fun _ h_ => h_.1)))); (case side2 => exact (Kd.R_reads' HO_117000.out).2.1); (case side3 => refine (Kd.R_reads' (e := 35) (base := w.heap.size) (ok := fun k_ => True) (n := y122.length) (c := co48) ?_).2.2; exact (by (with_reducible repeat (first | apply Kd.R_alloc | apply Kd.R_drewN | apply Kd.R_drew)); exact (Kd.R_mono (Kd.R_far (p := ⟨gb116, 2, none⟩) (Kd.R_types HO124.out BK116.out (by decide)) (fun _ hk => hk.2) (.slice Ao48 y122.length co48)) (fun _ h_ => h_.1)))); (case side4 => exact (Kd.R_reads' HO124.out).2.1); rintro e w50 ⟨rfl, hb⟩; refine ⟨_, rfl, ?_⟩; have n0_ := a_ (Kd.R_below (by (with_reducible repeat (first | apply Kd.R_alloc | apply Kd.R_drewN | apply Kd.R_drew)); exact (Kd.R_mono (Kd.R_far (p := ⟨gb116, 2, none⟩) (Kd.R_types HO_117000.out BK116.out (by decide)) (fun _ hk => hk.2) (.slice Ao48 y122.length co48)) (fun _ h_ => h_.1))) hb); have n1_ := a_ (Kd.R_below (by (with_reducible repeat (first | apply Kd.R_alloc | apply Kd.R_drewN | apply Kd.R_drew)); exact (Kd.R_mono (Kd.R_far (p := ⟨gb116, 2, none⟩) (Kd.R_types HO124.out BK116.out (by decide)) (fun _ hk => hk.2) (.slice Ao48 y122.length co48)) (fun _ h_ => h_.1))) hb); have n2_ := a_ (blk_below (g := gb111) (o := .cells #[.slice A0_0 l0_0.length c0_0, .int .i64 a0_1, .slice A0_2 l0_2.length c0_2] 25 (0, 0)) (by refine blk_far ?_ NB111_116.out _; exact BK111.out) hb); have n3_ := a_ (blk_below (g := gb112) (o := .cells #[.slice none 0 0, .int .i64 0, .slice none 0 0] 25 (0, 0)) (by refine blk_far ?_ NB112_116.out _; exact BK112.out) hb); have n4_ := a_ (blk_below (g := gb116) (o := .cells #[.slice Ao13 t113.length co13, .int .i64 a0_1, .slice Ao48 y122.length co48] 25 (0, 0)) (by refine blk_put (cs := #[.slice Ao13 t113.length co13, .int .i64 a0_1, u117002]) ?_ 2 _ rfl; exact BK116.out) hb); have n5_ := a_ (below_step bel_ hb); clear HO_117000; clear HO124; clear BK111; clear BK112; clear BK116; clear HB; have HO_117000 := n0_; have HO124 := n1_; have BK111 := n2_; have BK112 := n3_; have BK116 := n4_; have HB := n5_; clear n0_ n1_ n2_ n3_ n4_ n5_; (try clear hb); (try clear hb2); (try clear hk); (try clear hi); have hcz51_0 := cz_ BK116 0; have hcz51_1 := cz_ BK116 1; have hcz51_2 := cz_ BK116 2; have hfz51_0 := fz_ BK116 0; have hfz51_1 := fz_ BK116 1; have hfz51_2 := fz_ BK116 2; have hnb52 := NB112_111.out; have hnc52 := NB111_112.out; have hcz53_0 := cz_ BK112 0; have hcz53_1 := cz_ BK112 1; have hcz53_2 := cz_ BK112 2; have hfz53_0 := fz_ BK112 0; have hfz53_1 := fz_ BK112 1; have hfz53_2 := fz_ BK112 2))
      refine bodyPost_ret (results_ct rfl _ _ gb112 25 #[.slice Ao13 t113.length co13, .int .i64 a0_1, .slice Ao48 y122.length co48] (0, 0) _ rfl (by refine blk_put (cs := #[.slice Ao13 t113.length co13, .int .i64 a0_1, .slice none 0 0]) ?_ 2 _ rfl; refine blk_put (cs := #[.slice Ao13 t113.length co13, .int .i64 0, .slice none 0 0]) ?_ 1 _ rfl; refine blk_put (cs := #[.slice none 0 0, .int .i64 0, .slice none 0 0]) ?_ 0 _ rfl; exact BK112.out) Try.underlying25 rfl (by kernel_rfl)) rfl ?_
      exact ⟨_, _, by first | rfl | (simp [errW_none, errW_some] <;> rfl) | (simp [*, errW_none, errW_some] <;> rfl), by (with_reducible repeat (first | apply Kd.R_alloc | apply Kd.R_drewN | apply Kd.R_drew)); exact Kd.R_mono (Kd.R_far (p := ⟨gb112, 2, none⟩) (Kd.R_far (p := ⟨gb112, 1, none⟩) (Kd.R_far (p := ⟨gb112, 0, none⟩) (Kd.R_types HO_117000.out BK112.out (by decide)) (fun _ hk => hk.2) (.slice Ao13 t113.length co13)) (fun _ hk => hk.2) (.int .i64 a0_1)) (fun _ hk => hk.2) (.slice Ao48 y122.length co48)) (fun _ hk => trivial), by (with_reducible repeat (first | apply Kd.R_alloc | apply Kd.R_drewN | apply Kd.R_drew)); exact Kd.R_mono (Kd.R_far (p := ⟨gb112, 2, none⟩) (Kd.R_far (p := ⟨gb112, 1, none⟩) (Kd.R_far (p := ⟨gb112, 0, none⟩) (Kd.R_types HO124.out BK112.out (by decide)) (fun _ hk => hk.2) (.slice Ao13 t113.length co13)) (fun _ hk => hk.2) (.int .i64 a0_1)) (fun _ hk => hk.2) (.slice Ao48 y122.length co48)) (fun _ hk => trivial), by repeat (first | (with_reducible first | exact HB.out | apply below_alloc | apply pw_below_drewN | apply below_drew1 | refine below_set ?_ GE111.out | refine below_set ?_ GE112.out | refine below_set ?_ GE116.out) | exact HB.out)⟩
     ·rw [if_neg c43] at H
      have c43b0 : (t125 == 0) = false := beq_eq_false_iff_ne.mpr c43
      have c43b1 : (t125 != 0) = true := bne_iff_ne.mpr c43
      simp only [Option.some.injEq, Prod.mk.injEq] at H
      obtain ⟨rfl, rfl, rfl, rfl⟩ := H
      have hnb54 := NB116_111.out
      have hnc54 := NB111_116.out
      have hnb55 := NB116_112.out
      have hnc55 := NB112_116.out
      have hcz56_0 := cz_ BK116 0
      have hcz56_1 := cz_ BK116 1
      have hcz56_2 := cz_ BK116 2
      have hfz56_0 := fz_ BK116 0
      have hfz56_1 := fz_ BK116 1
      have hfz56_2 := fz_ BK116 2
      go_wp2_with (first | ((with_reducible refine gate_builtin (b := .append) (xs := #[.tmp 39, .tmp 44]) rfl ?_); at_builtin; refine Kd.R_append k35 (w0 := w) w.heap.size rfl (.tmp 39) (.tmp 44) 23 35 (.agg #[(.int .i64 0), (.int .i64 0), (.int .i64 0)]) 24 rfl Try.underlying23 info35 rfl (by decide) (by omega) u117002 x117002_1 (⟨a1, a2, a3⟩ : S35) [.int .i64 a1, .int .i64 a2, .int .i64 a3] (fun _ => True) (fun _ => False) rfl rfl ?aP (fun _ hk => hk.elim) ?aF ?aO ?aB ?aS ?aL ?_; (case aP => exact k35_mkM _ _ _ (⟨a1, a2, a3⟩ : S35)); (case aB => exact bel_); (case aF => exact (fun _ _ => trivial)); (case aO => exact (kR_ HO_117002.out)); (case aS => exact (below_size bel_)); (case aL => have := LMc41.out; omega); intro v123 w57 ho hb hg hat; rw [← Ny122.out] at ho; have n0_ := a_ (Kd.R_over' (kR_ HO_117000.out) (Kd.R_typed (kR_ HO_117002.out)) (by decide) hg); have n1_ := a_ (blk_grown (bk_ BK111.out) hg (Kd.R_ne HO_117002.out BK111.out (by decide))); have n2_ := a_ (blk_grown (bk_ BK112.out) hg (Kd.R_ne HO_117002.out BK112.out (by decide))); have n3_ := a_ (blk_grown (bk_ BK116.out) hg (Kd.R_ne HO_117002.out BK116.out (by decide))); have n4_ := a_ (hb); have n5_ := a_ (ho); clear HO_117000; clear BK111; clear BK112; clear BK116; clear HB; clear HO_117002; have HO_117000 := n0_; have BK111 := n1_; have BK112 := n2_; have BK116 := n3_; have HB := n4_; have HO124 := n5_; clear n0_ n1_ n2_ n3_ n4_ n5_; clear ho hb hg hat; obtain ⟨Ao58, co58, eo58⟩ := Kd.R_slice HO124.out; subst eo58; have hcz59_0 := cz_ BK116 0; have hcz59_1 := cz_ BK116 1; have hcz59_2 := cz_ BK116 2; have hfz59_0 := fz_ BK116 0; have hfz59_1 := fz_ BK116 1; have hfz59_2 := fz_ BK116 2) | ((with_reducible refine gate_callee (f := 19) rfl ?_); refine gs_ (some 48) Try.func19 #[.agg #[.slice Ao13 t113.length co13, .int .i64 a0_1, .slice Ao58 y122.length co58]] ?_; (with_reducible refine (inspect_Right.calls k1 _ _ t113 a0_1 _ _ y122 t125 _ ?side1 ?side2 ?side3 ?side4 A42.out).mono ?_); (case side1 => refine (Kd.R_reads' (e := 3) (base := w.heap.size) (ok := fun k_ => True) (n := t113.length) (c := co13) ?_).2.2; exact (by (with_reducible repeat (first | apply Kd.R_alloc | apply Kd.R_drewN | apply Kd.R_drew)); exact (Kd.R_mono (Kd.R_far (p := ⟨gb116, 2, none⟩) (Kd.R_types HO_117000.out BK116.out (by decide)) (fun _ hk => hk.2) (.slice Ao58 y122.length co58)) (fun _ h_ => h_.1)))); (case side2 => exact (Kd.R_reads' HO_117000.out).2.1); (case side3 => refine (Kd.R_reads' (e := 35) (base := w.heap.size) (ok := fun k_ => True) (n := y122.length) (c := co58) ?_).2.2; exact (by (with_reducible repeat (first | apply Kd.R_alloc | apply Kd.R_drewN | apply Kd.R_drew)); exact (Kd.R_mono (Kd.R_far (p := ⟨gb116, 2, none⟩) (Kd.R_types HO124.out BK116.out (by decide)) (fun _ hk => hk.2) (.slice Ao58 y122.length co58)) (fun _ h_ => h_.1)))); (case side4 => exact (Kd.R_reads' HO124.out).2.1); rintro e w60 ⟨rfl, hb⟩; refine ⟨_, rfl, ?_⟩; have n0_ := a_ (Kd.R_below (by (with_reducible repeat (first | apply Kd.R_alloc | apply Kd.R_drewN | apply Kd.R_drew)); exact (Kd.R_mono (Kd.R_far (p := ⟨gb116, 2, none⟩) (Kd.R_types HO_117000.out BK116.out (by decide)) (fun _ hk => hk.2) (.slice Ao58 y122.length co58)) (fun _ h_ => h_.1))) hb); have n1_ := a_ (Kd.R_below (by (with_reducible repeat (first | apply Kd.R_alloc | apply Kd.R_drewN | apply Kd.R_drew)); exact (Kd.R_mono (Kd.R_far (p := ⟨gb116, 2, none⟩) (Kd.R_types HO124.out BK116.out (by decide)) (fun _ hk => hk.2) (.slice Ao58 y122.length co58)) (fun _ h_ => h_.1))) hb); have n2_ := a_ (blk_below (g := gb111) (o := .cells #[.slice A0_0 l0_0.length c0_0, .int .i64 a0_1, .slice A0_2 l0_2.length c0_2] 25 (0, 0)) (by refine blk_far ?_ NB111_116.out _; exact BK111.out) hb); have n3_ := a_ (blk_below (g := gb112) (o := .cells #[.slice none 0 0, .int .i64 0, .slice none 0 0] 25 (0, 0)) (by refine blk_far ?_ NB112_116.out _; exact BK112.out) hb); have n4_ := a_ (blk_below (g := gb116) (o := .cells #[.slice Ao13 t113.length co13, .int .i64 a0_1, .slice Ao58 y122.length co58] 25 (0, 0)) (by refine blk_put (cs := #[.slice Ao13 t113.length co13, .int .i64 a0_1, u117002]) ?_ 2 _ rfl; exact BK116.out) hb); have n5_ := a_ (below_step bel_ hb); clear HO_117000; clear HO124; clear BK111; clear BK112; clear BK116; clear HB; have HO_117000 := n0_; have HO124 := n1_; have BK111 := n2_; have BK112 := n3_; have BK116 := n4_; have HB := n5_; clear n0_ n1_ n2_ n3_ n4_ n5_; (try clear hb); (try clear hb2); (try clear hk); (try clear hi); have hnb61 := NB112_111.out; have hnc61 := NB111_112.out; have hcz62_0 := cz_ BK112 0; have hcz62_1 := cz_ BK112 1; have hcz62_2 := cz_ BK112 2; have hfz62_0 := fz_ BK112 0; have hfz62_1 := fz_ BK112 1; have hfz62_2 := fz_ BK112 2))
      refine bodyPost_ret (results_ct rfl _ _ gb112 25 #[.slice none 0 0, .int .i64 0, .slice none 0 0] (0, 0) _ rfl (by refine blk_put (cs := #[.slice none 0 0, .int .i64 0, .slice none 0 0]) ?_ 2 _ rfl; refine blk_put (cs := #[.slice none 0 0, .int .i64 0, .slice none 0 0]) ?_ 1 _ rfl; refine blk_put (cs := #[.slice none 0 0, .int .i64 0, .slice none 0 0]) ?_ 0 _ rfl; exact BK112.out) Try.underlying25 rfl (by kernel_rfl)) rfl ?_
      exact ⟨_, _, by first | rfl | (simp [errW_none, errW_some] <;> rfl) | (simp [*, errW_none, errW_some] <;> rfl), by first | exact Kd.R_nil _ _ _ _ _ | exact Kd.N_nil _ _ _ _ _ | exact Kd.V_nil _ _ _ _ _ | exact Kd.Q_nil _ _ _ _ _ | exact Kd.S_nil _ _ _ _ _, by first | exact Kd.R_nil _ _ _ _ _ | exact Kd.N_nil _ _ _ _ _ | exact Kd.V_nil _ _ _ _ _ | exact Kd.Q_nil _ _ _ _ _ | exact Kd.S_nil _ _ _ _ _, by repeat (first | (with_reducible first | exact HB.out | apply below_alloc | apply pw_below_drewN | apply below_drew1 | refine below_set ?_ GE111.out | refine below_set ?_ GE112.out | refine below_set ?_ GE116.out) | exact HB.out)⟩
    ·rw [if_neg c41] at H
     exact absurd H (by simp)

end Go.Proofs.Ytmhggplhfcmgkaa.Q
