-- written by wip/drive.py (this session's program) over the kit's print words
import Derived.Test.YtmhggplhfcmgkaaQ0
import Derived.Test.YtmhggplhfcmgkaaQ3
namespace Go.Proofs.Ytmhggplhfcmgkaa.Q
open Go.RowKit Go.Proofs.YtmhggplhfcmgkaaW.PrintWords Go.Proofs.YtmhggplhfcmgkaaW.PrintLast Go.Proofs.YtmhggplhfcmgkaaW.PrintMore
attribute [local go_sem] max2_int min2_int max_two min_two max_three min_three max_four min_four   -- for this text's walks alone
set_option linter.unusedVariables false
set_option linter.unusedSimpArgs false

/-! ### inspect_Open: function 27 -/
/-- The items that no sign keeps at the time t. -/
def openL (items : List Int) (every : Int) (signs : List S35) (t : Int) : List Int := items.filter fun it => !(signs.any (cntB it t every))
def inspect_Open.f (l0_0 : List Int) (a0_1 : Int) (l0_2 : List S35) (a1 : Int) : Option (List Int) := if l0_0.length < 17592186044416 then some (openL l0_0 a0_1 l0_2 a1) else none
theorem openL_step (items : List Int) (every : Int) (signs : List S35) (t : Int) (i : Int) (h0 : 0 ≤ i) (h1 : i < items.length) :
  openL (items.take (i + 1).toNat) every signs t = if signs.any (cntB (rd items i) t every) then openL (items.take i.toNat) every signs t else openL (items.take i.toNat) every signs t ++ [rd items i] := by
 rw [show (i + 1).toNat = i.toNat + 1 by omega]
 unfold openL
 rw [List.take_succ_eq_append_getElem (by omega), List.filter_append]
 have e : items[i.toNat]'(by omega) = rd items i := by simp [rd, List.getD_eq_getElem?_getD, List.getElem?_eq_getElem (show i.toNat < items.length by omega)]
 rw [e]
 by_cases h : signs.any (cntB (rd items i) t every) = true
 ·rw [if_pos h]; simp [h]
 ·rw [if_neg h]; simp [h]
theorem openL_len (items : List Int) (every : Int) (signs : List S35) (t : Int) : (openL items every signs t).length ≤ items.length := List.length_filter_le _ _
def inspect_Open.T5 : Bool × List (List Nat × List Nat) := (true, [([], []), ([0], [0]), ([], []), ([], []), ([], []), ([2, 3, 4], [2, 3, 4]), ([1, 5, 5], [1, 5]), ([6], [6])])
def inspect_Open.B5 : List Nat := [0, 1, 0, 0, 0, 28, 63, 127]
theorem inspect_Open.tab5 : rtab .any (opsOf Try.f27 5) = inspect_Open.T5 := by kernel_rfl
theorem inspect_Open.bits5 : waitsOk inspect_Open.T5.2 inspect_Open.B5 = true := by kernel_rfl
set_option maxHeartbeats 4000000 in
theorem inspect_Open.calls (A0_0 : Option Addr) (c0_0 : Nat) (l0_0 : List Int) (a0_1 : Int) (A0_2 : Option Addr) (c0_2 : Nat) (l0_2 : List (S35)) (a1 : Int) (r : List Int) (w : World) (hr0_0 : Kd.C (Kd.int .i64) w A0_0 l0_0.length l0_0) (hc0_0 : l0_0.length ≤ c0_0) (hr0_2 : Kd.C k35 w A0_2 l0_2.length l0_2) (hc0_2 : l0_2.length ≤ c0_2) (h : inspect_Open.f l0_0 a0_1 l0_2 a1 = some r) :
  Calls Try.prog 27 #[.agg #[.slice A0_0 l0_0.length c0_0, .int .i64 a0_1, .slice A0_2 l0_2.length c0_2], .int .i64 a1] w fun e w' => ∃ v0_ : Value, e = .returned (v0_) ∧ Kd.R (Kd.int .i64) 3 w' w.heap.size (fun _ => True) v0_ r ∧ Below w.heap.size w w' := by
 have hu25 := Try.underlying25
 have HR0_0 := a_ hr0_0
 have HC0_0 := a_ hc0_0
 have HR0_2 := a_ hr0_2
 have HC0_2 := a_ hc0_2
 clear hr0_0 hc0_0 hr0_2 hc0_2
 unfold inspect_Open.f at h
 by_cases hlen : l0_0.length < 17592186044416
 ·rw [if_pos hlen] at h
  have HR := a_ (Option.some.inj h)
  have HLEN := a_ hlen
  clear h hlen
  have HB := a_ (Below.refl w.heap.size w)
  go_enter Try.func27, Try.ntmps27
  go_wp2_with (first | ((with_reducible refine gate_dst (N := 2) rfl ?_); refine box_event ?hg (N := 2) ?hd (cs := #[.slice A0_0 l0_0.length c0_0, .int .i64 a0_1, .slice A0_2 l0_2.length c0_2]) (t := 25) ?hr ?_; (case hd => rfl); (case hg => rfl); (case hr => first | (go_simp; done) | (go_simp; rfl)); intro gb157 hg w_gb157 hbox hb; have n0_ := a_ (below_step bel_ hb); have n1_ := a_ (hbox); have n2_ := a_ (bz_ hg : w.heap.size ≤ gb157); clear HB; have HB := n0_; have BKgb157 := n1_; have GEgb157 := n2_; clear n0_ n1_ n2_; clear hb hbox hg; have hczgb157_0 : w_gb157.cell? ⟨gb157, 0, none⟩ = some (.slice A0_0 l0_0.length c0_0) := (blk_cell BKgb157.out 0).trans rfl; have hczgb157_1 : w_gb157.cell? ⟨gb157, 1, none⟩ = some (.int .i64 a0_1) := (blk_cell BKgb157.out 1).trans rfl; have hczgb157_2 : w_gb157.cell? ⟨gb157, 2, none⟩ = some (.slice A0_2 l0_2.length c0_2) := (blk_cell BKgb157.out 2).trans rfl; have hfzgb157_0 := blk_frozen BKgb157.out 0; have hfzgb157_1 := blk_frozen BKgb157.out 1; have hfzgb157_2 := blk_frozen BKgb157.out 2))
  clear hczgb157_0 hczgb157_1 hczgb157_2
  go_loopw [5, 11] (fun v5 v11 w' => ∃ x11 : Int, v11 = .int .i64 x11 ∧ Aside0 (0 ≤ x11) ∧ Aside0 (x11 ≤ l0_0.length) ∧ Aside0 (Kd.R (Kd.int .i64) 3 w' w.heap.size (fun _ => True) v5 (openL (l0_0.take x11.toNat) a0_1 l0_2 a1)) ∧ Aside0 (w'.heap[gb157]? = some (.cells #[(.slice A0_0 l0_0.length c0_0), .int .i64 a0_1, (.slice A0_2 l0_2.length c0_2)] 25 (0, 0))) ∧ Aside0 (Below w.heap.size w w')) (fun _ v11 _ => l0_0.length - (intOf v11).toNat)
  case atStart => exact ⟨0, rfl, ⟨by omega⟩, ⟨by omega⟩, ⟨Kd.R_nil _ _ _ _ _⟩, BKgb157, HB⟩
  case round =>
   clear BKgb157 HB
   obtain ⟨x11, rfl, H0, H1, HO, BKgb157, HB⟩ := hrel
   by_cases hlt : x11 < (l0_0.length : Int)
   ·have p158 := H0.out
    obtain ⟨ad158, e158, hx⟩ := Kd.at_int HR0_0.out x11 p158 hlt
    cases e158
    replace hx := (HB.out.cell (World.block_lt_of_cell? w _ hx)).trans hx
    have hcz9_0 : wr.cell? ⟨gb157, 0, none⟩ = some (.slice (some ad158) l0_0.length c0_0) := (blk_cell BKgb157.out 0).trans rfl
    have hcz9_1 : wr.cell? ⟨gb157, 1, none⟩ = some (.int .i64 a0_1) := (blk_cell BKgb157.out 1).trans rfl
    have hcz9_2 : wr.cell? ⟨gb157, 2, none⟩ = some (.slice A0_2 l0_2.length c0_2) := (blk_cell BKgb157.out 2).trans rfl
    have C1 := a_ hlt
    have HS := a_ (openL_step l0_0 a0_1 l0_2 a1 x11 p158 hlt)
    replace p158 := eq_true p158
    have d1 : decide (x11 < (l0_0.length : Int)) = true := decide_eq_true hlt
    replace hlt := eq_true hlt
    go_upto_region 5 with fail
    have n0_ := a_ (Kd.R_drew HO.out)
    have n1_ := a_ (blk_drew BKgb157.out)
    have n2_ := a_ (below_drew1 HB.out)
    clear HO BKgb157 HB
    have HO := n0_
    have BKgb157 := n1_
    have HB := n2_
    clear n0_ n1_ n2_ hcz9_0 hcz9_1 hcz9_2 hx
    refine start_ (n := 8) (S := fun w' => w'.cell? ⟨gb157, 0, none⟩ = some (.slice (some ad158) l0_0.length c0_0) ∧ w'.cell? ⟨gb157, 1, none⟩ = some (.int .i64 a0_1) ∧ w'.cell? ⟨gb157, 2, none⟩ = some (.slice A0_2 l0_2.length c0_2)) (ds := []) #[false, false, false, false, false, false, false, false] (by kernel_rfl) rfl rfl ⟨(blk_cell BKgb157.out 0).trans rfl, (blk_cell BKgb157.out 1).trans rfl, (blk_cell BKgb157.out 2).trans rfl⟩ (fun hHeld => ?_)
    refine with_tabW inspect_Open.tab5 inspect_Open.bits5 (fun HT_ HW_ => ?_)
    generalize wr.drew = w10 at HO BKgb157 HB hHeld ⊢
    refine pq_ 0 (some 15) #[true, false, false, false, false, false, false, false] ?_
    refine pq_ 3 (some 18) #[true, false, false, true, false, false, false, false] ?_
    refine pq_ 4 (some 19) #[true, false, false, true, true, false, false, false] ?_
    refine take_ (i := 1) (N := some 16) (v := ?_) (a' := ?_) #[true, true, false, true, true, false, false, false] rfl rfl (take_ofW HT_.out HW_.out (by kernel_rfl)) (fun _ _ _ h => h) (Or.inl ⟨by rfl, ?_⟩) hHeld ?_ ?_
    rotate_left
    ·rintro w' ⟨s0, s1, s2⟩
     go_simp
     with_reducible rfl
    rotate_left
    ·simp only [Act.put, List.setIfInBounds_toArray, List.set_cons_zero, List.set_cons_succ, i64_w, i32_w]
     rfl
    refine take_ (i := 2) (N := some 17) (v := ?_) (a' := ?_) #[true, true, true, true, true, false, false, false] rfl rfl (take_ofW HT_.out HW_.out (by kernel_rfl)) (fun _ _ _ h => h) (Or.inl ⟨by rfl, ?_⟩) hHeld ?_ ?_
    rotate_left
    ·rintro w' ⟨s0, s1, s2⟩
     go_simp
     with_reducible rfl
    rotate_left
    ·simp only [Act.put, List.setIfInBounds_toArray, List.set_cons_zero, List.set_cons_succ, i64_w, i32_w]
     rfl
    refine one_ (i := 5) (N := some 20) #[true, true, true, true, true, true, false, false] rfl rfl (one_of HT_.out (by kernel_rfl)) (by decide) (fun K hK => ?_)
    refine goes_ Try.func61 (by kernel_rfl) rfl #[.agg #[.slice (some ad158) l0_0.length c0_0, .int .i64 a0_1, .slice A0_2 l0_2.length c0_2], .int .i64 (rd l0_0 x11), .int .i64 a1] (by rfl) rfl rfl (by (try simp only [List.map_toArray, List.map_cons, List.map_nil]); first | done | rfl) ?_
    with_reducible refine (counts_calls (some ad158) l0_0.length c0_0 a0_1 A0_2 l0_2.length c0_2 (rd l0_0 x11) a1 _).mono ?_
    rintro e w11 ⟨bi, bt, bl, rfl, gi, gt, gl, hb⟩
    refine ⟨_, rfl, ?_⟩
    have n0_ := a_ (Kd.R_below HO.out hb)
    have n1_ := a_ (blk_below (g := gb157) (o := .cells #[.slice (some ad158) l0_0.length c0_0, .int .i64 a0_1, .slice A0_2 l0_2.length c0_2] 25 (0, 0)) BKgb157.out hb)
    have n2_ := a_ (below_step HB.out hb)
    have GI := a_ gi
    have GT := a_ gt
    have GL := a_ gl
    clear HO BKgb157 HB hb gi gt gl
    have HO := n0_
    have BKgb157 := n1_
    have HB := n2_
    clear n0_ n1_ n2_
    refine hK.out _ _ ⟨(blk_cell BKgb157.out 0).trans rfl, (blk_cell BKgb157.out 1).trans rfl, (blk_cell BKgb157.out 2).trans rfl⟩ (fun hHeld => ?_)
    clear hK K
    refine norm_ (a' := ?_) ?_ ?_
    rotate_left
    ·show Act.put _ (some 20) _ = _
     simp only [Act.put, List.setIfInBounds_toArray, List.set_cons_zero, List.set_cons_succ, i64_w, i32_w]
     rfl
    refine one_ (i := 6) (N := some 21) #[true, true, true, true, true, true, true, false] rfl rfl (one_of HT_.out (by kernel_rfl)) (by decide) (fun K hK => ?_)
    refine goes_ Try.func60 (by kernel_rfl) rfl #[.slice A0_2 l0_2.length c0_2, .func (.func 76) #[] #[.pointer (some ⟨bi, 0, none⟩), .pointer (some ⟨bt, 0, none⟩), .pointer (some ⟨bl, 0, none⟩)]] (by rfl) rfl rfl (by (try simp only [List.map_toArray, List.map_cons, List.map_nil]); first | done | rfl) ?_
    obtain ⟨b, hb0⟩ : ∃ b, l0_2.any (cntB (rd l0_0 x11) a1 a0_1) = b := ⟨_, rfl⟩
    have HAB := a_ hb0
    clear hb0
    with_reducible refine (any35_calls bi bt bl (cntB (rd l0_0 x11) a1 a0_1) A0_2 c0_2 l0_2 _ ?side1 HC0_2.out ?side2 b HAB.out).mono ?_
    (case side1 => exact Kd.C_below HR0_2.out HB.out)
    (case side2 => exact fun W x b hbW hpx => counts1_calls x bi bt bl (rd l0_0 x11) a1 a0_1 b W (pw_cell_below hbW GI.out) (pw_cell_below hbW GT.out) (pw_cell_below hbW GL.out) hpx)
    rintro e w12 ⟨rfl, hb⟩
    refine ⟨_, rfl, ?_⟩
    have n0_ := a_ (Kd.R_below HO.out hb)
    have n1_ := a_ (blk_below (g := gb157) (o := .cells #[.slice (some ad158) l0_0.length c0_0, .int .i64 a0_1, .slice A0_2 l0_2.length c0_2] 25 (0, 0)) BKgb157.out hb)
    have n2_ := a_ (below_step HB.out hb)
    clear HO BKgb157 HB hb GI GT GL
    have HO := n0_
    have BKgb157 := n1_
    have HB := n2_
    clear n0_ n1_ n2_
    refine hK.out _ _ ⟨(blk_cell BKgb157.out 0).trans rfl, (blk_cell BKgb157.out 1).trans rfl, (blk_cell BKgb157.out 2).trans rfl⟩ (fun hHeld => ?_)
    clear hK K
    refine norm_ (a' := ?_) ?_ ?_
    rotate_left
    ·show Act.put _ (some 21) _ = _
     simp only [Act.put, List.setIfInBounds_toArray, List.set_cons_zero, List.set_cons_succ, i64_w, i32_w]
     rfl
    refine pq_ 7 (some 22) #[true, true, true, true, true, true, true, true] ?_
    refine done_ (done_of HT_.out (by kernel_rfl)) ?_
    obtain ⟨xs, hxs⟩ : ∃ xs, openL (l0_0.take x11.toNat) a0_1 l0_2 a1 = xs := ⟨_, rfl⟩
    rw [hxs] at HO
    have HXS := a_ hxs
    clear hxs
    have HW : Aside0 (wrap64 (x11 + 1) = x11 + 1) := ⟨by have h1 := C1.out; have h2 := HLEN.out; have h3 := H0.out; unfold wrap64; omega⟩
    cases b with
    | true =>
     go_wp2
     go_roundw
     case measure => have h1 := C1.out; have h2 := H0.out; rw [HW.out]; simp only [intOf]; omega
     case rel => exact ⟨x11 + 1, by rw [HW.out], ⟨by have := H0.out; omega⟩, ⟨by have := C1.out; omega⟩, ⟨by rw [HS.out, if_pos HAB.out, HXS.out]; exact HO.out⟩, BKgb157, HB⟩
    | false =>
     go_wp2_with (first | ((with_reducible refine gate_builtin (b := .append) (xs := #[.tmp 23, .tmp 25]) rfl ?_); at_builtin; refine Kd.R_append (Kd.int .i64) (w0 := w) w.heap.size rfl (.tmp 23) (.tmp 25) 22 3 (.int .i64 0) 8 rfl Try.underlying22 info3 rfl (by decide) (by omega) u5 xs (rd l0_0 x11) [.int .i64 (rd l0_0 x11)] (fun _ => True) (fun _ => False) rfl rfl ?aP (fun _ hk => hk.elim) ?aF ?aO ?aB ?aS ?aL ?_; (case aP => exact rfl); (case aB => exact HB.out); (case aF => exact (fun _ _ => trivial)); (case aO => exact HO.out); (case aS => exact (below_size HB.out)); (case aL => have h1 := openL_len (l0_0.take x11.toNat) a0_1 l0_2 a1; rw [HXS.out, List.length_take] at h1; have := HLEN.out; omega); intro v162 w13 ho hb hg hat; have n0_ := a_ (blk_grown (g := gb157) (o := .cells #[.slice (some ad158) l0_0.length c0_0, .int .i64 a0_1, .slice A0_2 l0_2.length c0_2] 25 (0, 0)) BKgb157.out hg (Kd.R_ne HO.out BKgb157.out (by decide))); have n1_ := a_ (hb); have n2_ := a_ (ho); clear HO BKgb157 HB; have HO := n2_; have BKgb157 := n0_; have HB := n1_; clear n0_ n1_ n2_ ho hb hg hat))
     go_roundw
     case measure => have h1 := C1.out; have h2 := H0.out; rw [HW.out]; simp only [intOf]; omega
     case rel => exact ⟨x11 + 1, by rw [HW.out], ⟨by have := H0.out; omega⟩, ⟨by have := C1.out; omega⟩, ⟨by rw [HS.out, if_neg (by rw [HAB.out]; simp), HXS.out]; exact HO.out⟩, BKgb157, HB⟩
   ·have HZ := a_ (show l0_0.take x11.toNat = l0_0 by apply List.take_of_length_le; omega)
    have d1 : decide (x11 < (l0_0.length : Int)) = false := decide_eq_false hlt
    have hO := HO.out
    rw [HZ.out, HR.out] at hO
    have HO2 := a_ hO
    clear hlt hO HO
    go_wp2
    go_ret
    exact ⟨_, rfl, HO2.out, HB.out⟩
 ·rw [if_neg hlen] at h; exact absurd h (by simp)



end Go.Proofs.Ytmhggplhfcmgkaa.Q
