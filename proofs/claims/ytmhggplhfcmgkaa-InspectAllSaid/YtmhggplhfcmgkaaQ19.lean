-- written by wip/drive.py (this session's program) over the kit's print words
import Derived.Test.YtmhggplhfcmgkaaQ0
import Derived.Test.YtmhggplhfcmgkaaQ3
import Derived.Test.YtmhggplhfcmgkaaQ18
namespace Go.Proofs.Ytmhggplhfcmgkaa.Q
open Go.RowKit Go.Proofs.YtmhggplhfcmgkaaW.PrintWords Go.Proofs.YtmhggplhfcmgkaaW.PrintLast Go.Proofs.YtmhggplhfcmgkaaW.PrintMore
attribute [local go_sem] max2_int min2_int max_two min_two max_three min_three max_four min_four   -- for this text's walks alone
set_option linter.unusedVariables false
set_option linter.unusedSimpArgs false

/-! ### inspect_Until: function 31 -/
/-- From u on, the time at which the item is open first: a sign that keeps it moves u to its end. -/
def untilIn (every : Int) (signs : List S35) (item : Int) : Nat → Int → Option Int
 | 0, _ => none
 | k + 1, u => if idxFrom (cntB item u every) signs 0 < 0 then some u else untilIn every signs item k (wrap64 ((rd_T35 signs (idxFrom (cntB item u every) signs 0)).f2 + every))
def untilL (k : Nat) (every : Int) (signs : List S35) (t : Int) : List Int → Int → Option Int
 | [], m => some m
 | it :: l, m => (untilIn every signs it k t).bind fun u => untilL k every signs t l (min m u)
def inspect_Until.f (k : Nat) (l0_0 : List Int) (a0_1 : Int) (l0_2 : List S35) (a1 : Int) : Option Int :=
 (inspect_Done.f l0_0 a0_1 l0_2 a1).bind fun d => if d = true then untilL k a0_1 l0_2 a1 l0_0 20000000 else some a1
theorem untilIn_mono (every : Int) (signs : List S35) (item : Int) : ∀ k u, LeO (untilIn every signs item k u) (untilIn every signs item (k + 1) u)
 | 0, u => fun r h => by simp [untilIn] at h
 | k + 1, u => by
  show LeO (if _ then _ else _) (if _ then _ else _)
  exact LeO.ite (LeO.refl _) (untilIn_mono every signs item k _)
theorem untilL_mono (k : Nat) (every : Int) (signs : List S35) (t : Int) : ∀ l m, LeO (untilL k every signs t l m) (untilL (k + 1) every signs t l m)
 | [], m => LeO.refl _
 | it :: l, m => LeO.bind (untilIn_mono every signs it k t) (fun _ => untilL_mono k every signs t l _)
theorem inspect_Until.mono : ∀ a0 a1 a2 a3 k, LeO (inspect_Until.f k a0 a1 a2 a3) (inspect_Until.f (k + 1) a0 a1 a2 a3) := by
 intro a0 a1 a2 a3 k
 unfold inspect_Until.f
 exact LeO.bind (LeO.refl _) (fun _ => LeO.ite (untilL_mono k a1 a2 a3 a0 _) (LeO.refl _))
theorem idxFrom_lt {α : Type} (p : α → Bool) (l : List α) (i : Nat) : idxFrom p l i < (i : Int) + l.length := by
 induction l generalizing i with
 | nil => simp [idxFrom]; omega
 | cons x l ih =>
  have := ih (i + 1)
  unfold idxFrom
  split <;> simp only [List.length_cons] <;> omega
theorem rd_cons_drop (l : List Int) (i : Int) (h0 : 0 ≤ i) (h1 : i < l.length) : l.drop i.toNat = rd l i :: l.drop (i + 1).toNat := by
 rw [List.drop_eq_getElem_cons (by omega), show (i + 1).toNat = i.toNat + 1 by omega]
 simp [rd, List.getD_eq_getElem?_getD, List.getElem?_eq_getElem (show i.toNat < l.length by omega)]
def inspect_Until.T8 : Bool × List (List Nat × List Nat) := (true, [([], []), ([0], [0]), ([], []), ([], []), ([], []), ([2, 3, 4], [2, 3, 4]), ([1, 5, 5], [1, 5]), ([6, 6, 0, 1, 2, 3, 4, 5, 6], [6])])
def inspect_Until.B8 : List Nat := [0, 1, 0, 0, 0, 28, 63, 127]
theorem inspect_Until.tab8 : rtab .any (opsOf Try.f31 8) = inspect_Until.T8 := by kernel_rfl
theorem inspect_Until.bits8 : waitsOk inspect_Until.T8.2 inspect_Until.B8 = true := by kernel_rfl
def inspect_Until.T10 : Bool × List (List Nat × List Nat) := (true, [([], []), ([0], [0]), ([], []), ([1, 2], [1, 2]), ([3], [3]), ([4], [4]), ([], []), ([6], [6]), ([5, 7], [5, 7]), ([8, 0, 1, 2, 3, 4, 5, 6, 7, 8], [8])])
def inspect_Until.B10 : List Nat := [0, 1, 0, 7, 15, 31, 0, 64, 255, 511]
theorem inspect_Until.tab10 : rtab .any (opsOf Try.f31 10) = inspect_Until.T10 := by kernel_rfl
theorem inspect_Until.bits10 : waitsOk inspect_Until.T10.2 inspect_Until.B10 = true := by kernel_rfl
set_option maxHeartbeats 4000000 in
theorem inspect_Until.calls (k : Nat) (A0_0 : Option Addr) (c0_0 : Nat) (l0_0 : List Int) (a0_1 : Int) (A0_2 : Option Addr) (c0_2 : Nat) (l0_2 : List (S35)) (a1 : Int) (r : Int) (w : World) (hr0_0 : Kd.C (Kd.int .i64) w A0_0 l0_0.length l0_0) (hc0_0 : l0_0.length ≤ c0_0) (hr0_2 : Kd.C k35 w A0_2 l0_2.length l0_2) (hc0_2 : l0_2.length ≤ c0_2) (h : inspect_Until.f k l0_0 a0_1 l0_2 a1 = some r) :
  Calls Try.prog 31 #[.agg #[.slice A0_0 l0_0.length c0_0, .int .i64 a0_1, .slice A0_2 l0_2.length c0_2], .int .i64 a1] w fun e w' => e = .returned (.int .i64 r) ∧ Below w.heap.size w w' := by
 have hu25 := Try.underlying25
 have hu35 := Try.underlying35
 have HR0_0 := a_ hr0_0
 have HC0_0 := a_ hc0_0
 have HR0_2 := a_ hr0_2
 have HC0_2 := a_ hc0_2
 have HMX := a_ (Kd.C_max hr0_0)
 clear hr0_0 hc0_0 hr0_2 hc0_2
 unfold inspect_Until.f at h
 obtain ⟨d, A1, H⟩ := Option.bind_eq_some_iff.mp h
 clear h
 have HD := a_ A1
 clear A1
 have HB := a_ (Below.refl w.heap.size w)
 cases d with
 | false =>
  obtain rfl : a1 = r := by simpa using H
  clear H
  go_enter Try.func31, Try.ntmps31
  go_wp2_with (first | ((with_reducible refine gate_dst (N := 2) rfl ?_); refine box_event ?hg (N := 2) ?hd (cs := #[.slice A0_0 l0_0.length c0_0, .int .i64 a0_1, .slice A0_2 l0_2.length c0_2]) (t := 25) ?hr ?_; (case hd => rfl); (case hg => rfl); (case hr => first | (go_simp; done) | (go_simp; rfl)); intro gb hg w_gb hbox hb; have n0_ := a_ (below_step bel_ hb); have n1_ := a_ (hbox); have n2_ := a_ ((by rw [hg]; exact (below_size bel_) : w.heap.size ≤ gb)); clear HB; have HB := n0_; have BKgb := n1_; have GEgb := n2_; clear n0_ n1_ n2_; clear hb hbox hg; have hczgb_0 : w_gb.cell? ⟨gb, 0, none⟩ = some (.slice A0_0 l0_0.length c0_0) := (blk_cell BKgb.out 0).trans rfl; have hczgb_1 : w_gb.cell? ⟨gb, 1, none⟩ = some (.int .i64 a0_1) := (blk_cell BKgb.out 1).trans rfl; have hczgb_2 : w_gb.cell? ⟨gb, 2, none⟩ = some (.slice A0_2 l0_2.length c0_2) := (blk_cell BKgb.out 2).trans rfl; have hfzgb_0 := blk_frozen BKgb.out 0; have hfzgb_1 := blk_frozen BKgb.out 1; have hfzgb_2 := blk_frozen BKgb.out 2) | (go_at_call 29; (with_reducible refine (inspect_Done.calls A0_0 c0_0 l0_0 a0_1 A0_2 c0_2 l0_2 a1 false _ ?s1 HC0_0.out ?s2 HC0_2.out HD.out).mono ?_); (case s1 => exact Kd.C_below HR0_0.out HB.out); (case s2 => exact Kd.C_below HR0_2.out HB.out); rintro e w' ⟨rfl, hb⟩))
  go_ret
  exact ⟨rfl, below_step HB.out hb⟩
 | true =>
  have HH : Aside0 (untilL k a0_1 l0_2 a1 l0_0 20000000 = some r) := ⟨by simpa using H⟩
  clear H
  go_enter Try.func31, Try.ntmps31
  go_wp2_with (first | ((with_reducible refine gate_dst (N := 2) rfl ?_); refine box_event ?hg (N := 2) ?hd (cs := #[.slice A0_0 l0_0.length c0_0, .int .i64 a0_1, .slice A0_2 l0_2.length c0_2]) (t := 25) ?hr ?_; (case hd => rfl); (case hg => rfl); (case hr => first | (go_simp; done) | (go_simp; rfl)); intro gb hg w_gb hbox hb; have n0_ := a_ (below_step bel_ hb); have n1_ := a_ (hbox); have n2_ := a_ ((by rw [hg]; exact (below_size bel_) : w.heap.size ≤ gb)); clear HB; have HB := n0_; have BKgb := n1_; have GEgb := n2_; clear n0_ n1_ n2_; clear hb hbox hg; have hczgb_0 : w_gb.cell? ⟨gb, 0, none⟩ = some (.slice A0_0 l0_0.length c0_0) := (blk_cell BKgb.out 0).trans rfl; have hczgb_1 : w_gb.cell? ⟨gb, 1, none⟩ = some (.int .i64 a0_1) := (blk_cell BKgb.out 1).trans rfl; have hczgb_2 : w_gb.cell? ⟨gb, 2, none⟩ = some (.slice A0_2 l0_2.length c0_2) := (blk_cell BKgb.out 2).trans rfl; have hfzgb_0 := blk_frozen BKgb.out 0; have hfzgb_1 := blk_frozen BKgb.out 1; have hfzgb_2 := blk_frozen BKgb.out 2) | (go_at_call 29; (with_reducible refine (inspect_Done.calls A0_0 c0_0 l0_0 a0_1 A0_2 c0_2 l0_2 a1 true _ ?s1 HC0_0.out ?s2 HC0_2.out HD.out).mono ?_); (case s1 => exact Kd.C_below HR0_0.out HB.out); (case s2 => exact Kd.C_below HR0_2.out HB.out); rintro e w2 ⟨rfl, hb⟩; have n0_ := a_ (below_step HB.out hb); have n1_ := a_ (blk_below BKgb.out hb); clear HB BKgb hczgb_0 hczgb_1 hczgb_2; have HB := n0_; have BKgb := n1_; have hk0 : w2.cell? ⟨gb, 0, none⟩ = some (.slice A0_0 l0_0.length c0_0) := (blk_cell BKgb.out 0).trans rfl; clear n0_ n1_ hb))
  clear hk0
  go_loopw [5, 18] (fun v5 v18 w' => ∃ x5 x18 : Int, v5 = .int .i64 x5 ∧ v18 = .int .i64 x18 ∧ Aside0 (0 ≤ x18) ∧ Aside0 (x18 ≤ l0_0.length) ∧ Aside0 (untilL k a0_1 l0_2 a1 (l0_0.drop x18.toNat) x5 = some r) ∧ Aside0 (w'.heap[gb]? = some (.cells #[(.slice A0_0 l0_0.length c0_0), .int .i64 a0_1, (.slice A0_2 l0_2.length c0_2)] 25 (0, 0))) ∧ Aside0 (Below w.heap.size w w')) (fun _ v18 _ => l0_0.length - (intOf v18).toNat)
  case atStart => exact ⟨20000000, 0, rfl, rfl, ⟨by omega⟩, ⟨by omega⟩, HH, BKgb, HB⟩
  case round =>
   clear BKgb HB HH
   obtain ⟨x5, x18, rfl, rfl, H0, H1, HU, BKgb, HB⟩ := hrel
   by_cases hlt : x18 < (l0_0.length : Int)
   ·have p158 := H0.out
    have hU := HU.out
    rw [rd_cons_drop l0_0 x18 p158 hlt, untilL] at hU
    obtain ⟨ru, hru, hU2⟩ := Option.bind_eq_some_iff.mp hU
    have HRU := a_ hru
    have HU2 := a_ hU2
    clear hU hru hU2 HU
    obtain ⟨ad158, e158, hx⟩ := Kd.at_int HR0_0.out x18 p158 hlt
    cases e158
    replace hx := (HB.out.cell (World.block_lt_of_cell? w _ hx)).trans hx
    have C1 := a_ hlt
    have HW : Aside0 (wrap64 (x18 + 1) = x18 + 1) := ⟨by have h1 := HMX.out; unfold wrap64; omega⟩
    replace p158 := eq_true p158
    have d1 : decide (x18 < (l0_0.length : Int)) = true := decide_eq_true hlt
    replace hlt := eq_true hlt
    generalize hit : rd l0_0 x18 = item at *
    clear hit
    go_wp2
    clear hx
    go_loopg [8, 9] k (fun kq v8 v9 w' => ∃ x8 : Int, v8 = .int .i64 x8 ∧ Aside0 (untilIn a0_1 l0_2 item kq x8 = some ru) ∧ Aside0 (w'.heap[gb]? = some (.cells #[(.slice (some ad158) l0_0.length c0_0), .int .i64 a0_1, (.slice A0_2 l0_2.length c0_2)] 25 (0, 0))) ∧ Aside0 (Below w.heap.size w w'))
    case atStart => exact ⟨a1, rfl, HRU, BKgb, HB⟩
    case round =>
     clear BKgb HB HRU
     obtain ⟨x8, rfl, HA, BKgb, HB⟩ := hrel
     cases gk with
     | zero => exact absurd HA.out (by simp [untilIn])
     | succ k1 =>
     have H := HA.out
     clear HA
     rw [untilIn] at H
     obtain ⟨z, hz⟩ : ∃ z, idxFrom (cntB item x8 a0_1) l0_2 0 = z := ⟨_, rfl⟩
     rw [hz] at H
     have HZ := a_ hz
     have hz1 := idxFrom_lt (cntB item x8 a0_1) l0_2 0
     rw [hz] at hz1
     have HZ1 : Aside0 (z < l0_2.length) := ⟨by omega⟩
     clear hz hz1
     go_upto_region 8 with fail
     have n1_ := a_ (blk_drew BKgb.out)
     have n2_ := a_ (below_drew1 HB.out)
     clear BKgb HB
     have BKgb := n1_
     have HB := n2_
     clear n1_ n2_
     have HQ := a_ H
     clear H
     refine start_ (n := 8) (S := fun w' => w'.cell? ⟨gb, 0, none⟩ = some (.slice (some ad158) l0_0.length c0_0) ∧ w'.cell? ⟨gb, 1, none⟩ = some (.int .i64 a0_1) ∧ w'.cell? ⟨gb, 2, none⟩ = some (.slice A0_2 l0_2.length c0_2)) (ds := []) #[false, false, false, false, false, false, false, false] (by kernel_rfl) rfl rfl ⟨(blk_cell BKgb.out 0).trans rfl, (blk_cell BKgb.out 1).trans rfl, (blk_cell BKgb.out 2).trans rfl⟩ (fun hHeld => ?_)
     refine with_tabW inspect_Until.tab8 inspect_Until.bits8 (fun HT_ HW_ => ?_)
     generalize wr.drew = w10 at BKgb HB hHeld ⊢
     refine pq_ 0 (some 23) #[true, false, false, false, false, false, false, false] ?_
     refine pq_ 3 (some 26) #[true, false, false, true, false, false, false, false] ?_
     refine pq_ 4 (some 27) #[true, false, false, true, true, false, false, false] ?_
     refine take_ (i := 1) (N := some 24) (v := ?_) (a' := ?_) #[true, true, false, true, true, false, false, false] rfl rfl (take_ofW HT_.out HW_.out (by kernel_rfl)) (fun _ _ _ h => h) (Or.inl ⟨by rfl, ?_⟩) hHeld ?_ ?_
     rotate_left
     ·rintro w' ⟨s0, s1, s2⟩
      go_simp
      with_reducible rfl
     rotate_left
     ·simp only [Act.put, List.setIfInBounds_toArray, List.set_cons_zero, List.set_cons_succ, i64_w, i32_w]
      rfl
     refine take_ (i := 2) (N := some 25) (v := ?_) (a' := ?_) #[true, true, true, true, true, false, false, false] rfl rfl (take_ofW HT_.out HW_.out (by kernel_rfl)) (fun _ _ _ h => h) (Or.inl ⟨by rfl, ?_⟩) hHeld ?_ ?_
     rotate_left
     ·rintro w' ⟨s0, s1, s2⟩
      go_simp
      with_reducible rfl
     rotate_left
     ·simp only [Act.put, List.setIfInBounds_toArray, List.set_cons_zero, List.set_cons_succ, i64_w, i32_w]
      rfl
     refine one_ (i := 5) (N := some 28) #[true, true, true, true, true, true, false, false] rfl rfl (one_of HT_.out (by kernel_rfl)) (by decide) (fun K hK => ?_)
     refine goes_ Try.func61 (by kernel_rfl) rfl #[.agg #[.slice (some ad158) l0_0.length c0_0, .int .i64 a0_1, .slice A0_2 l0_2.length c0_2], .int .i64 item, .int .i64 x8] (by rfl) rfl rfl (by (try simp only [List.map_toArray, List.map_cons, List.map_nil]); first | done | rfl) ?_
     with_reducible refine (counts_calls (some ad158) l0_0.length c0_0 a0_1 A0_2 l0_2.length c0_2 item x8 _).mono ?_
     rintro e w11 ⟨bi, bt, bl, rfl, gi, gt, gl, hb⟩
     refine ⟨_, rfl, ?_⟩
     have n1_ := a_ (blk_below (g := gb) (o := .cells #[.slice (some ad158) l0_0.length c0_0, .int .i64 a0_1, .slice A0_2 l0_2.length c0_2] 25 (0, 0)) BKgb.out hb)
     have n2_ := a_ (below_step HB.out hb)
     have GI := a_ gi
     have GT := a_ gt
     have GL := a_ gl
     clear BKgb HB hb gi gt gl
     have BKgb := n1_
     have HB := n2_
     clear n1_ n2_
     refine hK.out _ _ ⟨(blk_cell BKgb.out 0).trans rfl, (blk_cell BKgb.out 1).trans rfl, (blk_cell BKgb.out 2).trans rfl⟩ (fun hHeld => ?_)
     clear hK K
     refine norm_ (a' := ?_) ?_ ?_
     rotate_left
     ·show Act.put _ (some 28) _ = _
      simp only [Act.put, List.setIfInBounds_toArray, List.set_cons_zero, List.set_cons_succ, i64_w, i32_w]
      rfl
     refine one_ (i := 6) (N := some 29) #[true, true, true, true, true, true, true, false] rfl rfl (one_of HT_.out (by kernel_rfl)) (by decide) (fun K hK => ?_)
     refine goes_ Try.func63 (by kernel_rfl) rfl #[.slice A0_2 l0_2.length c0_2, .func (.func 76) #[] #[.pointer (some ⟨bi, 0, none⟩), .pointer (some ⟨bt, 0, none⟩), .pointer (some ⟨bl, 0, none⟩)]] (by rfl) rfl rfl (by (try simp only [List.map_toArray, List.map_cons, List.map_nil]); first | done | rfl) ?_
     with_reducible refine (idx35_calls bi bt bl (cntB item x8 a0_1) A0_2 c0_2 l0_2 _ ?side1 HC0_2.out ?side2).mono ?_
     (case side1 => exact Kd.C_below HR0_2.out HB.out)
     (case side2 => exact fun W x b hbW hpx => counts1_calls x bi bt bl item x8 a0_1 b W (pw_cell_below hbW GI.out) (pw_cell_below hbW GT.out) (pw_cell_below hbW GL.out) hpx)
     rintro e w12 ⟨rfl, hb⟩
     rw [HZ.out]
     refine ⟨_, rfl, ?_⟩
     have n1_ := a_ (blk_below (g := gb) (o := .cells #[.slice (some ad158) l0_0.length c0_0, .int .i64 a0_1, .slice A0_2 l0_2.length c0_2] 25 (0, 0)) BKgb.out hb)
     have n2_ := a_ (below_step HB.out hb)
     clear BKgb HB hb GI GT GL
     have BKgb := n1_
     have HB := n2_
     clear n1_ n2_
     refine hK.out _ _ ⟨(blk_cell BKgb.out 0).trans rfl, (blk_cell BKgb.out 1).trans rfl, (blk_cell BKgb.out 2).trans rfl⟩ (fun hHeld => ?_)
     clear hK K
     refine norm_ (a' := ?_) ?_ ?_
     rotate_left
     ·show Act.put _ (some 29) _ = _
      simp only [Act.put, List.setIfInBounds_toArray, List.set_cons_zero, List.set_cons_succ, i64_w, i32_w]
      rfl
     refine pq_ 7 (some 9) #[true, true, true, true, true, true, true, true] ?_
     refine done_ (done_of HT_.out (by kernel_rfl)) ?_
     by_cases hzn : z < 0
     ·have dz : decide (z < 0) = true := decide_eq_true hzn
      have hq := HQ.out
      rw [if_pos hzn] at hq
      obtain rfl : x8 = ru := by simpa using hq
      clear hq HQ hzn
      go_wp2
      have emin : (if x8 < x5 then x8 else x5) = min x5 x8 := by omega
      rw [emin, HW.out]
      clear emin
      go_roundw
      case measure => have h1 := C1.out; have h2 := H0.out; simp only [intOf]; omega
      case rel => exact ⟨min x5 x8, x18 + 1, rfl, rfl, ⟨by have := H0.out; omega⟩, ⟨by have := C1.out; omega⟩, HU2, BKgb, HB⟩
     ·have hq := HQ.out
      rw [if_neg hzn] at hq
      have HQ2 := a_ hq
      clear hq HQ
      have pz : 0 ≤ z := by omega
      have dz : decide (z < 0) = false := decide_eq_false hzn
      have qz := HZ1.out
      clear hzn
      obtain ⟨ad2, e2, y0, y1, y2⟩ := at_T35 HR0_2.out z pz qz
      cases e2
      have Y2 := a_ ((HB.out.cell (World.block_lt_of_cell? w _ y2)).trans y2)
      have Y2w := a_ y2
      clear y0 y1 y2
      replace pz := eq_true pz
      replace qz := eq_true qz
      go_upto_region 10 with fail
      have n1_ := a_ (blk_drew BKgb.out)
      have n2_ := a_ (below_drew1 HB.out)
      clear BKgb HB Y2
      have BKgb := n1_
      have HB := n2_
      clear n1_ n2_
      refine start_ (n := 10) (S := fun w' => w'.cell? ⟨gb, 0, none⟩ = some (.slice (some ad158) l0_0.length c0_0) ∧ w'.cell? ⟨gb, 1, none⟩ = some (.int .i64 a0_1) ∧ w'.cell? ⟨gb, 2, none⟩ = some (.slice (some ad2) l0_2.length c0_2) ∧ w'.cell? ⟨(ad2.add (z.toNat * 3)).block, (ad2.add (z.toNat * 3)).off + 2, none⟩ = some (.int .i64 (rd_T35 l0_2 z).f2)) (ds := []) #[false, false, false, false, false, false, false, false, false, false] (by kernel_rfl) rfl rfl ⟨(blk_cell BKgb.out 0).trans rfl, (blk_cell BKgb.out 1).trans rfl, (blk_cell BKgb.out 2).trans rfl, (HB.out.cell (World.block_lt_of_cell? w _ Y2w.out)).trans Y2w.out⟩ (fun hHeld => ?_)
      refine with_tabW inspect_Until.tab10 inspect_Until.bits10 (fun HT_ HW_ => ?_)
      generalize w12.drew = w13 at BKgb HB hHeld ⊢
      refine pq_ 0 (some 32) #[true, false, false, false, false, false, false, false, false, false] ?_
      refine pq_ 2 (some 34) #[true, false, true, false, false, false, false, false, false, false] ?_
      refine pq_ 6 (some 38) #[true, false, true, false, false, false, true, false, false, false] ?_
      refine take_ (i := 1) (N := some 33) (v := ?_) (a' := ?_) #[true, true, true, false, false, false, true, false, false, false] rfl rfl (take_ofW HT_.out HW_.out (by kernel_rfl)) (fun _ _ _ h => h) (Or.inl ⟨by rfl, ?_⟩) hHeld ?_ ?_
      rotate_left
      ·rintro w' ⟨s0, s1, s2, s3⟩
       go_simp
       with_reducible rfl
      rotate_left
      ·simp only [Act.put, List.setIfInBounds_toArray, List.set_cons_zero, List.set_cons_succ, i64_w, i32_w]
       rfl
      refine pq_ 3 (some 35) #[true, true, true, true, false, false, true, false, false, false] ?_
      refine pq_ 4 (some 36) #[true, true, true, true, true, false, true, false, false, false] ?_
      refine take_ (i := 5) (N := some 37) (v := ?_) (a' := ?_) #[true, true, true, true, true, true, true, false, false, false] rfl rfl (take_ofW HT_.out HW_.out (by kernel_rfl)) (fun _ _ _ h => h) (Or.inl ⟨by rfl, ?_⟩) hHeld ?_ ?_
      rotate_left
      ·rintro w' ⟨s0, s1, s2, s3⟩
       go_simp
       with_reducible rfl
      rotate_left
      ·simp only [Act.put, List.setIfInBounds_toArray, List.set_cons_zero, List.set_cons_succ, i64_w, i32_w]
       rfl
      refine take_ (i := 7) (N := some 39) (v := ?_) (a' := ?_) #[true, true, true, true, true, true, true, true, false, false] rfl rfl (take_ofW HT_.out HW_.out (by kernel_rfl)) (fun _ _ _ h => h) (Or.inl ⟨by rfl, ?_⟩) hHeld ?_ ?_
      rotate_left
      ·rintro w' ⟨s0, s1, s2, s3⟩
       go_simp
       with_reducible rfl
      rotate_left
      ·simp only [Act.put, List.setIfInBounds_toArray, List.set_cons_zero, List.set_cons_succ, i64_w, i32_w]
       rfl
      refine pq_ 8 (some 40) #[true, true, true, true, true, true, true, true, true, false] ?_
      refine pq_ 9 (some 8) #[true, true, true, true, true, true, true, true, true, true] ?_
      refine done_ (done_of HT_.out (by kernel_rfl)) ?_
      go_wp2
      go_roundg k1
      case measure => omega
      case rel => exact ⟨_, rfl, HQ2, BKgb, HB⟩
   ·have d1 : decide (x18 < (l0_0.length : Int)) = false := decide_eq_false hlt
    have hU := HU.out
    rw [show l0_0.drop x18.toNat = [] by apply List.drop_eq_nil_of_le; omega, untilL] at hU
    obtain rfl : x5 = r := by simpa using hU
    clear hU HU hlt
    go_wp2
    go_ret
    exact ⟨rfl, HB.out⟩



end Go.Proofs.Ytmhggplhfcmgkaa.Q
