-- written by wip/drive.py (this session's program) over the kit's print words
import Derived.Test.YtmhggplhfcmgkaaQ0
import Derived.Test.YtmhggplhfcmgkaaQ42
import Derived.Test.YtmhggplhfcmgkaaQ49
namespace Go.Proofs.Ytmhggplhfcmgkaa.Q
open Go.RowKit Go.Proofs.YtmhggplhfcmgkaaW.PrintWords Go.Proofs.YtmhggplhfcmgkaaW.PrintLast Go.Proofs.YtmhggplhfcmgkaaW.PrintMore
attribute [local go_sem] max2_int min2_int max_two min_two max_three min_three max_four min_four   -- for this text's walks alone
set_option linter.unusedVariables false
set_option linter.unusedSimpArgs false

/-! ### patrol_Remove: function 44 -/
theorem zero56 (w : World) : (zeroValue 56).run Try.prog w = .ok (.agg #[.int .i64 0, .int .i64 0, .int .i64 0]) w := by kernel_rfl
theorem clear56 (W : World) (g o c : Nat) (hc : ∀ j, j < 3 → (W.cell? ⟨g, o + j, none⟩).isSome = true) (hf : ∀ j, W.frozen? ⟨g, j, none⟩ = false) (ty : TypeId) :
  (Builtin.clear_ #[46] ty #[.slice (some ⟨g, o, none⟩) 1 c]).run Try.prog W = .ok (.tuple #[]) (W.setCells g o [.int .i64 0, .int .i64 0, .int .i64 0]) := by
 have hzc : (Builtin.zeroCells (Value.agg #[.int .i64 0, .int .i64 0, .int .i64 0]).cells 1).toList = [.int .i64 0, .int .i64 0, .int .i64 0] := by kernel_rfl
 have hst := run_storeCells_cells (P := Try.prog) g o [.int .i64 0, .int .i64 0, .int .i64 0] 0 W (by simpa using hc) (fun j _ => hf _) (by intro v hv'; simp at hv'; rw [hv']; rfl)
 simp only [Nat.add_zero] at hst
 simp [Builtin.clear_, run_underlying Try.underlying46, zero56, hzc, hst]
/-- The row's cells behind its elements are no one's. -/
theorem R_past56 {base g n cap m : Nat} {ok : Nat → Prop} {W : World} {l : List S56} (h : k56.R 56 W base ok (.slice (some ⟨g, 0, none⟩) n cap) l) (hm : n ≤ m) (a b c : Value) :
  k56.R 56 (W.setCells g (m * 3) [a, b, c]) base ok (.slice (some ⟨g, 0, none⟩) n cap) l := by
 obtain ⟨h0, inner, ho, hr⟩ := h
 obtain ⟨hlen, ho⟩ := ho
 rcases ho with ⟨hv, _⟩ | ⟨g', cap', cur, hv, hb, hh, hn, hmx, hs, ht⟩
 ·cases hv
 injection hv with e1 e2 e3
 cases e1
 subst e3
 have hs3 : cur.size = cap * 3 := hs
 refine ⟨h0, inner, ⟨hlen, .inr ⟨g, cap, ((cur.setIfInBounds (m * 3) a).setIfInBounds (m * 3 + 1) b).setIfInBounds (m * 3 + 2) c, by rw [e2], hb, ?_, hn, hmx, by simp only [Array.size_setIfInBounds]; exact hs, ?_⟩⟩, hr.imp_ (fun x cs hx => ?_)⟩
 ·exact blk_put (blk_put (blk_put hh (m * 3) a rfl) (m * 3 + 1) b rfl) (m * 3 + 2) c rfl
 ·rw [← ht]
  simp only [Array.toList_setIfInBounds]
  show List.take (l.length * 3) _ = List.take (l.length * 3) _
  rw [List.take_set_of_le (by omega), List.take_set_of_le (by omega), List.take_set_of_le (by omega)]
 ·obtain rfl := k56_openM hx
  exact k56_mkM _ _ _ x
theorem R_cells56 {base g n cap : Nat} {ok : Nat → Prop} {W : World} {l : List S56} (h : k56.R 56 W base ok (.slice (some ⟨g, 0, none⟩) n cap) l) : (∀ j, j < cap * 3 → (W.cell? ⟨g, j, none⟩).isSome = true) ∧ (∀ j, W.frozen? ⟨g, j, none⟩ = false) ∧ base ≤ g ∧ g < W.heap.size ∧ n ≤ cap ∧ cap ≤ maxLen := by
 obtain ⟨h0, inner, ho, hr⟩ := h
 obtain ⟨hlen, ho⟩ := ho
 rcases ho with ⟨hv, _⟩ | ⟨g', cap', cur, hv, hb, hh, hn, hmx, hs, ht⟩
 ·cases hv
 injection hv with e1 e2 e3
 cases e1
 subst e3
 have hs3 : cur.size = cap * 3 := hs
 refine ⟨fun j hj => ?_, fun j => blk_frozen hh j, hb, blk_lt hh, by omega, hmx⟩
 rw [blk_cell hh j, Array.getElem?_eq_getElem (by omega)]
 rfl
def delete56.T5 : Bool × List (List Nat × List Nat) := (true, [([], []), ([], []), ([0, 1], [0, 1]), ([], []), ([], []), ([3, 4], [3, 4]), ([2, 5], [2, 5]), ([6, 6, 0, 1, 2, 3, 4, 5, 6], [0, 3, 6])])
def delete56.B5 : List Nat := [0, 0, 3, 0, 0, 24, 63, 127]
theorem delete56.tab5 : rtab .any (opsOf Try.f71 5) = delete56.T5 := by kernel_rfl
theorem delete56.bits5 : waitsOk delete56.T5.2 delete56.B5 = true := by kernel_rfl
set_option maxHeartbeats 8000000 in
set_option maxRecDepth 100000 in
theorem delete56.calls (g cap : Nat) (i : Int) (l : List S56) (base : Nat) (ok : Nat → Prop) (w : World) (hO : k56.R 56 w base ok (.slice (some ⟨g, 0, none⟩) l.length cap) l) (h0 : 0 ≤ i) (h1 : i < l.length) (hbs : base ≤ w.heap.size) :
  Calls Try.prog 71 #[.slice (some ⟨g, 0, none⟩) l.length cap, .int .i64 i, .int .i64 (i + 1)] w fun e w' => e = .returned (.slice (some ⟨g, 0, none⟩) (l.length - 1) cap) ∧ k56.R 56 w' base ok (.slice (some ⟨g, 0, none⟩) (l.length - 1) cap) (l.eraseIdx i.toNat) ∧ Below base w w' ∧ (∀ k, k ≠ g → k < w.heap.size → w'.heap[k]? = w.heap[k]?) ∧ w.heap.size ≤ w'.heap.size := by
 have hu46 := Try.underlying46
 obtain ⟨hcell, hfr, hbg, hgl, hlc, hcm⟩ := R_cells56 hO
 have hmax : maxLen = 9223372036854775807 := rfl
 obtain ⟨n, hn⟩ : ∃ n, l.length = n + 1 := ⟨l.length - 1, by omega⟩
 rw [hn] at hO h1 hlc ⊢
 rw [Nat.add_sub_cancel]
 have HN := Aside0.mk hn
 clear hn
 have HO := Aside0.mk hO
 have HCM := Aside0.mk hcm
 have HLC := Aside0.mk hlc
 have HBG := Aside0.mk hbg
 have HBS := Aside0.mk hbs
 have H0 := Aside0.mk h0
 have H1 := Aside0.mk h1
 clear hO hcm hcell hfr hgl hbg hbs
 have d0 : decide (i = i + 1) = false := decide_eq_false (by omega)
 have p1 : 0 ≤ i + 1 := by omega
 have p2 : i + 1 ≤ ((n + 1 : Nat) : Int) := by omega
 have p3 : i ≤ i + 1 := by omega
 have p4 : i ≤ (cap : Int) := by omega
 have p5 : i + 1 ≤ (cap : Int) := by omega
 have p6 : ((n + 1 : Nat) : Int) ≤ (cap : Int) := by omega
 have p7 : ((n : Nat) : Int) ≤ ((n + 1 : Nat) : Int) := by omega
 have p8 : (0 : Int) ≤ ((n : Nat) : Int) := by omega
 have p9 : ((n : Nat) : Int) ≤ (cap : Int) := by omega
 have p10 : i ≤ (n : Int) := by omega
 have p11 : (n : Int) + 1 ≤ (cap : Int) := by omega
 have p12 : (n : Int) ≤ (n : Int) + 1 := by omega
 have p13 : i + 1 ≤ (n : Int) + 1 := by omega
 have q1 : (cap = n) = False := eq_false (by omega)
 have q2 : n + 1 - n = 1 := by omega
 go_enter Try.func71, Try.ntmps71
 go_upto_region 5 with fail
 refine start_ (n := 8) (S := fun w' => True) (ds := []) #[false, false, false, false, false, false, false, false] (by kernel_rfl) rfl rfl trivial (fun hHeld => ?_)
 refine with_tabW delete56.tab5 delete56.bits5 (fun HT_ HW_ => ?_)
 refine pure_ (i := 0) (N := some 20) (v := ?_) (a' := ?_) #[true, false, false, false, false, false, false, false] rfl rfl (any_of HT_.out (by kernel_rfl)) (fun _ _ _ h => h) (Or.inl ⟨by rfl, ?_⟩) ?_ ?_
 rotate_left
 ·intro w'
  go_simp
  with_reducible rfl
 rotate_left
 ·simp only [Act.put, List.setIfInBounds_toArray, List.set_cons_zero, List.set_cons_succ, i64_w, i32_w]
  rfl
 refine pure_ (i := 1) (N := some 21) (v := ?_) (a' := ?_) #[true, true, false, false, false, false, false, false] rfl rfl (any_of HT_.out (by kernel_rfl)) (fun _ _ _ h => h) (Or.inl ⟨by rfl, ?_⟩) ?_ ?_
 rotate_left
 ·intro w'
  go_simp
  with_reducible rfl
 rotate_left
 ·simp only [Act.put, List.setIfInBounds_toArray, List.set_cons_zero, List.set_cons_succ, i64_w, i32_w]
  rfl
 refine pure_ (i := 3) (N := some 23) (v := ?_) (a' := ?_) #[true, true, false, true, false, false, false, false] rfl rfl (any_of HT_.out (by kernel_rfl)) (fun _ _ _ h => h) (Or.inl ⟨by rfl, ?_⟩) ?_ ?_
 rotate_left
 ·intro w'
  go_simp
  with_reducible rfl
 rotate_left
 ·simp only [Act.put, List.setIfInBounds_toArray, List.set_cons_zero, List.set_cons_succ, i64_w, i32_w]
  rfl
 refine pure_ (i := 4) (N := some 24) (v := ?_) (a' := ?_) #[true, true, false, true, true, false, false, false] rfl rfl (any_of HT_.out (by kernel_rfl)) (fun _ _ _ h => h) (Or.inl ⟨by rfl, ?_⟩) ?_ ?_
 rotate_left
 ·intro w'
  go_simp
  with_reducible rfl
 rotate_left
 ·simp only [Act.put, List.setIfInBounds_toArray, List.set_cons_zero, List.set_cons_succ, i64_w, i32_w]
  rfl
 refine pure_ (i := 2) (N := some 22) (v := ?_) (a' := ?_) #[true, true, true, true, true, false, false, false] rfl rfl (any_of HT_.out (by kernel_rfl)) (fun _ _ _ h => h) (Or.inl ⟨by rfl, ?_⟩) ?_ ?_
 rotate_left
 ·intro w'
  go_simp
  with_reducible rfl
 rotate_left
 ·simp only [Act.put, List.setIfInBounds_toArray, List.set_cons_zero, List.set_cons_succ, i64_w, i32_w]
  rfl
 refine pure_ (i := 5) (N := some 25) (v := ?_) (a' := ?_) #[true, true, true, true, true, true, false, false] rfl rfl (any_of HT_.out (by kernel_rfl)) (fun _ _ _ h => h) (Or.inl ⟨by rfl, ?_⟩) ?_ ?_
 rotate_left
 ·intro w'
  go_simp
  with_reducible rfl
 rotate_left
 ·simp only [Act.put, List.setIfInBounds_toArray, List.set_cons_zero, List.set_cons_succ, i64_w, i32_w]
  rfl
 refine one_ (i := 6) (N := some 26) #[true, true, true, true, true, true, true, false] rfl rfl (one_of HT_.out (by kernel_rfl)) (by decide) (fun K hK => ?_)
 refine Kd.R_delete_step k56 (w0 := w) base (by rfl) (.tmp 22) (.tmp 25) 46 56 rfl hu46 (by kernel_rfl) (g := g) (n := n + 1) (c := cap) (k := i.toNat) (m := n + 1 - (i + 1).toNat) (c2 := cap - (i + 1).toNat) (A := if cap = (i + 1).toNat then some ⟨g, 0, none⟩ else some ⟨g, (i + 1).toNat * 3, none⟩) (xs := l) (ok := ok) rfl rfl ?hA (by have := H0.out; omega) (Kd.R_below HO.out (below_drew (Below.refl _ _))) (by have := H0.out; have := H1.out; omega) (below_drew1 (Below.refl base w)) HBS.out ?_
 case hA =>
  rw [show (i + 1).toNat = i.toNat + 1 by have := H0.out; omega]
  by_cases hq : cap = i.toNat + 1
  ·rw [if_pos hq, if_pos hq]
  ·rw [if_neg hq, if_neg hq, Option.map_some, add_plain]; rfl
 intro w1 hr hb hg
 rw [Nat.add_sub_cancel] at hr
 rw [Nat.add_sub_cancel]
 have HR := Aside0.mk hr
 have HBB := Aside0.mk hb
 have HG := Aside0.mk hg
 clear hr hb hg HO
 refine hK.out _ _ trivial (fun hHeld => ?_)
 clear hK K
 refine norm_ (a' := ?_) ?_ ?_
 rotate_left
 ·show Act.put _ (some 26) _ = _
  simp only [Act.put, List.setIfInBounds_toArray, List.set_cons_zero, List.set_cons_succ, i64_w, i32_w]
  rfl
 refine pure_ (i := 7) (N := some 0) (v := ?_) (a' := ?_) #[true, true, true, true, true, true, true, true] rfl rfl (any_of HT_.out (by kernel_rfl)) (fun _ _ _ h => h) (Or.inl ⟨by rfl, ?_⟩) ?_ ?_
 rotate_left
 ·intro w'
  go_simp
  with_reducible rfl
 rotate_left
 ·simp only [Act.put, List.setIfInBounds_toArray, List.set_cons_zero, List.set_cons_succ, i64_w, i32_w]
  rfl
 refine done_ (done_of HT_.out (by kernel_rfl)) ?_
 generalize (if cap = (i + 1).toNat then (some ⟨g, 0, none⟩ : Option Addr) else some ⟨g, (i + 1).toNat * 3, none⟩) = A25
 have hcells := R_cells56 HR.out
 have hcl : ∀ ty, (Builtin.clear_ #[46] ty #[.slice (some ⟨g, n * 3, none⟩) 1 (cap - n)]).run Try.prog w1 = .ok (.tuple #[]) (w1.setCells g (n * 3) [.int .i64 0, .int .i64 0, .int .i64 0]) :=
  fun ty => clear56 w1 g (n * 3) (cap - n) (fun j hj => hcells.1 _ (by have := HLC.out; omega)) hcells.2.1 ty
 clear hcells
 go_wp2_with (simp only [hcl])
 go_ret
 have hbg := HBG.out
 refine ⟨rfl, ?_, ?_, ?_, ?_⟩
 ·exact R_past56 HR.out (Nat.le_refl _) _ _ _
 ·exact ((HBB.out.setCell hbg _).setCell hbg _).setCell hbg _
 ·intro k hk hlt
  show (((w1.setCell _ _).setCell _ _).setCell _ _).heap[k]? = _
  rw [Below.heap_setCell _ _ _ k hk, Below.heap_setCell _ _ _ k hk, Below.heap_setCell _ _ _ k hk]
  exact HG.out.block k hlt (by intro he; injection he with he; exact hk he)
 ·have h3 : (w1.setCells g (n * 3) [.int .i64 0, .int .i64 0, .int .i64 0]).heap.size = w1.heap.size := by simp only [World.setCells]; go_simp
  rw [h3]
  exact HG.out.size
def patrol_Remove.f (l0_0 : List S63) (l0_1 : List S56) (a1 : Int) : Option (List S63 × List S56 × Int) := (patrol_hazard.f l0_1 a1).bind fun t => if t < 0 then some (([] : List S63), ([] : List S56), 8) else (patrol_copied.f l0_0 l0_1).bind fun _ => if 0 ≤ t ∧ t < (l0_1.length : Int) then some (l0_0, l0_1.eraseIdx t.toNat, 0) else none
theorem copied_eq {l0_0 : List S63} {l0_1 : List S56} {p : List S63 × List S56} (h : patrol_copied.f l0_0 l0_1 = some p) : p = (l0_0, l0_1) := by
 unfold patrol_copied.f at h
 split at h
 ·exact (Option.some.inj h).symm
 ·cases h
set_option maxHeartbeats 8000000 in
set_option maxRecDepth 100000 in
theorem patrol_Remove.calls (A0_0 : Option Addr) (c0_0 : Nat) (l0_0 : List (S63)) (A0_1 : Option Addr) (c0_1 : Nat) (l0_1 : List (S56)) (a1 : Int) (r1 : List (S63)) (r2 : List (S56)) (r3 : Int) (w : World) (hr0_0 : Kd.C k63 w A0_0 l0_0.length l0_0) (hc0_0 : l0_0.length ≤ c0_0) (hr0_1 : Kd.C k56 w A0_1 l0_1.length l0_1) (hc0_1 : l0_1.length ≤ c0_1) (h : patrol_Remove.f l0_0 l0_1 a1 = some (r1, r2, r3)) :
  Calls Try.prog 44 #[.agg #[.slice A0_0 l0_0.length c0_0, .slice A0_1 l0_1.length c0_1], .int .i64 a1] w fun e w' => ∃ v0_ v1_ : Value, e = .returned (.tuple #[.agg #[v0_, v1_], .int .i64 r3]) ∧ Kd.N k63 63 w' w.heap.size (fun k_ => (w.heap.size ≤ k_) ∧ some k_ ≠ (v1_ : Value).ownBlock) v0_ r1 ∧ Kd.R k56 56 w' w.heap.size (fun k_ => (w.heap.size ≤ k_)) v1_ r2 ∧ Below w.heap.size w w' := by
 have hu48 := Try.underlying48
 have HR0_0 := Aside0.mk hr0_0
 have HC0_0 := Aside0.mk hc0_0
 have HR0_1 := Aside0.mk hr0_1
 have HC0_1 := Aside0.mk hc0_1
 have HMX := Aside0.mk (Kd.C_max hr0_1)
 clear hr0_0 hc0_0 hr0_1 hc0_1
 have HB := Aside0.mk (Below.refl w.heap.size w)
 unfold patrol_Remove.f at h
 obtain ⟨t, hhz, h⟩ := Option.bind_eq_some_iff.mp h
 have HHZ := Aside0.mk hhz
 clear hhz
 by_cases c4 : t < 0
 ·rw [if_pos c4] at h
  obtain ⟨rfl, rfl, rfl⟩ : ([] : List S63) = r1 ∧ ([] : List S56) = r2 ∧ (8 : Int) = r3 := by simpa using h
  have c4b0 : decide (t < 0) = true := decide_eq_true c4
  clear c4 h
  go_enter Try.func44, Try.ntmps44
  go_wp2_with (first | ((with_reducible refine gate_dst (N := 2) rfl ?_); refine box_event ?hg (N := 2) ?hd (cs := #[.slice A0_0 l0_0.length c0_0, .slice A0_1 l0_1.length c0_1]) (t := 48) ?hr ?_; (case hd => rfl); (case hg => rfl); (case hr => first | (go_simp; done) | (go_simp; rfl)); intro gP hg w_gP hbox hb; have n0_ := Aside0.mk (below_step bel_ hb); have n1_ := Aside0.mk (hbox); have n2_ := Aside0.mk ((by rw [hg]; exact (below_size bel_) : w.heap.size ≤ gP)); clear HB; have HB := n0_; have BKgP := n1_; have GEgP := n2_; clear n0_ n1_ n2_; clear hb hbox hg; have hczgP_0 : w_gP.cell? ⟨gP, 0, none⟩ = some (.slice A0_0 l0_0.length c0_0) := (blk_cell BKgP.out 0).trans rfl; have hczgP_1 : w_gP.cell? ⟨gP, 1, none⟩ = some (.slice A0_1 l0_1.length c0_1) := (blk_cell BKgP.out 1).trans rfl; have hfzgP_0 := blk_frozen BKgP.out 0; have hfzgP_1 := blk_frozen BKgP.out 1) | ((with_reducible refine gate_dst (N := 4) rfl ?_); refine box_event ?hg (N := 4) ?hd (cs := #[.slice none 0 0, .slice none 0 0]) (t := 48) ?hr ?_; (case hd => rfl); (case hg => rfl); (case hr => first | (go_simp; done) | (go_simp; rfl)); intro gR hg w_gR hbox hb; have n0_ := Aside0.mk (below_step bel_ hb); have n1_ := Aside0.mk (hbox); have n2_ := Aside0.mk ((by rw [hg]; exact (below_size bel_) : w.heap.size ≤ gR)); clear HB; have HB := n0_; have BKgR := n1_; have GEgR := n2_; clear n0_ n1_ n2_; have m_gP := Aside0.mk (blk_below BKgP.out hb); clear BKgP; (try clear hczgP_0 hczgP_1); (try clear hfzgP_0 hfzgP_1); have BKgP := m_gP; clear m_gP; have hczgP_0 : w_gR.cell? ⟨gP, 0, none⟩ = some (.slice A0_0 l0_0.length c0_0) := (blk_cell BKgP.out 0).trans rfl; have hczgP_1 : w_gR.cell? ⟨gP, 1, none⟩ = some (.slice A0_1 l0_1.length c0_1) := (blk_cell BKgP.out 1).trans rfl; have hfzgP_0 := blk_frozen BKgP.out 0; have hfzgP_1 := blk_frozen BKgP.out 1; clear hb hbox hg; have hczgR_0 : w_gR.cell? ⟨gR, 0, none⟩ = some (.slice none 0 0) := (blk_cell BKgR.out 0).trans rfl; have hczgR_1 : w_gR.cell? ⟨gR, 1, none⟩ = some (.slice none 0 0) := (blk_cell BKgR.out 1).trans rfl; have hfzgR_0 := blk_frozen BKgR.out 0; have hfzgR_1 := blk_frozen BKgR.out 1) | (go_at_call 66; (with_reducible refine (patrol_hazard.calls A0_1 c0_1 l0_1 a1 t _ ?s1 HC0_1.out HHZ.out).mono ?_); (case s1 => exact Kd.C_below HR0_1.out HB.out); rintro e w2 ⟨rfl, hb⟩; have n0_ := Aside0.mk (below_step HB.out hb); clear HB; have HB := n0_; clear n0_; have m_gP := Aside0.mk (blk_below BKgP.out hb); clear BKgP; (try clear hczgP_0 hczgP_1); (try clear hfzgP_0 hfzgP_1); have BKgP := m_gP; clear m_gP; have hczgP_0 : w2.cell? ⟨gP, 0, none⟩ = some (.slice A0_0 l0_0.length c0_0) := (blk_cell BKgP.out 0).trans rfl; have hczgP_1 : w2.cell? ⟨gP, 1, none⟩ = some (.slice A0_1 l0_1.length c0_1) := (blk_cell BKgP.out 1).trans rfl; have hfzgP_0 := blk_frozen BKgP.out 0; have hfzgP_1 := blk_frozen BKgP.out 1; have m_gR := Aside0.mk (blk_below BKgR.out hb); clear BKgR; (try clear hczgR_0 hczgR_1); (try clear hfzgR_0 hfzgR_1); have BKgR := m_gR; clear m_gR; have hczgR_0 : w2.cell? ⟨gR, 0, none⟩ = some (.slice none 0 0) := (blk_cell BKgR.out 0).trans rfl; have hczgR_1 : w2.cell? ⟨gR, 1, none⟩ = some (.slice none 0 0) := (blk_cell BKgR.out 1).trans rfl; have hfzgR_0 := blk_frozen BKgR.out 0; have hfzgR_1 := blk_frozen BKgR.out 1; clear hb))
  have hge := GEgR.out
  refine bodyPost_ret (results_ct rfl _ _ gR 48 #[.slice none 0 0, .slice none 0 0] (0, 0) _ rfl (blk_put (cs := #[.slice none 0 0, .slice none 0 0]) (blk_put (cs := #[.slice none 0 0, .slice none 0 0]) BKgR.out 0 _ rfl) 1 _ rfl) Try.underlying48 rfl (by kernel_rfl)) rfl ?_
  exact ⟨_, _, rfl, Kd.N_nil _ _ _ _ _, Kd.R_nil _ _ _ _ _, below_set (below_set HB.out hge) hge⟩
 ·rw [if_neg c4] at h
  obtain ⟨q, hcp, h⟩ := Option.bind_eq_some_iff.mp h
  obtain rfl := copied_eq hcp
  by_cases c5 : 0 ≤ t ∧ t < (l0_1.length : Int)
  case neg => (rw [if_neg c5] at h; exact absurd h (by simp))
  rw [if_pos c5] at h
  obtain ⟨rfl, rfl, rfl⟩ : l0_0 = r1 ∧ l0_1.eraseIdx t.toNat = r2 ∧ (0 : Int) = r3 := by simpa using h
  obtain ⟨ht0, ht1⟩ := c5
  have HCP := Aside0.mk hcp
  have HT0 := Aside0.mk ht0
  have HT1 := Aside0.mk ht1
  have HW : Aside0 (wrap64 (t + 1) = t + 1) := ⟨by have h1 := HMX.out; unfold wrap64; omega⟩
  have c4b0 : decide (t < 0) = false := decide_eq_false c4
  clear c4 h hcp ht0 ht1
  go_enter Try.func44, Try.ntmps44
  go_upto_region 5 with (first | ((with_reducible refine gate_dst (N := 2) rfl ?_); refine box_event ?hg (N := 2) ?hd (cs := #[.slice A0_0 l0_0.length c0_0, .slice A0_1 l0_1.length c0_1]) (t := 48) ?hr ?_; (case hd => rfl); (case hg => rfl); (case hr => first | (go_simp; done) | (go_simp; rfl)); intro gP hg w_gP hbox hb; have n0_ := Aside0.mk (below_step bel_ hb); have n1_ := Aside0.mk (hbox); have n2_ := Aside0.mk ((by rw [hg]; exact (below_size bel_) : w.heap.size ≤ gP)); clear HB; have HB := n0_; have BKgP := n1_; have GEgP := n2_; clear n0_ n1_ n2_; clear hb hbox hg; have hczgP_0 : w_gP.cell? ⟨gP, 0, none⟩ = some (.slice A0_0 l0_0.length c0_0) := (blk_cell BKgP.out 0).trans rfl; have hczgP_1 : w_gP.cell? ⟨gP, 1, none⟩ = some (.slice A0_1 l0_1.length c0_1) := (blk_cell BKgP.out 1).trans rfl; have hfzgP_0 := blk_frozen BKgP.out 0; have hfzgP_1 := blk_frozen BKgP.out 1) | ((with_reducible refine gate_dst (N := 4) rfl ?_); refine box_event ?hg (N := 4) ?hd (cs := #[.slice none 0 0, .slice none 0 0]) (t := 48) ?hr ?_; (case hd => rfl); (case hg => rfl); (case hr => first | (go_simp; done) | (go_simp; rfl)); intro gR hg w_gR hbox hb; have n0_ := Aside0.mk (below_step bel_ hb); have n1_ := Aside0.mk (hbox); have n2_ := Aside0.mk ((by rw [hg]; exact (below_size bel_) : w.heap.size ≤ gR)); clear HB; have HB := n0_; have BKgR := n1_; have GEgR := n2_; clear n0_ n1_ n2_; have m_gP := Aside0.mk (blk_below BKgP.out hb); clear BKgP; (try clear hczgP_0 hczgP_1); (try clear hfzgP_0 hfzgP_1); have BKgP := m_gP; clear m_gP; have hczgP_0 : w_gR.cell? ⟨gP, 0, none⟩ = some (.slice A0_0 l0_0.length c0_0) := (blk_cell BKgP.out 0).trans rfl; have hczgP_1 : w_gR.cell? ⟨gP, 1, none⟩ = some (.slice A0_1 l0_1.length c0_1) := (blk_cell BKgP.out 1).trans rfl; have hfzgP_0 := blk_frozen BKgP.out 0; have hfzgP_1 := blk_frozen BKgP.out 1; clear hb hbox hg; have hczgR_0 : w_gR.cell? ⟨gR, 0, none⟩ = some (.slice none 0 0) := (blk_cell BKgR.out 0).trans rfl; have hczgR_1 : w_gR.cell? ⟨gR, 1, none⟩ = some (.slice none 0 0) := (blk_cell BKgR.out 1).trans rfl; have hfzgR_0 := blk_frozen BKgR.out 0; have hfzgR_1 := blk_frozen BKgR.out 1) | (go_at_call 66; (with_reducible refine (patrol_hazard.calls A0_1 c0_1 l0_1 a1 t _ ?s1 HC0_1.out HHZ.out).mono ?_); (case s1 => exact Kd.C_below HR0_1.out HB.out); rintro e w2 ⟨rfl, hb⟩; have n0_ := Aside0.mk (below_step HB.out hb); clear HB; have HB := n0_; clear n0_; have m_gP := Aside0.mk (blk_below BKgP.out hb); clear BKgP; (try clear hczgP_0 hczgP_1); (try clear hfzgP_0 hfzgP_1); have BKgP := m_gP; clear m_gP; have hczgP_0 : w2.cell? ⟨gP, 0, none⟩ = some (.slice A0_0 l0_0.length c0_0) := (blk_cell BKgP.out 0).trans rfl; have hczgP_1 : w2.cell? ⟨gP, 1, none⟩ = some (.slice A0_1 l0_1.length c0_1) := (blk_cell BKgP.out 1).trans rfl; have hfzgP_0 := blk_frozen BKgP.out 0; have hfzgP_1 := blk_frozen BKgP.out 1; have m_gR := Aside0.mk (blk_below BKgR.out hb); clear BKgR; (try clear hczgR_0 hczgR_1); (try clear hfzgR_0 hfzgR_1); have BKgR := m_gR; clear m_gR; have hczgR_0 : w2.cell? ⟨gR, 0, none⟩ = some (.slice none 0 0) := (blk_cell BKgR.out 0).trans rfl; have hczgR_1 : w2.cell? ⟨gR, 1, none⟩ = some (.slice none 0 0) := (blk_cell BKgR.out 1).trans rfl; have hfzgR_0 := blk_frozen BKgR.out 0; have hfzgR_1 := blk_frozen BKgR.out 1; clear hb) | (go_at_call 69; (with_reducible refine (patrol_copied.calls A0_0 c0_0 l0_0 A0_1 c0_1 l0_1 l0_0 l0_1 _ ?s1 HC0_0.out ?s2 HC0_1.out HCP.out).mono ?_); (case s1 => exact Kd.C_below HR0_0.out HB.out); (case s2 => exact Kd.C_below HR0_1.out HB.out); rintro e w3 ⟨v1, v2, rfl, ho1, ho2, hb⟩; have HN := Aside0.mk (Kd.N_mono (ok' := fun k => (w.heap.size ≤ k ∧ some k ≠ v2.ownBlock) ∧ k ≠ gR) (Kd.N_lower ho1 (below_size HB.out)) (fun k hk => ⟨⟨Nat.le_trans (below_size HB.out) hk.1, hk.2⟩, by have := blk_lt BKgR.out; have := hk.1; omega⟩)); have HV2 := Aside0.mk (Kd.R_mono (ok' := fun k => w.heap.size ≤ k ∧ k ≠ gR) (Kd.R_lower ho2 (below_size HB.out)) (fun k hk => ⟨Nat.le_trans (below_size HB.out) hk, by have := blk_lt BKgR.out; omega⟩)); clear ho1 ho2; have n0_ := Aside0.mk (below_step HB.out hb); clear HB; have HB := n0_; clear n0_; have m_gP := Aside0.mk (blk_below BKgP.out hb); clear BKgP; (try clear hczgP_0 hczgP_1); (try clear hfzgP_0 hfzgP_1); have BKgP := m_gP; clear m_gP; have hczgP_0 : w3.cell? ⟨gP, 0, none⟩ = some (.slice A0_0 l0_0.length c0_0) := (blk_cell BKgP.out 0).trans rfl; have hczgP_1 : w3.cell? ⟨gP, 1, none⟩ = some (.slice A0_1 l0_1.length c0_1) := (blk_cell BKgP.out 1).trans rfl; have hfzgP_0 := blk_frozen BKgP.out 0; have hfzgP_1 := blk_frozen BKgP.out 1; have m_gR := Aside0.mk (blk_below BKgR.out hb); clear BKgR; (try clear hczgR_0 hczgR_1); (try clear hfzgR_0 hfzgR_1); have BKgR := m_gR; clear m_gR; have hczgR_0 : w3.cell? ⟨gR, 0, none⟩ = some (.slice none 0 0) := (blk_cell BKgR.out 0).trans rfl; have hczgR_1 : w3.cell? ⟨gR, 1, none⟩ = some (.slice none 0 0) := (blk_cell BKgR.out 1).trans rfl; have hfzgR_0 := blk_frozen BKgR.out 0; have hfzgR_1 := blk_frozen BKgR.out 1; clear hb; obtain ⟨B1, d1, e1⟩ := Kd.N_slice HN.out; subst e1; obtain ⟨B2, d2, e2⟩ := Kd.R_slice HV2.out; subst e2) | ((with_reducible refine gate_dst (N := 7) rfl ?_); refine box_event ?hg (N := 7) ?hd (cs := #[.slice none 0 0, .slice none 0 0]) (t := 48) ?hr ?_; (case hd => rfl); (case hg => rfl); (case hr => first | (go_simp; done) | (go_simp; rfl)); intro gO hg w_gO hbox hb; have HO := Aside0.mk hbox; have GO := Aside0.mk ((by rw [hg]; exact below_size HB.out) : w.heap.size ≤ gO); have NO := Aside0.mk ((by have := blk_lt BKgR.out; omega) : gR ≠ gO); have HN2 := Aside0.mk (Kd.N_below (Kd.N_bound HN.out) hb); have HV22 := Aside0.mk (Kd.R_below (Kd.R_bound HV2.out) hb); have HLO := Aside0.mk (Nat.le_of_eq hg.symm); clear HN HV2; have ho0 : w_gO.cell? ⟨gO, 0, none⟩ = some (.slice none 0 0) := (blk_cell HO.out 0).trans rfl; have ho1 : w_gO.cell? ⟨gO, 1, none⟩ = some (.slice none 0 0) := (blk_cell HO.out 1).trans rfl; have hof0 := blk_frozen HO.out 0; have hof1 := blk_frozen HO.out 1; clear hbox hg; have n0_ := Aside0.mk (below_step HB.out hb); clear HB; have HB := n0_; clear n0_; have m_gP := Aside0.mk (blk_below BKgP.out hb); clear BKgP; (try clear hczgP_0 hczgP_1); (try clear hfzgP_0 hfzgP_1); have BKgP := m_gP; clear m_gP; have hczgP_0 : w_gO.cell? ⟨gP, 0, none⟩ = some (.slice A0_0 l0_0.length c0_0) := (blk_cell BKgP.out 0).trans rfl; have hczgP_1 : w_gO.cell? ⟨gP, 1, none⟩ = some (.slice A0_1 l0_1.length c0_1) := (blk_cell BKgP.out 1).trans rfl; have hfzgP_0 := blk_frozen BKgP.out 0; have hfzgP_1 := blk_frozen BKgP.out 1; have m_gR := Aside0.mk (blk_below BKgR.out hb); clear BKgR; (try clear hczgR_0 hczgR_1); (try clear hfzgR_0 hfzgR_1); have BKgR := m_gR; clear m_gR; have hczgR_0 : w_gO.cell? ⟨gR, 0, none⟩ = some (.slice none 0 0) := (blk_cell BKgR.out 0).trans rfl; have hczgR_1 : w_gO.cell? ⟨gR, 1, none⟩ = some (.slice none 0 0) := (blk_cell BKgR.out 1).trans rfl; have hfzgR_0 := blk_frozen BKgR.out 0; have hfzgR_1 := blk_frozen BKgR.out 1; clear hb))
  have hge := GO.out
  have hlo := HLO.out
  have hgr := GEgR.out
  have ho := blk_put (cs' := #[.slice B1 l0_0.length d1, .slice B2 l0_1.length d2]) (blk_put (cs' := #[.slice B1 l0_0.length d1, .slice none 0 0]) HO.out 0 (.slice B1 l0_0.length d1) rfl) 1 (.slice B2 l0_1.length d2) rfl
  have hr : ((w_gO.setCell ⟨gO, 0, none⟩ (.slice B1 l0_0.length d1)).setCell ⟨gO, 1, none⟩ (.slice B2 l0_1.length d2)).heap[gR]? = some (.cells #[.slice none 0 0, .slice none 0 0] 48 (0, 0)) := (Below.heap_setCell _ _ _ gR NO.out).trans ((Below.heap_setCell _ _ _ gR NO.out).trans BKgR.out)
  have hb := below_set (j := 1) (v := .slice B2 l0_1.length d2) (below_set (j := 0) (v := .slice B1 l0_0.length d1) HB.out hge) hge
  have hn := Kd.N_far (p := ⟨gO, 1, none⟩) (Kd.N_far (p := ⟨gO, 0, none⟩) HN2.out (fun k hk => by have := hk.2; show k ≠ gO; omega) (.slice B1 l0_0.length d1)) (fun k hk => by have := hk.2; show k ≠ gO; omega) (.slice B2 l0_1.length d2)
  have hv := Kd.R_far (p := ⟨gO, 1, none⟩) (Kd.R_far (p := ⟨gO, 0, none⟩) HV22.out (fun k hk => by have := hk.2; show k ≠ gO; omega) (.slice B1 l0_0.length d1)) (fun k hk => by have := hk.2; show k ≠ gO; omega) (.slice B2 l0_1.length d2)
  clear ho0 ho1 hof0 hof1 BKgP BKgR HB HN2 HV22 HO hczgP_0 hczgP_1 hfzgP_0 hfzgP_1 hczgR_0 hczgR_1 hfzgR_0 hfzgR_1
  generalize (w_gO.setCell ⟨gO, 0, none⟩ (.slice B1 l0_0.length d1)).setCell ⟨gO, 1, none⟩ (.slice B2 l0_1.length d2) = W5 at ho hr hb hn hv ⊢
  obtain ⟨g, rfl, hgo, hgr2, hgb, hgl⟩ : ∃ g, B2 = some ⟨g, 0, none⟩ ∧ gO ≠ g ∧ gR ≠ g ∧ w.heap.size ≤ g ∧ g < W5.heap.size := by
   have h1 := HT0.out
   have h2 := HT1.out
   obtain ⟨h0, inner, hoo, _⟩ := hv
   rcases hoo.2 with ⟨hv0, _⟩ | ⟨g, cap, cur, hv0, hb0, hh, _⟩
   ·injection hv0 with _ e _; omega
   ·injection hv0 with e _ _
    refine ⟨g, e, ?_, ?_, hb0, blk_lt hh⟩
    ·rintro rfl; rw [ho] at hh; cases hh
    ·rintro rfl; rw [hr] at hh; cases hh
  have HB := Aside0.mk hb
  have HN := Aside0.mk hn
  have HV := Aside0.mk hv
  have HO := Aside0.mk ho
  have HR := Aside0.mk hr
  have NG := Aside0.mk (And.intro hgo (And.intro hgr2 (And.intro hgb hgl)))
  clear hb hn hv ho hr hge hlo hgr hgo hgr2 hgb hgl
  have hc0 : W5.cell? ⟨gO, 0, none⟩ = some (.slice B1 l0_0.length d1) := (blk_cell HO.out 0).trans rfl
  have hc1 : W5.cell? ⟨gO, 1, none⟩ = some (.slice (some ⟨g, 0, none⟩) l0_1.length d2) := (blk_cell HO.out 1).trans rfl
  go_wp2_with (go_at_call 71; rw [HW.out]; (with_reducible refine (delete56.calls g d2 t l0_1 w.heap.size _ _ HV.out HT0.out HT1.out HB.out.size).mono ?_); rintro e w6 ⟨rfl, hr, hb, hfar, hsz⟩; have HV6 := Aside0.mk hr; have HB6 := Aside0.mk (HB.out.trans hb); have HN6 := Aside0.mk (Kd.N_step HN.out (fun k hk hlt => hfar k (fun he => hk.1.1.2 (by rw [he]; simp [Value.ownBlock])) hlt)); have HO6 := Aside0.mk ((hfar gO NG.out.1 (blk_lt HO.out)).trans HO.out); have HR6 := Aside0.mk ((hfar gR NG.out.2.1 (blk_lt HR.out)).trans HR.out); have hd0 : w6.cell? ⟨gO, 0, none⟩ = some (.slice B1 l0_0.length d1) := (blk_cell HO6.out 0).trans rfl; have hd1 : w6.cell? ⟨gO, 1, none⟩ = some (.slice (some ⟨g, 0, none⟩) l0_1.length d2) := (blk_cell HO6.out 1).trans rfl; have hf0 := blk_frozen HO6.out 0; have hf1 := blk_frozen HO6.out 1; have he0 : w6.cell? ⟨gR, 0, none⟩ = some (.slice none 0 0) := (blk_cell HR6.out 0).trans rfl; have he1 : w6.cell? ⟨gR, 1, none⟩ = some (.slice none 0 0) := (blk_cell HR6.out 1).trans rfl; have hq0 := blk_frozen HR6.out 0; have hq1 := blk_frozen HR6.out 1; have hno := NO.out; have hno2 := Ne.symm NO.out; clear hr hb hfar hsz)
  have hge := GO.out
  have hgr := GEgR.out
  refine bodyPost_ret (results_ct rfl _ _ gR 48 #[.slice B1 l0_0.length d1, .slice (some ⟨g, 0, none⟩) (l0_1.length - 1) d2] (0, 0) _ rfl (blk_put (cs := #[.slice B1 l0_0.length d1, .slice none 0 0]) (blk_put (cs := #[.slice none 0 0, .slice none 0 0]) ((Below.heap_setCell _ _ _ gR NO.out).trans HR6.out) 0 _ rfl) 1 _ rfl) Try.underlying48 rfl (by kernel_rfl)) rfl ?_
  refine ⟨_, _, rfl, Kd.N_mono (Kd.N_far (p := ⟨gR, 1, none⟩) (Kd.N_far (p := ⟨gR, 0, none⟩) (Kd.N_far (p := ⟨gO, 1, none⟩) HN6.out (fun k hk => by have := hk.2; have := HLO.out; show k ≠ gO; omega) _) (fun k hk => hk.1.2) _) (fun k hk => hk.1.2) _) (fun k hk => ⟨hk.1.1.1, by have := hk.1.1.2; simpa [Value.ownBlock] using this⟩), Kd.R_mono (Kd.R_far (p := ⟨gR, 1, none⟩) (Kd.R_far (p := ⟨gR, 0, none⟩) (Kd.R_far (p := ⟨gO, 1, none⟩) HV6.out (fun k hk => by have := hk.2; have := HLO.out; show k ≠ gO; omega) _) (fun k hk => hk.1.2) _) (fun k hk => hk.1.2) _) (fun k hk => hk.1.1), below_set (below_set (below_set HB6.out hge) hgr) hgr⟩



end Go.Proofs.Ytmhggplhfcmgkaa.Q
