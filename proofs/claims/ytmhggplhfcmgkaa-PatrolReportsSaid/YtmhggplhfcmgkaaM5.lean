/- Walks and plain laws that this claim bears (this session's). -/
import Derived.Test.YtmhggplhfcmgkaaM0
namespace Go.Proofs.Ytmhggplhfcmgkaa.Q
open Go.RowKit Go.Proofs.YtmhggplhfcmgkaaW.PrintWords Go.Proofs.YtmhggplhfcmgkaaW.PrintLast Go.Proofs.YtmhggplhfcmgkaaW.PrintMore
attribute [local go_sem] max2_int min2_int max_two min_two max_three min_three max_four min_four   -- for this text's walks alone
set_option linter.unusedVariables false
set_option linter.unusedSimpArgs false
/-- What is laid out while the lists are being copied: the parameter's and the result's blocks. -/
structure St69 (w : World) (gP gR : Nat) (oP oR : Obj) (W : World) : Prop where
 b : Below w.heap.size w W
 p : W.heap[gP]? = some oP
 r : W.heap[gR]? = some oR
theorem St69.step {w W W1 : World} {gP gR : Nat} {oP oR : Obj} (h : St69 w gP gR oP oR W) (hb : Below W.heap.size W W1) : St69 w gP gR oP oR W1 := ⟨below_step h.b hb, blk_below h.p hb, blk_below h.r hb⟩
/-- The lists' row when i of them have memory of their own: theirs is from G on. -/
def Mid69 (w : World) (G i : Nat) (xs : List S63) (v : Value) (W : World) : Prop :=
 ∃ rows : List (List Value), rows.length = xs.length ∧ (Kd.raw 4).R 63 W w.heap.size (fun _ => True) v rows ∧
  ∀ (j : Nat) (x : S63) (c : List Value), xs[j]? = some x → rows[j]? = some c → Kd.FK k63 W (fun k => if j < i then G ≤ k else k < w.heap.size) x c
theorem Mid69.below {w W W1 : World} {G i : Nat} {xs : List S63} {v : Value} (h : Mid69 w G i xs v W) (hb : Below W.heap.size W W1) : Mid69 w G i xs v W1 := by
 obtain ⟨rows, hl, hR, hf⟩ := h
 exact ⟨rows, hl, Kd.R_below hR hb, fun j x c hx hc => Kd.FK_below (hf j x c hx hc) hb⟩
/-- The rows of cells that a row of lists has. -/
theorem rows63 {w : World} {A : Option Addr} {xs : List S63} (h : Kd.C k63 w A xs.length xs) : ∃ rows : List (List Value), rows.length = xs.length ∧ Kd.C (Kd.raw 4) w A rows.length rows ∧
  ∀ (j : Nat) (x : S63) (c : List Value), xs[j]? = some x → rows[j]? = some c → Kd.FK k63 w (fun k => k < w.heap.size) x c := by
 have hF := Kd.C_F (Kd.heap_iso _ (Kd.heap_pair (Kd.heap_int .i64) (Kd.heap_iso _ (Kd.heap_pair (Kd.heap_slice 3 (Kd.heap_int .i64)) (Kd.heap_pair (Kd.heap_int .i64) (Kd.heap_slice 35 (Kd.heap_iso _ (Kd.heap_pair (Kd.heap_int .i64) (Kd.heap_pair (Kd.heap_int .i64) (Kd.heap_int .i64)))))))))) h
 obtain ⟨rows, hl, hr, hf⟩ := Kd.reads_raw (Kd.F_rows hF) (fun x c hx => ⟨k63.K_len (Kd.FK_now hx), k63.K_one (Kd.FK_now hx)⟩)
 exact ⟨rows, hl, by rw [hl]; exact hr, hf⟩
theorem Mid69.put {w W : World} {G g : Nat} {i n cap : Nat} {xs : List S63} (h : Mid69 w G i xs (.slice (some ⟨g, 0, none⟩) n cap) W) (hi : i < xs.length) (hg : g < G) (hgb : w.heap.size ≤ g) {x : S63} (hx : xs[i]? = some x)
  {b1 b3 : Nat} {A1 A3 : Option Addr} {c1 c3 : Nat} (h1 : (Kd.int .i64).R 3 W b1 (fun k => G ≤ k) (.slice A1 x.f1.f0.length c1) x.f1.f0) (h3 : k35.R 35 W b3 (fun k => G ≤ k) (.slice A3 x.f1.f2.length c3) x.f1.f2) :
  Mid69 w G (i + 1) xs (.slice (some ⟨g, 0, none⟩) n cap) ((W.setCell ⟨g, i * 4 + 1, none⟩ (.slice A1 x.f1.f0.length c1)).setCell ⟨g, i * 4 + 3, none⟩ (.slice A3 x.f1.f2.length c3)) := by
 obtain ⟨rows, hl, hR, hf⟩ := h
 have hn : n = rows.length := (Kd.R_reads' hR).1
 obtain ⟨c, hcl, hM, hcc, _⟩ := Kd.R_elem hR [] (i : Int) (by omega) (by omega)
 have hrow : rows[i]? = some c := by
  have := hM.1
  rw [show ((i : Int)).toNat = i by omega, List.getD_eq_getElem?_getD, List.getElem?_eq_getElem (by omega)] at this
  rw [List.getElem?_eq_getElem (by omega), this]; rfl
 obtain ⟨B1, d1, B3, d3, ec, _⟩ := k63_open (Kd.FK_now (hf i x c hx hrow))
 have ho1 := Kd.R_val h1
 have ho3 := Kd.R_val h3
 obtain ⟨hR1, hg1⟩ := Kd.R_seg (d := Kd.raw 4) hR (i : Int) (by omega) (by omega) (c := c) (seg := [.slice A1 x.f1.f0.length c1]) (j := 1) (x' := [.int .i64 x.f0, .slice A1 x.f1.f0.length c1, .int .i64 x.f1.f1, .slice B3 x.f1.f2.length d3]) (okp := fun _ => False) hcl hcc (by show 1 + 1 ≤ 4; omega) (by rw [ec]; exact ⟨rfl, rfl, by simp [ho1.2, Value.oneCell']⟩) (fun _ hk => hk.elim)
 obtain ⟨c', hcl', hM', hcc', _⟩ := Kd.R_elem hR1 [] (i : Int) (by omega) (by omega)
 have ec' : c' = [.int .i64 x.f0, .slice A1 x.f1.f0.length c1, .int .i64 x.f1.f1, .slice B3 x.f1.f2.length d3] := by
  have := hM'.1
  rw [show ((i : Int)).toNat = i by omega, List.getD_eq_getElem?_getD, List.getElem?_set_self (by omega)] at this
  exact this
 obtain ⟨hR2, hg2⟩ := Kd.R_seg (d := Kd.raw 4) hR1 (i : Int) (by omega) (by omega) (c := c') (seg := [.slice A3 x.f1.f2.length c3]) (j := 3) (x' := [.int .i64 x.f0, .slice A1 x.f1.f0.length c1, .int .i64 x.f1.f1, .slice A3 x.f1.f2.length c3]) (okp := fun _ => False) hcl' hcc' (by show 3 + 1 ≤ 4; omega) (by rw [ec']; exact ⟨rfl, rfl, by simp [ho1.2, ho3.2, Value.oneCell']⟩) (fun _ hk => hk.elim)
 rw [show ((i : Int)).toNat = i by omega, List.set_set] at hR2
 rw [show ((i : Int)).toNat = i by omega] at hg1 hg2
 have far : ∀ k, k ≠ g → ((W.setCell ⟨g, i * 4 + 1, none⟩ (.slice A1 x.f1.f0.length c1)).setCell ⟨g, i * 4 + 3, none⟩ (.slice A3 x.f1.f2.length c3)).heap[k]? = W.heap[k]? := fun k hk =>
  (Below.heap_setCell _ _ _ k hk).trans (Below.heap_setCell _ _ _ k hk)
 refine ⟨rows.set i [.int .i64 x.f0, .slice A1 x.f1.f0.length c1, .int .i64 x.f1.f1, .slice A3 x.f1.f2.length c3], by rw [List.length_set]; exact hl, hR2, fun j y c0 hy hc0 => ?_⟩
 by_cases hji : j = i
 ·subst hji
  rw [List.getElem?_set_self (by omega)] at hc0
  rw [hx] at hy
  cases hy
  cases hc0
  refine Kd.FK_mono (ok := fun k => G ≤ k) ?_ (fun k hk => by rw [if_pos (by omega)]; exact hk)
  refine k63_mkF _ _ x (Kd.R_reads' h1).2.1 ?_ (Kd.R_reads' h3).2.1 ?_
  ·exact Kd.F_step (Kd.R_F h1) (fun k hk _ => far k (by omega))
  ·exact Kd.F_step (Kd.R_F h3) (fun k hk _ => far k (by omega))
 ·rw [List.getElem?_set_ne (Ne.symm hji)] at hc0
  have := hf j y c0 hy hc0
  by_cases hlt : j < i
  ·refine Kd.FK_mono (ok := fun k => G ≤ k) (Kd.FK_step (Kd.FK_mono this (fun k hk => by rw [if_pos hlt] at hk; exact hk)) (fun k hk _ => far k (by omega))) (fun k hk => by rw [if_pos (by omega)]; exact hk)
  ·refine Kd.FK_mono (ok := fun k => k < w.heap.size) (Kd.FK_step (Kd.FK_mono this (fun k hk => by rw [if_neg hlt] at hk; exact hk)) (fun k hk _ => far k (by omega))) (fun k hk => by rw [if_neg (by omega)]; exact hk)
/-- All have. -/
theorem Mid69.all {w W : World} {G : Nat} {xs : List S63} {v : Value} (h : Mid69 w G xs.length xs v W) (hv : ∀ k, v.ownBlock = some k → k < G) {ok : Nat → Prop} (hok : ∀ k, G ≤ k → ok k) (hok2 : ∀ k, v.ownBlock = some k → ok k) : Kd.N k63 63 W w.heap.size ok v xs := by
 obtain ⟨rows, hl, hR, hf⟩ := h
 refine ⟨hok2, rows, hl, Kd.raw_tight hR, fun j x c hx hc => ?_⟩
 have := hf j x c hx hc
 exact Kd.FK_mono this (fun k hk => by rw [if_pos (List.getElem?_eq_some_iff.1 hx).1] at hk; exact ⟨hok k hk, fun he => by have := hv k he.symm; omega⟩)
theorem Mid69.reads {w W : World} {G i : Nat} {xs : List S63} {A : Option Addr} {n c : Nat} (h : Mid69 w G i xs (.slice A n c) W) (hv : ∀ k, (Value.slice A n c).ownBlock = some k → k < G) : Kd.C k63 W A xs.length xs := by
 obtain ⟨rows, hl, hR, hf⟩ := h
 have hN : Kd.N k63 63 W w.heap.size (fun _ => True) (.slice A n c) xs := ⟨fun _ _ => trivial, rows, hl, Kd.raw_tight hR, fun j x c0 hx hc => by
  refine Kd.FK_mono (hf j x c0 hx hc) (fun k hk => ⟨trivial, fun he => ?_⟩)
  have h1 := hv k he.symm
  have h2 := Kd.R_base hR k he.symm
  by_cases hj : j < i
  ·rw [if_pos hj] at hk; omega
  ·rw [if_neg hj] at hk; omega⟩
 exact (Kd.N_reads' hN).2.2
theorem Mid69.two {w W : World} {G i g n cap : Nat} {xs : List S63} (h : Mid69 w G i xs (.slice (some ⟨g, 0, none⟩) n cap) W) {x : Int} (h0 : 0 ≤ x) (h1 : x < xs.length) :
  (∃ u, W.cell? ⟨g, x.toNat * 4 + 1, none⟩ = some u) ∧ (∃ u, W.cell? ⟨g, x.toNat * 4 + 3, none⟩ = some u) ∧ ∀ j, W.frozen? ⟨g, x.toNat * 4 + j, none⟩ = false := by
 obtain ⟨rows, hl, hR, hf⟩ := h
 have hn : n = rows.length := (Kd.R_reads' hR).1
 obtain ⟨c, hcl, _, hcc, hfr⟩ := Kd.R_elem hR [] x h0 (by omega)
 have hcl4 : c.length = 4 := hcl
 exact ⟨⟨c[1]'(by omega), hcc 1 _ (List.getElem?_eq_getElem _)⟩, ⟨c[3]'(by omega), hcc 3 _ (List.getElem?_eq_getElem _)⟩, hfr⟩
theorem Mid69.typed {w W : World} {G i g n cap : Nat} {xs : List S63} (h : Mid69 w G i xs (.slice (some ⟨g, 0, none⟩) n cap) W) : ∃ cells, W.heap[g]? = some (.cells cells 63 (0, 0)) := by
 obtain ⟨rows, hl, hR, hf⟩ := h
 obtain ⟨_, inner, hoo, _⟩ := hR
 rcases hoo.2 with ⟨hv, _⟩ | ⟨g', cap', cur, hv, hb, hh, _⟩
 ·cases hv
 ·injection hv with e _ _
  cases e
  exact ⟨cur, hh⟩
theorem R_typed69 {α : Type} {d : Kd α} {e base : Nat} {W : World} {ok : Nat → Prop} {v : Value} {xs : List α} (h : d.R e W base ok v xs) : ∀ k, v.ownBlock = some k → ∃ cells, W.heap[k]? = some (.cells cells e (0, 0)) := by
 intro k hk
 obtain ⟨_, inner, hoo, _⟩ := h
 rcases hoo.2 with ⟨hv, _⟩ | ⟨g, cap, cur, hv, hb, hh, _⟩
 ·rw [hv] at hk; simp [Value.ownBlock] at hk
 ·rw [hv] at hk
  have : g = k := by simpa [Value.ownBlock] using hk
  subst this
  exact ⟨cur, hh⟩

def clone81.f (l0 : List (List Value)) : Option (List (List Value)) := if l0.length < 2199023255552 then some l0 else none
set_option maxRecDepth 100000 in
set_option maxHeartbeats 800000 in
theorem clone81.calls (A0 : Option Addr) (c0 : Nat) (l0 : List (List Value)) (r : List (List Value)) (w : World) (hr0 : Kd.C (Kd.raw 4) w A0 l0.length l0) (hc0 : l0.length ≤ c0) (h : clone81.f l0 = some r) :
  Calls Try.prog 81 #[.slice A0 l0.length c0] w fun e w' => ∃ v0_ : Value, e = .returned (v0_) ∧ Kd.R (Kd.raw 4) 63 w' w.heap.size (fun _ => True) v0_ r ∧ Below w.heap.size w w' := by
 unfold clone81.f at h
 by_cases hl : l0.length < 2199023255552
 ·rw [if_pos hl] at h
  obtain rfl := Option.some.inj h
  have heq := fun (W : World) => Lib.run_eql_slice_nil (P := Try.prog) W 45 63 A0 l0.length c0 0 0 Try.underlying45
  have HR := a_ hr0
  have HC := a_ hc0
  have HL := a_ hl
  have HB := a_ (Below.refl w.heap.size w)
  clear h hl
  rcases A0 with _ | ad
  ·have e0 : l0 = [] := by
    rcases Nat.eq_zero_or_pos l0.length with h0 | h0
    ·exact List.eq_nil_of_length_eq_zero h0
    ·obtain ⟨ad, e, _⟩ := hr0.2.2 h0; cases e
   have E0 := a_ e0
   clear e0 hr0 hc0
   go_enter Try.func81, Try.ntmps81
   go_wp2
   go_ret
   exact ⟨_, rfl, by rw [E0.out]; exact Kd.R_nil _ _ _ _ _, Below.refl _ _⟩
  ·clear hr0 hc0
   go_enter Try.func81, Try.ntmps81
   go_wp2_with (first | ((with_reducible refine gate_dst (N := 5) rfl ?_); refine Kd.R_lit (Kd.raw 4) (w0 := w) w.heap.size 63 rfl (N := 5) rfl (xs := []) (inner := []) (ok := fun _ => True) (okp := fun _ => True) ?hr (Reps.none _ _) (fun _ hk => hk) trivial HB.out (below_size HB.out) (by simp) ?_; (case hr => first | (go_simp; done) | (go_simp; rfl)); intro v5 w5 ho hb hg hat; have HO := a_ ho; have HB2 := a_ hb; clear HB ho hb hg hat; have HB := HB2; clear HB2) | ((with_reducible refine gate_builtin (b := .append) (xs := #[.tmp 5, .tmp 6]) rfl ?_); at_builtin; refine Kd.R_append_rows (Kd.raw 4) (w0 := w) w.heap.size rfl (.tmp 5) (.tmp 6) 45 63 (.agg #[(.int .i64 0), (.slice none 0 0), (.int .i64 0), (.slice none 0 0)]) 64 rfl Try.underlying45 info63 rfl (by decide) (by omega) v5 [] l0 _ _ _ (fun _ => True) (fun _ => False) rfl rfl ?aO ?aR (fun _ _ h => h) (fun _ h => h.elim) ?aF ?aB ?aS ?aL ?_; (case aR => exact Kd.C_below HR.out HB.out); (case aB => exact HB.out); (case aF => exact (fun _ _ => trivial)); (case aO => exact HO.out); (case aS => exact (below_size HB.out)); (case aL => have := HL.out; simp; omega); intro v7 w7 ho hb hg hat; have HO7 := a_ ho; have HB2 := a_ hb; clear HB HO ho hb hg hat; have HB := HB2; clear HB2))
   go_ret
   exact ⟨_, rfl, HO7.out, HB.out⟩
 ·rw [if_neg hl] at h; exact absurd h (by simp)
def patrol_copied.f (l0_0 : List S63) (l0_1 : List S56) : Option (List S63 × List S56) := if l0_0.length < 2199023255552 ∧ l0_1.length < 5864062014805 ∧ (∀ x ∈ l0_0, x.f1.f0.length < 17592186044416 ∧ x.f1.f2.length < 5864062014805) then some (l0_0, l0_1) else none
theorem frozen_set69 (W : World) (p a : Addr) (v : Value) : (W.setCell p v).frozen? a = W.frozen? a := by go_simp
def patrol_copied.T1 : Bool × List (List Nat × List Nat) := (true, [([], []), ([0], [0]), ([1], [1]), ([], []), ([3], [3]), ([4, 2], [4]), ([2, 5], [2, 5]), ([], []), ([7, 6, 5, 0, 1, 2, 3, 4, 5, 6, 7], [6, 7])])
def patrol_copied.B1 : List Nat := [0, 1, 3, 0, 8, 31, 63, 0, 255]
theorem patrol_copied.tab1 : rtab .any (opsOf Try.f69 1) = patrol_copied.T1 := by kernel_rfl
theorem patrol_copied.bits1 : waitsOk patrol_copied.T1.2 patrol_copied.B1 = true := by kernel_rfl
def patrol_copied.T5 : Bool × List (List Nat × List Nat) := (true, [([], []), ([0], [0]), ([], []), ([], []), ([3], [3]), ([], []), ([], []), ([6], [6]), ([7], [7]), ([8], [8]), ([], []), ([10], [10]), ([11], [11]), ([12, 9], [12]), ([1, 2, 0, 1, 2, 6, 7, 8, 9, 13], [1, 2]), ([14, 0, 1, 2, 6, 7, 8, 9, 13], [14]), ([15, 0, 1, 2, 6, 7, 8, 9, 13], [15]), ([16, 9, 13, 0, 1, 2, 6, 7, 8, 9, 13], [9, 16]), ([4, 5, 0, 1, 2, 3, 4, 5, 6, 7, 8, 9, 10, 11, 12, 13, 14, 15, 16, 17], [4, 5]), ([18, 0, 1, 2, 3, 4, 5, 6, 7, 8, 9, 10, 11, 12, 13, 14, 15, 16, 17], [18]), ([19, 0, 1, 2, 3, 4, 5, 6, 7, 8, 9, 10, 11, 12, 13, 14, 15, 16, 17], [19]), ([20, 13, 17, 0, 1, 2, 3, 4, 5, 6, 7, 8, 9, 10, 11, 12, 13, 14, 15, 16, 17], [13, 20])])
def patrol_copied.B5 : List Nat := [0, 1, 0, 0, 8, 0, 0, 64, 192, 448, 0, 1024, 3072, 8128, 16327, 32711, 65479, 131015, 262143, 524287, 1048575, 2097151]
theorem patrol_copied.tab5 : rtab .any (opsOf Try.f69 5) = patrol_copied.T5 := by kernel_rfl
theorem patrol_copied.bits5 : waitsOk patrol_copied.T5.2 patrol_copied.B5 = true := by kernel_rfl
set_option maxHeartbeats 8000000 in
set_option maxRecDepth 100000 in
theorem patrol_copied.calls (A0_0 : Option Addr) (c0_0 : Nat) (l0_0 : List (S63)) (A0_1 : Option Addr) (c0_1 : Nat) (l0_1 : List (S56)) (r1 : List (S63)) (r2 : List (S56)) (w : World) (hr0_0 : Kd.C k63 w A0_0 l0_0.length l0_0) (hc0_0 : l0_0.length ≤ c0_0) (hr0_1 : Kd.C k56 w A0_1 l0_1.length l0_1) (hc0_1 : l0_1.length ≤ c0_1) (h : patrol_copied.f l0_0 l0_1 = some (r1, r2)) :
  Calls Try.prog 69 #[.agg #[.slice A0_0 l0_0.length c0_0, .slice A0_1 l0_1.length c0_1]] w fun e w' => ∃ v0_ v1_ : Value, e = .returned (.agg #[v0_, v1_]) ∧ Kd.N k63 63 w' w.heap.size (fun k_ => (w.heap.size ≤ k_) ∧ some k_ ≠ (v1_ : Value).ownBlock) v0_ r1 ∧ Kd.R k56 56 w' w.heap.size (fun k_ => (w.heap.size ≤ k_)) v1_ r2 ∧ Below w.heap.size w w' := by
 have hu48 := Try.underlying48
 have hu25 := Try.underlying25
 have hu63 := Try.underlying63
 unfold patrol_copied.f at h
 by_cases hcnd : l0_0.length < 2199023255552 ∧ l0_1.length < 5864062014805 ∧ (∀ x ∈ l0_0, x.f1.f0.length < 17592186044416 ∧ x.f1.f2.length < 5864062014805)
 case neg => (rw [if_neg hcnd] at h; exact absurd h (by simp))
 rw [if_pos hcnd] at h
 obtain ⟨rfl, rfl⟩ : l0_0 = r1 ∧ l0_1 = r2 := by simpa using h
 clear h
 obtain ⟨rows, hrl, hrr, hrf⟩ := rows63 hr0_0
 have HRL := a_ hrl
 have HRR := a_ hrr
 have HRF := a_ hrf
 have HFIT := a_ hcnd.2.2
 have HR0 := a_ hr0_0
 have HMX := a_ (Kd.C_max hr0_0)
 have HB := a_ (Below.refl w.heap.size w)
 have hC81 : ∀ W, Below w.heap.size w W → Calls Try.prog 81 #[.slice A0_0 l0_0.length c0_0] W fun e w' => ∃ v0_ : Value, e = .returned (v0_) ∧ Kd.R (Kd.raw 4) 63 w' W.heap.size (fun _ => True) v0_ rows ∧ Below W.heap.size W w' := fun W hb => by
  rw [← hrl]
  exact clone81.calls A0_0 c0_0 rows rows W (Kd.C_below hrr hb) (by omega) (by rw [clone81.f, if_pos (by omega)])
 have hC82 : ∀ W, Below w.heap.size w W → Calls Try.prog 82 #[.slice A0_1 l0_1.length c0_1] W fun e w' => ∃ v0_ : Value, e = .returned (v0_) ∧ Kd.R k56 56 w' W.heap.size (fun _ => True) v0_ l0_1 ∧ Below W.heap.size W w' := fun W hb =>
  api_Hazard_82.calls A0_1 c0_1 l0_1 l0_1 W (Kd.C_below hr0_1 hb) hc0_1 (by rw [api_Hazard_82.f, if_pos hcnd.2.1])
 have HC81 := a_ hC81
 have HC82 := a_ hC82
 clear hC81 hC82 hrl hrr hrf hcnd hr0_0 hr0_1 hc0_0 hc0_1
 go_enter Try.func69, Try.ntmps69
 go_upto_region 1 with (first | ((with_reducible refine gate_dst (N := 1) rfl ?_); refine box_event ?hg (N := 1) ?hd (cs := #[.slice A0_0 l0_0.length c0_0, .slice A0_1 l0_1.length c0_1]) (t := 48) ?hr ?_; (case hd => rfl); (case hg => rfl); (case hr => first | (go_simp; done) | (go_simp; rfl)); intro gP hg w_gP hbox hb; have n0_ := a_ (below_step bel_ hb); have n1_ := a_ (hbox); have n2_ := a_ ((by rw [hg]; exact (below_size bel_) : w.heap.size ≤ gP)); clear HB; have HB := n0_; have BKgP := n1_; have GEgP := n2_; clear n0_ n1_ n2_; clear hb hbox hg; have hczgP_0 : w_gP.cell? ⟨gP, 0, none⟩ = some (.slice A0_0 l0_0.length c0_0) := (blk_cell BKgP.out 0).trans rfl; have hczgP_1 : w_gP.cell? ⟨gP, 1, none⟩ = some (.slice A0_1 l0_1.length c0_1) := (blk_cell BKgP.out 1).trans rfl; have hfzgP_0 := blk_frozen BKgP.out 0; have hfzgP_1 := blk_frozen BKgP.out 1) | ((with_reducible refine gate_dst (N := 2) rfl ?_); refine box_event ?hg (N := 2) ?hd (cs := #[.slice none 0 0, .slice none 0 0]) (t := 48) ?hr ?_; (case hd => rfl); (case hg => rfl); (case hr => first | (go_simp; done) | (go_simp; rfl)); intro gR hg w_gR hbox hb; have n0_ := a_ (below_step bel_ hb); have n1_ := a_ (hbox); have n2_ := a_ ((by rw [hg]; exact (below_size bel_) : w.heap.size ≤ gR)); clear HB; have HB := n0_; have BKgR := n1_; have GEgR := n2_; clear n0_ n1_ n2_; have m_gP := a_ (blk_below BKgP.out hb); clear BKgP; (try clear hczgP_0 hczgP_1); (try clear hfzgP_0 hfzgP_1); have BKgP := m_gP; clear m_gP; have hczgP_0 : w_gR.cell? ⟨gP, 0, none⟩ = some (.slice A0_0 l0_0.length c0_0) := (blk_cell BKgP.out 0).trans rfl; have hczgP_1 : w_gR.cell? ⟨gP, 1, none⟩ = some (.slice A0_1 l0_1.length c0_1) := (blk_cell BKgP.out 1).trans rfl; have hfzgP_0 := blk_frozen BKgP.out 0; have hfzgP_1 := blk_frozen BKgP.out 1; clear hb hbox hg; have hczgR_0 : w_gR.cell? ⟨gR, 0, none⟩ = some (.slice none 0 0) := (blk_cell BKgR.out 0).trans rfl; have hczgR_1 : w_gR.cell? ⟨gR, 1, none⟩ = some (.slice none 0 0) := (blk_cell BKgR.out 1).trans rfl; have hfzgR_0 := blk_frozen BKgR.out 0; have hfzgR_1 := blk_frozen BKgR.out 1))
 have ST := a_ (St69.mk (below_drew1 HB.out) (blk_drew BKgP.out) (blk_drew BKgR.out))
 have NPR := a_ GEgR.out
 clear HB BKgP BKgR
 refine start_ (n := 9) (S := fun w' => w'.cell? ⟨gP, 0, none⟩ = some (.slice A0_0 l0_0.length c0_0) ∧ w'.cell? ⟨gP, 1, none⟩ = some (.slice A0_1 l0_1.length c0_1)) (ds := []) #[false, false, false, false, false, false, false, false, false] (by kernel_rfl) rfl rfl ⟨(blk_cell ST.out.p 0).trans rfl, (blk_cell ST.out.p 1).trans rfl⟩ (fun hHeld => ?_)
 refine with_tabW patrol_copied.tab1 patrol_copied.bits1 (fun HT_ HW_ => ?_)
 generalize w_gR.drew = W1 at ST hHeld ⊢
 refine pq_ 0 (some 6) #[true, false, false, false, false, false, false, false, false] ?_
 refine pq_ 3 (some 9) #[true, false, false, true, false, false, false, false, false] ?_
 refine take_ (i := 1) (N := some 7) (v := ?_) (a' := ?_) #[true, true, false, true, false, false, false, false, false] rfl rfl (take_ofW HT_.out HW_.out (by kernel_rfl)) (fun _ _ _ h => h) (Or.inl ⟨by rfl, ?_⟩) hHeld ?_ ?_
 rotate_left
 ·rintro w' ⟨s0, s1⟩
  go_simp
  with_reducible rfl
 rotate_left
 ·simp only [Act.put, List.setIfInBounds_toArray, List.set_cons_zero, List.set_cons_succ, i64_w, i32_w]
  rfl
 refine take_ (i := 4) (N := some 10) (v := ?_) (a' := ?_) #[true, true, false, true, true, false, false, false, false] rfl rfl (take_ofW HT_.out HW_.out (by kernel_rfl)) (fun _ _ _ h => h) (Or.inl ⟨by rfl, ?_⟩) hHeld ?_ ?_
 rotate_left
 ·rintro w' ⟨s0, s1⟩
  go_simp
  with_reducible rfl
 rotate_left
 ·simp only [Act.put, List.setIfInBounds_toArray, List.set_cons_zero, List.set_cons_succ, i64_w, i32_w]
  rfl
 refine join_ (σ := Value × Value × Nat) 1 #[true, true, true, true, true, true, true, true, false] (fun s_ => [(8, s_.1), (11, s_.2.1), (3, .pointer (some ⟨s_.2.2, 0, none⟩)), (12, .agg #[s_.1, s_.2.1])]) (fun s_ W_ => (W_.cell? ⟨gP, 0, none⟩ = some (.slice A0_0 l0_0.length c0_0) ∧ W_.cell? ⟨gP, 1, none⟩ = some (.slice A0_1 l0_1.length c0_1)) ∧ St69 w gP gR (.cells #[.slice A0_0 l0_0.length c0_0, .slice A0_1 l0_1.length c0_1] 48 (0, 0)) (.cells #[.slice none 0 0, .slice none 0 0] 48 (0, 0)) W_ ∧ (Kd.raw 4).R 63 W_ w.heap.size (fun _ => True) s_.1 rows ∧ k56.R 56 W_ w.heap.size (fun _ => True) s_.2.1 l0_1 ∧ W_.heap[s_.2.2]? = some (.cells #[.slice none 0 0, .slice none 0 0] 48 (0, 0)) ∧ w.heap.size ≤ s_.2.2 ∧ gP ≠ s_.2.2 ∧ gR ≠ s_.2.2) ?_ ?_
 rotate_left
 ·intro hCont
  refine two_ (i := 2) (j := 7) (Ni := some 8) (Nj := some 3) #[true, true, true, true, true, false, false, false, false] #[true, true, false, true, true, false, false, true, false] rfl rfl rfl rfl (two_of HT_.out (by kernel_rfl)) (by decide) (by decide) (fun K hK => ?_) (fun K hK => ?_)
  ·refine goes_ Try.func81 (by kernel_rfl) rfl #[.slice A0_0 l0_0.length c0_0] (by rfl) rfl rfl (by (try simp only [List.map_toArray, List.map_cons, List.map_nil]); first | done | rfl) ?_
   with_reducible refine (HC81.out _ ST.out.b).mono ?_
   rintro e W2 ⟨v1, rfl, ho1, hb⟩
   refine ⟨_, rfl, ?_⟩
   have HV1 := a_ (Kd.R_lower ho1 (below_size ST.out.b))
   have ST2 := a_ (ST.out.step hb)
   clear ST
   have ST := ST2
   clear ST2 hb ho1
   obtain ⟨B1, d1, rfl⟩ : ∃ A c, v1 = .slice A l0_0.length c := by rw [← HRL.out]; exact Kd.R_slice HV1.out
   refine hK.out _ _ ⟨(blk_cell ST.out.p 0).trans rfl, (blk_cell ST.out.p 1).trans rfl⟩ (fun hHeld => ?_)
   clear hK K
   refine norm_ (a' := ?_) ?_ ?_
   rotate_left
   ·show Act.put _ (some 8) _ = _
    simp only [Act.put, List.setIfInBounds_toArray, List.set_cons_zero, List.set_cons_succ, i64_w, i32_w]
    rfl
   refine two_ (i := 5) (j := 7) (Ni := some 11) (Nj := some 3) #[true, true, true, true, true, true, false, false, false] #[true, true, true, true, true, false, false, true, false] rfl rfl rfl rfl (two_of HT_.out (by kernel_rfl)) (by decide) (by decide) (fun K hK => ?_) (fun K hK => ?_)
   ·refine goes_ Try.func82 (by kernel_rfl) rfl #[.slice A0_1 l0_1.length c0_1] (by rfl) rfl rfl (by (try simp only [List.map_toArray, List.map_cons, List.map_nil]); first | done | rfl) ?_
    with_reducible refine (HC82.out _ ST.out.b).mono ?_
    rintro e W3 ⟨v2, rfl, ho2, hb⟩
    refine ⟨_, rfl, ?_⟩
    have HV2 := a_ (Kd.R_lower ho2 (below_size ST.out.b))
    have ST2 := a_ (ST.out.step hb)
    have HV1' := a_ (Kd.R_below HV1.out hb)
    clear HV1
    have HV1 := HV1'
    clear HV1'
    clear ST
    have ST := ST2
    clear ST2 hb ho2
    obtain ⟨B2, d2, rfl⟩ : ∃ A c, v2 = .slice A l0_1.length c := Kd.R_slice HV2.out
    refine hK.out _ _ ⟨(blk_cell ST.out.p 0).trans rfl, (blk_cell ST.out.p 1).trans rfl⟩ (fun hHeld => ?_)
    clear hK K
    refine norm_ (a' := ?_) ?_ ?_
    rotate_left
    ·show Act.put _ (some 11) _ = _
     simp only [Act.put, List.setIfInBounds_toArray, List.set_cons_zero, List.set_cons_succ, i64_w, i32_w]
     rfl
    refine pq_ 6 (some 12) #[true, true, true, true, true, true, true, false, false] ?_
    refine one_ (i := 7) (N := some 3) #[true, true, true, true, true, true, true, true, false] rfl rfl (one_of HT_.out (by kernel_rfl)) (by decide) (fun K hK => ?_)
    refine box_step ?hg (N := 3) ?hd (cs := #[.slice none 0 0, .slice none 0 0]) (t := 48) ?hr ?_; (case hd => rfl); (case hg => rfl); (case hr => first | (go_simp; done) | (go_simp; rfl))
    intro gO hg W5 hbox hb
    have HO := a_ hbox
    have GO := a_ ((by rw [hg]; exact below_size ST.out.b) : w.heap.size ≤ gO)
    have NP := a_ ((by rw [hg]; exact Nat.ne_of_lt (blk_lt ST.out.p)) : gP ≠ gO)
    have NR := a_ ((by rw [hg]; exact Nat.ne_of_lt (blk_lt ST.out.r)) : gR ≠ gO)
    have ST2 := a_ (ST.out.step hb)
    have HV1' := a_ (Kd.R_below HV1.out hb)
    clear HV1
    have HV1 := HV1'
    clear HV1'
    have HV2' := a_ (Kd.R_below HV2.out hb)
    clear HV2
    have HV2 := HV2'
    clear HV2'
    clear ST
    have ST := ST2
    clear ST2 hb hg hbox
    refine hK.out _ _ ⟨(blk_cell ST.out.p 0).trans rfl, (blk_cell ST.out.p 1).trans rfl⟩ (fun hHeld => ?_)
    clear hK K
    refine norm_ (a' := ?_) ?_ ?_
    rotate_left
    ·show Act.put _ (some 3) _ = _
     simp only [Act.put, List.setIfInBounds_toArray, List.set_cons_zero, List.set_cons_succ, i64_w, i32_w]
     rfl
    exact norm_ (by simp only [putAll, Act.put, List.setIfInBounds_toArray, List.set_cons_zero, List.set_cons_succ]) (hCont (.slice B1 l0_0.length d1, .slice B2 l0_1.length d2, gO) _ ⟨hHeld, ST.out, HV1.out, HV2.out, HO.out, GO.out, NP.out, NR.out⟩)
   ·refine box_step ?hg (N := 3) ?hd (cs := #[.slice none 0 0, .slice none 0 0]) (t := 48) ?hr ?_; (case hd => rfl); (case hg => rfl); (case hr => first | (go_simp; done) | (go_simp; rfl))
    intro gO hg W5 hbox hb
    have HO := a_ hbox
    have GO := a_ ((by rw [hg]; exact below_size ST.out.b) : w.heap.size ≤ gO)
    have NP := a_ ((by rw [hg]; exact Nat.ne_of_lt (blk_lt ST.out.p)) : gP ≠ gO)
    have NR := a_ ((by rw [hg]; exact Nat.ne_of_lt (blk_lt ST.out.r)) : gR ≠ gO)
    have ST2 := a_ (ST.out.step hb)
    have HV1' := a_ (Kd.R_below HV1.out hb)
    clear HV1
    have HV1 := HV1'
    clear HV1'
    clear ST
    have ST := ST2
    clear ST2 hb hg hbox
    refine hK.out _ _ ⟨(blk_cell ST.out.p 0).trans rfl, (blk_cell ST.out.p 1).trans rfl⟩ (fun hHeld => ?_)
    clear hK K
    refine norm_ (a' := ?_) ?_ ?_
    rotate_left
    ·show Act.put _ (some 3) _ = _
     simp only [Act.put, List.setIfInBounds_toArray, List.set_cons_zero, List.set_cons_succ, i64_w, i32_w]
     rfl
    refine one_ (i := 5) (N := some 11) #[true, true, true, true, true, true, false, true, false] rfl rfl (one_of HT_.out (by kernel_rfl)) (by decide) (fun K hK => ?_)
    refine goes_ Try.func82 (by kernel_rfl) rfl #[.slice A0_1 l0_1.length c0_1] (by rfl) rfl rfl (by (try simp only [List.map_toArray, List.map_cons, List.map_nil]); first | done | rfl) ?_
    with_reducible refine (HC82.out _ ST.out.b).mono ?_
    rintro e W3 ⟨v2, rfl, ho2, hb⟩
    refine ⟨_, rfl, ?_⟩
    have HV2 := a_ (Kd.R_lower ho2 (below_size ST.out.b))
    have ST2 := a_ (ST.out.step hb)
    have HV1' := a_ (Kd.R_below HV1.out hb)
    clear HV1
    have HV1 := HV1'
    clear HV1'
    have HO2 := a_ (blk_below HO.out hb)
    clear HO
    have HO := HO2
    clear HO2
    clear ST
    have ST := ST2
    clear ST2 hb ho2
    obtain ⟨B2, d2, rfl⟩ : ∃ A c, v2 = .slice A l0_1.length c := Kd.R_slice HV2.out
    refine hK.out _ _ ⟨(blk_cell ST.out.p 0).trans rfl, (blk_cell ST.out.p 1).trans rfl⟩ (fun hHeld => ?_)
    clear hK K
    refine norm_ (a' := ?_) ?_ ?_
    rotate_left
    ·show Act.put _ (some 11) _ = _
     simp only [Act.put, List.setIfInBounds_toArray, List.set_cons_zero, List.set_cons_succ, i64_w, i32_w]
     rfl
    refine pq_ 6 (some 12) #[true, true, true, true, true, true, true, true, false] ?_
    exact norm_ (by simp only [putAll, Act.put, List.setIfInBounds_toArray, List.set_cons_zero, List.set_cons_succ]) (hCont (.slice B1 l0_0.length d1, .slice B2 l0_1.length d2, gO) _ ⟨hHeld, ST.out, HV1.out, HV2.out, HO.out, GO.out, NP.out, NR.out⟩)
  ·refine box_step ?hg (N := 3) ?hd (cs := #[.slice none 0 0, .slice none 0 0]) (t := 48) ?hr ?_; (case hd => rfl); (case hg => rfl); (case hr => first | (go_simp; done) | (go_simp; rfl))
   intro gO hg W5 hbox hb
   have HO := a_ hbox
   have GO := a_ ((by rw [hg]; exact below_size ST.out.b) : w.heap.size ≤ gO)
   have NP := a_ ((by rw [hg]; exact Nat.ne_of_lt (blk_lt ST.out.p)) : gP ≠ gO)
   have NR := a_ ((by rw [hg]; exact Nat.ne_of_lt (blk_lt ST.out.r)) : gR ≠ gO)
   have ST2 := a_ (ST.out.step hb)
   clear ST
   have ST := ST2
   clear ST2 hb hg hbox
   refine hK.out _ _ ⟨(blk_cell ST.out.p 0).trans rfl, (blk_cell ST.out.p 1).trans rfl⟩ (fun hHeld => ?_)
   clear hK K
   refine norm_ (a' := ?_) ?_ ?_
   rotate_left
   ·show Act.put _ (some 3) _ = _
    simp only [Act.put, List.setIfInBounds_toArray, List.set_cons_zero, List.set_cons_succ, i64_w, i32_w]
    rfl
   refine one_ (i := 2) (N := some 8) #[true, true, true, true, true, false, false, true, false] rfl rfl (one_of HT_.out (by kernel_rfl)) (by decide) (fun K hK => ?_)
   refine goes_ Try.func81 (by kernel_rfl) rfl #[.slice A0_0 l0_0.length c0_0] (by rfl) rfl rfl (by (try simp only [List.map_toArray, List.map_cons, List.map_nil]); first | done | rfl) ?_
   with_reducible refine (HC81.out _ ST.out.b).mono ?_
   rintro e W2 ⟨v1, rfl, ho1, hb⟩
   refine ⟨_, rfl, ?_⟩
   have HV1 := a_ (Kd.R_lower ho1 (below_size ST.out.b))
   have ST2 := a_ (ST.out.step hb)
   have HO2 := a_ (blk_below HO.out hb)
   clear HO
   have HO := HO2
   clear HO2
   clear ST
   have ST := ST2
   clear ST2 hb ho1
   obtain ⟨B1, d1, rfl⟩ : ∃ A c, v1 = .slice A l0_0.length c := by rw [← HRL.out]; exact Kd.R_slice HV1.out
   refine hK.out _ _ ⟨(blk_cell ST.out.p 0).trans rfl, (blk_cell ST.out.p 1).trans rfl⟩ (fun hHeld => ?_)
   clear hK K
   refine norm_ (a' := ?_) ?_ ?_
   rotate_left
   ·show Act.put _ (some 8) _ = _
    simp only [Act.put, List.setIfInBounds_toArray, List.set_cons_zero, List.set_cons_succ, i64_w, i32_w]
    rfl
   refine one_ (i := 5) (N := some 11) #[true, true, true, true, true, true, false, true, false] rfl rfl (one_of HT_.out (by kernel_rfl)) (by decide) (fun K hK => ?_)
   refine goes_ Try.func82 (by kernel_rfl) rfl #[.slice A0_1 l0_1.length c0_1] (by rfl) rfl rfl (by (try simp only [List.map_toArray, List.map_cons, List.map_nil]); first | done | rfl) ?_
   with_reducible refine (HC82.out _ ST.out.b).mono ?_
   rintro e W3 ⟨v2, rfl, ho2, hb⟩
   refine ⟨_, rfl, ?_⟩
   have HV2 := a_ (Kd.R_lower ho2 (below_size ST.out.b))
   have ST2 := a_ (ST.out.step hb)
   have HV1' := a_ (Kd.R_below HV1.out hb)
   clear HV1
   have HV1 := HV1'
   clear HV1'
   have HO2 := a_ (blk_below HO.out hb)
   clear HO
   have HO := HO2
   clear HO2
   clear ST
   have ST := ST2
   clear ST2 hb ho2
   obtain ⟨B2, d2, rfl⟩ : ∃ A c, v2 = .slice A l0_1.length c := Kd.R_slice HV2.out
   refine hK.out _ _ ⟨(blk_cell ST.out.p 0).trans rfl, (blk_cell ST.out.p 1).trans rfl⟩ (fun hHeld => ?_)
   clear hK K
   refine norm_ (a' := ?_) ?_ ?_
   rotate_left
   ·show Act.put _ (some 11) _ = _
    simp only [Act.put, List.setIfInBounds_toArray, List.set_cons_zero, List.set_cons_succ, i64_w, i32_w]
    rfl
   refine pq_ 6 (some 12) #[true, true, true, true, true, true, true, true, false] ?_
   exact norm_ (by simp only [putAll, Act.put, List.setIfInBounds_toArray, List.set_cons_zero, List.set_cons_succ]) (hCont (.slice B1 l0_0.length d1, .slice B2 l0_1.length d2, gO) _ ⟨hHeld, ST.out, HV1.out, HV2.out, HO.out, GO.out, NP.out, NR.out⟩)
 clear ST
 rintro ⟨v1, v2, gO⟩ W4 ⟨hS_, hst, hv1, hv2, ho, go, np, nr⟩
 replace hv1 : (Kd.raw 4).R 63 W4 w.heap.size (fun _ => True) v1 rows := hv1
 replace hv2 : k56.R 56 W4 w.heap.size (fun _ => True) v2 l0_1 := hv2
 replace ho : W4.heap[gO]? = some (.cells #[.slice none 0 0, .slice none 0 0] 48 (0, 0)) := ho
 replace go : w.heap.size ≤ gO := go
 replace np : gP ≠ gO := np
 replace nr : gR ≠ gO := nr
 obtain ⟨B1, d1, rfl⟩ : ∃ A c, v1 = .slice A l0_0.length c := by rw [← HRL.out]; exact Kd.R_slice hv1
 obtain ⟨B2, d2, rfl⟩ : ∃ A c, v2 = .slice A l0_1.length c := Kd.R_slice hv2
 have ST := a_ hst
 have HV1 := a_ hv1
 have HV2 := a_ hv2
 have HO := a_ ho
 have GO := a_ go
 have NP := a_ np
 have NR := a_ nr
 clear hst hv1 hv2 ho go np nr
 have hHeld := hS_
 refine norm_ (a' := ?_) ?_ ?_
 rotate_left
 ·simp only [putAll, Act.put, List.setIfInBounds_toArray, List.set_cons_zero, List.set_cons_succ]
  rfl
 refine one_ (i := 8) (N := none) #[true, true, true, true, true, true, true, true, true] rfl rfl (one_of HT_.out (by kernel_rfl)) (by decide) (fun K hK => ?_)
 have hs0 : W4.cell? ⟨gO, 0, none⟩ = some (.slice none 0 0) := (blk_cell HO.out 0).trans rfl
 have hf0 := blk_frozen HO.out 0
 have hs1 : W4.cell? ⟨gO, 1, none⟩ = some (.slice none 0 0) := (blk_cell HO.out 1).trans rfl
 have hf1 := blk_frozen HO.out 1
 refine skip_ (w1 := ?_) (by rfl) rfl ?_ ?_
 rotate_left
 ·go_simp
  rfl
 refine hK.out _ _ ⟨(cell_far (p := ⟨gO, 1, none⟩) NP.out _).trans ((cell_far (p := ⟨gO, 0, none⟩) NP.out _).trans hHeld.1), (cell_far (p := ⟨gO, 1, none⟩) NP.out _).trans ((cell_far (p := ⟨gO, 0, none⟩) NP.out _).trans hHeld.2)⟩ (fun hHeld => ?_)
 clear hK K
 refine done_ (done_of HT_.out (by kernel_rfl)) ?_
 have ge1 := GO.out
 have hst : St69 w gP gR (.cells #[.slice A0_0 l0_0.length c0_0, .slice A0_1 l0_1.length c0_1] 48 (0, 0)) (.cells #[.slice none 0 0, .slice none 0 0] 48 (0, 0)) ((W4.setCell ⟨gO, 0, none⟩ (.slice B1 l0_0.length d1)).setCell ⟨gO, 1, none⟩ (.slice B2 l0_1.length d2)) :=
  ⟨below_set (below_set ST.out.b ge1) ge1, (Below.heap_setCell _ _ _ gP NP.out).trans ((Below.heap_setCell _ _ _ gP NP.out).trans ST.out.p), (Below.heap_setCell _ _ _ gR NR.out).trans ((Below.heap_setCell _ _ _ gR NR.out).trans ST.out.r)⟩
 have ho := blk_put (cs' := #[.slice B1 l0_0.length d1, .slice B2 l0_1.length d2]) (blk_put (cs' := #[.slice B1 l0_0.length d1, .slice none 0 0]) HO.out 0 (.slice B1 l0_0.length d1) rfl) 1 (.slice B2 l0_1.length d2) rfl
 have hv1 := Kd.R_mono (ok' := fun _ => True) (Kd.R_far (p := ⟨gO, 1, none⟩) (Kd.R_far (p := ⟨gO, 0, none⟩) (Kd.R_types HV1.out HO.out (by decide)) (fun _ hk => hk.2) (.slice B1 l0_0.length d1)) (fun _ hk => hk.2) (.slice B2 l0_1.length d2)) (fun _ _ => trivial)
 have hv2 := Kd.R_mono (ok' := fun _ => True) (Kd.R_far (p := ⟨gO, 1, none⟩) (Kd.R_far (p := ⟨gO, 0, none⟩) (Kd.R_types HV2.out HO.out (by decide)) (fun _ hk => hk.2) (.slice B1 l0_0.length d1)) (fun _ hk => hk.2) (.slice B2 l0_1.length d2)) (fun _ _ => trivial)
 clear ST HV1 HV2 HO hs0 hf0 hs1 hf1 ge1
 generalize (W4.setCell ⟨gO, 0, none⟩ (.slice B1 l0_0.length d1)).setCell ⟨gO, 1, none⟩ (.slice B2 l0_1.length d2) = W5 at hst ho hv1 hv2 hHeld ⊢
 obtain ⟨G, hG⟩ : ∃ G, G = W5.heap.size := ⟨_, rfl⟩
 have hm : Mid69 w G 0 l0_0 (.slice B1 l0_0.length d1) W5 := ⟨rows, HRL.out, hv1, fun j x c hx hc => Kd.FK_mono (ok := fun k => k < w.heap.size) (Kd.FK_step (HRF.out j x c hx hc) (fun k hk _ => hst.b.block k hk)) (fun k hk => by rw [if_neg (by omega)]; exact hk)⟩
 have hown : ∀ k, (Value.slice B1 l0_0.length d1).ownBlock = some k → k < G := fun k hk => by rw [hG]; exact Kd.R_lt hv1 k hk
 have hblk : 0 < l0_0.length → ∃ g, B1 = some ⟨g, 0, none⟩ ∧ w.heap.size ≤ g ∧ g < G ∧ gO ≠ g ∧ gP ≠ g ∧ gR ≠ g := fun hp => by
  obtain ⟨_, inner, hoo, _⟩ := hv1
  rcases hoo.2 with ⟨hv, _⟩ | ⟨g, cap, cur, hv, hb, hh, _⟩
  ·injection hv with _ e _; omega
  ·injection hv with e _ _
   refine ⟨g, e, hb, by rw [hG]; exact blk_lt hh, ?_, ?_, ?_⟩
   ·rintro rfl; rw [ho] at hh; cases hh
   ·rintro rfl; rw [hst.p] at hh; cases hh
   ·rintro rfl; rw [hst.r] at hh; cases hh
 have hlt : gP < G ∧ gR < G ∧ gO < G := by rw [hG]; exact ⟨blk_lt hst.p, blk_lt hst.r, blk_lt ho⟩
 have HV2B := a_ (fun k hk => Kd.R_lt hv2 k hk : ∀ k, (Value.slice B2 l0_1.length d2).ownBlock = some k → k < W5.heap.size)
 have hvr : some gR ≠ (Value.slice B2 l0_1.length d2).ownBlock := fun he => by
  have := Kd.R_types hv2 hst.r (by decide)
  exact (this.1 gR he.symm).2 rfl
 have HVR := a_ hvr
 rw [← hG] at HV2B
 have ST := a_ hst
 have HO := a_ ho
 have HV2 := a_ hv2
 have HM := a_ hm
 have HOWN := a_ hown
 have HBLK := a_ hblk
 have HLT := a_ hlt
 have GS := a_ (Nat.le_of_eq hG)
 clear hst ho hv1 hv2 hm hown hblk hlt hvr hG hHeld
 have hcz : W5.cell? ⟨gO, 0, none⟩ = some (.slice B1 l0_0.length d1) := (blk_cell HO.out 0).trans rfl
 go_wp2
 clear hcz
 go_loopw [16] (fun v16 w' => ∃ x16 : Int, v16 = .int .i64 x16 ∧ Aside0 (0 ≤ x16) ∧ Aside0 (x16 ≤ l0_0.length) ∧ Aside0 (St69 w gP gR (.cells #[.slice A0_0 l0_0.length c0_0, .slice A0_1 l0_1.length c0_1] 48 (0, 0)) (.cells #[.slice none 0 0, .slice none 0 0] 48 (0, 0)) w') ∧ Aside0 (Mid69 w G x16.toNat l0_0 (.slice B1 l0_0.length d1) w') ∧ Aside0 (k56.R 56 w' w.heap.size (fun _ => True) (.slice B2 l0_1.length d2) l0_1) ∧ Aside0 (w'.heap[gO]? = some (.cells #[.slice B1 l0_0.length d1, .slice B2 l0_1.length d2] 48 (0, 0))) ∧ Aside0 (G ≤ w'.heap.size)) (fun v16 _ => l0_0.length - (intOf v16).toNat)
 case atStart => exact ⟨0, rfl, ⟨by omega⟩, ⟨by omega⟩, ST, HM, HV2, HO, GS⟩
 case round =>
  clear ST HM HV2 HO GS
  obtain ⟨x16, rfl, HX0, HX1, ST, HM, HV2, HO, GS⟩ := hrel
  by_cases hlt : x16 < (l0_0.length : Int)
  ·have p1 := HX0.out
   obtain ⟨g, rfl, hgb, hgl, hgo, hgp, hgr⟩ := HBLK.out (by omega)
   have HGB := a_ hgb
   have HGL := a_ hgl
   have NGO := a_ hgo
   have NGP := a_ hgp
   have NGR := a_ hgr
   clear hgb hgl hgo hgp hgr
   obtain ⟨ad, C1, e1, C3, e3, ea, y0, y1, y2, y3, he1, hi1, he3, hi3⟩ := at_T63 (Mid69.reads HM.out HOWN.out) x16 p1 hlt
   cases ea
   simp only [add_plain] at y0 y1 y2 y3
   have hmem : rd_T63 l0_0 x16 ∈ l0_0 := by
    simp only [rd_T63, List.getD_eq_getElem?_getD, List.getElem?_eq_getElem (show x16.toNat < l0_0.length by omega), Option.getD_some]
    exact List.getElem_mem _
   have HF := a_ (HFIT.out _ hmem)
   have HGET : Aside0 (l0_0[x16.toNat]? = some (rd_T63 l0_0 x16)) := ⟨by simp only [rd_T63, List.getD_eq_getElem?_getD, List.getElem?_eq_getElem (show x16.toNat < l0_0.length by omega), Option.getD_some]⟩
   have HE1 := a_ he1
   have HE3 := a_ he3
   have HI1 := a_ hi1
   have HI3 := a_ hi3
   have HLTX := a_ hlt
   clear he1 he3 hi1 hi3 hmem
   have HW : Aside0 (wrap64 (x16 + 1) = x16 + 1) := ⟨by have h1 := HMX.out; unfold wrap64; omega⟩
   have d1' : decide (x16 < (l0_0.length : Int)) = true := decide_eq_true hlt
   replace p1 := eq_true p1
   replace hlt := eq_true hlt
   go_upto_region 5 with (first | ((with_reducible refine gate_dst (N := 5) rfl ?_); refine box_event ?hg (N := 5) ?hd (cs := #[.int .i64 0, .slice none 0 0, .int .i64 0, .slice none 0 0]) (t := 63) ?hr ?_; (case hd => rfl); (case hg => rfl); (case hr => first | (go_simp; done) | (go_simp; rfl)); intro gX hg w_gX hbox hb; have HBX := a_ hb; have HX := a_ hbox; have GX := a_ (Nat.le_of_eq hg.symm); have hx0 : w_gX.cell? ⟨gX, 0, none⟩ = some (.int .i64 0) := (blk_cell HX.out 0).trans rfl; have hx1 : w_gX.cell? ⟨gX, 1, none⟩ = some (.slice none 0 0) := (blk_cell HX.out 1).trans rfl; have hx2 : w_gX.cell? ⟨gX, 2, none⟩ = some (.int .i64 0) := (blk_cell HX.out 2).trans rfl; have hx3 : w_gX.cell? ⟨gX, 3, none⟩ = some (.slice none 0 0) := (blk_cell HX.out 3).trans rfl; have hy0 := blk_frozen HX.out 0; have hy1 := blk_frozen HX.out 1; have hy2 := blk_frozen HX.out 2; have hy3 := blk_frozen HX.out 3; clear hb hg hbox))
   (try clear hx0); (try clear hx1); (try clear hx2); (try clear hx3); (try clear hy0); (try clear hy1); (try clear hy2); (try clear hy3); (try clear y0); (try clear y1); (try clear y2); (try clear y3)
   have hbx : Below wr.heap.size wr ((((w_gX.setCell ⟨gX, 0, none⟩ (.int .i64 (rd_T63 l0_0 x16).f0)).setCell ⟨gX, 1, none⟩ (.slice C1 (rd_T63 l0_0 x16).f1.f0.length e1)).setCell ⟨gX, 2, none⟩ (.int .i64 (rd_T63 l0_0 x16).f1.f1)).setCell ⟨gX, 3, none⟩ (.slice C3 (rd_T63 l0_0 x16).f1.f2.length e3)) := below_set (below_set (below_set (below_set HBX.out GX.out) GX.out) GX.out) GX.out
   have hx := blk_put (cs' := #[.int .i64 (rd_T63 l0_0 x16).f0, .slice C1 (rd_T63 l0_0 x16).f1.f0.length e1, .int .i64 (rd_T63 l0_0 x16).f1.f1, .slice C3 (rd_T63 l0_0 x16).f1.f2.length e3]) (blk_put (cs' := #[.int .i64 (rd_T63 l0_0 x16).f0, .slice C1 (rd_T63 l0_0 x16).f1.f0.length e1, .int .i64 (rd_T63 l0_0 x16).f1.f1, .slice none 0 0]) (blk_put (cs' := #[.int .i64 (rd_T63 l0_0 x16).f0, .slice C1 (rd_T63 l0_0 x16).f1.f0.length e1, .int .i64 0, .slice none 0 0]) (blk_put (cs' := #[.int .i64 (rd_T63 l0_0 x16).f0, .slice none 0 0, .int .i64 0, .slice none 0 0]) HX.out 0 (.int .i64 (rd_T63 l0_0 x16).f0) rfl) 1 (.slice C1 (rd_T63 l0_0 x16).f1.f0.length e1) rfl) 2 (.int .i64 (rd_T63 l0_0 x16).f1.f1) rfl) 3 (.slice C3 (rd_T63 l0_0 x16).f1.f2.length e3) rfl
   generalize (((w_gX.setCell ⟨gX, 0, none⟩ (.int .i64 (rd_T63 l0_0 x16).f0)).setCell ⟨gX, 1, none⟩ (.slice C1 (rd_T63 l0_0 x16).f1.f0.length e1)).setCell ⟨gX, 2, none⟩ (.int .i64 (rd_T63 l0_0 x16).f1.f1)).setCell ⟨gX, 3, none⟩ (.slice C3 (rd_T63 l0_0 x16).f1.f2.length e3) = WX at hbx hx ⊢
   clear HX HBX
   have NGX := a_ ((by have := HGL.out; have := GS.out; have := GX.out; omega) : gX ≠ g)
   have hbd : Below WX.heap.size WX WX.drew := below_drew (Below.refl _ _)
   have hb := below_step hbx hbd
   have HX2 := a_ (blk_below hx hbd)
   have ST2 := a_ (ST.out.step hb)
   have HM2 := a_ (HM.out.below hb)
   have HV22 := a_ (Kd.R_below HV2.out hb)
   have HO2 := a_ (blk_below HO.out hb)
   have GS2 := a_ (Nat.le_trans GS.out hb.size)
   have HBR := a_ hb
   clear ST HM HV2 HO GS hb hbx hx hbd
   have ST := ST2
   have HM := HM2
   have HV2 := HV22
   have HO := HO2
   have HX := HX2
   have GS := GS2
   clear ST2 HM2 HV22 HO2 HX2 GS2
   refine start_ (n := 22) (S := fun w' => w'.cell? ⟨gO, 0, none⟩ = some (.slice (some ⟨g, 0, none⟩) l0_0.length d1) ∧ w'.cell? ⟨gX, 1, none⟩ = some (.slice C1 (rd_T63 l0_0 x16).f1.f0.length e1) ∧ w'.cell? ⟨gX, 3, none⟩ = some (.slice C3 (rd_T63 l0_0 x16).f1.f2.length e3)) (ds := []) #[false, false, false, false, false, false, false, false, false, false, false, false, false, false, false, false, false, false, false, false, false, false] (by kernel_rfl) rfl rfl ⟨(blk_cell HO.out 0).trans rfl, (blk_cell HX.out 1).trans rfl, (blk_cell HX.out 3).trans rfl⟩ (fun hHeld => ?_)
   refine with_tabW patrol_copied.tab5 patrol_copied.bits5 (fun HT_ HW_ => ?_)
   generalize WX.drew = W6 at ST HM HV2 HO HX GS HBR hHeld ⊢
   refine pq_ 0 (some 21) #[true, false, false, false, false, false, false, false, false, false, false, false, false, false, false, false, false, false, false, false, false, false] ?_
   refine pq_ 2 (some 23) #[true, false, true, false, false, false, false, false, false, false, false, false, false, false, false, false, false, false, false, false, false, false] ?_
   refine pq_ 3 (some 24) #[true, false, true, true, false, false, false, false, false, false, false, false, false, false, false, false, false, false, false, false, false, false] ?_
   refine pq_ 5 (some 26) #[true, false, true, true, false, true, false, false, false, false, false, false, false, false, false, false, false, false, false, false, false, false] ?_
   refine pq_ 6 (some 27) #[true, false, true, true, false, true, true, false, false, false, false, false, false, false, false, false, false, false, false, false, false, false] ?_
   refine pq_ 7 (some 28) #[true, false, true, true, false, true, true, true, false, false, false, false, false, false, false, false, false, false, false, false, false, false] ?_
   refine pq_ 10 (some 31) #[true, false, true, true, false, true, true, true, false, false, true, false, false, false, false, false, false, false, false, false, false, false] ?_
   refine pq_ 11 (some 32) #[true, false, true, true, false, true, true, true, false, false, true, true, false, false, false, false, false, false, false, false, false, false] ?_
   refine take_ (i := 1) (N := some 22) (v := ?_) (a' := ?_) #[true, true, true, true, false, true, true, true, false, false, true, true, false, false, false, false, false, false, false, false, false, false] rfl rfl (take_ofW HT_.out HW_.out (by kernel_rfl)) (fun _ _ _ h => h) (Or.inl ⟨by rfl, ?_⟩) hHeld ?_ ?_
   rotate_left
   ·rintro w' ⟨s0, s1, s2⟩
    go_simp
    with_reducible rfl
   rotate_left
   ·simp only [Act.put, List.setIfInBounds_toArray, List.set_cons_zero, List.set_cons_succ, i64_w, i32_w]
    rfl
   refine take_ (i := 4) (N := some 25) (v := ?_) (a' := ?_) #[true, true, true, true, true, true, true, true, false, false, true, true, false, false, false, false, false, false, false, false, false, false] rfl rfl (take_ofW HT_.out HW_.out (by kernel_rfl)) (fun _ _ _ h => h) (Or.inl ⟨by rfl, ?_⟩) hHeld ?_ ?_
   rotate_left
   ·rintro w' ⟨s0, s1, s2⟩
    go_simp
    with_reducible rfl
   rotate_left
   ·simp only [Act.put, List.setIfInBounds_toArray, List.set_cons_zero, List.set_cons_succ, i64_w, i32_w]
    rfl
   refine take_ (i := 8) (N := some 29) (v := ?_) (a' := ?_) #[true, true, true, true, true, true, true, true, true, false, true, true, false, false, false, false, false, false, false, false, false, false] rfl rfl (take_ofW HT_.out HW_.out (by kernel_rfl)) (fun _ _ _ h => h) (Or.inl ⟨by rfl, ?_⟩) hHeld ?_ ?_
   rotate_left
   ·rintro w' ⟨s0, s1, s2⟩
    go_simp
    with_reducible rfl
   rotate_left
   ·simp only [Act.put, List.setIfInBounds_toArray, List.set_cons_zero, List.set_cons_succ, i64_w, i32_w]
    rfl
   refine take_ (i := 12) (N := some 33) (v := ?_) (a' := ?_) #[true, true, true, true, true, true, true, true, true, false, true, true, true, false, false, false, false, false, false, false, false, false] rfl rfl (take_ofW HT_.out HW_.out (by kernel_rfl)) (fun _ _ _ h => h) (Or.inl ⟨by rfl, ?_⟩) hHeld ?_ ?_
   rotate_left
   ·rintro w' ⟨s0, s1, s2⟩
    go_simp
    with_reducible rfl
   rotate_left
   ·simp only [Act.put, List.setIfInBounds_toArray, List.set_cons_zero, List.set_cons_succ, i64_w, i32_w]
    rfl
   refine one_ (i := 9) (N := some 30) #[true, true, true, true, true, true, true, true, true, true, true, true, true, false, false, false, false, false, false, false, false, false] rfl rfl (one_of HT_.out (by kernel_rfl)) (by decide) (fun K hK => ?_)
   refine goes_ Try.func58 (by kernel_rfl) rfl #[.slice C1 (rd_T63 l0_0 x16).f1.f0.length e1] (by rfl) rfl rfl (by (try simp only [List.map_toArray, List.map_cons, List.map_nil]); first | done | rfl) ?_
   with_reducible refine (slices_Clone_int_int.calls C1 e1 (rd_T63 l0_0 x16).f1.f0 (rd_T63 l0_0 x16).f1.f0 _ ?s1 HE1.out ?s2).mono ?_
   (case s1 => exact Kd.C_below HI1.out HBR.out)
   (case s2 => rw [slices_Clone_int_int.f, if_pos HF.out.1])
   rintro e W7 ⟨v3, rfl, ho3, hb⟩
   refine ⟨_, rfl, ?_⟩
   obtain ⟨B3, d3, rfl⟩ := Kd.R_slice ho3
   have HI := a_ (Kd.R_mono (ok' := fun k => G ≤ k) (Kd.R_tight rfl ho3) (fun k hk => Nat.le_trans GS.out (Kd.R_base ho3 k hk.symm)))
   have ST2 := a_ (ST.out.step hb)
   have HM2 := a_ (HM.out.below hb)
   have HV22 := a_ (Kd.R_below HV2.out hb)
   have HO2 := a_ (blk_below HO.out hb)
   have HX2 := a_ (blk_below HX.out hb)
   have GS2 := a_ (Nat.le_trans GS.out hb.size)
   have HBR2 := a_ (below_step HBR.out hb)
   clear ST HM HV2 HO HX GS HBR hb
   have HBR := HBR2
   clear HBR2
   have ST := ST2
   have HM := HM2
   have HV2 := HV22
   have HO := HO2
   have HX := HX2
   have GS := GS2
   clear ST2 HM2 HV22 HO2 HX2 GS2
   clear ho3
   refine hK.out _ _ ⟨(blk_cell HO.out 0).trans rfl, (blk_cell HX.out 1).trans rfl, (blk_cell HX.out 3).trans rfl⟩ (fun hHeld => ?_)
   clear hK K
   refine norm_ (a' := ?_) ?_ ?_
   rotate_left
   ·show Act.put _ (some 30) _ = _
    simp only [Act.put, List.setIfInBounds_toArray, List.set_cons_zero, List.set_cons_succ, i64_w, i32_w]
    rfl
   refine one_ (i := 13) (N := some 34) #[true, true, true, true, true, true, true, true, true, true, true, true, true, true, false, false, false, false, false, false, false, false] rfl rfl (one_of HT_.out (by kernel_rfl)) (by decide) (fun K hK => ?_)
   refine goes_ Try.func83 (by kernel_rfl) rfl #[.slice C3 (rd_T63 l0_0 x16).f1.f2.length e3] (by rfl) rfl rfl (by (try simp only [List.map_toArray, List.map_cons, List.map_nil]); first | done | rfl) ?_
   with_reducible refine (api_Sign_83.calls C3 e3 (rd_T63 l0_0 x16).f1.f2 (rd_T63 l0_0 x16).f1.f2 _ ?s1 HE3.out ?s2).mono ?_
   (case s1 => exact Kd.C_below HI3.out HBR.out)
   (case s2 => rw [api_Sign_83.f, if_pos HF.out.2])
   rintro e W8 ⟨v4, rfl, ho4, hb⟩
   refine ⟨_, rfl, ?_⟩
   obtain ⟨B4, d4, rfl⟩ := Kd.R_slice ho4
   have HJ := a_ (Kd.R_mono (ok' := fun k => G ≤ k) (Kd.R_tight (by decide) ho4) (fun k hk => Nat.le_trans GS.out (Kd.R_base ho4 k hk.symm)))
   have HI2 := a_ (Kd.R_below HI.out hb)
   clear HI
   have HI := HI2
   clear HI2
   have ST2 := a_ (ST.out.step hb)
   have HM2 := a_ (HM.out.below hb)
   have HV22 := a_ (Kd.R_below HV2.out hb)
   have HO2 := a_ (blk_below HO.out hb)
   have HX2 := a_ (blk_below HX.out hb)
   have GS2 := a_ (Nat.le_trans GS.out hb.size)
   have HBR2 := a_ (below_step HBR.out hb)
   clear ST HM HV2 HO HX GS HBR hb
   have HBR := HBR2
   clear HBR2
   have ST := ST2
   have HM := HM2
   have HV2 := HV22
   have HO := HO2
   have HX := HX2
   have GS := GS2
   clear ST2 HM2 HV22 HO2 HX2 GS2
   clear ho4
   refine hK.out _ _ ⟨(blk_cell HO.out 0).trans rfl, (blk_cell HX.out 1).trans rfl, (blk_cell HX.out 3).trans rfl⟩ (fun hHeld => ?_)
   clear hK K
   refine norm_ (a' := ?_) ?_ ?_
   rotate_left
   ·show Act.put _ (some 34) _ = _
    simp only [Act.put, List.setIfInBounds_toArray, List.set_cons_zero, List.set_cons_succ, i64_w, i32_w]
    rfl
   refine pq_ 14 (some 35) #[true, true, true, true, true, true, true, true, true, true, true, true, true, true, true, false, false, false, false, false, false, false] ?_
   refine pq_ 15 (some 36) #[true, true, true, true, true, true, true, true, true, true, true, true, true, true, true, true, false, false, false, false, false, false] ?_
   refine pq_ 16 (some 37) #[true, true, true, true, true, true, true, true, true, true, true, true, true, true, true, true, true, false, false, false, false, false] ?_
   obtain ⟨⟨q1, hz1⟩, ⟨q3, hz3⟩, hzf⟩ := Mid69.two HM.out HX0.out HLTX.out
   refine one_ (i := 17) (N := none) #[true, true, true, true, true, true, true, true, true, true, true, true, true, true, true, true, true, true, false, false, false, false] rfl rfl (one_of HT_.out (by kernel_rfl)) (by decide) (fun K hK => ?_)
   have hzf1 := hzf 1
   refine skip_ (w1 := ?_) (by rfl) rfl ?_ ?_
   rotate_left
   ·go_simp
    rfl
   refine hK.out _ _ ⟨(cell_far (p := ⟨g, _, none⟩) NGO.out _).trans hHeld.1, (cell_far (p := ⟨g, _, none⟩) NGX.out _).trans hHeld.2.1, (cell_far (p := ⟨g, _, none⟩) NGX.out _).trans hHeld.2.2⟩ (fun hHeld => ?_)
   clear hK K
   refine pq_ 18 (some 38) #[true, true, true, true, true, true, true, true, true, true, true, true, true, true, true, true, true, true, true, false, false, false] ?_
   refine pq_ 19 (some 39) #[true, true, true, true, true, true, true, true, true, true, true, true, true, true, true, true, true, true, true, true, false, false] ?_
   refine pq_ 20 (some 40) #[true, true, true, true, true, true, true, true, true, true, true, true, true, true, true, true, true, true, true, true, true, false] ?_
   refine one_ (i := 21) (N := none) #[true, true, true, true, true, true, true, true, true, true, true, true, true, true, true, true, true, true, true, true, true, true] rfl rfl (one_of HT_.out (by kernel_rfl)) (by decide) (fun K hK => ?_)
   have hz3' : (W8.setCell ⟨g, x16.toNat * 4 + 1, none⟩ (.slice B3 (rd_T63 l0_0 x16).f1.f0.length d3)).cell? ⟨g, x16.toNat * 4 + 3, none⟩ = some _ := (World.cell?_setCell_other W8 _ _ _ (by intro he; injection he with _ e2 _; omega)).trans hz3
   have hzf3 : (W8.setCell ⟨g, x16.toNat * 4 + 1, none⟩ (.slice B3 (rd_T63 l0_0 x16).f1.f0.length d3)).frozen? ⟨g, x16.toNat * 4 + 3, none⟩ = false := (frozen_set69 _ _ _ _).trans (hzf 3)
   refine skip_ (w1 := ?_) (by rfl) rfl ?_ ?_
   rotate_left
   ·go_simp
    rfl
   refine hK.out _ _ ⟨(cell_far (p := ⟨g, _, none⟩) NGO.out _).trans hHeld.1, (cell_far (p := ⟨g, _, none⟩) NGX.out _).trans hHeld.2.1, (cell_far (p := ⟨g, _, none⟩) NGX.out _).trans hHeld.2.2⟩ (fun hHeld => ?_)
   clear hK K
   refine done_ (done_of HT_.out (by kernel_rfl)) ?_
   have ge := HGB.out
   obtain ⟨gcur, hgc⟩ := Mid69.typed HM.out
   have hm := Mid69.put HM.out (by have := HX1.out; have := HLTX.out; have := HX0.out; omega) HGL.out HGB.out HGET.out HI.out HJ.out
   have hst : St69 w gP gR (.cells #[.slice A0_0 l0_0.length c0_0, .slice A0_1 l0_1.length c0_1] 48 (0, 0)) (.cells #[.slice none 0 0, .slice none 0 0] 48 (0, 0)) ((W8.setCell ⟨g, x16.toNat * 4 + 1, none⟩ (.slice B3 (rd_T63 l0_0 x16).f1.f0.length d3)).setCell ⟨g, x16.toNat * 4 + 3, none⟩ (.slice B4 (rd_T63 l0_0 x16).f1.f2.length d4)) :=
    ⟨below_set (below_set ST.out.b ge) ge, (Below.heap_setCell _ _ _ gP NGP.out).trans ((Below.heap_setCell _ _ _ gP NGP.out).trans ST.out.p), (Below.heap_setCell _ _ _ gR NGR.out).trans ((Below.heap_setCell _ _ _ gR NGR.out).trans ST.out.r)⟩
   have ho := (Below.heap_setCell (W8.setCell ⟨g, x16.toNat * 4 + 1, none⟩ (.slice B3 (rd_T63 l0_0 x16).f1.f0.length d3)) ⟨g, x16.toNat * 4 + 3, none⟩ (.slice B4 (rd_T63 l0_0 x16).f1.f2.length d4) gO NGO.out).trans ((Below.heap_setCell W8 ⟨g, x16.toNat * 4 + 1, none⟩ (.slice B3 (rd_T63 l0_0 x16).f1.f0.length d3) gO NGO.out).trans HO.out)
   have hv2 := Kd.R_mono (ok' := fun _ => True) (Kd.R_far (p := ⟨g, x16.toNat * 4 + 3, none⟩) (Kd.R_far (p := ⟨g, x16.toNat * 4 + 1, none⟩) (Kd.R_types HV2.out hgc (by decide)) (fun _ hk => hk.2) (.slice B3 (rd_T63 l0_0 x16).f1.f0.length d3)) (fun _ hk => hk.2) (.slice B4 (rd_T63 l0_0 x16).f1.f2.length d4)) (fun _ _ => trivial)
   have hgs : G ≤ ((W8.setCell ⟨g, x16.toNat * 4 + 1, none⟩ (.slice B3 (rd_T63 l0_0 x16).f1.f0.length d3)).setCell ⟨g, x16.toNat * 4 + 3, none⟩ (.slice B4 (rd_T63 l0_0 x16).f1.f2.length d4)).heap.size := by
    have h1 := blk_lt ho
    have h2 := GS.out
    have h3 : ((W8.setCell ⟨g, x16.toNat * 4 + 1, none⟩ (.slice B3 (rd_T63 l0_0 x16).f1.f0.length d3)).setCell ⟨g, x16.toNat * 4 + 3, none⟩ (.slice B4 (rd_T63 l0_0 x16).f1.f2.length d4)).heap.size = W8.heap.size := by go_simp
    omega
   clear hz1 hz3 hz3' hzf hzf1 hzf3 hHeld hgc ge
   clear ST HM HV2 HO GS HX HI HJ HBR
   generalize (W8.setCell ⟨g, x16.toNat * 4 + 1, none⟩ (.slice B3 (rd_T63 l0_0 x16).f1.f0.length d3)).setCell ⟨g, x16.toNat * 4 + 3, none⟩ (.slice B4 (rd_T63 l0_0 x16).f1.f2.length d4) = W9 at hm hst ho hv2 hgs ⊢
   have ST := a_ hst
   have HM := a_ hm
   have HV2 := a_ hv2
   have HO := a_ ho
   have GS := a_ hgs
   clear hst hm hv2 ho hgs
   go_wp2
   rw [HW.out]
   go_roundw
   case measure => have h1 := HLTX.out; have h2 := HX0.out; simp only [intOf]; omega
   case rel => exact ⟨x16 + 1, rfl, ⟨by have := HX0.out; omega⟩, ⟨by have := HLTX.out; omega⟩, ST, ⟨by rw [show (x16 + 1).toNat = x16.toNat + 1 by have := HX0.out; omega]; exact HM.out⟩, HV2, HO, GS⟩
  ·have e16 : x16 = (l0_0.length : Int) := by have := HX1.out; omega
   have d1' : decide (x16 < (l0_0.length : Int)) = false := decide_eq_false hlt
   have hcz0 : wr.cell? ⟨gO, 0, none⟩ = some (.slice B1 l0_0.length d1) := (blk_cell HO.out 0).trans rfl
   have hcz1 : wr.cell? ⟨gO, 1, none⟩ = some (.slice B2 l0_1.length d2) := (blk_cell HO.out 1).trans rfl
   have hr0 : wr.cell? ⟨gR, 0, none⟩ = some (.slice none 0 0) := (blk_cell ST.out.r 0).trans rfl
   have hr1 : wr.cell? ⟨gR, 1, none⟩ = some (.slice none 0 0) := (blk_cell ST.out.r 1).trans rfl
   have hf0 := blk_frozen ST.out.r 0
   have hf1 := blk_frozen ST.out.r 1
   clear hlt
   go_wp2
   refine bodyPost_ret (results_single rfl (.cell gR 48 #[.slice B1 l0_0.length d1, .slice B2 l0_1.length d2] (0, 0) _ rfl (blk_put (cs := #[.slice B1 l0_0.length d1, .slice none 0 0]) (blk_put (cs := #[.slice none 0 0, .slice none 0 0]) ST.out.r 0 _ rfl) 1 _ rfl) Try.underlying48 rfl (by kernel_rfl) .nil)) rfl ?_
   have hge := NPR.out
   have hm := HM.out
   rw [show x16.toNat = l0_0.length by omega] at hm
   have hown2 : ∀ k, (Value.slice B1 l0_0.length d1).ownBlock = some k → k ≠ gR ∧ w.heap.size ≤ k ∧ some k ≠ (Value.slice B2 l0_1.length d2).ownBlock := fun k hk => by
    obtain ⟨_, _, hRr, _⟩ := hm
    have h1 := (Kd.R_types hRr ST.out.r (by decide)).1 k hk
    refine ⟨h1.2, Kd.R_base hRr k hk, fun he => ?_⟩
    obtain ⟨cells, hc⟩ := R_typed69 hRr k hk
    have h2 := (Kd.R_types HV2.out hc (by decide)).1 k he.symm
    exact h2.2 rfl
   have hN := Mid69.all hm HOWN.out (ok := fun k => (w.heap.size ≤ k ∧ some k ≠ (Value.slice B2 l0_1.length d2).ownBlock) ∧ k ≠ gR) (fun k hk => by
    have h1 := HLT.out
    refine ⟨⟨by omega, fun he => ?_⟩, by omega⟩
    have := HV2B.out k he.symm
    omega) (fun k hk => ⟨⟨(hown2 k hk).2.1, (hown2 k hk).2.2⟩, (hown2 k hk).1⟩)
   refine ⟨_, _, rfl, Kd.N_mono (Kd.N_far (p := ⟨gR, 1, none⟩) (Kd.N_far (p := ⟨gR, 0, none⟩) hN (fun _ hk => hk.2) _) (fun _ hk => hk.2) _) (fun _ hk => hk.1), Kd.R_mono (Kd.R_far (p := ⟨gR, 1, none⟩) (Kd.R_far (p := ⟨gR, 0, none⟩) (Kd.R_types (Kd.R_mono (Kd.R_tight (by decide) HV2.out) (fun k hk => Kd.R_base HV2.out k hk.symm) : k56.R 56 wr w.heap.size (fun k => w.heap.size ≤ k) _ _) ST.out.r (by decide)) (fun _ hk => hk.2) _) (fun _ hk => hk.2) _) (fun _ hk => hk.1), below_set (below_set ST.out.b hge) hge⟩
end Go.Proofs.Ytmhggplhfcmgkaa.Q
