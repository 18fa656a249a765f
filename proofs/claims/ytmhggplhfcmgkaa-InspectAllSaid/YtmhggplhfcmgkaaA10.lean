-- written by this session
import Derived.Test.YtmhggplhfcmgkaaQ9
import Derived.Test.YtmhggplhfcmgkaaQ18
import Derived.Test.YtmhggplhfcmgkaaQ19
import Derived.Test.YtmhggplhfcmgkaaQ21
namespace Go.Proofs.Ytmhggplhfcmgkaa.Q
open Go.RowKit Go.Proofs.YtmhggplhfcmgkaaW.PrintWords Go.Proofs.YtmhggplhfcmgkaaW.PrintLast Go.Proofs.YtmhggplhfcmgkaaW.PrintMore
attribute [local go_sem] max2_int min2_int max_two min_two max_three min_three max_four min_four   -- for this text's walks alone
set_option linter.unusedVariables false
set_option linter.unusedSimpArgs false
/-- A slice that came in, or one of the call's own: both can be read. -/
def Rdb {α : Type} (d : Kd α) (e : Nat) (w wr : World) (v : Value) (xs : List α) : Prop :=
  ∃ A c, v = .slice A xs.length c ∧ xs.length ≤ c ∧ (d.C w A xs.length xs ∨ d.R e wr w.heap.size (fun _ => True) v xs)
section
variable {α : Type} {d : Kd α} {e : Nat} {w wr w1 : World} {v : Value} {xs : List α}
theorem Rdb.c {A : Option Addr} {n c : Nat} (h : Rdb d e w wr (.slice A n c) xs) (hb : Below w.heap.size w wr) : n = xs.length ∧ xs.length ≤ c ∧ d.C wr A xs.length xs := by
  obtain ⟨A', c', he, hc, h⟩ := h
  injection he with e1 e2 e3
  subst e1 e2 e3
  exact ⟨rfl, hc, h.elim (fun h => Kd.C_below h hb) (fun h => (Kd.R_reads' h).2.2)⟩
theorem Rdb.below (h : Rdb d e w wr v xs) (hb : Below wr.heap.size wr w1) : Rdb d e w w1 v xs := by
  obtain ⟨A, c, rfl, hc, h⟩ := h
  exact ⟨A, c, rfl, hc, h.imp id (fun h => Kd.R_below h hb)⟩
theorem Rdb.set (h : Rdb d e w wr v xs) {g t : Nat} {cs : Array Value} (hb : wr.heap[g]? = some (.cells cs t (0, 0))) (ht : ∀ q, q ∈ e :: d.E → q ≠ t) (i : Nat) (u : Value) : Rdb d e w (wr.setCell ⟨g, i, none⟩ u) v xs := by
  obtain ⟨A, c, rfl, hc, h⟩ := h
  exact ⟨A, c, rfl, hc, h.imp id (fun h => Kd.R_mono (Kd.R_far (p := ⟨g, i, none⟩) (Kd.R_types h hb ht) (fun _ hk => hk.2) u) (fun _ _ => trivial))⟩
theorem Rdb.ofR {base : Nat} (h : d.R e w1 base (fun _ => True) v xs) (hb : w.heap.size ≤ base) : Rdb d e w w1 v xs := by
  obtain ⟨A, c, rfl⟩ := Kd.R_slice h
  exact ⟨A, c, rfl, (Kd.R_reads' h).2.1, Or.inr (Kd.R_lower h hb)⟩
theorem Rdb.ofC {A : Option Addr} {c : Nat} (h : d.C w A xs.length xs) (hc : xs.length ≤ c) : Rdb d e w wr (.slice A xs.length c) xs := ⟨A, c, rfl, hc, Or.inl h⟩
end
theorem Rdb.at_ {e : Nat} {w wr : World} {ad : Addr} {n c : Nat} {xs : List Int} (h : Rdb (Kd.int .i64) e w wr (.slice (some ad) n c) xs) (hb : Below w.heap.size w wr) (i : Int) (h0 : 0 ≤ i) (h1 : i < xs.length) : wr.cell? (ad.add i.toNat) = some (.int .i64 (rd xs i)) := by
  obtain ⟨ad', ea, hx⟩ := Kd.at_int (h.c hb).2.2 i h0 h1
  cases ea
  exact hx
/-- The round's state: the checklist as signed so far in the block gN, the open items. -/
structure StA (w W : World) (gN : Nat) (A : Option Addr) (c : Nat) (B : Option Addr) (d : Nat) (Ao : Option Addr) (co : Nat) (it : List Int) (ev : Int) (sg : List S35) (op : List Int) : Prop where
  b : Below w.heap.size w W
  n : W.heap[gN]? = some (.cells #[.slice A it.length c, .int .i64 ev, .slice B sg.length d] 25 (0, 0))
  i : Rdb (Kd.int .i64) 3 w W (.slice A it.length c) it
  s : Rdb k35 35 w W (.slice B sg.length d) sg
  o : Rdb (Kd.int .i64) 3 w W (.slice Ao op.length co) op
section
variable {w W W1 : World} {gN : Nat} {A : Option Addr} {c : Nat} {B : Option Addr} {d : Nat} {Ao : Option Addr} {co : Nat} {it : List Int} {ev : Int} {sg : List S35} {op : List Int}
theorem StA.step (h : StA w W gN A c B d Ao co it ev sg op) (hb : Below W.heap.size W W1) : StA w W1 gN A c B d Ao co it ev sg op :=
  ⟨below_step h.b hb, blk_below h.n hb, h.i.below hb, h.s.below hb, h.o.below hb⟩
theorem StA.set (h : StA w W gN A c B d Ao co it ev sg op) {g : Nat} {cs : Array Value} (hx : W.heap[g]? = some (.cells cs 25 (0, 0))) (hne : gN ≠ g) (hge : w.heap.size ≤ g) (i : Nat) (u : Value) : StA w (W.setCell ⟨g, i, none⟩ u) gN A c B d Ao co it ev sg op :=
  ⟨below_set h.b hge, blk_far h.n (p := ⟨g, i, none⟩) hne u, h.i.set hx (by decide) i u, h.s.set hx (by decide) i u, h.o.set hx (by decide) i u⟩
theorem StA.c0 (h : StA w W gN A c B d Ao co it ev sg op) : W.cell? ⟨gN, 0, none⟩ = some (.slice A it.length c) := (blk_cell h.n 0).trans rfl
theorem StA.c1 (h : StA w W gN A c B d Ao co it ev sg op) : W.cell? ⟨gN, 1, none⟩ = some (.int .i64 ev) := (blk_cell h.n 1).trans rfl
theorem StA.c2 (h : StA w W gN A c B d Ao co it ev sg op) : W.cell? ⟨gN, 2, none⟩ = some (.slice B sg.length d) := (blk_cell h.n 2).trans rfl
theorem StA.oc {ad : Addr} (h : StA w W gN A c B d (some ad) co it ev sg op) {i : Int} (h0 : 0 ≤ i) (h1 : i < op.length) : W.cell? (ad.add i.toNat) = some (.int .i64 (rd op i)) := h.o.at_ h.b i h0 h1
/-- The checklist of the next round is stored over the elder one. -/
theorem StA.put (h : StA w W gN A c B d Ao co it ev sg op) (hN : w.heap.size ≤ gN) {A1 : Option Addr} {c1 : Nat} {B1 : Option Addr} {d1 : Nat} {it1 : List Int} {ev1 : Int} {sg1 : List S35} (hi : Rdb (Kd.int .i64) 3 w W (.slice A1 it1.length c1) it1) (hs : Rdb k35 35 w W (.slice B1 sg1.length d1) sg1) :
    StA w (((W.setCell ⟨gN, 0, none⟩ (.slice A1 it1.length c1)).setCell ⟨gN, 1, none⟩ (.int .i64 ev1)).setCell ⟨gN, 2, none⟩ (.slice B1 sg1.length d1)) gN A1 c1 B1 d1 Ao co it1 ev1 sg1 op := by
  have n0 := blk_put (cs' := #[.slice A1 it1.length c1, .int .i64 ev, .slice B sg.length d]) h.n 0 (.slice A1 it1.length c1) rfl
  have n1 := blk_put (cs' := #[.slice A1 it1.length c1, .int .i64 ev1, .slice B sg.length d]) n0 1 (.int .i64 ev1) rfl
  have n2 := blk_put (cs' := #[.slice A1 it1.length c1, .int .i64 ev1, .slice B1 sg1.length d1]) n1 2 (.slice B1 sg1.length d1) rfl
  exact ⟨below_set (below_set (below_set h.b hN) hN) hN, n2, ((hi.set h.n (by decide) 0 _).set n0 (by decide) 1 _).set n1 (by decide) 2 _, ((hs.set h.n (by decide) 0 _).set n0 (by decide) 1 _).set n1 (by decide) 2 _, ((h.o.set h.n (by decide) 0 _).set n0 (by decide) 1 _).set n1 (by decide) 2 _⟩
end
/-- All open items are signed, one after the other; then it is asked whether the checklist is done, and until when. -/
def goA (k : Nat) (by_ t : Int) : List Int → List Int → Int → List S35 → Option Bool
  | [], it, ev, sg => (inspect_Done.f it ev sg t).bind fun d => if d = true then (inspect_Until.f k it ev sg t).bind fun u => some (decide (u > t) == decide (t < 20000000)) else some false
  | o :: os, it, ev, sg => (inspect_Sign.f k it ev sg o by_ t).bind fun x => if x.2.2.2 = 4 then some true else if x.2.2.2 = 0 then goA k by_ t os x.1 x.2.1 x.2.2.1 else some false
def skiarealaw19_InspectAll.f (k : Nat) (l0_0 : List Int) (a0_1 : Int) (l0_2 : List S35) (a1 a2 : Int) : Option Bool :=
  skiarealaw19_alive.f.bind fun al => if al = true then
    if (l0_0.length : Int) > 80 then some true else if (l0_2.length : Int) > 220 then some true else
    (inspect_Right.f k l0_0 a0_1 l0_2).bind fun e => if e ≠ 0 then some true else
    if a1 < 1 then some true else if a1 > 9999 then some true else if a2 < 0 then some true else if a2 > 20000000 then some true else
    if l0_2.any (fun s => decide (s.f2 > a2)) = true then some true else
    (inspect_Open.f l0_0 a0_1 l0_2 a2).bind fun op => goA k a1 a2 op l0_0 a0_1 l0_2
  else some false
def skiarealaw19_InspectAll.T15 : Bool × List (List Nat × List Nat) := (true, [([], []), ([], []), ([], []), ([1, 2], [1, 2]), ([3], [3]), ([], []), ([], []), ([0, 4, 5, 6], [0, 4, 5, 6]), ([7], [7]), ([8], [8]), ([8], [8]), ([], []), ([11, 9, 7, 0, 1, 2, 3, 4, 5, 6, 7, 8, 9, 11], [9, 11]), ([10, 12, 0, 1, 2, 3, 4, 5, 6, 7, 8, 9, 10, 11, 12], [10])])
def skiarealaw19_InspectAll.B15 : List Nat := [0, 0, 0, 6, 14, 0, 0, 127, 255, 511, 511, 0, 3071, 8191]
theorem skiarealaw19_InspectAll.tab15 : rtab .any (opsOf Try.f10 15) = skiarealaw19_InspectAll.T15 := by kernel_rfl
theorem skiarealaw19_InspectAll.bits15 : waitsOk skiarealaw19_InspectAll.T15.2 skiarealaw19_InspectAll.B15 = true := by kernel_rfl
theorem rd_cons_dropA (l : List Int) (i : Int) (h0 : 0 ≤ i) (h1 : i < l.length) : l.drop i.toNat = rd l i :: l.drop (i + 1).toNat := by
  rw [List.drop_eq_getElem_cons (by omega), show (i + 1).toNat = i.toNat + 1 by omega]
  simp [rd, List.getD_eq_getElem?_getD, List.getElem?_eq_getElem (show i.toNat < l.length by omega)]
theorem any_of_rd35 {l : List S35} {p : S35 → Bool} (h : ∀ i : Int, 0 ≤ i → i < l.length → p (rd_T35 l i) = false) : l.any p = false := by
  rw [List.any_eq_false]
  intro x hx
  obtain ⟨j, hj, rfl⟩ := List.mem_iff_getElem.mp hx
  have := h (j : Int) (by omega) (by omega)
  simpa [rd_T35, List.getD_eq_getElem?_getD, List.getElem?_eq_getElem hj] using this
set_option maxHeartbeats 4000000 in
theorem skiarealaw19_InspectAll.calls (k : Nat) (A0_0 : Option Addr) (c0_0 : Nat) (l0_0 : List Int) (a0_1 : Int) (A0_2 : Option Addr) (c0_2 : Nat) (l0_2 : List (S35)) (a1 : Int) (a2 : Int) (w : World) (hr0_0 : Kd.C (Kd.int .i64) w A0_0 l0_0.length l0_0) (hc0_0 : l0_0.length ≤ c0_0) (hr0_2 : Kd.C k35 w A0_2 l0_2.length l0_2) (hc0_2 : l0_2.length ≤ c0_2) (h : skiarealaw19_InspectAll.f k l0_0 a0_1 l0_2 a1 a2 = some true) :
    Calls Try.prog 10 #[.agg #[.slice A0_0 l0_0.length c0_0, .int .i64 a0_1, .slice A0_2 l0_2.length c0_2], .int .i64 a1, .int .i64 a2] w fun e w' => e = .returned (.bool true) ∧ Below w.heap.size w w' := by
  have hu25 := Try.underlying25
  have hu35 := Try.underlying35
  have HR0_0 := Aside0.mk hr0_0
  have HC0_0 := Aside0.mk hc0_0
  have HR0_2 := Aside0.mk hr0_2
  have HC0_2 := Aside0.mk hc0_2
  have HM2 := Aside0.mk (Kd.C_max hr0_2)
  clear hr0_0 hc0_0 hr0_2 hc0_2
  unfold skiarealaw19_InspectAll.f at h
  obtain ⟨al, hal, h⟩ := Option.bind_eq_some_iff.mp h
  have HAL := Aside0.mk hal
  clear hal
  cases al with
  | false => exact absurd h (by simp)
  | true =>
  replace h := (if_pos rfl).symm.trans h
  have HB := Aside0.mk (Below.refl w.heap.size w)
  by_cases n1 : (l0_0.length : Int) > 80
  · have d1 : decide (80 < (l0_0.length : Int)) = true := decide_eq_true n1
    have d1' : decide (80 < l0_0.length) = true := decide_eq_true (by omega)
    clear h n1
    go_enter Try.func10, Try.ntmps10
    go_wp2_with (first | ((with_reducible refine gate_dst (N := 3) rfl ?_); refine box_event ?hg (N := 3) ?hd (cs := #[.slice A0_0 l0_0.length c0_0, .int .i64 a0_1, .slice A0_2 l0_2.length c0_2]) (t := 25) ?hr ?_; (case hd => rfl); (case hg => rfl); (case hr => first | (go_simp; done) | (go_simp; rfl)); intro gb hg w_gb hbox hb; have n0_ := Aside0.mk (below_step (by repeat (first | (with_reducible first | exact HB.out | apply below_alloc | apply pw_below_drewN | apply below_drew1) | exact HB.out)) hb); have n1_ := Aside0.mk (hbox); have n2_ := Aside0.mk ((by rw [hg]; exact (below_size (by repeat (first | (with_reducible first | exact HB.out | apply below_alloc | apply pw_below_drewN | apply below_drew1) | exact HB.out))) : w.heap.size ≤ gb)); clear HB; have HB := n0_; have BKgb := n1_; have GEgb := n2_; clear n0_ n1_ n2_; clear hb hbox hg; have hczgb_0 : w_gb.cell? ⟨gb, 0, none⟩ = some (.slice A0_0 l0_0.length c0_0) := (blk_cell BKgb.out 0).trans rfl; have hczgb_1 : w_gb.cell? ⟨gb, 1, none⟩ = some (.int .i64 a0_1) := (blk_cell BKgb.out 1).trans rfl; have hczgb_2 : w_gb.cell? ⟨gb, 2, none⟩ = some (.slice A0_2 l0_2.length c0_2) := (blk_cell BKgb.out 2).trans rfl; have hfzgb_0 := blk_frozen BKgb.out 0; have hfzgb_1 := blk_frozen BKgb.out 1; have hfzgb_2 := blk_frozen BKgb.out 2) | (go_at_call 18; (with_reducible refine (skiarealaw19_alive.calls true _ HAL.out).mono ?_); rintro e w10 ⟨rfl, hb⟩; have n0_ := Aside0.mk (below_step HB.out hb); clear HB; have HB := n0_; clear n0_; have m_gb := Aside0.mk (blk_below BKgb.out hb); clear BKgb; (try clear hczgb_0 hczgb_1 hczgb_2); (try clear hfzgb_0 hfzgb_1 hfzgb_2); have BKgb := m_gb; clear m_gb; have hczgb_0 : w10.cell? ⟨gb, 0, none⟩ = some (.slice A0_0 l0_0.length c0_0) := (blk_cell BKgb.out 0).trans rfl; have hczgb_1 : w10.cell? ⟨gb, 1, none⟩ = some (.int .i64 a0_1) := (blk_cell BKgb.out 1).trans rfl; have hczgb_2 : w10.cell? ⟨gb, 2, none⟩ = some (.slice A0_2 l0_2.length c0_2) := (blk_cell BKgb.out 2).trans rfl; have hfzgb_0 := blk_frozen BKgb.out 0; have hfzgb_1 := blk_frozen BKgb.out 1; have hfzgb_2 := blk_frozen BKgb.out 2; clear hb))
    go_ret
    exact ⟨rfl, HB.out⟩
  rw [if_neg n1] at h
  have d1 : decide (80 < (l0_0.length : Int)) = false := decide_eq_false n1
  have d1' : decide (80 < l0_0.length) = false := decide_eq_false (by omega)
  clear n1
  by_cases n2 : (l0_2.length : Int) > 220
  · have d2 : decide (220 < (l0_2.length : Int)) = true := decide_eq_true n2
    have d2' : decide (220 < l0_2.length) = true := decide_eq_true (by omega)
    clear h n2
    go_enter Try.func10, Try.ntmps10
    go_wp2_with (first | ((with_reducible refine gate_dst (N := 3) rfl ?_); refine box_event ?hg (N := 3) ?hd (cs := #[.slice A0_0 l0_0.length c0_0, .int .i64 a0_1, .slice A0_2 l0_2.length c0_2]) (t := 25) ?hr ?_; (case hd => rfl); (case hg => rfl); (case hr => first | (go_simp; done) | (go_simp; rfl)); intro gb hg w_gb hbox hb; have n0_ := Aside0.mk (below_step (by repeat (first | (with_reducible first | exact HB.out | apply below_alloc | apply pw_below_drewN | apply below_drew1) | exact HB.out)) hb); have n1_ := Aside0.mk (hbox); have n2_ := Aside0.mk ((by rw [hg]; exact (below_size (by repeat (first | (with_reducible first | exact HB.out | apply below_alloc | apply pw_below_drewN | apply below_drew1) | exact HB.out))) : w.heap.size ≤ gb)); clear HB; have HB := n0_; have BKgb := n1_; have GEgb := n2_; clear n0_ n1_ n2_; clear hb hbox hg; have hczgb_0 : w_gb.cell? ⟨gb, 0, none⟩ = some (.slice A0_0 l0_0.length c0_0) := (blk_cell BKgb.out 0).trans rfl; have hczgb_1 : w_gb.cell? ⟨gb, 1, none⟩ = some (.int .i64 a0_1) := (blk_cell BKgb.out 1).trans rfl; have hczgb_2 : w_gb.cell? ⟨gb, 2, none⟩ = some (.slice A0_2 l0_2.length c0_2) := (blk_cell BKgb.out 2).trans rfl; have hfzgb_0 := blk_frozen BKgb.out 0; have hfzgb_1 := blk_frozen BKgb.out 1; have hfzgb_2 := blk_frozen BKgb.out 2) | (go_at_call 18; (with_reducible refine (skiarealaw19_alive.calls true _ HAL.out).mono ?_); rintro e w10 ⟨rfl, hb⟩; have n0_ := Aside0.mk (below_step HB.out hb); clear HB; have HB := n0_; clear n0_; have m_gb := Aside0.mk (blk_below BKgb.out hb); clear BKgb; (try clear hczgb_0 hczgb_1 hczgb_2); (try clear hfzgb_0 hfzgb_1 hfzgb_2); have BKgb := m_gb; clear m_gb; have hczgb_0 : w10.cell? ⟨gb, 0, none⟩ = some (.slice A0_0 l0_0.length c0_0) := (blk_cell BKgb.out 0).trans rfl; have hczgb_1 : w10.cell? ⟨gb, 1, none⟩ = some (.int .i64 a0_1) := (blk_cell BKgb.out 1).trans rfl; have hczgb_2 : w10.cell? ⟨gb, 2, none⟩ = some (.slice A0_2 l0_2.length c0_2) := (blk_cell BKgb.out 2).trans rfl; have hfzgb_0 := blk_frozen BKgb.out 0; have hfzgb_1 := blk_frozen BKgb.out 1; have hfzgb_2 := blk_frozen BKgb.out 2; clear hb))
    go_ret
    exact ⟨rfl, HB.out⟩
  rw [if_neg n2] at h
  have d2 : decide (220 < (l0_2.length : Int)) = false := decide_eq_false n2
  have d2' : decide (220 < l0_2.length) = false := decide_eq_false (by omega)
  clear n2
  obtain ⟨re, hre, h⟩ := Option.bind_eq_some_iff.mp h
  have HRE := Aside0.mk hre
  clear hre
  by_cases n3 : re ≠ 0
  · have d3 : (re != 0) = true := by simpa using n3
    clear h
    go_enter Try.func10, Try.ntmps10
    go_wp2_with (first | ((with_reducible refine gate_dst (N := 3) rfl ?_); refine box_event ?hg (N := 3) ?hd (cs := #[.slice A0_0 l0_0.length c0_0, .int .i64 a0_1, .slice A0_2 l0_2.length c0_2]) (t := 25) ?hr ?_; (case hd => rfl); (case hg => rfl); (case hr => first | (go_simp; done) | (go_simp; rfl)); intro gb hg w_gb hbox hb; have n0_ := Aside0.mk (below_step (by repeat (first | (with_reducible first | exact HB.out | apply below_alloc | apply pw_below_drewN | apply below_drew1) | exact HB.out)) hb); have n1_ := Aside0.mk (hbox); have n2_ := Aside0.mk ((by rw [hg]; exact (below_size (by repeat (first | (with_reducible first | exact HB.out | apply below_alloc | apply pw_below_drewN | apply below_drew1) | exact HB.out))) : w.heap.size ≤ gb)); clear HB; have HB := n0_; have BKgb := n1_; have GEgb := n2_; clear n0_ n1_ n2_; clear hb hbox hg; have hczgb_0 : w_gb.cell? ⟨gb, 0, none⟩ = some (.slice A0_0 l0_0.length c0_0) := (blk_cell BKgb.out 0).trans rfl; have hczgb_1 : w_gb.cell? ⟨gb, 1, none⟩ = some (.int .i64 a0_1) := (blk_cell BKgb.out 1).trans rfl; have hczgb_2 : w_gb.cell? ⟨gb, 2, none⟩ = some (.slice A0_2 l0_2.length c0_2) := (blk_cell BKgb.out 2).trans rfl; have hfzgb_0 := blk_frozen BKgb.out 0; have hfzgb_1 := blk_frozen BKgb.out 1; have hfzgb_2 := blk_frozen BKgb.out 2) | (go_at_call 18; (with_reducible refine (skiarealaw19_alive.calls true _ HAL.out).mono ?_); rintro e w10 ⟨rfl, hb⟩; have n0_ := Aside0.mk (below_step HB.out hb); clear HB; have HB := n0_; clear n0_; have m_gb := Aside0.mk (blk_below BKgb.out hb); clear BKgb; (try clear hczgb_0 hczgb_1 hczgb_2); (try clear hfzgb_0 hfzgb_1 hfzgb_2); have BKgb := m_gb; clear m_gb; have hczgb_0 : w10.cell? ⟨gb, 0, none⟩ = some (.slice A0_0 l0_0.length c0_0) := (blk_cell BKgb.out 0).trans rfl; have hczgb_1 : w10.cell? ⟨gb, 1, none⟩ = some (.int .i64 a0_1) := (blk_cell BKgb.out 1).trans rfl; have hczgb_2 : w10.cell? ⟨gb, 2, none⟩ = some (.slice A0_2 l0_2.length c0_2) := (blk_cell BKgb.out 2).trans rfl; have hfzgb_0 := blk_frozen BKgb.out 0; have hfzgb_1 := blk_frozen BKgb.out 1; have hfzgb_2 := blk_frozen BKgb.out 2; clear hb) | (go_at_call 19; (with_reducible refine (inspect_Right.calls k A0_0 c0_0 l0_0 a0_1 A0_2 c0_2 l0_2 re _ ?s1 HC0_0.out ?s2 HC0_2.out HRE.out).mono ?_); (case s1 => exact Kd.C_below HR0_0.out HB.out); (case s2 => exact Kd.C_below HR0_2.out HB.out); rintro e w11 ⟨rfl, hb⟩; have n0_ := Aside0.mk (below_step HB.out hb); clear HB; have HB := n0_; clear n0_; have m_gb := Aside0.mk (blk_below BKgb.out hb); clear BKgb; (try clear hczgb_0 hczgb_1 hczgb_2); (try clear hfzgb_0 hfzgb_1 hfzgb_2); have BKgb := m_gb; clear m_gb; have hczgb_0 : w11.cell? ⟨gb, 0, none⟩ = some (.slice A0_0 l0_0.length c0_0) := (blk_cell BKgb.out 0).trans rfl; have hczgb_1 : w11.cell? ⟨gb, 1, none⟩ = some (.int .i64 a0_1) := (blk_cell BKgb.out 1).trans rfl; have hczgb_2 : w11.cell? ⟨gb, 2, none⟩ = some (.slice A0_2 l0_2.length c0_2) := (blk_cell BKgb.out 2).trans rfl; have hfzgb_0 := blk_frozen BKgb.out 0; have hfzgb_1 := blk_frozen BKgb.out 1; have hfzgb_2 := blk_frozen BKgb.out 2; clear hb))
    go_ret
    exact ⟨rfl, HB.out⟩
  rw [if_neg n3] at h
  obtain rfl : re = 0 := by simpa using n3
  clear n3
  by_cases n4 : a1 < 1
  · have d4 : decide (a1 < 1) = true := decide_eq_true n4
    clear h n4
    go_enter Try.func10, Try.ntmps10
    go_wp2_with (first | ((with_reducible refine gate_dst (N := 3) rfl ?_); refine box_event ?hg (N := 3) ?hd (cs := #[.slice A0_0 l0_0.length c0_0, .int .i64 a0_1, .slice A0_2 l0_2.length c0_2]) (t := 25) ?hr ?_; (case hd => rfl); (case hg => rfl); (case hr => first | (go_simp; done) | (go_simp; rfl)); intro gb hg w_gb hbox hb; have n0_ := Aside0.mk (below_step (by repeat (first | (with_reducible first | exact HB.out | apply below_alloc | apply pw_below_drewN | apply below_drew1) | exact HB.out)) hb); have n1_ := Aside0.mk (hbox); have n2_ := Aside0.mk ((by rw [hg]; exact (below_size (by repeat (first | (with_reducible first | exact HB.out | apply below_alloc | apply pw_below_drewN | apply below_drew1) | exact HB.out))) : w.heap.size ≤ gb)); clear HB; have HB := n0_; have BKgb := n1_; have GEgb := n2_; clear n0_ n1_ n2_; clear hb hbox hg; have hczgb_0 : w_gb.cell? ⟨gb, 0, none⟩ = some (.slice A0_0 l0_0.length c0_0) := (blk_cell BKgb.out 0).trans rfl; have hczgb_1 : w_gb.cell? ⟨gb, 1, none⟩ = some (.int .i64 a0_1) := (blk_cell BKgb.out 1).trans rfl; have hczgb_2 : w_gb.cell? ⟨gb, 2, none⟩ = some (.slice A0_2 l0_2.length c0_2) := (blk_cell BKgb.out 2).trans rfl; have hfzgb_0 := blk_frozen BKgb.out 0; have hfzgb_1 := blk_frozen BKgb.out 1; have hfzgb_2 := blk_frozen BKgb.out 2) | (go_at_call 18; (with_reducible refine (skiarealaw19_alive.calls true _ HAL.out).mono ?_); rintro e w10 ⟨rfl, hb⟩; have n0_ := Aside0.mk (below_step HB.out hb); clear HB; have HB := n0_; clear n0_; have m_gb := Aside0.mk (blk_below BKgb.out hb); clear BKgb; (try clear hczgb_0 hczgb_1 hczgb_2); (try clear hfzgb_0 hfzgb_1 hfzgb_2); have BKgb := m_gb; clear m_gb; have hczgb_0 : w10.cell? ⟨gb, 0, none⟩ = some (.slice A0_0 l0_0.length c0_0) := (blk_cell BKgb.out 0).trans rfl; have hczgb_1 : w10.cell? ⟨gb, 1, none⟩ = some (.int .i64 a0_1) := (blk_cell BKgb.out 1).trans rfl; have hczgb_2 : w10.cell? ⟨gb, 2, none⟩ = some (.slice A0_2 l0_2.length c0_2) := (blk_cell BKgb.out 2).trans rfl; have hfzgb_0 := blk_frozen BKgb.out 0; have hfzgb_1 := blk_frozen BKgb.out 1; have hfzgb_2 := blk_frozen BKgb.out 2; clear hb) | (go_at_call 19; (with_reducible refine (inspect_Right.calls k A0_0 c0_0 l0_0 a0_1 A0_2 c0_2 l0_2 0 _ ?s1 HC0_0.out ?s2 HC0_2.out HRE.out).mono ?_); (case s1 => exact Kd.C_below HR0_0.out HB.out); (case s2 => exact Kd.C_below HR0_2.out HB.out); rintro e w11 ⟨rfl, hb⟩; have n0_ := Aside0.mk (below_step HB.out hb); clear HB; have HB := n0_; clear n0_; have m_gb := Aside0.mk (blk_below BKgb.out hb); clear BKgb; (try clear hczgb_0 hczgb_1 hczgb_2); (try clear hfzgb_0 hfzgb_1 hfzgb_2); have BKgb := m_gb; clear m_gb; have hczgb_0 : w11.cell? ⟨gb, 0, none⟩ = some (.slice A0_0 l0_0.length c0_0) := (blk_cell BKgb.out 0).trans rfl; have hczgb_1 : w11.cell? ⟨gb, 1, none⟩ = some (.int .i64 a0_1) := (blk_cell BKgb.out 1).trans rfl; have hczgb_2 : w11.cell? ⟨gb, 2, none⟩ = some (.slice A0_2 l0_2.length c0_2) := (blk_cell BKgb.out 2).trans rfl; have hfzgb_0 := blk_frozen BKgb.out 0; have hfzgb_1 := blk_frozen BKgb.out 1; have hfzgb_2 := blk_frozen BKgb.out 2; clear hb))
    go_ret
    exact ⟨rfl, HB.out⟩
  rw [if_neg n4] at h
  have d4 : decide (a1 < 1) = false := decide_eq_false n4
  clear n4
  by_cases n5 : a1 > 9999
  · have d5 : decide (9999 < a1) = true := decide_eq_true n5
    clear h n5
    go_enter Try.func10, Try.ntmps10
    go_wp2_with (first | ((with_reducible refine gate_dst (N := 3) rfl ?_); refine box_event ?hg (N := 3) ?hd (cs := #[.slice A0_0 l0_0.length c0_0, .int .i64 a0_1, .slice A0_2 l0_2.length c0_2]) (t := 25) ?hr ?_; (case hd => rfl); (case hg => rfl); (case hr => first | (go_simp; done) | (go_simp; rfl)); intro gb hg w_gb hbox hb; have n0_ := Aside0.mk (below_step (by repeat (first | (with_reducible first | exact HB.out | apply below_alloc | apply pw_below_drewN | apply below_drew1) | exact HB.out)) hb); have n1_ := Aside0.mk (hbox); have n2_ := Aside0.mk ((by rw [hg]; exact (below_size (by repeat (first | (with_reducible first | exact HB.out | apply below_alloc | apply pw_below_drewN | apply below_drew1) | exact HB.out))) : w.heap.size ≤ gb)); clear HB; have HB := n0_; have BKgb := n1_; have GEgb := n2_; clear n0_ n1_ n2_; clear hb hbox hg; have hczgb_0 : w_gb.cell? ⟨gb, 0, none⟩ = some (.slice A0_0 l0_0.length c0_0) := (blk_cell BKgb.out 0).trans rfl; have hczgb_1 : w_gb.cell? ⟨gb, 1, none⟩ = some (.int .i64 a0_1) := (blk_cell BKgb.out 1).trans rfl; have hczgb_2 : w_gb.cell? ⟨gb, 2, none⟩ = some (.slice A0_2 l0_2.length c0_2) := (blk_cell BKgb.out 2).trans rfl; have hfzgb_0 := blk_frozen BKgb.out 0; have hfzgb_1 := blk_frozen BKgb.out 1; have hfzgb_2 := blk_frozen BKgb.out 2) | (go_at_call 18; (with_reducible refine (skiarealaw19_alive.calls true _ HAL.out).mono ?_); rintro e w10 ⟨rfl, hb⟩; have n0_ := Aside0.mk (below_step HB.out hb); clear HB; have HB := n0_; clear n0_; have m_gb := Aside0.mk (blk_below BKgb.out hb); clear BKgb; (try clear hczgb_0 hczgb_1 hczgb_2); (try clear hfzgb_0 hfzgb_1 hfzgb_2); have BKgb := m_gb; clear m_gb; have hczgb_0 : w10.cell? ⟨gb, 0, none⟩ = some (.slice A0_0 l0_0.length c0_0) := (blk_cell BKgb.out 0).trans rfl; have hczgb_1 : w10.cell? ⟨gb, 1, none⟩ = some (.int .i64 a0_1) := (blk_cell BKgb.out 1).trans rfl; have hczgb_2 : w10.cell? ⟨gb, 2, none⟩ = some (.slice A0_2 l0_2.length c0_2) := (blk_cell BKgb.out 2).trans rfl; have hfzgb_0 := blk_frozen BKgb.out 0; have hfzgb_1 := blk_frozen BKgb.out 1; have hfzgb_2 := blk_frozen BKgb.out 2; clear hb) | (go_at_call 19; (with_reducible refine (inspect_Right.calls k A0_0 c0_0 l0_0 a0_1 A0_2 c0_2 l0_2 0 _ ?s1 HC0_0.out ?s2 HC0_2.out HRE.out).mono ?_); (case s1 => exact Kd.C_below HR0_0.out HB.out); (case s2 => exact Kd.C_below HR0_2.out HB.out); rintro e w11 ⟨rfl, hb⟩; have n0_ := Aside0.mk (below_step HB.out hb); clear HB; have HB := n0_; clear n0_; have m_gb := Aside0.mk (blk_below BKgb.out hb); clear BKgb; (try clear hczgb_0 hczgb_1 hczgb_2); (try clear hfzgb_0 hfzgb_1 hfzgb_2); have BKgb := m_gb; clear m_gb; have hczgb_0 : w11.cell? ⟨gb, 0, none⟩ = some (.slice A0_0 l0_0.length c0_0) := (blk_cell BKgb.out 0).trans rfl; have hczgb_1 : w11.cell? ⟨gb, 1, none⟩ = some (.int .i64 a0_1) := (blk_cell BKgb.out 1).trans rfl; have hczgb_2 : w11.cell? ⟨gb, 2, none⟩ = some (.slice A0_2 l0_2.length c0_2) := (blk_cell BKgb.out 2).trans rfl; have hfzgb_0 := blk_frozen BKgb.out 0; have hfzgb_1 := blk_frozen BKgb.out 1; have hfzgb_2 := blk_frozen BKgb.out 2; clear hb))
    go_ret
    exact ⟨rfl, HB.out⟩
  rw [if_neg n5] at h
  have d5 : decide (9999 < a1) = false := decide_eq_false n5
  clear n5
  by_cases n6 : a2 < 0
  · have d6 : decide (a2 < 0) = true := decide_eq_true n6
    clear h n6
    go_enter Try.func10, Try.ntmps10
    go_wp2_with (first | ((with_reducible refine gate_dst (N := 3) rfl ?_); refine box_event ?hg (N := 3) ?hd (cs := #[.slice A0_0 l0_0.length c0_0, .int .i64 a0_1, .slice A0_2 l0_2.length c0_2]) (t := 25) ?hr ?_; (case hd => rfl); (case hg => rfl); (case hr => first | (go_simp; done) | (go_simp; rfl)); intro gb hg w_gb hbox hb; have n0_ := Aside0.mk (below_step (by repeat (first | (with_reducible first | exact HB.out | apply below_alloc | apply pw_below_drewN | apply below_drew1) | exact HB.out)) hb); have n1_ := Aside0.mk (hbox); have n2_ := Aside0.mk ((by rw [hg]; exact (below_size (by repeat (first | (with_reducible first | exact HB.out | apply below_alloc | apply pw_below_drewN | apply below_drew1) | exact HB.out))) : w.heap.size ≤ gb)); clear HB; have HB := n0_; have BKgb := n1_; have GEgb := n2_; clear n0_ n1_ n2_; clear hb hbox hg; have hczgb_0 : w_gb.cell? ⟨gb, 0, none⟩ = some (.slice A0_0 l0_0.length c0_0) := (blk_cell BKgb.out 0).trans rfl; have hczgb_1 : w_gb.cell? ⟨gb, 1, none⟩ = some (.int .i64 a0_1) := (blk_cell BKgb.out 1).trans rfl; have hczgb_2 : w_gb.cell? ⟨gb, 2, none⟩ = some (.slice A0_2 l0_2.length c0_2) := (blk_cell BKgb.out 2).trans rfl; have hfzgb_0 := blk_frozen BKgb.out 0; have hfzgb_1 := blk_frozen BKgb.out 1; have hfzgb_2 := blk_frozen BKgb.out 2) | (go_at_call 18; (with_reducible refine (skiarealaw19_alive.calls true _ HAL.out).mono ?_); rintro e w10 ⟨rfl, hb⟩; have n0_ := Aside0.mk (below_step HB.out hb); clear HB; have HB := n0_; clear n0_; have m_gb := Aside0.mk (blk_below BKgb.out hb); clear BKgb; (try clear hczgb_0 hczgb_1 hczgb_2); (try clear hfzgb_0 hfzgb_1 hfzgb_2); have BKgb := m_gb; clear m_gb; have hczgb_0 : w10.cell? ⟨gb, 0, none⟩ = some (.slice A0_0 l0_0.length c0_0) := (blk_cell BKgb.out 0).trans rfl; have hczgb_1 : w10.cell? ⟨gb, 1, none⟩ = some (.int .i64 a0_1) := (blk_cell BKgb.out 1).trans rfl; have hczgb_2 : w10.cell? ⟨gb, 2, none⟩ = some (.slice A0_2 l0_2.length c0_2) := (blk_cell BKgb.out 2).trans rfl; have hfzgb_0 := blk_frozen BKgb.out 0; have hfzgb_1 := blk_frozen BKgb.out 1; have hfzgb_2 := blk_frozen BKgb.out 2; clear hb) | (go_at_call 19; (with_reducible refine (inspect_Right.calls k A0_0 c0_0 l0_0 a0_1 A0_2 c0_2 l0_2 0 _ ?s1 HC0_0.out ?s2 HC0_2.out HRE.out).mono ?_); (case s1 => exact Kd.C_below HR0_0.out HB.out); (case s2 => exact Kd.C_below HR0_2.out HB.out); rintro e w11 ⟨rfl, hb⟩; have n0_ := Aside0.mk (below_step HB.out hb); clear HB; have HB := n0_; clear n0_; have m_gb := Aside0.mk (blk_below BKgb.out hb); clear BKgb; (try clear hczgb_0 hczgb_1 hczgb_2); (try clear hfzgb_0 hfzgb_1 hfzgb_2); have BKgb := m_gb; clear m_gb; have hczgb_0 : w11.cell? ⟨gb, 0, none⟩ = some (.slice A0_0 l0_0.length c0_0) := (blk_cell BKgb.out 0).trans rfl; have hczgb_1 : w11.cell? ⟨gb, 1, none⟩ = some (.int .i64 a0_1) := (blk_cell BKgb.out 1).trans rfl; have hczgb_2 : w11.cell? ⟨gb, 2, none⟩ = some (.slice A0_2 l0_2.length c0_2) := (blk_cell BKgb.out 2).trans rfl; have hfzgb_0 := blk_frozen BKgb.out 0; have hfzgb_1 := blk_frozen BKgb.out 1; have hfzgb_2 := blk_frozen BKgb.out 2; clear hb))
    go_ret
    exact ⟨rfl, HB.out⟩
  rw [if_neg n6] at h
  have d6 : decide (a2 < 0) = false := decide_eq_false n6
  clear n6
  by_cases n7 : a2 > 20000000
  · have d7 : decide (20000000 < a2) = true := decide_eq_true n7
    clear h n7
    go_enter Try.func10, Try.ntmps10
    go_wp2_with (first | ((with_reducible refine gate_dst (N := 3) rfl ?_); refine box_event ?hg (N := 3) ?hd (cs := #[.slice A0_0 l0_0.length c0_0, .int .i64 a0_1, .slice A0_2 l0_2.length c0_2]) (t := 25) ?hr ?_; (case hd => rfl); (case hg => rfl); (case hr => first | (go_simp; done) | (go_simp; rfl)); intro gb hg w_gb hbox hb; have n0_ := Aside0.mk (below_step (by repeat (first | (with_reducible first | exact HB.out | apply below_alloc | apply pw_below_drewN | apply below_drew1) | exact HB.out)) hb); have n1_ := Aside0.mk (hbox); have n2_ := Aside0.mk ((by rw [hg]; exact (below_size (by repeat (first | (with_reducible first | exact HB.out | apply below_alloc | apply pw_below_drewN | apply below_drew1) | exact HB.out))) : w.heap.size ≤ gb)); clear HB; have HB := n0_; have BKgb := n1_; have GEgb := n2_; clear n0_ n1_ n2_; clear hb hbox hg; have hczgb_0 : w_gb.cell? ⟨gb, 0, none⟩ = some (.slice A0_0 l0_0.length c0_0) := (blk_cell BKgb.out 0).trans rfl; have hczgb_1 : w_gb.cell? ⟨gb, 1, none⟩ = some (.int .i64 a0_1) := (blk_cell BKgb.out 1).trans rfl; have hczgb_2 : w_gb.cell? ⟨gb, 2, none⟩ = some (.slice A0_2 l0_2.length c0_2) := (blk_cell BKgb.out 2).trans rfl; have hfzgb_0 := blk_frozen BKgb.out 0; have hfzgb_1 := blk_frozen BKgb.out 1; have hfzgb_2 := blk_frozen BKgb.out 2) | (go_at_call 18; (with_reducible refine (skiarealaw19_alive.calls true _ HAL.out).mono ?_); rintro e w10 ⟨rfl, hb⟩; have n0_ := Aside0.mk (below_step HB.out hb); clear HB; have HB := n0_; clear n0_; have m_gb := Aside0.mk (blk_below BKgb.out hb); clear BKgb; (try clear hczgb_0 hczgb_1 hczgb_2); (try clear hfzgb_0 hfzgb_1 hfzgb_2); have BKgb := m_gb; clear m_gb; have hczgb_0 : w10.cell? ⟨gb, 0, none⟩ = some (.slice A0_0 l0_0.length c0_0) := (blk_cell BKgb.out 0).trans rfl; have hczgb_1 : w10.cell? ⟨gb, 1, none⟩ = some (.int .i64 a0_1) := (blk_cell BKgb.out 1).trans rfl; have hczgb_2 : w10.cell? ⟨gb, 2, none⟩ = some (.slice A0_2 l0_2.length c0_2) := (blk_cell BKgb.out 2).trans rfl; have hfzgb_0 := blk_frozen BKgb.out 0; have hfzgb_1 := blk_frozen BKgb.out 1; have hfzgb_2 := blk_frozen BKgb.out 2; clear hb) | (go_at_call 19; (with_reducible refine (inspect_Right.calls k A0_0 c0_0 l0_0 a0_1 A0_2 c0_2 l0_2 0 _ ?s1 HC0_0.out ?s2 HC0_2.out HRE.out).mono ?_); (case s1 => exact Kd.C_below HR0_0.out HB.out); (case s2 => exact Kd.C_below HR0_2.out HB.out); rintro e w11 ⟨rfl, hb⟩; have n0_ := Aside0.mk (below_step HB.out hb); clear HB; have HB := n0_; clear n0_; have m_gb := Aside0.mk (blk_below BKgb.out hb); clear BKgb; (try clear hczgb_0 hczgb_1 hczgb_2); (try clear hfzgb_0 hfzgb_1 hfzgb_2); have BKgb := m_gb; clear m_gb; have hczgb_0 : w11.cell? ⟨gb, 0, none⟩ = some (.slice A0_0 l0_0.length c0_0) := (blk_cell BKgb.out 0).trans rfl; have hczgb_1 : w11.cell? ⟨gb, 1, none⟩ = some (.int .i64 a0_1) := (blk_cell BKgb.out 1).trans rfl; have hczgb_2 : w11.cell? ⟨gb, 2, none⟩ = some (.slice A0_2 l0_2.length c0_2) := (blk_cell BKgb.out 2).trans rfl; have hfzgb_0 := blk_frozen BKgb.out 0; have hfzgb_1 := blk_frozen BKgb.out 1; have hfzgb_2 := blk_frozen BKgb.out 2; clear hb))
    go_ret
    exact ⟨rfl, HB.out⟩
  rw [if_neg n7] at h
  have d7 : decide (20000000 < a2) = false := decide_eq_false n7
  clear n7
  have HH := Aside0.mk h
  clear h
  go_enter Try.func10, Try.ntmps10
  go_wp2_with (first | ((with_reducible refine gate_dst (N := 3) rfl ?_); refine box_event ?hg (N := 3) ?hd (cs := #[.slice A0_0 l0_0.length c0_0, .int .i64 a0_1, .slice A0_2 l0_2.length c0_2]) (t := 25) ?hr ?_; (case hd => rfl); (case hg => rfl); (case hr => first | (go_simp; done) | (go_simp; rfl)); intro gb hg w_gb hbox hb; have n0_ := Aside0.mk (below_step (by repeat (first | (with_reducible first | exact HB.out | apply below_alloc | apply pw_below_drewN | apply below_drew1) | exact HB.out)) hb); have n1_ := Aside0.mk (hbox); have n2_ := Aside0.mk ((by rw [hg]; exact (below_size (by repeat (first | (with_reducible first | exact HB.out | apply below_alloc | apply pw_below_drewN | apply below_drew1) | exact HB.out))) : w.heap.size ≤ gb)); clear HB; have HB := n0_; have BKgb := n1_; have GEgb := n2_; clear n0_ n1_ n2_; clear hb hbox hg; have hczgb_0 : w_gb.cell? ⟨gb, 0, none⟩ = some (.slice A0_0 l0_0.length c0_0) := (blk_cell BKgb.out 0).trans rfl; have hczgb_1 : w_gb.cell? ⟨gb, 1, none⟩ = some (.int .i64 a0_1) := (blk_cell BKgb.out 1).trans rfl; have hczgb_2 : w_gb.cell? ⟨gb, 2, none⟩ = some (.slice A0_2 l0_2.length c0_2) := (blk_cell BKgb.out 2).trans rfl; have hfzgb_0 := blk_frozen BKgb.out 0; have hfzgb_1 := blk_frozen BKgb.out 1; have hfzgb_2 := blk_frozen BKgb.out 2) | (go_at_call 18; (with_reducible refine (skiarealaw19_alive.calls true _ HAL.out).mono ?_); rintro e w10 ⟨rfl, hb⟩; have n0_ := Aside0.mk (below_step HB.out hb); clear HB; have HB := n0_; clear n0_; have m_gb := Aside0.mk (blk_below BKgb.out hb); clear BKgb; (try clear hczgb_0 hczgb_1 hczgb_2); (try clear hfzgb_0 hfzgb_1 hfzgb_2); have BKgb := m_gb; clear m_gb; have hczgb_0 : w10.cell? ⟨gb, 0, none⟩ = some (.slice A0_0 l0_0.length c0_0) := (blk_cell BKgb.out 0).trans rfl; have hczgb_1 : w10.cell? ⟨gb, 1, none⟩ = some (.int .i64 a0_1) := (blk_cell BKgb.out 1).trans rfl; have hczgb_2 : w10.cell? ⟨gb, 2, none⟩ = some (.slice A0_2 l0_2.length c0_2) := (blk_cell BKgb.out 2).trans rfl; have hfzgb_0 := blk_frozen BKgb.out 0; have hfzgb_1 := blk_frozen BKgb.out 1; have hfzgb_2 := blk_frozen BKgb.out 2; clear hb) | (go_at_call 19; (with_reducible refine (inspect_Right.calls k A0_0 c0_0 l0_0 a0_1 A0_2 c0_2 l0_2 0 _ ?s1 HC0_0.out ?s2 HC0_2.out HRE.out).mono ?_); (case s1 => exact Kd.C_below HR0_0.out HB.out); (case s2 => exact Kd.C_below HR0_2.out HB.out); rintro e w11 ⟨rfl, hb⟩; have n0_ := Aside0.mk (below_step HB.out hb); clear HB; have HB := n0_; clear n0_; have m_gb := Aside0.mk (blk_below BKgb.out hb); clear BKgb; (try clear hczgb_0 hczgb_1 hczgb_2); (try clear hfzgb_0 hfzgb_1 hfzgb_2); have BKgb := m_gb; clear m_gb; have hczgb_0 : w11.cell? ⟨gb, 0, none⟩ = some (.slice A0_0 l0_0.length c0_0) := (blk_cell BKgb.out 0).trans rfl; have hczgb_1 : w11.cell? ⟨gb, 1, none⟩ = some (.int .i64 a0_1) := (blk_cell BKgb.out 1).trans rfl; have hczgb_2 : w11.cell? ⟨gb, 2, none⟩ = some (.slice A0_2 l0_2.length c0_2) := (blk_cell BKgb.out 2).trans rfl; have hfzgb_0 := blk_frozen BKgb.out 0; have hfzgb_1 := blk_frozen BKgb.out 1; have hfzgb_2 := blk_frozen BKgb.out 2; clear hb))
  clear d1 d1' d2 d2' d4 d5 d6 d7 hczgb_0 hczgb_1 hczgb_2 hfzgb_0 hfzgb_1 hfzgb_2
  go_loopw [7] (fun v7 w' => ∃ x7 : Int, v7 = .int .i64 x7 ∧ Aside0 (0 ≤ x7) ∧ Aside0 (x7 ≤ l0_2.length) ∧ Aside0 (∀ i : Int, 0 ≤ i → i < x7 → decide ((rd_T35 l0_2 i).f2 > a2) = false) ∧ Aside0 (w'.heap[gb]? = some (.cells #[(.slice A0_0 l0_0.length c0_0), .int .i64 a0_1, (.slice A0_2 l0_2.length c0_2)] 25 (0, 0))) ∧ Aside0 (Below w.heap.size w w')) (fun v7 _ => l0_2.length - (intOf v7).toNat)
  case atStart => exact ⟨0, rfl, ⟨by omega⟩, ⟨by omega⟩, ⟨fun i h0 h1 => by omega⟩, BKgb, HB⟩
  case round =>
    clear BKgb HB
    obtain ⟨x7, rfl, H0, H1, HA, BKgb, HB⟩ := hrel
    have hczgb_0 : wr.cell? ⟨gb, 0, none⟩ = some (.slice A0_0 l0_0.length c0_0) := (blk_cell BKgb.out 0).trans rfl
    have hczgb_1 : wr.cell? ⟨gb, 1, none⟩ = some (.int .i64 a0_1) := (blk_cell BKgb.out 1).trans rfl
    have hczgb_2 : wr.cell? ⟨gb, 2, none⟩ = some (.slice A0_2 l0_2.length c0_2) := (blk_cell BKgb.out 2).trans rfl
    by_cases hlt : x7 < (l0_2.length : Int)
    · have p1 := H0.out
      obtain ⟨ad, e, y0, y1, y2⟩ := at_T35 HR0_2.out x7 p1 hlt
      cases e
      replace y2 := (HB.out.cell (World.block_lt_of_cell? w _ y2)).trans y2
      clear y0 y1
      have HLT := Aside0.mk hlt
      have HW : Aside0 (wrap64 (x7 + 1) = x7 + 1) := ⟨by have h1 := HM2.out; unfold wrap64; omega⟩
      have dl : decide (x7 < (l0_2.length : Int)) = true := decide_eq_true hlt
      replace p1 := eq_true p1
      replace hlt := eq_true hlt
      by_cases c : (rd_T35 l0_2 x7).f2 > a2
      · have dc : decide (a2 < (rd_T35 l0_2 x7).f2) = true := decide_eq_true c
        clear c
        go_wp2
        go_ret
        exact ⟨rfl, HB.out⟩
      · have dc : decide (a2 < (rd_T35 l0_2 x7).f2) = false := decide_eq_false c
        have HC := Aside0.mk c
        clear c
        go_wp2
        rw [HW.out]
        go_roundw
        case measure => have h1 := HLT.out; have h2 := H0.out; simp only [intOf]; omega
        case rel =>
          refine ⟨x7 + 1, rfl, ⟨by have := H0.out; omega⟩, ⟨by have := HLT.out; omega⟩, ⟨fun i h0 h1 => ?_⟩, BKgb, HB⟩
          by_cases hi : i < x7
          · exact HA.out i h0 hi
          · obtain rfl : i = x7 := by omega
            exact decide_eq_false HC.out
    · have dl : decide (x7 < (l0_2.length : Int)) = false := decide_eq_false hlt
      have hA : l0_2.any (fun s => decide (s.f2 > a2)) = false := any_of_rd35 (fun i h0 h1 => HA.out i h0 (by omega))
      have h := HH.out
      rw [hA, if_neg (by simp)] at h
      obtain ⟨op, hop, h⟩ := Option.bind_eq_some_iff.mp h
      have HOP := Aside0.mk hop
      have HG0 := Aside0.mk h
      clear hA h hop hlt HA H0 H1 HH
      go_wp2_with (first | ((with_reducible refine gate_dst (N := 8) rfl ?_); refine box_event ?hg (N := 8) ?hd (cs := #[.slice none 0 0, .int .i64 0, .slice none 0 0]) (t := 25) ?hr ?_; (case hd => rfl); (case hg => rfl); (case hr => first | (go_simp; done) | (go_simp; rfl)); intro gN hg w_gN hbox hb; have hnb_gb_gN : gb ≠ gN := nl_ hg BKgb.out; have hnb_gN_gb : gN ≠ gb := Ne.symm hnb_gb_gN; have n0_ := Aside0.mk (below_step (by repeat (first | (with_reducible first | exact HB.out | apply below_alloc | apply pw_below_drewN | apply below_drew1) | exact HB.out)) hb); have n1_ := Aside0.mk (hbox); have n2_ := Aside0.mk ((by rw [hg]; exact (below_size (by repeat (first | (with_reducible first | exact HB.out | apply below_alloc | apply pw_below_drewN | apply below_drew1) | exact HB.out))) : w.heap.size ≤ gN)); clear HB; have HB := n0_; have BKgN := n1_; have GEgN := n2_; clear n0_ n1_ n2_; have m_gb := Aside0.mk (blk_below BKgb.out hb); clear BKgb; (try clear hczgb_0 hczgb_1 hczgb_2); (try clear hfzgb_0 hfzgb_1 hfzgb_2); have BKgb := m_gb; clear m_gb; have hczgb_0 : w_gN.cell? ⟨gb, 0, none⟩ = some (.slice A0_0 l0_0.length c0_0) := (blk_cell BKgb.out 0).trans rfl; have hczgb_1 : w_gN.cell? ⟨gb, 1, none⟩ = some (.int .i64 a0_1) := (blk_cell BKgb.out 1).trans rfl; have hczgb_2 : w_gN.cell? ⟨gb, 2, none⟩ = some (.slice A0_2 l0_2.length c0_2) := (blk_cell BKgb.out 2).trans rfl; have hfzgb_0 := blk_frozen BKgb.out 0; have hfzgb_1 := blk_frozen BKgb.out 1; have hfzgb_2 := blk_frozen BKgb.out 2; clear hb hbox hg; have hczgN_0 : w_gN.cell? ⟨gN, 0, none⟩ = some (.slice none 0 0) := (blk_cell BKgN.out 0).trans rfl; have hczgN_1 : w_gN.cell? ⟨gN, 1, none⟩ = some (.int .i64 0) := (blk_cell BKgN.out 1).trans rfl; have hczgN_2 : w_gN.cell? ⟨gN, 2, none⟩ = some (.slice none 0 0) := (blk_cell BKgN.out 2).trans rfl; have hfzgN_0 := blk_frozen BKgN.out 0; have hfzgN_1 := blk_frozen BKgN.out 1; have hfzgN_2 := blk_frozen BKgN.out 2) | (go_at_call 27; have BKN := Aside0.mk (blk_put (cs' := #[.slice A0_0 l0_0.length c0_0, .int .i64 a0_1, .slice A0_2 l0_2.length c0_2]) (blk_put (cs' := #[.slice A0_0 l0_0.length c0_0, .int .i64 a0_1, .slice none 0 0]) (blk_put (cs' := #[.slice A0_0 l0_0.length c0_0, .int .i64 0, .slice none 0 0]) BKgN.out 0 (.slice A0_0 l0_0.length c0_0) rfl) 1 (.int .i64 a0_1) rfl) 2 (.slice A0_2 l0_2.length c0_2) rfl); have HB5 := Aside0.mk (below_set (j := 2) (v := .slice A0_2 l0_2.length c0_2) (below_set (j := 1) (v := .int .i64 a0_1) (below_set (j := 0) (v := .slice A0_0 l0_0.length c0_0) HB.out GEgN.out) GEgN.out) GEgN.out); (with_reducible refine (inspect_Open.calls A0_0 c0_0 l0_0 a0_1 A0_2 c0_2 l0_2 a2 op _ ?s1 HC0_0.out ?s2 HC0_2.out HOP.out).mono ?_); (case s1 => exact Kd.C_below HR0_0.out HB5.out); (case s2 => exact Kd.C_below HR0_2.out HB5.out); rintro e W5 ⟨vo, rfl, hoo, hb⟩; obtain ⟨Ao, co, rfl⟩ := Kd.R_slice hoo; have STA := Aside0.mk (StA.mk (below_step HB5.out hb) (blk_below BKN.out hb) (Rdb.ofC HR0_0.out HC0_0.out) (Rdb.ofC HR0_2.out HC0_2.out) (Rdb.ofR hoo HB5.out.size)); have GN := Aside0.mk GEgN.out; clear BKN HB5 hoo hb))
      go_loopw [10] (fun v10 w' => ∃ (x10 : Int) (it : List Int) (ev : Int) (sg : List S35) (A : Option Addr) (c : Nat) (B : Option Addr) (d : Nat), v10 = .int .i64 x10 ∧ Aside0 (0 ≤ x10) ∧ Aside0 (x10 ≤ op.length) ∧ Aside0 (goA k a1 a2 (op.drop x10.toNat) it ev sg = some true) ∧ Aside0 (StA w w' gN A c B d Ao co it ev sg op)) (fun v10 _ => op.length - (intOf v10).toNat)
      case atStart => exact ⟨0, l0_0, a0_1, l0_2, A0_0, c0_0, A0_2, c0_2, rfl, ⟨by omega⟩, ⟨by omega⟩, HG0, STA⟩
      case round =>
      clear STA HG0
      obtain ⟨x10, it, ev, sg, A, c, B, d, rfl, H0, H1, HGA, STA⟩ := hrel
      by_cases hlt : x10 < (op.length : Int)
      · have p1 := H0.out
        have hg := HGA.out
        rw [rd_cons_dropA op x10 p1 hlt, goA] at hg
        obtain ⟨⟨r1, r2, r3, r4⟩, hsg, hg⟩ := Option.bind_eq_some_iff.mp hg
        have HSG := Aside0.mk hsg
        have HG := Aside0.mk (show (if r4 = 4 then some true else if r4 = 0 then goA k a1 a2 (op.drop (x10 + 1).toNat) r1 r2 r3 else some false) = some true from hg)
        clear hg hsg HGA
        obtain ⟨ado, ea, hx⟩ := Kd.at_int (Rdb.c STA.out.o STA.out.b).2.2 x10 p1 hlt
        cases ea
        have HW : Aside0 (wrap64 (x10 + 1) = x10 + 1) := ⟨by have h1 := Kd.C_max (Rdb.c STA.out.o STA.out.b).2.2; unfold wrap64; omega⟩
        have dl : decide (x10 < (op.length : Int)) = true := decide_eq_true hlt
        clear H1
        have H1 := Aside0.mk hlt
        replace p1 := eq_true p1
        replace hlt := eq_true hlt
        have hdr : Below wr.heap.size wr wr.drew := below_drew (Below.refl _ _)
        have hn0 := STA.out.c0
        have hn1 := STA.out.c1
        have hn2 := STA.out.c2
        go_upto_region 15 with fail
        clear hx hn0 hn1 hn2
        refine start_ (n := 14) (S := fun w' => w'.cell? ⟨gN, 0, none⟩ = some (.slice A it.length c) ∧ w'.cell? ⟨gN, 1, none⟩ = some (.int .i64 ev) ∧ w'.cell? ⟨gN, 2, none⟩ = some (.slice B sg.length d) ∧ w'.cell? (ado.add x10.toNat) = some (.int .i64 (rd op x10))) (ds := []) #[false, false, false, false, false, false, false, false, false, false, false, false, false, false] (by kernel_rfl) rfl rfl ⟨(STA.out.step hdr).c0, (STA.out.step hdr).c1, (STA.out.step hdr).c2, (STA.out.step hdr).oc H0.out H1.out⟩ (fun hHeld => ?_)
        refine with_tabW skiarealaw19_InspectAll.tab15 skiarealaw19_InspectAll.bits15 (fun HT_ HW_ => ?_)
        have ST2 := Aside0.mk (STA.out.step hdr)
        clear STA hdr
        have STA := ST2
        clear ST2
        generalize wr.drew = W6 at STA hHeld ⊢
        refine take_ (i := 0) (N := some 72) (v := ?_) (a' := ?_) #[true, false, false, false, false, false, false, false, false, false, false, false, false, false] rfl rfl (take_ofW HT_.out HW_.out (by kernel_rfl)) (fun _ _ _ h => h) (Or.inl ⟨by rfl, ?_⟩) hHeld ?_ ?_
        rotate_left
        · rintro w' ⟨s0, s1, s2, s3⟩
          go_simp
          with_reducible rfl
        rotate_left
        · simp only [Act.put, List.setIfInBounds_toArray, List.set_cons_zero, List.set_cons_succ, i64_w, i32_w]
          rfl
        refine pure_ (i := 1) (N := some 73) (v := ?_) (a' := ?_) #[true, true, false, false, false, false, false, false, false, false, false, false, false, false] rfl rfl (any_of HT_.out (by kernel_rfl)) (fun _ _ _ h => h) (Or.inl ⟨by rfl, ?_⟩) ?_ ?_
        rotate_left
        · intro w'
          go_simp
          with_reducible rfl
        rotate_left
        · simp only [Act.put, List.setIfInBounds_toArray, List.set_cons_zero, List.set_cons_succ, i64_w, i32_w]
          rfl
        refine pure_ (i := 2) (N := some 74) (v := ?_) (a' := ?_) #[true, true, true, false, false, false, false, false, false, false, false, false, false, false] rfl rfl (any_of HT_.out (by kernel_rfl)) (fun _ _ _ h => h) (Or.inl ⟨by rfl, ?_⟩) ?_ ?_
        rotate_left
        · intro w'
          go_simp
          with_reducible rfl
        rotate_left
        · simp only [Act.put, List.setIfInBounds_toArray, List.set_cons_zero, List.set_cons_succ, i64_w, i32_w]
          rfl
        refine pure_ (i := 3) (N := some 75) (v := ?_) (a' := ?_) #[true, true, true, true, false, false, false, false, false, false, false, false, false, false] rfl rfl (any_of HT_.out (by kernel_rfl)) (fun _ _ _ h => h) (Or.inl ⟨by rfl, ?_⟩) ?_ ?_
        rotate_left
        · intro w'
          go_simp
          with_reducible rfl
        rotate_left
        · simp only [Act.put, List.setIfInBounds_toArray, List.set_cons_zero, List.set_cons_succ, i64_w, i32_w]
          rfl
        refine take_ (i := 4) (N := some 76) (v := ?_) (a' := ?_) #[true, true, true, true, true, false, false, false, false, false, false, false, false, false] rfl rfl (take_ofW HT_.out HW_.out (by kernel_rfl)) (fun _ _ _ h => h) (Or.inl ⟨by rfl, ?_⟩) hHeld ?_ ?_
        rotate_left
        · rintro w' ⟨s0, s1, s2, s3⟩
          go_simp
          with_reducible rfl
        rotate_left
        · simp only [Act.put, List.setIfInBounds_toArray, List.set_cons_zero, List.set_cons_succ, i64_w, i32_w]
          rfl
        refine pure_ (i := 5) (N := some 77) (v := ?_) (a' := ?_) #[true, true, true, true, true, true, false, false, false, false, false, false, false, false] rfl rfl (any_of HT_.out (by kernel_rfl)) (fun _ _ _ h => h) (Or.inl ⟨by rfl, ?_⟩) ?_ ?_
        rotate_left
        · intro w'
          go_simp
          with_reducible rfl
        rotate_left
        · simp only [Act.put, List.setIfInBounds_toArray, List.set_cons_zero, List.set_cons_succ, i64_w, i32_w]
          rfl
        refine pure_ (i := 6) (N := some 78) (v := ?_) (a' := ?_) #[true, true, true, true, true, true, true, false, false, false, false, false, false, false] rfl rfl (any_of HT_.out (by kernel_rfl)) (fun _ _ _ h => h) (Or.inl ⟨by rfl, ?_⟩) ?_ ?_
        rotate_left
        · intro w'
          go_simp
          with_reducible rfl
        rotate_left
        · simp only [Act.put, List.setIfInBounds_toArray, List.set_cons_zero, List.set_cons_succ, i64_w, i32_w]
          rfl
        refine two_ (i := 7) (j := 11) (Ni := some 79) (Nj := some 11) #[true, true, true, true, true, true, true, true, false, false, false, false, false, false] #[true, true, true, true, true, true, true, false, false, false, false, true, false, false] rfl rfl rfl rfl (two_of HT_.out (by kernel_rfl)) (by decide) (by decide) (fun K hK => ?_) (fun K hK => ?_)
        · refine goes_ Try.func21 (by kernel_rfl) rfl #[.agg #[.slice A it.length c, .int .i64 ev, .slice B sg.length d], .int .i64 (rd op x10), .int .i64 a1, .int .i64 a2] (by rfl) rfl rfl (by (try simp only [List.map_toArray, List.map_cons, List.map_nil]); first | done | rfl) ?_
          with_reducible refine (inspect_Sign.calls k A c it ev B d sg (rd op x10) a1 a2 r1 r2 r3 r4 _ ?s1 ?s2 ?s3 ?s4 HSG.out).mono ?_
          (case s1 => exact (Rdb.c STA.out.i STA.out.b).2.2)
          (case s2 => exact (Rdb.c STA.out.i STA.out.b).2.1)
          (case s3 => exact (Rdb.c STA.out.s STA.out.b).2.2)
          (case s4 => exact (Rdb.c STA.out.s STA.out.b).2.1)
          rintro e W7 ⟨v1, v2, rfl, ho1, ho2, hb⟩
          refine ⟨_, rfl, ?_⟩
          obtain ⟨A1, c1, rfl⟩ := Kd.R_slice ho1
          obtain ⟨B1, d1, rfl⟩ := Kd.R_slice ho2
          have HV1 := Aside0.mk (Rdb.ofR ho1 STA.out.b.size)
          have HV2 := Aside0.mk (Rdb.ofR ho2 STA.out.b.size)
          clear ho1 ho2
          have ST2 := Aside0.mk (STA.out.step hb)
          clear STA
          have STA := ST2
          clear ST2
          clear hb
          refine hK.out _ _ ⟨STA.out.c0, STA.out.c1, STA.out.c2, STA.out.oc H0.out H1.out⟩ (fun hHeld => ?_)
          clear hK K
          refine norm_ (a' := ?_) ?_ ?_
          rotate_left
          · show Act.put _ (some 79) _ = _
            simp only [Act.put, List.setIfInBounds_toArray, List.set_cons_zero, List.set_cons_succ, i64_w, i32_w]
            rfl
          refine pure_ (i := 8) (N := some 71) (v := ?_) (a' := ?_) #[true, true, true, true, true, true, true, true, true, false, false, false, false, false] rfl rfl (any_of HT_.out (by kernel_rfl)) (fun _ _ _ h => h) (Or.inl ⟨by rfl, ?_⟩) ?_ ?_
          rotate_left
          · intro w'
            go_simp
            with_reducible rfl
          rotate_left
          · simp only [Act.put, List.setIfInBounds_toArray, List.set_cons_zero, List.set_cons_succ, i64_w, i32_w]
            rfl
          refine pure_ (i := 9) (N := some 80) (v := ?_) (a' := ?_) #[true, true, true, true, true, true, true, true, true, true, false, false, false, false] rfl rfl (any_of HT_.out (by kernel_rfl)) (fun _ _ _ h => h) (Or.inl ⟨by rfl, ?_⟩) ?_ ?_
          rotate_left
          · intro w'
            go_simp
            with_reducible rfl
          rotate_left
          · simp only [Act.put, List.setIfInBounds_toArray, List.set_cons_zero, List.set_cons_succ, i64_w, i32_w]
            rfl
          refine pure_ (i := 10) (N := some 81) (v := ?_) (a' := ?_) #[true, true, true, true, true, true, true, true, true, true, true, false, false, false] rfl rfl (any_of HT_.out (by kernel_rfl)) (fun _ _ _ h => h) (Or.inl ⟨by rfl, ?_⟩) ?_ ?_
          rotate_left
          · intro w'
            go_simp
            with_reducible rfl
          rotate_left
          · simp only [Act.put, List.setIfInBounds_toArray, List.set_cons_zero, List.set_cons_succ, i64_w, i32_w]
            rfl
          refine one_ (i := 11) (N := some 11) #[true, true, true, true, true, true, true, true, true, true, true, true, false, false] rfl rfl (one_of HT_.out (by kernel_rfl)) (by decide) (fun K hK => ?_)
          refine box_step ?hg (N := 11) ?hd (cs := #[.slice none 0 0, .int .i64 0, .slice none 0 0]) (t := 25) ?hr ?_; (case hd => rfl); (case hg => rfl); (case hr => first | (go_simp; done) | (go_simp; rfl))
          intro gX hg W8 hbox hb
          have HX := Aside0.mk hbox
          have GX := Aside0.mk ((by rw [hg]; exact below_size STA.out.b) : w.heap.size ≤ gX)
          have NX := Aside0.mk ((by rw [hg]; exact Nat.ne_of_lt (blk_lt STA.out.n)) : gN ≠ gX)
          clear hbox hg
          have ST2 := Aside0.mk (STA.out.step hb)
          clear STA
          have STA := ST2
          clear ST2
          have HV1' := Aside0.mk (HV1.out.below hb)
          have HV2' := Aside0.mk (HV2.out.below hb)
          clear HV1 HV2
          have HV1 := HV1'
          have HV2 := HV2'
          clear HV1' HV2'
          clear hb
          refine hK.out _ _ ⟨STA.out.c0, STA.out.c1, STA.out.c2, STA.out.oc H0.out H1.out⟩ (fun hHeld => ?_)
          clear hK K
          refine norm_ (a' := ?_) ?_ ?_
          rotate_left
          · show Act.put _ (some 11) _ = _
            simp only [Act.put, List.setIfInBounds_toArray, List.set_cons_zero, List.set_cons_succ, i64_w, i32_w]
            rfl
          refine one_ (i := 12) (N := none) #[true, true, true, true, true, true, true, true, true, true, true, true, true, false] rfl rfl (one_of HT_.out (by kernel_rfl)) (by decide) (fun K hK => ?_)
          have hs0 : W8.cell? ⟨gX, 0, none⟩ = some (.slice none 0 0) := (blk_cell HX.out 0).trans rfl
          have hs1 : W8.cell? ⟨gX, 1, none⟩ = some (.int .i64 0) := (blk_cell HX.out 1).trans rfl
          have hs2 : W8.cell? ⟨gX, 2, none⟩ = some (.slice none 0 0) := (blk_cell HX.out 2).trans rfl
          have hf0 := blk_frozen HX.out 0
          have hf1 := blk_frozen HX.out 1
          have hf2 := blk_frozen HX.out 2
          refine skip_ (w1 := ?_) (by rfl) rfl ?_ ?_
          rotate_left
          · go_simp
            rfl
          clear hs0 hs1 hs2 hf0 hf1 hf2
          have ST2 := Aside0.mk (STA.out.set HX.out NX.out GX.out 0 (.slice A1 r1.length c1))
          have HV1' := Aside0.mk (HV1.out.set HX.out (by decide) 0 (.slice A1 r1.length c1))
          have HV2' := Aside0.mk (HV2.out.set HX.out (by decide) 0 (.slice A1 r1.length c1))
          have HX' := Aside0.mk (blk_put (cs' := #[.slice A1 r1.length c1, .int .i64 0, .slice none 0 0]) HX.out 0 (.slice A1 r1.length c1) rfl)
          clear STA HV1 HV2 HX
          have STA := ST2
          have HV1 := HV1'
          have HV2 := HV2'
          have HX := HX'
          clear ST2 HV1' HV2' HX'
          have ST2 := Aside0.mk (STA.out.set HX.out NX.out GX.out 1 (.int .i64 r2))
          have HV1' := Aside0.mk (HV1.out.set HX.out (by decide) 1 (.int .i64 r2))
          have HV2' := Aside0.mk (HV2.out.set HX.out (by decide) 1 (.int .i64 r2))
          have HX' := Aside0.mk (blk_put (cs' := #[.slice A1 r1.length c1, .int .i64 r2, .slice none 0 0]) HX.out 1 (.int .i64 r2) rfl)
          clear STA HV1 HV2 HX
          have STA := ST2
          have HV1 := HV1'
          have HV2 := HV2'
          have HX := HX'
          clear ST2 HV1' HV2' HX'
          have ST2 := Aside0.mk (STA.out.set HX.out NX.out GX.out 2 (.slice B1 r3.length d1))
          have HV1' := Aside0.mk (HV1.out.set HX.out (by decide) 2 (.slice B1 r3.length d1))
          have HV2' := Aside0.mk (HV2.out.set HX.out (by decide) 2 (.slice B1 r3.length d1))
          have HX' := Aside0.mk (blk_put (cs' := #[.slice A1 r1.length c1, .int .i64 r2, .slice B1 r3.length d1]) HX.out 2 (.slice B1 r3.length d1) rfl)
          clear STA HV1 HV2 HX
          have STA := ST2
          have HV1 := HV1'
          have HV2 := HV2'
          have HX := HX'
          clear ST2 HV1' HV2' HX'
          refine hK.out _ _ ⟨STA.out.c0, STA.out.c1, STA.out.c2, STA.out.oc H0.out H1.out⟩ (fun hHeld => ?_)
          clear hK K
          refine pure_ (i := 13) (N := some 12) (v := ?_) (a' := ?_) #[true, true, true, true, true, true, true, true, true, true, true, true, true, true] rfl rfl (any_of HT_.out (by kernel_rfl)) (fun _ _ _ h => h) (Or.inl ⟨by rfl, ?_⟩) ?_ ?_
          rotate_left
          · intro w'
            go_simp
            with_reducible rfl
          rotate_left
          · simp only [Act.put, List.setIfInBounds_toArray, List.set_cons_zero, List.set_cons_succ, i64_w, i32_w]
            rfl
          refine done_ (done_of HT_.out (by kernel_rfl)) ?_
          clear hHeld HT_ HW_
          generalize ((W8.setCell ⟨gX, 0, none⟩ (.slice A1 r1.length c1)).setCell ⟨gX, 1, none⟩ (.int .i64 r2)).setCell ⟨gX, 2, none⟩ (.slice B1 r3.length d1) = W9 at STA HV1 HV2 HX ⊢
          by_cases e4 : r4 = 4
          · subst e4
            go_wp2
            go_ret
            exact ⟨rfl, STA.out.b⟩
          · have hg := HG.out
            rw [if_neg e4] at hg
            by_cases e0 : r4 = 0
            · subst e0
              rw [if_pos rfl] at hg
              have HG2 := Aside0.mk hg
              clear hg HG e4
              have hx0 : W9.cell? ⟨gX, 0, none⟩ = some (.slice A1 r1.length c1) := (blk_cell HX.out 0).trans rfl
              have hx1 : W9.cell? ⟨gX, 1, none⟩ = some (.int .i64 r2) := (blk_cell HX.out 1).trans rfl
              have hx2 : W9.cell? ⟨gX, 2, none⟩ = some (.slice B1 r3.length d1) := (blk_cell HX.out 2).trans rfl
              have hn0 := STA.out.c0
              have hn1 := STA.out.c1
              have hn2 := STA.out.c2
              have hm0 := blk_frozen STA.out.n 0
              have hm1 := blk_frozen STA.out.n 1
              have hm2 := blk_frozen STA.out.n 2
              go_wp2
              rw [HW.out]
              go_roundw
              case measure => have h1 := H1.out; have h2 := H0.out; simp only [intOf]; omega
              case rel => exact ⟨x10 + 1, r1, r2, r3, A1, c1, B1, d1, rfl, ⟨by have := H0.out; omega⟩, ⟨by have := H1.out; omega⟩, HG2, ⟨STA.out.put GN.out HV1.out HV2.out⟩⟩
            · rw [if_neg e0] at hg
              exact absurd hg (by simp)
        · refine box_step ?hg (N := 11) ?hd (cs := #[.slice none 0 0, .int .i64 0, .slice none 0 0]) (t := 25) ?hr ?_; (case hd => rfl); (case hg => rfl); (case hr => first | (go_simp; done) | (go_simp; rfl))
          intro gX hg W8 hbox hb
          have HX := Aside0.mk hbox
          have GX := Aside0.mk ((by rw [hg]; exact below_size STA.out.b) : w.heap.size ≤ gX)
          have NX := Aside0.mk ((by rw [hg]; exact Nat.ne_of_lt (blk_lt STA.out.n)) : gN ≠ gX)
          clear hbox hg
          have ST2 := Aside0.mk (STA.out.step hb)
          clear STA
          have STA := ST2
          clear ST2
          clear hb
          refine hK.out _ _ ⟨STA.out.c0, STA.out.c1, STA.out.c2, STA.out.oc H0.out H1.out⟩ (fun hHeld => ?_)
          clear hK K
          refine norm_ (a' := ?_) ?_ ?_
          rotate_left
          · show Act.put _ (some 11) _ = _
            simp only [Act.put, List.setIfInBounds_toArray, List.set_cons_zero, List.set_cons_succ, i64_w, i32_w]
            rfl
          refine one_ (i := 7) (N := some 79) #[true, true, true, true, true, true, true, true, false, false, false, true, false, false] rfl rfl (one_of HT_.out (by kernel_rfl)) (by decide) (fun K hK => ?_)
          refine goes_ Try.func21 (by kernel_rfl) rfl #[.agg #[.slice A it.length c, .int .i64 ev, .slice B sg.length d], .int .i64 (rd op x10), .int .i64 a1, .int .i64 a2] (by rfl) rfl rfl (by (try simp only [List.map_toArray, List.map_cons, List.map_nil]); first | done | rfl) ?_
          with_reducible refine (inspect_Sign.calls k A c it ev B d sg (rd op x10) a1 a2 r1 r2 r3 r4 _ ?s1 ?s2 ?s3 ?s4 HSG.out).mono ?_
          (case s1 => exact (Rdb.c STA.out.i STA.out.b).2.2)
          (case s2 => exact (Rdb.c STA.out.i STA.out.b).2.1)
          (case s3 => exact (Rdb.c STA.out.s STA.out.b).2.2)
          (case s4 => exact (Rdb.c STA.out.s STA.out.b).2.1)
          rintro e W7 ⟨v1, v2, rfl, ho1, ho2, hb⟩
          refine ⟨_, rfl, ?_⟩
          obtain ⟨A1, c1, rfl⟩ := Kd.R_slice ho1
          obtain ⟨B1, d1, rfl⟩ := Kd.R_slice ho2
          have HV1 := Aside0.mk (Rdb.ofR ho1 STA.out.b.size)
          have HV2 := Aside0.mk (Rdb.ofR ho2 STA.out.b.size)
          clear ho1 ho2
          have ST2 := Aside0.mk (STA.out.step hb)
          clear STA
          have STA := ST2
          clear ST2
          have HX' := Aside0.mk (blk_below HX.out hb)
          clear HX
          have HX := HX'
          clear HX'
          clear hb
          refine hK.out _ _ ⟨STA.out.c0, STA.out.c1, STA.out.c2, STA.out.oc H0.out H1.out⟩ (fun hHeld => ?_)
          clear hK K
          refine norm_ (a' := ?_) ?_ ?_
          rotate_left
          · show Act.put _ (some 79) _ = _
            simp only [Act.put, List.setIfInBounds_toArray, List.set_cons_zero, List.set_cons_succ, i64_w, i32_w]
            rfl
          refine pure_ (i := 8) (N := some 71) (v := ?_) (a' := ?_) #[true, true, true, true, true, true, true, true, true, false, false, true, false, false] rfl rfl (any_of HT_.out (by kernel_rfl)) (fun _ _ _ h => h) (Or.inl ⟨by rfl, ?_⟩) ?_ ?_
          rotate_left
          · intro w'
            go_simp
            with_reducible rfl
          rotate_left
          · simp only [Act.put, List.setIfInBounds_toArray, List.set_cons_zero, List.set_cons_succ, i64_w, i32_w]
            rfl
          refine pure_ (i := 9) (N := some 80) (v := ?_) (a' := ?_) #[true, true, true, true, true, true, true, true, true, true, false, true, false, false] rfl rfl (any_of HT_.out (by kernel_rfl)) (fun _ _ _ h => h) (Or.inl ⟨by rfl, ?_⟩) ?_ ?_
          rotate_left
          · intro w'
            go_simp
            with_reducible rfl
          rotate_left
          · simp only [Act.put, List.setIfInBounds_toArray, List.set_cons_zero, List.set_cons_succ, i64_w, i32_w]
            rfl
          refine pure_ (i := 10) (N := some 81) (v := ?_) (a' := ?_) #[true, true, true, true, true, true, true, true, true, true, true, true, false, false] rfl rfl (any_of HT_.out (by kernel_rfl)) (fun _ _ _ h => h) (Or.inl ⟨by rfl, ?_⟩) ?_ ?_
          rotate_left
          · intro w'
            go_simp
            with_reducible rfl
          rotate_left
          · simp only [Act.put, List.setIfInBounds_toArray, List.set_cons_zero, List.set_cons_succ, i64_w, i32_w]
            rfl
          refine one_ (i := 12) (N := none) #[true, true, true, true, true, true, true, true, true, true, true, true, true, false] rfl rfl (one_of HT_.out (by kernel_rfl)) (by decide) (fun K hK => ?_)
          have hs0 : W7.cell? ⟨gX, 0, none⟩ = some (.slice none 0 0) := (blk_cell HX.out 0).trans rfl
          have hs1 : W7.cell? ⟨gX, 1, none⟩ = some (.int .i64 0) := (blk_cell HX.out 1).trans rfl
          have hs2 : W7.cell? ⟨gX, 2, none⟩ = some (.slice none 0 0) := (blk_cell HX.out 2).trans rfl
          have hf0 := blk_frozen HX.out 0
          have hf1 := blk_frozen HX.out 1
          have hf2 := blk_frozen HX.out 2
          refine skip_ (w1 := ?_) (by rfl) rfl ?_ ?_
          rotate_left
          · go_simp
            rfl
          clear hs0 hs1 hs2 hf0 hf1 hf2
          have ST2 := Aside0.mk (STA.out.set HX.out NX.out GX.out 0 (.slice A1 r1.length c1))
          have HV1' := Aside0.mk (HV1.out.set HX.out (by decide) 0 (.slice A1 r1.length c1))
          have HV2' := Aside0.mk (HV2.out.set HX.out (by decide) 0 (.slice A1 r1.length c1))
          have HX' := Aside0.mk (blk_put (cs' := #[.slice A1 r1.length c1, .int .i64 0, .slice none 0 0]) HX.out 0 (.slice A1 r1.length c1) rfl)
          clear STA HV1 HV2 HX
          have STA := ST2
          have HV1 := HV1'
          have HV2 := HV2'
          have HX := HX'
          clear ST2 HV1' HV2' HX'
          have ST2 := Aside0.mk (STA.out.set HX.out NX.out GX.out 1 (.int .i64 r2))
          have HV1' := Aside0.mk (HV1.out.set HX.out (by decide) 1 (.int .i64 r2))
          have HV2' := Aside0.mk (HV2.out.set HX.out (by decide) 1 (.int .i64 r2))
          have HX' := Aside0.mk (blk_put (cs' := #[.slice A1 r1.length c1, .int .i64 r2, .slice none 0 0]) HX.out 1 (.int .i64 r2) rfl)
          clear STA HV1 HV2 HX
          have STA := ST2
          have HV1 := HV1'
          have HV2 := HV2'
          have HX := HX'
          clear ST2 HV1' HV2' HX'
          have ST2 := Aside0.mk (STA.out.set HX.out NX.out GX.out 2 (.slice B1 r3.length d1))
          have HV1' := Aside0.mk (HV1.out.set HX.out (by decide) 2 (.slice B1 r3.length d1))
          have HV2' := Aside0.mk (HV2.out.set HX.out (by decide) 2 (.slice B1 r3.length d1))
          have HX' := Aside0.mk (blk_put (cs' := #[.slice A1 r1.length c1, .int .i64 r2, .slice B1 r3.length d1]) HX.out 2 (.slice B1 r3.length d1) rfl)
          clear STA HV1 HV2 HX
          have STA := ST2
          have HV1 := HV1'
          have HV2 := HV2'
          have HX := HX'
          clear ST2 HV1' HV2' HX'
          refine hK.out _ _ ⟨STA.out.c0, STA.out.c1, STA.out.c2, STA.out.oc H0.out H1.out⟩ (fun hHeld => ?_)
          clear hK K
          refine pure_ (i := 13) (N := some 12) (v := ?_) (a' := ?_) #[true, true, true, true, true, true, true, true, true, true, true, true, true, true] rfl rfl (any_of HT_.out (by kernel_rfl)) (fun _ _ _ h => h) (Or.inl ⟨by rfl, ?_⟩) ?_ ?_
          rotate_left
          · intro w'
            go_simp
            with_reducible rfl
          rotate_left
          · simp only [Act.put, List.setIfInBounds_toArray, List.set_cons_zero, List.set_cons_succ, i64_w, i32_w]
            rfl
          refine done_ (done_of HT_.out (by kernel_rfl)) ?_
          clear hHeld HT_ HW_
          generalize ((W7.setCell ⟨gX, 0, none⟩ (.slice A1 r1.length c1)).setCell ⟨gX, 1, none⟩ (.int .i64 r2)).setCell ⟨gX, 2, none⟩ (.slice B1 r3.length d1) = W9 at STA HV1 HV2 HX ⊢
          by_cases e4 : r4 = 4
          · subst e4
            go_wp2
            go_ret
            exact ⟨rfl, STA.out.b⟩
          · have hg := HG.out
            rw [if_neg e4] at hg
            by_cases e0 : r4 = 0
            · subst e0
              rw [if_pos rfl] at hg
              have HG2 := Aside0.mk hg
              clear hg HG e4
              have hx0 : W9.cell? ⟨gX, 0, none⟩ = some (.slice A1 r1.length c1) := (blk_cell HX.out 0).trans rfl
              have hx1 : W9.cell? ⟨gX, 1, none⟩ = some (.int .i64 r2) := (blk_cell HX.out 1).trans rfl
              have hx2 : W9.cell? ⟨gX, 2, none⟩ = some (.slice B1 r3.length d1) := (blk_cell HX.out 2).trans rfl
              have hn0 := STA.out.c0
              have hn1 := STA.out.c1
              have hn2 := STA.out.c2
              have hm0 := blk_frozen STA.out.n 0
              have hm1 := blk_frozen STA.out.n 1
              have hm2 := blk_frozen STA.out.n 2
              go_wp2
              rw [HW.out]
              go_roundw
              case measure => have h1 := H1.out; have h2 := H0.out; simp only [intOf]; omega
              case rel => exact ⟨x10 + 1, r1, r2, r3, A1, c1, B1, d1, rfl, ⟨by have := H0.out; omega⟩, ⟨by have := H1.out; omega⟩, HG2, ⟨STA.out.put GN.out HV1.out HV2.out⟩⟩
            · rw [if_neg e0] at hg
              exact absurd hg (by simp)
      · have dl : decide (x10 < (op.length : Int)) = false := decide_eq_false hlt
        have hg := HGA.out
        rw [show op.drop x10.toNat = [] by apply List.drop_eq_nil_of_le; omega, goA] at hg
        obtain ⟨dn, hdn, hg⟩ := Option.bind_eq_some_iff.mp hg
        cases dn with
        | false => exact absurd hg (by simp)
        | true =>
        replace hg := (if_pos rfl).symm.trans hg
        obtain ⟨u, hu, hg⟩ := Option.bind_eq_some_iff.mp hg
        have HD := Aside0.mk hdn
        have HU := Aside0.mk hu
        have HE : Aside0 ((decide (u > a2) == decide (a2 < 20000000)) = true) := ⟨Option.some.inj hg⟩
        clear hg hu hdn hlt HGA H0 H1
        have hn0 := STA.out.c0
        have hn1 := STA.out.c1
        have hn2 := STA.out.c2
        go_wp2_with (first | (go_at_call 29; (with_reducible refine (inspect_Done.calls A c it ev B d sg a2 true _ ?s1 ?s2 ?s3 ?s4 HD.out).mono ?_); (case s1 => exact (Rdb.c STA.out.i STA.out.b).2.2); (case s2 => exact (Rdb.c STA.out.i STA.out.b).2.1); (case s3 => exact (Rdb.c STA.out.s STA.out.b).2.2); (case s4 => exact (Rdb.c STA.out.s STA.out.b).2.1); rintro e W5 ⟨rfl, hb⟩; have ST2 := Aside0.mk (STA.out.step hb); clear STA hb hn0 hn1 hn2; have STA := ST2; clear ST2; have hn0 := STA.out.c0; have hn1 := STA.out.c1; have hn2 := STA.out.c2) | (go_at_call 31; (with_reducible refine (inspect_Until.calls k A c it ev B d sg a2 u _ ?t1 ?t2 ?t3 ?t4 HU.out).mono ?_); (case t1 => exact (Rdb.c STA.out.i STA.out.b).2.2); (case t2 => exact (Rdb.c STA.out.i STA.out.b).2.1); (case t3 => exact (Rdb.c STA.out.s STA.out.b).2.2); (case t4 => exact (Rdb.c STA.out.s STA.out.b).2.1); rintro e W6 ⟨rfl, hb⟩; have ST2 := Aside0.mk (STA.out.step hb); clear STA hb hn0 hn1 hn2; have STA := ST2; clear ST2))
        go_ret
        exact ⟨by first | rfl | (have h := HE.out; simp only [gt_iff_lt] at h; rw [h]; rfl), STA.out.b⟩

end Go.Proofs.Ytmhggplhfcmgkaa.Q
