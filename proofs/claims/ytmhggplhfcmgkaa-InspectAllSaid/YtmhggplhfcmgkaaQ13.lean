-- written by wip/drive.py (this session's program) over the kit's print words
import Derived.Test.YtmhggplhfcmgkaaQ0
namespace Go.Proofs.Ytmhggplhfcmgkaa.Q
open Go.RowKit Go.Proofs.YtmhggplhfcmgkaaW.PrintWords Go.Proofs.YtmhggplhfcmgkaaW.PrintLast Go.Proofs.YtmhggplhfcmgkaaW.PrintMore
attribute [local go_sem] max2_int min2_int max_two min_two max_three min_three max_four min_four   -- for this text's walks alone
set_option linter.unusedVariables false
set_option linter.unusedSimpArgs false

/-! ### inspect_Last: function 24 -/
section
open Go.Shelf
attribute [local go_sem] Oper.semAt_some
/-- What has come when k rounds are over: f 0, .., f (k - 1). -/
def uptoB {α : Type} (f : Nat → α) (k : Nat) : List α := (List.range k).map f
theorem uptoB_succ {α : Type} (f : Nat → α) (k : Nat) : uptoB f (k + 1) = uptoB f k ++ [f k] := by simp [uptoB, List.range_succ]
theorem uptoB_length {α : Type} (f : Nat → α) (k : Nat) : (uptoB f k).length = k := by simp [uptoB]
/-- The sign that comes in round k, the last first. -/
def backAt (l : List S35) (k : Nat) : S35 := rd_T35 l ((l.length : Int) - 1 - k)
def bk35 (x : Int × S35) : Array Value := #[.int .i64 x.1, .agg #[.int .i64 x.2.f0, .int .i64 x.2.f1, .int .i64 x.2.f2]]
def backF (l : List S35) (k : Nat) : Int × S35 := ((l.length : Int) - 1 - k, backAt l k)
set_option maxRecDepth 100000 in
set_option maxHeartbeats 2000000 in
theorem back1_in (F : Fence) (n : Nat) (h75 : F.fn 75) (hro : F.round = none) (hn : 1 ≤ n) (lp Bs n₀ : Nat) (A : Option Addr) (c : Nat) (l : List S35) (J Jx : List (Int × S35) → World → Prop)
  (hY : ∀ pre x W, J pre W → pre.length < l.length → YieldAt F (n - 1) Try.prog lp (bk35 x) W fun e W' =>
   (e = .returned (.bool true) ∧ J (pre ++ [x]) W' ∧ Below n₀ W W') ∨ (e = .returned (.bool false) ∧ Jx (pre ++ [x]) W'))
  (W : World) (hBs : W.cell? ⟨Bs, 0, none⟩ = some (.slice A l.length c)) (hBn : Bs < n₀) (hC : ∀ W', Below n₀ W W' → Kd.C k35 W' A l.length l) (h0 : J [] W) :
  CallsIn F n Try.prog 75 #[.func (.yield lp) #[] #[], .pointer (some ⟨Bs, 0, none⟩)] W fun e W' => (∃ v, e = .returned v) ∧
   ((∃ ys, ys = uptoB (backF l) l.length ∧ J ys W') ∨ (∃ pre, (∃ k, k ≤ l.length ∧ pre = uptoB (backF l) k) ∧ Jx pre W')) := by
 have hu35 := Try.underlying35
 have HN := a_ (Kd.C_max (hC W (Below.refl _ _)))
 have HC := a_ hC
 have HBS := a_ hBs
 clear hC
 refine callsIn_of_wp Try.func75 rfl h75 ?_ hro
 simp only [Try.ntmps75, List.size_toArray, List.length_cons, List.length_nil, Nat.reduceAdd, Nat.reduceSub, Array.replicate_succ, Array.replicate_zero, List.push_toArray, List.append_toArray, List.nil_append, List.cons_append]
 gi_wp2
 gi_loopw [3] (fun v wr => ∃ k : Nat, Aside0 (k ≤ l.length) ∧ v = .int .i64 ((l.length : Int) - 1 - k) ∧ J (uptoB (backF l) k) wr ∧ Aside0 (Below n₀ W wr))
  (fun v _ => (intOf v + 1).toNat)
 case atStart => exact ⟨0, ⟨Nat.zero_le _⟩, by have := HN.out; rw [show wrap64 ((l.length : Int) - 1) = (l.length : Int) - 1 - ((0 : Nat) : Int) by unfold wrap64; omega], h0, ⟨Below.refl _ _⟩⟩
 case round =>
  obtain ⟨k, HK, rfl, hJs, hnx⟩ := hrel
  have hBs' := (hnx.out.cell (p := ⟨Bs, 0, none⟩) hBn).trans HBS.out
  by_cases hlt : k < l.length
  ·have p1 : 0 ≤ (l.length : Int) - 1 - k := by omega
   have q1 : (l.length : Int) - 1 - k < (l.length : Int) := by omega
   obtain ⟨ad, ea, g0, g1, g2⟩ := at_T35 (HC.out wr hnx.out) _ p1 q1
   cases ea
   obtain ⟨fn, tmps, assign, body, hy, hR⟩ := hY _ (backF l k) wr hJs (by rw [uptoB_length]; exact hlt)
   have hy' : (Instr.yield lp #[.int .i64 ((l.length : Int) - 1 - k), .agg #[.int .i64 (rd_T35 l ((l.length : Int) - 1 - k)).f0, .int .i64 (rd_T35 l ((l.length : Int) - 1 - k)).f1, .int .i64 (rd_T35 l ((l.length : Int) - 1 - k)).f2]]).run Try.prog wr = .ok (.round lp fn tmps assign body) wr := hy
   clear hy
   have HLT := a_ hlt
   have HR := a_ hR
   have HX3 : Aside0 (wrap64 ((l.length : Int) - 1 - k - 1) = (l.length : Int) - 1 - ((k + 1 : Nat) : Int)) := ⟨by have := HN.out; unfold wrap64; omega⟩
   clear hlt hR
   obtain ⟨x3, hx3⟩ : ∃ x3 : Int, (l.length : Int) - 1 - k = x3 := ⟨_, rfl⟩
   have HX := a_ hx3
   rw [hx3] at p1 q1 g0 g1 g2 hy' HX3 ⊢
   clear hx3
   have d1 : decide (0 ≤ x3) = true := decide_eq_true p1
   replace p1 := eq_true p1
   replace q1 := eq_true q1
   gi_wp2
   refine HR.out.mono ?_
   rintro e W3 (⟨rfl, hJ3, hk3⟩ | ⟨rfl, hJx3⟩)
   ·have HK3 := a_ hk3
    clear hk3
    gi_wp2
    go_roundw
    case rel => exact ⟨k + 1, ⟨by have := HLT.out; omega⟩, by rw [HX3.out], by rw [uptoB_succ]; exact hJ3, ⟨hnx.out.trans HK3.out⟩⟩
    case measure => have h1 := HX3.out; have h2 := HX.out; have h3 := HLT.out; rw [h1]; simp only [intOf]; omega
   ·gi_wp2
    refine bodyPost_ret (results_none rfl _ _ _) rfl ?_
    exact ⟨⟨_, rfl⟩, .inr ⟨_, ⟨k + 1, by have := HLT.out; omega, (uptoB_succ _ _).symm⟩, hJx3⟩⟩
  ·obtain rfl : k = l.length := by have := HK.out; omega
   have d1 : decide (0 ≤ (l.length : Int) - 1 - (l.length : Int)) = false := decide_eq_false (by omega)
   clear hlt
   gi_wp2
   go_end0
   exact ⟨⟨_, rfl⟩, .inl ⟨_, rfl, hJs⟩⟩
theorem Backward35_in (F : Fence) (n : Nat) (h59 : F.fn 59) (hro : F.round = none) (a : Option Addr) (len cap : Nat) (w : World) :
  CallsIn F n Try.prog 59 #[.slice a len cap] w fun e w' => e = .returned (.func (.func 75) #[] #[.pointer (some ⟨w.heap.size, 0, none⟩)]) ∧ w' = w.alloc (.cells #[.slice a len cap] 23) := by
 refine callsIn_of_wp Try.func59 rfl h59 ?_ hro
 simp only [Try.ntmps59, List.size_toArray, List.length_cons, List.length_nil, Nat.reduceAdd, Nat.reduceSub, Array.replicate_succ, Array.replicate_zero, List.push_toArray, List.append_toArray, List.nil_append, List.cons_append]
 gi_wp2
 go_ret
 exact ⟨rfl, rfl⟩
theorem back_stops (F : Fence) (n : Nat) (h75 : F.fn 75) (hro : F.round = none) (hn : 1 ≤ n) (Bs n₀ : Nat) (A : Option Addr) (c : Nat) (l : List S35) (w : World) (hBs : Bs < n₀) (hn₀ : n₀ ≤ w.heap.size)
  (hc : w.cell? ⟨Bs, 0, none⟩ = some (.slice A l.length c)) (hC : ∀ W', Below n₀ w W' → Kd.C k35 W' A l.length l) :
  SeqStopsK F n Try.prog 75 #[.pointer (some ⟨Bs, 0, none⟩)] bk35 (Below n₀) (fun ys => ys = uptoB (backF l) l.length) (fun pre => ∃ k, k ≤ l.length ∧ pre = uptoB (backF l) k) l.length w := fun lp J Jx W hW _ _ hY h0 =>
 back1_in F n h75 hro hn lp Bs n₀ A c l J Jx hY W ((hW.cell (p := ⟨Bs, 0, none⟩) (Nat.lt_of_lt_of_le hBs hn₀)).trans hc) hBs (fun W' h => hC W' ((hW.mono hn₀).trans h)) h0

theorem blk_own {β : Type} (B : Nat) (cs : Array Value) (t : TypeId) (fr : Nat × Nat) : Own (fun (_ : β) W => W.heap[B]? = some (.cells cs t fr)) := fun _ _ _ _ hs hg hr => (grownBy_keeps_cells hg hr hs rfl).trans hs
theorem own_pure {β : Type} (p : β → Prop) : Own (fun s (_ : World) => p s) := fun _ _ _ _ hs _ _ => hs
def lastT (item t : Int) (x : S35) : Bool := decide (x.f0 = item) && decide (x.f2 ≤ t)
def lastR (l : List S35) (item t : Int) : Int × Int × Int × Bool := match l.reverse.find? (lastT item t) with
 | some s => (s.f0, s.f1, s.f2, true)
 | none => (0, 0, 0, false)
def inspect_Last.f (l0_0 : List Int) (a0_1 : Int) (l0_2 : List S35) (a1 : Int) (a2 : Int) : Option (Int × Int × Int × Bool) := some (lastR l0_2 a1 a2)
set_option maxRecDepth 100000 in
set_option maxHeartbeats 4000000 in
theorem Last_in (F : Fence) (n : Nat) (h24 : F.fn 24) (h59 : F.fn 59) (h75 : F.fn 75) (hro : F.round = none) (hn : 3 ≤ n) (A0 : Option Addr) (n0 c0 : Nat) (every : Int) (A2 : Option Addr) (c2 : Nat) (l : List S35) (item t : Int) (w : World) (hr : Kd.C k35 w A2 l.length l) (r1 r2 r3 : Int) (r4 : Bool) (hres : lastR l item t = (r1, r2, r3, r4)) :
  CallsIn F n Try.prog 24 #[.agg #[.slice A0 n0 c0, .int .i64 every, .slice A2 l.length c2], .int .i64 item, .int .i64 t] w fun e W' => e = .returned (.tuple #[.agg #[.int .i64 r1, .int .i64 r2, .int .i64 r3], .bool r4]) ∧ Below w.heap.size w W' := by
 have h1 : 1 ≤ n := by omega
 have hu25 := Try.underlying25
 have hu35 := Try.underlying35
 have HR := a_ hr
 have HRES := a_ hres
 clear hr hres
 refine callsIn_of_wp_marks Try.func24 rfl h24 ?_ hro
 simp only [Try.ntmps24, List.size_toArray, List.length_cons, List.length_nil, Nat.reduceAdd, Nat.reduceSub, Array.replicate_succ, Array.replicate_zero, List.push_toArray, List.append_toArray, List.nil_append, List.cons_append]
 gi_wp2_with (gi_at_call 59; refine (Backward35_in F (n - 1) h59 hro _ _ _ _).mono ?_; rintro e w' ⟨rfl, rfl⟩)
 obtain ⟨b, hb⟩ : ∃ b, w.heap.size = b := ⟨_, rfl⟩
 have e0 : (w.alloc (Obj.cells #[Value.slice A0 n0 c0, Value.int IntKind.i64 every, Value.slice A2 l.length c2] 25)).heap.size = b + 1 := by simp [hb]
 obtain ⟨W0, hW0⟩ : ∃ W0, ((((((w.alloc (Obj.cells #[Value.slice A0 n0 c0, Value.int IntKind.i64 every, Value.slice A2 l.length c2] 25)).alloc
           (Obj.cells #[Value.int IntKind.i64 item] 3)).alloc
         (Obj.cells #[Value.int IntKind.i64 t] 3)).alloc
       (Obj.cells #[Value.int IntKind.i64 0, Value.int IntKind.i64 0, Value.int IntKind.i64 0] 35)).alloc
     (Obj.cells #[Value.bool false] 4)).alloc
   (Obj.cells #[Value.slice A2 l.length c2] 23)) = W0 := ⟨_, rfl⟩
 have hB0 : Below w.heap.size w W0 := by rw [← hW0]; exact below_alloc (below_alloc (below_alloc (below_alloc (below_alloc (below_alloc (Below.refl _ _) _) _) _) _) _) _
 have q4 : W0.heap[w.heap.size + 1]? = some (.cells #[.int .i64 item] 3 (0, 0)) := by
  rw [← hW0]; have := blk_alloc (blk_alloc (blk_alloc (blk_alloc (heap_alloc_new (w.alloc (Obj.cells #[Value.slice A0 n0 c0, Value.int IntKind.i64 every, Value.slice A2 l.length c2] 25)) (Obj.cells #[Value.int IntKind.i64 item] 3)) (Obj.cells #[Value.int IntKind.i64 t] 3)) (Obj.cells #[Value.int IntKind.i64 0, Value.int IntKind.i64 0, Value.int IntKind.i64 0] 35)) (Obj.cells #[Value.bool false] 4)) (Obj.cells #[Value.slice A2 l.length c2] 23)
  simpa using this
 have q5 : W0.heap[w.heap.size + 1 + 1]? = some (.cells #[.int .i64 t] 3 (0, 0)) := by
  rw [← hW0]; have := blk_alloc (blk_alloc (blk_alloc (heap_alloc_new ((w.alloc (Obj.cells #[Value.slice A0 n0 c0, Value.int IntKind.i64 every, Value.slice A2 l.length c2] 25)).alloc (Obj.cells #[Value.int IntKind.i64 item] 3)) (Obj.cells #[Value.int IntKind.i64 t] 3)) (Obj.cells #[Value.int IntKind.i64 0, Value.int IntKind.i64 0, Value.int IntKind.i64 0] 35)) (Obj.cells #[Value.bool false] 4)) (Obj.cells #[Value.slice A2 l.length c2] 23)
  simpa using this
 have q6 : W0.heap[w.heap.size + 1 + 1 + 1]? = some (.cells #[.int .i64 0, .int .i64 0, .int .i64 0] 35 (0, 0)) := by
  rw [← hW0]; have := blk_alloc (blk_alloc (heap_alloc_new (((w.alloc (Obj.cells #[Value.slice A0 n0 c0, Value.int IntKind.i64 every, Value.slice A2 l.length c2] 25)).alloc (Obj.cells #[Value.int IntKind.i64 item] 3)).alloc (Obj.cells #[Value.int IntKind.i64 t] 3)) (Obj.cells #[Value.int IntKind.i64 0, Value.int IntKind.i64 0, Value.int IntKind.i64 0] 35)) (Obj.cells #[Value.bool false] 4)) (Obj.cells #[Value.slice A2 l.length c2] 23)
  simpa using this
 have q7 : W0.heap[w.heap.size + 1 + 1 + 1 + 1]? = some (.cells #[.bool false] 4 (0, 0)) := by
  rw [← hW0]; have := blk_alloc (heap_alloc_new ((((w.alloc (Obj.cells #[Value.slice A0 n0 c0, Value.int IntKind.i64 every, Value.slice A2 l.length c2] 25)).alloc (Obj.cells #[Value.int IntKind.i64 item] 3)).alloc (Obj.cells #[Value.int IntKind.i64 t] 3)).alloc (Obj.cells #[Value.int IntKind.i64 0, Value.int IntKind.i64 0, Value.int IntKind.i64 0] 35)) (Obj.cells #[Value.bool false] 4)) (Obj.cells #[Value.slice A2 l.length c2] 23)
  simpa using this
 have q8 : W0.heap[w.heap.size + 1 + 1 + 1 + 1 + 1]? = some (.cells #[.slice A2 l.length c2] 23 (0, 0)) := by
  rw [← hW0]; have := heap_alloc_new (((((w.alloc (Obj.cells #[Value.slice A0 n0 c0, Value.int IntKind.i64 every, Value.slice A2 l.length c2] 25)).alloc (Obj.cells #[Value.int IntKind.i64 item] 3)).alloc (Obj.cells #[Value.int IntKind.i64 t] 3)).alloc (Obj.cells #[Value.int IntKind.i64 0, Value.int IntKind.i64 0, Value.int IntKind.i64 0] 35)).alloc (Obj.cells #[Value.bool false] 4)) (Obj.cells #[Value.slice A2 l.length c2] 23)
  simpa using this
 have hsz : W0.heap.size = w.heap.size + 6 := by rw [← hW0]; simp
 rw [hW0]
 clear hW0 e0 hb b
 refine wpIn_rangeFunc_ownH hro h1 (gf := 75) (lb := #[.pointer (some ⟨w.heap.size + 1 + 1 + 1 + 1 + 1, 0, none⟩)]) rfl h75 (enters_of Try.func75 (by kernel_rfl) rfl)
  (back_stops F (n - 1) h75 hro (by omega) (w.heap.size + 1 + 1 + 1 + 1 + 1) W0.heap.size A2 c2 l W0 (by omega) (Nat.le_refl _) ((blk_cell q8 0).trans rfl) (fun W' hb => Kd.C_below (Kd.C_below HR.out hB0) hb)) belowK_t (belowK_b (Nat.le_refl _)) (Below.refl _ _) (fun _ => rfl)
  (fun pre W => (W.heap[w.heap.size + 1]? = some (.cells #[.int .i64 item] 3 (0, 0)) ∧ W.heap[w.heap.size + 1 + 1]? = some (.cells #[.int .i64 t] 3 (0, 0)) ∧ W.heap[w.heap.size + 1 + 1 + 1]? = some (.cells #[.int .i64 0, .int .i64 0, .int .i64 0] 35 (0, 0)) ∧ W.heap[w.heap.size + 1 + 1 + 1 + 1]? = some (.cells #[.bool false] 4 (0, 0)) ∧ (∀ p ∈ pre, lastT item t p.2 = false)) ∧ Below W0.heap.size W0 W)
  (fun c pre W => (c = .ret ∧ ∃ ini last, pre = ini ++ [last] ∧ (∀ p ∈ ini, lastT item t p.2 = false) ∧ lastT item t last.2 = true ∧ W.heap[w.heap.size + 1 + 1 + 1]? = some (.cells #[.int .i64 last.2.f0, .int .i64 last.2.f1, .int .i64 last.2.f2] 35 (0, 0)) ∧ W.heap[w.heap.size + 1 + 1 + 1 + 1]? = some (.cells #[.bool true] 4 (0, 0))) ∧ Below w.heap.size w W)
  (OwnFrom.and (Own.from (fun s A B row hs hg hr => ⟨blk_own (β := Unit) _ _ _ _ () A B row hs.1 hg hr, blk_own (β := Unit) _ _ _ _ () A B row hs.2.1 hg hr, blk_own (β := Unit) _ _ _ _ () A B row hs.2.2.1 hg hr, blk_own (β := Unit) _ _ _ _ () A B row hs.2.2.2.1 hg hr, hs.2.2.2.2⟩) _) (ownFrom_below (Nat.le_refl _) (Nat.le_refl _)))
  (fun c => OwnFrom.and (Own.from (fun s A B row hs hg hr => by obtain ⟨hc, ini, last, e1, e2, e3, e4, e5⟩ := hs; exact ⟨hc, ini, last, e1, e2, e3, blk_own (β := Unit) _ _ _ _ () A B row e4 hg hr, blk_own (β := Unit) _ _ _ _ () A B row e5 hg hr⟩) _) (ownFrom_below (Nat.le_refl _) (by omega)))
  ⟨⟨q4, q5, q6, q7, by simp⟩, Below.refl _ _⟩
  (fun x a' W => ∃ Bx, w.heap.size + 5 < Bx ∧ W.heap[Bx]? = some (.cells #[.int .i64 x.2.f0, .int .i64 x.2.f1, .int .i64 x.2.f2] 35 (0, 0)) ∧ a' = { tmps := #[.agg #[.slice A0 n0 c0, .int .i64 every, .slice A2 l.length c2], .int .i64 item, .int .i64 t, .pointer (some ⟨w.heap.size, 0, none⟩), .pointer (some ⟨w.heap.size + 1, 0, none⟩), .pointer (some ⟨w.heap.size + 1 + 1, 0, none⟩), .pointer (some ⟨w.heap.size + 1 + 1 + 1, 0, none⟩), .pointer (some ⟨w.heap.size + 1 + 1 + 1 + 1, 0, none⟩), undef, .pointer (some ⟨Bx, 0, none⟩), .pointer (some ⟨w.heap.size, 2, none⟩), .slice A2 l.length c2, .func (.func 75) #[] #[.pointer (some ⟨w.heap.size + 1 + 1 + 1 + 1 + 1, 0, none⟩)], .int .i64 x.1, .agg #[.int .i64 x.2.f0, .int .i64 x.2.f1, .int .i64 x.2.f2], undef, undef, undef, undef, undef, undef, undef, undef, undef, undef, undef, undef], defers := [] })
  (fun x a' _ X Y row hs hg hr => by obtain ⟨Bx, h1, h2, h3⟩ := hs; exact ⟨Bx, h1, blk_own (β := Unit) _ _ _ _ () X Y row h2 hg (fun r e => (hr r e).2), h3⟩)
  ?assign ?body ?done ?stop
 case assign =>
  rintro lp pre x W K ⟨⟨u4, u5, u6, u7, hp⟩, hB1⟩ hK
  unfold bk35
  have HB1 := a_ hB1
  clear hB1
  gi_wp2
  exact hK _ _ ((KeepsOthers.alloc _ _).from _) ((Below.refl _ W).alloc HB1.out.size _) ⟨⟨blk_alloc u4 _, blk_alloc u5 _, blk_alloc u6 _, blk_alloc u7 _, hp⟩, HB1.out.alloc HB1.out.size _⟩ ⟨W.heap.size, by have := HB1.out.size; omega, blk_new W _, rfl⟩
 case body =>
  rintro lp pre x a' W hl ⟨r, hr⟩ ⟨⟨u4, u5, u6, u7, hp⟩, hB1⟩ ⟨Bx, hBx, bX, rfl⟩ hlt
  have HB1 := a_ hB1
  have U4 := a_ u4
  have U5 := a_ u5
  have U6 := a_ u6
  have U7 := a_ u7
  have BX := a_ bX
  have HP := a_ hp
  have z0 : W.cell? ⟨Bx, 0, none⟩ = some (.int .i64 x.2.f0) := (blk_cell bX 0).trans rfl
  have z1 : W.cell? ⟨Bx, 1, none⟩ = some (.int .i64 x.2.f1) := (blk_cell bX 1).trans rfl
  have z2 : W.cell? ⟨Bx, 2, none⟩ = some (.int .i64 x.2.f2) := (blk_cell bX 2).trans rfl
  have z4 : W.cell? ⟨w.heap.size + 1, 0, none⟩ = some (.int .i64 item) := (blk_cell u4 0).trans rfl
  have z5 : W.cell? ⟨w.heap.size + 1 + 1, 0, none⟩ = some (.int .i64 t) := (blk_cell u5 0).trans rfl
  have z60 : W.cell? ⟨w.heap.size + 1 + 1 + 1, 0, none⟩ = some (.int .i64 0) := (blk_cell u6 0).trans rfl
  have z61 : W.cell? ⟨w.heap.size + 1 + 1 + 1, 1, none⟩ = some (.int .i64 0) := (blk_cell u6 1).trans rfl
  have z62 : W.cell? ⟨w.heap.size + 1 + 1 + 1, 2, none⟩ = some (.int .i64 0) := (blk_cell u6 2).trans rfl
  have z7 : W.cell? ⟨w.heap.size + 1 + 1 + 1 + 1, 0, none⟩ = some (.bool false) := (blk_cell u7 0).trans rfl
  have y60 := blk_frozen u6 0
  have y61 := blk_frozen u6 1
  have y62 := blk_frozen u6 2
  have y7 := blk_frozen u7 0
  clear hB1 u4 u5 u6 u7 bX hp hlt hr hl
  by_cases c1 : x.2.f0 = item
  ·have d1 : (x.2.f0 == item) = true := beq_iff_eq.2 c1
   by_cases c2 : x.2.f2 ≤ t
   ·have d2 : decide (x.2.f2 ≤ t) = true := decide_eq_true c2
    have HT : Aside0 (lastT item t x.2 = true) := ⟨by simp [lastT, c1, c2]⟩
    clear c1 c2
    gi_wp2
    have hBw : Below w.heap.size w W := hB0.trans (HB1.out.mono hB0.size)
    exact ⟨((((KeepsOthers.setCell _ _ _).trans (KeepsOthers.setCell _ _ _)).trans (KeepsOthers.setCell _ _ _)).trans (KeepsOthers.setCell _ _ _)).from _, ⟨rfl, pre, x, rfl, HP.out, HT.out,
     blk_far (by simpa using blk_set (blk_set (blk_set U6.out 0 (.int .i64 x.2.f0)) 1 (.int .i64 x.2.f1)) 2 (.int .i64 x.2.f2)) (by simp) _,
     by simpa using blk_set (blk_far (blk_far (blk_far U7.out (by simp) _) (by simp) _) (by simp) _) 0 (.bool true)⟩,
     (((hBw.setCell (p := ⟨w.heap.size + 1 + 1 + 1, 0, none⟩) (by simp; omega) _).setCell (p := ⟨w.heap.size + 1 + 1 + 1, 1, none⟩) (by simp; omega) _).setCell (p := ⟨w.heap.size + 1 + 1 + 1, 2, none⟩) (by simp; omega) _).setCell (p := ⟨w.heap.size + 1 + 1 + 1 + 1, 0, none⟩) (by simp; omega) _⟩
   ·have d2 : decide (x.2.f2 ≤ t) = false := decide_eq_false c2
    have HT : Aside0 (lastT item t x.2 = false) := ⟨by simp [lastT, c2]⟩
    clear c1 c2
    gi_wp2
    exact ⟨KeepsFrom.refl _ _, Below.refl _ _, ⟨U4.out, U5.out, U6.out, U7.out, fun p hp' => (List.mem_append.1 hp').elim (HP.out p) (fun e => by simp at e; subst e; exact HT.out)⟩, HB1.out⟩
  ·have d1 : (x.2.f0 == item) = false := beq_eq_false_iff_ne.2 c1
   have HT : Aside0 (lastT item t x.2 = false) := ⟨by simp [lastT, c1]⟩
   clear c1
   gi_wp2
   exact ⟨KeepsFrom.refl _ _, Below.refl _ _, ⟨U4.out, U5.out, U6.out, U7.out, fun p hp' => (List.mem_append.1 hp').elim (HP.out p) (fun e => by simp at e; subst e; exact HT.out)⟩, HB1.out⟩
 case done =>
  rintro D ys W hD rfl ⟨⟨u4, u5, u6, u7, hp⟩, hB1⟩ hK
  have HB1 := a_ hB1
  have U6 := a_ u6
  have U7 := a_ u7
  have HP := a_ hp
  have z60 : W.cell? ⟨w.heap.size + 1 + 1 + 1, 0, none⟩ = some (.int .i64 0) := (blk_cell u6 0).trans rfl
  have z61 : W.cell? ⟨w.heap.size + 1 + 1 + 1, 1, none⟩ = some (.int .i64 0) := (blk_cell u6 1).trans rfl
  have z62 : W.cell? ⟨w.heap.size + 1 + 1 + 1, 2, none⟩ = some (.int .i64 0) := (blk_cell u6 2).trans rfl
  have z7 : W.cell? ⟨w.heap.size + 1 + 1 + 1 + 1, 0, none⟩ = some (.bool false) := (blk_cell u7 0).trans rfl
  have y60 := blk_frozen u6 0
  have y61 := blk_frozen u6 1
  have y62 := blk_frozen u6 2
  have y7 := blk_frozen u7 0
  have HK := a_ hK
  clear hB1 u4 u5 u6 u7 hp hK
  gi_wp2
  have hBw : Below w.heap.size w W := hB0.trans (HB1.out.mono hB0.size)
  have b6 := blk_far (p := ⟨w.heap.size + 1 + 1 + 1 + 1, 0, none⟩) (blk_set (blk_set (blk_set U6.out 0 (.int .i64 0)) 1 (.int .i64 0)) 2 (.int .i64 0)) (by simp) (.bool false)
  have b7 := blk_set (blk_far (p := ⟨w.heap.size + 1 + 1 + 1, 2, none⟩) (blk_far (p := ⟨w.heap.size + 1 + 1 + 1, 1, none⟩) (blk_far (p := ⟨w.heap.size + 1 + 1 + 1, 0, none⟩) U7.out (by simp) (.int .i64 0)) (by simp) (.int .i64 0)) (by simp) (.int .i64 0)) 0 (.bool false)
  have hBz := (((hBw.setCell (p := ⟨w.heap.size + 1 + 1 + 1, 0, none⟩) (by simp; omega) (.int .i64 0)).setCell (p := ⟨w.heap.size + 1 + 1 + 1, 1, none⟩) (by simp; omega) (.int .i64 0)).setCell (p := ⟨w.heap.size + 1 + 1 + 1, 2, none⟩) (by simp; omega) (.int .i64 0)).setCell (p := ⟨w.heap.size + 1 + 1 + 1 + 1, 0, none⟩) (by simp; omega) (.bool false)
  have hK' := ((((KeepsOthers.setCell W ⟨w.heap.size + 1 + 1 + 1, 0, none⟩ (.int .i64 0)).trans (KeepsOthers.setCell _ ⟨w.heap.size + 1 + 1 + 1, 1, none⟩ (.int .i64 0))).trans (KeepsOthers.setCell _ ⟨w.heap.size + 1 + 1 + 1, 2, none⟩ (.int .i64 0))).trans (KeepsOthers.setCell _ ⟨w.heap.size + 1 + 1 + 1 + 1, 0, none⟩ (.bool false))).same D _ HK.out rfl
  refine ⟨by simp, .inl ⟨_, _, rfl, run_takeDeferred hK', ?_⟩⟩
  have c6 := (grownBy_keeps_cells (grownBy_putObj' _ D (.deferred none)) (fun r e => by cases e; exact ⟨_, hK', rfl⟩) b6 rfl).trans b6
  have c7 := (grownBy_keeps_cells (grownBy_putObj' _ D (.deferred none)) (fun r e => by cases e; exact ⟨_, hK', rfl⟩) b7 rfl).trans b7
  have k0 := blk_cell c6 0
  have k1 := blk_cell c6 1
  have k2 := blk_cell c6 2
  have k7 := blk_cell c7 0
  simp only [List.setIfInBounds_toArray, List.set_cons_zero, List.set_cons_succ] at k0 k1 k2 k7
  have hE : lastR l item t = (0, 0, 0, false) := by
   have hn : l.reverse.find? (lastT item t) = none := by
    refine List.find?_eq_none.2 (fun x hx => ?_)
    obtain ⟨i, hi, rfl⟩ := List.mem_iff_getElem.1 (List.mem_reverse.1 hx)
    have := HP.out (backF l (l.length - 1 - i)) (by simp only [uptoB, List.mem_map, List.mem_range]; exact ⟨_, by omega, rfl⟩)
    have e : (backF l (l.length - 1 - i)).2 = l[i] := by
     simp only [backF, backAt, rd_T35]
     rw [show ((l.length : Int) - 1 - ((l.length - 1 - i : Nat) : Int)).toNat = i by omega, List.getD_eq_getElem?_getD, List.getElem?_eq_getElem hi]; rfl
    rw [e] at this
    simp [this]
   simp [lastR, hn]
  rw [HRES.out] at hE
  simp only [Prod.mk.injEq] at hE
  obtain ⟨rfl, rfl, rfl, rfl⟩ := hE
  refine ⟨.tuple #[.agg #[.int .i64 0, .int .i64 0, .int .i64 0], .bool false], ?_, rfl, hBz.trans (belowK_b (w := w) (Nat.le_refl _) _ D _ _ (by omega) hK' rfl rfl)⟩
  simp [results, Try.f24, go_sem, k0, k1, k2, k7]
 case stop =>
  rintro D c pre W hD ⟨k, hk, rfl⟩ ⟨⟨rfl, ini, last, e1, e2, e3, u6, u7⟩, hBw⟩ hK
  have U6 := a_ u6
  have U7 := a_ u7
  have HBW := a_ hBw
  have HK := a_ hK
  have E1 := a_ e1
  have E2 := a_ e2
  have E3 := a_ e3
  clear u6 u7 hBw hK e1 e2 e3
  gi_wp2
  refine ⟨by simp, .inl ⟨_, _, rfl, run_takeDeferred HK.out, ?_⟩⟩
  have c6 := (grownBy_keeps_cells (grownBy_putObj' _ D (.deferred none)) (fun r e => by cases e; exact ⟨_, HK.out, rfl⟩) U6.out rfl).trans U6.out
  have c7 := (grownBy_keeps_cells (grownBy_putObj' _ D (.deferred none)) (fun r e => by cases e; exact ⟨_, HK.out, rfl⟩) U7.out rfl).trans U7.out
  have k0 := blk_cell c6 0
  have k1 := blk_cell c6 1
  have k2 := blk_cell c6 2
  have k7 := blk_cell c7 0
  have hE : lastR l item t = (last.2.f0, last.2.f1, last.2.f2, true) := by
   obtain ⟨k', rfl⟩ : ∃ k', k = k' + 1 := by
    cases k with
    | zero => have := E1.out; simp [uptoB] at this
    | succ k' => exact ⟨k', rfl⟩
   have e1 := E1.out
   rw [uptoB_succ] at e1
   obtain ⟨rfl, e5⟩ := List.append_inj' e1 rfl
   obtain rfl : backF l k' = last := by simpa using e5
   have hat : ∀ j, j < l.length → l.reverse[j]? = some (backF l j).2 := fun j hj => by
    rw [List.getElem?_reverse hj]
    simp only [backF, backAt, rd_T35]
    rw [show ((l.length : Int) - 1 - (j : Int)).toNat = l.length - 1 - j by omega, List.getD_eq_getElem?_getD, List.getElem?_eq_getElem (show l.length - 1 - j < l.length by omega)]; rfl
   have hf : l.reverse.find? (lastT item t) = some (backF l k').2 := by
    rw [List.find?_eq_some_iff_getElem]
    refine ⟨E3.out, k', by simp; omega, ?_, fun j hj => ?_⟩
    ·have := hat k' (by omega)
     rw [List.getElem?_eq_getElem (by simp; omega)] at this
     exact Option.some.inj this
    ·have h2 := hat j (by omega)
     rw [List.getElem?_eq_getElem (by simp; omega)] at h2
     rw [Option.some.inj h2]
     have := E2.out (backF l j) (by simp only [uptoB, List.mem_map, List.mem_range]; exact ⟨j, by omega, rfl⟩)
     simp [this]
   simp [lastR, hf]
  rw [HRES.out] at hE
  simp only [Prod.mk.injEq] at hE
  obtain ⟨rfl, rfl, rfl, rfl⟩ := hE
  refine ⟨.tuple #[.agg #[.int .i64 last.2.f0, .int .i64 last.2.f1, .int .i64 last.2.f2], .bool true], ?_, rfl, HBW.out.trans (belowK_b (w := w) (Nat.le_refl _) _ D _ _ (by omega) HK.out rfl rfl)⟩
  simp [results, Try.f24, go_sem, k0, k1, k2, k7]
theorem inspect_Last.calls (A0_0 : Option Addr) (c0_0 : Nat) (l0_0 : List Int) (a0_1 : Int) (A0_2 : Option Addr) (c0_2 : Nat) (l0_2 : List (S35)) (a1 : Int) (a2 : Int) (r1 : Int) (r2 : Int) (r3 : Int) (r4 : Bool) (w : World) (hr0_0 : Kd.C (Kd.int .i64) w A0_0 l0_0.length l0_0) (hc0_0 : l0_0.length ≤ c0_0) (hr0_2 : Kd.C k35 w A0_2 l0_2.length l0_2) (hc0_2 : l0_2.length ≤ c0_2) (h : inspect_Last.f l0_0 a0_1 l0_2 a1 a2 = some (r1, r2, r3, r4)) :
  Calls Try.prog 24 #[.agg #[.slice A0_0 l0_0.length c0_0, .int .i64 a0_1, .slice A0_2 l0_2.length c0_2], .int .i64 a1, .int .i64 a2] w fun e w' => e = .returned (.tuple #[.agg #[.int .i64 r1, .int .i64 r2, .int .i64 r3], .bool r4]) ∧ Below w.heap.size w w' :=
 callsIn_wide.1 (Last_in Fence.wide 3 trivial trivial trivial rfl (Nat.le_refl 3) A0_0 l0_0.length c0_0 a0_1 A0_2 c0_2 l0_2 a1 a2 w hr0_2 r1 r2 r3 r4 (Option.some.inj h))
end



end Go.Proofs.Ytmhggplhfcmgkaa.Q
