-- written by wip/drive.py (this session's program) over the kit's print words
import Derived.Test.YtmhggplhfcmgkaaQ0
namespace Go.Proofs.Ytmhggplhfcmgkaa.Q
open Go.RowKit Go.Proofs.YtmhggplhfcmgkaaW.PrintWords Go.Proofs.YtmhggplhfcmgkaaW.PrintLast Go.Proofs.YtmhggplhfcmgkaaW.PrintMore
attribute [local go_sem] max2_int min2_int max_two min_two max_three min_three max_four min_four   -- for this text's walks alone
set_option linter.unusedVariables false
set_option linter.unusedSimpArgs false

/-! ### the closures of inspect.counts and the searches over signs -/
def cntB (item t every : Int) (x : S35) : Bool := decide (x.f0 = item) && (decide (x.f2 ≤ t) && decide (t < wrap64 (x.f2 + every)))
set_option maxHeartbeats 800000 in
theorem counts1_calls (x : S35) (bi bt bl : Nat) (item t every : Int) (b : Bool) (w : World)
  (hi : w.cell? ⟨bi, 0, none⟩ = some (.int .i64 item)) (ht : w.cell? ⟨bt, 0, none⟩ = some (.int .i64 t)) (hl : w.cell? ⟨bl, 1, none⟩ = some (.int .i64 every)) (hbb : cntB item t every x = b) :
  Calls Try.prog 76 #[.agg #[.int .i64 x.f0, .int .i64 x.f1, .int .i64 x.f2], .pointer (some ⟨bi, 0, none⟩), .pointer (some ⟨bt, 0, none⟩), .pointer (some ⟨bl, 0, none⟩)] w
   fun e w' => e = .returned (.bool b) ∧ Below w.heap.size w w' := by
 have hu25 := Try.underlying25
 have hu35 := Try.underlying35
 have hi2 := pw_cell_below (below_alloc (Below.refl w.heap.size w) (.cells #[.int .i64 x.f0, .int .i64 x.f1, .int .i64 x.f2] 35)) hi
 have ht2 := pw_cell_below (below_alloc (Below.refl w.heap.size w) (.cells #[.int .i64 x.f0, .int .i64 x.f1, .int .i64 x.f2] 35)) ht
 have hl2 := pw_cell_below (below_alloc (Below.refl w.heap.size w) (.cells #[.int .i64 x.f0, .int .i64 x.f1, .int .i64 x.f2] 35)) hl
 clear hi ht hl
 by_cases c1 : x.f0 = item
 ·have d1 : (x.f0 == item) = true := beq_iff_eq.2 c1
  by_cases c2 : x.f2 ≤ t
  ·have d2 : decide (x.f2 ≤ t) = true := decide_eq_true c2
   by_cases c3 : t < wrap64 (x.f2 + every)
   ·obtain rfl : true = b := by rw [← hbb]; simp [cntB, c1, c2, c3]
    have d3 : decide (t < wrap64 (x.f2 + every)) = true := decide_eq_true c3
    clear c1 c2 c3 hbb
    go_enter Try.func76, Try.ntmps76
    go_wp2
    go_ret
    exact ⟨rfl, (Below.refl _ w).alloc (Nat.le_refl _) _⟩
   ·obtain rfl : false = b := by rw [← hbb]; simp [cntB, c3]
    have d3 : decide (t < wrap64 (x.f2 + every)) = false := decide_eq_false c3
    clear c1 c2 c3 hbb
    go_enter Try.func76, Try.ntmps76
    go_wp2
    go_ret
    exact ⟨rfl, (Below.refl _ w).alloc (Nat.le_refl _) _⟩
  ·obtain rfl : false = b := by rw [← hbb]; simp [cntB, c2]
   have d2 : decide (x.f2 ≤ t) = false := decide_eq_false c2
   clear c1 c2 hbb
   go_enter Try.func76, Try.ntmps76
   go_wp2
   go_ret
   exact ⟨rfl, (Below.refl _ w).alloc (Nat.le_refl _) _⟩
 ·obtain rfl : false = b := by rw [← hbb]; simp [cntB, c1]
  have d1 : (x.f0 == item) = false := beq_eq_false_iff_ne.2 c1
  clear c1 hbb
  go_enter Try.func76, Try.ntmps76
  go_wp2
  go_ret
  exact ⟨rfl, (Below.refl _ w).alloc (Nat.le_refl _) _⟩
/-- The place of the first element from place i on of which p holds, or -1. -/
def idxFrom {α : Type} (p : α → Bool) : List α → Nat → Int
 | [], _ => -1
 | x :: l, i => if p x then (i : Int) else idxFrom p l (i + 1)
theorem idxFrom_at {α : Type} (p : α → Bool) (l : List α) (z : α) (i k : Nat) (h : k < l.length) : idxFrom p (l.drop k) i = if p (l.getD k z) then (i : Int) else idxFrom p (l.drop (k + 1)) (i + 1) := by
 rw [List.drop_eq_getElem_cons h]
 simp [idxFrom, List.getD_eq_getElem?_getD, List.getElem?_eq_getElem h]
theorem idxFrom_any {α : Type} (p : α → Bool) (l : List α) (i : Nat) : decide (0 ≤ idxFrom p l i) = l.any p := by
 induction l generalizing i with
 | nil => simp [idxFrom]
 | cons x l ih =>
  by_cases h : p x = true
  ·simp [idxFrom, h]
  ·rw [show idxFrom p (x :: l) i = idxFrom p l (i + 1) by simp [idxFrom, h], ih]; simp [h]
set_option maxHeartbeats 800000 in
theorem idx35_calls (bi bt bl : Nat) (p : S35 → Bool) (A : Option Addr) (c : Nat) (l : List S35) (w : World)
  (hr : Kd.C k35 w A l.length l) (hc : l.length ≤ c)
  (hp : ∀ (W : World) (x : S35) (b : Bool), Below w.heap.size w W → p x = b → Calls Try.prog 76 #[.agg #[.int .i64 x.f0, .int .i64 x.f1, .int .i64 x.f2], .pointer (some ⟨bi, 0, none⟩), .pointer (some ⟨bt, 0, none⟩), .pointer (some ⟨bl, 0, none⟩)] W fun e w' => e = .returned (.bool b) ∧ Below W.heap.size W w') :
  Calls Try.prog 63 #[.slice A l.length c, .func (.func 76) #[] #[.pointer (some ⟨bi, 0, none⟩), .pointer (some ⟨bt, 0, none⟩), .pointer (some ⟨bl, 0, none⟩)]] w
   fun e w' => e = .returned (.int .i64 (idxFrom p l 0)) ∧ Below w.heap.size w w' := by
 have hu35 := Try.underlying35
 have HR := a_ hr
 have HC := a_ hc
 have HP := a_ hp
 have HN := a_ (Kd.C_max hr)
 clear hr hc hp
 go_enter Try.func63, Try.ntmps63
 go_wp2
 go_loopw [8] (fun v8 wr => ∃ x8 : Int, v8 = .int .i64 x8 ∧ Aside0 (0 ≤ x8) ∧ Aside0 (x8 ≤ l.length) ∧ Aside0 (idxFrom p (l.drop x8.toNat) x8.toNat = idxFrom p l 0) ∧ Aside0 (Below w.heap.size w wr)) (fun v8 _ => l.length - (intOf v8).toNat)
 case atStart => exact ⟨0, rfl, ⟨by omega⟩, ⟨by omega⟩, ⟨rfl⟩, ⟨Below.refl _ _⟩⟩
 case round =>
  obtain ⟨x8, rfl, H0, H1, HE, HB⟩ := hrel
  by_cases hlt : x8 < (l.length : Int)
  ·have p1 := H0.out
   obtain ⟨ad, ea, g0, g1, g2⟩ := at_T35 HR.out x8 p1 hlt
   cases ea
   replace g0 := (HB.out.cell (World.block_lt_of_cell? w _ g0)).trans g0
   replace g1 := (HB.out.cell (World.block_lt_of_cell? w _ g1)).trans g1
   replace g2 := (HB.out.cell (World.block_lt_of_cell? w _ g2)).trans g2
   have HS := a_ (idxFrom_at p l z35 x8.toNat x8.toNat (by omega))
   have HX := a_ (show ((x8.toNat : Nat) : Int) = x8 by omega)
   have HW : Aside0 (wrap64 (x8 + 1) = x8 + 1) := ⟨by have := HN.out; unfold wrap64; omega⟩
   have C1 := a_ hlt
   have P1 := a_ p1
   replace p1 := eq_true p1
   have d1 : decide (x8 < (l.length : Int)) = true := decide_eq_true hlt
   replace hlt := eq_true hlt
   obtain ⟨b, hb⟩ : ∃ b, p (rd_T35 l x8) = b := ⟨_, rfl⟩
   have HBb := a_ hb
   clear hb
   cases b with
   | true =>
    go_wp2_with (go_at_call 76; (with_reducible refine (HP.out _ (rd_T35 l x8) true HB.out HBb.out).mono ?_); rintro e w' ⟨rfl, hbw⟩)
    go_ret
    exact ⟨by rw [← HE.out, HS.out, if_pos (by exact HBb.out), HX.out]; rfl, below_then HB.out HB.out.size hbw⟩
   | false =>
    go_wp2_with (go_at_call 76; (with_reducible refine (HP.out _ (rd_T35 l x8) false HB.out HBb.out).mono ?_); rintro e w' ⟨rfl, hbw⟩)
    go_roundw
    case rel => exact ⟨x8 + 1, by rw [HW.out], ⟨by have := P1.out; omega⟩, ⟨by have := C1.out; omega⟩, ⟨by rw [← HE.out, HS.out, if_neg (by have := HBb.out; unfold rd_T35 at this; rw [this]; simp), show (x8 + 1).toNat = x8.toNat + 1 by have := P1.out; omega]⟩, ⟨below_then HB.out HB.out.size hbw⟩⟩
    case measure => have h1 := P1.out; have h2 := C1.out; rw [HW.out]; simp only [intOf]; omega
  ·have d1 : decide (x8 < (l.length : Int)) = false := decide_eq_false hlt
   have HZ := a_ (show l.drop x8.toNat = [] by apply List.drop_eq_nil_of_le; omega)
   clear hlt
   go_wp2
   go_ret
   exact ⟨by rw [← HE.out, HZ.out]; rfl, HB.out⟩
set_option maxHeartbeats 800000 in
theorem any35_calls (bi bt bl : Nat) (p : S35 → Bool) (A : Option Addr) (c : Nat) (l : List S35) (w : World)
  (hr : Kd.C k35 w A l.length l) (hc : l.length ≤ c)
  (hp : ∀ (W : World) (x : S35) (b : Bool), Below w.heap.size w W → p x = b → Calls Try.prog 76 #[.agg #[.int .i64 x.f0, .int .i64 x.f1, .int .i64 x.f2], .pointer (some ⟨bi, 0, none⟩), .pointer (some ⟨bt, 0, none⟩), .pointer (some ⟨bl, 0, none⟩)] W fun e w' => e = .returned (.bool b) ∧ Below W.heap.size W w')
  (r : Bool) (hrr : l.any p = r) :
  Calls Try.prog 60 #[.slice A l.length c, .func (.func 76) #[] #[.pointer (some ⟨bi, 0, none⟩), .pointer (some ⟨bt, 0, none⟩), .pointer (some ⟨bl, 0, none⟩)]] w
   fun e w' => e = .returned (.bool r) ∧ Below w.heap.size w w' := by
 have HI := a_ (idx35_calls bi bt bl p A c l w hr hc hp)
 have HR := a_ (idxFrom_any p l 0)
 have HRR := a_ hrr
 clear hr hc hp hrr
 cases r with
 | true =>
  have hd : decide (0 ≤ idxFrom p l 0) = true := by rw [HR.out]; exact HRR.out
  generalize idxFrom p l 0 = z at *
  go_enter Try.func60, Try.ntmps60
  go_wp2_with (go_at_call 63; (with_reducible refine HI.out.mono ?_); rintro e w' ⟨rfl, hbw⟩)
  go_ret
  exact ⟨rfl, hbw⟩
 | false =>
  have hd : decide (0 ≤ idxFrom p l 0) = false := by rw [HR.out]; exact HRR.out
  generalize idxFrom p l 0 = z at *
  go_enter Try.func60, Try.ntmps60
  go_wp2_with (go_at_call 63; (with_reducible refine HI.out.mono ?_); rintro e w' ⟨rfl, hbw⟩)
  go_ret
  exact ⟨rfl, hbw⟩
set_option maxHeartbeats 800000 in
theorem idx56_78 (bi : Nat) (p : S56 → Bool) (A : Option Addr) (c : Nat) (l : List S56) (w : World)
  (hr : Kd.C k56 w A l.length l) (hc : l.length ≤ c)
  (hp : ∀ (W : World) (x : S56) (b : Bool), Below w.heap.size w W → p x = b → Calls Try.prog 78 #[.agg #[.int .i64 x.f0, .int .i64 x.f1, .int .i64 x.f2], .pointer (some ⟨bi, 0, none⟩)] W fun e w' => e = .returned (.bool b) ∧ Below W.heap.size W w') :
  Calls Try.prog 77 #[.slice A l.length c, .func (.func 78) #[] #[.pointer (some ⟨bi, 0, none⟩)]] w
   fun e w' => e = .returned (.int .i64 (idxFrom p l 0)) ∧ Below w.heap.size w w' := by
 have hu56 := Try.underlying56
 have HR := a_ hr
 have HC := a_ hc
 have HP := a_ hp
 have HN := a_ (Kd.C_max hr)
 clear hr hc hp
 go_enter Try.func77, Try.ntmps77
 go_wp2
 go_loopw [8] (fun v8 wr => ∃ x8 : Int, v8 = .int .i64 x8 ∧ Aside0 (0 ≤ x8) ∧ Aside0 (x8 ≤ l.length) ∧ Aside0 (idxFrom p (l.drop x8.toNat) x8.toNat = idxFrom p l 0) ∧ Aside0 (Below w.heap.size w wr)) (fun v8 _ => l.length - (intOf v8).toNat)
 case atStart => exact ⟨0, rfl, ⟨by omega⟩, ⟨by omega⟩, ⟨rfl⟩, ⟨Below.refl _ _⟩⟩
 case round =>
  obtain ⟨x8, rfl, H0, H1, HE, HB⟩ := hrel
  by_cases hlt : x8 < (l.length : Int)
  ·have p1 := H0.out
   obtain ⟨ad, ea, g0, g1, g2⟩ := at_T56 HR.out x8 p1 hlt
   cases ea
   replace g0 := (HB.out.cell (World.block_lt_of_cell? w _ g0)).trans g0
   replace g1 := (HB.out.cell (World.block_lt_of_cell? w _ g1)).trans g1
   replace g2 := (HB.out.cell (World.block_lt_of_cell? w _ g2)).trans g2
   have HS := a_ (idxFrom_at p l z56 x8.toNat x8.toNat (by omega))
   have HX := a_ (show ((x8.toNat : Nat) : Int) = x8 by omega)
   have HW : Aside0 (wrap64 (x8 + 1) = x8 + 1) := ⟨by have := HN.out; unfold wrap64; omega⟩
   have C1 := a_ hlt
   have P1 := a_ p1
   replace p1 := eq_true p1
   have d1 : decide (x8 < (l.length : Int)) = true := decide_eq_true hlt
   replace hlt := eq_true hlt
   obtain ⟨b, hb⟩ : ∃ b, p (rd_T56 l x8) = b := ⟨_, rfl⟩
   have HBb := a_ hb
   clear hb
   cases b with
   | true =>
    go_wp2_with (go_at_call 78; (with_reducible refine (HP.out _ (rd_T56 l x8) true HB.out HBb.out).mono ?_); rintro e w' ⟨rfl, hbw⟩)
    go_ret
    exact ⟨by rw [← HE.out, HS.out, if_pos (by exact HBb.out), HX.out]; rfl, below_then HB.out HB.out.size hbw⟩
   | false =>
    go_wp2_with (go_at_call 78; (with_reducible refine (HP.out _ (rd_T56 l x8) false HB.out HBb.out).mono ?_); rintro e w' ⟨rfl, hbw⟩)
    go_roundw
    case rel => exact ⟨x8 + 1, by rw [HW.out], ⟨by have := P1.out; omega⟩, ⟨by have := C1.out; omega⟩, ⟨by rw [← HE.out, HS.out, if_neg (by have := HBb.out; unfold rd_T56 at this; rw [this]; simp), show (x8 + 1).toNat = x8.toNat + 1 by have := P1.out; omega]⟩, ⟨below_then HB.out HB.out.size hbw⟩⟩
    case measure => have h1 := P1.out; have h2 := C1.out; rw [HW.out]; simp only [intOf]; omega
  ·have d1 : decide (x8 < (l.length : Int)) = false := decide_eq_false hlt
   have HZ := a_ (show l.drop x8.toNat = [] by apply List.drop_eq_nil_of_le; omega)
   clear hlt
   go_wp2
   go_ret
   exact ⟨by rw [← HE.out, HZ.out]; rfl, HB.out⟩
set_option maxHeartbeats 800000 in
theorem idx56_72 (bi : Nat) (p : S56 → Bool) (A : Option Addr) (c : Nat) (l : List S56) (w : World)
  (hr : Kd.C k56 w A l.length l) (hc : l.length ≤ c)
  (hp : ∀ (W : World) (x : S56) (b : Bool), Below w.heap.size w W → p x = b → Calls Try.prog 72 #[.agg #[.int .i64 x.f0, .int .i64 x.f1, .int .i64 x.f2], .pointer (some ⟨bi, 0, none⟩)] W fun e w' => e = .returned (.bool b) ∧ Below W.heap.size W w') :
  Calls Try.prog 77 #[.slice A l.length c, .func (.func 72) #[] #[.pointer (some ⟨bi, 0, none⟩)]] w
   fun e w' => e = .returned (.int .i64 (idxFrom p l 0)) ∧ Below w.heap.size w w' := by
 have hu56 := Try.underlying56
 have HR := a_ hr
 have HC := a_ hc
 have HP := a_ hp
 have HN := a_ (Kd.C_max hr)
 clear hr hc hp
 go_enter Try.func77, Try.ntmps77
 go_wp2
 go_loopw [8] (fun v8 wr => ∃ x8 : Int, v8 = .int .i64 x8 ∧ Aside0 (0 ≤ x8) ∧ Aside0 (x8 ≤ l.length) ∧ Aside0 (idxFrom p (l.drop x8.toNat) x8.toNat = idxFrom p l 0) ∧ Aside0 (Below w.heap.size w wr)) (fun v8 _ => l.length - (intOf v8).toNat)
 case atStart => exact ⟨0, rfl, ⟨by omega⟩, ⟨by omega⟩, ⟨rfl⟩, ⟨Below.refl _ _⟩⟩
 case round =>
  obtain ⟨x8, rfl, H0, H1, HE, HB⟩ := hrel
  by_cases hlt : x8 < (l.length : Int)
  ·have p1 := H0.out
   obtain ⟨ad, ea, g0, g1, g2⟩ := at_T56 HR.out x8 p1 hlt
   cases ea
   replace g0 := (HB.out.cell (World.block_lt_of_cell? w _ g0)).trans g0
   replace g1 := (HB.out.cell (World.block_lt_of_cell? w _ g1)).trans g1
   replace g2 := (HB.out.cell (World.block_lt_of_cell? w _ g2)).trans g2
   have HS := a_ (idxFrom_at p l z56 x8.toNat x8.toNat (by omega))
   have HX := a_ (show ((x8.toNat : Nat) : Int) = x8 by omega)
   have HW : Aside0 (wrap64 (x8 + 1) = x8 + 1) := ⟨by have := HN.out; unfold wrap64; omega⟩
   have C1 := a_ hlt
   have P1 := a_ p1
   replace p1 := eq_true p1
   have d1 : decide (x8 < (l.length : Int)) = true := decide_eq_true hlt
   replace hlt := eq_true hlt
   obtain ⟨b, hb⟩ : ∃ b, p (rd_T56 l x8) = b := ⟨_, rfl⟩
   have HBb := a_ hb
   clear hb
   cases b with
   | true =>
    go_wp2_with (go_at_call 72; (with_reducible refine (HP.out _ (rd_T56 l x8) true HB.out HBb.out).mono ?_); rintro e w' ⟨rfl, hbw⟩)
    go_ret
    exact ⟨by rw [← HE.out, HS.out, if_pos (by exact HBb.out), HX.out]; rfl, below_then HB.out HB.out.size hbw⟩
   | false =>
    go_wp2_with (go_at_call 72; (with_reducible refine (HP.out _ (rd_T56 l x8) false HB.out HBb.out).mono ?_); rintro e w' ⟨rfl, hbw⟩)
    go_roundw
    case rel => exact ⟨x8 + 1, by rw [HW.out], ⟨by have := P1.out; omega⟩, ⟨by have := C1.out; omega⟩, ⟨by rw [← HE.out, HS.out, if_neg (by have := HBb.out; unfold rd_T56 at this; rw [this]; simp), show (x8 + 1).toNat = x8.toNat + 1 by have := P1.out; omega]⟩, ⟨below_then HB.out HB.out.size hbw⟩⟩
    case measure => have h1 := P1.out; have h2 := C1.out; rw [HW.out]; simp only [intOf]; omega
  ·have d1 : decide (x8 < (l.length : Int)) = false := decide_eq_false hlt
   have HZ := a_ (show l.drop x8.toNat = [] by apply List.drop_eq_nil_of_le; omega)
   clear hlt
   go_wp2
   go_ret
   exact ⟨by rw [← HE.out, HZ.out]; rfl, HB.out⟩
set_option maxHeartbeats 800000 in
theorem any56_72 (bi : Nat) (p : S56 → Bool) (A : Option Addr) (c : Nat) (l : List S56) (w : World)
  (hr : Kd.C k56 w A l.length l) (hc : l.length ≤ c)
  (hp : ∀ (W : World) (x : S56) (b : Bool), Below w.heap.size w W → p x = b → Calls Try.prog 72 #[.agg #[.int .i64 x.f0, .int .i64 x.f1, .int .i64 x.f2], .pointer (some ⟨bi, 0, none⟩)] W fun e w' => e = .returned (.bool b) ∧ Below W.heap.size W w')
  (r : Bool) (hrr : l.any p = r) :
  Calls Try.prog 73 #[.slice A l.length c, .func (.func 72) #[] #[.pointer (some ⟨bi, 0, none⟩)]] w
   fun e w' => e = .returned (.bool r) ∧ Below w.heap.size w w' := by
 have HI := a_ (idx56_72 bi p A c l w hr hc hp)
 have HR := a_ (idxFrom_any p l 0)
 have HRR := a_ hrr
 clear hr hc hp hrr
 cases r with
 | true =>
  have hd : decide (0 ≤ idxFrom p l 0) = true := by rw [HR.out]; exact HRR.out
  generalize idxFrom p l 0 = z at *
  go_enter Try.func73, Try.ntmps73
  go_wp2_with (go_at_call 77; (with_reducible refine HI.out.mono ?_); rintro e w' ⟨rfl, hbw⟩)
  go_ret
  exact ⟨rfl, hbw⟩
 | false =>
  have hd : decide (0 ≤ idxFrom p l 0) = false := by rw [HR.out]; exact HRR.out
  generalize idxFrom p l 0 = z at *
  go_enter Try.func73, Try.ntmps73
  go_wp2_with (go_at_call 77; (with_reducible refine HI.out.mono ?_); rintro e w' ⟨rfl, hbw⟩)
  go_ret
  exact ⟨rfl, hbw⟩
set_option maxHeartbeats 800000 in
theorem idx63_80 (bi : Nat) (p : S63 → Bool) (A : Option Addr) (c : Nat) (l : List S63) (w : World)
  (hr : Kd.C k63 w A l.length l) (hc : l.length ≤ c)
  (hp : ∀ (W : World) (x : S63) (A1 : Option Addr) (c1 : Nat) (A3 : Option Addr) (c3 : Nat) (b : Bool), Below w.heap.size w W → p x = b → Calls Try.prog 80 #[.agg #[.int .i64 x.f0, .slice A1 x.f1.f0.length c1, .int .i64 x.f1.f1, .slice A3 x.f1.f2.length c3], .pointer (some ⟨bi, 0, none⟩)] W fun e w' => e = .returned (.bool b) ∧ Below W.heap.size W w') :
  Calls Try.prog 79 #[.slice A l.length c, .func (.func 80) #[] #[.pointer (some ⟨bi, 0, none⟩)]] w
   fun e w' => e = .returned (.int .i64 (idxFrom p l 0)) ∧ Below w.heap.size w w' := by
 have hu63 := Try.underlying63
 have HR := a_ hr
 have HC := a_ hc
 have HP := a_ hp
 have HN := a_ (Kd.C_max hr)
 clear hr hc hp
 go_enter Try.func79, Try.ntmps79
 go_wp2
 go_loopw [8] (fun v8 wr => ∃ x8 : Int, v8 = .int .i64 x8 ∧ Aside0 (0 ≤ x8) ∧ Aside0 (x8 ≤ l.length) ∧ Aside0 (idxFrom p (l.drop x8.toNat) x8.toNat = idxFrom p l 0) ∧ Aside0 (Below w.heap.size w wr)) (fun v8 _ => l.length - (intOf v8).toNat)
 case atStart => exact ⟨0, rfl, ⟨by omega⟩, ⟨by omega⟩, ⟨rfl⟩, ⟨Below.refl _ _⟩⟩
 case round =>
  obtain ⟨x8, rfl, H0, H1, HE, HB⟩ := hrel
  by_cases hlt : x8 < (l.length : Int)
  ·have p1 := H0.out
   obtain ⟨ad, A1, c1, A3, c3, ea, g0, g1, g2, g3, _, _, _, _⟩ := at_T63 HR.out x8 p1 hlt
   cases ea
   replace g0 := (HB.out.cell (World.block_lt_of_cell? w _ g0)).trans g0
   replace g1 := (HB.out.cell (World.block_lt_of_cell? w _ g1)).trans g1
   replace g2 := (HB.out.cell (World.block_lt_of_cell? w _ g2)).trans g2
   replace g3 := (HB.out.cell (World.block_lt_of_cell? w _ g3)).trans g3
   have HS := a_ (idxFrom_at p l z63 x8.toNat x8.toNat (by omega))
   have HX := a_ (show ((x8.toNat : Nat) : Int) = x8 by omega)
   have HW : Aside0 (wrap64 (x8 + 1) = x8 + 1) := ⟨by have := HN.out; unfold wrap64; omega⟩
   have C1 := a_ hlt
   have P1 := a_ p1
   replace p1 := eq_true p1
   have d1 : decide (x8 < (l.length : Int)) = true := decide_eq_true hlt
   replace hlt := eq_true hlt
   obtain ⟨b, hb⟩ : ∃ b, p (rd_T63 l x8) = b := ⟨_, rfl⟩
   have HBb := a_ hb
   clear hb
   cases b with
   | true =>
    go_wp2_with (go_at_call 80; (with_reducible refine (HP.out _ (rd_T63 l x8) _ _ _ _ true HB.out HBb.out).mono ?_); rintro e w' ⟨rfl, hbw⟩)
    go_ret
    exact ⟨by rw [← HE.out, HS.out, if_pos (by exact HBb.out), HX.out]; rfl, below_then HB.out HB.out.size hbw⟩
   | false =>
    go_wp2_with (go_at_call 80; (with_reducible refine (HP.out _ (rd_T63 l x8) _ _ _ _ false HB.out HBb.out).mono ?_); rintro e w' ⟨rfl, hbw⟩)
    go_roundw
    case rel => exact ⟨x8 + 1, by rw [HW.out], ⟨by have := P1.out; omega⟩, ⟨by have := C1.out; omega⟩, ⟨by rw [← HE.out, HS.out, if_neg (by have := HBb.out; unfold rd_T63 at this; rw [this]; simp), show (x8 + 1).toNat = x8.toNat + 1 by have := P1.out; omega]⟩, ⟨below_then HB.out HB.out.size hbw⟩⟩
    case measure => have h1 := P1.out; have h2 := C1.out; rw [HW.out]; simp only [intOf]; omega
  ·have d1 : decide (x8 < (l.length : Int)) = false := decide_eq_false hlt
   have HZ := a_ (show l.drop x8.toNat = [] by apply List.drop_eq_nil_of_le; omega)
   clear hlt
   go_wp2
   go_ret
   exact ⟨by rw [← HE.out, HZ.out]; rfl, HB.out⟩

set_option maxHeartbeats 800000 in
theorem haz78_calls (x : S56) (bi : Nat) (id : Int) (b : Bool) (w : World) (hi : w.cell? ⟨bi, 0, none⟩ = some (.int .i64 id)) (hb : decide (x.f0 = id) = b) :
  Calls Try.prog 78 #[.agg #[.int .i64 x.f0, .int .i64 x.f1, .int .i64 x.f2], .pointer (some ⟨bi, 0, none⟩)] w fun e w' => e = .returned (.bool b) ∧ Below w.heap.size w w' := by
 have hu56 := Try.underlying56
 have hi2 := pw_cell_below (below_alloc (Below.refl w.heap.size w) (.cells #[.int .i64 x.f0, .int .i64 x.f1, .int .i64 x.f2] 56)) hi
 clear hi
 have d1 : (x.f0 == id) = b := by rw [← hb]; rfl
 clear hb
 cases b
 all_goals
  go_enter Try.func78, Try.ntmps78
  go_wp2
  go_ret
  exact ⟨rfl, (Below.refl _ w).alloc (Nat.le_refl _) _⟩
set_option maxHeartbeats 800000 in
theorem rdy72_calls (x : S56) (bi : Nat) (run : Int) (b : Bool) (w : World) (hi : w.cell? ⟨bi, 0, none⟩ = some (.int .i64 run)) (hb : decide (x.f1 = run) = b) :
  Calls Try.prog 72 #[.agg #[.int .i64 x.f0, .int .i64 x.f1, .int .i64 x.f2], .pointer (some ⟨bi, 0, none⟩)] w fun e w' => e = .returned (.bool b) ∧ Below w.heap.size w w' := by
 have hu56 := Try.underlying56
 have hi2 := pw_cell_below (below_alloc (Below.refl w.heap.size w) (.cells #[.int .i64 x.f0, .int .i64 x.f1, .int .i64 x.f2] 56)) hi
 clear hi
 have d1 : (x.f1 == run) = b := by rw [← hb]; rfl
 clear hb
 cases b
 all_goals
  go_enter Try.func72, Try.ntmps72
  go_wp2
  go_ret
  exact ⟨rfl, (Below.refl _ w).alloc (Nat.le_refl _) _⟩
set_option maxHeartbeats 800000 in
theorem lst80_calls (x : S63) (A1 : Option Addr) (c1 : Nat) (A3 : Option Addr) (c3 : Nat) (bi : Nat) (run : Int) (b : Bool) (w : World) (hi : w.cell? ⟨bi, 0, none⟩ = some (.int .i64 run)) (hb : decide (x.f0 = run) = b) :
  Calls Try.prog 80 #[.agg #[.int .i64 x.f0, .slice A1 x.f1.f0.length c1, .int .i64 x.f1.f1, .slice A3 x.f1.f2.length c3], .pointer (some ⟨bi, 0, none⟩)] w fun e w' => e = .returned (.bool b) ∧ Below w.heap.size w w' := by
 have hu63 := Try.underlying63
 have hi2 := pw_cell_below (below_alloc (Below.refl w.heap.size w) (.cells #[.int .i64 x.f0, .slice A1 x.f1.f0.length c1, .int .i64 x.f1.f1, .slice A3 x.f1.f2.length c3] 63)) hi
 clear hi
 have d1 : (x.f0 == run) = b := by rw [← hb]; rfl
 clear hb
 cases b
 all_goals
  go_enter Try.func80, Try.ntmps80
  go_wp2
  go_ret
  exact ⟨rfl, (Below.refl _ w).alloc (Nat.le_refl _) _⟩
set_option maxHeartbeats 800000 in
theorem counts_calls (A0 : Option Addr) (n0 c0 : Nat) (every : Int) (A2 : Option Addr) (n2 c2 : Nat) (item t : Int) (w : World) :
  Calls Try.prog 61 #[.agg #[.slice A0 n0 c0, .int .i64 every, .slice A2 n2 c2], .int .i64 item, .int .i64 t] w fun e w' => ∃ bi bt bl : Nat, e = .returned (.func (.func 76) #[] #[.pointer (some ⟨bi, 0, none⟩), .pointer (some ⟨bt, 0, none⟩), .pointer (some ⟨bl, 0, none⟩)]) ∧ w'.cell? ⟨bi, 0, none⟩ = some (.int .i64 item) ∧ w'.cell? ⟨bt, 0, none⟩ = some (.int .i64 t) ∧ w'.cell? ⟨bl, 1, none⟩ = some (.int .i64 every) ∧ Below w.heap.size w w' := by
 have hu25 := Try.underlying25
 have hmf : ∀ (fn : Fn) (first cap : Array Value) (w : World), (Instr.makeFunc fn first cap).run Try.prog w = .ok (.func fn first cap) w := fun _ _ _ _ => rfl
 go_enter Try.func61, Try.ntmps61
 go_wp2
 go_ret
 exact ⟨_, _, _, rfl, by go_simp, by go_simp, by go_simp, below_alloc (below_alloc (below_alloc (Below.refl _ _) _) _) _⟩


end Go.Proofs.Ytmhggplhfcmgkaa.Q
