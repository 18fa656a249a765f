-- written by wip/drive.py (this session's program) over the kit's print words
import Derived.Test.YtmhggplhfcmgkaaQ0
namespace Go.Proofs.Ytmhggplhfcmgkaa.Q
open Go.RowKit Go.Proofs.YtmhggplhfcmgkaaW.PrintWords Go.Proofs.YtmhggplhfcmgkaaW.PrintLast Go.Proofs.YtmhggplhfcmgkaaW.PrintMore
attribute [local go_sem] max2_int min2_int max_two min_two max_three min_three max_four min_four   -- for this text's walks alone
set_option linter.unusedVariables false
set_option linter.unusedSimpArgs false

/-! ### the closures of inspect.counts and the searches over signs -/
def cntB (item t every : Int) (x : S35) : Bool := decide (x.f0 = item) && (decide (x.f2 ≤ t) && decide (t < wrap64 (x.f2 + every)))
set_option maxHeartbeats 800000 in
theorem counts1_calls (x : S35) (bi bt bl : Nat) (item t every : Int) (b : Bool) (w : World)
    (hi : w.cell? ⟨bi, 0, none⟩ = some (.int .i64 item)) (ht : w.cell? ⟨bt, 0, none⟩ = some (.int .i64 t)) (hl : w.cell? ⟨bl, 1, none⟩ = some (.int .i64 every)) (hbb : cntB item t every x = b) :
    Calls Try.prog 76 #[.agg #[.int .i64 x.f0, .int .i64 x.f1, .int .i64 x.f2], .pointer (some ⟨bi, 0, none⟩), .pointer (some ⟨bt, 0, none⟩), .pointer (some ⟨bl, 0, none⟩)] w
      fun e w' => e = .returned (.bool b) ∧ Below w.heap.size w w' := by
  have hu25 := Try.underlying25
  have hu35 := Try.underlying35
  have hi2 := pw_cell_below (below_alloc (Below.refl w.heap.size w) (.cells #[.int .i64 x.f0, .int .i64 x.f1, .int .i64 x.f2] 35)) hi
  have ht2 := pw_cell_below (below_alloc (Below.refl w.heap.size w) (.cells #[.int .i64 x.f0, .int .i64 x.f1, .int .i64 x.f2] 35)) ht
  have hl2 := pw_cell_below (below_alloc (Below.refl w.heap.size w) (.cells #[.int .i64 x.f0, .int .i64 x.f1, .int .i64 x.f2] 35)) hl
  clear hi ht hl
  by_cases c1 : x.f0 = item
  · have d1 : (x.f0 == item) = true := beq_iff_eq.2 c1
    by_cases c2 : x.f2 ≤ t
    · have d2 : decide (x.f2 ≤ t) = true := decide_eq_true c2
      by_cases c3 : t < wrap64 (x.f2 + every)
      · obtain rfl : true = b := by rw [← hbb]; simp [cntB, c1, c2, c3]
        have d3 : decide (t < wrap64 (x.f2 + every)) = true := decide_eq_true c3
        clear c1 c2 c3 hbb
        go_enter Try.func76, Try.ntmps76
        go_wp2
        go_ret
        exact ⟨rfl, (Below.refl _ w).alloc (Nat.le_refl _) _⟩
      · obtain rfl : false = b := by rw [← hbb]; simp [cntB, c3]
        have d3 : decide (t < wrap64 (x.f2 + every)) = false := decide_eq_false c3
        clear c1 c2 c3 hbb
        go_enter Try.func76, Try.ntmps76
        go_wp2
        go_ret
        exact ⟨rfl, (Below.refl _ w).alloc (Nat.le_refl _) _⟩
    · obtain rfl : false = b := by rw [← hbb]; simp [cntB, c2]
      have d2 : decide (x.f2 ≤ t) = false := decide_eq_false c2
      clear c1 c2 hbb
      go_enter Try.func76, Try.ntmps76
      go_wp2
      go_ret
      exact ⟨rfl, (Below.refl _ w).alloc (Nat.le_refl _) _⟩
  · obtain rfl : false = b := by rw [← hbb]; simp [cntB, c1]
    have d1 : (x.f0 == item) = false := beq_eq_false_iff_ne.2 c1
    clear c1 hbb
    go_enter Try.func76, Try.ntmps76
    go_wp2
    go_ret
    exact ⟨rfl, (Below.refl _ w).alloc (Nat.le_refl _) _⟩
/-- The place of the first element from place i on of which p holds, or -1. -/
def idxFrom {α : Type} (p : α → Bool) : List α → Nat → Int
  | [], _ => -1
  | x :: l, i => if p x then (i : Int) else idxFrom p l (i + 1)
theorem idxFrom_at {α : Type} (p : α → Bool) (l : List α) (z : α) (i k : Nat) (h : k < l.length) : idxFrom p (l.drop k) i = if p (l.getD k z) then (i : Int) else idxFrom p (l.drop (k + 1)) (i + 1) := by
  rw [List.drop_eq_getElem_cons h]
  simp [idxFrom, List.getD_eq_getElem?_getD, List.getElem?_eq_getElem h]
theorem idxFrom_any {α : Type} (p : α → Bool) (l : List α) (i : Nat) : decide (0 ≤ idxFrom p l i) = l.any p := by
  induction l generalizing i with
  | nil => simp [idxFrom]
  | cons x l ih =>
    by_cases h : p x = true
    · simp [idxFrom, h]
    · rw [show idxFrom p (x :: l) i = idxFrom p l (i + 1) by simp [idxFrom, h], ih]; simp [h]
set_option maxHeartbeats 800000 in
theorem idx35_calls (bi bt bl : Nat) (p : S35 → Bool) (A : Option Addr) (c : Nat) (l : List S35) (w : World)
    (hr : Kd.C k35 w A l.length l) (hc : l.length ≤ c)
    (hp : ∀ (W : World) (x : S35) (b : Bool), Below w.heap.size w W → p x = b → Calls Try.prog 76 #[.agg #[.int .i64 x.f0, .int .i64 x.f1, .int .i64 x.f2], .pointer (some ⟨bi, 0, none⟩), .pointer (some ⟨bt, 0, none⟩), .pointer (some ⟨bl, 0, none⟩)] W fun e w' => e = .returned (.bool b) ∧ Below W.heap.size W w') :
    Calls Try.prog 63 #[.slice A l.length c, .func (.func 76) #[] #[.pointer (some ⟨bi, 0, none⟩), .pointer (some ⟨bt, 0, none⟩), .pointer (some ⟨bl, 0, none⟩)]] w
      fun e w' => e = .returned (.int .i64 (idxFrom p l 0)) ∧ Below w.heap.size w w' := by
  have hu35 := Try.underlying35
  have HR := Aside0.mk hr
  have HC := Aside0.mk hc
  have HP := Aside0.mk hp
  have HN := Aside0.mk (Kd.C_max hr)
  clear hr hc hp
  go_enter Try.func63, Try.ntmps63
  go_wp2
  go_loopw [8] (fun v8 wr => ∃ x8 : Int, v8 = .int .i64 x8 ∧ Aside0 (0 ≤ x8) ∧ Aside0 (x8 ≤ l.length) ∧ Aside0 (idxFrom p (l.drop x8.toNat) x8.toNat = idxFrom p l 0) ∧ Aside0 (Below w.heap.size w wr)) (fun v8 _ => l.length - (intOf v8).toNat)
  case atStart => exact ⟨0, rfl, ⟨by omega⟩, ⟨by omega⟩, ⟨rfl⟩, ⟨Below.refl _ _⟩⟩
  case round =>
    obtain ⟨x8, rfl, H0, H1, HE, HB⟩ := hrel
    by_cases hlt : x8 < (l.length : Int)
    · have p1 := H0.out
      obtain ⟨ad, ea, g0, g1, g2⟩ := at_T35 HR.out x8 p1 hlt
      cases ea
      replace g0 := (HB.out.cell (World.block_lt_of_cell? w _ g0)).trans g0
      replace g1 := (HB.out.cell (World.block_lt_of_cell? w _ g1)).trans g1
      replace g2 := (HB.out.cell (World.block_lt_of_cell? w _ g2)).trans g2
      have HS := Aside0.mk (idxFrom_at p l z35 x8.toNat x8.toNat (by omega))
      have HX := Aside0.mk (show ((x8.toNat : Nat) : Int) = x8 by omega)
      have HW : Aside0 (wrap64 (x8 + 1) = x8 + 1) := ⟨by have := HN.out; unfold wrap64; omega⟩
      have C1 := Aside0.mk hlt
      have P1 := Aside0.mk p1
      replace p1 := eq_true p1
      have d1 : decide (x8 < (l.length : Int)) = true := decide_eq_true hlt
      replace hlt := eq_true hlt
      obtain ⟨b, hb⟩ : ∃ b, p (rd_T35 l x8) = b := ⟨_, rfl⟩
      have HBb := Aside0.mk hb
      clear hb
      cases b with
      | true =>
        go_wp2_with (go_at_call 76; (with_reducible refine (HP.out _ (rd_T35 l x8) true HB.out HBb.out).mono ?_); rintro e w' ⟨rfl, hbw⟩)
        go_ret
        exact ⟨by rw [← HE.out, HS.out, if_pos (by exact HBb.out), HX.out]; rfl, below_then HB.out HB.out.size hbw⟩
      | false =>
        go_wp2_with (go_at_call 76; (with_reducible refine (HP.out _ (rd_T35 l x8) false HB.out HBb.out).mono ?_); rintro e w' ⟨rfl, hbw⟩)
        go_roundw
        case rel => exact ⟨x8 + 1, by rw [HW.out], ⟨by have := P1.out; omega⟩, ⟨by have := C1.out; omega⟩, ⟨by rw [← HE.out, HS.out, if_neg (by have := HBb.out; unfold rd_T35 at this; rw [this]; simp), show (x8 + 1).toNat = x8.toNat + 1 by have := P1.out; omega]⟩, ⟨below_then HB.out HB.out.size hbw⟩⟩
        case measure => have h1 := P1.out; have h2 := C1.out; rw [HW.out]; simp only [intOf]; omega
    · have d1 : decide (x8 < (l.length : Int)) = false := decide_eq_false hlt
      have HZ := Aside0.mk (show l.drop x8.toNat = [] by apply List.drop_eq_nil_of_le; omega)
      clear hlt
      go_wp2
      go_ret
      exact ⟨by rw [← HE.out, HZ.out]; rfl, HB.out⟩
set_option maxHeartbeats 800000 in
theorem any35_calls (bi bt bl : Nat) (p : S35 → Bool) (A : Option Addr) (c : Nat) (l : List S35) (w : World)
    (hr : Kd.C k35 w A l.length l) (hc : l.length ≤ c)
    (hp : ∀ (W : World) (x : S35) (b : Bool), Below w.heap.size w W → p x = b → Calls Try.prog 76 #[.agg #[.int .i64 x.f0, .int .i64 x.f1, .int .i64 x.f2], .pointer (some ⟨bi, 0, none⟩), .pointer (some ⟨bt, 0, none⟩), .pointer (some ⟨bl, 0, none⟩)] W fun e w' => e = .returned (.bool b) ∧ Below W.heap.size W w')
    (r : Bool) (hrr : l.any p = r) :
    Calls Try.prog 60 #[.slice A l.length c, .func (.func 76) #[] #[.pointer (some ⟨bi, 0, none⟩), .pointer (some ⟨bt, 0, none⟩), .pointer (some ⟨bl, 0, none⟩)]] w
      fun e w' => e = .returned (.bool r) ∧ Below w.heap.size w w' := by
  have HI := Aside0.mk (idx35_calls bi bt bl p A c l w hr hc hp)
  have HR := Aside0.mk (idxFrom_any p l 0)
  have HRR := Aside0.mk hrr
  clear hr hc hp hrr
  cases r with
  | true =>
    have hd : decide (0 ≤ idxFrom p l 0) = true := by rw [HR.out]; exact HRR.out
    generalize idxFrom p l 0 = z at *
    go_enter Try.func60, Try.ntmps60
    go_wp2_with (go_at_call 63; (with_reducible refine HI.out.mono ?_); rintro e w' ⟨rfl, hbw⟩)
    go_ret
    exact ⟨rfl, hbw⟩
  | false =>
    have hd : decide (0 ≤ idxFrom p l 0) = false := by rw [HR.out]; exact HRR.out
    generalize idxFrom p l 0 = z at *
    go_enter Try.func60, Try.ntmps60
    go_wp2_with (go_at_call 63; (with_reducible refine HI.out.mono ?_); rintro e w' ⟨rfl, hbw⟩)
    go_ret
    exact ⟨rfl, hbw⟩
set_option maxHeartbeats 800000 in
theorem idx56_78 (bi : Nat) (p : S56 → Bool) (A : Option Addr) (c : Nat) (l : List S56) (w : World)
    (hr : Kd.C k56 w A l.length l) (hc : l.length ≤ c)
    (hp : ∀ (W : World) (x : S56) (b : Bool), Below w.heap.size w W → p x = b → Calls Try.prog 78 #[.agg #[.int .i64 x.f0, .int .i64 x.f1, .int .i64 x.f2], .pointer (some ⟨bi, 0, none⟩)] W fun e w' => e = .returned (.bool b) ∧ Below W.heap.size W w') :
    Calls Try.prog 77 #[.slice A l.length c, .func (.func 78) #[] #[.pointer (some ⟨bi, 0, none⟩)]] w
      fun e w' => e = .returned (.int .i64 (idxFrom p l 0)) ∧ Below w.heap.size w w' := by
  have hu56 := Try.underlying56
  have HR := Aside0.mk hr
  have HC := Aside0.mk hc
  have HP := Aside0.mk hp
  have HN := Aside0.mk (Kd.C_max hr)
  clear hr hc hp
  go_enter Try.func77, Try.ntmps77
  go_wp2
  go_loopw [8] (fun v8 wr => ∃ x8 : Int, v8 = .int .i64 x8 ∧ Aside0 (0 ≤ x8) ∧ Aside0 (x8 ≤ l.length) ∧ Aside0 (idxFrom p (l.drop x8.toNat) x8.toNat = idxFrom p l 0) ∧ Aside0 (Below w.heap.size w wr)) (fun v8 _ => l.length - (intOf v8).toNat)
  case atStart => exact ⟨0, rfl, ⟨by omega⟩, ⟨by omega⟩, ⟨rfl⟩, ⟨Below.refl _ _⟩⟩
  case round =>
    obtain ⟨x8, rfl, H0, H1, HE, HB⟩ := hrel
    by_cases hlt : x8 < (l.length : Int)
    · have p1 := H0.out
      obtain ⟨ad, ea, g0, g1, g2⟩ := at_T56 HR.out x8 p1 hlt
      cases ea
      replace g0 := (HB.out.cell (World.block_lt_of_cell? w _ g0)).trans g0
      replace g1 := (HB.out.cell (World.block_lt_of_cell? w _ g1)).trans g1
      replace g2 := (HB.out.cell (World.block_lt_of_cell? w _ g2)).trans g2
      have HS := Aside0.mk (idxFrom_at p l z56 x8.toNat x8.toNat (by omega))
      have HX := Aside0.mk (show ((x8.toNat : Nat) : Int) = x8 by omega)
      have HW : Aside0 (wrap64 (x8 + 1) = x8 + 1) := ⟨by have := HN.out; unfold wrap64; omega⟩
      have C1 := Aside0.mk hlt
      have P1 := Aside0.mk p1
      replace p1 := eq_true p1
      have d1 : decide (x8 < (l.length : Int)) = true := decide_eq_true hlt
      replace hlt := eq_true hlt
      obtain ⟨b, hb⟩ : ∃ b, p (rd_T56 l x8) = b := ⟨_, rfl⟩
      have HBb := Aside0.mk hb
      clear hb
      cases b with
      | true =>
        go_wp2_with (go_at_call 78; (with_reducible refine (HP.out _ (rd_T56 l x8) true HB.out HBb.out).mono ?_); rintro e w' ⟨rfl, hbw⟩)
        go_ret
        exact ⟨by rw [← HE.out, HS.out, if_pos (by exact HBb.out), HX.out]; rfl, below_then HB.out HB.out.size hbw⟩
      | false =>
        go_wp2_with (go_at_call 78; (with_reducible refine (HP.out _ (rd_T56 l x8) false HB.out HBb.out).mono ?_); rintro e w' ⟨rfl, hbw⟩)
        go_roundw
        case rel => exact ⟨x8 + 1, by rw [HW.out], ⟨by have := P1.out; omega⟩, ⟨by have := C1.out; omega⟩, ⟨by rw [← HE.out, HS.out, if_neg (by have := HBb.out; unfold rd_T56 at this; rw [this]; simp), show (x8 + 1).toNat = x8.toNat + 1 by have := P1.out; omega]⟩, ⟨below_then HB.out HB.out.size hbw⟩⟩
        case measure => have h1 := P1.out; have h2 := C1.out; rw [HW.out]; simp only [intOf]; omega
    · have d1 : decide (x8 < (l.length : Int)) = false := decide_eq_false hlt
      have HZ := Aside0.mk (show l.drop x8.toNat = [] by apply List.drop_eq_nil_of_le; omega)
      clear hlt
      go_wp2
      go_ret
      exact ⟨by rw [← HE.out, HZ.out]; rfl, HB.out⟩
set_option maxHeartbeats 800000 in
theorem idx56_72 (bi : Nat) (p : S56 → Bool) (A : Option Addr) (c : Nat) (l : List S56) (w : World)
    (hr : Kd.C k56 w A l.length l) (hc : l.length ≤ c)
    (hp : ∀ (W : World) (x : S56) (b : Bool), Below w.heap.size w W → p x = b → Calls Try.prog 72 #[.agg #[.int .i64 x.f0, .int .i64 x.f1, .int .i64 x.f2], .pointer (some ⟨bi, 0, none⟩)] W fun e w' => e = .returned (.bool b) ∧ Below W.heap.size W w') :
    Calls Try.prog 77 #[.slice A l.length c, .func (.func 72) #[] #[.pointer (some ⟨bi, 0, none⟩)]] w
      fun e w' => e = .returned (.int .i64 (idxFrom p l 0)) ∧ Below w.heap.size w w' := by
  have hu56 := Try.underlying56
  have HR := Aside0.mk hr
  have HC := Aside0.mk hc
  have HP := Aside0.mk hp
  have HN := Aside0.mk (Kd.C_max hr)
  clear hr hc hp
  go_enter Try.func77, Try.ntmps77
  go_wp2
  go_loopw [8] (fun v8 wr => ∃ x8 : Int, v8 = .int .i64 x8 ∧ Aside0 (0 ≤ x8) ∧ Aside0 (x8 ≤ l.length) ∧ Aside0 (idxFrom p (l.drop x8.toNat) x8.toNat = idxFrom p l 0) ∧ Aside0 (Below w.heap.size w wr)) (fun v8 _ => l.length - (intOf v8).toNat)
  case atStart => exact ⟨0, rfl, ⟨by omega⟩, ⟨by omega⟩, ⟨rfl⟩, ⟨Below.refl _ _⟩⟩
  case round =>
    obtain ⟨x8, rfl, H0, H1, HE, HB⟩ := hrel
    by_cases hlt : x8 < (l.length : Int)
    · have p1 := H0.out
      obtain ⟨ad, ea, g0, g1, g2⟩ := at_T56 HR.out x8 p1 hlt
      cases ea
      replace g0 := (HB.out.cell (World.block_lt_of_cell? w _ g0)).trans g0
      replace g1 := (HB.out.cell (World.block_lt_of_cell? w _ g1)).trans g1
      replace g2 := (HB.out.cell (World.block_lt_of_cell? w _ g2)).trans g2
      have HS := Aside0.mk (idxFrom_at p l z56 x8.toNat x8.toNat (by omega))
      have HX := Aside0.mk (show ((x8.toNat : Nat) : Int) = x8 by omega)
      have HW : Aside0 (wrap64 (x8 + 1) = x8 + 1) := ⟨by have := HN.out; unfold wrap64; omega⟩
      have C1 := Aside0.mk hlt
      have P1 := Aside0.mk p1
      replace p1 := eq_true p1
      have d1 : decide (x8 < (l.length : Int)) = true := decide_eq_true hlt
      replace hlt := eq_true hlt
      obtain ⟨b, hb⟩ : ∃ b, p (rd_T56 l x8) = b := ⟨_, rfl⟩
      have HBb := Aside0.mk hb
      clear hb
      cases b with
      | true =>
        go_wp2_with (go_at_call 72; (with_reducible refine (HP.out _ (rd_T56 l x8) true HB.out HBb.out).mono ?_); rintro e w' ⟨rfl, hbw⟩)
        go_ret
        exact ⟨by rw [← HE.out, HS.out, if_pos (by exact HBb.out), HX.out]; rfl, below_then HB.out HB.out.size hbw⟩
      | false =>
        go_wp2_with (go_at_call 72; (with_reducible refine (HP.out _ (rd_T56 l x8) false HB.out HBb.out).mono ?_); rintro e w' ⟨rfl, hbw⟩)
        go_roundw
        case rel => exact ⟨x8 + 1, by rw [HW.out], ⟨by have := P1.out; omega⟩, ⟨by have := C1.out; omega⟩, ⟨by rw [← HE.out, HS.out, if_neg (by have := HBb.out; unfold rd_T56 at this; rw [this]; simp), show (x8 + 1).toNat = x8.toNat + 1 by have := P1.out; omega]⟩, ⟨below_then HB.out HB.out.size hbw⟩⟩
        case measure => have h1 := P1.out; have h2 := C1.out; rw [HW.out]; simp only [intOf]; omega
    · have d1 : decide (x8 < (l.length : Int)) = false := decide_eq_false hlt
      have HZ := Aside0.mk (show l.drop x8.toNat = [] by apply List.drop_eq_nil_of_le; omega)
      clear hlt
      go_wp2
      go_ret
      exact ⟨by rw [← HE.out, HZ.out]; rfl, HB.out⟩
set_option maxHeartbeats 800000 in
theorem any56_72 (bi : Nat) (p : S56 → Bool) (A : Option Addr) (c : Nat) (l : List S56) (w : World)
    (hr : Kd.C k56 w A l.length l) (hc : l.length ≤ c)
    (hp : ∀ (W : World) (x : S56) (b : Bool), Below w.heap.size w W → p x = b → Calls Try.prog 72 #[.agg #[.int .i64 x.f0, .int .i64 x.f1, .int .i64 x.f2], .pointer (some ⟨bi, 0, none⟩)] W fun e w' => e = .returned (.bool b) ∧ Below W.heap.size W w')
    (r : Bool) (hrr : l.any p = r) :
    Calls Try.prog 73 #[.slice A l.length c, .func (.func 72) #[] #[.pointer (some ⟨bi, 0, none⟩)]] w
      fun e w' => e = .returned (.bool r) ∧ Below w.heap.size w w' := by
  have HI := Aside0.mk (idx56_72 bi p A c l w hr hc hp)
  have HR := Aside0.mk (idxFrom_any p l 0)
  have HRR := Aside0.mk hrr
  clear hr hc hp hrr
  cases r with
  | true =>
    have hd : decide (0 ≤ idxFrom p l 0) = true := by rw [HR.out]; exact HRR.out
    generalize idxFrom p l 0 = z at *
    go_enter Try.func73, Try.ntmps73
    go_wp2_with (go_at_call 77; (with_reducible refine HI.out.mono ?_); rintro e w' ⟨rfl, hbw⟩)
    go_ret
    exact ⟨rfl, hbw⟩
  | false =>
    have hd : decide (0 ≤ idxFrom p l 0) = false := by rw [HR.out]; exact HRR.out
    generalize idxFrom p l 0 = z at *
    go_enter Try.func73, Try.ntmps73
    go_wp2_with (go_at_call 77; (with_reducible refine HI.out.mono ?_); rintro e w' ⟨rfl, hbw⟩)
    go_ret
    exact ⟨rfl, hbw⟩
set_option maxHeartbeats 800000 in
theorem idx63_80 (bi : Nat) (p : S63 → Bool) (A : Option Addr) (c : Nat) (l : List S63) (w : World)
    (hr : Kd.C k63 w A l.length l) (hc : l.length ≤ c)
    (hp : ∀ (W : World) (x : S63) (A1 : Option Addr) (c1 : Nat) (A3 : Option Addr) (c3 : Nat) (b : Bool), Below w.heap.size w W → p x = b → Calls Try.prog 80 #[.agg #[.int .i64 x.f0, .slice A1 x.f1.f0.length c1, .int .i64 x.f1.f1, .slice A3 x.f1.f2.length c3], .pointer (some ⟨bi, 0, none⟩)] W fun e w' => e = .returned (.bool b) ∧ Below W.heap.size W w') :
    Calls Try.prog 79 #[.slice A l.length c, .func (.func 80) #[] #[.pointer (some ⟨bi, 0, none⟩)]] w
      fun e w' => e = .returned (.int .i64 (idxFrom p l 0)) ∧ Below w.heap.size w w' := by
  have hu63 := Try.underlying63
  have HR := Aside0.mk hr
  have HC := Aside0.mk hc
  have HP := Aside0.mk hp
  have HN := Aside0.mk (Kd.C_max hr)
  clear hr hc hp
  go_enter Try.func79, Try.ntmps79
  go_wp2
  go_loopw [8] (fun v8 wr => ∃ x8 : Int, v8 = .int .i64 x8 ∧ Aside0 (0 ≤ x8) ∧ Aside0 (x8 ≤ l.length) ∧ Aside0 (idxFrom p (l.drop x8.toNat) x8.toNat = idxFrom p l 0) ∧ Aside0 (Below w.heap.size w wr)) (fun v8 _ => l.length - (intOf v8).toNat)
  case atStart => exact ⟨0, rfl, ⟨by omega⟩, ⟨by omega⟩, ⟨rfl⟩, ⟨Below.refl _ _⟩⟩
  case round =>
    obtain ⟨x8, rfl, H0, H1, HE, HB⟩ := hrel
    by_cases hlt : x8 < (l.length : Int)
    · have p1 := H0.out
      obtain ⟨ad, A1, c1, A3, c3, ea, g0, g1, g2, g3, _, _, _, _⟩ := at_T63 HR.out x8 p1 hlt
      cases ea
      replace g0 := (HB.out.cell (World.block_lt_of_cell? w _ g0)).trans g0
      replace g1 := (HB.out.cell (World.block_lt_of_cell? w _ g1)).trans g1
      replace g2 := (HB.out.cell (World.block_lt_of_cell? w _ g2)).trans g2
      replace g3 := (HB.out.cell (World.block_lt_of_cell? w _ g3)).trans g3
      have HS := Aside0.mk (idxFrom_at p l z63 x8.toNat x8.toNat (by omega))
      have HX := Aside0.mk (show ((x8.toNat : Nat) : Int) = x8 by omega)
      have HW : Aside0 (wrap64 (x8 + 1) = x8 + 1) := ⟨by have := HN.out; unfold wrap64; omega⟩
      have C1 := Aside0.mk hlt
      have P1 := Aside0.mk p1
      replace p1 := eq_true p1
      have d1 : decide (x8 < (l.length : Int)) = true := decide_eq_true hlt
      replace hlt := eq_true hlt
      obtain ⟨b, hb⟩ : ∃ b, p (rd_T63 l x8) = b := ⟨_, rfl⟩
      have HBb := Aside0.mk hb
      clear hb
      cases b with
      | true =>
        go_wp2_with (go_at_call 80; (with_reducible refine (HP.out _ (rd_T63 l x8) _ _ _ _ true HB.out HBb.out).mono ?_); rintro e w' ⟨rfl, hbw⟩)
        go_ret
        exact ⟨by rw [← HE.out, HS.out, if_pos (by exact HBb.out), HX.out]; rfl, below_then HB.out HB.out.size hbw⟩
      | false =>
        go_wp2_with (go_at_call 80; (with_reducible refine (HP.out _ (rd_T63 l x8) _ _ _ _ false HB.out HBb.out).mono ?_); rintro e w' ⟨rfl, hbw⟩)
        go_roundw
        case rel => exact ⟨x8 + 1, by rw [HW.out], ⟨by have := P1.out; omega⟩, ⟨by have := C1.out; omega⟩, ⟨by rw [← HE.out, HS.out, if_neg (by have := HBb.out; unfold rd_T63 at this; rw [this]; simp), show (x8 + 1).toNat = x8.toNat + 1 by have := P1.out; omega]⟩, ⟨below_then HB.out HB.out.size hbw⟩⟩
        case measure => have h1 := P1.out; have h2 := C1.out; rw [HW.out]; simp only [intOf]; omega
    · have d1 : decide (x8 < (l.length : Int)) = false := decide_eq_false hlt
      have HZ := Aside0.mk (show l.drop x8.toNat = [] by apply List.drop_eq_nil_of_le; omega)
      clear hlt
      go_wp2
      go_ret
      exact ⟨by rw [← HE.out, HZ.out]; rfl, HB.out⟩

set_option maxHeartbeats 800000 in
theorem haz78_calls (x : S56) (bi : Nat) (id : Int) (b : Bool) (w : World) (hi : w.cell? ⟨bi, 0, none⟩ = some (.int .i64 id)) (hb : decide (x.f0 = id) = b) :
    Calls Try.prog 78 #[.agg #[.int .i64 x.f0, .int .i64 x.f1, .int .i64 x.f2], .pointer (some ⟨bi, 0, none⟩)] w fun e w' => e = .returned (.bool b) ∧ Below w.heap.size w w' := by
  have hu56 := Try.underlying56
  have hi2 := pw_cell_below (below_alloc (Below.refl w.heap.size w) (.cells #[.int .i64 x.f0, .int .i64 x.f1, .int .i64 x.f2] 56)) hi
  clear hi
  have d1 : (x.f0 == id) = b := by rw [← hb]; rfl
  clear hb
  cases b
  all_goals
    go_enter Try.func78, Try.ntmps78
    go_wp2
    go_ret
    exact ⟨rfl, (Below.refl _ w).alloc (Nat.le_refl _) _⟩
set_option maxHeartbeats 800000 in
theorem rdy72_calls (x : S56) (bi : Nat) (run : Int) (b : Bool) (w : World) (hi : w.cell? ⟨bi, 0, none⟩ = some (.int .i64 run)) (hb : decide (x.f1 = run) = b) :
    Calls Try.prog 72 #[.agg #[.int .i64 x.f0, .int .i64 x.f1, .int .i64 x.f2], .pointer (some ⟨bi, 0, none⟩)] w fun e w' => e = .returned (.bool b) ∧ Below w.heap.size w w' := by
  have hu56 := Try.underlying56
  have hi2 := pw_cell_below (below_alloc (Below.refl w.heap.size w) (.cells #[.int .i64 x.f0, .int .i64 x.f1, .int .i64 x.f2] 56)) hi
  clear hi
  have d1 : (x.f1 == run) = b := by rw [← hb]; rfl
  clear hb
  cases b
  all_goals
    go_enter Try.func72, Try.ntmps72
    go_wp2
    go_ret
    exact ⟨rfl, (Below.refl _ w).alloc (Nat.le_refl _) _⟩
set_option maxHeartbeats 800000 in
theorem lst80_calls (x : S63) (A1 : Option Addr) (c1 : Nat) (A3 : Option Addr) (c3 : Nat) (bi : Nat) (run : Int) (b : Bool) (w : World) (hi : w.cell? ⟨bi, 0, none⟩ = some (.int .i64 run)) (hb : decide (x.f0 = run) = b) :
    Calls Try.prog 80 #[.agg #[.int .i64 x.f0, .slice A1 x.f1.f0.length c1, .int .i64 x.f1.f1, .slice A3 x.f1.f2.length c3], .pointer (some ⟨bi, 0, none⟩)] w fun e w' => e = .returned (.bool b) ∧ Below w.heap.size w w' := by
  have hu63 := Try.underlying63
  have hi2 := pw_cell_below (below_alloc (Below.refl w.heap.size w) (.cells #[.int .i64 x.f0, .slice A1 x.f1.f0.length c1, .int .i64 x.f1.f1, .slice A3 x.f1.f2.length c3] 63)) hi
  clear hi
  have d1 : (x.f0 == run) = b := by rw [← hb]; rfl
  clear hb
  cases b
  all_goals
    go_enter Try.func80, Try.ntmps80
    go_wp2
    go_ret
    exact ⟨rfl, (Below.refl _ w).alloc (Nat.le_refl _) _⟩
set_option maxHeartbeats 800000 in
theorem counts_calls (A0 : Option Addr) (n0 c0 : Nat) (every : Int) (A2 : Option Addr) (n2 c2 : Nat) (item t : Int) (w : World) :
    Calls Try.prog 61 #[.agg #[.slice A0 n0 c0, .int .i64 every, .slice A2 n2 c2], .int .i64 item, .int .i64 t] w fun e w' => ∃ bi bt bl : Nat, e = .returned (.func (.func 76) #[] #[.pointer (some ⟨bi, 0, none⟩), .pointer (some ⟨bt, 0, none⟩), .pointer (some ⟨bl, 0, none⟩)]) ∧ w'.cell? ⟨bi, 0, none⟩ = some (.int .i64 item) ∧ w'.cell? ⟨bt, 0, none⟩ = some (.int .i64 t) ∧ w'.cell? ⟨bl, 1, none⟩ = some (.int .i64 every) ∧ Below w.heap.size w w' := by
  have hu25 := Try.underlying25
  have hmf : ∀ (fn : Fn) (first cap : Array Value) (w : World), (Instr.makeFunc fn first cap).run Try.prog w = .ok (.func fn first cap) w := fun _ _ _ _ => rfl
  go_enter Try.func61, Try.ntmps61
  go_wp2
  go_ret
  exact ⟨_, _, _, rfl, by go_simp, by go_simp, by go_simp, below_alloc (below_alloc (below_alloc (Below.refl _ _) _) _) _⟩


/-! ### slices_Index_int_int: function 74 -/
def slices_Index_int_int.l0 : Nat → List Int → Int → Int → Int → Option (Int)
  | 0, _, _, _, _ => none
  | k + 1, x0, x1, x7, x8 => if x8 < x7 then (if 0 ≤ x8 then (if x8 < (x0.length : Int) then (if x1 = (rd x0 x8) then (some x8) else (slices_Index_int_int.l0 k x0 x1 x7 (wrap64 (x8 + 1)))) else (none)) else (none)) else (some (-1))
def slices_Index_int_int.f (k : Nat) (l0 : List Int) (a1 : Int) : Option (Int) := slices_Index_int_int.l0 k l0 a1 (l0.length : Int) 0
theorem slices_Index_int_int.mono_l : ∀ k, (∀ y0 y1 y2 y3, LeO (slices_Index_int_int.l0 k y0 y1 y2 y3) (slices_Index_int_int.l0 (k + 1) y0 y1 y2 y3))
  | 0 => fun _ _ _ _ r h => by simp [slices_Index_int_int.l0] at h
  | k + 1 => by
    have ih0 := slices_Index_int_int.mono_l k
    · intro y0 y1 y2 y3
      unfold slices_Index_int_int.l0
      repeat' first
      | (with_reducible exact ih0 _ _ _ _)
      | (with_reducible exact LeO.refl _)
      | (with_reducible exact LeO.none _)
      | (with_reducible refine LeO.ite ?_ ?_)
      | (with_reducible refine LeO.bind ?_ (fun _ => ?_))
      | exact ih0 _ _ _ _
      | exact LeO.none _
      | refine LeO.ite ?_ ?_
      | refine LeO.bind ?_ (fun _ => ?_)
theorem slices_Index_int_int.mono : ∀ a0 a1 k, LeO (slices_Index_int_int.f k a0 a1) (slices_Index_int_int.f (k + 1) a0 a1) := by
  intro a0 a1 k
  have ih0 := slices_Index_int_int.mono_l k
  unfold slices_Index_int_int.f
  repeat' first
      | (with_reducible exact ih0 _ _ _ _)
      | (with_reducible exact LeO.refl _)
      | (with_reducible exact LeO.none _)
      | (with_reducible refine LeO.ite ?_ ?_)
      | (with_reducible refine LeO.bind ?_ (fun _ => ?_))
      | exact ih0 _ _ _ _
      | exact LeO.none _
      | refine LeO.ite ?_ ?_
      | refine LeO.bind ?_ (fun _ => ?_)
set_option maxHeartbeats 8000000 in
set_option maxRecDepth 100000 in
theorem slices_Index_int_int.calls (k : Nat) (A0 : Option Addr) (c0 : Nat) (l0 : List Int) (a1 : Int) (r : Int) (w : World) (hr0 : Kd.C (Kd.int .i64) w A0 l0.length l0) (hc0 : l0.length ≤ c0) (h : slices_Index_int_int.f k l0 a1 = some r) :
    Calls Try.prog 74 #[.slice A0 l0.length c0, .int .i64 a1] w fun e w' => e = .returned (.int .i64 r) ∧ Drawn0 w w' := by
  have HR0 := Aside0.mk hr0
  have HC0 := Aside0.mk hc0
  clear hr0 hc0
  have H : (slices_Index_int_int.l0 k l0 a1 (l0.length : Int) 0) = some r := h
  clear h
  have H' := Aside0.mk H
  clear H
  go_enter Try.func74, Try.ntmps74
  go_wp2
  go_loopg [8] k (fun kq v8 w' => ∃ (x8_1 : Int), v8 = .int .i64 x8_1 ∧ Aside0 (slices_Index_int_int.l0 kq l0 a1 (l0.length : Int) x8_1 = some r) ∧ Aside0 (kq ≤ k) ∧ Drawn0 w w')
  case atStart => exact ⟨(0), (by first | rfl | (simp; done) | (simp [*]; done)), H', ⟨Nat.le_refl _⟩, by repeat (first | exact Drawn0.refl _ | apply Drawn0.step)⟩
  case round =>
    clear H'
    try clear p2
    obtain ⟨x8_1, rfl, HA, HK1, ⟨m1, rfl⟩⟩ := hrel
    cases gk with
    | zero => exact absurd HA.out (by simp [slices_Index_int_int.l0])
    | succ k1 =>
      have H := HA.out
      clear HA
      simp only [slices_Index_int_int.l0] at H
      by_cases c3 : x8_1 < (l0.length : Int)
      · rw [if_pos c3] at H
        have c3b0 : decide (x8_1 < (l0.length : Int)) = true := decide_eq_true c3
        clear c3
        by_cases c4 : 0 ≤ x8_1
        · rw [if_pos c4] at H
          have c4b0 : decide (0 ≤ x8_1) = true := decide_eq_true c4
          clear c4
          by_cases c5 : x8_1 < (l0.length : Int)
          · rw [if_pos c5] at H
            have c5b0 : decide (x8_1 < (l0.length : Int)) = true := decide_eq_true c5
            clear c5
            by_cases c6 : a1 = (rd l0 x8_1)
            · rw [if_pos c6] at H
              have c6b0 : (a1 == (rd l0 x8_1)) = true := beq_iff_eq.mpr c6
              have c6b1 : (a1 != (rd l0 x8_1)) = false := bne_eq_false_iff_eq.mpr c6
              clear c6
              obtain rfl := Option.some.inj H
              have p101 : 0 ≤ (x8_1 : Int) := of_decide_eq_true (by first | (with_reducible assumption) | assumption)
              have q101 : x8_1 < (l0.length : Int) := of_decide_eq_true (by first | (with_reducible assumption) | assumption)
              obtain ⟨ad101, e101, hx101_0⟩ := Kd.at_int HR0.out x8_1 p101 q101
              cases e101
              replace p101 := eq_true p101
              replace q101 := eq_true q101
              go_wp2
              go_ret
              exact ⟨by first | rfl | (simp; done) | (simp [*]; done), by repeat (first | exact Drawn0.refl _ | apply Drawn0.step)⟩
            · rw [if_neg c6] at H
              have c6b0 : (a1 == (rd l0 x8_1)) = false := beq_eq_false_iff_ne.mpr c6
              have c6b1 : (a1 != (rd l0 x8_1)) = true := bne_iff_ne.mpr c6
              have H' := Aside0.mk H
              clear H
              have p101 : 0 ≤ (x8_1 : Int) := of_decide_eq_true (by first | (with_reducible assumption) | assumption)
              have q101 : x8_1 < (l0.length : Int) := of_decide_eq_true (by first | (with_reducible assumption) | assumption)
              obtain ⟨ad101, e101, hx101_0⟩ := Kd.at_int HR0.out x8_1 p101 q101
              cases e101
              replace p101 := eq_true p101
              replace q101 := eq_true q101
              go_wp2
              go_roundg k1
              case measure => have := HK1.out; omega
              case rel => exact ⟨(wrap64 (x8_1 + 1)), (by first | rfl | (simp; done) | (simp [*]; done)), H', ⟨by have := HK1.out; omega⟩, by repeat (first | exact Drawn0.refl _ | apply Drawn0.step)⟩
          · rw [if_neg c5] at H
            exact absurd H (by simp)
        · rw [if_neg c4] at H
          exact absurd H (by simp)
      · rw [if_neg c3] at H
        have c3b0 : decide (x8_1 < (l0.length : Int)) = false := decide_eq_false c3
        clear c3
        obtain rfl := Option.some.inj H
        go_wp2
        go_ret
        exact ⟨by first | rfl | (simp; done) | (simp [*]; done), by repeat (first | exact Drawn0.refl _ | apply Drawn0.step)⟩

/-! ### slices_Contains_int_int: function 55 -/
def slices_Contains_int_int.f (k : Nat) (l0 : List Int) (a1 : Int) : Option (Bool) := (slices_Index_int_int.f k l0 a1).bind fun t102 => (some (decide (t102 ≥ 0)))
theorem slices_Contains_int_int.mono : ∀ a0 a1 k, LeO (slices_Contains_int_int.f k a0 a1) (slices_Contains_int_int.f (k + 1) a0 a1) := by
  intro a0 a1 k
  unfold slices_Contains_int_int.f
  repeat' first
      | (with_reducible exact slices_Index_int_int.mono _ _ _)
      | (with_reducible exact LeO.refl _)
      | (with_reducible exact LeO.none _)
      | (with_reducible refine LeO.ite ?_ ?_)
      | (with_reducible refine LeO.bind ?_ (fun _ => ?_))
      | exact slices_Index_int_int.mono _ _ _
      | exact LeO.none _
      | refine LeO.ite ?_ ?_
      | refine LeO.bind ?_ (fun _ => ?_)
set_option maxHeartbeats 8000000 in
set_option maxRecDepth 100000 in
theorem slices_Contains_int_int.calls (k : Nat) (A0 : Option Addr) (c0 : Nat) (l0 : List Int) (a1 : Int) (r : Bool) (w : World) (hr0 : Kd.C (Kd.int .i64) w A0 l0.length l0) (hc0 : l0.length ≤ c0) (h : slices_Contains_int_int.f k l0 a1 = some r) :
    Calls Try.prog 55 #[.slice A0 l0.length c0, .int .i64 a1] w fun e w' => e = .returned (.bool r) ∧ Drawn0 w w' := by
  have HR0 := Aside0.mk hr0
  have HC0 := Aside0.mk hc0
  clear hr0 hc0
  have H : ((slices_Index_int_int.f k l0 a1).bind fun t102 => (some (decide (t102 ≥ 0)))) = some r := h
  clear h
  replace H := Option.bind_eq_some_iff.mp H
  obtain ⟨t102, A30, H⟩ := H
  replace H : (some (decide (t102 ≥ 0))) = some r := H
  have A3 := Aside0.mk A30
  clear A30
  obtain rfl := Option.some.inj H
  go_enter Try.func55, Try.ntmps55
  go_wp2_with (first | ((with_reducible refine gate_callee (f := 74) rfl ?_); refine goesL_ (some 7) rfl rfl Try.func74 (by kernel_rfl) rfl #[.slice A0 l0.length c0, .int .i64 a1] rfl (by (try simp only [List.map_toArray, List.map_cons, List.map_nil]); first | done | rfl | (simp only [List.length_drop, List.length_take]; rfl)) ?_; (with_reducible refine (slices_Index_int_int.calls k _ _ l0 a1 t102 _ ?side1 ?side2 A3.out).mono ?_); (case side1 => repeat (first | exact HR0.out | (with_reducible refine Kd.C_alloc ?_ _) | (with_reducible refine Kd.C_drewN ?_ _) | (with_reducible refine Kd.C_drew ?_))); (case side2 => exact HC0.out); rintro e w' ⟨rfl, ⟨nd, rfl⟩⟩; refine ⟨_, rfl, ?_⟩))
  go_ret
  exact ⟨by first | rfl | (simp; done) | (simp [*]; done), by repeat (first | exact Drawn0.refl _ | apply Drawn0.step)⟩

/-! ### inspect_items: function 54 -/
mutual
def inspect_items.l0 : Nat → List Int → List Int → Int → Int → Option (Int)
  | 0, _, _, _, _ => none
  | k + 1, x0, x5, x6, x7 => if x7 < x6 then (if 0 ≤ x7 then (if x7 < (x5.length : Int) then (if (rd x5 x7) < 1 then (inspect_items.j1 k x0 x7 (rd x5 x7) x5 x6 x7 true) else (inspect_items.j1 k x0 x7 (rd x5 x7) x5 x6 x7 (decide ((rd x5 x7) > 9999)))) else (none)) else (none)) else (some 0)
def inspect_items.j1 : Nat → List Int → Int → Int → List Int → Int → Int → Bool → Option (Int)
  | 0, _, _, _, _, _, _, _ => none
  | k + 1, x0, x3, x4, x5, x6, x7, x17 => if x17 = true then (some 2) else (if 0 ≤ x3 then (if x3 ≤ (x0.length : Int) then ((slices_Contains_int_int.f k (x0.take (x3 : Int).toNat) x4).bind fun t105 => (if t105 = true then (some 7) else (inspect_items.l0 k x0 x5 x6 (wrap64 (x7 + 1))))) else (none)) else (none))
end
def inspect_items.f (k : Nat) (l0 : List Int) : Option (Int) := inspect_items.l0 k l0 l0 (l0.length : Int) 0
theorem inspect_items.mono_l : ∀ k, (∀ y0 y1 y2 y3, LeO (inspect_items.l0 k y0 y1 y2 y3) (inspect_items.l0 (k + 1) y0 y1 y2 y3)) ∧ (∀ y0 y1 y2 y3 y4 y5 y6, LeO (inspect_items.j1 k y0 y1 y2 y3 y4 y5 y6) (inspect_items.j1 (k + 1) y0 y1 y2 y3 y4 y5 y6))
  | 0 => ⟨fun _ _ _ _ r h => by simp [inspect_items.l0] at h, fun _ _ _ _ _ _ _ r h => by simp [inspect_items.j1] at h⟩
  | k + 1 => by
    obtain ⟨ih0, ih1⟩ := inspect_items.mono_l k
    refine ⟨?_, ?_⟩
    · intro y0 y1 y2 y3
      unfold inspect_items.l0
      repeat' first
      | (with_reducible exact ih0 _ _ _ _)
      | (with_reducible exact ih1 _ _ _ _ _ _ _)
      | (with_reducible exact slices_Contains_int_int.mono _ _ _)
      | (with_reducible exact LeO.refl _)
      | (with_reducible exact LeO.none _)
      | (with_reducible refine LeO.ite ?_ ?_)
      | (with_reducible refine LeO.bind ?_ (fun _ => ?_))
      | exact ih0 _ _ _ _
      | exact ih1 _ _ _ _ _ _ _
      | exact slices_Contains_int_int.mono _ _ _
      | exact LeO.none _
      | refine LeO.ite ?_ ?_
      | refine LeO.bind ?_ (fun _ => ?_)
    · intro y0 y1 y2 y3 y4 y5 y6
      unfold inspect_items.j1
      repeat' first
      | (with_reducible exact ih0 _ _ _ _)
      | (with_reducible exact ih1 _ _ _ _ _ _ _)
      | (with_reducible exact slices_Contains_int_int.mono _ _ _)
      | (with_reducible exact LeO.refl _)
      | (with_reducible exact LeO.none _)
      | (with_reducible refine LeO.ite ?_ ?_)
      | (with_reducible refine LeO.bind ?_ (fun _ => ?_))
      | exact ih0 _ _ _ _
      | exact ih1 _ _ _ _ _ _ _
      | exact slices_Contains_int_int.mono _ _ _
      | exact LeO.none _
      | refine LeO.ite ?_ ?_
      | refine LeO.bind ?_ (fun _ => ?_)
theorem inspect_items.mono : ∀ a0 k, LeO (inspect_items.f k a0) (inspect_items.f (k + 1) a0) := by
  intro a0 k
  obtain ⟨ih0, ih1⟩ := inspect_items.mono_l k
  unfold inspect_items.f
  repeat' first
      | (with_reducible exact ih0 _ _ _ _)
      | (with_reducible exact ih1 _ _ _ _ _ _ _)
      | (with_reducible exact slices_Contains_int_int.mono _ _ _)
      | (with_reducible exact LeO.refl _)
      | (with_reducible exact LeO.none _)
      | (with_reducible refine LeO.ite ?_ ?_)
      | (with_reducible refine LeO.bind ?_ (fun _ => ?_))
      | exact ih0 _ _ _ _
      | exact ih1 _ _ _ _ _ _ _
      | exact slices_Contains_int_int.mono _ _ _
      | exact LeO.none _
      | refine LeO.ite ?_ ?_
      | refine LeO.bind ?_ (fun _ => ?_)
set_option maxHeartbeats 8000000 in
set_option maxRecDepth 100000 in
theorem inspect_items.calls (k : Nat) (A0 : Option Addr) (c0 : Nat) (l0 : List Int) (r : Int) (w : World) (hr0 : Kd.C (Kd.int .i64) w A0 l0.length l0) (hc0 : l0.length ≤ c0) (h : inspect_items.f k l0 = some r) :
    Calls Try.prog 54 #[.slice A0 l0.length c0] w fun e w' => e = .returned (.int .i64 r) ∧ Drawn0 w w' := by
  have HR0 := Aside0.mk hr0
  have HC0 := Aside0.mk hc0
  clear hr0 hc0
  have H : (inspect_items.l0 k l0 l0 (l0.length : Int) 0) = some r := h
  clear h
  have H' := Aside0.mk H
  clear H
  go_enter Try.func54, Try.ntmps54
  go_wp2
  go_loopg [7] k (fun kq v7 w' => ∃ (x7_1 : Int), v7 = .int .i64 x7_1 ∧ Aside0 (inspect_items.l0 kq l0 l0 (l0.length : Int) x7_1 = some r) ∧ Aside0 (kq ≤ k) ∧ Drawn0 w w')
  case atStart => exact ⟨(0), (by first | rfl | (simp; done) | (simp [*]; done)), H', ⟨Nat.le_refl _⟩, by repeat (first | exact Drawn0.refl _ | apply Drawn0.step)⟩
  case round =>
    clear H'
    obtain ⟨x7_1, rfl, HA, HK1, ⟨m1, rfl⟩⟩ := hrel
    cases gk with
    | zero => exact absurd HA.out (by simp [inspect_items.l0])
    | succ k1 =>
      have H := HA.out
      clear HA
      simp only [inspect_items.l0] at H
      by_cases c2 : x7_1 < (l0.length : Int)
      · rw [if_pos c2] at H
        have c2b0 : decide (x7_1 < (l0.length : Int)) = true := decide_eq_true c2
        clear c2
        by_cases c3 : 0 ≤ x7_1
        · rw [if_pos c3] at H
          have c3b0 : decide (0 ≤ x7_1) = true := decide_eq_true c3
          clear c3
          by_cases c4 : x7_1 < (l0.length : Int)
          · rw [if_pos c4] at H
            have c4b0 : decide (x7_1 < (l0.length : Int)) = true := decide_eq_true c4
            clear c4
            have HC5 := Aside0.mk H
            clear H
            have p103 : 0 ≤ (x7_1 : Int) := of_decide_eq_true (by first | (with_reducible assumption) | assumption)
            have q103 : x7_1 < (l0.length : Int) := of_decide_eq_true (by first | (with_reducible assumption) | assumption)
            obtain ⟨ad103, e103, hx103_0⟩ := Kd.at_int HR0.out x7_1 p103 q103
            cases e103
            replace p103 := eq_true p103
            replace q103 := eq_true q103
            go_upto_region 4 with (fail)
            go_cut [17] (fun v17 wc => ∃ (kq : Nat) (x17_4 : Bool), v17 = .bool x17_4 ∧ Aside0 (inspect_items.j1 kq l0 x7_1 (rd l0 x7_1) l0 (l0.length : Int) x7_1 x17_4 = some r) ∧ Aside0 (kq ≤ k1) ∧ Drawn0 w wc)
            case first =>
              have H := HC5.out
              clear HC5
              by_cases c6 : (rd l0 x7_1) < 1
              · rw [if_pos c6] at H
                have c6b0 : decide ((rd l0 x7_1) < 1) = true := decide_eq_true c6
                clear c6
                (first | rw [c6b0] | (simp only [i64_w, i32_w]; rw [c6b0]) | skip)
                have H' := Aside0.mk H
                clear H
                go_wp2
                go_meet
                case rel => exact ⟨_, (true), (by first | rfl | (simp; done) | (simp [*]; done)), H', ⟨by have := HK1.out; first | omega | exact Nat.le_refl _⟩, by repeat (first | exact Drawn0.refl _ | apply Drawn0.step)⟩
              · rw [if_neg c6] at H
                have c6b0 : decide ((rd l0 x7_1) < 1) = false := decide_eq_false c6
                clear c6
                (first | rw [c6b0] | (simp only [i64_w, i32_w]; rw [c6b0]) | skip)
                have H' := Aside0.mk H
                clear H
                go_wp2
                go_meet
                case rel => exact ⟨_, (decide ((rd l0 x7_1) > 9999)), (by first | rfl | (simp; done) | (simp [*]; done)), H', ⟨by have := HK1.out; first | omega | exact Nat.le_refl _⟩, by repeat (first | exact Drawn0.refl _ | apply Drawn0.step)⟩
            case rest =>
              clear HC5
              try clear p1
              try clear q1
              try clear hx1
              try clear c2
              try clear c2b0
              try clear p2
              try clear c3
              try clear c3b0
              try clear c4
              try clear c4b0
              try clear c5
              try clear c6
              try clear c6b0
              try clear hx103_0
              try clear p103
              try clear q103
              obtain ⟨kq, x17_4, rfl, HA, HJ4, ⟨mc4, rfl⟩⟩ := hcut
              cases kq with
              | zero => exact absurd HA.out (by simp [inspect_items.j1])
              | succ kj4 =>
                have H := HA.out
                clear HA
                simp only [inspect_items.j1] at H
                by_cases c7 : x17_4 = true
                · subst c7
                  have H1 : (some 2) = some r := by rw [if_pos rfl] at H; exact H
                  clear H
                  have H := H1
                  clear H1
                  obtain rfl := Option.some.inj H
                  go_wp2
                  go_ret
                  exact ⟨by first | rfl | (simp; done) | (simp [*]; done), by repeat (first | exact Drawn0.refl _ | apply Drawn0.step)⟩
                · replace c7 := Bool.eq_false_iff.mpr c7
                  subst c7
                  have H1 : (if 0 ≤ x7_1 then (if x7_1 ≤ (l0.length : Int) then ((slices_Contains_int_int.f kj4 (l0.take (x7_1 : Int).toNat) (rd l0 x7_1)).bind fun t105 => (if t105 = true then (some 7) else (inspect_items.l0 kj4 l0 l0 (l0.length : Int) (wrap64 (x7_1 + 1))))) else (none)) else (none)) = some r := by rw [if_neg (show ¬ (false = true) by decide)] at H; exact H
                  clear H
                  have H := H1
                  clear H1
                  by_cases c8 : 0 ≤ x7_1
                  · rw [if_pos c8] at H
                    have c8b0 := eq_true c8
                    have c8b1 : decide (0 ≤ x7_1) = true := decide_eq_true c8
                    clear c8
                    by_cases c9 : x7_1 ≤ (l0.length : Int)
                    · rw [if_pos c9] at H
                      have c9b0 := eq_true c9
                      have c9b1 : decide (x7_1 ≤ (l0.length : Int)) = true := decide_eq_true c9
                      clear c9
                      replace H := Option.bind_eq_some_iff.mp H
                      obtain ⟨t105, A100, H⟩ := H
                      replace H : (if t105 = true then (some 7) else (inspect_items.l0 kj4 l0 l0 (l0.length : Int) (wrap64 (x7_1 + 1)))) = some r := H
                      have A10 := Aside0.mk A100
                      clear A100
                      by_cases c11 : t105 = true
                      · subst c11
                        have H1 : (some 7) = some r := by rw [if_pos rfl] at H; exact H
                        clear H
                        have H := H1
                        clear H1
                        obtain rfl := Option.some.inj H
                        obtain ⟨i012, hi012, _, hsz12, _⟩ := info_parts info3
                        obtain ⟨hcut12, hA12, hC12⟩ := print_take_of (P := Try.prog) (Value.int .i64) 0 22 3 .i64 Try.underlying22 hi012 hsz12 (some ad103) c0 l0 x7_1 (of_decide_eq_true (by first | (with_reducible assumption) | assumption)) (of_decide_eq_true (by first | (with_reducible assumption) | assumption)) HC0.out
                        have HR104 := Aside0.mk (Kd.C_of_reads (h1 := fun _ => rfl) (hA12 _ (Kd.reads_of_C HR0.out)))
                        have HC104 := Aside0.mk hC12
                        clear hA12 hC12 hi012 hsz12
                        go_wp2_with (first | ((with_reducible refine gate_callee (f := 55) rfl ?_); refine goesL_ (some 22) rfl rfl Try.func55 (by kernel_rfl) rfl #[.slice (some ad103) (l0.take (x7_1 : Int).toNat).length c0, .int .i64 (rd l0 x7_1)] rfl (by (try simp only [List.map_toArray, List.map_cons, List.map_nil]); first | done | (rw [show (l0.take (x7_1 : Int).toNat).length = x7_1.toNat from (by rw [List.length_take]; have h_ : (x7_1 : Int) ≤ (l0.length : Int) := of_decide_eq_true (by first | (with_reducible assumption) | assumption); omega)] <;> rfl) | rfl | (simp only [List.length_drop, List.length_take]; rfl)) ?_; (with_reducible refine (slices_Contains_int_int.calls kj4 _ _ (l0.take (x7_1 : Int).toNat) (rd l0 x7_1) true _ ?side1 ?side2 A10.out).mono ?_); (case side1 => repeat (first | exact HR104.out | (with_reducible refine Kd.C_alloc ?_ _) | (with_reducible refine Kd.C_drewN ?_ _) | (with_reducible refine Kd.C_drew ?_))); (case side2 => exact HC104.out); rintro e w' ⟨rfl, ⟨nd, rfl⟩⟩; refine ⟨_, rfl, ?_⟩))
                        go_ret
                        exact ⟨by first | rfl | (simp; done) | (simp [*]; done), by repeat (first | exact Drawn0.refl _ | apply Drawn0.step)⟩
                      · replace c11 := Bool.eq_false_iff.mpr c11
                        subst c11
                        have H1 : (inspect_items.l0 kj4 l0 l0 (l0.length : Int) (wrap64 (x7_1 + 1))) = some r := by rw [if_neg (show ¬ (false = true) by decide)] at H; exact H
                        clear H
                        have H := H1
                        clear H1
                        have H' := Aside0.mk H
                        clear H
                        obtain ⟨i013, hi013, _, hsz13, _⟩ := info_parts info3
                        obtain ⟨hcut13, hA13, hC13⟩ := print_take_of (P := Try.prog) (Value.int .i64) 0 22 3 .i64 Try.underlying22 hi013 hsz13 (some ad103) c0 l0 x7_1 (of_decide_eq_true (by first | (with_reducible assumption) | assumption)) (of_decide_eq_true (by first | (with_reducible assumption) | assumption)) HC0.out
                        have HR104 := Aside0.mk (Kd.C_of_reads (h1 := fun _ => rfl) (hA13 _ (Kd.reads_of_C HR0.out)))
                        have HC104 := Aside0.mk hC13
                        clear hA13 hC13 hi013 hsz13
                        go_wp2_with (first | ((with_reducible refine gate_callee (f := 55) rfl ?_); refine goesL_ (some 22) rfl rfl Try.func55 (by kernel_rfl) rfl #[.slice (some ad103) (l0.take (x7_1 : Int).toNat).length c0, .int .i64 (rd l0 x7_1)] rfl (by (try simp only [List.map_toArray, List.map_cons, List.map_nil]); first | done | (rw [show (l0.take (x7_1 : Int).toNat).length = x7_1.toNat from (by rw [List.length_take]; have h_ : (x7_1 : Int) ≤ (l0.length : Int) := of_decide_eq_true (by first | (with_reducible assumption) | assumption); omega)] <;> rfl) | rfl | (simp only [List.length_drop, List.length_take]; rfl)) ?_; (with_reducible refine (slices_Contains_int_int.calls kj4 _ _ (l0.take (x7_1 : Int).toNat) (rd l0 x7_1) false _ ?side1 ?side2 A10.out).mono ?_); (case side1 => repeat (first | exact HR104.out | (with_reducible refine Kd.C_alloc ?_ _) | (with_reducible refine Kd.C_drewN ?_ _) | (with_reducible refine Kd.C_drew ?_))); (case side2 => exact HC104.out); rintro e w' ⟨rfl, ⟨nd, rfl⟩⟩; refine ⟨_, rfl, ?_⟩))
                        go_roundg kj4
                        case measure => have := HK1.out; have := HJ4.out; omega
                        case rel => exact ⟨(wrap64 (x7_1 + 1)), (by first | rfl | (simp; done) | (simp [*]; done)), H', ⟨by have := HK1.out; have := HJ4.out; omega⟩, by repeat (first | exact Drawn0.refl _ | apply Drawn0.step)⟩
                    · rw [if_neg c9] at H
                      exact absurd H (by simp)
                  · rw [if_neg c8] at H
                    exact absurd H (by simp)
          · rw [if_neg c4] at H
            exact absurd H (by simp)
        · rw [if_neg c3] at H
          exact absurd H (by simp)
      · rw [if_neg c2] at H
        have c2b0 : decide (x7_1 < (l0.length : Int)) = false := decide_eq_false c2
        clear c2
        obtain rfl := Option.some.inj H
        go_wp2
        go_ret
        exact ⟨by first | rfl | (simp; done) | (simp [*]; done), by repeat (first | exact Drawn0.refl _ | apply Drawn0.step)⟩

end Go.Proofs.Ytmhggplhfcmgkaa.Q
