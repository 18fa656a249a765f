-- written by wip/drive.py (this session's program) over the kit's print words
import Derived.Test.YtgfiidgigenibaaQ0
import Derived.Test.YtgfiidgigenibaaQ9
import Derived.Test.YtgfiidgigenibaaQ15
namespace Go.Proofs.Ytgfiidgigenibaa.Q
open Go.RowKit Go.Proofs.YtgfiidgigenibaaW.PrintWords Go.Proofs.YtgfiidgigenibaaW.PrintLast Go.Proofs.YtgfiidgigenibaaW.PrintMore
attribute [local go_sem] max2_int min2_int max_two min_two max_three min_three max_four min_four   -- for this text's walks alone
set_option linter.unusedVariables false
set_option linter.unusedSimpArgs false

/-! ### census_Egress: function 14 -/
section
open Go.Shelf
attribute [local go_sem] Oper.semAt_some
set_option maxRecDepth 10000 in
theorem here_calls (x : S62) (gn : Nat) (node : Int) (b : Bool) (w : World) (hn : w.cell? ⟨gn, 0, none⟩ = some (.int .i64 node)) (hbb : decide (x.f0 = node) = b) :
  Calls Try.prog 32 #[.agg #[.int .i64 x.f0, .int .i64 x.f1], .pointer (some ⟨gn, 0, none⟩)] w fun e w' => e = .returned (.bool b) ∧ Below w.heap.size w w' := by
 have hu62 := Try.underlying62
 have hn2 := pw_cell_below (below_alloc (Below.refl w.heap.size w) (.cells #[.int .i64 x.f0, .int .i64 x.f1] 62)) hn
 clear hn
 by_cases c1 : x.f0 = node
 ·have d1 : (x.f0 == node) = true := beq_iff_eq.2 c1
  obtain rfl : true = b := by rw [← hbb]; simp [c1]
  clear c1 hbb
  go_enter Try.func32, Try.ntmps32
  go_wp2
  go_ret
  exact ⟨rfl, (Below.refl _ w).alloc (Nat.le_refl _) _⟩
 ·obtain rfl : false = b := by rw [← hbb]; simp [c1]
  have d1 : (x.f0 == node) = false := beq_eq_false_iff_ne.2 c1
  clear c1 hbb
  go_enter Try.func32, Try.ntmps32
  go_wp2
  go_ret
  exact ⟨rfl, (Below.refl _ w).alloc (Nat.le_refl _) _⟩
/-- The edges so far: in the block gA a row of the call's own. -/
structure ASt (w W : World) (gA : Nat) (v : Value) (acc : List S67) : Prop where
 b : Below w.heap.size w W
 A : W.heap[gA]? = some (.cells #[v] 65 (0, 0))
 r : Kd.R k67 67 W w.heap.size (fun _ => True) v acc
 ge : w.heap.size ≤ gA
def KeepsA (W W' : World) (gA : Nat) : Prop := ∀ g cs t, W.heap[g]? = some (.cells cs t (0, 0)) → t ≠ 67 → g ≠ gA → W'.heap[g]? = some (.cells cs t (0, 0))
section
variable {w W W1 : World} {gA : Nat} {v : Value} {acc : List S67}
theorem ASt.step (h : ASt w W gA v acc) (hb : Below W.heap.size W W1) : ASt w W1 gA v acc := ⟨below_step h.b hb, blk_below h.A hb, Kd.R_below h.r hb, h.ge⟩
theorem ASt.cA (h : ASt w W gA v acc) : W.cell? ⟨gA, 0, none⟩ = some v := (blk_cell h.A 0).trans rfl
theorem ASt.fA (h : ASt w W gA v acc) : W.frozen? ⟨gA, 0, none⟩ = false := blk_frozen h.A 0
theorem ASt.set (h : ASt w W gA v acc) {g t : Nat} {cs : Array Value} (hx : W.heap[g]? = some (.cells cs t (0, 0))) (ht : t ≠ 65 ∧ t ≠ 67) (hge : w.heap.size ≤ g) (i : Nat) (u : Value) : ASt w (W.setCell ⟨g, i, none⟩ u) gA v acc :=
 ⟨below_set h.b hge, blk_far h.A (p := ⟨g, i, none⟩) (bne_ h.A hx (Ne.symm ht.1)) u, Kd.R_mono (Kd.R_far (p := ⟨g, i, none⟩) (Kd.R_types h.r hx (by intro q hq; simp [k67, Kd.iso, Kd.pair, Kd.int, Kd.scalar] at hq; rw [hq]; exact Ne.symm ht.2)) (fun _ hk => hk.2) u) (fun _ _ => trivial), h.ge⟩
theorem ASt.push (h : ASt w W gA v acc) {v' : Value} {acc' : List S67} (hb : Below w.heap.size w W1) (hg : W.grownBy W1 v.ownBlock) (hr : Kd.R k67 67 W1 w.heap.size (fun _ => True) v' acc') : ASt w (W1.setCell ⟨gA, 0, none⟩ v') gA v' acc' :=
 have hne : some gA ≠ v.ownBlock := fun e => (Kd.R_types h.r h.A (by decide)).1 gA e.symm |>.2 rfl
 have hA := (hg.block gA (blk_lt h.A) hne).trans h.A
 ⟨below_set hb h.ge, blk_put hA 0 v' rfl, Kd.R_mono (Kd.R_far (p := ⟨gA, 0, none⟩) (Kd.R_types hr hA (by decide)) (fun _ hk => hk.2) v') (fun _ _ => trivial), h.ge⟩
end
set_option maxRecDepth 10000 in
set_option maxHeartbeats 4000000 in
theorem egress_add.calls (w W : World) (gA : Nat) (v : Value) (acc : List S67) (a b c : Int) (h : ASt w W gA v acc) (hl : acc.length < 4398046511103) :
  Calls Try.prog 34 #[.int .i64 a, .int .i64 b, .int .i64 c, .pointer (some ⟨gA, 0, none⟩)] W fun e W' => e = .returned (.tuple #[]) ∧ (∃ v', ASt w W' gA v' (acc ++ [⟨acc.length, a, b, c⟩])) ∧ KeepsA W W' gA := by
 have hu65 := Try.underlying65
 have hu67 := Try.underlying67
 obtain ⟨A, cc, rfl⟩ := Kd.R_slice h.r
 have AS := a_ h
 have HL := a_ hl
 have hcA := AS.out.cA
 clear h hl
 go_enter Try.func34, Try.ntmps34
 go_wp2_with (first | ((with_reducible refine gate_builtin (b := .append) (xs := #[.tmp 7, .tmp 14]) rfl ?_); at_builtin; refine Kd.R_append k67 (w0 := w) w.heap.size rfl (.tmp 7) (.tmp 14) 65 67 (.agg #[(.int .i64 0), (.int .i64 0), (.int .i64 0), (.int .i64 0)]) 32 rfl Try.underlying65 info67 rfl (by decide) (by omega) _ acc (⟨acc.length, a, b, c⟩ : S67) [.int .i64 (acc.length : Int), .int .i64 a, .int .i64 b, .int .i64 c] (fun _ => True) (fun _ => False) rfl (by first | (go_simp; done) | (go_simp; rfl)) ?aP (fun _ hk => hk.elim) (fun _ _ => trivial) AS.out.r AS.out.b AS.out.b.size ?aL ?_; (case aP => exact k67_mkM _ _ _ (⟨acc.length, a, b, c⟩ : S67)); (case aL => have := HL.out; omega); intro v1 W3 ho hb hg hat; have AS2 := a_ (AS.out.push hb hg ho); have K2 := a_ (fun g cs t (hx : W.heap[g]? = some (.cells cs t (0, 0))) (ht : t ≠ 67) (hn : g ≠ gA) => (hg.block g (blk_lt hx) (fun e => ((Kd.R_types AS.out.r hx (by intro q hq; simp [k67, Kd.iso, Kd.pair, Kd.int, Kd.scalar] at hq; (rw [hq]; exact Ne.symm ht))).1 g e.symm).2 rfl)).trans hx); have hA3 := (hg.block gA (blk_lt AS.out.A) (fun e => ((Kd.R_types AS.out.r AS.out.A (by decide)).1 gA e.symm).2 rfl)).trans AS.out.A; clear hcA; have hcA : W3.cell? ⟨gA, 0, none⟩ = some (.slice A acc.length cc) := (blk_cell hA3 0).trans rfl; have hfA := blk_frozen hA3 0; obtain ⟨A2, c2, rfl⟩ := Kd.R_slice ho; clear AS ho hb hg hat hA3))
 simp only [List.length_append, List.length_singleton] at AS2
 go_end0
 exact ⟨rfl, ⟨_, AS2.out⟩, fun g cs t hx ht hn => blk_far (K2.out g cs t hx ht hn) (p := ⟨gA, 0, none⟩) hn _⟩
/-- The place of the first element from place i on of which p holds, or -1. -/
def idxFrom {α : Type} (p : α → Bool) : List α → Nat → Int
 | [], _ => -1
 | x :: l, i => if p x then (i : Int) else idxFrom p l (i + 1)
theorem idxFrom_at {α : Type} (p : α → Bool) (l : List α) (z : α) (i k : Nat) (h : k < l.length) : idxFrom p (l.drop k) i = if p (l.getD k z) then (i : Int) else idxFrom p (l.drop (k + 1)) (i + 1) := by
 rw [List.drop_eq_getElem_cons h]
 simp [idxFrom, List.getD_eq_getElem?_getD, List.getElem?_eq_getElem h]
theorem idxFrom_any {α : Type} (p : α → Bool) (l : List α) (i : Nat) : decide (0 ≤ idxFrom p l i) = l.any p := by
 induction l generalizing i with
 | nil => simp [idxFrom]
 | cons x l ih =>
  by_cases h : p x = true
  ·simp [idxFrom, h]
  ·rw [show idxFrom p (x :: l) i = idxFrom p l (i + 1) by simp [idxFrom, h], ih]; simp [h]
set_option maxHeartbeats 800000 in
theorem idx62 (gn : Nat) (p : S62 → Bool) (A : Option Addr) (c : Nat) (l : List S62) (w : World)
  (hr : Kd.C k62 w A l.length l) (hc : l.length ≤ c)
  (hp : ∀ (W : World) (x : S62) (b : Bool), Below w.heap.size w W → p x = b → Calls Try.prog 32 #[.agg #[.int .i64 x.f0, .int .i64 x.f1], .pointer (some ⟨gn, 0, none⟩)] W fun e w' => e = .returned (.bool b) ∧ Below W.heap.size W w') :
  Calls Try.prog 47 #[.slice A l.length c, .func (.func 32) #[] #[.pointer (some ⟨gn, 0, none⟩)]] w
   fun e w' => e = .returned (.int .i64 (idxFrom p l 0)) ∧ Below w.heap.size w w' := by
 have hu62 := Try.underlying62
 have HR := a_ hr
 have HC := a_ hc
 have HP := a_ hp
 have HN := a_ (Kd.C_max hr)
 clear hr hc hp
 go_enter Try.func47, Try.ntmps47
 go_wp2
 go_loopw [8] (fun v8 wr => ∃ x8 : Int, v8 = .int .i64 x8 ∧ Aside0 (0 ≤ x8) ∧ Aside0 (x8 ≤ l.length) ∧ Aside0 (idxFrom p (l.drop x8.toNat) x8.toNat = idxFrom p l 0) ∧ Aside0 (Below w.heap.size w wr)) (fun v8 _ => l.length - (intOf v8).toNat)
 case atStart => exact ⟨0, rfl, ⟨by omega⟩, ⟨by omega⟩, ⟨rfl⟩, ⟨Below.refl _ _⟩⟩
 case round =>
  obtain ⟨x8, rfl, H0, H1, HE, HB⟩ := hrel
  by_cases hlt : x8 < (l.length : Int)
  ·have p1 := H0.out
   obtain ⟨ad, ea, g0, g1⟩ := at_T62 HR.out x8 p1 hlt
   cases ea
   replace g0 := (HB.out.cell (World.block_lt_of_cell? w _ g0)).trans g0
   replace g1 := (HB.out.cell (World.block_lt_of_cell? w _ g1)).trans g1
   have HS := a_ (idxFrom_at p l z62 x8.toNat x8.toNat (by omega))
   have HX := a_ (show ((x8.toNat : Nat) : Int) = x8 by omega)
   have HW : Aside0 (wrap64 (x8 + 1) = x8 + 1) := ⟨by have := HN.out; unfold wrap64; omega⟩
   have C1 := a_ hlt
   have P1 := a_ p1
   replace p1 := eq_true p1
   have d1 : decide (x8 < (l.length : Int)) = true := decide_eq_true hlt
   replace hlt := eq_true hlt
   obtain ⟨b, hb⟩ : ∃ b, p (rd_T62 l x8) = b := ⟨_, rfl⟩
   have HBb := a_ hb
   clear hb
   cases b with
   | true =>
    go_wp2_with (go_at_call 32; (with_reducible refine (HP.out _ (rd_T62 l x8) true HB.out HBb.out).mono ?_); rintro e w' ⟨rfl, hbw⟩)
    go_ret
    exact ⟨by rw [← HE.out, HS.out, if_pos (by exact HBb.out), HX.out]; rfl, below_then HB.out HB.out.size hbw⟩
   | false =>
    go_wp2_with (go_at_call 32; (with_reducible refine (HP.out _ (rd_T62 l x8) false HB.out HBb.out).mono ?_); rintro e w' ⟨rfl, hbw⟩)
    go_roundw
    case rel => exact ⟨x8 + 1, by rw [HW.out], ⟨by have := P1.out; omega⟩, ⟨by have := C1.out; omega⟩, ⟨by rw [← HE.out, HS.out, if_neg (by have := HBb.out; unfold rd_T62 at this; rw [this]; simp), show (x8 + 1).toNat = x8.toNat + 1 by have := P1.out; omega]⟩, ⟨below_then HB.out HB.out.size hbw⟩⟩
    case measure => have h1 := P1.out; have h2 := C1.out; rw [HW.out]; simp only [intOf]; omega
  ·have d1 : decide (x8 < (l.length : Int)) = false := decide_eq_false hlt
   have HZ := a_ (show l.drop x8.toNat = [] by apply List.drop_eq_nil_of_le; omega)
   clear hlt
   go_wp2
   go_ret
   exact ⟨by rw [← HE.out, HZ.out]; rfl, HB.out⟩
set_option maxHeartbeats 800000 in
theorem any62 (gn : Nat) (p : S62 → Bool) (A : Option Addr) (c : Nat) (l : List S62) (w : World)
  (hr : Kd.C k62 w A l.length l) (hc : l.length ≤ c)
  (hp : ∀ (W : World) (x : S62) (b : Bool), Below w.heap.size w W → p x = b → Calls Try.prog 32 #[.agg #[.int .i64 x.f0, .int .i64 x.f1], .pointer (some ⟨gn, 0, none⟩)] W fun e w' => e = .returned (.bool b) ∧ Below W.heap.size W w')
  (r : Bool) (hrr : l.any p = r) :
  Calls Try.prog 33 #[.slice A l.length c, .func (.func 32) #[] #[.pointer (some ⟨gn, 0, none⟩)]] w
   fun e w' => e = .returned (.bool r) ∧ Below w.heap.size w w' := by
 have HI := a_ (idx62 gn p A c l w hr hc hp)
 have HR := a_ (idxFrom_any p l 0)
 have HRR := a_ hrr
 clear hr hc hp hrr
 cases r with
 | true =>
  have hd : decide (0 ≤ idxFrom p l 0) = true := by rw [HR.out]; exact HRR.out
  generalize idxFrom p l 0 = z at *
  go_enter Try.func33, Try.ntmps33
  go_wp2_with (go_at_call 47; (with_reducible refine HI.out.mono ?_); rintro e w' ⟨rfl, hbw⟩)
  go_ret
  exact ⟨rfl, hbw⟩
 | false =>
  have hd : decide (0 ≤ idxFrom p l 0) = false := by rw [HR.out]; exact HRR.out
  generalize idxFrom p l 0 = z at *
  go_enter Try.func33, Try.ntmps33
  go_wp2_with (go_at_call 47; (with_reducible refine HI.out.mono ?_); rintro e w' ⟨rfl, hbw⟩)
  go_ret
  exact ⟨rfl, hbw⟩
theorem rd44_at (l : List S44) (i : Int) (h0 : 0 ≤ i) (h1 : i < l.length) : l.drop i.toNat = rd_T44 l i :: l.drop (i + 1).toNat := by
 rw [List.drop_eq_getElem_cons (by omega), show (i + 1).toNat = i.toNat + 1 by omega]
 simp [rd_T44, List.getD_eq_getElem?_getD, List.getElem?_eq_getElem (show i.toNat < l.length by omega)]
def edgesA (k : Nat) (runs : List Int) : List S44 → List S67 → Option (List S67)
 | [], acc => some acc
 | r :: rs, acc => (slices_Contains_int_int.f k runs r.f0).bind fun c => if c = true then (if acc.length < 4398046511103 then edgesA k runs rs (acc ++ [⟨acc.length, r.f2, r.f3, wrap64 (wrap64 (5 - r.f4) * 500)⟩]) else none) else edgesA k runs rs acc
def edgesB : List Int → List S67 → Option (List S67)
 | [], acc => some acc
 | b :: bs, acc => if acc.length < 4398046511103 then edgesB bs (acc ++ [⟨acc.length, b, 0, 1000000⟩]) else none
def census_Egress.f (k : Nat) (l0_0 : List S62) (l0_1 : List S82) (l0_2 : List S44) (l0_3 : List Int) (l1 : List Int) (a2 : Int) : Option Int :=
 if (l0_0.any fun x => decide (x.f0 = a2)) = true then (edgesA k l1 l0_2 []).bind fun e1 => (edgesB l0_3 e1).bind fun e2 => flow_Max.f k e2 a2 0 else some 0
theorem edgesA_mono (k : Nat) (runs : List Int) : ∀ rs acc, LeO (edgesA k runs rs acc) (edgesA (k + 1) runs rs acc)
 | [], acc => LeO.refl _
 | r :: rs, acc => by
  rw [edgesA, edgesA]
  exact LeO.bind (slices_Contains_int_int.mono _ _ _) (fun c => LeO.ite (LeO.ite (edgesA_mono k runs rs _) (LeO.refl _)) (edgesA_mono k runs rs acc))
theorem census_Egress.mono : ∀ a0 a1 a2 a3 a4 a5 k, LeO (census_Egress.f k a0 a1 a2 a3 a4 a5) (census_Egress.f (k + 1) a0 a1 a2 a3 a4 a5) := fun a0 a1 a2 a3 a4 a5 k => by
 unfold census_Egress.f
 exact LeO.ite (LeO.bind (edgesA_mono k _ _ _) (fun e1 => LeO.bind (LeO.refl _) (fun e2 => flow_Max.mono _ _ _ _))) (LeO.refl _)
set_option maxRecDepth 10000 in
set_option maxHeartbeats 8000000 in
theorem census_Egress.calls (k : Nat) (A0_0 : Option Addr) (c0_0 : Nat) (l0_0 : List S62) (A0_1 : Option Addr) (c0_1 : Nat) (l0_1 : List S82) (A0_2 : Option Addr) (c0_2 : Nat) (l0_2 : List S44) (A0_3 : Option Addr) (c0_3 : Nat) (l0_3 : List Int) (A1 : Option Addr) (c1 : Nat) (l1 : List Int) (a2 r : Int) (w : World) (hr0_0 : Kd.C k62 w A0_0 l0_0.length l0_0) (hc0_0 : l0_0.length ≤ c0_0) (hr0_1 : Kd.C k82 w A0_1 l0_1.length l0_1) (hc0_1 : l0_1.length ≤ c0_1) (hr0_2 : Kd.C k44 w A0_2 l0_2.length l0_2) (hc0_2 : l0_2.length ≤ c0_2) (hr0_3 : Kd.C (Kd.int .i64) w A0_3 l0_3.length l0_3) (hc0_3 : l0_3.length ≤ c0_3) (hr1 : Kd.C (Kd.int .i64) w A1 l1.length l1) (hc1 : l1.length ≤ c1) (h : census_Egress.f k l0_0 l0_1 l0_2 l0_3 l1 a2 = some r) :
  Calls Try.prog 14 #[.agg #[.slice A0_0 l0_0.length c0_0, .slice A0_1 l0_1.length c0_1, .slice A0_2 l0_2.length c0_2, .slice A0_3 l0_3.length c0_3], .slice A1 l1.length c1, .int .i64 a2] w fun e w' => e = .returned (.int .i64 r) ∧ Below w.heap.size w w' := by
 have hu38 := Try.underlying38
 have hu44 := Try.underlying44
 have hmf : ∀ (fn : Fn) (first cap : Array Value) (w : World), (Instr.makeFunc fn first cap).run Try.prog w = .ok (.func fn first cap) w := fun _ _ _ _ => rfl
 have HR0_0 := a_ hr0_0
 have HC0_0 := a_ hc0_0
 have HR0_2 := a_ hr0_2
 have HR0_3 := a_ hr0_3
 have HR1 := a_ hr1
 have HC1 := a_ hc1
 have HN2 := a_ (Kd.C_max hr0_2)
 have HN3 := a_ (Kd.C_max hr0_3)
 clear hr0_0 hc0_0 hr0_1 hc0_1 hr0_2 hc0_2 hr0_3 hc0_3 hr1 hc1
 unfold census_Egress.f at h
 cases hany : (l0_0.any fun x => decide (x.f0 = a2)) with
 | false =>
  rw [hany, if_neg (by simp)] at h
  obtain rfl := Option.some.inj h
  have HANY := a_ hany
  clear h hany
  go_enter Try.func14, Try.ntmps14
  go_wp2_with (first | ((with_reducible refine gate_dst (N := 3) rfl ?_); refine box_event ?hg (N := 3) ?hd (cs := #[.slice A0_0 l0_0.length c0_0, .slice A0_1 l0_1.length c0_1, .slice A0_2 l0_2.length c0_2, .slice A0_3 l0_3.length c0_3]) (t := 38) ?hr ?_; (case hd => rfl); (case hg => rfl); (case hr => first | (go_simp; done) | (go_simp; rfl)); intro gM hg W1 hbox hb; have BM := a_ hbox; have GM := a_ ((by rw [hg]; exact Nat.le_refl _) : w.heap.size ≤ gM); have HB := a_ hb; clear hg hbox hb; have hm0 : W1.cell? ⟨gM, 0, none⟩ = some (.slice A0_0 l0_0.length c0_0) := (blk_cell BM.out 0).trans rfl; have hm1 : W1.cell? ⟨gM, 1, none⟩ = some (.slice A0_1 l0_1.length c0_1) := (blk_cell BM.out 1).trans rfl; have hm2 : W1.cell? ⟨gM, 2, none⟩ = some (.slice A0_2 l0_2.length c0_2) := (blk_cell BM.out 2).trans rfl; have hm3 : W1.cell? ⟨gM, 3, none⟩ = some (.slice A0_3 l0_3.length c0_3) := (blk_cell BM.out 3).trans rfl) | ((with_reducible refine gate_dst (N := 5) rfl ?_); refine box_event ?hg (N := 5) ?hd (cs := #[.int .i64 a2]) (t := 3) ?hr ?_; (case hd => rfl); (case hg => rfl); (case hr => first | (go_simp; done) | (go_simp; rfl)); intro gN hg W2 hbox hb; have BN := a_ hbox; have GN := a_ ((by rw [hg]; exact HB.out.size) : w.heap.size ≤ gN); have HB2 := a_ (below_step HB.out hb); have BM2 := a_ (blk_below BM.out hb); clear BM HB hg hbox hb; have BM := BM2; have HB := HB2; clear BM2 HB2; clear hm0 hm1 hm2 hm3; have hm0 : W2.cell? ⟨gM, 0, none⟩ = some (.slice A0_0 l0_0.length c0_0) := (blk_cell BM.out 0).trans rfl; have hm1 : W2.cell? ⟨gM, 1, none⟩ = some (.slice A0_1 l0_1.length c0_1) := (blk_cell BM.out 1).trans rfl; have hm2 : W2.cell? ⟨gM, 2, none⟩ = some (.slice A0_2 l0_2.length c0_2) := (blk_cell BM.out 2).trans rfl; have hm3 : W2.cell? ⟨gM, 3, none⟩ = some (.slice A0_3 l0_3.length c0_3) := (blk_cell BM.out 3).trans rfl; have hn0 : W2.cell? ⟨gN, 0, none⟩ = some (.int .i64 a2) := (blk_cell BN.out 0).trans rfl) | (go_at_call 33; (with_reducible refine (any62 gN (fun x : S62 => decide (x.f0 = a2)) A0_0 c0_0 l0_0 _ ?s1 HC0_0.out ?s2 false HANY.out).mono ?_); (case s1 => exact Kd.C_below HR0_0.out HB.out); (case s2 => exact fun W x b hbW hpx => here_calls x gN a2 b W (pw_cell_below hbW ((blk_cell BN.out 0).trans rfl)) hpx); rintro e W3 ⟨rfl, hb⟩; have HB2 := a_ (below_step HB.out hb); have BM2 := a_ (blk_below BM.out hb); have BN2 := a_ (blk_below BN.out hb); clear BM HB BN hb hn0; have BM := BM2; have BN := BN2; have HB := HB2; clear BM2 BN2 HB2; clear hm0 hm1 hm2 hm3; have hm0 : W3.cell? ⟨gM, 0, none⟩ = some (.slice A0_0 l0_0.length c0_0) := (blk_cell BM.out 0).trans rfl; have hm1 : W3.cell? ⟨gM, 1, none⟩ = some (.slice A0_1 l0_1.length c0_1) := (blk_cell BM.out 1).trans rfl; have hm2 : W3.cell? ⟨gM, 2, none⟩ = some (.slice A0_2 l0_2.length c0_2) := (blk_cell BM.out 2).trans rfl; have hm3 : W3.cell? ⟨gM, 3, none⟩ = some (.slice A0_3 l0_3.length c0_3) := (blk_cell BM.out 3).trans rfl))
  go_ret
  exact ⟨rfl, HB.out⟩
 | true =>
  rw [hany, if_pos rfl] at h
  have HANY := a_ hany
  obtain ⟨e1, he1, h⟩ := Option.bind_eq_some_iff.mp h
  obtain ⟨e2, he2, h⟩ := Option.bind_eq_some_iff.mp h
  have HE1 := a_ he1
  have HE2 := a_ he2
  have HMX0 := a_ h
  clear h hany he1 he2
  go_enter Try.func14, Try.ntmps14
  go_wp2_with (first | ((with_reducible refine gate_dst (N := 3) rfl ?_); refine box_event ?hg (N := 3) ?hd (cs := #[.slice A0_0 l0_0.length c0_0, .slice A0_1 l0_1.length c0_1, .slice A0_2 l0_2.length c0_2, .slice A0_3 l0_3.length c0_3]) (t := 38) ?hr ?_; (case hd => rfl); (case hg => rfl); (case hr => first | (go_simp; done) | (go_simp; rfl)); intro gM hg W1 hbox hb; have BM := a_ hbox; have GM := a_ ((by rw [hg]; exact Nat.le_refl _) : w.heap.size ≤ gM); have HB := a_ hb; clear hg hbox hb; have hm0 : W1.cell? ⟨gM, 0, none⟩ = some (.slice A0_0 l0_0.length c0_0) := (blk_cell BM.out 0).trans rfl; have hm1 : W1.cell? ⟨gM, 1, none⟩ = some (.slice A0_1 l0_1.length c0_1) := (blk_cell BM.out 1).trans rfl; have hm2 : W1.cell? ⟨gM, 2, none⟩ = some (.slice A0_2 l0_2.length c0_2) := (blk_cell BM.out 2).trans rfl; have hm3 : W1.cell? ⟨gM, 3, none⟩ = some (.slice A0_3 l0_3.length c0_3) := (blk_cell BM.out 3).trans rfl) | ((with_reducible refine gate_dst (N := 5) rfl ?_); refine box_event ?hg (N := 5) ?hd (cs := #[.int .i64 a2]) (t := 3) ?hr ?_; (case hd => rfl); (case hg => rfl); (case hr => first | (go_simp; done) | (go_simp; rfl)); intro gN hg W2 hbox hb; have BN := a_ hbox; have GN := a_ ((by rw [hg]; exact HB.out.size) : w.heap.size ≤ gN); have HB2 := a_ (below_step HB.out hb); have BM2 := a_ (blk_below BM.out hb); clear BM HB hg hbox hb; have BM := BM2; have HB := HB2; clear BM2 HB2; clear hm0 hm1 hm2 hm3; have hm0 : W2.cell? ⟨gM, 0, none⟩ = some (.slice A0_0 l0_0.length c0_0) := (blk_cell BM.out 0).trans rfl; have hm1 : W2.cell? ⟨gM, 1, none⟩ = some (.slice A0_1 l0_1.length c0_1) := (blk_cell BM.out 1).trans rfl; have hm2 : W2.cell? ⟨gM, 2, none⟩ = some (.slice A0_2 l0_2.length c0_2) := (blk_cell BM.out 2).trans rfl; have hm3 : W2.cell? ⟨gM, 3, none⟩ = some (.slice A0_3 l0_3.length c0_3) := (blk_cell BM.out 3).trans rfl; have hn0 : W2.cell? ⟨gN, 0, none⟩ = some (.int .i64 a2) := (blk_cell BN.out 0).trans rfl) | (go_at_call 33; (with_reducible refine (any62 gN (fun x : S62 => decide (x.f0 = a2)) A0_0 c0_0 l0_0 _ ?s1 HC0_0.out ?s2 true HANY.out).mono ?_); (case s1 => exact Kd.C_below HR0_0.out HB.out); (case s2 => exact fun W x b hbW hpx => here_calls x gN a2 b W (pw_cell_below hbW ((blk_cell BN.out 0).trans rfl)) hpx); rintro e W3 ⟨rfl, hb⟩; have HB2 := a_ (below_step HB.out hb); have BM2 := a_ (blk_below BM.out hb); have BN2 := a_ (blk_below BN.out hb); clear BM HB BN hb hn0; have BM := BM2; have BN := BN2; have HB := HB2; clear BM2 BN2 HB2; clear hm0 hm1 hm2 hm3; have hm0 : W3.cell? ⟨gM, 0, none⟩ = some (.slice A0_0 l0_0.length c0_0) := (blk_cell BM.out 0).trans rfl; have hm1 : W3.cell? ⟨gM, 1, none⟩ = some (.slice A0_1 l0_1.length c0_1) := (blk_cell BM.out 1).trans rfl; have hm2 : W3.cell? ⟨gM, 2, none⟩ = some (.slice A0_2 l0_2.length c0_2) := (blk_cell BM.out 2).trans rfl; have hm3 : W3.cell? ⟨gM, 3, none⟩ = some (.slice A0_3 l0_3.length c0_3) := (blk_cell BM.out 3).trans rfl) | ((with_reducible refine gate_dst (N := 8) rfl ?_); refine box_event ?hg (N := 8) ?hd (cs := #[.slice none 0 0]) (t := 65) ?hr ?_; (case hd => rfl); (case hg => rfl); (case hr => first | (go_simp; done) | (go_simp; rfl)); intro gA hg W4 hbox hb; have GA := a_ ((by rw [hg]; exact HB.out.size) : w.heap.size ≤ gA); have AS := a_ (ASt.mk (below_step HB.out hb) hbox (Kd.R_nil _ _ _ _ _) GA.out); have BM2 := a_ (blk_below BM.out hb); have BN2 := a_ (blk_below BN.out hb); clear BM HB BN hg hbox hb; have BM := BM2; have BN := BN2; clear BM2 BN2; clear hm0 hm1 hm2 hm3; have hm0 : W4.cell? ⟨gM, 0, none⟩ = some (.slice A0_0 l0_0.length c0_0) := (blk_cell BM.out 0).trans rfl; have hm1 : W4.cell? ⟨gM, 1, none⟩ = some (.slice A0_1 l0_1.length c0_1) := (blk_cell BM.out 1).trans rfl; have hm2 : W4.cell? ⟨gM, 2, none⟩ = some (.slice A0_2 l0_2.length c0_2) := (blk_cell BM.out 2).trans rfl; have hm3 : W4.cell? ⟨gM, 3, none⟩ = some (.slice A0_3 l0_3.length c0_3) := (blk_cell BM.out 3).trans rfl))
  clear hm0 hm1 hm2 hm3
  go_loopw [24] (fun v24 w' => ∃ (x24 : Int) (v : Value) (acc : List S67), v24 = .int .i64 x24 ∧ Aside0 (0 ≤ x24) ∧ Aside0 (x24 ≤ l0_2.length) ∧ Aside0 (edgesA k l1 (l0_2.drop x24.toNat) acc = some e1) ∧ Aside0 (ASt w w' gA v acc) ∧ Aside0 (w'.heap[gM]? = some (.cells #[.slice A0_0 l0_0.length c0_0, .slice A0_1 l0_1.length c0_1, .slice A0_2 l0_2.length c0_2, .slice A0_3 l0_3.length c0_3] 38 (0, 0))) ∧ Aside0 (w'.heap[gN]? = some (.cells #[.int .i64 a2] 3 (0, 0)))) (fun v24 _ => l0_2.length - (intOf v24).toNat)
  case atStart => exact ⟨0, _, [], rfl, ⟨by omega⟩, ⟨by omega⟩, HE1, AS, BM, BN⟩
  case round =>
  clear AS BM BN HE1
  obtain ⟨x24, v, acc, rfl, H0, H1, HE, AS, BM, BN⟩ := hrel
  by_cases hlt : x24 < (l0_2.length : Int)
  ·have p1 := H0.out
   have he := HE.out
   rw [rd44_at l0_2 x24 p1 hlt, edgesA] at he
   obtain ⟨c, hc, he⟩ := Option.bind_eq_some_iff.mp he
   obtain ⟨ad, e0, y0, y1, y2, y3, y4, y5, y6⟩ := at_T44 HR0_2.out x24 p1 hlt
   cases e0
   generalize rd_T44 l0_2 x24 = ru at y0 y1 y2 y3 y4 y5 y6 hc he
   have HCN := a_ hc
   have HE2' := a_ he
   clear hc he HE
   replace y0 := (AS.out.b.cell (World.block_lt_of_cell? w _ y0)).trans y0
   replace y1 := (AS.out.b.cell (World.block_lt_of_cell? w _ y1)).trans y1
   replace y2 := (AS.out.b.cell (World.block_lt_of_cell? w _ y2)).trans y2
   replace y3 := (AS.out.b.cell (World.block_lt_of_cell? w _ y3)).trans y3
   replace y4 := (AS.out.b.cell (World.block_lt_of_cell? w _ y4)).trans y4
   replace y5 := (AS.out.b.cell (World.block_lt_of_cell? w _ y5)).trans y5
   replace y6 := (AS.out.b.cell (World.block_lt_of_cell? w _ y6)).trans y6
   have HLT := a_ hlt
   have HW : Aside0 (wrap64 (x24 + 1) = x24 + 1) := ⟨by have h1 := HN2.out; unfold wrap64; omega⟩
   have dl : decide (x24 < (l0_2.length : Int)) = true := decide_eq_true hlt
   replace p1 := eq_true p1
   replace hlt := eq_true hlt
   go_upto_region 9 with (first | ((with_reducible refine gate_dst (N := 11) rfl ?_); refine box_event ?hg (N := 11) ?hd (cs := #[.int .i64 0, .int .i64 0, .int .i64 0, .int .i64 0, .int .i64 0, .int .i64 0, .int .i64 0]) (t := 44) ?hr ?_; (case hd => rfl); (case hg => rfl); (case hr => first | (go_simp; done) | (go_simp; rfl)); intro gU hg W5 hbox hb; have BU := a_ hbox; have GU := a_ ((by rw [hg]; exact AS.out.b.size) : w.heap.size ≤ gU); have AS2 := a_ (AS.out.step hb); have BM2 := a_ (blk_below BM.out hb); have BN2 := a_ (blk_below BN.out hb); clear AS BM BN hg hbox hb; have AS := AS2; have BM := BM2; have BN := BN2; clear AS2 BM2 BN2; have hu00 : W5.cell? ⟨gU, 0, none⟩ = some (.int .i64 0) := (blk_cell BU.out 0).trans rfl; have hv00 := blk_frozen BU.out 0; have hu01 : W5.cell? ⟨gU, 1, none⟩ = some (.int .i64 0) := (blk_cell BU.out 1).trans rfl; have hv01 := blk_frozen BU.out 1; have hu02 : W5.cell? ⟨gU, 2, none⟩ = some (.int .i64 0) := (blk_cell BU.out 2).trans rfl; have hv02 := blk_frozen BU.out 2; have hu03 : W5.cell? ⟨gU, 3, none⟩ = some (.int .i64 0) := (blk_cell BU.out 3).trans rfl; have hv03 := blk_frozen BU.out 3; have hu04 : W5.cell? ⟨gU, 4, none⟩ = some (.int .i64 0) := (blk_cell BU.out 4).trans rfl; have hv04 := blk_frozen BU.out 4; have hu05 : W5.cell? ⟨gU, 5, none⟩ = some (.int .i64 0) := (blk_cell BU.out 5).trans rfl; have hv05 := blk_frozen BU.out 5; have hu06 : W5.cell? ⟨gU, 6, none⟩ = some (.int .i64 0) := (blk_cell BU.out 6).trans rfl; have hv06 := blk_frozen BU.out 6))
   clear y0 y1 y2 y3 y4 y5 y6
   have X0 := blk_put (cs' := #[.int .i64 ru.f0, .int .i64 0, .int .i64 0, .int .i64 0, .int .i64 0, .int .i64 0, .int .i64 0]) BU.out 0 (.int .i64 ru.f0) rfl
   have X1 := blk_put (cs' := #[.int .i64 ru.f0, .int .i64 ru.f1, .int .i64 0, .int .i64 0, .int .i64 0, .int .i64 0, .int .i64 0]) X0 1 (.int .i64 ru.f1) rfl
   have X2 := blk_put (cs' := #[.int .i64 ru.f0, .int .i64 ru.f1, .int .i64 ru.f2, .int .i64 0, .int .i64 0, .int .i64 0, .int .i64 0]) X1 2 (.int .i64 ru.f2) rfl
   have X3 := blk_put (cs' := #[.int .i64 ru.f0, .int .i64 ru.f1, .int .i64 ru.f2, .int .i64 ru.f3, .int .i64 0, .int .i64 0, .int .i64 0]) X2 3 (.int .i64 ru.f3) rfl
   have X4 := blk_put (cs' := #[.int .i64 ru.f0, .int .i64 ru.f1, .int .i64 ru.f2, .int .i64 ru.f3, .int .i64 ru.f4, .int .i64 0, .int .i64 0]) X3 4 (.int .i64 ru.f4) rfl
   have X5 := blk_put (cs' := #[.int .i64 ru.f0, .int .i64 ru.f1, .int .i64 ru.f2, .int .i64 ru.f3, .int .i64 ru.f4, .int .i64 ru.f5, .int .i64 0]) X4 5 (.int .i64 ru.f5) rfl
   have X6 := blk_put (cs' := #[.int .i64 ru.f0, .int .i64 ru.f1, .int .i64 ru.f2, .int .i64 ru.f3, .int .i64 ru.f4, .int .i64 ru.f5, .int .i64 ru.f6]) X5 6 (.int .i64 ru.f6) rfl
   have AS2 := a_ (((((((AS.out.set BU.out (by decide) GU.out 0 (.int .i64 ru.f0)).set X0 (by decide) GU.out 1 (.int .i64 ru.f1)).set X1 (by decide) GU.out 2 (.int .i64 ru.f2)).set X2 (by decide) GU.out 3 (.int .i64 ru.f3)).set X3 (by decide) GU.out 4 (.int .i64 ru.f4)).set X4 (by decide) GU.out 5 (.int .i64 ru.f5)).set X5 (by decide) GU.out 6 (.int .i64 ru.f6))
   have BM2 := a_ (blk_far (blk_far (blk_far (blk_far (blk_far (blk_far (blk_far BM.out (p := ⟨gU, 0, none⟩) (bne_ BM.out BU.out (by decide)) (.int .i64 ru.f0)) (p := ⟨gU, 1, none⟩) (bne_ BM.out BU.out (by decide)) (.int .i64 ru.f1)) (p := ⟨gU, 2, none⟩) (bne_ BM.out BU.out (by decide)) (.int .i64 ru.f2)) (p := ⟨gU, 3, none⟩) (bne_ BM.out BU.out (by decide)) (.int .i64 ru.f3)) (p := ⟨gU, 4, none⟩) (bne_ BM.out BU.out (by decide)) (.int .i64 ru.f4)) (p := ⟨gU, 5, none⟩) (bne_ BM.out BU.out (by decide)) (.int .i64 ru.f5)) (p := ⟨gU, 6, none⟩) (bne_ BM.out BU.out (by decide)) (.int .i64 ru.f6))
   have BN2 := a_ (blk_far (blk_far (blk_far (blk_far (blk_far (blk_far (blk_far BN.out (p := ⟨gU, 0, none⟩) (bne_ BN.out BU.out (by decide)) (.int .i64 ru.f0)) (p := ⟨gU, 1, none⟩) (bne_ BN.out BU.out (by decide)) (.int .i64 ru.f1)) (p := ⟨gU, 2, none⟩) (bne_ BN.out BU.out (by decide)) (.int .i64 ru.f2)) (p := ⟨gU, 3, none⟩) (bne_ BN.out BU.out (by decide)) (.int .i64 ru.f3)) (p := ⟨gU, 4, none⟩) (bne_ BN.out BU.out (by decide)) (.int .i64 ru.f4)) (p := ⟨gU, 5, none⟩) (bne_ BN.out BU.out (by decide)) (.int .i64 ru.f5)) (p := ⟨gU, 6, none⟩) (bne_ BN.out BU.out (by decide)) (.int .i64 ru.f6))
   have BU2 := a_ X6
   clear AS BM BN BU X0 hu00 hv00 X1 hu01 hv01 X2 hu02 hv02 X3 hu03 hv03 X4 hu04 hv04 X5 hu05 hv05 X6 hu06 hv06
   have AS := AS2
   have BM := BM2
   have BN := BN2
   have BU := BU2
   clear AS2 BM2 BN2 BU2
   generalize (((((((W5.setCell ⟨gU, 0, none⟩ (.int .i64 ru.f0)).setCell ⟨gU, 1, none⟩ (.int .i64 ru.f1)).setCell ⟨gU, 2, none⟩ (.int .i64 ru.f2)).setCell ⟨gU, 3, none⟩ (.int .i64 ru.f3)).setCell ⟨gU, 4, none⟩ (.int .i64 ru.f4)).setCell ⟨gU, 5, none⟩ (.int .i64 ru.f5)).setCell ⟨gU, 6, none⟩ (.int .i64 ru.f6)) = WU at AS BM BN BU ⊢
   have hx0 : WU.cell? ⟨gU, 0, none⟩ = some (.int .i64 ru.f0) := (blk_cell BU.out 0).trans rfl
   have hx2 : WU.cell? ⟨gU, 2, none⟩ = some (.int .i64 ru.f2) := (blk_cell BU.out 2).trans rfl
   have hx3 : WU.cell? ⟨gU, 3, none⟩ = some (.int .i64 ru.f3) := (blk_cell BU.out 3).trans rfl
   have hx4 : WU.cell? ⟨gU, 4, none⟩ = some (.int .i64 ru.f4) := (blk_cell BU.out 4).trans rfl
   cases c with
   | false =>
    have HE := HE2'
    go_wp2_with (first | (go_at_call 35; (with_reducible refine (slices_Contains_int_int.calls k A1 c1 l1 ru.f0 false _ (Kd.C_below HR1.out AS.out.b) HC1.out HCN.out).mono ?_); rintro e w' ⟨rfl, ⟨nd, rfl⟩⟩; have AS2 := a_ (AS.out.step (pw_below_drewN (Below.refl _ _) nd)); have BM2 := a_ (blk_drewN BM.out nd); have BN2 := a_ (blk_drewN BN.out nd); have BU2 := a_ (blk_drewN BU.out nd); clear AS BM BN BU hx0 hx2 hx3 hx4; have AS := AS2; have BM := BM2; have BN := BN2; have BU := BU2; clear AS2 BM2 BN2 BU2; have hx2 : (WU.drewN nd).cell? ⟨gU, 2, none⟩ = some (.int .i64 ru.f2) := (blk_cell BU.out 2).trans rfl; have hx3 : (WU.drewN nd).cell? ⟨gU, 3, none⟩ = some (.int .i64 ru.f3) := (blk_cell BU.out 3).trans rfl; have hx4 : (WU.drewN nd).cell? ⟨gU, 4, none⟩ = some (.int .i64 ru.f4) := (blk_cell BU.out 4).trans rfl))
    rw [HW.out]
    go_roundw
    case measure => have h1 := HLT.out; have h2 := H0.out; simp only [intOf]; omega
    case rel => exact ⟨x24 + 1, v, acc, rfl, ⟨by have := H0.out; omega⟩, ⟨by have := HLT.out; omega⟩, ⟨by have h := HE.out; rw [if_neg (by simp)] at h; exact h⟩, AS, BM, BN⟩
   | true =>
    have he := HE2'.out
    rw [if_pos rfl] at he
    have hal : acc.length < 4398046511103 := by
     by_cases hh : acc.length < 4398046511103
     ·exact hh
     ·rw [if_neg hh] at he; cases he
    rw [if_pos hal] at he
    have HAL := a_ hal
    have HE := a_ he
    clear hal he HE2'
    go_wp2_with (first | (go_at_call 35; (with_reducible refine (slices_Contains_int_int.calls k A1 c1 l1 ru.f0 true _ (Kd.C_below HR1.out AS.out.b) HC1.out HCN.out).mono ?_); rintro e w' ⟨rfl, ⟨nd, rfl⟩⟩; have AS2 := a_ (AS.out.step (pw_below_drewN (Below.refl _ _) nd)); have BM2 := a_ (blk_drewN BM.out nd); have BN2 := a_ (blk_drewN BN.out nd); have BU2 := a_ (blk_drewN BU.out nd); clear AS BM BN BU hx0 hx2 hx3 hx4; have AS := AS2; have BM := BM2; have BN := BN2; have BU := BU2; clear AS2 BM2 BN2 BU2; have hx2 : (WU.drewN nd).cell? ⟨gU, 2, none⟩ = some (.int .i64 ru.f2) := (blk_cell BU.out 2).trans rfl; have hx3 : (WU.drewN nd).cell? ⟨gU, 3, none⟩ = some (.int .i64 ru.f3) := (blk_cell BU.out 3).trans rfl; have hx4 : (WU.drewN nd).cell? ⟨gU, 4, none⟩ = some (.int .i64 ru.f4) := (blk_cell BU.out 4).trans rfl) | (go_at_call 34; (with_reducible refine (egress_add.calls w _ gA v acc ru.f2 ru.f3 (wrap64 (wrap64 (5 - ru.f4) * 500)) AS.out HAL.out).mono ?_); rintro e W6 ⟨rfl, ⟨v6, has⟩, hk⟩; have BM2 := a_ (hk _ _ _ BM.out (by decide) (bne_ BM.out AS.out.A (by decide))); have BN2 := a_ (hk _ _ _ BN.out (by decide) (bne_ BN.out AS.out.A (by decide))); have AS2 := a_ has; clear AS BM BN has hk; have AS := AS2; have BM := BM2; have BN := BN2; clear AS2 BM2 BN2))
    rw [HW.out]
    go_roundw
    case measure => have h1 := HLT.out; have h2 := H0.out; simp only [intOf]; omega
    case rel => exact ⟨x24 + 1, v6, _, rfl, ⟨by have := H0.out; omega⟩, ⟨by have := HLT.out; omega⟩, HE, AS, BM, BN⟩
  ·have dl : decide (x24 < (l0_2.length : Int)) = false := decide_eq_false hlt
   have he := HE.out
   rw [show l0_2.drop x24.toNat = [] by apply List.drop_eq_nil_of_le; omega, edgesA] at he
   obtain rfl := Option.some.inj he
   clear he HE hlt
   have hm0 : wr.cell? ⟨gM, 0, none⟩ = some (.slice A0_0 l0_0.length c0_0) := (blk_cell BM.out 0).trans rfl
   have hm1 : wr.cell? ⟨gM, 1, none⟩ = some (.slice A0_1 l0_1.length c0_1) := (blk_cell BM.out 1).trans rfl
   have hm2 : wr.cell? ⟨gM, 2, none⟩ = some (.slice A0_2 l0_2.length c0_2) := (blk_cell BM.out 2).trans rfl
   have hm3 : wr.cell? ⟨gM, 3, none⟩ = some (.slice A0_3 l0_3.length c0_3) := (blk_cell BM.out 3).trans rfl
   go_wp2
   clear hm0 hm1 hm2 hm3 dl H0 H1
   go_loopw [46] (fun v46 w' => ∃ (x46 : Int) (v : Value) (acc : List S67), v46 = .int .i64 x46 ∧ Aside0 (0 ≤ x46) ∧ Aside0 (x46 ≤ l0_3.length) ∧ Aside0 (edgesB (l0_3.drop x46.toNat) acc = some e2) ∧ Aside0 (ASt w w' gA v acc) ∧ Aside0 (w'.heap[gM]? = some (.cells #[.slice A0_0 l0_0.length c0_0, .slice A0_1 l0_1.length c0_1, .slice A0_2 l0_2.length c0_2, .slice A0_3 l0_3.length c0_3] 38 (0, 0))) ∧ Aside0 (w'.heap[gN]? = some (.cells #[.int .i64 a2] 3 (0, 0)))) (fun v46 _ => l0_3.length - (intOf v46).toNat)
   case atStart => exact ⟨0, _, _, rfl, ⟨by omega⟩, ⟨by omega⟩, HE2, AS, BM, BN⟩
   case round =>
   clear AS BM BN HE2
   obtain ⟨x46, v, acc, rfl, H0, H1, HE, AS, BM, BN⟩ := hrel
   by_cases hlt : x46 < (l0_3.length : Int)
   ·have p1 := H0.out
    have he := HE.out
    rw [rdi_at l0_3 x46 p1 hlt, edgesB] at he
    have hal : acc.length < 4398046511103 := by
     by_cases hh : acc.length < 4398046511103
     ·exact hh
     ·rw [if_neg hh] at he; cases he
    rw [if_pos hal] at he
    have HAL := a_ hal
    obtain ⟨ad, e0, y0⟩ := Kd.at_int HR0_3.out x46 p1 hlt
    cases e0
    replace y0 := (AS.out.b.cell (World.block_lt_of_cell? w _ y0)).trans y0
    generalize rd l0_3 x46 = ba at y0 he
    have HE2' := a_ he
    clear he hal HE
    have HLT := a_ hlt
    have HW : Aside0 (wrap64 (x46 + 1) = x46 + 1) := ⟨by have h1 := HN3.out; unfold wrap64; omega⟩
    have dl : decide (x46 < (l0_3.length : Int)) = true := decide_eq_true hlt
    replace p1 := eq_true p1
    replace hlt := eq_true hlt
    go_wp2_with (first | (go_at_call 34; (with_reducible refine (egress_add.calls w _ gA v acc ba 0 1000000 AS.out HAL.out).mono ?_); rintro e W6 ⟨rfl, ⟨v6, has⟩, hk⟩; have BM2 := a_ (hk _ _ _ BM.out (by decide) (bne_ BM.out AS.out.A (by decide))); have BN2 := a_ (hk _ _ _ BN.out (by decide) (bne_ BN.out AS.out.A (by decide))); have AS2 := a_ has; clear AS BM BN has hk; have AS := AS2; have BM := BM2; have BN := BN2; clear AS2 BM2 BN2))
    rw [HW.out]
    go_roundw
    case measure => have h1 := HLT.out; have h2 := H0.out; simp only [intOf]; omega
    case rel => exact ⟨x46 + 1, v6, _, rfl, ⟨by have := H0.out; omega⟩, ⟨by have := HLT.out; omega⟩, HE2', AS, BM, BN⟩
   ·have dl : decide (x46 < (l0_3.length : Int)) = false := decide_eq_false hlt
    have he := HE.out
    rw [show l0_3.drop x46.toNat = [] by apply List.drop_eq_nil_of_le; omega, edgesB] at he
    obtain rfl := Option.some.inj he
    clear he HE hlt
    obtain ⟨Ae, ce, rfl⟩ := Kd.R_slice AS.out.r
    have hcA := AS.out.cA
    have hn0 : wr.cell? ⟨gN, 0, none⟩ = some (.int .i64 a2) := (blk_cell BN.out 0).trans rfl
    go_wp2_with (first | (go_at_call 36; (with_reducible refine (flow_Max.calls k Ae ce acc a2 0 r _ (Kd.R_reads' AS.out.r).2.2 (Kd.R_reads' AS.out.r).2.1 HMX0.out).mono ?_); rintro e W7 ⟨rfl, hb⟩; have HB7 := a_ (below_step AS.out.b hb); clear hb))
    go_ret
    exact ⟨rfl, HB7.out⟩

end



end Go.Proofs.Ytgfiidgigenibaa.Q
