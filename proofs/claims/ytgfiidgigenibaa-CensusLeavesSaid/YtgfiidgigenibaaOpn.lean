/- Plain laws and readings for the seat's proofs (this session's). -/
import Derived.RangeFuncNested
import Derived.Shelf.Abstract
import Derived.Deep.Slices
import Derived.ProofKit
import Derived.OpenShut
import Derived.ChangeOld
import Derived.Lib.SmallJoins
import Derived.WalkSpells
import Derived.Test.YtgfiidgigenibaaQ0
namespace Go.Proofs.Ytgfiidgigenibaa.Q
open Go.RowKit Go.Proofs.YtgfiidgigenibaaW.PrintWords Go.Proofs.YtgfiidgigenibaaW.PrintLast Go.Proofs.YtgfiidgigenibaaW.PrintMore
set_option linter.unusedVariables false
set_option linter.unusedSimpArgs false
/-! ### What came in, read as data, as the kinds tell it -/
section
variable {H : Type} {enc : TypeId × Value → H} {P : Program}
def Opn {α : Type} (P : Program) (d : Kd α) (t : TypeId) (wf : α → Prop) : Prop :=
  ∀ {H : Type} {enc : TypeId × Value → H} {w : World} {base : Nat} {spare : Nat → Bool} {held : Bool} {fuel : Nat} {cs : List Value} {x : DataW H × List MemPlace}, DataW.trod enc P w base spare held fuel t cs = some x → ∃ a, d.K w a cs ∧ wf a
theorem opn_int {k : IntKind} {t : TypeId} (ht : P.underlying t = some (.int k)) : Opn P (Kd.int k) t (fun n => (Lit.int k n).wf = true) := by
  intro H enc w base spare held fuel cs x h
  obtain ⟨n, rfl, _, hw⟩ := DataW.trod_int ht h
  exact ⟨n, rfl, hw⟩
theorem opn_slice {α : Type} {d : Kd α} {t e : TypeId} {wf : α → Prop} (z : α) (ht : P.underlying t = some (.slice e)) (hc : P.cellsOf e = d.sz) (he : Opn P d e wf) : Opn P (Kd.slice e d) t (fun xs => xs.length ≤ maxLen ∧ ∀ x ∈ xs, wf x) := by
  intro H enc w base spare held fuel cs x h
  rcases Go.Deep.open_slice ht h with ⟨rfl, _⟩ | ⟨a, len, cap, m, n, D, Pl, rfl, _, hl, hm, hmm, _, hx⟩
  · exact ⟨[], ⟨none, 0, rfl, by simp, Kd.C_nil _ _⟩, by simp, by simp⟩
  · have hlm : len ≤ m := by rw [hmm]; split <;> omega
    haveI : Inhabited α := ⟨z⟩
    obtain ⟨f, hf⟩ := Go.Deep.choose_lt (α := α) (p := fun i (v : α) => (∃ cs', w.cells? base (a.add (i * P.cellsOf e)) (P.cellsOf e) = some cs' ∧ d.K w v cs') ∧ wf v) (n := len) (fun i hi => by
      obtain ⟨cs', h1, h2⟩ := hx i (by omega)
      obtain ⟨v, hv, hwf⟩ := he h2
      exact ⟨v, ⟨cs', h1, hv⟩, hwf⟩)
    refine ⟨(List.range len).map f, ⟨some a, cap, by simp, by simpa using hl, ?_⟩, by simp; omega, by simp only [List.mem_map, List.mem_range]; rintro x ⟨i, hi, rfl⟩; exact (hf i hi).2⟩
    have hlen : ((List.range len).map f).length = len := by simp
    rw [hlen]
    refine ⟨hlen, by simp only [maxLen] at hm; omega, fun h0 => ⟨a, rfl, fun j p hj => ?_⟩⟩
    have hj' : j < len := by
      have := (List.getElem?_eq_some_iff.1 hj).1
      rwa [hlen] at this
    have hp : f j = p := by
      rw [List.getElem?_map, List.getElem?_range hj'] at hj
      simpa using hj
    subst hp
    obtain ⟨⟨cs', h1, hk⟩, _⟩ := hf j hj'
    have h3 := World.cells?_some h1
    refine ⟨cs', d.K_len hk, hk, fun i u hu => ?_⟩
    have hi : i < P.cellsOf e := by rw [← h3.2.1]; exact (List.getElem?_eq_some_iff.1 hu).1
    have := (h3.2.2 i hi).trans hu
    rw [Go.Deep.add_add, hc] at this
    exact this
def OpnSeg {α : Type} (P : Program) (d : Kd α) (fs : List Field) (off : Nat) (wf : α → Prop) : Prop :=
  ∀ {H : Type} {enc : TypeId × Value → H} {w : World} {base : Nat} {spare : Nat → Bool} {held : Bool} {n : Nat} {cs : List Value},
    (∀ (i : Nat) (f : Field), fs[i]? = some f → ∃ x, DataW.trod enc P w base spare held n f.type ((cs.drop f.offset).take (P.cellsOf f.type)) = some x) → ∃ a, d.K w a ((cs.drop off).take d.sz) ∧ wf a
theorem opn_one {α : Type} {d : Kd α} {f : Field} {off : Nat} {wf : α → Prop} (ho : f.offset = off) (hc : P.cellsOf f.type = d.sz) (h : Opn P d f.type wf) : OpnSeg P d [f] off wf := by
  intro H enc w base spare held n cs hx
  obtain ⟨x, hx⟩ := hx 0 f rfl
  rw [ho, hc] at hx
  exact h hx
theorem opn_cons {α β : Type} {d : Kd α} {d' : Kd β} {f : Field} {fs : List Field} {off : Nat} {wf : α → Prop} {wf' : β → Prop} (ho : f.offset = off) (hc : P.cellsOf f.type = d.sz) (h : Opn P d f.type wf) (h' : OpnSeg P d' fs (off + d.sz) wf') :
    OpnSeg P (Kd.pair d d') (f :: fs) off (fun p => wf p.1 ∧ wf' p.2) := by
  intro H enc w base spare held n cs hx
  obtain ⟨x, h0⟩ := hx 0 f rfl
  rw [ho, hc] at h0
  obtain ⟨a, ha, hwa⟩ := h h0
  obtain ⟨b, hb, hwb⟩ := h' (fun i f' hf' => hx (i + 1) f' (by simpa using hf'))
  refine ⟨(a, b), ⟨_, _, ?_, ha, hb⟩, hwa, hwb⟩
  show (cs.drop off).take (d.sz + d'.sz) = _
  rw [List.take_add, List.drop_drop]
theorem opn_struct {α β : Type} {d : Kd α} {t : TypeId} {fs : Array Field} {wf : α → Prop} (ht : P.underlying t = some (.struct fs)) (hc : P.cellsOf t = d.sz) (h : OpnSeg P d fs.toList 0 wf) (f : β → α) (g : α → β) (hg : ∀ a, f (g a) = a) :
    Opn P (Kd.iso d f) t (fun b => wf (f b)) := by
  intro H enc w base spare held fuel cs x hx
  obtain ⟨xs, n, _, _, hl, hxl, hf⟩ := DataW.trod_struct ht hx
  obtain ⟨a, ha, hwa⟩ := h (n := n) (cs := cs) (enc := enc) (w := w) (base := base) (spare := spare) (held := held) (fun i f hfi => by
    have hi : i < fs.size := by have := (List.getElem?_eq_some_iff.1 hfi).1; simpa using this
    have := hf i f (by simpa using hfi)
    rw [List.getElem?_eq_getElem (by omega)] at this
    exact ⟨_, this⟩)
  refine ⟨g a, ?_, by show wf (f (g a)); rw [hg]; exact hwa⟩
  show d.K w (f (g a)) cs
  rw [hg]
  rw [List.drop_zero, List.take_of_length_le (by rw [hl, hc]; exact Nat.le_refl _)] at ha
  exact ha
/-- A slice's value, opened. -/
theorem opn_val {α : Type} {d : Kd α} {t e : TypeId} {wf : List α → Prop} (h : Opn P (Kd.slice e d) t wf) {w : World} {base : Nat} {spare : Nat → Bool} {held : Bool} {fuel : Nat} {v : Value} {x : DataW H × List MemPlace} (hx : DataW.trod enc P w base spare held fuel t [v] = some x) :
    ∃ (A : Option Addr) (c : Nat) (xs : List α), v = .slice A xs.length c ∧ xs.length ≤ c ∧ d.C w A xs.length xs ∧ wf xs := by
  obtain ⟨xs, ⟨A, c, e, hl, hC⟩, hw⟩ := h hx
  exact ⟨A, c, xs, by simpa using e, hl, hC, hw⟩
end
def W64 (n : Int) : Prop := (Lit.int .i64 n).wf = true
theorem W64.lo {n : Int} (h : W64 n) : -9223372036854775808 ≤ n := (bounds_i64 h).1
theorem W64.hi {n : Int} (h : W64 n) : n ≤ 9223372036854775807 := (bounds_i64 h).2
theorem opn28 : Opn Try.prog k28 28 (fun x => W64 x.f0 ∧ W64 x.f1 ∧ W64 x.f2 ∧ W64 x.f3) :=
  opn_struct (fs := _) Try.underlying28 (by kernel_rfl) (opn_cons rfl (by kernel_rfl) (opn_int Try.underlying3) (opn_cons rfl (by kernel_rfl) (opn_int Try.underlying3) (opn_cons rfl (by kernel_rfl) (opn_int Try.underlying3) (opn_one rfl (by kernel_rfl) (opn_int Try.underlying3))))) (fun x : S28 => (x.f0, x.f1, x.f2, x.f3)) (fun p => ⟨p.1, p.2.1, p.2.2.1, p.2.2.2⟩) (fun _ => rfl)
def WCross (l : List S28) : Prop := l.length ≤ maxLen ∧ ∀ x ∈ l, W64 x.f0 ∧ W64 x.f1 ∧ W64 x.f2 ∧ W64 x.f3
theorem opnCross : Opn Try.prog (Kd.slice 28 k28) 22 WCross := opn_slice z28 Try.underlying22 (by kernel_rfl) opn28
section
variable {H : Type} {enc : TypeId × Value → H} {P : Program} {w : World} {base : Nat} {spare : Nat → Bool} {held : Bool} {t : TypeId} {v : Value} {d : DataW H} {p : List MemPlace}
theorem open_arr2 {r : Reach} {b0 : Nat} (ht : P.underlying t = some (.array 2 3)) (h3 : P.underlying 3 = some (.int .i64)) (hC : P.cellsOf t = 2) (hc : P.cellsOf 3 = 1) (hv : Value.okWide P w r b0 t v) (h : DataW.Trod enc P w base spare held t v d p) :
    ∃ a b : Int, v = .agg #[.int .i64 a, .int .i64 b] ∧ W64 a ∧ W64 b := by
  unfold Value.okWide at hv
  rw [ht] at hv
  obtain ⟨cs, rfl, hsz, _⟩ := hv
  obtain ⟨c0, c1, rfl⟩ := Go.Joins.array2 (hsz.trans hC)
  obtain ⟨fuel, hf⟩ := h
  obtain ⟨xs, m, rfl, hx, _, hn, hel⟩ := DataW.trod_array ht hf
  obtain ⟨x0, e0⟩ : ∃ x, xs[0]? = some x := ⟨_, List.getElem?_eq_getElem (by omega)⟩
  obtain ⟨x1, e1⟩ : ∃ x, xs[1]? = some x := ⟨_, List.getElem?_eq_getElem (by omega)⟩
  have h0 := hel 0 (by omega)
  have h1 := hel 1 (by omega)
  rw [hc, e0] at h0
  rw [hc, e1] at h1
  obtain ⟨a, ka, wa⟩ := (opn_int h3) h0
  obtain ⟨b, kb, wb⟩ := (opn_int h3) h1
  obtain rfl : c0 = .int .i64 a := by simpa [Value.cells] using (show _ = [Value.int .i64 a] from ka)
  obtain rfl : c1 = .int .i64 b := by simpa [Value.cells] using (show _ = [Value.int .i64 b] from kb)
  exact ⟨a, b, rfl, wa, wb⟩
theorem open_arr3 {r : Reach} {b0 : Nat} (ht : P.underlying t = some (.array 3 3)) (h3 : P.underlying 3 = some (.int .i64)) (hC : P.cellsOf t = 3) (hc : P.cellsOf 3 = 1) (hv : Value.okWide P w r b0 t v) (h : DataW.Trod enc P w base spare held t v d p) :
    ∃ a b c : Int, v = .agg #[.int .i64 a, .int .i64 b, .int .i64 c] ∧ W64 a ∧ W64 b ∧ W64 c := by
  unfold Value.okWide at hv
  rw [ht] at hv
  obtain ⟨cs, rfl, hsz, _⟩ := hv
  obtain ⟨c0, c1, c2, rfl⟩ := Go.Joins.array3 (hsz.trans hC)
  obtain ⟨fuel, hf⟩ := h
  obtain ⟨xs, m, rfl, hx, _, hn, hel⟩ := DataW.trod_array ht hf
  obtain ⟨x0, e0⟩ : ∃ x, xs[0]? = some x := ⟨_, List.getElem?_eq_getElem (by omega)⟩
  obtain ⟨x1, e1⟩ : ∃ x, xs[1]? = some x := ⟨_, List.getElem?_eq_getElem (by omega)⟩
  obtain ⟨x2, e2⟩ : ∃ x, xs[2]? = some x := ⟨_, List.getElem?_eq_getElem (by omega)⟩
  have h0 := hel 0 (by omega)
  have h1 := hel 1 (by omega)
  have h2 := hel 2 (by omega)
  rw [hc, e0] at h0
  rw [hc, e1] at h1
  rw [hc, e2] at h2
  obtain ⟨a, ka, wa⟩ := (opn_int h3) h0
  obtain ⟨b, kb, wb⟩ := (opn_int h3) h1
  obtain ⟨c, kc, wc⟩ := (opn_int h3) h2
  obtain rfl : c0 = .int .i64 a := by simpa [Value.cells] using (show _ = [Value.int .i64 a] from ka)
  obtain rfl : c1 = .int .i64 b := by simpa [Value.cells] using (show _ = [Value.int .i64 b] from kb)
  obtain rfl : c2 = .int .i64 c := by simpa [Value.cells] using (show _ = [Value.int .i64 c] from kc)
  exact ⟨a, b, c, rfl, wa, wb, wc⟩
end
end Go.Proofs.Ytgfiidgigenibaa.Q
