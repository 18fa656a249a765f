/- Walks and plain laws that this claim bears (this session's). -/
import Derived.RangeFuncNested
import Derived.Shelf.Abstract
import Derived.Deep.Slices
import Derived.ProofKit
import Derived.OpenShut
import Derived.ChangeOld
import Derived.Lib.SmallJoins
import Derived.WalkSpells
import Derived.Test.YtmhggplhfcmgkaaM9
import Derived.Test.YtmhggplhfcmgkaaM12
namespace Go.Proofs.Ytmhggplhfcmgkaa.Q
open Go.RowKit Go.Proofs.YtmhggplhfcmgkaaW.PrintWords Go.Proofs.YtmhggplhfcmgkaaW.PrintLast Go.Proofs.YtmhggplhfcmgkaaW.PrintMore
set_option linter.unusedVariables false
set_option linter.unusedSimpArgs false
section
variable {H : Type} {enc : TypeId × Value → H} {P : Program}
def Opn {α : Type} (P : Program) (d : Kd α) (t : TypeId) (wf : α → Prop) : Prop :=
  ∀ {H : Type} {enc : TypeId × Value → H} {w : World} {base : Nat} {spare : Nat → Bool} {held : Bool} {fuel : Nat} {cs : List Value} {x : DataW H × List MemPlace}, DataW.trod enc P w base spare held fuel t cs = some x → ∃ a, d.K w a cs ∧ wf a
theorem opn_int {k : IntKind} {t : TypeId} (ht : P.underlying t = some (.int k)) : Opn P (Kd.int k) t (fun n => (Lit.int k n).wf = true) := by
  intro H enc w base spare held fuel cs x h
  obtain ⟨n, rfl, _, hw⟩ := DataW.trod_int ht h
  exact ⟨n, rfl, hw⟩
theorem opn_slice {α : Type} {d : Kd α} {t e : TypeId} {wf : α → Prop} (z : α) (ht : P.underlying t = some (.slice e)) (hc : P.cellsOf e = d.sz) (he : Opn P d e wf) : Opn P (Kd.slice e d) t (fun xs => xs.length ≤ maxLen ∧ ∀ x ∈ xs, wf x) := by
  intro H enc w base spare held fuel cs x h
  rcases Go.Deep.open_slice ht h with ⟨rfl, _⟩ | ⟨a, len, cap, m, n, D, Pl, rfl, _, hl, hm, hmm, _, hx⟩
  · exact ⟨[], ⟨none, 0, rfl, by simp, Kd.C_nil _ _⟩, by simp, by simp⟩
  · have hlm : len ≤ m := by rw [hmm]; split <;> omega
    haveI : Inhabited α := ⟨z⟩
    obtain ⟨f, hf⟩ := Go.Deep.choose_lt (α := α) (p := fun i (v : α) => (∃ cs', w.cells? base (a.add (i * P.cellsOf e)) (P.cellsOf e) = some cs' ∧ d.K w v cs') ∧ wf v) (n := len) (fun i hi => by
      obtain ⟨cs', h1, h2⟩ := hx i (by omega)
      obtain ⟨v, hv, hwf⟩ := he h2
      exact ⟨v, ⟨cs', h1, hv⟩, hwf⟩)
    refine ⟨(List.range len).map f, ⟨some a, cap, by simp, by simpa using hl, ?_⟩, by simp; omega, by simp only [List.mem_map, List.mem_range]; rintro x ⟨i, hi, rfl⟩; exact (hf i hi).2⟩
    have hlen : ((List.range len).map f).length = len := by simp
    rw [hlen]
    refine ⟨hlen, by simp only [maxLen] at hm; omega, fun h0 => ⟨a, rfl, fun j p hj => ?_⟩⟩
    have hj' : j < len := by
      have := (List.getElem?_eq_some_iff.1 hj).1
      rwa [hlen] at this
    have hp : f j = p := by
      rw [List.getElem?_map, List.getElem?_range hj'] at hj
      simpa using hj
    subst hp
    obtain ⟨⟨cs', h1, hk⟩, _⟩ := hf j hj'
    have h3 := World.cells?_some h1
    refine ⟨cs', d.K_len hk, hk, fun i u hu => ?_⟩
    have hi : i < P.cellsOf e := by rw [← h3.2.1]; exact (List.getElem?_eq_some_iff.1 hu).1
    have := (h3.2.2 i hi).trans hu
    rw [Go.Deep.add_add, hc] at this
    exact this
def OpnSeg {α : Type} (P : Program) (d : Kd α) (fs : List Field) (off : Nat) (wf : α → Prop) : Prop :=
  ∀ {H : Type} {enc : TypeId × Value → H} {w : World} {base : Nat} {spare : Nat → Bool} {held : Bool} {n : Nat} {cs : List Value},
    (∀ (i : Nat) (f : Field), fs[i]? = some f → ∃ x, DataW.trod enc P w base spare held n f.type ((cs.drop f.offset).take (P.cellsOf f.type)) = some x) → ∃ a, d.K w a ((cs.drop off).take d.sz) ∧ wf a
theorem opn_one {α : Type} {d : Kd α} {f : Field} {off : Nat} {wf : α → Prop} (ho : f.offset = off) (hc : P.cellsOf f.type = d.sz) (h : Opn P d f.type wf) : OpnSeg P d [f] off wf := by
  intro H enc w base spare held n cs hx
  obtain ⟨x, hx⟩ := hx 0 f rfl
  rw [ho, hc] at hx
  exact h hx
theorem opn_cons {α β : Type} {d : Kd α} {d' : Kd β} {f : Field} {fs : List Field} {off : Nat} {wf : α → Prop} {wf' : β → Prop} (ho : f.offset = off) (hc : P.cellsOf f.type = d.sz) (h : Opn P d f.type wf) (h' : OpnSeg P d' fs (off + d.sz) wf') :
    OpnSeg P (Kd.pair d d') (f :: fs) off (fun p => wf p.1 ∧ wf' p.2) := by
  intro H enc w base spare held n cs hx
  obtain ⟨x, h0⟩ := hx 0 f rfl
  rw [ho, hc] at h0
  obtain ⟨a, ha, hwa⟩ := h h0
  obtain ⟨b, hb, hwb⟩ := h' (fun i f' hf' => hx (i + 1) f' (by simpa using hf'))
  refine ⟨(a, b), ⟨_, _, ?_, ha, hb⟩, hwa, hwb⟩
  show (cs.drop off).take (d.sz + d'.sz) = _
  rw [List.take_add, List.drop_drop]
theorem opn_struct {α β : Type} {d : Kd α} {t : TypeId} {fs : Array Field} {wf : α → Prop} (ht : P.underlying t = some (.struct fs)) (hc : P.cellsOf t = d.sz) (h : OpnSeg P d fs.toList 0 wf) (f : β → α) (g : α → β) (hg : ∀ a, f (g a) = a) :
    Opn P (Kd.iso d f) t (fun b => wf (f b)) := by
  intro H enc w base spare held fuel cs x hx
  obtain ⟨xs, n, _, _, hl, hxl, hf⟩ := DataW.trod_struct ht hx
  obtain ⟨a, ha, hwa⟩ := h (n := n) (cs := cs) (enc := enc) (w := w) (base := base) (spare := spare) (held := held) (fun i f hfi => by
    have hi : i < fs.size := by have := (List.getElem?_eq_some_iff.1 hfi).1; simpa using this
    have := hf i f (by simpa using hfi)
    rw [List.getElem?_eq_getElem (by omega)] at this
    exact ⟨_, this⟩)
  refine ⟨g a, ?_, by show wf (f (g a)); rw [hg]; exact hwa⟩
  show d.K w (f (g a)) cs
  rw [hg]
  rw [List.drop_zero, List.take_of_length_le (by rw [hl, hc]; exact Nat.le_refl _)] at ha
  exact ha
/-- A slice's value, opened. -/
theorem opn_val {α : Type} {d : Kd α} {t e : TypeId} {wf : List α → Prop} (h : Opn P (Kd.slice e d) t wf) {w : World} {base : Nat} {spare : Nat → Bool} {held : Bool} {fuel : Nat} {v : Value} {x : DataW H × List MemPlace} (hx : DataW.trod enc P w base spare held fuel t [v] = some x) :
    ∃ (A : Option Addr) (c : Nat) (xs : List α), v = .slice A xs.length c ∧ xs.length ≤ c ∧ d.C w A xs.length xs ∧ wf xs := by
  obtain ⟨xs, ⟨A, c, e, hl, hC⟩, hw⟩ := h hx
  exact ⟨A, c, xs, by simpa using e, hl, hC, hw⟩
end
def W64 (n : Int) : Prop := (Lit.int .i64 n).wf = true
theorem W64.lo {n : Int} (h : W64 n) : -9223372036854775808 ≤ n := (bounds_i64 h).1
theorem W64.hi {n : Int} (h : W64 n) : n ≤ 9223372036854775807 := (bounds_i64 h).2
theorem opn35 : Opn Try.prog k35 35 (fun x => W64 x.f0 ∧ W64 x.f1 ∧ W64 x.f2) :=
  opn_struct (fs := _) Try.underlying35 (by kernel_rfl) (opn_cons rfl (by kernel_rfl) (opn_int Try.underlying3) (opn_cons rfl (by kernel_rfl) (opn_int Try.underlying3) (opn_one rfl (by kernel_rfl) (opn_int Try.underlying3)))) (fun x : S35 => (x.f0, x.f1, x.f2)) (fun p => ⟨p.1, p.2.1, p.2.2⟩) (fun _ => rfl)

theorem opn56 : Opn Try.prog k56 56 (fun x => W64 x.f0 ∧ W64 x.f1 ∧ W64 x.f2) :=
  opn_struct (fs := _) Try.underlying56 (by kernel_rfl) (opn_cons rfl (by kernel_rfl) (opn_int Try.underlying3) (opn_cons rfl (by kernel_rfl) (opn_int Try.underlying3) (opn_one rfl (by kernel_rfl) (opn_int Try.underlying3)))) (fun x : S56 => (x.f0, x.f1, x.f2)) (fun p => ⟨p.1, p.2.1, p.2.2⟩) (fun _ => rfl)
def WInts (l : List Int) : Prop := l.length ≤ maxLen ∧ ∀ x ∈ l, W64 x
def WSigns (l : List S35) : Prop := l.length ≤ maxLen ∧ ∀ x ∈ l, W64 x.f0 ∧ W64 x.f1 ∧ W64 x.f2
theorem opnInts : Opn Try.prog (Kd.slice 3 (Kd.int .i64)) 22 WInts := opn_slice 0 Try.underlying22 (by kernel_rfl) (opn_int Try.underlying3)
theorem opnSigns : Opn Try.prog (Kd.slice 35 k35) 23 WSigns := opn_slice z35 Try.underlying23 (by kernel_rfl) opn35
theorem opn25 : Opn Try.prog k25 25 (fun x => WInts x.f0 ∧ W64 x.f1 ∧ WSigns x.f2) :=
  opn_struct (fs := _) Try.underlying25 (by kernel_rfl) (opn_cons rfl (by kernel_rfl) opnInts (opn_cons rfl (by kernel_rfl) (opn_int Try.underlying3) (opn_one rfl (by kernel_rfl) opnSigns))) (fun x : S25 => (x.f0, x.f1, x.f2)) (fun p => ⟨p.1, p.2.1, p.2.2⟩) (fun _ => rfl)
theorem opn63 : Opn Try.prog k63 63 (fun x => W64 x.f0 ∧ WInts x.f1.f0 ∧ W64 x.f1.f1 ∧ WSigns x.f1.f2) :=
  opn_struct (fs := _) Try.underlying63 (by kernel_rfl) (opn_cons rfl (by kernel_rfl) (opn_int Try.underlying3) (opn_one rfl (by kernel_rfl) opn25)) (fun x : S63 => (x.f0, x.f1)) (fun p => ⟨p.1, p.2⟩) (fun _ => rfl)
theorem Ev.pos {α : Type} {c : Prop} [Decidable c] {f g : Nat → Option α} {r : α} (h : c) (hf : Ev f r) : Ev (fun k => if c then f k else g k) r := Ev.congr (fun k => if_pos h) hf
theorem Ev.neg {α : Type} {c : Prop} [Decidable c] {f g : Nat → Option α} {r : α} (h : ¬ c) (hf : Ev g r) : Ev (fun k => if c then f k else g k) r := Ev.congr (fun k => if_neg h) hf
theorem wrap_inc {i : Int} {n : Nat} (h0 : 0 ≤ i) (h : i < (n : Int)) (hn : n ≤ 9223372036854775807) : wrap64 (i + 1) = i + 1 := by unfold wrap64; omega
theorem rd_at (l : List Int) (i : Int) (h0 : 0 ≤ i) (h1 : i < l.length) : l.drop i.toNat = rd l i :: l.drop (i + 1).toNat := rd_cons_drop l i h0 h1
theorem rd35_at (l : List S35) (i : Int) (h0 : 0 ≤ i) (h1 : i < l.length) : l.drop i.toNat = rd_T35 l i :: l.drop (i + 1).toNat := by
  rw [List.drop_eq_getElem_cons (by omega), show (i + 1).toNat = i.toNat + 1 by omega]
  simp [rd_T35, List.getD_eq_getElem?_getD, List.getElem?_eq_getElem (show i.toNat < l.length by omega)]
theorem take_at (l : List Int) (i : Int) (h0 : 0 ≤ i) (h1 : i < l.length) : l.take (i + 1).toNat = l.take i.toNat ++ [rd l i] := by
  rw [show (i + 1).toNat = i.toNat + 1 by omega, List.take_succ_eq_append_getElem (by omega)]
  simp [rd, List.getD_eq_getElem?_getD, List.getElem?_eq_getElem (show i.toNat < l.length by omega)]

theorem index_ev (l : List Int) (n : Int) (hl : l.length ≤ 9223372036854775807) (d : Nat) : ∀ i : Int, 0 ≤ i → i + d = l.length →
    ∃ r : Int, Ev (fun k => slices_Index_int_int.l0 k l n (l.length : Int) i) r ∧ (0 ≤ r ↔ n ∈ l.drop i.toNat) := by
  induction d with
  | zero =>
    intro i h0 hd
    refine ⟨-1, Ev.step (f := fun _ => some (-1)) (fun k => ?_) (Ev.now _), ?_⟩
    · rw [slices_Index_int_int.l0, if_neg (by omega)]
    · rw [List.drop_eq_nil_of_le (by omega)]; simp
  | succ d ih =>
    intro i h0 hd
    have h1 : i < (l.length : Int) := by omega
    rw [rd_at l i h0 h1]
    by_cases c : n = rd l i
    · refine ⟨i, Ev.step (f := fun _ => some i) (fun k => ?_) (Ev.now _), ?_⟩
      · rw [slices_Index_int_int.l0, if_pos h1, if_pos h0, if_pos h1, if_pos c]
      · simp [c, h0]
    · obtain ⟨r, hr, hi⟩ := ih (i + 1) (by omega) (by omega)
      refine ⟨r, Ev.step (f := fun k => slices_Index_int_int.l0 k l n (l.length : Int) (i + 1)) (fun k => ?_) hr, ?_⟩
      · rw [slices_Index_int_int.l0, if_pos h1, if_pos h0, if_pos h1, if_neg c, wrap_inc h0 h1 hl]
      · rw [hi]; simp [c]
theorem contains_ev (l : List Int) (n : Int) (hl : l.length ≤ 9223372036854775807) : Ev (fun k => slices_Contains_int_int.f k l n) (decide (n ∈ l)) := by
  obtain ⟨r, hr, hi⟩ := index_ev l n hl l.length 0 (by omega) (by omega)
  refine Ev.bind (f := fun _ t => some (decide (t ≥ 0))) (a := r) hr ?_
  have : decide (r ≥ 0) = decide (n ∈ l) := by rw [decide_eq_decide]; simpa using hi
  rw [this]; exact Ev.now _
def itemsE : List Int → List Int → Int
  | _, [] => 0
  | pre, n :: rest => if n < 1 ∨ n > 9999 then 2 else if n ∈ pre then 7 else itemsE (pre ++ [n]) rest
def signsE (items : List Int) : Int → List S35 → Int
  | _, [] => 0
  | latest, s :: rest => if s.f0 ∉ items then 8 else if s.f1 < 1 ∨ s.f1 > 9999 then 17 else if s.f2 < 0 ∨ s.f2 > 20000000 then 2 else if s.f2 < latest then 11 else signsE items s.f2 rest
def rightS (items : List Int) (every : Int) (signs : List S35) : Int :=
  if items.length > 64 ∨ signs.length > 200 then 4 else if every < 1 ∨ every > 604800 then 2 else if itemsE [] items ≠ 0 then itemsE [] items else signsE items 0 signs
theorem items_ev (l : List Int) (hl : l.length ≤ 9223372036854775807) (d : Nat) : ∀ i : Int, 0 ≤ i → i + d = l.length →
    Ev (fun k => inspect_items.l0 k l l (l.length : Int) i) (itemsE (l.take i.toNat) (l.drop i.toNat)) := by
  induction d with
  | zero =>
    intro i h0 hd
    refine Ev.step (f := fun _ => some 0) (fun k => ?_) ?_
    · rw [inspect_items.l0, if_neg (by omega)]
    · rw [List.drop_eq_nil_of_le (by omega)]; exact Ev.now _
  | succ d ih =>
    intro i h0 hd
    have h1 : i < (l.length : Int) := by omega
    rw [rd_at l i h0 h1, itemsE]
    by_cases c : rd l i < 1 ∨ rd l i > 9999
    · rw [if_pos c]
      refine Ev.step (f := fun k => inspect_items.j1 k l i (rd l i) l (l.length : Int) i true) (fun k => ?_) ?_
      · rw [inspect_items.l0, if_pos h1, if_pos h0, if_pos h1]
        by_cases c1 : rd l i < 1
        · rw [if_pos c1]
        · rw [if_neg c1, decide_eq_true (by omega)]
      · exact Ev.step (f := fun _ => some 2) (fun k => by rw [inspect_items.j1, if_pos rfl]) (Ev.now _)
    · rw [if_neg c]
      refine Ev.step (f := fun k => inspect_items.j1 k l i (rd l i) l (l.length : Int) i false) (fun k => ?_) ?_
      · rw [inspect_items.l0, if_pos h1, if_pos h0, if_pos h1, if_neg (by omega), decide_eq_false (by omega)]
      · refine Ev.step (f := fun k => (slices_Contains_int_int.f k (l.take i.toNat) (rd l i)).bind fun t105 => (if t105 = true then (some 7) else (inspect_items.l0 k l l (l.length : Int) (wrap64 (i + 1))))) (fun k => ?_) ?_
        · rw [inspect_items.j1, if_neg (by simp), if_pos h0, if_pos (by omega)]
        · refine Ev.bind (f := fun k t105 => (if t105 = true then (some 7) else (inspect_items.l0 k l l (l.length : Int) (wrap64 (i + 1))))) (contains_ev (l.take i.toNat) (rd l i) (by rw [List.length_take]; omega)) ?_
          by_cases m : rd l i ∈ l.take i.toNat
          · rw [if_pos m]
            exact Ev.pos (by simpa using m) (Ev.now _)
          · rw [if_neg m]
            refine Ev.neg (by simpa using m) ?_
            rw [wrap_inc h0 h1 hl, ← take_at l i h0 h1]
            exact ih (i + 1) (by omega) (by omega)
theorem signs_ev (items : List Int) (every : Int) (l : List S35) (hi : items.length ≤ 9223372036854775807) (hl : l.length ≤ 9223372036854775807) (d : Nat) : ∀ (i : Int) (latest : Int), 0 ≤ i → i + d = l.length →
    Ev (fun k => inspect_Right.l0 k latest l (l.length : Int) i items every l) (signsE items latest (l.drop i.toNat)) := by
  induction d with
  | zero =>
    intro i latest h0 hd
    refine Ev.step (f := fun _ => some 0) (fun k => ?_) ?_
    · rw [inspect_Right.l0, if_neg (by omega)]
    · rw [List.drop_eq_nil_of_le (by omega)]; exact Ev.now _
  | succ d ih =>
    intro i latest h0 hd
    have h1 : i < (l.length : Int) := by omega
    rw [rd35_at l i h0 h1, signsE]
    refine Ev.step (f := fun k => (slices_Contains_int_int.f k items ((rd_T35 l i).f0)).bind fun t110 => (if t110 = true then (if ((rd_T35 l i).f1) < 1 then (inspect_Right.j3 k latest l (l.length : Int) i true items every l ((rd_T35 l i).f0) ((rd_T35 l i).f1) ((rd_T35 l i).f2)) else (inspect_Right.j3 k latest l (l.length : Int) i (decide (((rd_T35 l i).f1) > 9999)) items every l ((rd_T35 l i).f0) ((rd_T35 l i).f1) ((rd_T35 l i).f2))) else (some 8))) (fun k => by rw [inspect_Right.l0, if_pos h1, if_pos h0, if_pos h1]) ?_
    refine Ev.bind (f := fun k t110 => (if t110 = true then (if ((rd_T35 l i).f1) < 1 then (inspect_Right.j3 k latest l (l.length : Int) i true items every l ((rd_T35 l i).f0) ((rd_T35 l i).f1) ((rd_T35 l i).f2)) else (inspect_Right.j3 k latest l (l.length : Int) i (decide (((rd_T35 l i).f1) > 9999)) items every l ((rd_T35 l i).f0) ((rd_T35 l i).f1) ((rd_T35 l i).f2))) else (some 8))) (contains_ev items _ hi) ?_
    by_cases m : (rd_T35 l i).f0 ∈ items
    · rw [if_neg (by simpa using m)]
      refine Ev.pos (by simpa using m) ?_
      by_cases c : (rd_T35 l i).f1 < 1 ∨ (rd_T35 l i).f1 > 9999
      · rw [if_pos c]
        refine Ev.congr (f := fun k => inspect_Right.j3 k latest l (l.length : Int) i true items every l ((rd_T35 l i).f0) ((rd_T35 l i).f1) ((rd_T35 l i).f2)) (fun k => ?_) ?_
        · by_cases c1 : (rd_T35 l i).f1 < 1
          · rw [if_pos c1]
          · rw [if_neg c1, decide_eq_true (by omega)]
        · exact Ev.step (f := fun _ => some 17) (fun k => by rw [inspect_Right.j3, if_pos rfl]) (Ev.now _)
      · rw [if_neg c]
        refine Ev.congr (f := fun k => inspect_Right.j3 k latest l (l.length : Int) i false items every l ((rd_T35 l i).f0) ((rd_T35 l i).f1) ((rd_T35 l i).f2)) (fun k => by rw [if_neg (by omega), decide_eq_false (by omega)]) ?_
        by_cases c2 : (rd_T35 l i).f2 < 0 ∨ (rd_T35 l i).f2 > 20000000
        · rw [if_pos c2]
          refine Ev.step (f := fun k => inspect_Right.j4 k latest l (l.length : Int) i true items every l ((rd_T35 l i).f0) ((rd_T35 l i).f1) ((rd_T35 l i).f2)) (fun k => ?_) ?_
          · rw [inspect_Right.j3, if_neg (by simp)]
            by_cases c1 : (rd_T35 l i).f2 < 0
            · rw [if_pos c1]
            · rw [if_neg c1, decide_eq_true (by omega)]
          · exact Ev.step (f := fun _ => some 2) (fun k => by rw [inspect_Right.j4, if_pos rfl]) (Ev.now _)
        · rw [if_neg c2]
          refine Ev.step (f := fun k => inspect_Right.j4 k latest l (l.length : Int) i false items every l ((rd_T35 l i).f0) ((rd_T35 l i).f1) ((rd_T35 l i).f2)) (fun k => by rw [inspect_Right.j3, if_neg (by simp), if_neg (by omega), decide_eq_false (by omega)]) ?_
          by_cases c3 : (rd_T35 l i).f2 < latest
          · rw [if_pos c3]
            exact Ev.step (f := fun _ => some 11) (fun k => by rw [inspect_Right.j4, if_neg (by simp), if_pos c3]) (Ev.now _)
          · rw [if_neg c3]
            exact Ev.step (fun k => by rw [inspect_Right.j4, if_neg (by simp), if_neg c3, wrap_inc h0 h1 hl]) (ih (i + 1) (rd_T35 l i).f2 (by omega) (by omega))
    · rw [if_pos (by simpa using m)]
      exact Ev.neg (by simpa using m) (Ev.now _)
theorem right_ev (items : List Int) (every : Int) (signs : List S35) (hi : items.length ≤ 9223372036854775807) (hl : signs.length ≤ 9223372036854775807) :
    Ev (fun k => inspect_Right.f k items every signs) (rightS items every signs) := by
  unfold rightS
  by_cases c : items.length > 64 ∨ signs.length > 200
  · rw [if_pos c]
    refine Ev.congr (f := fun k => inspect_Right.j0 k true items every signs) (fun k => ?_) ?_
    · unfold inspect_Right.f
      by_cases c1 : (items.length : Int) > 64
      · rw [if_pos c1]
      · rw [if_neg c1, decide_eq_true (by omega)]
    · exact Ev.step (f := fun _ => some 4) (fun k => by rw [inspect_Right.j0, if_pos rfl]) (Ev.now _)
  · rw [if_neg c]
    refine Ev.congr (f := fun k => inspect_Right.j0 k false items every signs) (fun k => by unfold inspect_Right.f; rw [if_neg (by omega), decide_eq_false (by omega)]) ?_
    by_cases c1 : every < 1 ∨ every > 604800
    · rw [if_pos c1]
      refine Ev.step (f := fun k => inspect_Right.j1 k true items every signs) (fun k => ?_) ?_
      · rw [inspect_Right.j0, if_neg (by simp)]
        by_cases c2 : every < 1
        · rw [if_pos c2]
        · rw [if_neg c2, decide_eq_true (by omega)]
      · exact Ev.step (f := fun _ => some 2) (fun k => by rw [inspect_Right.j1, if_pos rfl]) (Ev.now _)
    · rw [if_neg c1]
      refine Ev.step (f := fun k => inspect_Right.j1 k false items every signs) (fun k => by rw [inspect_Right.j0, if_neg (by simp), if_neg (by omega), decide_eq_false (by omega)]) ?_
      refine Ev.step (f := fun k => (inspect_items.f k items).bind fun t107 => (if t107 = 0 then (inspect_Right.l0 k 0 signs (signs.length : Int) 0 items every signs) else (some t107))) (fun k => by rw [inspect_Right.j1, if_neg (by simp)]) ?_
      have h := items_ev items hi items.length 0 (by omega) (by omega)
      refine Ev.bind (f := fun k t107 => (if t107 = 0 then (inspect_Right.l0 k 0 signs (signs.length : Int) 0 items every signs) else (some t107))) (a := itemsE [] items) h ?_
      by_cases e : itemsE [] items = 0
      · rw [if_neg (by simpa using e)]
        exact Ev.pos e (signs_ev items every signs hi hl signs.length 0 0 (by omega) (by omega))
      · rw [if_pos e]
        exact Ev.neg e (Ev.now _)
theorem rd63_at (l : List S63) (i : Int) (h0 : 0 ≤ i) (h1 : i < l.length) : l.drop i.toNat = rd_T63 l i :: l.drop (i + 1).toNat := by
  rw [List.drop_eq_getElem_cons (by omega), show (i + 1).toNat = i.toNat + 1 by omega]
  simp [rd_T63, List.getD_eq_getElem?_getD, List.getElem?_eq_getElem (show i.toNat < l.length by omega)]
theorem rd56_at (l : List S56) (i : Int) (h0 : 0 ≤ i) (h1 : i < l.length) : l.drop i.toNat = rd_T56 l i :: l.drop (i + 1).toNat := by
  rw [List.drop_eq_getElem_cons (by omega), show (i + 1).toNat = i.toNat + 1 by omega]
  simp [rd_T56, List.getD_eq_getElem?_getD, List.getElem?_eq_getElem (show i.toNat < l.length by omega)]
theorem take56_at (l : List S56) (i : Int) (h0 : 0 ≤ i) (h1 : i < l.length) : l.take (i + 1).toNat = l.take i.toNat ++ [rd_T56 l i] := by
  rw [show (i + 1).toNat = i.toNat + 1 by omega, List.take_succ_eq_append_getElem (by omega)]
  simp [rd_T56, List.getD_eq_getElem?_getD, List.getElem?_eq_getElem (show i.toNat < l.length by omega)]
theorem rd63_mem (l : List S63) (i : Int) (h0 : 0 ≤ i) (h1 : i < l.length) : rd_T63 l i ∈ l := List.mem_of_mem_drop (by rw [rd63_at l i h0 h1]; exact List.mem_cons_self ..)
theorem rd56_mem (l : List S56) (i : Int) (h0 : 0 ≤ i) (h1 : i < l.length) : rd_T56 l i ∈ l := List.mem_of_mem_drop (by rw [rd56_at l i h0 h1]; exact List.mem_cons_self ..)
def Fit63 (x : S63) : Prop := x.f1.f0.length ≤ 70 ∧ x.f1.f2.length ≤ 210
structure Small (ls : List S63) (hs : List S56) : Prop where
  nl : ls.length ≤ 70
  nh : hs.length ≤ 210
  fit : ∀ x ∈ ls, Fit63 x
theorem small_l0 (ls : List S63) (hs : List S56) (d : Nat) : ∀ i : Int, 0 ≤ i → i + d = ls.length →
    ∃ b, Ev (fun k => skiarealaw53_small.l0 k i ls hs) b ∧ (b = true → ls.length ≤ 70 ∧ hs.length ≤ 210 ∧ ∀ x ∈ ls.drop i.toNat, Fit63 x) := by
  have fin : ∀ i, Ev (fun k => skiarealaw53_small.j1 k i false ls hs) (decide (ls.length ≤ 70 ∧ hs.length ≤ 210)) := fun i => by
    refine Ev.step (fun k => by rw [skiarealaw53_small.j1, if_neg (by simp)]) ?_
    by_cases c : (ls.length : Int) ≤ 70
    · refine Ev.pos c ?_
      rw [show decide (ls.length ≤ 70 ∧ hs.length ≤ 210) = decide ((hs.length : Int) ≤ 210) by rw [decide_eq_decide]; omega]
      exact Ev.now _
    · refine Ev.neg c ?_
      rw [show decide (ls.length ≤ 70 ∧ hs.length ≤ 210) = false by rw [decide_eq_false_iff_not]; omega]
      exact Ev.now _
  induction d with
  | zero =>
    intro i h0 hd
    refine ⟨_, Ev.step (fun k => by rw [skiarealaw53_small.l0, if_neg (by omega)]) (fin i), fun h => ?_⟩
    have := of_decide_eq_true h
    rw [List.drop_eq_nil_of_le (by omega)]
    exact ⟨this.1, this.2, by simp⟩
  | succ d ih =>
    intro i h0 hd
    have h1 : i < (ls.length : Int) := by omega
    by_cases c : i < 71
    · obtain ⟨b, hb, hB⟩ := ih (i + 1) (by omega) (by omega)
      have hw : wrap64 (i + 1) = i + 1 := by unfold wrap64; omega
      have st : ∀ r, Ev (fun k => (if (((rd_T63 ls i).f1.f0).length : Int) > 70 then (some false) else (if (((rd_T63 ls i).f1.f2).length : Int) > 210 then (some false) else (skiarealaw53_small.l0 k (i + 1) ls hs)))) r → Ev (fun k => skiarealaw53_small.l0 k i ls hs) r := fun r hr => by
        refine Ev.step (fun k => by rw [skiarealaw53_small.l0, if_pos h1, decide_eq_true c]) ?_
        exact Ev.step (fun k => by rw [skiarealaw53_small.j1, if_pos rfl, if_pos h0, if_pos h1, hw]) hr
      by_cases c1 : (((rd_T63 ls i).f1.f0).length : Int) > 70
      · exact ⟨false, st _ (Ev.pos c1 (Ev.now _)), fun h => by simp at h⟩
      by_cases c2 : (((rd_T63 ls i).f1.f2).length : Int) > 210
      · exact ⟨false, st _ (Ev.neg c1 (Ev.pos c2 (Ev.now _))), fun h => by simp at h⟩
      refine ⟨b, st _ (Ev.neg c1 (Ev.neg c2 hb)), fun h => ?_⟩
      obtain ⟨g1, g2, g3⟩ := hB h
      refine ⟨g1, g2, fun x hx => ?_⟩
      rw [rd63_at ls i h0 h1] at hx
      rcases List.mem_cons.1 hx with rfl | hx
      · exact ⟨by omega, by omega⟩
      · exact g3 x hx
    · refine ⟨_, Ev.step (fun k => by rw [skiarealaw53_small.l0, if_pos h1, decide_eq_false c]) (fin i), fun h => ?_⟩
      have := of_decide_eq_true h
      omega
theorem small_ev (ls : List S63) (hs : List S56) : ∃ b, Ev (fun k => skiarealaw53_small.f k ls hs) b ∧ (b = true → Small ls hs) := by
  obtain ⟨b, hb, hB⟩ := small_l0 ls hs ls.length 0 (by omega) (by omega)
  exact ⟨b, Ev.congr (fun k => by rw [skiarealaw53_small.f]) hb, fun h => ⟨(hB h).1, (hB h).2.1, by have := (hB h).2.2; simpa using this⟩⟩
def runP (run : Int) (x : S63) : Bool := decide (x.f0 = run)
def idP (id : Int) (h : S56) : Bool := decide (h.f0 = id)
def listsE : Int → List S63 → Int
  | _, [] => 0
  | prev, x :: r => if x.f0 < 1 ∨ x.f0 > 9999 then 2 else if x.f0 ≤ prev then 11 else if rightS x.f1.f0 x.f1.f1 x.f1.f2 ≠ 0 then rightS x.f1.f0 x.f1.f1 x.f1.f2 else listsE x.f0 r
def hazE (ls : List S63) : List S56 → List S56 → Int
  | _, [] => 0
  | pre, h :: r => if h.f0 < 1 ∨ h.f0 > 9999 ∨ h.f2 < 0 ∨ h.f2 > 20000000 then 2 else if pre.any (idP h.f0) = true then 7 else if ls.any (runP h.f1) = false then 8 else hazE ls (pre ++ [h]) r
def right53 (ls : List S63) (hs : List S56) : Int := if ls.length > 64 ∨ hs.length > 200 then 4 else if listsE 0 ls ≠ 0 then listsE 0 ls else hazE ls [] hs
theorem list_iff (ls : List S63) (run : Int) : (idxFrom (fun h : S63 => decide (h.f0 = run)) ls 0 < 0) ↔ ls.any (runP run) = false := by
  have := idxFrom_any (fun h : S63 => decide (h.f0 = run)) ls 0
  unfold runP
  rw [← this, decide_eq_false_iff_not]; omega
theorem haz_iff (hs : List S56) (id : Int) : (idxFrom (fun h : S56 => decide (h.f0 = id)) hs 0 ≥ 0) ↔ hs.any (idP id) = true := by
  have := idxFrom_any (fun h : S56 => decide (h.f0 = id)) hs 0
  unfold idP
  rw [← this, decide_eq_true_iff]
theorem within_eq (a b c : Int) : patrol_within.f a b c = some (decide (b ≤ a ∧ a ≤ c)) := by
  unfold patrol_within.f
  by_cases h : a ≥ b
  · rw [if_pos h]; congr 1; rw [decide_eq_decide]; omega
  · rw [if_neg h]; congr 1; symm; rw [decide_eq_false_iff_not]; omega
theorem phaz_ev (ls : List S63) (hs : List S56) (S : Small ls hs) (d : Nat) : ∀ i : Int, 0 ≤ i → i + d = hs.length →
    Ev (fun k => patrol_Right.l1 k hs (hs.length : Int) i ls hs) (hazE ls (hs.take i.toNat) (hs.drop i.toNat)) := by
  induction d with
  | zero =>
    intro i h0 hd
    rw [List.drop_eq_nil_of_le (by omega), hazE]
    exact Ev.step (f := fun _ => some 0) (fun k => by rw [patrol_Right.l1, if_neg (by omega)]) (Ev.now _)
  | succ d ih =>
    intro i h0 hd
    have h1 : i < (hs.length : Int) := by omega
    have hn := S.nh
    have hw : wrap64 (i + 1) = i + 1 := by unfold wrap64; omega
    rw [rd56_at hs i h0 h1, hazE]
    refine Ev.step (fun k => by rw [patrol_Right.l1, if_pos h1, if_pos h0, if_pos h1, within_eq, Option.bind_some, within_eq, Option.bind_some]) ?_
    by_cases c : (rd_T56 hs i).f0 < 1 ∨ (rd_T56 hs i).f0 > 9999 ∨ (rd_T56 hs i).f2 < 0 ∨ (rd_T56 hs i).f2 > 20000000
    · rw [if_pos c]
      have bad : Ev (fun k => patrol_Right.j4 k i hs (hs.length : Int) i true ls hs ((rd_T56 hs i).f0) ((rd_T56 hs i).f1) ((rd_T56 hs i).f2)) 2 := Ev.step (f := fun _ => some 2) (fun k => by rw [patrol_Right.j4, if_pos rfl]) (Ev.now _)
      by_cases c1 : 1 ≤ (rd_T56 hs i).f0 ∧ (rd_T56 hs i).f0 ≤ 9999
      · refine Ev.pos (decide_eq_true c1) ?_
        rw [show decide (0 ≤ (rd_T56 hs i).f2 ∧ (rd_T56 hs i).f2 ≤ 20000000) = false by rw [decide_eq_false_iff_not]; omega]
        exact bad
      · exact Ev.neg (by rw [decide_eq_true_iff]; exact c1) bad
    · rw [if_neg c]
      refine Ev.pos (decide_eq_true (by omega)) ?_
      rw [show decide (0 ≤ (rd_T56 hs i).f2 ∧ (rd_T56 hs i).f2 ≤ 20000000) = true by rw [decide_eq_true_iff]; omega]
      refine Ev.step (fun k => by rw [patrol_Right.j4, if_neg (by simp), if_pos h0, if_pos (by omega), patrol_hazard.f, Option.bind_some, patrol_list.f, Option.bind_some, hw]) ?_
      by_cases c2 : (hs.take i.toNat).any (idP (rd_T56 hs i).f0) = true
      · rw [if_pos c2]
        exact Ev.pos ((haz_iff _ _).2 c2) (Ev.now _)
      · rw [if_neg c2]
        refine Ev.neg (fun g => c2 ((haz_iff _ _).1 g)) ?_
        by_cases c3 : ls.any (runP (rd_T56 hs i).f1) = false
        · rw [if_pos c3]
          exact Ev.pos ((list_iff _ _).2 c3) (Ev.now _)
        · rw [if_neg c3]
          refine Ev.neg (fun g => c3 ((list_iff _ _).1 g)) ?_
          rw [← take56_at hs i h0 h1]
          exact ih (i + 1) (by omega) (by omega)
theorem plists_ev (ls : List S63) (hs : List S56) (S : Small ls hs) (d : Nat) : ∀ (i prev : Int), 0 ≤ i → i + d = ls.length → (i = 0 → prev = 0) → (0 < i → (rd_T63 ls (i - 1)).f0 = prev) →
    Ev (fun k => patrol_Right.l0 k ls (ls.length : Int) i ls hs) (if listsE prev (ls.drop i.toNat) ≠ 0 then listsE prev (ls.drop i.toNat) else hazE ls [] hs) := by
  induction d with
  | zero =>
    intro i prev h0 hd _ _
    rw [List.drop_eq_nil_of_le (by omega), if_neg (by simp [listsE])]
    refine Ev.step (fun k => by rw [patrol_Right.l0, if_neg (by omega)]) ?_
    exact phaz_ev ls hs S hs.length 0 (by omega) (by omega)
  | succ d ih =>
    intro i prev h0 hd hz hp
    have h1 : i < (ls.length : Int) := by omega
    have hn := S.nl
    have hw : wrap64 (i + 1) = i + 1 := by unfold wrap64; omega
    have hw1 : 0 < i → wrap64 (i - 1) = i - 1 := fun h => by unfold wrap64; omega
    have hfit := S.fit _ (rd63_mem ls i h0 h1)
    rw [rd63_at ls i h0 h1, listsE]
    refine Ev.step (fun k => by rw [patrol_Right.l0, if_pos h1, if_pos h0, if_pos h1, within_eq, Option.bind_some]) ?_
    by_cases c : (rd_T63 ls i).f0 < 1 ∨ (rd_T63 ls i).f0 > 9999
    · rw [if_pos c, if_pos (by decide)]
      exact Ev.neg (by rw [decide_eq_true_iff]; omega) (Ev.now _)
    rw [if_neg c]
    refine Ev.pos (decide_eq_true (by omega)) ?_
    have go : ∀ b : Bool, (b = true ↔ (rd_T63 ls i).f0 ≤ prev) → Ev (fun k => patrol_Right.j2 k ls (ls.length : Int) i b ls hs ((rd_T63 ls i).f0) ((rd_T63 ls i).f1.f0) ((rd_T63 ls i).f1.f1) ((rd_T63 ls i).f1.f2))
        (if (if (rd_T63 ls i).f0 ≤ prev then 11 else if rightS (rd_T63 ls i).f1.f0 (rd_T63 ls i).f1.f1 (rd_T63 ls i).f1.f2 ≠ 0 then rightS (rd_T63 ls i).f1.f0 (rd_T63 ls i).f1.f1 (rd_T63 ls i).f1.f2 else listsE (rd_T63 ls i).f0 (ls.drop (i + 1).toNat)) ≠ 0 then (if (rd_T63 ls i).f0 ≤ prev then 11 else if rightS (rd_T63 ls i).f1.f0 (rd_T63 ls i).f1.f1 (rd_T63 ls i).f1.f2 ≠ 0 then rightS (rd_T63 ls i).f1.f0 (rd_T63 ls i).f1.f1 (rd_T63 ls i).f1.f2 else listsE (rd_T63 ls i).f0 (ls.drop (i + 1).toNat)) else hazE ls [] hs) := by
      intro b hb
      cases b with
      | true =>
        rw [if_pos (hb.1 rfl), if_pos (by decide)]
        exact Ev.step (f := fun _ => some 11) (fun k => by rw [patrol_Right.j2, if_pos rfl]) (Ev.now _)
      | false =>
        have hb' : ¬ (rd_T63 ls i).f0 ≤ prev := fun h => by have := hb.2 h; cases this
        rw [if_neg hb']
        refine Ev.step (fun k => by rw [patrol_Right.j2, if_neg (by simp), hw]) ?_
        refine Ev.bind (f := fun k t392 => (if t392 = 0 then (patrol_Right.l0 k ls (ls.length : Int) (i + 1) ls hs) else (some t392))) (right_ev _ _ _ (by have := hfit.1; omega) (by have := hfit.2; omega)) ?_
        by_cases e : rightS (rd_T63 ls i).f1.f0 (rd_T63 ls i).f1.f1 (rd_T63 ls i).f1.f2 = 0
        · rw [if_neg (show ¬ rightS (rd_T63 ls i).f1.f0 (rd_T63 ls i).f1.f1 (rd_T63 ls i).f1.f2 ≠ 0 by simpa using e)]
          exact Ev.pos e (ih (i + 1) _ (by omega) (by omega) (by omega) (fun _ => by rw [show i + 1 - 1 = i by omega]))
        · rw [if_pos e, if_pos e]
          exact Ev.neg e (Ev.now _)
    by_cases c4 : i > 0
    · rw [hw1 c4]
      refine Ev.pos c4 (Ev.pos (by omega) (Ev.pos (by omega) (go _ ?_)))
      rw [hp c4, decide_eq_true_iff]
    · refine Ev.neg c4 (go false ?_)
      have := hz (by omega)
      simp; omega
theorem patrolright_ev (ls : List S63) (hs : List S56) (S : Small ls hs) : Ev (fun k => patrol_Right.f k ls hs) (right53 ls hs) := by
  unfold right53
  by_cases c : ls.length > 64 ∨ hs.length > 200
  · rw [if_pos c]
    refine Ev.congr (f := fun k => patrol_Right.j0 k true ls hs) (fun k => ?_) ?_
    · rw [patrol_Right.f]
      by_cases c1 : (ls.length : Int) > 64
      · rw [if_pos c1]
      · rw [if_neg c1, decide_eq_true (by omega)]
    · exact Ev.step (f := fun _ => some 4) (fun k => by rw [patrol_Right.j0, if_pos rfl]) (Ev.now _)
  · rw [if_neg c]
    refine Ev.congr (f := fun k => patrol_Right.j0 k false ls hs) (fun k => by rw [patrol_Right.f, if_neg (by omega), decide_eq_false (by omega)]) ?_
    refine Ev.step (fun k => by rw [patrol_Right.j0, if_neg (by simp)]) ?_
    exact plists_ev ls hs S ls.length 0 0 (by omega) (by omega) (fun _ => rfl) (fun h => by omega)
theorem signsE_ok (items : List Int) : ∀ (l : List S35) (latest : Int), signsE items latest l = 0 → (∀ s ∈ l, s.f0 ∈ items ∧ 0 ≤ s.f2 ∧ s.f2 ≤ 20000000 ∧ latest ≤ s.f2) ∧ l.Pairwise (fun a b => a.f2 ≤ b.f2)
  | [], _, _ => ⟨fun _ h => by simp at h, List.Pairwise.nil⟩
  | s :: l, latest, h => by
    rw [signsE] at h
    by_cases c1 : s.f0 ∉ items
    · rw [if_pos c1] at h; exact absurd h (by decide)
    rw [if_neg c1] at h
    by_cases c2 : s.f1 < 1 ∨ s.f1 > 9999
    · rw [if_pos c2] at h; exact absurd h (by decide)
    rw [if_neg c2] at h
    by_cases c3 : s.f2 < 0 ∨ s.f2 > 20000000
    · rw [if_pos c3] at h; exact absurd h (by decide)
    rw [if_neg c3] at h
    by_cases c4 : s.f2 < latest
    · rw [if_pos c4] at h; exact absurd h (by decide)
    rw [if_neg c4] at h
    obtain ⟨h1, h2⟩ := signsE_ok items l s.f2 h
    refine ⟨fun x hx => ?_, List.Pairwise.cons (fun x hx => (h1 x hx).2.2.2) h2⟩
    rcases List.mem_cons.1 hx with rfl | hx
    · exact ⟨by simpa using c1, by omega, by omega, by omega⟩
    · obtain ⟨a, b, c, d⟩ := h1 x hx
      exact ⟨a, b, c, by omega⟩
structure Okay (items : List Int) (every : Int) (signs : List S35) : Prop where
  ni : items.length ≤ 64
  ns : signs.length ≤ 200
  e1 : 1 ≤ every
  e2 : every ≤ 604800
  it : itemsE [] items = 0
  sg : signsE items 0 signs = 0
theorem right_okay {items : List Int} {every : Int} {signs : List S35} (h : rightS items every signs = 0) : Okay items every signs := by
  unfold rightS at h
  by_cases c : items.length > 64 ∨ signs.length > 200
  · rw [if_pos c] at h; exact absurd h (by decide)
  rw [if_neg c] at h
  by_cases c1 : every < 1 ∨ every > 604800
  · rw [if_pos c1] at h; exact absurd h (by decide)
  rw [if_neg c1] at h
  by_cases c2 : itemsE [] items ≠ 0
  · rw [if_pos c2] at h; exact absurd h c2
  rw [if_neg c2] at h
  exact ⟨by omega, by omega, by omega, by omega, by simpa using c2, h⟩
theorem okay_right {items : List Int} {every : Int} {signs : List S35} (h : Okay items every signs) : rightS items every signs = 0 := by
  unfold rightS
  rw [if_neg (by have := h.ni; have := h.ns; omega), if_neg (by have := h.e1; have := h.e2; omega), if_neg (by simp [h.it])]
  exact h.sg
/-- Some sign keeps the item at t. -/
def cov (every : Int) (l : List S35) (item t : Int) : Bool := l.any (cntB item t every)
/-- Nothing overflows. -/
def Tame (every : Int) (l : List S35) : Prop := 1 ≤ every ∧ every ≤ 604800 ∧ ∀ s ∈ l, 0 ≤ s.f2 ∧ s.f2 ≤ 20000000
theorem Okay.tame {items : List Int} {every : Int} {l : List S35} (h : Okay items every l) : Tame every l :=
  ⟨h.e1, h.e2, fun s hs => ⟨((signsE_ok items l 0 h.sg).1 s hs).2.1, ((signsE_ok items l 0 h.sg).1 s hs).2.2.1⟩⟩
theorem Tame.tail {every : Int} {s : S35} {l : List S35} (h : Tame every (s :: l)) : Tame every l := ⟨h.1, h.2.1, fun x hx => h.2.2 x (List.mem_cons_of_mem _ hx)⟩
theorem Tame.drop {every : Int} {l : List S35} (h : Tame every l) (n : Nat) : Tame every (l.drop n) := ⟨h.1, h.2.1, fun x hx => h.2.2 x (List.mem_of_mem_drop hx)⟩
theorem cnt_iff {every : Int} {s : S35} (h1 : 1 ≤ every) (h2 : every ≤ 604800) (h3 : 0 ≤ s.f2) (h4 : s.f2 ≤ 20000000) (item t : Int) : cntB item t every s = true ↔ s.f0 = item ∧ s.f2 ≤ t ∧ t < s.f2 + every := by
  have hw : wrap64 (s.f2 + every) = s.f2 + every := by unfold wrap64; omega
  unfold cntB
  rw [hw]
  simp
theorem Tame.wrap {every : Int} {l : List S35} (h : Tame every l) {s : S35} (hs : s ∈ l) : wrap64 (s.f2 + every) = s.f2 + every := by
  have := h.2.2 s hs
  have := h.1
  have := h.2.1
  unfold wrap64; omega
theorem Tame.cnt {every : Int} {l : List S35} (h : Tame every l) {s : S35} (hs : s ∈ l) (item t : Int) : cntB item t every s = true ↔ s.f0 = item ∧ s.f2 ≤ t ∧ t < s.f2 + every :=
  cnt_iff h.1 h.2.1 (h.2.2 s hs).1 (h.2.2 s hs).2 item t
theorem cov_iff {every : Int} {l : List S35} (h : Tame every l) (item t : Int) : cov every l item t = true ↔ ∃ s ∈ l, s.f0 = item ∧ s.f2 ≤ t ∧ t < s.f2 + every := by
  unfold cov
  rw [List.any_eq_true]
  exact ⟨fun ⟨s, hs, hc⟩ => ⟨s, hs, (h.cnt hs item t).1 hc⟩, fun ⟨s, hs, hc⟩ => ⟨s, hs, (h.cnt hs item t).2 hc⟩⟩
theorem openL_mem (items : List Int) (every : Int) (l : List S35) (t it : Int) : it ∈ openL items every l t ↔ it ∈ items ∧ cov every l it t = false := by
  unfold openL cov
  simp
theorem done_iff (items : List Int) (every : Int) (l : List S35) (t : Int) : (((openL items every l t).length : Int) == 0) = true ↔ ∀ it ∈ items, cov every l it t = true := by
  rw [beq_iff_eq]
  constructor
  · intro h it hi
    cases hc : cov every l it t with
    | true => rfl
    | false =>
      have := (openL_mem items every l t it).2 ⟨hi, hc⟩
      have := List.length_pos_of_mem this
      omega
  · intro h
    have : openL items every l t = [] := by
      rw [List.eq_nil_iff_forall_not_mem]
      intro it hi
      have := (openL_mem items every l t it).1 hi
      rw [h it this.1] at this
      exact absurd this.2 (by simp)
    rw [this]; rfl
theorem open_some (items : List Int) (every : Int) (l : List S35) (t : Int) (hi : items.length ≤ 64) : inspect_Open.f items every l t = some (openL items every l t) := by
  rw [inspect_Open.f, if_pos (by omega)]
theorem done_some (items : List Int) (every : Int) (l : List S35) (t : Int) (hi : items.length ≤ 64) : inspect_Done.f items every l t = some (((openL items every l t).length : Int) == 0) := by
  rw [inspect_Done.f, open_some items every l t hi, Option.bind_some]
theorem idx_neg {α : Type} (p : α → Bool) : ∀ (l : List α) (i : Nat), idxFrom p l i < 0 → l.any p = false
  | [], _, _ => rfl
  | x :: l, i, h => by
    rw [idxFrom] at h
    by_cases c : p x = true
    · rw [if_pos c] at h; omega
    · rw [if_neg c] at h
      have := idx_neg p l (i + 1) h
      simp only [List.any_cons, this, Bool.or_false]
      simpa using c
theorem idx_at (p : S35 → Bool) : ∀ (l : List S35) (i : Nat), ¬ idxFrom p l i < 0 → ∃ j : Nat, idxFrom p l i = (i : Int) + j ∧ j < l.length ∧ p (rd_T35 l j) = true
  | [], i, h => by rw [idxFrom] at h; omega
  | x :: l, i, h => by
    rw [idxFrom] at h ⊢
    by_cases c : p x = true
    · rw [if_pos c]
      exact ⟨0, by omega, by simp, by simpa [rd_T35] using c⟩
    · rw [if_neg c] at h ⊢
      obtain ⟨j, e, hj, hp⟩ := idx_at p l (i + 1) h
      exact ⟨j + 1, by omega, by simp; omega, by simpa [rd_T35] using hp⟩
theorem rd35_mem (l : List S35) (j : Nat) (h : j < l.length) : rd_T35 l j ∈ l := by
  simp [rd_T35, List.getD_eq_getElem?_getD, List.getElem?_eq_getElem h]
/-- From t on, u is the time at which the item is open first. -/
def First (every : Int) (l : List S35) (item t u : Int) : Prop := t ≤ u ∧ cov every l item u = false ∧ ∀ v, t ≤ v → v < u → cov every l item v = true
theorem untilIn_ev {every : Int} {l : List S35} (h : Tame every l) (item : Int) (d : Nat) : ∀ t : Int, 20604800 - t ≤ d → ∃ u, Ev (fun k => untilIn every l item k t) u ∧ First every l item t u := by
  induction d with
  | zero =>
    intro t hd
    by_cases c : idxFrom (cntB item t every) l 0 < 0
    · refine ⟨t, Ev.step (f := fun _ => some t) (fun k => by rw [untilIn, if_pos c]) (Ev.now _), by omega, idx_neg _ l 0 c, fun v h1 h2 => by omega⟩
    · obtain ⟨j, _, hj, hp⟩ := idx_at _ l 0 c
      have hm := rd35_mem l j hj
      have := (h.cnt hm item t).1 hp
      have := h.2.2 _ hm
      have := h.2.1
      omega
  | succ d ih =>
    intro t hd
    by_cases c : idxFrom (cntB item t every) l 0 < 0
    · refine ⟨t, Ev.step (f := fun _ => some t) (fun k => by rw [untilIn, if_pos c]) (Ev.now _), by omega, idx_neg _ l 0 c, fun v h1 h2 => by omega⟩
    · obtain ⟨j, e, hj, hp⟩ := idx_at _ l 0 c
      have hm := rd35_mem l j hj
      have hc := (h.cnt hm item t).1 hp
      obtain ⟨u, hu, hf⟩ := ih ((rd_T35 l j).f2 + every) (by omega)
      refine ⟨u, Ev.step (f := fun k => untilIn every l item k ((rd_T35 l j).f2 + every)) (fun k => ?_) hu, by have := hf.1; omega, hf.2.1, fun v h1 h2 => ?_⟩
      · rw [untilIn, if_neg c, e, show ((0 : Nat) : Int) + (j : Int) = (j : Int) by omega, h.wrap hm]
      · by_cases c2 : v < (rd_T35 l j).f2 + every
        · exact (cov_iff h item v).2 ⟨_, hm, hc.1, by omega, c2⟩
        · exact hf.2.2 v (by omega) h2
theorem untilL_ev {every : Int} {l : List S35} (h : Tame every l) (t : Int) : ∀ (its : List Int) (m : Int), ∃ r, Ev (fun k => untilL k every l t its m) r ∧ r ≤ m ∧ (∀ it ∈ its, ∀ u, t ≤ u → u < r → cov every l it u = true) ∧ (r = m ∨ (t ≤ r ∧ ∃ it ∈ its, cov every l it r = false))
  | [], m => ⟨m, Ev.now _, Int.le_refl _, by simp, .inl rfl⟩
  | it :: its, m => by
    obtain ⟨u, hu, hf⟩ := untilIn_ev h it (20604800 - t).toNat t (by omega)
    obtain ⟨r, hr, h1, h2, h3⟩ := untilL_ev h t its (min m u)
    refine ⟨r, Ev.bind (f := fun k u => untilL k every l t its (min m u)) hu hr, by omega, ?_, ?_⟩
    · intro x hx v hv hv2
      rcases List.mem_cons.1 hx with rfl | hx
      · exact hf.2.2 v hv (by omega)
      · exact h2 x hx v hv hv2
    · rcases h3 with h3 | ⟨ha, x, hx, hc⟩
      · by_cases c : m ≤ u
        · exact .inl (by omega)
        · have e : r = u := by omega
          exact .inr ⟨by rw [e]; exact hf.1, it, List.mem_cons_self .., by rw [e]; exact hf.2.1⟩
      · exact .inr ⟨ha, x, List.mem_cons_of_mem _ hx, hc⟩
/-- What Until says, where all is done at t. -/
structure UntilIs (items : List Int) (every : Int) (l : List S35) (t r : Int) : Prop where
  top : r ≤ 20000000
  shut : ∀ it ∈ items, ∀ u, t ≤ u → u < r → cov every l it u = true
  opn : r = 20000000 ∨ (t ≤ r ∧ ∃ it ∈ items, cov every l it r = false)
theorem UntilIs.eq {items : List Int} {every : Int} {l : List S35} {t r s : Int} (h : UntilIs items every l t r) (g : UntilIs items every l t s) : r = s := by
  rcases Int.lt_trichotomy r s with c | c | c
  · rcases h.opn with e | ⟨h1, it, hi, hc⟩
    · have := g.top; omega
    · rw [g.shut it hi r h1 c] at hc; exact absurd hc (by simp)
  · exact c
  · rcases g.opn with e | ⟨h1, it, hi, hc⟩
    · have := h.top; omega
    · rw [h.shut it hi s h1 c] at hc; exact absurd hc (by simp)
theorem until_ev {items : List Int} {every : Int} {l : List S35} (h : Tame every l) (hi : items.length ≤ 64) (t : Int) :
    ∃ r, Ev (fun k => inspect_Until.f k items every l t) r ∧ ((∀ it ∈ items, cov every l it t = true) → UntilIs items every l t r) ∧ (¬ (∀ it ∈ items, cov every l it t = true) → r = t) := by
  by_cases c : ∀ it ∈ items, cov every l it t = true
  · obtain ⟨r, hr, h1, h2, h3⟩ := untilL_ev h t items 20000000
    refine ⟨r, Ev.congr (fun k => ?_) hr, fun _ => ⟨h1, h2, h3⟩, fun h => absurd c h⟩
    rw [inspect_Until.f, done_some items every l t hi, Option.bind_some, if_pos ((done_iff items every l t).2 c)]
  · refine ⟨t, Ev.congr (fun k => ?_) (Ev.now _), fun h => absurd h c, fun _ => rfl⟩
    rw [inspect_Until.f, done_some items every l t hi, Option.bind_some, if_neg (fun h => c ((done_iff items every l t).1 h))]
theorem listsE_ok : ∀ (l : List S63) (prev : Int), listsE prev l = 0 → (∀ x ∈ l, prev < x.f0 ∧ 1 ≤ x.f0 ∧ x.f0 ≤ 9999 ∧ rightS x.f1.f0 x.f1.f1 x.f1.f2 = 0) ∧ l.Pairwise (fun a b => a.f0 < b.f0)
  | [], _, _ => ⟨by simp, List.Pairwise.nil⟩
  | x :: l, prev, h => by
    rw [listsE] at h
    by_cases c1 : x.f0 < 1 ∨ x.f0 > 9999
    · rw [if_pos c1] at h; exact absurd h (by decide)
    rw [if_neg c1] at h
    by_cases c2 : x.f0 ≤ prev
    · rw [if_pos c2] at h; exact absurd h (by decide)
    rw [if_neg c2] at h
    by_cases c3 : rightS x.f1.f0 x.f1.f1 x.f1.f2 ≠ 0
    · rw [if_pos c3] at h; exact absurd h c3
    rw [if_neg c3] at h
    obtain ⟨h1, h2⟩ := listsE_ok l x.f0 h
    refine ⟨fun y hy => ?_, List.Pairwise.cons (fun y hy => (h1 y hy).1) h2⟩
    rcases List.mem_cons.1 hy with rfl | hy
    · exact ⟨by omega, by omega, by omega, by simpa using c3⟩
    · obtain ⟨a, b, c, d⟩ := h1 y hy
      exact ⟨by omega, b, c, d⟩
structure Fine (ls : List S63) (hs : List S56) : Prop where
  nl : ls.length ≤ 64
  nh : hs.length ≤ 200
  ok : ∀ x ∈ ls, Okay x.f1.f0 x.f1.f1 x.f1.f2
  inc : ls.Pairwise (fun a b => a.f0 < b.f0)
  le : listsE 0 ls = 0
  he : hazE ls [] hs = 0
theorem fine_of {ls : List S63} {hs : List S56} (h : right53 ls hs = 0) : Fine ls hs := by
  unfold right53 at h
  by_cases c : ls.length > 64 ∨ hs.length > 200
  · rw [if_pos c] at h; exact absurd h (by decide)
  rw [if_neg c] at h
  by_cases c1 : listsE 0 ls ≠ 0
  · rw [if_pos c1] at h; exact absurd h c1
  rw [if_neg c1] at h
  have c2 : listsE 0 ls = 0 := by simpa using c1
  have := listsE_ok ls 0 c2
  exact ⟨by omega, by omega, fun x hx => right_okay (this.1 x hx).2.2.2, this.2, c2, h⟩
theorem Fine.right {ls : List S63} {hs : List S56} (h : Fine ls hs) : right53 ls hs = 0 := by
  unfold right53
  rw [if_neg (by have := h.nl; have := h.nh; omega), if_neg (by simp [h.le])]
  exact h.he
def idxR (ls : List S63) (run : Int) : Int := idxFrom (fun x : S63 => decide (x.f0 = run)) ls 0
def doneB (x : S63) (t : Int) : Bool := ((openL x.f1.f0 x.f1.f1 x.f1.f2 t).length : Int) == 0
def hazR (hs : List S56) (run : Int) : Bool := hs.any fun h : S56 => decide (h.f1 = run)
def readyB (ls : List S63) (hs : List S56) (run t : Int) : Bool := if 0 ≤ idxR ls run then (doneB (rd_T63 ls (idxR ls run)) t && !(hazR hs run)) else false
theorem idxR_lt (ls : List S63) (run : Int) : idxR ls run < ls.length := by
  have := idxFrom_lt (fun x : S63 => decide (x.f0 = run)) ls 0
  unfold idxR; omega
theorem patrolready_eq {ls : List S63} {hs : List S56} (F : Fine ls hs) (run t : Int) : patrol_Ready.f ls hs run t = some (readyB ls hs run t) := by
  unfold patrol_Ready.f readyB
  change (if 0 ≤ idxR ls run then _ else _) = _
  by_cases c : 0 ≤ idxR ls run
  · rw [if_pos c, if_pos c]
    have ok := F.ok _ (rd63_mem ls (idxR ls run) c (idxR_lt ls run))
    change (inspect_Done.f (rd_T63 ls (idxR ls run)).f1.f0 (rd_T63 ls (idxR ls run)).f1.f1 (rd_T63 ls (idxR ls run)).f1.f2 t).bind _ = _
    rw [done_some _ _ _ _ ok.ni, Option.bind_some]
    change (if doneB (rd_T63 ls (idxR ls run)) t = true then some (!(hazR hs run)) else some false) = _
    cases doneB (rd_T63 ls (idxR ls run)) t <;> simp
  · rw [if_neg c, if_neg c]
def openRuns (ls : List S63) (hs : List S56) (t : Int) (l : List S63) : List Int := (l.filter fun x => !(readyB ls hs x.f0 t)).map (·.f0)
theorem openRuns_len (ls : List S63) (hs : List S56) (t : Int) (l : List S63) : (openRuns ls hs t l).length ≤ l.length := by
  unfold openRuns; rw [List.length_map]; exact List.length_filter_le _ _
theorem openRuns_yes {ls : List S63} {hs : List S56} {t : Int} {x : S63} {l : List S63} (h : readyB ls hs x.f0 t = true) : openRuns ls hs t (x :: l) = openRuns ls hs t l := by unfold openRuns; simp [h]
theorem openRuns_no {ls : List S63} {hs : List S56} {t : Int} {x : S63} {l : List S63} (h : readyB ls hs x.f0 t = false) : openRuns ls hs t (x :: l) = x.f0 :: openRuns ls hs t l := by unfold openRuns; simp [h]
theorem patrolopen_ev {ls : List S63} {hs : List S56} (F : Fine ls hs) (t : Int) (d : Nat) : ∀ (i : Int) (acc : List Int), 0 ≤ i → i + d = ls.length → (acc.length : Int) ≤ i →
    Ev (fun k => patrol_Open.l0 k t acc ls (ls.length : Int) i ls hs) (acc ++ openRuns ls hs t (ls.drop i.toNat)) := by
  have hn := F.nl
  induction d with
  | zero =>
    intro i acc h0 hd ha
    rw [List.drop_eq_nil_of_le (by omega), show openRuns ls hs t [] = [] from rfl, List.append_nil]
    exact Ev.step (f := fun _ => some acc) (fun k => by rw [patrol_Open.l0, if_neg (by omega)]) (Ev.now _)
  | succ d ih =>
    intro i acc h0 hd ha
    have h1 : i < (ls.length : Int) := by omega
    have hw : wrap64 (i + 1) = i + 1 := by unfold wrap64; omega
    rw [rd63_at ls i h0 h1]
    refine Ev.step (fun k => by rw [patrol_Open.l0, if_pos h1, if_pos h0, if_pos h1, patrolready_eq F, Option.bind_some, hw]) ?_
    cases c : readyB ls hs (rd_T63 ls i).f0 t with
    | true =>
      rw [openRuns_yes c]
      exact Ev.pos rfl (ih (i + 1) acc (by omega) (by omega) (by omega))
    | false =>
      rw [openRuns_no c]
      refine Ev.neg (by simp) (Ev.pos (by omega) ?_)
      have := ih (i + 1) (acc ++ [(rd_T63 ls i).f0]) (by omega) (by omega) (by simp; omega)
      rw [List.append_assoc, List.singleton_append] at this
      exact this
theorem patrolopenf_ev {ls : List S63} {hs : List S56} (F : Fine ls hs) (t : Int) : Ev (fun k => patrol_Open.f k ls hs t) (openRuns ls hs t ls) := by
  have := patrolopen_ev F t ls.length 0 [] (by omega) (by omega) (by simp)
  exact Ev.congr (fun k => by rw [patrol_Open.f]) (by simpa using this)
theorem copied_some {ls : List S63} {hs : List S56} (h1 : ls.length ≤ 70) (h2 : hs.length ≤ 210) (h3 : ∀ x ∈ ls, Fit63 x) : patrol_copied.f ls hs = some (ls, hs) := by
  rw [patrol_copied.f, if_pos ⟨by omega, by omega, fun x hx => ⟨by have := (h3 x hx).1; omega, by have := (h3 x hx).2; omega⟩⟩]
theorem own_l0 (ls : List S63) (hs : List S56) (S : Small ls hs) (d : Nat) : ∀ i : Int, 0 ≤ i → i + d = ls.length → Ev (fun k => skiarearef53_Own_s.l0 k i ls hs (ls.take i.toNat)) (ls, hs) := by
  have hn := S.nl
  have hh := S.nh
  induction d with
  | zero =>
    intro i h0 hd
    rw [List.take_of_length_le (by omega)]
    exact Ev.step (f := fun _ => some (ls, hs)) (fun k => by rw [skiarearef53_Own_s.l0, if_neg (by omega), if_pos (by show 0 + hs.length < _; omega)]; rfl) (Ev.now _)
  | succ d ih =>
    intro i h0 hd
    have h1 : i < (ls.length : Int) := by omega
    have hw : wrap64 (i + 1) = i + 1 := by unfold wrap64; omega
    have hf := S.fit _ (rd63_mem ls i h0 h1)
    have htk : ls.take (i + 1).toNat = ls.take i.toNat ++ [rd_T63 ls i] := by
      rw [show (i + 1).toNat = i.toNat + 1 by omega, List.take_succ_eq_append_getElem (by omega)]
      simp [rd_T63, List.getD_eq_getElem?_getD, List.getElem?_eq_getElem (show i.toNat < ls.length by omega)]
    have := ih (i + 1) (by omega) (by omega)
    rw [htk] at this
    refine Ev.step (fun k => by rw [skiarearef53_Own_s.l0, if_pos h1, if_pos h0, if_pos (by have := hf.1; show 0 + _ < _; omega), if_pos (by have := hf.2; show 0 + _ < _; omega), if_pos (by rw [List.length_take]; omega), hw]) ?_
    simpa using this
theorem own_ev (ls : List S63) (hs : List S56) (S : Small ls hs) : Ev (fun k => skiarearef53_Own.f k ls hs) (ls, hs) := by
  have := own_l0 ls hs S ls.length 0 (by omega) (by omega)
  exact Ev.congr (fun k => by rw [skiarearef53_Own.f, skiarearef53_Own_s.f]) (by simpa using this)
theorem sameints_ev (l : List Int) (hl : l.length ≤ 9223372036854775807) (d : Nat) : ∀ (i : Int), 0 ≤ i → i + d = l.length → Ev (fun k => skiarearef19_SameInts.l0 k l l i) true := by
  induction d with
  | zero =>
    intro i h0 hd
    exact Ev.step (f := fun _ => some true) (fun k => by rw [skiarearef19_SameInts.l0, if_neg (by omega)]) (Ev.now _)
  | succ d ih =>
    intro i h0 hd
    have h1 : i < (l.length : Int) := by omega
    exact Ev.step (fun k => by rw [skiarearef19_SameInts.l0, if_pos h1, if_pos h0, if_pos h1, if_pos rfl, wrap_inc h0 h1 hl]) (ih (i + 1) (by omega) (by omega))
theorem same_ev (items : List Int) (every : Int) (l : List S35) (hl : l.length ≤ 9223372036854775807) (d : Nat) : ∀ (i : Int), 0 ≤ i → i + d = l.length → Ev (fun k => skiarearef19_Same.l0 k i items every l items every l) true := by
  induction d with
  | zero =>
    intro i h0 hd
    exact Ev.step (f := fun _ => some true) (fun k => by rw [skiarearef19_Same.l0, if_neg (by omega)]) (Ev.now _)
  | succ d ih =>
    intro i h0 hd
    have h1 : i < (l.length : Int) := by omega
    exact Ev.step (fun k => by rw [skiarearef19_Same.l0, if_pos h1, if_pos h0, if_pos h1, if_neg (by simp), wrap_inc h0 h1 hl]) (ih (i + 1) (by omega) (by omega))
theorem same_refl (items : List Int) (every : Int) (l : List S35) (hi : items.length ≤ 9223372036854775807) (hl : l.length ≤ 9223372036854775807) : Ev (fun k => skiarearef19_Same.f k items every l items every l) true := by
  refine Ev.congr (fun k => by rw [skiarearef19_Same.f, if_pos rfl, if_pos rfl]) ?_
  refine Ev.bind (f := fun k t130 => skiarearef19_Same.j0 k (!t130) items every l items every l) (a := true) ?_ ?_
  · exact Ev.congr (fun k => by rw [skiarearef19_SameInts.f, if_pos rfl]) (sameints_ev items hi items.length 0 (by omega) (by omega))
  · exact Ev.step (fun k => by rw [skiarearef19_Same.j0, if_neg (by simp)]) (same_ev items every l hl l.length 0 (by omega) (by omega))
theorem same53h_ev (ls : List S63) (hs : List S56) (hn : hs.length ≤ 9223372036854775807) (d : Nat) : ∀ i : Int, 0 ≤ i → i + d = hs.length → Ev (fun k => skiarearef53_Same.l1 k i ls hs ls hs) true := by
  induction d with
  | zero =>
    intro i h0 hd
    exact Ev.step (f := fun _ => some true) (fun k => by rw [skiarearef53_Same.l1, if_neg (by omega)]) (Ev.now _)
  | succ d ih =>
    intro i h0 hd
    have h1 : i < (hs.length : Int) := by omega
    exact Ev.step (fun k => by rw [skiarearef53_Same.l1, if_pos h1, if_pos h0, if_pos h1, if_neg (by simp), wrap_inc h0 h1 hn]) (ih (i + 1) (by omega) (by omega))
theorem same53l_ev (ls : List S63) (hs : List S56) (S : Small ls hs) (d : Nat) : ∀ i : Int, 0 ≤ i → i + d = ls.length → Ev (fun k => skiarearef53_Same.l0 k i ls hs ls hs) true := by
  have hn := S.nl
  induction d with
  | zero =>
    intro i h0 hd
    exact Ev.step (fun k => by rw [skiarearef53_Same.l0, if_neg (by omega)]) (same53h_ev ls hs (by have := S.nh; omega) hs.length 0 (by omega) (by omega))
  | succ d ih =>
    intro i h0 hd
    have h1 : i < (ls.length : Int) := by omega
    have hw : wrap64 (i + 1) = i + 1 := by unfold wrap64; omega
    have hf := S.fit _ (rd63_mem ls i h0 h1)
    refine Ev.step (fun k => by rw [skiarearef53_Same.l0, if_pos h1, if_pos h0, if_pos h1, if_pos rfl, hw]) ?_
    refine Ev.bind (f := fun k t575 => (if t575 = true then (skiarearef53_Same.l0 k (i + 1) ls hs ls hs) else (some false))) (same_refl _ _ _ (by have := hf.1; omega) (by have := hf.2; omega)) ?_
    exact Ev.pos rfl (ih (i + 1) (by omega) (by omega))
theorem same53_refl (ls : List S63) (hs : List S56) (S : Small ls hs) : Ev (fun k => skiarearef53_Same.f k ls hs ls hs) true := by
  refine Ev.congr (fun k => by rw [skiarearef53_Same.f, if_pos rfl, show ((hs.length : Int) != (hs.length : Int)) = false by simp]) ?_
  exact Ev.step (fun k => by rw [skiarearef53_Same.j0, if_neg (by simp)]) (same53l_ev ls hs S ls.length 0 (by omega) (by omega))
theorem has19_ev (l : List Int) (n : Int) (hl : l.length ≤ 9223372036854775807) (d : Nat) : ∀ i : Int, 0 ≤ i → i + d = l.length →
    Ev (fun k => skiarearef19_Has.l0 k l n i) (decide (n ∈ l.drop i.toNat)) := by
  induction d with
  | zero =>
    intro i h0 hd
    refine Ev.step (f := fun _ => some (decide (n ∈ l.drop i.toNat))) (fun k => ?_) (Ev.now _)
    rw [skiarearef19_Has.l0, if_neg (by omega), List.drop_eq_nil_of_le (by omega)]; simp
  | succ d ih =>
    intro i h0 hd
    have h1 : i < (l.length : Int) := by omega
    rw [rd_at l i h0 h1]
    by_cases c : rd l i = n
    · refine Ev.step (f := fun _ => some true) (fun k => ?_) ?_
      · rw [skiarearef19_Has.l0, if_pos h1, if_pos h0, if_pos c]
      · simp only [c, List.mem_cons, true_or, decide_true]; exact Ev.now _
    · refine Ev.step (f := fun k => skiarearef19_Has.l0 k l n (i + 1)) (fun k => ?_) ?_
      · rw [skiarearef19_Has.l0, if_pos h1, if_pos h0, if_neg c, wrap_inc h0 h1 hl]
      · have := ih (i + 1) (by omega) (by omega)
        rw [show decide (n ∈ rd l i :: l.drop (i + 1).toNat) = decide (n ∈ l.drop (i + 1).toNat) by rw [decide_eq_decide]; simp only [List.mem_cons]; exact ⟨fun h => h.elim (fun h => absurd h.symm c) id, .inr⟩]
        exact this
theorem refhas_ev (l : List Int) (n : Int) (hl : l.length ≤ 9223372036854775807) : Ev (fun k => skiarearef19_Has.f k l n) (decide (n ∈ l)) := has19_ev l n hl l.length 0 (by omega) (by omega)
theorem in19 (a b c : Int) : skiarearef19_in.f a b c = some (decide (b ≤ a ∧ a ≤ c)) := by
  unfold skiarearef19_in.f
  by_cases h : a ≥ b
  · rw [if_pos h]; congr 1; rw [decide_eq_decide]; omega
  · rw [if_neg h]; congr 1; symm; rw [decide_eq_false_iff_not]; omega
theorem refsigns_ev (items : List Int) (every : Int) (l : List S35) (hi : items.length ≤ 9223372036854775807) (hl : l.length ≤ 9223372036854775807) (d : Nat) : ∀ (i : Int) (latest : Int), 0 ≤ i → i + d = l.length → (i = 0 → latest = 0) → (0 < i → latest = (rd_T35 l (i - 1)).f2) →
    Ev (fun k => skiarearef19_Right.l1 k i items every l) (signsE items latest (l.drop i.toNat)) := by
  induction d with
  | zero =>
    intro i latest h0 hd _ _
    refine Ev.step (f := fun _ => some 0) (fun k => ?_) ?_
    · rw [skiarearef19_Right.l1, if_neg (by omega)]
    · rw [List.drop_eq_nil_of_le (by omega)]; exact Ev.now _
  | succ d ih =>
    intro i latest h0 hd hz hp
    have h1 : i < (l.length : Int) := by omega
    rw [rd35_at l i h0 h1, signsE]
    have hw : 0 < i → wrap64 (i - 1) = i - 1 := fun h => by unfold wrap64; omega
    refine Ev.step (fun k => by rw [skiarearef19_Right.l1, if_pos h1, if_pos h0]) ?_
    refine Ev.bind (f := fun k t233 => (if t233 = true then ((skiarearef19_in.f ((rd_T35 l i).f1) 1 9999).bind fun t234 => (if t234 = true then ((skiarearef19_in.f ((rd_T35 l i).f2) 0 20000000).bind fun t235 => (if t235 = true then (if i > 0 then (if 0 ≤ (wrap64 (i - 1)) then (if (wrap64 (i - 1)) < (l.length : Int) then (if ((rd_T35 l i).f2) < ((rd_T35 l (wrap64 (i - 1))).f2) then (some 11) else (skiarearef19_Right.l1 k (wrap64 (i + 1)) items every l)) else (none)) else (none)) else (skiarearef19_Right.l1 k (wrap64 (i + 1)) items every l)) else (some 2))) else (some 17))) else (some 8))) (refhas_ev items _ hi) ?_
    by_cases m : (rd_T35 l i).f0 ∈ items
    · rw [if_neg (by simpa using m)]
      refine Ev.pos (by simpa using m) ?_
      by_cases c : (rd_T35 l i).f1 < 1 ∨ (rd_T35 l i).f1 > 9999
      · rw [if_pos c]
        refine Ev.congr (f := fun _ => some 17) (fun k => ?_) (Ev.now _)
        rw [in19, Option.bind_some, if_neg (by simp; omega)]
      · rw [if_neg c]
        refine Ev.congr (fun k => by rw [in19, Option.bind_some, if_pos (by simp; omega), in19, Option.bind_some]) ?_
        by_cases c2 : (rd_T35 l i).f2 < 0 ∨ (rd_T35 l i).f2 > 20000000
        · rw [if_pos c2]
          exact Ev.neg (by simp; omega) (Ev.now _)
        · rw [if_neg c2]
          refine Ev.pos (by simp; omega) ?_
          rw [wrap_inc h0 h1 hl]
          by_cases c4 : i > 0
          · rw [hw c4]
            refine Ev.pos c4 (Ev.pos (by omega) (Ev.pos (by omega) ?_))
            rw [← hp c4]
            by_cases c3 : (rd_T35 l i).f2 < latest
            · rw [if_pos c3]; exact Ev.pos c3 (Ev.now _)
            · rw [if_neg c3]
              exact Ev.neg c3 (ih (i + 1) _ (by omega) (by omega) (by omega) (fun _ => by rw [show i + 1 - 1 = i by omega]))
          · refine Ev.neg c4 ?_
            rw [if_neg (by rw [hz (by omega)]; omega)]
            exact ih (i + 1) _ (by omega) (by omega) (by omega) (fun _ => by rw [show i + 1 - 1 = i by omega])
    · rw [if_pos (by simpa using m)]
      exact Ev.neg (by simpa using m) (Ev.now _)
theorem refitems_ev (items : List Int) (every : Int) (l : List S35) (hi : items.length ≤ 9223372036854775807) (hl : l.length ≤ 9223372036854775807) (d : Nat) : ∀ (i : Int), 0 ≤ i → i + d = items.length →
    Ev (fun k => skiarearef19_Right.l0 k i items every l) (if itemsE (items.take i.toNat) (items.drop i.toNat) ≠ 0 then itemsE (items.take i.toNat) (items.drop i.toNat) else signsE items 0 l) := by
  induction d with
  | zero =>
    intro i h0 hd
    refine Ev.step (fun k => by rw [skiarearef19_Right.l0, if_neg (by omega)]) ?_
    rw [List.drop_eq_nil_of_le (by omega), if_neg (by simp [itemsE])]
    exact refsigns_ev items every l hi hl l.length 0 0 (by omega) (by omega) (fun _ => rfl) (fun h => by omega)
  | succ d ih =>
    intro i h0 hd
    have h1 : i < (items.length : Int) := by omega
    rw [rd_at items i h0 h1, itemsE]
    refine Ev.step (fun k => by rw [skiarearef19_Right.l0, if_pos h1, if_pos h0, in19, Option.bind_some]) ?_
    by_cases c : rd items i < 1 ∨ rd items i > 9999
    · rw [if_pos c, if_pos (by decide)]
      exact Ev.neg (by simp; omega) (Ev.now _)
    · rw [if_neg c]
      refine Ev.pos (by simp; omega) (Ev.pos (by omega) ?_)
      refine Ev.bind (f := fun k t230 => (if t230 = true then (some 7) else (skiarearef19_Right.l0 k (wrap64 (i + 1)) items every l))) (refhas_ev (items.take i.toNat) (rd items i) (by rw [List.length_take]; omega)) ?_
      by_cases m : rd items i ∈ items.take i.toNat
      · rw [if_pos m, if_pos (by decide)]
        exact Ev.pos (by simpa using m) (Ev.now _)
      · rw [if_neg m]
        refine Ev.neg (by simpa using m) ?_
        rw [wrap_inc h0 h1 hi, ← take_at items i h0 h1]
        exact ih (i + 1) (by omega) (by omega)
theorem refright_ev (items : List Int) (every : Int) (signs : List S35) (hi : items.length ≤ 9223372036854775807) (hl : signs.length ≤ 9223372036854775807) :
    Ev (fun k => skiarearef19_Right.f k items every signs) (rightS items every signs) := by
  unfold rightS
  by_cases c : items.length > 64 ∨ signs.length > 200
  · rw [if_pos c]
    refine Ev.congr (f := fun k => skiarearef19_Right.j0 k true items every signs) (fun k => ?_) ?_
    · unfold skiarearef19_Right.f
      by_cases c1 : (items.length : Int) > 64
      · rw [if_pos c1]
      · rw [if_neg c1, decide_eq_true (by omega)]
    · exact Ev.step (f := fun _ => some 4) (fun k => by rw [skiarearef19_Right.j0, if_pos rfl]) (Ev.now _)
  · rw [if_neg c]
    refine Ev.congr (f := fun k => skiarearef19_Right.j0 k false items every signs) (fun k => by unfold skiarearef19_Right.f; rw [if_neg (by omega), decide_eq_false (by omega)]) ?_
    refine Ev.step (fun k => by rw [skiarearef19_Right.j0, if_neg (by simp), in19, Option.bind_some]) ?_
    by_cases c1 : every < 1 ∨ every > 604800
    · rw [if_pos c1]; exact Ev.neg (by simp; omega) (Ev.now _)
    · rw [if_neg c1]
      exact Ev.pos (by simp; omega) (refitems_ev items every signs hi hl items.length 0 (by omega) (by omega))
theorem at_ev (ls : List S63) (hs : List S56) (run : Int) (hl : ls.length ≤ 9223372036854775807) (d : Nat) : ∀ i : Int, 0 ≤ i → i + d = ls.length →
    Ev (fun k => skiarearef53_at.l0 k run i ls hs) (idxFrom (fun h : S63 => decide (h.f0 = run)) (ls.drop i.toNat) i.toNat) := by
  induction d with
  | zero =>
    intro i h0 hd
    rw [List.drop_eq_nil_of_le (by omega), idxFrom]
    exact Ev.step (f := fun _ => some (-1)) (fun k => by rw [skiarearef53_at.l0, if_neg (by omega)]) (Ev.now _)
  | succ d ih =>
    intro i h0 hd
    have h1 : i < (ls.length : Int) := by omega
    have hw := wrap_inc h0 h1 hl
    rw [rd63_at ls i h0 h1, idxFrom]
    refine Ev.step (fun k => by rw [skiarearef53_at.l0, if_pos h1, if_pos h0, hw]) ?_
    by_cases c : (rd_T63 ls i).f0 = run
    · rw [if_pos (by simpa using c), show ((i.toNat : Nat) : Int) = i by omega]
      exact Ev.pos c (Ev.now _)
    · rw [if_neg (by simpa using c)]
      have := ih (i + 1) (by omega) (by omega)
      rw [show (i + 1).toNat = i.toNat + 1 by omega] at this
      rw [show (i + 1).toNat = i.toNat + 1 by omega]
      exact Ev.neg c this
theorem refat_ev (ls : List S63) (hs : List S56) (run : Int) (hl : ls.length ≤ 9223372036854775807) : Ev (fun k => skiarearef53_at.f k ls hs run) (idxFrom (fun h : S63 => decide (h.f0 = run)) ls 0) := by
  have := at_ev ls hs run hl ls.length 0 (by omega) (by omega)
  exact Ev.congr (fun k => by rw [skiarearef53_at.f]) (by simpa using this)
theorem refhazk_ev (ls : List S63) (hs : List S56) (S : Small ls hs) (i : Int) (h0 : 0 ≤ i) (h1 : i < hs.length) (h : S56) (r : Int)
    (hr : Ev (fun k => (skiarearef53_at.f k ls hs h.f1).bind fun t539 => (if t539 < 0 then (some 8) else (skiarearef53_Right.l1 k (wrap64 (i + 1)) ls hs))) r) (d : Nat) : ∀ j : Int, 0 ≤ j → j + d = i →
    Ev (fun k => skiarearef53_Right.l2 k i j ls hs h.f0 h.f1 h.f2) (if ((hs.take i.toNat).drop j.toNat).any (idP h.f0) = true then 7 else r) := by
  have hn := S.nh
  induction d with
  | zero =>
    intro j hj hd
    rw [List.drop_eq_nil_of_le (by rw [List.length_take]; omega), if_neg (by simp)]
    exact Ev.step (fun k => by rw [skiarearef53_Right.l2, if_neg (by omega)]) hr
  | succ d ih =>
    intro j hj hd
    have hj1 : j < (hs.length : Int) := by omega
    have hw : wrap64 (j + 1) = j + 1 := by unfold wrap64; omega
    have e : (hs.take i.toNat).drop j.toNat = rd_T56 hs j :: (hs.take i.toNat).drop (j + 1).toNat := by
      rw [List.drop_take, List.drop_take, rd56_at hs j hj hj1, show i.toNat - j.toNat = (i.toNat - (j + 1).toNat) + 1 by omega, List.take_succ_cons]
    rw [e, List.any_cons]
    refine Ev.step (fun k => by rw [skiarearef53_Right.l2, if_pos (by omega), if_pos hj, if_pos hj1, hw]) ?_
    by_cases c : (rd_T56 hs j).f0 = h.f0
    · rw [if_pos (by simp [idP, c])]
      exact Ev.pos c (Ev.now _)
    · rw [show (idP h.f0 (rd_T56 hs j) || ((hs.take i.toNat).drop (j + 1).toNat).any (idP h.f0)) = ((hs.take i.toNat).drop (j + 1).toNat).any (idP h.f0) by simp [idP, c]]
      exact Ev.neg c (ih (j + 1) (by omega) (by omega))
theorem refhaz_ev (ls : List S63) (hs : List S56) (S : Small ls hs) (d : Nat) : ∀ i : Int, 0 ≤ i → i + d = hs.length →
    Ev (fun k => skiarearef53_Right.l1 k i ls hs) (hazE ls (hs.take i.toNat) (hs.drop i.toNat)) := by
  induction d with
  | zero =>
    intro i h0 hd
    rw [List.drop_eq_nil_of_le (by omega), hazE]
    exact Ev.step (f := fun _ => some 0) (fun k => by rw [skiarearef53_Right.l1, if_neg (by omega)]) (Ev.now _)
  | succ d ih =>
    intro i h0 hd
    have h1 : i < (hs.length : Int) := by omega
    have hn := S.nh
    have hw : wrap64 (i + 1) = i + 1 := by unfold wrap64; omega
    rw [rd56_at hs i h0 h1, hazE]
    have bad : Ev (fun k => skiarearef53_Right.j5 k i true ls hs ((rd_T56 hs i).f0) ((rd_T56 hs i).f1) ((rd_T56 hs i).f2)) 2 := Ev.step (f := fun _ => some 2) (fun k => by rw [skiarearef53_Right.j5, if_pos rfl]) (Ev.now _)
    refine Ev.step (fun k => by rw [skiarearef53_Right.l1, if_pos h1, if_pos h0]) ?_
    by_cases c1 : (rd_T56 hs i).f0 < 1
    · rw [if_pos (by omega)]; exact Ev.pos c1 bad
    refine Ev.neg c1 ?_
    by_cases c2 : (rd_T56 hs i).f0 > 9999
    · rw [if_pos (by omega)]; exact Ev.pos c2 bad
    refine Ev.neg c2 ?_
    by_cases c3 : (rd_T56 hs i).f2 < 0
    · rw [if_pos (by omega)]; exact Ev.pos c3 bad
    refine Ev.neg c3 ?_
    by_cases c4 : (rd_T56 hs i).f2 > 20000000
    · rw [if_pos (by omega), decide_eq_true c4]; exact bad
    rw [if_neg (by omega), decide_eq_false c4]
    refine Ev.step (fun k => by rw [skiarearef53_Right.j5, if_neg (by simp)]) ?_
    have := refhazk_ev ls hs S i h0 h1 (rd_T56 hs i) (if ls.any (runP (rd_T56 hs i).f1) = false then 8 else hazE ls (hs.take (i + 1).toNat) (hs.drop (i + 1).toNat)) ?_ i.toNat 0 (by omega) (by omega)
    · rw [take56_at hs i h0 h1] at this
      simpa using this
    · rw [hw]
      refine Ev.bind (f := fun k t539 => (if t539 < 0 then (some 8) else (skiarearef53_Right.l1 k (i + 1) ls hs))) (refat_ev ls hs _ (by have := S.nl; omega)) ?_
      by_cases c5 : ls.any (runP (rd_T56 hs i).f1) = false
      · rw [if_pos c5]
        exact Ev.pos ((list_iff _ _).2 c5) (Ev.now _)
      · rw [if_neg c5]
        exact Ev.neg (fun g => c5 ((list_iff _ _).1 g)) (ih (i + 1) (by omega) (by omega))
theorem reflists_ev (ls : List S63) (hs : List S56) (S : Small ls hs) (d : Nat) : ∀ (i prev : Int), 0 ≤ i → i + d = ls.length → (i = 0 → prev = 0) → (0 < i → (rd_T63 ls (i - 1)).f0 = prev) →
    Ev (fun k => skiarearef53_Right.l0 k i ls hs) (if listsE prev (ls.drop i.toNat) ≠ 0 then listsE prev (ls.drop i.toNat) else hazE ls [] hs) := by
  induction d with
  | zero =>
    intro i prev h0 hd _ _
    rw [List.drop_eq_nil_of_le (by omega), if_neg (by simp [listsE])]
    refine Ev.step (fun k => by rw [skiarearef53_Right.l0, if_neg (by omega)]) ?_
    exact refhaz_ev ls hs S hs.length 0 (by omega) (by omega)
  | succ d ih =>
    intro i prev h0 hd hz hp
    have h1 : i < (ls.length : Int) := by omega
    have hn := S.nl
    have hw : wrap64 (i + 1) = i + 1 := by unfold wrap64; omega
    have hw1 : 0 < i → wrap64 (i - 1) = i - 1 := fun h => by unfold wrap64; omega
    have hfit := S.fit _ (rd63_mem ls i h0 h1)
    rw [rd63_at ls i h0 h1, listsE]
    refine Ev.step (fun k => by rw [skiarearef53_Right.l0, if_pos h1, if_pos h0]) ?_
    have bad : Ev (fun k => skiarearef53_Right.j2 k i true ls hs) 2 := Ev.step (f := fun _ => some 2) (fun k => by rw [skiarearef53_Right.j2, if_pos rfl]) (Ev.now _)
    by_cases c1 : (rd_T63 ls i).f0 < 1
    · rw [if_pos (show (rd_T63 ls i).f0 < 1 ∨ (rd_T63 ls i).f0 > 9999 by omega), if_pos (by decide)]; exact Ev.pos c1 bad
    refine Ev.neg c1 ?_
    by_cases c2 : (rd_T63 ls i).f0 > 9999
    · rw [if_pos (show (rd_T63 ls i).f0 < 1 ∨ (rd_T63 ls i).f0 > 9999 by omega), if_pos (by decide), decide_eq_true c2]; exact bad
    rw [if_neg (show ¬ ((rd_T63 ls i).f0 < 1 ∨ (rd_T63 ls i).f0 > 9999) by omega), decide_eq_false c2]
    refine Ev.step (fun k => by rw [skiarearef53_Right.j2, if_neg (by simp)]) ?_
    have go : ∀ b : Bool, (b = true ↔ (rd_T63 ls i).f0 ≤ prev) → Ev (fun k => skiarearef53_Right.j3 k i b ls hs)
        (if (if (rd_T63 ls i).f0 ≤ prev then 11 else if rightS (rd_T63 ls i).f1.f0 (rd_T63 ls i).f1.f1 (rd_T63 ls i).f1.f2 ≠ 0 then rightS (rd_T63 ls i).f1.f0 (rd_T63 ls i).f1.f1 (rd_T63 ls i).f1.f2 else listsE (rd_T63 ls i).f0 (ls.drop (i + 1).toNat)) ≠ 0 then (if (rd_T63 ls i).f0 ≤ prev then 11 else if rightS (rd_T63 ls i).f1.f0 (rd_T63 ls i).f1.f1 (rd_T63 ls i).f1.f2 ≠ 0 then rightS (rd_T63 ls i).f1.f0 (rd_T63 ls i).f1.f1 (rd_T63 ls i).f1.f2 else listsE (rd_T63 ls i).f0 (ls.drop (i + 1).toNat)) else hazE ls [] hs) := by
      intro b hb
      cases b with
      | true =>
        rw [if_pos (hb.1 rfl), if_pos (by decide)]
        exact Ev.step (f := fun _ => some 11) (fun k => by rw [skiarearef53_Right.j3, if_pos rfl]) (Ev.now _)
      | false =>
        have hb' : ¬ (rd_T63 ls i).f0 ≤ prev := fun h => by have := hb.2 h; cases this
        rw [if_neg hb']
        refine Ev.step (fun k => by rw [skiarearef53_Right.j3, if_neg (by simp), if_pos h0, if_pos h1, hw]) ?_
        refine Ev.bind (f := fun k t535 => (if t535 = 0 then (skiarearef53_Right.l0 k (i + 1) ls hs) else (some t535))) (refright_ev _ _ _ (by have := hfit.1; omega) (by have := hfit.2; omega)) ?_
        by_cases e : rightS (rd_T63 ls i).f1.f0 (rd_T63 ls i).f1.f1 (rd_T63 ls i).f1.f2 = 0
        · rw [if_neg (show ¬ rightS (rd_T63 ls i).f1.f0 (rd_T63 ls i).f1.f1 (rd_T63 ls i).f1.f2 ≠ 0 by simpa using e)]
          exact Ev.pos e (ih (i + 1) _ (by omega) (by omega) (by omega) (fun _ => by rw [show i + 1 - 1 = i by omega]))
        · rw [if_pos e, if_pos e]
          exact Ev.neg e (Ev.now _)
    by_cases c4 : i > 0
    · rw [hw1 c4]
      refine Ev.pos c4 (Ev.pos h0 (Ev.pos h1 (Ev.pos (by omega) (Ev.pos (by omega) (go _ ?_)))))
      rw [hp c4, decide_eq_true_iff]
    · refine Ev.neg c4 (go false ?_)
      have := hz (by omega)
      simp; omega
theorem refright53_ev (ls : List S63) (hs : List S56) (S : Small ls hs) : Ev (fun k => skiarearef53_Right.f k ls hs) (right53 ls hs) := by
  unfold right53
  by_cases c : ls.length > 64 ∨ hs.length > 200
  · rw [if_pos c]
    refine Ev.congr (f := fun k => skiarearef53_Right.j0 k true ls hs) (fun k => ?_) ?_
    · rw [skiarearef53_Right.f]
      by_cases c1 : (ls.length : Int) > 64
      · rw [if_pos c1]
      · rw [if_neg c1, decide_eq_true (by omega)]
    · exact Ev.step (f := fun _ => some 4) (fun k => by rw [skiarearef53_Right.j0, if_pos rfl]) (Ev.now _)
  · rw [if_neg c]
    refine Ev.congr (f := fun k => skiarearef53_Right.j0 k false ls hs) (fun k => by rw [skiarearef53_Right.f, if_neg (by omega), decide_eq_false (by omega)]) ?_
    refine Ev.step (fun k => by rw [skiarearef53_Right.j0, if_neg (by simp)]) ?_
    exact reflists_ev ls hs S ls.length 0 0 (by omega) (by omega) (fun _ => rfl) (fun h => by omega)
theorem accepted_ev (ls : List S63) (hs : List S56) : ∃ b, Ev (fun k => skiarealaw53_accepted.f k ls hs) b ∧ (b = true → Small ls hs ∧ Fine ls hs) := by
  obtain ⟨b, hb, hB⟩ := small_ev ls hs
  cases b with
  | false => exact ⟨false, Ev.congr (fun k => by rw [skiarealaw53_accepted.f]) (Ev.bind (f := fun k t546 => (if t546 = true then ((skiarearef53_Right.f k ls hs).bind fun t547 => (some (t547 == 0))) else (some false))) hb (Ev.neg (by simp) (Ev.now _))), fun h => by cases h⟩
  | true =>
    refine ⟨right53 ls hs == 0, Ev.congr (fun k => by rw [skiarealaw53_accepted.f]) (Ev.bind (f := fun k t546 => (if t546 = true then ((skiarearef53_Right.f k ls hs).bind fun t547 => (some (t547 == 0))) else (some false))) hb (Ev.pos rfl ?_)), fun h => ⟨hB rfl, fine_of (by simpa using h)⟩⟩
    exact Ev.bind (f := fun k t547 => (some (t547 == 0))) (refright53_ev ls hs (hB rfl)) (Ev.now _)
def WLists (l : List S63) : Prop := l.length ≤ maxLen ∧ ∀ x ∈ l, W64 x.f0 ∧ WInts x.f1.f0 ∧ W64 x.f1.f1 ∧ WSigns x.f1.f2
def WHaz (l : List S56) : Prop := l.length ≤ maxLen ∧ ∀ x ∈ l, W64 x.f0 ∧ W64 x.f1 ∧ W64 x.f2
theorem opnLists : Opn Try.prog (Kd.slice 63 k63) 45 WLists := opn_slice z63 Try.underlying45 (by kernel_rfl) opn63
theorem opnHaz : Opn Try.prog (Kd.slice 56 k56) 46 WHaz := opn_slice z56 Try.underlying46 (by kernel_rfl) opn56
end Go.Proofs.Ytmhggplhfcmgkaa.Q
