/- Plain laws and readings for the seat's proofs (this session's). -/
import Derived.RangeFuncNested
import Derived.Shelf.Abstract
import Derived.Deep.Slices
import Derived.ProofKit
import Derived.OpenShut
import Derived.ChangeOld
import Derived.Lib.SmallJoins
import Derived.WalkSpells
import Derived.Test.YtmhggplhfcmgkaaQ19
import Derived.Test.YtmhggplhfcmgkaaQ5
import Derived.Test.YtmhggplhfcmgkaaQ6
import Derived.Test.YtmhggplhfcmgkaaQ7
import Derived.Test.YtmhggplhfcmgkaaOpn
namespace Go.Proofs.Ytmhggplhfcmgkaa.Q
open Go.RowKit Go.Proofs.YtmhggplhfcmgkaaW.PrintWords Go.Proofs.YtmhggplhfcmgkaaW.PrintLast Go.Proofs.YtmhggplhfcmgkaaW.PrintMore
set_option linter.unusedVariables false
set_option linter.unusedSimpArgs false
/-! ### plain laws: rounds -/
theorem Ev.pos {α : Type} {c : Prop} [Decidable c] {f g : Nat → Option α} {r : α} (h : c) (hf : Ev f r) : Ev (fun k => if c then f k else g k) r := Ev.congr (fun k => if_pos h) hf
theorem Ev.neg {α : Type} {c : Prop} [Decidable c] {f g : Nat → Option α} {r : α} (h : ¬ c) (hf : Ev g r) : Ev (fun k => if c then f k else g k) r := Ev.congr (fun k => if_neg h) hf
theorem wrap_inc {i : Int} {n : Nat} (h0 : 0 ≤ i) (h : i < (n : Int)) (hn : n ≤ 9223372036854775807) : wrap64 (i + 1) = i + 1 := by unfold wrap64; omega
theorem rd_at (l : List Int) (i : Int) (h0 : 0 ≤ i) (h1 : i < l.length) : l.drop i.toNat = rd l i :: l.drop (i + 1).toNat := rd_cons_drop l i h0 h1
theorem rd35_at (l : List S35) (i : Int) (h0 : 0 ≤ i) (h1 : i < l.length) : l.drop i.toNat = rd_T35 l i :: l.drop (i + 1).toNat := by
  rw [List.drop_eq_getElem_cons (by omega), show (i + 1).toNat = i.toNat + 1 by omega]
  simp [rd_T35, List.getD_eq_getElem?_getD, List.getElem?_eq_getElem (show i.toNat < l.length by omega)]
theorem take_at (l : List Int) (i : Int) (h0 : 0 ≤ i) (h1 : i < l.length) : l.take (i + 1).toNat = l.take i.toNat ++ [rd l i] := by
  rw [show (i + 1).toNat = i.toNat + 1 by omega, List.take_succ_eq_append_getElem (by omega)]
  simp [rd, List.getD_eq_getElem?_getD, List.getElem?_eq_getElem (show i.toNat < l.length by omega)]

/-! ### slices.Contains, skiarearef19.Has, has -/
theorem index_ev (l : List Int) (n : Int) (hl : l.length ≤ 9223372036854775807) (d : Nat) : ∀ i : Int, 0 ≤ i → i + d = l.length →
    ∃ r : Int, Ev (fun k => slices_Index_int_int.l0 k l n (l.length : Int) i) r ∧ (0 ≤ r ↔ n ∈ l.drop i.toNat) := by
  induction d with
  | zero =>
    intro i h0 hd
    refine ⟨-1, Ev.step (f := fun _ => some (-1)) (fun k => ?_) (Ev.now _), ?_⟩
    · rw [slices_Index_int_int.l0, if_neg (by omega)]
    · rw [List.drop_eq_nil_of_le (by omega)]; simp
  | succ d ih =>
    intro i h0 hd
    have h1 : i < (l.length : Int) := by omega
    rw [rd_at l i h0 h1]
    by_cases c : n = rd l i
    · refine ⟨i, Ev.step (f := fun _ => some i) (fun k => ?_) (Ev.now _), ?_⟩
      · rw [slices_Index_int_int.l0, if_pos h1, if_pos h0, if_pos h1, if_pos c]
      · simp [c, h0]
    · obtain ⟨r, hr, hi⟩ := ih (i + 1) (by omega) (by omega)
      refine ⟨r, Ev.step (f := fun k => slices_Index_int_int.l0 k l n (l.length : Int) (i + 1)) (fun k => ?_) hr, ?_⟩
      · rw [slices_Index_int_int.l0, if_pos h1, if_pos h0, if_pos h1, if_neg c, wrap_inc h0 h1 hl]
      · rw [hi]; simp [c]
theorem contains_ev (l : List Int) (n : Int) (hl : l.length ≤ 9223372036854775807) : Ev (fun k => slices_Contains_int_int.f k l n) (decide (n ∈ l)) := by
  obtain ⟨r, hr, hi⟩ := index_ev l n hl l.length 0 (by omega) (by omega)
  refine Ev.bind (f := fun _ t => some (decide (t ≥ 0))) (a := r) hr ?_
  have : decide (r ≥ 0) = decide (n ∈ l) := by rw [decide_eq_decide]; simpa using hi
  rw [this]; exact Ev.now _
/-! ### Right: one plain function for both -/
def itemsE : List Int → List Int → Int
  | _, [] => 0
  | pre, n :: rest => if n < 1 ∨ n > 9999 then 2 else if n ∈ pre then 7 else itemsE (pre ++ [n]) rest
def signsE (items : List Int) : Int → List S35 → Int
  | _, [] => 0
  | latest, s :: rest => if s.f0 ∉ items then 8 else if s.f1 < 1 ∨ s.f1 > 9999 then 17 else if s.f2 < 0 ∨ s.f2 > 20000000 then 2 else if s.f2 < latest then 11 else signsE items s.f2 rest
def rightS (items : List Int) (every : Int) (signs : List S35) : Int :=
  if items.length > 64 ∨ signs.length > 200 then 4 else if every < 1 ∨ every > 604800 then 2 else if itemsE [] items ≠ 0 then itemsE [] items else signsE items 0 signs
theorem items_ev (l : List Int) (hl : l.length ≤ 9223372036854775807) (d : Nat) : ∀ i : Int, 0 ≤ i → i + d = l.length →
    Ev (fun k => inspect_items.l0 k l l (l.length : Int) i) (itemsE (l.take i.toNat) (l.drop i.toNat)) := by
  induction d with
  | zero =>
    intro i h0 hd
    refine Ev.step (f := fun _ => some 0) (fun k => ?_) ?_
    · rw [inspect_items.l0, if_neg (by omega)]
    · rw [List.drop_eq_nil_of_le (by omega)]; exact Ev.now _
  | succ d ih =>
    intro i h0 hd
    have h1 : i < (l.length : Int) := by omega
    rw [rd_at l i h0 h1, itemsE]
    by_cases c : rd l i < 1 ∨ rd l i > 9999
    · rw [if_pos c]
      refine Ev.step (f := fun k => inspect_items.j1 k l i (rd l i) l (l.length : Int) i true) (fun k => ?_) ?_
      · rw [inspect_items.l0, if_pos h1, if_pos h0, if_pos h1]
        by_cases c1 : rd l i < 1
        · rw [if_pos c1]
        · rw [if_neg c1, decide_eq_true (by omega)]
      · exact Ev.step (f := fun _ => some 2) (fun k => by rw [inspect_items.j1, if_pos rfl]) (Ev.now _)
    · rw [if_neg c]
      refine Ev.step (f := fun k => inspect_items.j1 k l i (rd l i) l (l.length : Int) i false) (fun k => ?_) ?_
      · rw [inspect_items.l0, if_pos h1, if_pos h0, if_pos h1, if_neg (by omega), decide_eq_false (by omega)]
      · refine Ev.step (f := fun k => (slices_Contains_int_int.f k (l.take i.toNat) (rd l i)).bind fun t105 => (if t105 = true then (some 7) else (inspect_items.l0 k l l (l.length : Int) (wrap64 (i + 1))))) (fun k => ?_) ?_
        · rw [inspect_items.j1, if_neg (by simp), if_pos h0, if_pos (by omega)]
        · refine Ev.bind (f := fun k t105 => (if t105 = true then (some 7) else (inspect_items.l0 k l l (l.length : Int) (wrap64 (i + 1))))) (contains_ev (l.take i.toNat) (rd l i) (by rw [List.length_take]; omega)) ?_
          by_cases m : rd l i ∈ l.take i.toNat
          · rw [if_pos m]
            exact Ev.pos (by simpa using m) (Ev.now _)
          · rw [if_neg m]
            refine Ev.neg (by simpa using m) ?_
            rw [wrap_inc h0 h1 hl, ← take_at l i h0 h1]
            exact ih (i + 1) (by omega) (by omega)
theorem signs_ev (items : List Int) (every : Int) (l : List S35) (hi : items.length ≤ 9223372036854775807) (hl : l.length ≤ 9223372036854775807) (d : Nat) : ∀ (i : Int) (latest : Int), 0 ≤ i → i + d = l.length →
    Ev (fun k => inspect_Right.l0 k latest l (l.length : Int) i items every l) (signsE items latest (l.drop i.toNat)) := by
  induction d with
  | zero =>
    intro i latest h0 hd
    refine Ev.step (f := fun _ => some 0) (fun k => ?_) ?_
    · rw [inspect_Right.l0, if_neg (by omega)]
    · rw [List.drop_eq_nil_of_le (by omega)]; exact Ev.now _
  | succ d ih =>
    intro i latest h0 hd
    have h1 : i < (l.length : Int) := by omega
    rw [rd35_at l i h0 h1, signsE]
    refine Ev.step (f := fun k => (slices_Contains_int_int.f k items ((rd_T35 l i).f0)).bind fun t110 => (if t110 = true then (if ((rd_T35 l i).f1) < 1 then (inspect_Right.j3 k latest l (l.length : Int) i true items every l ((rd_T35 l i).f0) ((rd_T35 l i).f1) ((rd_T35 l i).f2)) else (inspect_Right.j3 k latest l (l.length : Int) i (decide (((rd_T35 l i).f1) > 9999)) items every l ((rd_T35 l i).f0) ((rd_T35 l i).f1) ((rd_T35 l i).f2))) else (some 8))) (fun k => by rw [inspect_Right.l0, if_pos h1, if_pos h0, if_pos h1]) ?_
    refine Ev.bind (f := fun k t110 => (if t110 = true then (if ((rd_T35 l i).f1) < 1 then (inspect_Right.j3 k latest l (l.length : Int) i true items every l ((rd_T35 l i).f0) ((rd_T35 l i).f1) ((rd_T35 l i).f2)) else (inspect_Right.j3 k latest l (l.length : Int) i (decide (((rd_T35 l i).f1) > 9999)) items every l ((rd_T35 l i).f0) ((rd_T35 l i).f1) ((rd_T35 l i).f2))) else (some 8))) (contains_ev items _ hi) ?_
    by_cases m : (rd_T35 l i).f0 ∈ items
    · rw [if_neg (by simpa using m)]
      refine Ev.pos (by simpa using m) ?_
      by_cases c : (rd_T35 l i).f1 < 1 ∨ (rd_T35 l i).f1 > 9999
      · rw [if_pos c]
        refine Ev.congr (f := fun k => inspect_Right.j3 k latest l (l.length : Int) i true items every l ((rd_T35 l i).f0) ((rd_T35 l i).f1) ((rd_T35 l i).f2)) (fun k => ?_) ?_
        · by_cases c1 : (rd_T35 l i).f1 < 1
          · rw [if_pos c1]
          · rw [if_neg c1, decide_eq_true (by omega)]
        · exact Ev.step (f := fun _ => some 17) (fun k => by rw [inspect_Right.j3, if_pos rfl]) (Ev.now _)
      · rw [if_neg c]
        refine Ev.congr (f := fun k => inspect_Right.j3 k latest l (l.length : Int) i false items every l ((rd_T35 l i).f0) ((rd_T35 l i).f1) ((rd_T35 l i).f2)) (fun k => by rw [if_neg (by omega), decide_eq_false (by omega)]) ?_
        by_cases c2 : (rd_T35 l i).f2 < 0 ∨ (rd_T35 l i).f2 > 20000000
        · rw [if_pos c2]
          refine Ev.step (f := fun k => inspect_Right.j4 k latest l (l.length : Int) i true items every l ((rd_T35 l i).f0) ((rd_T35 l i).f1) ((rd_T35 l i).f2)) (fun k => ?_) ?_
          · rw [inspect_Right.j3, if_neg (by simp)]
            by_cases c1 : (rd_T35 l i).f2 < 0
            · rw [if_pos c1]
            · rw [if_neg c1, decide_eq_true (by omega)]
          · exact Ev.step (f := fun _ => some 2) (fun k => by rw [inspect_Right.j4, if_pos rfl]) (Ev.now _)
        · rw [if_neg c2]
          refine Ev.step (f := fun k => inspect_Right.j4 k latest l (l.length : Int) i false items every l ((rd_T35 l i).f0) ((rd_T35 l i).f1) ((rd_T35 l i).f2)) (fun k => by rw [inspect_Right.j3, if_neg (by simp), if_neg (by omega), decide_eq_false (by omega)]) ?_
          by_cases c3 : (rd_T35 l i).f2 < latest
          · rw [if_pos c3]
            exact Ev.step (f := fun _ => some 11) (fun k => by rw [inspect_Right.j4, if_neg (by simp), if_pos c3]) (Ev.now _)
          · rw [if_neg c3]
            exact Ev.step (fun k => by rw [inspect_Right.j4, if_neg (by simp), if_neg c3, wrap_inc h0 h1 hl]) (ih (i + 1) (rd_T35 l i).f2 (by omega) (by omega))
    · rw [if_pos (by simpa using m)]
      exact Ev.neg (by simpa using m) (Ev.now _)
theorem right_ev (items : List Int) (every : Int) (signs : List S35) (hi : items.length ≤ 9223372036854775807) (hl : signs.length ≤ 9223372036854775807) :
    Ev (fun k => inspect_Right.f k items every signs) (rightS items every signs) := by
  unfold rightS
  by_cases c : items.length > 64 ∨ signs.length > 200
  · rw [if_pos c]
    refine Ev.congr (f := fun k => inspect_Right.j0 k true items every signs) (fun k => ?_) ?_
    · unfold inspect_Right.f
      by_cases c1 : (items.length : Int) > 64
      · rw [if_pos c1]
      · rw [if_neg c1, decide_eq_true (by omega)]
    · exact Ev.step (f := fun _ => some 4) (fun k => by rw [inspect_Right.j0, if_pos rfl]) (Ev.now _)
  · rw [if_neg c]
    refine Ev.congr (f := fun k => inspect_Right.j0 k false items every signs) (fun k => by unfold inspect_Right.f; rw [if_neg (by omega), decide_eq_false (by omega)]) ?_
    by_cases c1 : every < 1 ∨ every > 604800
    · rw [if_pos c1]
      refine Ev.step (f := fun k => inspect_Right.j1 k true items every signs) (fun k => ?_) ?_
      · rw [inspect_Right.j0, if_neg (by simp)]
        by_cases c2 : every < 1
        · rw [if_pos c2]
        · rw [if_neg c2, decide_eq_true (by omega)]
      · exact Ev.step (f := fun _ => some 2) (fun k => by rw [inspect_Right.j1, if_pos rfl]) (Ev.now _)
    · rw [if_neg c1]
      refine Ev.step (f := fun k => inspect_Right.j1 k false items every signs) (fun k => by rw [inspect_Right.j0, if_neg (by simp), if_neg (by omega), decide_eq_false (by omega)]) ?_
      refine Ev.step (f := fun k => (inspect_items.f k items).bind fun t107 => (if t107 = 0 then (inspect_Right.l0 k 0 signs (signs.length : Int) 0 items every signs) else (some t107))) (fun k => by rw [inspect_Right.j1, if_neg (by simp)]) ?_
      have h := items_ev items hi items.length 0 (by omega) (by omega)
      refine Ev.bind (f := fun k t107 => (if t107 = 0 then (inspect_Right.l0 k 0 signs (signs.length : Int) 0 items every signs) else (some t107))) (a := itemsE [] items) h ?_
      by_cases e : itemsE [] items = 0
      · rw [if_neg (by simpa using e)]
        exact Ev.pos e (signs_ev items every signs hi hl signs.length 0 0 (by omega) (by omega))
      · rw [if_pos e]
        exact Ev.neg e (Ev.now _)
end Go.Proofs.Ytmhggplhfcmgkaa.Q
