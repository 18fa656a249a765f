/- Plain laws and readings for the seat's proofs (this session's). -/
import Derived.RangeFuncNested
import Derived.Shelf.Abstract
import Derived.Deep.Slices
import Derived.ProofKit
import Derived.OpenShut
import Derived.ChangeOld
import Derived.Lib.SmallJoins
import Derived.WalkSpells
import Derived.Test.YtgfiidgigenibaaC55
import Derived.Test.YtgfiidgigenibaaQ9
import Derived.Test.YtgfiidgigenibaaQ35
namespace Go.Proofs.Ytgfiidgigenibaa.Q
open Go.RowKit Go.Proofs.YtgfiidgigenibaaW.PrintWords Go.Proofs.YtgfiidgigenibaaW.PrintLast Go.Proofs.YtgfiidgigenibaaW.PrintMore
set_option linter.unusedVariables false
set_option linter.unusedSimpArgs false
/-! ### small lists -/
theorem drop_at {α : Type} (l : List α) (z : α) (i : Int) (h0 : 0 ≤ i) (h1 : i < l.length) : l.drop i.toNat = l.getD i.toNat z :: l.drop (i + 1).toNat := by
  rw [List.drop_eq_getElem_cons (by omega), show (i + 1).toNat = i.toNat + 1 by omega]
  simp [List.getD_eq_getElem?_getD, List.getElem?_eq_getElem (show i.toNat < l.length by omega)]
theorem getD_in {α : Type} (l : List α) (z : α) (i : Int) (h0 : 0 ≤ i) (h1 : i < l.length) : l.getD i.toNat z ∈ l := List.mem_of_mem_drop (by rw [drop_at l z i h0 h1]; exact List.mem_cons_self ..)
theorem drop_nil {α : Type} (l : List α) (i : Int) (h : i = l.length) : l.drop i.toNat = [] := List.drop_eq_nil_of_le (by omega)
def big : Nat := 9223372036854775807
/-- A loop that goes up to n, from its end down. -/
theorem up_loop (n : Nat) (T : Int → Prop) (h0 : T n) (hs : ∀ i : Int, 0 ≤ i → i < n → T (i + 1) → T i) : T 0 := by
  have : ∀ (d : Nat) (i : Int), 0 ≤ i → i + d = n → T i := by
    intro d
    induction d with
    | zero => intro i _ h; rw [show i = n by omega]; exact h0
    | succ d ih => intro i h h2; exact hs i h (by omega) (ih (i + 1) (by omega) (by omega))
  exact this n 0 (by omega) (by omega)
theorem mem_drop {α : Type} [DecidableEq α] (l : List α) (z : α) (i : Int) (h0 : 0 ≤ i) (h1 : i < l.length) (n : α) : n ∈ l.drop i.toNat ↔ n = l.getD i.toNat z ∨ n ∈ l.drop (i + 1).toNat := by
  rw [drop_at l z i h0 h1, List.mem_cons]
theorem contains_ev (l : List Int) (hl : l.length ≤ big) (n : Int) : Ev (fun k => slices_Contains_int_int.f k l n) (decide (n ∈ l)) := by
  have : ∃ r : Int, Ev (fun k => slices_Index_int_int.f k l n) r ∧ (r ≥ 0 ↔ n ∈ l) := by
    have := up_loop l.length (fun i => ∃ r : Int, Ev (fun k => slices_Index_int_int.l0 k l n (l.length : Int) i) r ∧ (r ≥ 0 ↔ n ∈ l.drop i.toNat)) ?_ (fun i h0 h1 ih => ?_)
    · exact this
    · rw [drop_nil l _ rfl]
      exact ⟨-1, Ev.step (f := fun _ => some (-1)) (fun k => by rw [slices_Index_int_int.l0, if_neg (by omega)]) (Ev.now _), by simp⟩
    · by_cases c : n = rd l i
      · exact ⟨i, Ev.step (fun k => by rw [slices_Index_int_int.l0, if_pos h1, if_pos h0, if_pos h1, if_pos c]) (Ev.now _), ⟨fun _ => (mem_drop l 0 i h0 h1 n).2 (Or.inl c), fun _ => h0⟩⟩
      · obtain ⟨r, hr, hi⟩ := ih
        refine ⟨r, Ev.step (fun k => by rw [slices_Index_int_int.l0, if_pos h1, if_pos h0, if_pos h1, if_neg c, wrap_inc h0 h1 hl]) hr, ?_⟩
        rw [hi, mem_drop l 0 i h0 h1 n]
        exact ⟨Or.inr, fun h => h.resolve_left c⟩
  obtain ⟨r, hr, hi⟩ := this
  refine Ev.bind hr ?_
  rw [show decide (r ≥ 0) = decide (n ∈ l) from decide_eq_decide.2 hi]
  exact Ev.now _
/-! ### the map -/
/-- An answer comes, and it is 0 at most if Q. -/
def Ans (f : Nat → Option Int) (Q : Prop) : Prop := ∃ r, Ev f r ∧ (r = 0 → Q)
theorem Ans.step {f g : Nat → Option Int} {Q : Prop} (h : ∀ k, f (k + 1) = g k) : Ans g Q → Ans f Q | ⟨r, a, b⟩ => ⟨r, Ev.step h a, b⟩
theorem Ans.congr {f g : Nat → Option Int} {Q : Prop} (h : ∀ k, f k = g k) : Ans g Q → Ans f Q | ⟨r, a, b⟩ => ⟨r, Ev.congr h a, b⟩
theorem Ans.no {n : Int} {Q : Prop} (h : n ≠ 0) : Ans (fun _ => some n) Q := ⟨n, Ev.now _, fun e => absurd e h⟩
theorem Ans.yes {n : Int} {Q : Prop} (h : Q) : Ans (fun _ => some n) Q := ⟨n, Ev.now _, fun _ => h⟩
theorem Ans.pos {c : Prop} [Decidable c] {f g : Nat → Option Int} {Q : Prop} (h : c) : Ans f Q → Ans (fun k => if c then f k else g k) Q | ⟨r, a, b⟩ => ⟨r, Ev.pos h a, b⟩
theorem Ans.neg {c : Prop} [Decidable c] {f g : Nat → Option Int} {Q : Prop} (h : ¬ c) : Ans g Q → Ans (fun k => if c then f k else g k) Q | ⟨r, a, b⟩ => ⟨r, Ev.neg h a, b⟩
theorem Ans.bind {α : Type} {g : Nat → Option α} {f : Nat → α → Option Int} {a : α} {Q : Prop} (h : Ev g a) : Ans (fun k => f k a) Q → Ans (fun k => (g k).bind (f k)) Q | ⟨r, x, y⟩ => ⟨r, Ev.bind h x, y⟩
theorem Ans.imp {f : Nat → Option Int} {Q R : Prop} (h : Q → R) : Ans f Q → Ans f R | ⟨r, x, y⟩ => ⟨r, x, fun e => h (y e)⟩
/-- One answer after another: the first that is not 0. -/
theorem Ans.then {f g : Nat → Option Int} {Q R : Prop} : Ans f Q → (Q → Ans g R) → Ans (fun k => (f k).bind fun t => if t = 0 then g k else some t) R
  | ⟨r, x, y⟩, hg => by
    refine Ans.bind x ?_
    by_cases c : r = 0
    · exact Ans.pos c (hg (y c))
    · exact Ans.neg c (Ans.no c)
theorem in_eq (a b c : Int) : skiarearef10_in.f a b c = some (decide (b ≤ a ∧ a ≤ c)) := by
  unfold skiarearef10_in.f
  by_cases h : a ≥ b
  · rw [if_pos h]; by_cases h2 : a ≤ c <;> simp [h, h2] <;> omega
  · rw [if_neg h]; simp; omega
def IsNode (l : List S62) (n : Int) : Prop := ∃ x ∈ l, x.f0 = n
theorem any_node (l : List S62) (n : Int) : (l.any fun x => decide (x.f0 = n)) = true ↔ IsNode l n := by simp [IsNode]
section
variable (a : List S62) (b : List S82) (c : List S44) (d : List Int)
theorem node_ev (hl : a.length ≤ big) (n : Int) : ∃ r : Int × Int × Bool, Ev (fun k => skiarearef10_Node.f k a b c d n) r ∧ (r.2.2 = true → IsNode a n) := by
  have := up_loop a.length (fun i => ∃ r : Int × Int × Bool, Ev (fun k => skiarearef10_Node.l0 k n i a b c d) r ∧ (r.2.2 = true → IsNode a n)) ?_ (fun i h0 h1 ih => ?_)
  · exact this
  · exact ⟨(0, 0, false), Ev.step (f := fun _ => some (0, 0, false)) (fun k => by rw [skiarearef10_Node.l0, if_neg (by omega)]) (Ev.now _), by simp⟩
  · by_cases e : (rd_T62 a i).f0 = n
    · exact ⟨_, Ev.step (fun k => by rw [skiarearef10_Node.l0, if_pos h1, if_pos h0, if_pos e]) (Ev.now _), fun _ => ⟨_, getD_in a z62 i h0 h1, e⟩⟩
    · obtain ⟨r, x, y⟩ := ih
      exact ⟨r, Ev.step (fun k => by rw [skiarearef10_Node.l0, if_pos h1, if_pos h0, if_neg e, wrap_inc h0 h1 hl]) x, y⟩
theorem rises_ans (hl : a.length ≤ big) (n m : Int) : Ans (fun k => skiarearef10_rises.f k a b c d n m) (IsNode a n ∧ IsNode a m) := by
  obtain ⟨r, x, y⟩ := node_ev a b c d hl n
  obtain ⟨r', x', y'⟩ := node_ev a b c d hl m
  unfold skiarearef10_rises.f
  refine Ans.bind x (Ans.bind x' ?_)
  by_cases e : r.2.2 = true
  · refine Ans.pos e ?_
    by_cases e' : r'.2.2 = true
    · refine Ans.step (fun k => by rw [skiarearef10_rises.j0, if_neg (by rw [e']; simp)]) ?_
      by_cases e2 : r'.2.1 ≤ r.2.1
      · exact Ans.pos e2 (Ans.no (by omega))
      · exact Ans.neg e2 (Ans.yes ⟨y e, y' e'⟩)
    · exact Ans.step (f := fun k => _) (g := fun _ => some 8) (fun k => by rw [skiarearef10_rises.j0, if_pos (by simpa using e')]) (Ans.no (by omega))
  · exact Ans.neg e (Ans.step (f := fun k => _) (g := fun _ => some 8) (fun k => by rw [skiarearef10_rises.j0, if_pos rfl]) (Ans.no (by omega)))
theorem nodes_ans (hl : a.length ≤ big) : Ans (fun k => skiarearef10_nodes.f k a) (∀ x ∈ a, 1 ≤ x.f0) := by
  have := up_loop a.length (fun i => Ans (fun k => skiarearef10_nodes.l0 k a i) (∀ x ∈ a.drop i.toNat, 1 ≤ x.f0)) ?_ (fun i h0 h1 ih => ?_)
  · exact this
  · rw [drop_nil a _ rfl]
    exact Ans.step (g := fun _ => some 0) (fun k => by rw [skiarearef10_nodes.l0, if_neg (by omega)]) (Ans.yes (by simp))
  · have bad : Ans (fun k => skiarearef10_nodes.j1 k a i true) (∀ x ∈ a.drop i.toNat, 1 ≤ x.f0) := Ans.step (g := fun _ => some 2) (fun k => by rw [skiarearef10_nodes.j1, if_pos rfl]) (Ans.no (by omega))
    refine Ans.step (fun k => by rw [skiarearef10_nodes.l0, if_pos h1, if_pos h0, in_eq, Option.bind_some]) ?_
    by_cases c1 : 1 ≤ (rd_T62 a i).f0 ∧ (rd_T62 a i).f0 ≤ 9999
    case neg => exact Ans.neg (by simp only [decide_eq_true_eq]; exact c1) bad
    refine Ans.pos (by simp only [decide_eq_true_eq]; exact c1) ?_
    refine Ans.congr (fun k => by rw [in_eq, Option.bind_some]) ?_
    by_cases c2 : 0 ≤ (rd_T62 a i).f1 ∧ (rd_T62 a i).f1 ≤ 5000
    case neg => rw [decide_eq_false c2]; exact bad
    rw [decide_eq_true c2]
    have ok : Ans (fun k => skiarearef10_nodes.l0 k a (i + 1)) (∀ x ∈ a.drop i.toNat, 1 ≤ x.f0) := ih.imp (fun h x hx => by
      rw [drop_at a z62 i h0 h1] at hx
      rcases List.mem_cons.1 hx with rfl | hx
      · exact c1.1
      · exact h x hx)
    refine Ans.step (fun k => by rw [skiarearef10_nodes.j1, if_neg (by simp), wrap_inc h0 h1 hl]) ?_
    by_cases hi : i > 0
    · have hw : wrap64 (i - 1) = i - 1 := by unfold wrap64; simp only [big] at hl; omega
      refine Ans.pos hi (Ans.pos h0 (Ans.pos h1 ?_))
      rw [hw]
      refine Ans.pos (by omega) (Ans.pos (by omega) ?_)
      by_cases e : (rd_T62 a i).f0 ≤ (rd_T62 a (i - 1)).f0
      · exact Ans.pos e (Ans.no (by omega))
      · exact Ans.neg e ok
    · exact Ans.neg hi ok
def RunOk (a : List S62) (r : S44) : Prop := IsNode a r.f2 ∧ IsNode a r.f3 ∧ 1 ≤ r.f4 ∧ r.f4 ≤ 4
theorem runs_ans (ha : a.length ≤ big) (hl : c.length ≤ big) : Ans (fun k => skiarearef10_runs.f k a b c d) (∀ x ∈ c, RunOk a x) := by
  have := up_loop c.length (fun i => Ans (fun k => skiarearef10_runs.l0 k i a b c d) (∀ x ∈ c.drop i.toNat, RunOk a x)) ?_ (fun i h0 h1 ih => ?_)
  · exact this
  · rw [drop_nil c _ rfl]
    exact Ans.step (g := fun _ => some 0) (fun k => by rw [skiarearef10_runs.l0, if_neg (by omega)]) (Ans.yes (by simp))
  · have hd := drop_at c z44 i h0 h1
    change c.drop i.toNat = rd_T44 c i :: c.drop (i + 1).toNat at hd
    rw [hd]
    generalize hr : rd_T44 c i = r
    have bad : Ans (fun k => skiarearef10_runs.j1 k i true a b c d r.f0 r.f1 r.f2 r.f3 r.f4 r.f5 r.f6) (∀ x ∈ r :: c.drop (i + 1).toNat, RunOk a x) := Ans.step (g := fun _ => some 2) (fun k => by rw [skiarearef10_runs.j1, if_pos rfl]) (Ans.no (by omega))
    refine Ans.step (fun k => by rw [skiarearef10_runs.l0, if_pos h1, if_pos h0, in_eq, Option.bind_some, hr]) ?_
    by_cases c1 : 1 ≤ r.f0 ∧ r.f0 ≤ 9999
    case neg => exact Ans.neg (by simp only [decide_eq_true_eq]; exact c1) bad
    refine Ans.pos (by simp only [decide_eq_true_eq]; exact c1) ?_
    refine Ans.congr (fun k => by rw [in_eq, Option.bind_some]) ?_
    by_cases c2 : 1 ≤ r.f1 ∧ r.f1 ≤ 8
    case neg => exact Ans.neg (by simp only [decide_eq_true_eq]; exact c2) bad
    refine Ans.pos (by simp only [decide_eq_true_eq]; exact c2) ?_
    refine Ans.congr (fun k => by rw [in_eq, Option.bind_some]) ?_
    by_cases c3 : 1 ≤ r.f4 ∧ r.f4 ≤ 4
    case neg => exact Ans.neg (by simp only [decide_eq_true_eq]; exact c3) bad
    refine Ans.pos (by simp only [decide_eq_true_eq]; exact c3) ?_
    refine Ans.congr (fun k => by rw [in_eq, Option.bind_some]) ?_
    by_cases c4 : 1 ≤ r.f5 ∧ r.f5 ≤ 32
    case neg => exact Ans.neg (by simp only [decide_eq_true_eq]; exact c4) bad
    refine Ans.pos (by simp only [decide_eq_true_eq]; exact c4) ?_
    refine Ans.congr (fun k => by rw [in_eq, Option.bind_some]) ?_
    by_cases c5 : 10 ≤ r.f6 ∧ r.f6 ≤ 20000
    case neg => rw [decide_eq_false c5]; exact bad
    rw [decide_eq_true c5]
    have ok : Ans (fun k => skiarearef10_runs.j2 k i false a b c d r.f0 r.f1 r.f2 r.f3 r.f4 r.f5 r.f6) (∀ x ∈ r :: c.drop (i + 1).toNat, RunOk a x) := by
      refine Ans.step (fun k => by rw [skiarearef10_runs.j2, if_neg (by simp), wrap_inc h0 h1 hl]) ?_
      refine Ans.then (rises_ans a b c d ha r.f3 r.f2) (fun hq => ih.imp (fun h x hx => ?_))
      rcases List.mem_cons.1 hx with rfl | hx
      · exact ⟨hq.2, hq.1, c3.1, c3.2⟩
      · exact h x hx
    have no : Ans (fun k => skiarearef10_runs.j2 k i true a b c d r.f0 r.f1 r.f2 r.f3 r.f4 r.f5 r.f6) (∀ x ∈ r :: c.drop (i + 1).toNat, RunOk a x) := Ans.step (g := fun _ => some 7) (fun k => by rw [skiarearef10_runs.j2, if_pos rfl]) (Ans.no (by omega))
    refine Ans.step (fun k => by rw [skiarearef10_runs.j1, if_neg (by simp)]) ?_
    by_cases hi : i > 0
    · have hw : wrap64 (i - 1) = i - 1 := by unfold wrap64; simp only [big] at hl; omega
      refine Ans.pos hi ?_
      rw [hw]
      refine Ans.pos (by omega) (Ans.pos (by omega) ?_)
      by_cases e : r.f0 ≤ (rd_T44 c (i - 1)).f0
      · rw [decide_eq_true e]; exact no
      · rw [decide_eq_false e]; exact ok
    · exact Ans.neg hi ok
theorem lifts_ans (ha : a.length ≤ big) (hl : b.length ≤ big) : Ans (fun k => skiarearef10_lifts.f k a b c d) True := by
  have := up_loop b.length (fun i => Ans (fun k => skiarearef10_lifts.l0 k i a b c d) True) ?_ (fun i h0 h1 ih => ?_)
  · exact this
  · exact Ans.step (g := fun _ => some 0) (fun k => by rw [skiarearef10_lifts.l0, if_neg (by omega)]) (Ans.yes trivial)
  · generalize hr : rd_T82 b i = r
    have bad : Ans (fun k => skiarearef10_lifts.j1 k i true a b c d r.f0 r.f1 r.f2 r.f3 r.f4 r.f5 r.f6 r.f7) True := Ans.step (g := fun _ => some 2) (fun k => by rw [skiarearef10_lifts.j1, if_pos rfl]) (Ans.no (by omega))
    refine Ans.step (fun k => by rw [skiarearef10_lifts.l0, if_pos h1, if_pos h0, in_eq, Option.bind_some, hr]) ?_
    by_cases c1 : 1 ≤ r.f0 ∧ r.f0 ≤ 9999
    case neg => exact Ans.neg (by simp only [decide_eq_true_eq]; exact c1) bad
    refine Ans.pos (by simp only [decide_eq_true_eq]; exact c1) ?_
    refine Ans.congr (fun k => by rw [in_eq, Option.bind_some]) ?_
    by_cases c2 : 1 ≤ r.f1 ∧ r.f1 ≤ 8
    case neg => exact Ans.neg (by simp only [decide_eq_true_eq]; exact c2) bad
    refine Ans.pos (by simp only [decide_eq_true_eq]; exact c2) ?_
    refine Ans.congr (fun k => by rw [in_eq, Option.bind_some]) ?_
    by_cases c3 : 10 ≤ r.f4 ∧ r.f4 ≤ 6000
    case neg => exact Ans.neg (by simp only [decide_eq_true_eq]; exact c3) bad
    refine Ans.pos (by simp only [decide_eq_true_eq]; exact c3) ?_
    refine Ans.congr (fun k => by rw [in_eq, Option.bind_some]) ?_
    by_cases c4 : 500 ≤ r.f5 ∧ r.f5 ≤ 12000
    case neg => exact Ans.neg (by simp only [decide_eq_true_eq]; exact c4) bad
    refine Ans.pos (by simp only [decide_eq_true_eq]; exact c4) ?_
    refine Ans.congr (fun k => by rw [in_eq, Option.bind_some]) ?_
    by_cases c6 : 1 ≤ r.f6 ∧ r.f6 ≤ 16
    case neg => exact Ans.neg (by simp only [decide_eq_true_eq]; exact c6) bad
    refine Ans.pos (by simp only [decide_eq_true_eq]; exact c6) ?_
    refine Ans.congr (fun k => by rw [in_eq, Option.bind_some]) ?_
    by_cases c5 : 5 ≤ r.f7 ∧ r.f7 ≤ 1000
    case neg => rw [decide_eq_false c5]; exact bad
    rw [decide_eq_true c5]
    have ok : Ans (fun k => skiarearef10_lifts.j2 k i false a b c d r.f0 r.f1 r.f2 r.f3 r.f4 r.f5 r.f6 r.f7) True := by
      refine Ans.step (fun k => by rw [skiarearef10_lifts.j2, if_neg (by simp), wrap_inc h0 h1 hl]) ?_
      refine Ans.then (rises_ans a b c d ha r.f2 r.f3) (fun hq => ?_)
      refine Ans.congr (fun k => by rw [skiarearef10_carriers.f, if_neg (show ¬ r.f7 = 0 by omega)]) ?_
      have : ∃ t : Bool, (if (Int.tmod (wrap64 (2 * r.f4)) r.f7) = 0 then ((skiarearef10_in.f (wrap64 (Int.tdiv (wrap64 (2 * r.f4)) r.f7)) 1 200).bind fun t228 => (some t228)) else (some false)) = some t := by
        by_cases e : (Int.tmod (wrap64 (2 * r.f4)) r.f7) = 0
        · exact ⟨_, by rw [if_pos e, in_eq]; rfl⟩
        · exact ⟨_, by rw [if_neg e]⟩
      obtain ⟨t, ht⟩ := this
      refine Ans.congr (fun k => by rw [ht, Option.bind_some]) ?_
      by_cases e : t = true
      · exact Ans.pos e ih
      · exact Ans.neg e (Ans.no (by omega))
    have no : Ans (fun k => skiarearef10_lifts.j2 k i true a b c d r.f0 r.f1 r.f2 r.f3 r.f4 r.f5 r.f6 r.f7) True := Ans.step (g := fun _ => some 7) (fun k => by rw [skiarearef10_lifts.j2, if_pos rfl]) (Ans.no (by omega))
    refine Ans.step (fun k => by rw [skiarearef10_lifts.j1, if_neg (by simp)]) ?_
    by_cases hi : i > 0
    · have hw : wrap64 (i - 1) = i - 1 := by unfold wrap64; simp only [big] at hl; omega
      refine Ans.pos hi ?_
      rw [hw]
      refine Ans.pos (by omega) (Ans.pos (by omega) ?_)
      by_cases e : r.f0 ≤ (rd_T82 b (i - 1)).f0
      · rw [decide_eq_true e]; exact no
      · rw [decide_eq_false e]; exact ok
    · exact Ans.neg hi ok
theorem bases_ans (ha : a.length ≤ big) (hl : d.length ≤ big) : Ans (fun k => skiarearef10_bases.f k a b c d) (∀ x ∈ d, IsNode a x) := by
  have two : ∀ Q : Prop, Q → Ans (fun k => skiarearef10_bases.l1 k 1 a b c d) Q := fun Q hq => by
    have main : ∀ (m : Nat) (i : Int), 1 ≤ i → i + m = d.length ∨ (d.length : Int) ≤ i → Ans (fun k => skiarearef10_bases.l1 k i a b c d) Q := by
      intro m
      induction m with
      | zero => intro i h0 h; exact Ans.step (g := fun _ => some 0) (fun k => by rw [skiarearef10_bases.l1, if_neg (by omega)]) (Ans.yes hq)
      | succ m ih =>
        intro i h0 h
        by_cases h1 : i < (d.length : Int)
        case neg => exact Ans.step (g := fun _ => some 0) (fun k => by rw [skiarearef10_bases.l1, if_neg h1]) (Ans.yes hq)
        have hw : wrap64 (i - 1) = i - 1 := by unfold wrap64; simp only [big] at hl; omega
        refine Ans.step (fun k => by rw [skiarearef10_bases.l1, if_pos h1, if_pos (show 0 ≤ i by omega), hw, if_pos (show 0 ≤ i - 1 by omega), if_pos (show i - 1 < (d.length : Int) by omega), wrap_inc (by omega) h1 hl]) ?_
        by_cases e : rd d i ≤ rd d (i - 1)
        · exact Ans.pos e (Ans.no (by omega))
        · exact Ans.neg e (ih (i + 1) (by omega) (by omega))
    exact main (d.length - 1) 1 (by omega) (by omega)
  unfold skiarearef10_bases.f
  by_cases e : (d.length : Int) = 0
  · exact Ans.pos e (Ans.no (by omega))
  refine Ans.neg e ?_
  have := up_loop d.length (fun i => (∀ x ∈ d.take i.toNat, IsNode a x) → Ans (fun k => skiarearef10_bases.l0 k i a b c d) (∀ x ∈ d, IsNode a x)) ?_ (fun i h0 h1 ih => ?_)
  · exact this (by simp)
  · intro h
    rw [List.take_of_length_le (by omega)] at h
    exact Ans.step (fun k => by rw [skiarearef10_bases.l0, if_neg (by omega)]) (two _ h)
  · intro h
    obtain ⟨r, x, y⟩ := node_ev a b c d ha (rd d i)
    refine Ans.step (fun k => by rw [skiarearef10_bases.l0, if_pos h1, if_pos h0, wrap_inc h0 h1 hl]) (Ans.bind x ?_)
    by_cases e : r.2.2 = true
    · refine Ans.pos e (ih (fun z hz => ?_))
      rw [show (i + 1).toNat = i.toNat + 1 by omega, List.take_succ_eq_append_getElem (by omega)] at hz
      rcases List.mem_append.1 hz with hz | hz
      · exact h z hz
      · have := y e
        rw [List.mem_singleton] at hz
        rw [hz]
        simpa [rd, List.getD_eq_getElem?_getD, List.getElem?_eq_getElem (show i.toNat < d.length by omega)] using this
    · exact Ans.neg e (Ans.no (by omega))
structure MapOk (a : List S62) (c : List S44) (d : List Int) : Prop where
  ids : ∀ x ∈ a, 1 ≤ x.f0
  run : ∀ x ∈ c, RunOk a x
  base : ∀ x ∈ d, IsNode a x
  few : d.length ≤ 64
theorem right10_ans (ha : a.length ≤ big) (hb : b.length ≤ big) (hc : c.length ≤ big) : Ans (fun k => skiarearef10_Right.f k a b c d) (MapOk a c d) := by
  have bad : Ans (fun k => skiarearef10_Right.j0 k true a b c d) (MapOk a c d) := Ans.step (g := fun _ => some 4) (fun k => by rw [skiarearef10_Right.j0, if_pos rfl]) (Ans.no (by omega))
  unfold skiarearef10_Right.f
  by_cases c1 : (a.length : Int) > 64
  · exact Ans.pos c1 bad
  refine Ans.neg c1 ?_
  by_cases c2 : (b.length : Int) > 32
  · exact Ans.pos c2 bad
  refine Ans.neg c2 ?_
  by_cases c3 : (c.length : Int) > 64
  · exact Ans.pos c3 bad
  refine Ans.neg c3 ?_
  by_cases c4 : (d.length : Int) > 64
  · rw [decide_eq_true c4]; exact bad
  rw [decide_eq_false c4]
  refine Ans.step (fun k => by rw [skiarearef10_Right.j0, if_neg (by simp)]) ?_
  refine Ans.then (nodes_ans a ha) (fun h1 => Ans.then (lifts_ans a b c d ha hb) (fun _ => Ans.then (runs_ans a b c d ha hc) (fun h3 => ?_)))
  obtain ⟨r, x, y⟩ := bases_ans a b c d ha (by simp only [big]; omega)
  refine Ans.bind x ⟨r, Ev.now _, fun e => ⟨h1, h3, y e, by omega⟩⟩
theorem small_ev (e : List Int) (ha : a.length ≤ big) (hb : b.length ≤ big) (hc : c.length ≤ big) : ∃ r : Bool, Ev (fun k => skiarealaw55_small.f k a b c d e) r ∧ (r = true → MapOk a c d ∧ a.length ≤ 12 ∧ c.length ≤ 16 ∧ b.length ≤ 16 ∧ e.length ≤ 100) := by
  unfold skiarealaw55_small.f
  by_cases c1 : (a.length : Int) ≤ 12
  case neg => exact ⟨false, Ev.neg c1 (Ev.now _), by simp⟩
  by_cases c2 : (c.length : Int) ≤ 16
  case neg => exact ⟨false, Ev.pos c1 (Ev.neg c2 (Ev.now _)), by simp⟩
  by_cases c3 : (b.length : Int) ≤ 16
  case neg => exact ⟨false, Ev.pos c1 (Ev.pos c2 (Ev.neg c3 (Ev.now _))), by simp⟩
  by_cases c4 : (e.length : Int) ≤ 100
  case neg => exact ⟨false, Ev.pos c1 (Ev.pos c2 (Ev.pos c3 (Ev.neg c4 (Ev.now _)))), by simp⟩
  obtain ⟨r, x, y⟩ := right10_ans a b c d ha hb hc
  exact ⟨r == 0, Ev.pos c1 (Ev.pos c2 (Ev.pos c3 (Ev.pos c4 (Ev.bind x (Ev.now _))))), fun hr => ⟨y (by simpa using hr), by omega, by omega, by omega, by omega⟩⟩
end

end Go.Proofs.Ytgfiidgigenibaa.Q
