/- Plain laws and readings for the seat's proofs (this session's). -/
import Derived.RangeFuncNested
import Derived.Shelf.Abstract
import Derived.Deep.Slices
import Derived.ProofKit
import Derived.OpenShut
import Derived.ChangeOld
import Derived.Lib.SmallJoins
import Derived.WalkSpells
import Derived.Test.YtgfiidgigenibaaC55
namespace Go.Proofs.Ytgfiidgigenibaa.Q
open Go.RowKit Go.Proofs.YtgfiidgigenibaaW.PrintWords Go.Proofs.YtgfiidgigenibaaW.PrintLast Go.Proofs.YtgfiidgigenibaaW.PrintMore
set_option linter.unusedVariables false
set_option linter.unusedSimpArgs false
/-! ### crossings that Right accepts -/
/-- By how much the crossings up to the time t change the number. -/
def sumTo (t : Int) : List S28 → Int
  | [] => 0
  | c :: l => (if c.f3 ≤ t then chg c else 0) + sumTo t l
def sumAll : List S28 → Int
  | [] => 0
  | c :: l => chg c + sumAll l
theorem chg_val {c : S28} (h : inRange c) : chg c = if c.f0 = 1 then c.f2 else -c.f2 := by
  unfold chg inRange at *
  split
  · rfl
  · unfold wrap64; omega
theorem chg_bd {c : S28} (h : inRange c) : -1000 ≤ chg c ∧ chg c ≤ 1000 := by
  rw [chg_val h]; unfold inRange at h; split <;> omega
/-- What Right = OK says: all in range, the times in order, the number never less than nought. -/
structure Good (p n : Int) (l : List S28) : Prop where
  rng : ∀ c ∈ l, inRange c
  ord : ∀ c ∈ l, p ≤ c.f3
  srt : l.Pairwise (fun a b => a.f3 ≤ b.f3)
  pos : ∀ j, j ≤ l.length → 0 ≤ n + sumAll (l.take j)
theorem rightE_good : ∀ (l : List S28) (p : Option Int) (n : Int), 0 ≤ n → n + 1000 * l.length ≤ 9000000000000000000 → rightE p n l = 0 → Good (p.getD (-1)) n l
  | [], p, n, h0, _, _ => ⟨fun c h => by simp at h, fun c h => by simp at h, List.Pairwise.nil, fun j hj => by simp [sumAll]; exact h0⟩
  | c :: l, p, n, h0, hb, h => by
    rw [rightE] at h
    by_cases c1 : inRange c
    case neg => (rw [if_pos c1] at h; exact absurd h (by decide))
    rw [if_neg (fun hh => hh c1)] at h
    by_cases c2 : early p c.f3 = true
    · rw [if_pos c2] at h; exact absurd h (by decide)
    rw [if_neg c2] at h
    have hcb := chg_bd c1
    have hw : wrap64 (n + chg c) = n + chg c := by simp only [List.length_cons] at hb; unfold wrap64; omega
    rw [hw] at h
    by_cases c3 : n + chg c < 0
    · rw [if_pos c3] at h; exact absurd h (by decide)
    rw [if_neg c3] at h
    have g := rightE_good l (some c.f3) (n + chg c) (by omega) (by simp only [List.length_cons] at hb; omega) h
    have hpc : p.getD (-1) ≤ c.f3 := by
      cases p with
      | none => unfold inRange at c1; simp; omega
      | some q => simp [early] at c2; simpa using c2
    simp only [Option.getD_some] at g
    refine ⟨fun x hx => ?_, fun x hx => ?_, ?_, fun j hj => ?_⟩
    · rcases List.mem_cons.1 hx with rfl | hx
      · exact c1
      · exact g.rng x hx
    · rcases List.mem_cons.1 hx with rfl | hx
      · exact hpc
      · exact Int.le_trans hpc (g.ord x hx)
    · exact List.Pairwise.cons (fun x hx => g.ord x hx) g.srt
    · cases j with
      | zero => simp [sumAll]; exact h0
      | succ j =>
        have := g.pos j (by simp only [List.length_cons] at hj; omega)
        simp only [List.take_succ_cons, sumAll]
        omega
theorem good_of_right {l : List S28} (hl : l.length ≤ 100) (h : rightF l = 0) : Good (-1) 0 l := by
  unfold rightF at h
  rw [if_neg (by omega)] at h
  exact rightE_good l none 0 (by omega) (by omega) h
theorem sumTo_bd (t : Int) : ∀ l : List S28, (∀ c ∈ l, inRange c) → -(1000 * l.length : Int) ≤ sumTo t l ∧ sumTo t l ≤ 1000 * l.length
  | [], _ => by simp [sumTo]
  | c :: l, h => by
    have := sumTo_bd t l (fun x hx => h x (List.mem_cons_of_mem _ hx))
    have hc := chg_bd (h c (List.mem_cons_self ..))
    simp only [sumTo, List.length_cons]
    split <;> omega
theorem onF_sum (t : Int) : ∀ (l : List S28) (n : Int), (∀ c ∈ l, inRange c) → -9000000000000000000 ≤ n - 1000 * l.length → n + 1000 * l.length ≤ 9000000000000000000 → onF t n l = n + sumTo t l
  | [], n, _, _, _ => by simp [onF, sumTo]
  | c :: l, n, h, h1, h2 => by
    have hc := chg_bd (h c (List.mem_cons_self ..))
    have hr : ∀ x ∈ l, inRange x := fun x hx => h x (List.mem_cons_of_mem _ hx)
    simp only [List.length_cons] at h1 h2
    rw [onF, sumTo]
    by_cases c1 : c.f3 ≤ t
    · rw [if_pos c1, if_pos c1, show wrap64 (n + chg c) = n + chg c by unfold wrap64; omega, onF_sum t l _ hr (by omega) (by omega)]; omega
    · rw [if_neg c1, if_neg c1, onF_sum t l n hr (by omega) (by omega)]; omega
theorem on_sum {l : List S28} (hl : l.length ≤ 100) (h : ∀ c ∈ l, inRange c) (t : Int) : onF t 0 l = sumTo t l := by rw [onF_sum t l 0 h (by omega) (by omega)]; omega
/-- Sorted by time: the crossings up to t are the first ones. -/
theorem sumTo_prefix (t : Int) : ∀ l : List S28, l.Pairwise (fun a b => a.f3 ≤ b.f3) → ∃ j, j ≤ l.length ∧ sumTo t l = sumAll (l.take j) ∧ (∀ c ∈ l.take j, c.f3 ≤ t) ∧ (∀ c ∈ l.drop j, t < c.f3)
  | [], _ => ⟨0, by simp, by simp [sumTo, sumAll], by simp, by simp⟩
  | c :: l, h => by
    rw [List.pairwise_cons] at h
    obtain ⟨h1, h2⟩ := h
    by_cases c1 : c.f3 ≤ t
    · obtain ⟨j, hj, hs, ha, hb⟩ := sumTo_prefix t l h2
      refine ⟨j + 1, by simp; omega, by simp only [sumTo, if_pos c1, List.take_succ_cons, sumAll]; omega, fun x hx => ?_, fun x hx => hb x (by simpa using hx)⟩
      rw [List.take_succ_cons] at hx
      rcases List.mem_cons.1 hx with rfl | hx
      · exact c1
      · exact ha x hx
    · have hz : sumTo t l = 0 := by
        have : ∀ m : List S28, (∀ x ∈ m, t < x.f3) → sumTo t m = 0 := by
          intro m
          induction m with
          | nil => intro _; rfl
          | cons y m ih => intro hm; rw [sumTo, if_neg (by have := hm y (List.mem_cons_self ..); omega), ih (fun x hx => hm x (List.mem_cons_of_mem _ hx))]; omega
        exact this l (fun x hx => by have := h1 x hx; omega)
      refine ⟨0, by simp, by simp [sumTo, if_neg c1, hz, sumAll], by simp, fun x hx => ?_⟩
      simp only [List.drop_zero] at hx
      rcases List.mem_cons.1 hx with rfl | hx
      · omega
      · have := h1 x hx; omega
end Go.Proofs.Ytgfiidgigenibaa.Q
