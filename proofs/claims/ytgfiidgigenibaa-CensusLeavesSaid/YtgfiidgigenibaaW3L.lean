/- Plain laws and readings for the seat's proofs (this session's). -/
import Derived.RangeFuncNested
import Derived.Shelf.Abstract
import Derived.Deep.Slices
import Derived.ProofKit
import Derived.OpenShut
import Derived.ChangeOld
import Derived.Lib.SmallJoins
import Derived.WalkSpells
import Derived.Test.YtgfiidgigenibaaW1L
import Derived.Test.YtgfiidgigenibaaQ16
import Derived.Test.YtgfiidgigenibaaF4L
namespace Go.Proofs.Ytgfiidgigenibaa.Q
open Go.RowKit Go.Proofs.YtgfiidgigenibaaW.PrintWords Go.Proofs.YtgfiidgigenibaaW.PrintLast Go.Proofs.YtgfiidgigenibaaW.PrintMore
set_option linter.unusedVariables false
set_option linter.unusedSimpArgs false
/-! ### the edges of the persons' ways down, and what can flow -/
def edA (e : List Int) : List S44 → Nat → List S67
  | [], _ => []
  | r :: c, n => if r.f0 ∈ e then ⟨n, r.f2, r.f3, (5 - r.f4) * 500⟩ :: edA e c (n + 1) else edA e c n
def edB : List Int → Nat → List S67
  | [], _ => []
  | b :: d, n => ⟨n, b, 0, 1000000⟩ :: edB d (n + 1)
def edAll (e : List Int) (c : List S44) (d : List Int) : List S67 := edA e c 0 ++ edB d (edA e c 0).length
theorem edA_len (e : List Int) : ∀ (c : List S44) (n : Nat), (edA e c n).length ≤ c.length
  | [], _ => Nat.le_refl _
  | r :: c, n => by
    rw [edA, List.length_cons]
    split
    · have := edA_len e c (n + 1); rw [List.length_cons]; omega
    · have := edA_len e c n; omega
theorem edB_len : ∀ (d : List Int) (n : Nat), (edB d n).length = d.length
  | [], _ => rfl
  | b :: d, n => by rw [edB, List.length_cons, List.length_cons, edB_len d (n + 1)]
theorem edgesA_ev {a : List S62} (e : List Int) (he : e.length ≤ big) : ∀ (c : List S44) (acc : List S67), (∀ r ∈ c, RunOk a r) → acc.length + c.length ≤ 1000000 → Ev (fun k => edgesA k e c acc) (acc ++ edA e c acc.length)
  | [], acc, _, _ => by rw [edA, List.append_nil]; exact Ev.now _
  | r :: c, acc, h, hl => by
    rw [List.length_cons] at hl
    have hr := h r (List.mem_cons_self ..)
    have h' := fun x hx => h x (List.mem_cons_of_mem r hx)
    refine Ev.bind (contains_ev e he r.f0) ?_
    rw [edA]
    by_cases m : r.f0 ∈ e
    · rw [if_pos m, show wrap64 (wrap64 (5 - r.f4) * 500) = (5 - r.f4) * 500 by have := hr.2.2; unfold wrap64; omega]
      refine Ev.pos (decide_eq_true m) (Ev.pos (by omega) ?_)
      have := edgesA_ev (a := a) e he c (acc ++ [⟨acc.length, r.f2, r.f3, (5 - r.f4) * 500⟩]) h' (by rw [List.length_append, List.length_singleton]; omega)
      rwa [List.length_append, List.length_singleton, List.append_assoc] at this
    · rw [if_neg m]
      exact Ev.neg (by simp [m]) (edgesA_ev (a := a) e he c acc h' (by omega))
theorem edgesB_eq : ∀ (d : List Int) (acc : List S67), acc.length + d.length ≤ 1000000 → edgesB d acc = some (acc ++ edB d acc.length)
  | [], acc, _ => by rw [edgesB, edB, List.append_nil]
  | b :: d, acc, hl => by
    rw [List.length_cons] at hl
    rw [edgesB, if_pos (by omega), edgesB_eq d _ (by rw [List.length_append, List.length_singleton]; omega), edB, List.length_append, List.length_singleton, List.append_assoc]
    rfl
theorem egress_of {a : List S62} {b : List S82} {c : List S44} {d e : List Int} (hm : MapOk a c d) (hc : c.length ≤ 1000) (he : e.length ≤ big) (n : Int) {v : Int} (h : IsNode a n → Ev (fun k => flow_Max.f k (edAll e c d) n 0) v) (h0 : ¬ IsNode a n → v = 0) : Ev (fun k => census_Egress.f k a b c d e n) v := by
  unfold census_Egress.f
  have hd := hm.few
  by_cases c1 : IsNode a n
  · refine Ev.pos ((any_node a n).2 c1) ?_
    have := edgesA_ev (a := a) e he c [] hm.run (by simp; omega)
    refine Ev.bind this ?_
    have hl := edA_len e c 0
    refine Ev.congr (fun k => by rw [edgesB_eq d _ (by simp; omega), Option.bind_some]) ?_
    exact h c1
  · rw [h0 c1]
    exact Ev.neg (fun hh => c1 ((any_node a n).1 hh)) (Ev.now _)
theorem edAll_ok {a : List S62} {c : List S44} {d : List Int} (hm : MapOk a c d) (e : List Int) : ∀ x ∈ edAll e c d, 0 < x.f3 ∧ x.f3 ≤ 1000000 ∧ ((∃ r ∈ c, r.f0 ∈ e ∧ x.f1 = r.f2 ∧ x.f2 = r.f3) ∨ (x.f1 ∈ d ∧ x.f2 = 0)) := by
  have hA : ∀ (c' : List S44) (n : Nat), (∀ r ∈ c', r ∈ c) → ∀ x ∈ edA e c' n, 0 < x.f3 ∧ x.f3 ≤ 1000000 ∧ ∃ r ∈ c, r.f0 ∈ e ∧ x.f1 = r.f2 ∧ x.f2 = r.f3 := by
    intro c'
    induction c' with
    | nil => intro n _ x hx; simp [edA] at hx
    | cons r c' ih =>
      intro n hs x hx
      have hr := (hm.run r (hs r (List.mem_cons_self ..))).2.2
      rw [edA] at hx
      by_cases m : r.f0 ∈ e
      · rw [if_pos m] at hx
        rcases List.mem_cons.1 hx with rfl | hx
        · exact ⟨by show 0 < (5 - r.f4) * 500; omega, by show (5 - r.f4) * 500 ≤ 1000000; omega, r, hs r (List.mem_cons_self ..), m, rfl, rfl⟩
        · exact ih _ (fun y hy => hs y (List.mem_cons_of_mem _ hy)) x hx
      · rw [if_neg m] at hx
        exact ih _ (fun y hy => hs y (List.mem_cons_of_mem _ hy)) x hx
  have hB : ∀ (d' : List Int) (n : Nat), (∀ b ∈ d', b ∈ d) → ∀ x ∈ edB d' n, 0 < x.f3 ∧ x.f3 ≤ 1000000 ∧ x.f1 ∈ d ∧ x.f2 = 0 := by
    intro d'
    induction d' with
    | nil => intro n _ x hx; simp [edB] at hx
    | cons b d' ih =>
      intro n hs x hx
      rw [edB] at hx
      rcases List.mem_cons.1 hx with rfl | hx
      · exact ⟨by show (0 : Int) < 1000000; omega, Int.le_refl _, hs b (List.mem_cons_self ..), rfl⟩
      · exact ih _ (fun y hy => hs y (List.mem_cons_of_mem _ hy)) x hx
  intro x hx
  rcases List.mem_append.1 hx with hx | hx
  · obtain ⟨h1, h2, h3⟩ := hA c 0 (fun _ h => h) x hx; exact ⟨h1, h2, Or.inl h3⟩
  · obtain ⟨h1, h2, h3⟩ := hB d _ (fun _ h => h) x hx; exact ⟨h1, h2, Or.inr h3⟩
end Go.Proofs.Ytgfiidgigenibaa.Q
