/- Plain laws and readings for the seat's proofs (this session's). -/
import Derived.RangeFuncNested
import Derived.Shelf.Abstract
import Derived.Deep.Slices
import Derived.ProofKit
import Derived.OpenShut
import Derived.ChangeOld
import Derived.Lib.SmallJoins
import Derived.WalkSpells
import Derived.Test.YtgfiidgigenibaaC55
import Derived.Test.YtgfiidgigenibaaQ15
namespace Go.Proofs.Ytgfiidgigenibaa.Q
open Go.RowKit Go.Proofs.YtgfiidgigenibaaW.PrintWords Go.Proofs.YtgfiidgigenibaaW.PrintLast Go.Proofs.YtgfiidgigenibaaW.PrintMore
set_option linter.unusedVariables false
set_option linter.unusedSimpArgs false
/-! ### what is left of the capacities; the search over it -/
theorem mlook_append {α : Type} (m A : List (Int × α)) (v : Int) : mlook (m ++ A) v = if (mlook m v).isSome = true then mlook m v else mlook A v := by
  induction m with
  | nil => simp [mlook]
  | cons p m ih =>
    obtain ⟨k, u⟩ := p
    rw [List.cons_append, mlook, mlook]
    by_cases c : k = v
    · rw [if_pos c, if_pos c]; simp
    · rw [if_neg c, if_neg c, ih]
theorem mlook_some {α : Type} (m : List (Int × α)) (v : Int) : (mlook m v).isSome = true ↔ v ∈ m.map Prod.fst := by
  induction m with
  | nil => simp [mlook]
  | cons p m ih =>
    obtain ⟨k, u⟩ := p
    rw [mlook]
    by_cases c : k = v
    · subst c; simp
    · rw [if_neg c, ih]; simp; exact fun h => absurd h.symm c
theorem mlook_mem {α : Type} {m : List (Int × α)} {v : Int} {y : α} (h : mlook m v = some y) : (v, y) ∈ m := by
  induction m with
  | nil => cases h
  | cons p m ih =>
    obtain ⟨k, u⟩ := p
    rw [mlook] at h
    by_cases c : k = v
    · subst c; rw [if_pos rfl] at h; cases h; exact List.mem_cons_self ..
    · rw [if_neg c] at h; exact List.mem_cons_of_mem _ (ih h)
theorem mput_new {α : Type} (m : List (Int × α)) (v : Int) (y : α) (h : mlook m v = none) : mput m v y = m ++ [(v, y)] := by
  induction m with
  | nil => rfl
  | cons p m ih =>
    obtain ⟨k, u⟩ := p
    rw [mlook] at h
    by_cases c : k = v
    · rw [if_pos c] at h; cases h
    · rw [if_neg c] at h; rw [mput, if_neg c, ih h, List.cons_append]
/-- From u more can flow to v: along the edge y.1, or back along it. -/
def Res (l : List S67) (f : List Int) (u v : Int) (y : Int × Bool) : Prop :=
  ∃ (j : Nat) (e : S67) (x : Int), y.1 = j ∧ l[j]? = some e ∧ f[j]? = some x ∧ ((y.2 = false ∧ e.f1 = u ∧ e.f2 = v ∧ x < e.f3) ∨ (y.2 = true ∧ e.f2 = u ∧ e.f1 = v ∧ 0 < x))
theorem visitP_eq (v : Int) (y : Int × Bool) (m : List (Int × (Int × Bool))) (q : List Int) : ∃ A : List (Int × (Int × Bool)), visitP v y m q = (m ++ A, q ++ A.map Prod.fst) ∧ (∀ p ∈ A, p = (v, y) ∧ mlook m v = none) ∧ A.length ≤ 1 ∧ (mlook (m ++ A) v).isSome = true := by
  unfold visitP
  cases h : mlook m v with
  | some z => exact ⟨[], by simp, by simp, by simp, by simp [h]⟩
  | none =>
    refine ⟨[(v, y)], by simp [mput_new m v y h], fun p hp => ⟨by simpa using hp, rfl⟩, by simp, ?_⟩
    rw [mlook_append, h]; simp [mlook]
/-- One visit of an edge, or none. -/
theorem visit_if (c : Prop) [Decidable c] (v : Int) (y : Int × Bool) (m : List (Int × (Int × Bool))) (q : List Int) : ∃ A : List (Int × (Int × Bool)), (if c then visitP v y m q else (m, q)) = (m ++ A, q ++ A.map Prod.fst) ∧ (∀ p ∈ A, p = (v, y) ∧ mlook m v = none ∧ c) ∧ A.length ≤ 1 ∧ (c → (mlook (m ++ A) v).isSome = true) := by
  by_cases h : c
  · obtain ⟨A, h1, h2, h3, h4⟩ := visitP_eq v y m q
    exact ⟨A, by rw [if_pos h, h1], fun p hp => ⟨(h2 p hp).1, (h2 p hp).2, h⟩, h3, fun _ => h4⟩
  · exact ⟨[], by rw [if_neg h]; simp, by simp, by simp, fun hc => absurd hc h⟩
theorem isSome_append {α : Type} (m A : List (Int × α)) (v : Int) (h : (mlook m v).isSome = true) : (mlook (m ++ A) v).isSome = true := by
  rw [mlook_append, if_pos h]; exact h
theorem none_of_append {α : Type} {m A : List (Int × α)} {v : Int} (h : mlook (m ++ A) v = none) : mlook m v = none ∧ mlook A v = none := by
  rw [mlook_append] at h
  cases hm : mlook m v with
  | none => rw [hm] at h; simp at h; exact ⟨rfl, h⟩
  | some z => rw [hm] at h; simp at h
theorem nodup1 {A : List (Int × (Int × Bool))} (h : A.length ≤ 1) : (A.map Prod.fst).Nodup := by
  match A, h with
  | [], _ => exact List.nodup_nil
  | [p], _ => simp
  | p :: q :: r, h => simp at h
theorem reachE_spec (l : List S67) (f : List Int) (n : Int) : ∀ (es : List S67) (xs : List Int) (j : Nat) (m : List (Int × (Int × Bool))) (q : List Int), es = l.drop j → xs = f.drop j → es.length = xs.length → q.length + 2 * es.length < 17592186044413 →
    ∃ A : List (Int × (Int × Bool)), reachE n es xs (j : Int) m q = some (m ++ A, q ++ A.map Prod.fst) ∧ A.length ≤ 2 * es.length ∧ (∀ p ∈ A, mlook m p.1 = none ∧ Res l f n p.1 p.2) ∧ (A.map Prod.fst).Nodup ∧ (∀ v y, Res l f n v y → (j : Int) ≤ y.1 → (mlook (m ++ A) v).isSome = true)
  | [], xs, j, m, q, h1, h2, h3, h4 => by
    refine ⟨[], by rw [reachE]; simp, by simp, by simp, by simp, fun v y hr hj => ?_⟩
    obtain ⟨j', e, x, hy, hl, _⟩ := hr
    have hlen : l.length ≤ j := by
      have := congrArg List.length h1
      simp at this; omega
    have := (List.getElem?_eq_some_iff.1 hl).1
    omega
  | e :: es, [], j, m, q, h1, h2, h3, h4 => by simp at h3
  | e :: es, x :: xs, j, m, q, h1, h2, h3, h4 => by
    have hl : l[j]? = some e := by
      have := congrArg (fun z => z[0]?) h1
      simp at this; exact this.symm
    have hf : f[j]? = some x := by
      have := congrArg (fun z => z[0]?) h2
      simp at this; exact this.symm
    have h1' : es = l.drop (j + 1) := by
      have := congrArg List.tail h1
      simpa using this
    have h2' : xs = f.drop (j + 1) := by
      have := congrArg List.tail h2
      simpa using this
    simp only [List.length_cons] at h3 h4
    obtain ⟨A1, a1, a2, a3, a4⟩ := visit_if (e.f1 = n ∧ x < e.f3) e.f2 ((j : Int), false) m q
    obtain ⟨A2, b1, b2, b3, b4⟩ := visit_if (e.f2 = n ∧ 0 < x) e.f1 ((j : Int), true) (m ++ A1) (q ++ A1.map Prod.fst)
    obtain ⟨A3, c1, c2, c3, c4, c5⟩ := reachE_spec l f n es xs (j + 1) (m ++ A1 ++ A2) (q ++ A1.map Prod.fst ++ A2.map Prod.fst) h1' h2' (by omega) (by simp; omega)
    refine ⟨A1 ++ A2 ++ A3, ?_, by simp; omega, fun p hp => ?_, ?_, fun v y hr hj => ?_⟩
    · rw [reachE, if_pos (by omega)]
      simp only [a1, b1]
      have e1 : (j : Int) + 1 = ((j + 1 : Nat) : Int) := by omega
      rw [e1, c1]
      simp [List.append_assoc]
    · rcases List.mem_append.1 hp with hp | hp
      · rcases List.mem_append.1 hp with hp | hp
        · obtain ⟨rfl, hn, hc⟩ := a2 p hp
          exact ⟨hn, j, e, x, rfl, hl, hf, Or.inl ⟨rfl, hc.1, rfl, hc.2⟩⟩
        · obtain ⟨rfl, hn, hc⟩ := b2 p hp
          exact ⟨(none_of_append hn).1, j, e, x, rfl, hl, hf, Or.inr ⟨rfl, hc.1, rfl, hc.2⟩⟩
      · obtain ⟨hn, hr⟩ := c3 p hp
        exact ⟨(none_of_append (none_of_append hn).1).1, hr⟩
    · rw [List.map_append, List.map_append]
      refine List.nodup_append.2 ⟨List.nodup_append.2 ⟨nodup1 a3, nodup1 b3, fun a ha b hb => ?_⟩, c4, fun a ha b hb => ?_⟩
      · rintro rfl
        obtain ⟨p, hp, rfl⟩ := List.mem_map.1 hb
        obtain ⟨rfl, hn, _⟩ := b2 p hp
        have := (mlook_some A1 e.f1).2 ha
        rw [(none_of_append hn).2] at this; cases this
      · rintro rfl
        obtain ⟨p, hp, rfl⟩ := List.mem_map.1 hb
        obtain ⟨hn, _⟩ := c3 p hp
        rw [← List.map_append] at ha
        have := (mlook_some (A1 ++ A2) p.1).2 ha
        rw [List.append_assoc] at hn
        rw [(none_of_append hn).2] at this; cases this
    · by_cases hj' : y.1 = (j : Int)
      · obtain ⟨j', e', x', hy, hl', hf', hcase⟩ := hr
        obtain rfl : j' = j := by omega
        rw [hl] at hl'; cases hl'
        rw [hf] at hf'; cases hf'
        rcases hcase with ⟨_, g1, g2, g3⟩ | ⟨_, g1, g2, g3⟩
        · have := a4 ⟨g1, g3⟩
          rw [g2] at this
          rw [List.append_assoc, ← List.append_assoc]
          exact isSome_append _ _ _ this
        · have := b4 ⟨g1, g3⟩
          rw [g2] at this
          rw [show m ++ (A1 ++ A2 ++ A3) = m ++ A1 ++ A2 ++ A3 by simp [List.append_assoc]]
          exact isSome_append _ _ _ this
      · have := c5 v y hr (by omega)
        rw [show m ++ (A1 ++ A2 ++ A3) = m ++ A1 ++ A2 ++ A3 by simp [List.append_assoc]]
        exact this
end Go.Proofs.Ytgfiidgigenibaa.Q
