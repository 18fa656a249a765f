/- Plain laws and readings for the seat's proofs (this session's). -/
import Derived.RangeFuncNested
import Derived.Shelf.Abstract
import Derived.Deep.Slices
import Derived.ProofKit
import Derived.OpenShut
import Derived.ChangeOld
import Derived.Lib.SmallJoins
import Derived.WalkSpells
import Derived.Test.YtgfiidgigenibaaF3
namespace Go.Proofs.Ytgfiidgigenibaa.Q
open Go.RowKit Go.Proofs.YtgfiidgigenibaaW.PrintWords Go.Proofs.YtgfiidgigenibaaW.PrintLast Go.Proofs.YtgfiidgigenibaaW.PrintMore
set_option linter.unusedVariables false
set_option linter.unusedSimpArgs false
theorem capSum_le : ∀ l : List S67, CapOk l → 0 ≤ capSum l ∧ capSum l ≤ 1000000 * l.length
  | [], _ => by simp [capSum]
  | e :: es, h => by
    have := capSum_le es (fun x hx => h x (List.mem_cons_of_mem _ hx))
    have := h e (List.mem_cons_self ..)
    simp only [capSum, List.length_cons]
    omega
theorem FOk.zero (l : List S67) (hc : CapOk l) : FOk l (List.replicate l.length 0) := ⟨List.length_replicate, fun j e x h1 h2 => by
  have := hc e (List.mem_of_getElem? h1)
  have h3 := List.mem_of_getElem? h2
  rw [List.eq_of_mem_replicate h3]
  omega⟩
theorem get0_put (m : List (Int × Int)) (k v u : Int) : get0 (mput m k v) u = if k = u then v else get0 m u := by
  unfold get0
  induction m with
  | nil => simp only [mput, mlook]; split <;> rfl
  | cons p m ih =>
    obtain ⟨a, b⟩ := p
    rw [mput]
    by_cases c : a = k
    · subst c
      rw [if_pos rfl, mlook]
      by_cases e : a = u
      · rw [if_pos e, if_pos e]; rfl
      · rw [if_neg e, if_neg e, mlook, if_neg e]
    · rw [if_neg c, mlook]
      by_cases e : a = u
      · subst e; rw [if_pos rfl, if_neg (Ne.symm c), mlook, if_pos rfl]
      · rw [if_neg e, ih, mlook, if_neg e]
theorem surpL_spec : ∀ (es : List S67) (xs : List Int) (m : List (Int × Int)) (b : Int), es.length = xs.length → (∀ x ∈ xs, 0 ≤ x ∧ x ≤ 1000000) → (∀ u, -b ≤ get0 m u ∧ get0 m u ≤ b) → b + 2000000 * es.length ≤ 9000000000000000000 →
    ∃ m', surpL es xs m = some m' ∧ ∀ u, get0 m' u = get0 m u + netS es xs u
  | [], xs, m, b, _, _, _, _ => ⟨m, rfl, fun u => by unfold netS; omega⟩
  | e :: es, [], m, b, h, _, _, _ => by simp at h
  | e :: es, x :: xs, m, b, h1, h2, h3, h4 => by
    simp only [List.length_cons] at h1 h4
    have hx := h2 x (List.mem_cons_self ..)
    have hw1 : wrap64 (get0 m e.f1 + x) = get0 m e.f1 + x := by have := h3 e.f1; unfold wrap64; omega
    have hm1 : ∀ u, get0 (mput m e.f1 (get0 m e.f1 + x)) u = get0 m u + (if e.f1 = u then x else 0) := fun u => by
      rw [get0_put]
      by_cases c : e.f1 = u
      · subst c; rw [if_pos rfl, if_pos rfl]
      · rw [if_neg c, if_neg c]; omega
    have hw2 : wrap64 (get0 (mput m e.f1 (get0 m e.f1 + x)) e.f2 - x) = get0 (mput m e.f1 (get0 m e.f1 + x)) e.f2 - x := by
      have := h3 e.f2
      rw [hm1]; unfold wrap64; split <;> omega
    have hm2 : ∀ u, get0 (mput (mput m e.f1 (get0 m e.f1 + x)) e.f2 (get0 (mput m e.f1 (get0 m e.f1 + x)) e.f2 - x)) u = get0 m u + ((if e.f1 = u then x else 0) - (if e.f2 = u then x else 0)) := fun u => by
      rw [get0_put]
      by_cases c : e.f2 = u
      · subst c; rw [if_pos rfl, if_pos rfl, hm1]; omega
      · rw [if_neg c, if_neg c, hm1]; omega
    obtain ⟨m', h5, h6⟩ := surpL_spec es xs _ (b + 2000000) (by omega) (fun y hy => h2 y (List.mem_cons_of_mem _ hy)) (fun u => by have := h3 u; rw [hm2]; split <;> split <;> omega) (by omega)
    refine ⟨m', by rw [surpL, hw1, hw2]; exact h5, fun u => ?_⟩
    rw [h6 u, hm2, netS]
    omega
theorem FOk.bd {l : List S67} {f : List Int} (h : FOk l f) (hc : CapOk l) : ∀ x ∈ f, 0 ≤ x ∧ x ≤ 1000000 := fun x hx => by
  obtain ⟨j, hj, rfl⟩ := List.mem_iff_getElem.1 hx
  have h1 : f[j]? = some f[j] := List.getElem?_eq_getElem hj
  have h2 : l[j]? = some (l[j]'(by rw [← h.len]; exact hj)) := List.getElem?_eq_getElem _
  have := h.fit j _ _ h2 h1
  have := hc _ (List.mem_of_getElem? h2)
  omega
theorem value_spec {l : List S67} {f : List Int} (h : FOk l f) (hc : CapOk l) (hl : l.length ≤ 1000000) (s : Int) : flow_Value.f l f s = some (netS l f s) := by
  obtain ⟨m', h1, h2⟩ := surpL_spec l f [] 0 h.len.symm (h.bd hc) (fun u => by simp [get0, mlook]) (by omega)
  unfold flow_Value.f flow_surplus.f
  rw [h1, Option.bind_some, h2 s]
  simp [get0, mlook]
end Go.Proofs.Ytgfiidgigenibaa.Q
