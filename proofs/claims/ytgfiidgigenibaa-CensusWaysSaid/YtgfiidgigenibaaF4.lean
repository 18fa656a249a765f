/- Plain laws and readings for the seat's proofs (this session's). -/
import Derived.RangeFuncNested
import Derived.Shelf.Abstract
import Derived.Deep.Slices
import Derived.ProofKit
import Derived.OpenShut
import Derived.ChangeOld
import Derived.Lib.SmallJoins
import Derived.WalkSpells
import Derived.Test.YtgfiidgigenibaaF3
namespace Go.Proofs.Ytgfiidgigenibaa.Q
open Go.RowKit Go.Proofs.YtgfiidgigenibaaW.PrintWords Go.Proofs.YtgfiidgigenibaaW.PrintLast Go.Proofs.YtgfiidgigenibaaW.PrintMore
set_option linter.unusedVariables false
set_option linter.unusedSimpArgs false
theorem findL_spec (l : List S67) (s t : Int) (hst : s ≠ t) (hc : CapOk l) (hl : l.length ≤ 1000000) (d : Nat) : ∀ f : List Int, FOk l f → (∀ u, u ≠ s → u ≠ t → netS l f u = 0) → capSum l - netS l f s ≤ d →
    ∃ g, (∃ K0 : Nat, ∀ K, K0 ≤ K → ∀ q, d + 1 ≤ q → findL K l s t q f = some g) ∧ FOk l g ∧ (∀ u, u ≠ s → u ≠ t → netS l g u = 0) ∧ ∃ M P, RInv l g s M P [] ∧ mlook M t = none := by
  induction d with
  | zero =>
    intro f hf hz hd
    obtain ⟨M, ⟨K1, hK1⟩, P, hR⟩ := reach_spec l f s hf.len hl
    replace hK1 : ∀ k, K1 ≤ k → flow_reach.f k l f s = some M := hK1
    cases hm : mlook M t with
    | none =>
      refine ⟨f, ⟨K1, fun K hK q hq => ?_⟩, hf, hz, M, P, hR, hm⟩
      obtain ⟨q', rfl⟩ : ∃ q', q = q' + 1 := ⟨q - 1, by omega⟩
      rw [findL, hK1 K hK, Option.bind_some, hm, if_neg (by simp)]
    | some y =>
      obtain ⟨ws, _, hb⟩ := path_spec hR hl (rk M t) t [] (by rw [hm]; rfl) (Nat.le_refl _) (by
        have h1 := rk_lt M t (by rw [hm]; rfl)
        have h2 := hR.len
        have h3 : M.length = P.length := by have := congrArg List.length hR.keys; simpa using this
        simp; omega)
      exfalso
      cases hb with
      | nil => exact hst rfl
      | @cons _ u x ws hts hmx hr hres hb =>
        obtain ⟨r, hrv, hr1, _⟩ := room_spec hf hc hres
        have hB : Back l f s M t (x :: ws) := .cons hts hmx hr hres hb
        obtain ⟨n, _, hn1, _, hnr⟩ := minR_spec hf hc hB r hr1
        obtain ⟨g', _, hg, hnet⟩ := addR_spec hf hc n hn1 hB hnr f hf (fun _ _ _ _ => rfl)
        have h1 := hnet s
        have h2 := netS_le l g' s hg.fit (fun e he => (hc e he).1)
        rw [if_pos rfl, if_neg (Ne.symm hst)] at h1
        omega
  | succ d ih =>
    intro f hf hz hd
    obtain ⟨M, ⟨K1, hK1⟩, P, hR⟩ := reach_spec l f s hf.len hl
    replace hK1 : ∀ k, K1 ≤ k → flow_reach.f k l f s = some M := hK1
    cases hm : mlook M t with
    | none =>
      refine ⟨f, ⟨K1, fun K hK q hq => ?_⟩, hf, hz, M, P, hR, hm⟩
      obtain ⟨q', rfl⟩ : ∃ q', q = q' + 1 := ⟨q - 1, by omega⟩
      rw [findL, hK1 K hK, Option.bind_some, hm, if_neg (by simp)]
    | some y =>
      obtain ⟨ws, ⟨K2, hK2⟩, hb⟩ := path_spec hR hl (rk M t) t [] (by rw [hm]; rfl) (Nat.le_refl _) (by
        have h1 := rk_lt M t (by rw [hm]; rfl)
        have h2 := hR.len
        have h3 : M.length = P.length := by have := congrArg List.length hR.keys; simpa using this
        simp; omega)
      cases hb with
      | nil => exact absurd rfl hst
      | @cons _ u x ws hts hmx hr hres hb =>
        obtain ⟨r, hrv, hr1, _⟩ := room_spec hf hc hres
        have hB : Back l f s M t (x :: ws) := .cons hts hmx hr hres hb
        obtain ⟨n, hmin, hn1, _, hnr⟩ := minR_spec hf hc hB r hr1
        obtain ⟨g', hadd, hg, hnet⟩ := addR_spec hf hc n hn1 hB hnr f hf (fun _ _ _ _ => rfl)
        have h1 := hnet s
        rw [if_pos rfl, if_neg (Ne.symm hst)] at h1
        obtain ⟨g, ⟨K3, hK3⟩, hgf, hgz, hM⟩ := ih g' hg (fun v hv1 hv2 => by
          have := hnet v
          rw [hz v hv1 hv2, if_neg (Ne.symm hv1), if_neg (Ne.symm hv2)] at this
          omega) (by omega)
        refine ⟨g, ⟨K1 + K2 + K3, fun K hK q hq => ?_⟩, hgf, hgz, hM⟩
        obtain ⟨q', rfl⟩ : ∃ q', q = q' + 1 := ⟨q - 1, by omega⟩
        have hp : flow_path.f K l M s t = some (x :: ws) := hK2 K (by omega)
        rw [findL, hK1 K (by omega), Option.bind_some, hm, if_pos (show (some y : Option (Int × Bool)).isSome = true from rfl), hp, Option.bind_some]
        simp only
        rw [hrv, Option.bind_some, hmin, Option.bind_some, hadd, Option.bind_some]
        exact hK3 K (by omega) q' (by omega)
theorem capSum_le : ∀ l : List S67, CapOk l → 0 ≤ capSum l ∧ capSum l ≤ 1000000 * l.length
  | [], _ => by simp [capSum]
  | e :: es, h => by
    have := capSum_le es (fun x hx => h x (List.mem_cons_of_mem _ hx))
    have := h e (List.mem_cons_self ..)
    simp only [capSum, List.length_cons]
    omega
theorem FOk.zero (l : List S67) (hc : CapOk l) : FOk l (List.replicate l.length 0) := ⟨List.length_replicate, fun j e x h1 h2 => by
  have := hc e (List.mem_of_getElem? h1)
  have h3 := List.mem_of_getElem? h2
  rw [List.eq_of_mem_replicate h3]
  omega⟩
theorem find_spec (l : List S67) (s t : Int) (hst : s ≠ t) (hc : CapOk l) (hl : l.length ≤ 1000000) :
    ∃ g, Ev (fun k => flow_Find.f k l s t) g ∧ FOk l g ∧ (∀ u, u ≠ s → u ≠ t → netS l g u = 0) ∧ ∃ M P, RInv l g s M P [] ∧ mlook M t = none := by
  obtain ⟨g, ⟨K0, hK⟩, h1, h2, h3⟩ := findL_spec l s t hst hc hl (capSum l).toNat (List.replicate l.length 0) (FOk.zero l hc) (fun u _ _ => netS_zero l l.length u) (by rw [netS_zero]; have := capSum_le l hc; omega)
  refine ⟨g, ⟨K0 + (capSum l).toNat + 1, fun k hk => ?_⟩, h1, h2, h3⟩
  show flow_Find.f k l s t = some g
  rw [flow_Find.f, if_pos (by omega), if_neg hst]
  exact hK k (by omega) k (by omega)
theorem get0_put (m : List (Int × Int)) (k v u : Int) : get0 (mput m k v) u = if k = u then v else get0 m u := by
  unfold get0
  induction m with
  | nil => simp only [mput, mlook]; split <;> rfl
  | cons p m ih =>
    obtain ⟨a, b⟩ := p
    rw [mput]
    by_cases c : a = k
    · subst c
      rw [if_pos rfl, mlook]
      by_cases e : a = u
      · rw [if_pos e, if_pos e]; rfl
      · rw [if_neg e, if_neg e, mlook, if_neg e]
    · rw [if_neg c, mlook]
      by_cases e : a = u
      · subst e; rw [if_pos rfl, if_neg (Ne.symm c), mlook, if_pos rfl]
      · rw [if_neg e, ih, mlook, if_neg e]
theorem surpL_spec : ∀ (es : List S67) (xs : List Int) (m : List (Int × Int)) (b : Int), es.length = xs.length → (∀ x ∈ xs, 0 ≤ x ∧ x ≤ 1000000) → (∀ u, -b ≤ get0 m u ∧ get0 m u ≤ b) → b + 2000000 * es.length ≤ 9000000000000000000 →
    ∃ m', surpL es xs m = some m' ∧ ∀ u, get0 m' u = get0 m u + netS es xs u
  | [], xs, m, b, _, _, _, _ => ⟨m, rfl, fun u => by unfold netS; omega⟩
  | e :: es, [], m, b, h, _, _, _ => by simp at h
  | e :: es, x :: xs, m, b, h1, h2, h3, h4 => by
    simp only [List.length_cons] at h1 h4
    have hx := h2 x (List.mem_cons_self ..)
    have hw1 : wrap64 (get0 m e.f1 + x) = get0 m e.f1 + x := by have := h3 e.f1; unfold wrap64; omega
    have hm1 : ∀ u, get0 (mput m e.f1 (get0 m e.f1 + x)) u = get0 m u + (if e.f1 = u then x else 0) := fun u => by
      rw [get0_put]
      by_cases c : e.f1 = u
      · subst c; rw [if_pos rfl, if_pos rfl]
      · rw [if_neg c, if_neg c]; omega
    have hw2 : wrap64 (get0 (mput m e.f1 (get0 m e.f1 + x)) e.f2 - x) = get0 (mput m e.f1 (get0 m e.f1 + x)) e.f2 - x := by
      have := h3 e.f2
      rw [hm1]; unfold wrap64; split <;> omega
    have hm2 : ∀ u, get0 (mput (mput m e.f1 (get0 m e.f1 + x)) e.f2 (get0 (mput m e.f1 (get0 m e.f1 + x)) e.f2 - x)) u = get0 m u + ((if e.f1 = u then x else 0) - (if e.f2 = u then x else 0)) := fun u => by
      rw [get0_put]
      by_cases c : e.f2 = u
      · subst c; rw [if_pos rfl, if_pos rfl, hm1]; omega
      · rw [if_neg c, if_neg c, hm1]; omega
    obtain ⟨m', h5, h6⟩ := surpL_spec es xs _ (b + 2000000) (by omega) (fun y hy => h2 y (List.mem_cons_of_mem _ hy)) (fun u => by have := h3 u; rw [hm2]; split <;> split <;> omega) (by omega)
    refine ⟨m', by rw [surpL, hw1, hw2]; exact h5, fun u => ?_⟩
    rw [h6 u, hm2, netS]
    omega
theorem FOk.bd {l : List S67} {f : List Int} (h : FOk l f) (hc : CapOk l) : ∀ x ∈ f, 0 ≤ x ∧ x ≤ 1000000 := fun x hx => by
  obtain ⟨j, hj, rfl⟩ := List.mem_iff_getElem.1 hx
  have h1 : f[j]? = some f[j] := List.getElem?_eq_getElem hj
  have h2 : l[j]? = some (l[j]'(by rw [← h.len]; exact hj)) := List.getElem?_eq_getElem _
  have := h.fit j _ _ h2 h1
  have := hc _ (List.mem_of_getElem? h2)
  omega
theorem value_spec {l : List S67} {f : List Int} (h : FOk l f) (hc : CapOk l) (hl : l.length ≤ 1000000) (s : Int) : flow_Value.f l f s = some (netS l f s) := by
  obtain ⟨m', h1, h2⟩ := surpL_spec l f [] 0 h.len.symm (h.bd hc) (fun u => by simp [get0, mlook]) (by omega)
  unfold flow_Value.f flow_surplus.f
  rw [h1, Option.bind_some, h2 s]
  simp [get0, mlook]
/-- What Max comes to: the value of a flow to which nothing can be added. -/
theorem max_spec (l : List S67) (s t : Int) (hst : s ≠ t) (hc : CapOk l) (hl : l.length ≤ 1000000) :
    ∃ g, Ev (fun k => flow_Max.f k l s t) (netS l g s) ∧ FOk l g ∧ (∀ u, u ≠ s → u ≠ t → netS l g u = 0) ∧ ∃ M P, RInv l g s M P [] ∧ mlook M t = none := by
  obtain ⟨g, h1, h2, h3⟩ := find_spec l s t hst hc hl
  refine ⟨g, ?_, h2, h3⟩
  refine Ev.congr (fun k => by rw [flow_Max.f, if_neg hst]) ?_
  exact Ev.bind (f := fun _ f => flow_Value.f l f s) h1 (Ev.congr (fun _ => value_spec h2 hc hl s) (Ev.now _))
end Go.Proofs.Ytgfiidgigenibaa.Q
