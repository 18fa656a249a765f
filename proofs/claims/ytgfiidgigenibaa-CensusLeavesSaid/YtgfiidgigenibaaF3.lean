/- Plain laws and readings for the seat's proofs (this session's). -/
import Derived.RangeFuncNested
import Derived.Shelf.Abstract
import Derived.Deep.Slices
import Derived.ProofKit
import Derived.OpenShut
import Derived.ChangeOld
import Derived.Lib.SmallJoins
import Derived.WalkSpells
import Derived.Test.YtgfiidgigenibaaF2
namespace Go.Proofs.Ytgfiidgigenibaa.Q
open Go.RowKit Go.Proofs.YtgfiidgigenibaaW.PrintWords Go.Proofs.YtgfiidgigenibaaW.PrintLast Go.Proofs.YtgfiidgigenibaaW.PrintMore
set_option linter.unusedVariables false
set_option linter.unusedSimpArgs false
/-! ### a flow, and what is added along a way -/
structure FOk (l : List S67) (f : List Int) : Prop where
  len : f.length = l.length
  fit : ∀ (j : Nat) (e : S67) (x : Int), l[j]? = some e → f[j]? = some x → 0 ≤ x ∧ x ≤ e.f3
def CapOk (l : List S67) : Prop := ∀ e ∈ l, 0 ≤ e.f3 ∧ e.f3 ≤ 1000000
/-- What flows away from u, less what flows to it. -/
def netS : List S67 → List Int → Int → Int
  | e :: es, x :: xs, u => (if e.f1 = u then x else 0) - (if e.f2 = u then x else 0) + netS es xs u
  | _, _, _ => 0
def capSum : List S67 → Int
  | [] => 0
  | e :: es => e.f3 + capSum es
theorem netS_set : ∀ (l : List S67) (f : List Int) (j : Nat) (e : S67) (x d u : Int), l[j]? = some e → f[j]? = some x → netS l (f.set j (x + d)) u = netS l f u + ((if e.f1 = u then d else 0) - (if e.f2 = u then d else 0))
  | [], _, _, _, _, _, _, h, _ => by simp at h
  | _ :: _, [], _, _, _, _, _, _, h => by simp at h
  | e' :: es, y :: ys, 0, e, x, d, u, h1, h2 => by
    simp only [List.getElem?_cons_zero, Option.some.injEq] at h1 h2
    subst h1 h2
    rw [List.set_cons_zero, netS, netS]
    split <;> split <;> omega
  | e' :: es, y :: ys, j + 1, e, x, d, u, h1, h2 => by
    simp only [List.getElem?_cons_succ] at h1 h2
    rw [List.set_cons_succ, netS, netS, netS_set es ys j e x d u h1 h2]
    omega
theorem netS_zero : ∀ (l : List S67) (n : Nat) (u : Int), netS l (List.replicate n 0) u = 0
  | [], n, u => by unfold netS; rfl
  | e :: es, 0, u => rfl
  | e :: es, n + 1, u => by rw [List.replicate_succ, netS, netS_zero es n u]; split <;> split <;> omega
theorem netS_le : ∀ (l : List S67) (f : List Int) (u : Int), (∀ (j : Nat) (e : S67) (x : Int), l[j]? = some e → f[j]? = some x → 0 ≤ x ∧ x ≤ e.f3) → (∀ e ∈ l, 0 ≤ e.f3) → netS l f u ≤ capSum l
  | [], f, u, _, _ => by unfold netS; simp [capSum]
  | e :: es, [], u, _, h => by
    have := netS_le es [] u (fun j e x _ h => by simp at h) (fun x hx => h x (List.mem_cons_of_mem _ hx))
    have h0 := h e (List.mem_cons_self ..)
    have e1 : netS es [] u = 0 := by cases es <;> rfl
    rw [netS.eq_def, capSum]
    simp only
    omega
  | e :: es, x :: xs, u, h, hc => by
    have ih := netS_le es xs u (fun j e' x' h1 h2 => h (j + 1) e' x' (by simpa using h1) (by simpa using h2)) (fun x hx => hc x (List.mem_cons_of_mem _ hx))
    have h0 := h 0 e x rfl rfl
    rw [netS, capSum]
    split <;> split <;> omega
theorem rd_get {f : List Int} {j : Nat} {x : Int} (h : f[j]? = some x) : rd f (j : Int) = x := by simp [rd, List.getD_eq_getElem?_getD, h]
theorem rd67_get {l : List S67} {j : Nat} {e : S67} (h : l[j]? = some e) : rd_T67 l (j : Int) = e := by simp [rd_T67, List.getD_eq_getElem?_getD, h]
/-- The room of a step that the search took: at least one. -/
theorem room_spec {l : List S67} {f : List Int} (hf : FOk l f) (hc : CapOk l) {u t : Int} {x : S90} (h : Res l f u t (x.f0, x.f1)) : ∃ r, roomV l f x = some r ∧ 1 ≤ r ∧ ∃ (j : Nat) (e : S67) (y : Int), x.f0 = j ∧ l[j]? = some e ∧ f[j]? = some y ∧ ((x.f1 = false ∧ e.f1 = u ∧ e.f2 = t ∧ r = e.f3 - y) ∨ (x.f1 = true ∧ e.f2 = u ∧ e.f1 = t ∧ r = y)) := by
  obtain ⟨j, e, y, hj, hl, hy, hcase⟩ := h
  simp only at hj
  have hjl := (List.getElem?_eq_some_iff.1 hl).1
  have hjf := (List.getElem?_eq_some_iff.1 hy).1
  have hfit := hf.fit j e y hl hy
  have hcap := hc e (List.mem_of_getElem? hl)
  unfold roomV
  rcases hcase with ⟨hb, g1, g2, g3⟩ | ⟨hb, g1, g2, g3⟩
  · simp only at hb
    refine ⟨e.f3 - y, ?_, by omega, j, e, y, hj, hl, hy, Or.inl ⟨hb, g1, g2, rfl⟩⟩
    rw [hb, if_neg (by simp), hj, if_pos ⟨by omega, by omega, by omega⟩, rd67_get hl, rd_get hy]
    rw [show wrap64 (e.f3 - y) = e.f3 - y by unfold wrap64; omega]
  · simp only at hb
    refine ⟨y, ?_, by omega, j, e, y, hj, hl, hy, Or.inr ⟨hb, g1, g2, rfl⟩⟩
    rw [if_pos hb, hj, if_pos ⟨by omega, by omega⟩, rd_get hy]
theorem minR_spec {l : List S67} {f : List Int} {s : Int} {M : List (Int × (Int × Bool))} (hf : FOk l f) (hc : CapOk l) : ∀ {t : Int} {ws : List S90}, Back l f s M t ws → ∀ n0 : Int, 1 ≤ n0 → ∃ n, minR l f ws n0 = some n ∧ 1 ≤ n ∧ n ≤ n0 ∧ ∀ x ∈ ws, ∀ r, roomV l f x = some r → n ≤ r := by
  intro t ws h
  induction h with
  | nil => exact fun n0 h0 => ⟨n0, rfl, h0, Int.le_refl _, fun x hx => by cases hx⟩
  | cons hts hm hr hres _ ih =>
    intro n0 h0
    obtain ⟨r, hrv, hr1, _⟩ := room_spec hf hc hres
    obtain ⟨n, h1, h2, h3, h4⟩ := ih (if r < n0 then r else n0) (by split <;> omega)
    refine ⟨n, by rw [minR, hrv, Option.bind_some]; exact h1, h2, by split at h3 <;> omega, fun x hx r' hr' => ?_⟩
    rcases List.mem_cons.1 hx with rfl | hx
    · rw [hrv] at hr'; cases hr'; split at h3 <;> omega
    · exact h4 x hx r' hr'
theorem Back.later {l : List S67} {f : List Int} {s : Int} {M : List (Int × (Int × Bool))} : ∀ {t : Int} {ws : List S90}, Back l f s M t ws → ∀ x ∈ ws, ∃ u' t', rk M t' ≤ rk M t ∧ rk M u' < rk M t' ∧ Res l f u' t' (x.f0, x.f1) := by
  intro t ws h
  induction h with
  | nil => exact fun x hx => by cases hx
  | cons hts hm hr hres _ ih =>
    intro x hx
    rcases List.mem_cons.1 hx with rfl | hx
    · exact ⟨_, _, Nat.le_refl _, hr, hres⟩
    · obtain ⟨u', t', h1, h2, h3⟩ := ih x hx
      exact ⟨u', t', by omega, h2, h3⟩
/-- No edge comes twice. -/
theorem Back.apart {l : List S67} {f : List Int} {s : Int} {M : List (Int × (Int × Bool))} {t u : Int} {x : S90} {ws : List S90} (hr : rk M u < rk M t) (hres : Res l f u t (x.f0, x.f1)) (hb : Back l f s M u ws) : ∀ x' ∈ ws, x'.f0 ≠ x.f0 := by
  intro x' hx' he
  obtain ⟨u', t', h1, h2, h3⟩ := hb.later x' hx'
  obtain ⟨j, e, y, hj, hl, hy, hcase⟩ := hres
  obtain ⟨j', e', y', hj', hl', hy', hcase'⟩ := h3
  simp only at hj hj'
  obtain rfl : j' = j := by omega
  rw [hl] at hl'; cases hl'
  rcases hcase with ⟨_, g1, g2, _⟩ | ⟨_, g1, g2, _⟩ <;> rcases hcase' with ⟨_, g1', g2', _⟩ | ⟨_, g1', g2', _⟩ <;> subst g1 g2 <;> subst g1' g2' <;> omega
theorem addR_spec {l : List S67} {f : List Int} {s : Int} {M : List (Int × (Int × Bool))} (hf : FOk l f) (hc : CapOk l) (n : Int) (hn : 1 ≤ n) : ∀ {t : Int} {ws : List S90}, Back l f s M t ws → (∀ x ∈ ws, ∀ r, roomV l f x = some r → n ≤ r) → ∀ g : List Int, FOk l g → (∀ x ∈ ws, ∀ j : Nat, x.f0 = j → g[j]? = f[j]?) →
    ∃ g', addR n ws g = some g' ∧ FOk l g' ∧ ∀ u, netS l g' u = netS l g u + ((if s = u then n else 0) - (if t = u then n else 0)) := by
  intro t ws h
  induction h with
  | nil => exact fun _ g hg _ => ⟨g, rfl, hg, fun u => by split <;> omega⟩
  | @cons t u x ws hts hm hr hres hb ih =>
    intro hrm g hg hsame
    obtain ⟨r, hrv, hr1, j, e, y, hj, hl, hy, hcase⟩ := room_spec hf hc hres
    have hnr := hrm x (List.mem_cons_self ..) r hrv
    have hgj : g[j]? = some y := by rw [hsame x (List.mem_cons_self ..) j hj]; exact hy
    have hjg := (List.getElem?_eq_some_iff.1 hgj).1
    have hcap := hc e (List.mem_of_getElem? hl)
    have hfit := hf.fit j e y hl hy
    -- the change
    obtain ⟨d, hd, hset, hnet⟩ : ∃ d : Int, (0 ≤ y + d ∧ y + d ≤ e.f3) ∧ (if x.f1 = true then wrap64 (rd g x.f0 - n) else wrap64 (rd g x.f0 + n)) = y + d ∧ ∀ v : Int, ((if e.f1 = v then d else 0) - (if e.f2 = v then d else 0)) = ((if u = v then n else 0) - (if t = v then n else 0)) := by
      rcases hcase with ⟨hb1, g1, g2, g3⟩ | ⟨hb1, g1, g2, g3⟩
      · refine ⟨n, by omega, ?_, fun v => by rw [g1, g2]⟩
        rw [hb1, if_neg (by simp), hj, rd_get hgj]; unfold wrap64; omega
      · refine ⟨-n, by omega, ?_, fun v => by rw [g1, g2]; split <;> split <;> omega⟩
        rw [if_pos hb1, hj, rd_get hgj]; unfold wrap64; omega
    have hg2 : FOk l (g.set j (y + d)) := ⟨by rw [List.length_set]; exact hg.len, fun i e' x' h1 h2 => by
      by_cases hij : j = i
      · subst hij
        rw [hl] at h1; cases h1
        rw [List.getElem?_set_self hjg] at h2; cases h2
        exact hd
      · rw [List.getElem?_set_ne hij] at h2
        exact hg.fit i e' x' h1 h2⟩
    obtain ⟨g', h1, h2, h3⟩ := ih (fun x' hx' => hrm x' (List.mem_cons_of_mem _ hx')) (g.set j (y + d)) hg2 (fun x' hx' i hi => by
      have hne := Back.apart hr hres hb x' hx'
      rw [List.getElem?_set_ne (by omega)]
      exact hsame x' (List.mem_cons_of_mem _ hx') i hi)
    refine ⟨g', ?_, h2, fun v => ?_⟩
    · rw [addR, if_pos ⟨by omega, by omega⟩, hset, show x.f0.toNat = j by omega]; exact h1
    · rw [h3 v, netS_set l g j e y d v hl hgj, hnet v]; split <;> split <;> split <;> omega
end Go.Proofs.Ytgfiidgigenibaa.Q
