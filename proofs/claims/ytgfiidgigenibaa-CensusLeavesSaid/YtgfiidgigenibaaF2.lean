/- Plain laws and readings for the seat's proofs (this session's). -/
import Derived.RangeFuncNested
import Derived.Shelf.Abstract
import Derived.Deep.Slices
import Derived.ProofKit
import Derived.OpenShut
import Derived.ChangeOld
import Derived.Lib.SmallJoins
import Derived.WalkSpells
import Derived.Test.YtgfiidgigenibaaF1
namespace Go.Proofs.Ytgfiidgigenibaa.Q
open Go.RowKit Go.Proofs.YtgfiidgigenibaaW.PrintWords Go.Proofs.YtgfiidgigenibaaW.PrintLast Go.Proofs.YtgfiidgigenibaaW.PrintMore
set_option linter.unusedVariables false
set_option linter.unusedSimpArgs false
theorem nodup_sub : ∀ (a b : List Int), a.Nodup → (∀ x ∈ a, x ∈ b) → a.length ≤ b.length
  | [], _, _, _ => Nat.zero_le _
  | x :: a, b, hn, hs => by
    rw [List.nodup_cons] at hn
    have hx : x ∈ b := hs x (List.mem_cons_self ..)
    have := nodup_sub a (b.erase x) hn.2 (fun y hy => (List.mem_erase_of_ne (by rintro rfl; exact hn.1 hy)).2 (hs y (List.mem_cons_of_mem _ hy)))
    rw [List.length_erase_of_mem hx] at this
    have := List.length_pos_of_mem hx
    simp only [List.length_cons]
    omega
/-- The place of a key. -/
def rk {α : Type} : List (Int × α) → Int → Nat
  | [], _ => 0
  | (k, _) :: m, u => if k = u then 0 else rk m u + 1
theorem rk_lt {α : Type} (m : List (Int × α)) (u : Int) (h : (mlook m u).isSome = true) : rk m u < m.length := by
  induction m with
  | nil => cases h
  | cons p m ih =>
    obtain ⟨k, y⟩ := p
    rw [mlook] at h
    rw [rk]
    by_cases c : k = u
    · rw [if_pos c]; simp
    · rw [if_neg c] at h ⊢; have := ih h; simp; omega
theorem rk_append {α : Type} (m A : List (Int × α)) (u : Int) (h : (mlook m u).isSome = true) : rk (m ++ A) u = rk m u := by
  induction m with
  | nil => cases h
  | cons p m ih =>
    obtain ⟨k, y⟩ := p
    rw [mlook] at h
    rw [List.cons_append, rk, rk]
    by_cases c : k = u
    · rw [if_pos c, if_pos c]
    · rw [if_neg c] at h; rw [if_neg c, if_neg c, ih h]
theorem rk_append_none {α : Type} (m A : List (Int × α)) (u : Int) (h : mlook m u = none) : m.length ≤ rk (m ++ A) u := by
  induction m with
  | nil => simp
  | cons p m ih =>
    obtain ⟨k, y⟩ := p
    rw [mlook] at h
    by_cases c : k = u
    · rw [if_pos c] at h; cases h
    · rw [if_neg c] at h; rw [List.cons_append, rk, if_neg c]; have := ih h; simp; omega
def nodesOf (l : List S67) (s : Int) : List Int := s :: (l.map (·.f1) ++ l.map (·.f2))
theorem nodesOf_len (l : List S67) (s : Int) : (nodesOf l s).length = 2 * l.length + 1 := by simp [nodesOf]; omega
theorem Res.mem {l : List S67} {f : List Int} {u v : Int} {y : Int × Bool} (h : Res l f u v y) (s : Int) : v ∈ nodesOf l s ∧ u ∈ nodesOf l s := by
  obtain ⟨j, e, x, _, hl, _, hc⟩ := h
  have he : e ∈ l := List.mem_of_getElem? hl
  unfold nodesOf
  rcases hc with ⟨_, h1, h2, _⟩ | ⟨_, h1, h2, _⟩ <;> subst h1 h2 <;> simp only [List.mem_cons, List.mem_append, List.mem_map] <;> exact ⟨Or.inr (by first | exact Or.inl ⟨e, he, rfl⟩ | exact Or.inr ⟨e, he, rfl⟩), Or.inr (by first | exact Or.inl ⟨e, he, rfl⟩ | exact Or.inr ⟨e, he, rfl⟩)⟩
/-- The search, when the nodes P are done and q wait. -/
structure RInv (l : List S67) (f : List Int) (s : Int) (m : List (Int × (Int × Bool))) (P q : List Int) : Prop where
  keys : m.map Prod.fst = P ++ q
  nodup : (m.map Prod.fst).Nodup
  root : (mlook m s).isSome = true
  tree : ∀ t y, mlook m t = some y → t = s ∨ ∃ u, (mlook m u).isSome = true ∧ rk m u < rk m t ∧ Res l f u t y
  shut : ∀ u ∈ P, ∀ v y, Res l f u v y → (mlook m v).isSome = true
  nodes : ∀ v ∈ m.map Prod.fst, v ∈ nodesOf l s
theorem RInv.len {l : List S67} {f : List Int} {s : Int} {m : List (Int × (Int × Bool))} {P q : List Int} (h : RInv l f s m P q) : P.length + q.length ≤ 2 * l.length + 1 := by
  have := nodup_sub _ _ h.nodup h.nodes
  rw [h.keys, List.length_append, nodesOf_len] at this
  exact this
theorem RInv.start (l : List S67) (f : List Int) (s : Int) : RInv l f s [(s, (-1, false))] [] [s] := by
  refine ⟨rfl, by simp, by simp [mlook], fun t y h => ?_, fun u hu => ?_, fun v hv => ?_⟩
  · rw [mlook] at h
    by_cases c : s = t
    · exact Or.inl c.symm
    · rw [if_neg c] at h; cases h
  · cases hu
  · simp at hv; subst hv; simp [nodesOf]
theorem RInv.next {l : List S67} {f : List Int} {s : Int} {m : List (Int × (Int × Bool))} {P q : List Int} {n : Int} (h : RInv l f s m P (n :: q)) {A : List (Int × (Int × Bool))}
    (h2 : ∀ p ∈ A, mlook m p.1 = none ∧ Res l f n p.1 p.2) (h3 : (A.map Prod.fst).Nodup) (h4 : ∀ v y, Res l f n v y → (mlook (m ++ A) v).isSome = true) : RInv l f s (m ++ A) (P ++ [n]) (q ++ A.map Prod.fst) := by
  have hn : (mlook m n).isSome = true := (mlook_some m n).2 (by rw [h.keys]; simp)
  refine ⟨by rw [List.map_append, h.keys]; simp, ?_, isSome_append _ _ _ h.root, fun t y hy => ?_, fun u hu v y hr => ?_, fun v hv => ?_⟩
  · rw [List.map_append]
    refine List.nodup_append.2 ⟨h.nodup, h3, fun a ha b hb => ?_⟩
    rintro rfl
    obtain ⟨p, hp, rfl⟩ := List.mem_map.1 hb
    have := (mlook_some m p.1).2 ha
    rw [(h2 p hp).1] at this; cases this
  · rw [mlook_append] at hy
    cases hm : mlook m t with
    | some z =>
      rw [hm, if_pos (show (some z : Option (Int × Bool)).isSome = true from rfl)] at hy
      cases hy
      rcases h.tree t _ hm with e | ⟨u, hu, hr, hres⟩
      · exact Or.inl e
      · refine Or.inr ⟨u, isSome_append _ _ _ hu, ?_, hres⟩
        rw [rk_append m A u hu, rk_append m A t (by rw [hm]; rfl)]; exact hr
    | none =>
      rw [hm, if_neg (by simp)] at hy
      refine Or.inr ⟨n, isSome_append _ _ _ hn, ?_, (h2 (t, y) (mlook_mem hy)).2⟩
      have a1 := rk_lt m n hn
      have a2 := rk_append_none m A t hm
      rw [rk_append m A n hn]; omega
  · rcases List.mem_append.1 hu with hu | hu
    · exact isSome_append _ _ _ (h.shut u hu v y hr)
    · obtain rfl := List.mem_singleton.1 hu
      exact h4 v y hr
  · rw [List.map_append] at hv
    rcases List.mem_append.1 hv with hv | hv
    · exact h.nodes v hv
    · obtain ⟨p, hp, rfl⟩ := List.mem_map.1 hv
      exact ((h2 p hp).2.mem s).1
theorem reachO_spec (l : List S67) (f : List Int) (s : Int) (hf : f.length = l.length) (hl : l.length ≤ 1000000) (d : Nat) : ∀ (m : List (Int × (Int × Bool))) (P q : List Int), RInv l f s m P q → 2 * l.length + 1 ≤ P.length + d →
    ∃ M, Ev (fun k => reachO l f k m q) M ∧ ∃ P', RInv l f s M P' [] := by
  induction d with
  | zero =>
    intro m P q h hd
    have := h.len
    obtain rfl : q = [] := List.eq_nil_of_length_eq_zero (by omega)
    exact ⟨m, Ev.step (f := fun _ => some m) (fun k => by rw [reachO]) (Ev.now _), P, h⟩
  | succ d ih =>
    intro m P q h hd
    cases q with
    | nil => exact ⟨m, Ev.step (f := fun _ => some m) (fun k => by rw [reachO]) (Ev.now _), P, h⟩
    | cons n q =>
      have hlen := h.len
      simp only [List.length_cons] at hlen
      obtain ⟨A, a1, a2, a3, a4, a5⟩ := reachE_spec l f n l f 0 m q rfl rfl hf.symm (by omega)
      obtain ⟨M, hM, P', hP⟩ := ih (m ++ A) (P ++ [n]) (q ++ A.map Prod.fst) (h.next a3 a4 (fun v y hr => a5 v y hr (by obtain ⟨j, e, x, hy, _⟩ := hr; omega))) (by simp; omega)
      refine ⟨M, Ev.step (fun k => ?_) hM, P', hP⟩
      have e0 : reachE n l f 0 m q = some (m ++ A, q ++ A.map Prod.fst) := a1
      rw [reachO, e0]; rfl
/-- What the search comes to. -/
theorem reach_spec (l : List S67) (f : List Int) (s : Int) (hf : f.length = l.length) (hl : l.length ≤ 1000000) :
    ∃ M, Ev (fun k => flow_reach.f k l f s) M ∧ ∃ P', RInv l f s M P' [] :=
  reachO_spec l f s hf hl (2 * l.length + 1) _ _ _ (RInv.start l f s) (by simp)
/-- A way back from t to s. -/
inductive Back (l : List S67) (f : List Int) (s : Int) (M : List (Int × (Int × Bool))) : Int → List S90 → Prop
  | nil : Back l f s M s []
  | cons {t u : Int} {x : S90} {ws : List S90} : t ≠ s → mlook M t = some (x.f0, x.f1) → rk M u < rk M t → Res l f u t (x.f0, x.f1) → Back l f s M u ws → Back l f s M t (x :: ws)
theorem path_spec {l : List S67} {f : List Int} {s : Int} {M : List (Int × (Int × Bool))} {P : List Int} (h : RInv l f s M P []) (hl : l.length ≤ 1000000) (d : Nat) : ∀ (t : Int) (acc : List S90), (mlook M t).isSome = true → rk M t ≤ d → acc.length + d < 8796093022206 →
    ∃ ws, Ev (fun k => pathL l M s k t acc) (acc ++ ws) ∧ Back l f s M t ws := by
  induction d with
  | zero =>
    intro t acc ht hr ha
    by_cases c : t = s
    · subst c
      exact ⟨[], by rw [List.append_nil]; exact Ev.step (f := fun _ => some acc) (fun k => by rw [pathL, if_pos rfl]) (Ev.now _), .nil⟩
    · obtain ⟨y, hy⟩ := Option.isSome_iff_exists.1 ht
      rcases h.tree t y hy with e | ⟨u, _, hu, _⟩
      · exact absurd e c
      · omega
  | succ d ih =>
    intro t acc ht hr ha
    by_cases c : t = s
    · subst c
      exact ⟨[], by rw [List.append_nil]; exact Ev.step (f := fun _ => some acc) (fun k => by rw [pathL, if_pos rfl]) (Ev.now _), .nil⟩
    · obtain ⟨⟨i, b⟩, hy⟩ := Option.isSome_iff_exists.1 ht
      rcases h.tree t _ hy with e | ⟨u, hu, hru, hres⟩
      · exact absurd e c
      · obtain ⟨ws, h1, h2⟩ := ih u (acc ++ [⟨i, b⟩]) hu (by omega) (by simp; omega)
        refine ⟨⟨i, b⟩ :: ws, ?_, .cons c hy hru hres h2⟩
        have hg : (mlook M t).getD (0, false) = (i, b) := by rw [hy]; rfl
        obtain ⟨j, e, x, hj, hle, hfe, hcase⟩ := hres
        simp only at hj
        subst hj
        have hjl := (List.getElem?_eq_some_iff.1 hle).1
        have hrd : rd_T67 l (j : Int) = e := by simp [rd_T67, List.getD_eq_getElem?_getD, hle]
        refine Ev.step (fun k => by rw [pathL, if_neg c, hg, if_pos ⟨by simp only; omega, by simp only; omega, by omega⟩]) ?_
        have hgo : (if ((j : Int), b).2 = true then (rd_T67 l ((j : Int), b).1).f2 else (rd_T67 l ((j : Int), b).1).f1) = u := by
          simp only [hrd]
          rcases hcase with ⟨hb, g1, g2, _⟩ | ⟨hb, g1, g2, _⟩
          · simp only at hb; subst hb; simpa using g1
          · simp only at hb; subst hb; simpa using g1
        rw [hgo]
        rw [List.append_assoc] at h1
        exact h1
end Go.Proofs.Ytgfiidgigenibaa.Q
