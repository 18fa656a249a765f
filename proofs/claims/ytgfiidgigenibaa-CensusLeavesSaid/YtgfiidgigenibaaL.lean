/- Plain laws and readings for the seat's proofs (this session's). -/
import Derived.RangeFuncNested
import Derived.Shelf.Abstract
import Derived.Deep.Slices
import Derived.ProofKit
import Derived.OpenShut
import Derived.ChangeOld
import Derived.Lib.SmallJoins
import Derived.WalkSpells
import Derived.Test.YtgfiidgigenibaaW3L
import Derived.Test.YtgfiidgigenibaaQ22
import Derived.Test.YtgfiidgigenibaaQ28
import Derived.Test.YtgfiidgigenibaaQ54
import Derived.Test.YtgfiidgigenibaaQ55
import Derived.Test.YtgfiidgigenibaaQ56
import Derived.Test.YtgfiidgigenibaaQ57
import Derived.Test.YtgfiidgigenibaaQ58
import Derived.Test.YtgfiidgigenibaaQ59
import Derived.Test.YtgfiidgigenibaaQ60
import Derived.Test.YtgfiidgigenibaaQ61
import Derived.Test.YtgfiidgigenibaaQ62
namespace Go.Proofs.Ytgfiidgigenibaa.Q
open Go.RowKit Go.Proofs.YtgfiidgigenibaaW.PrintWords Go.Proofs.YtgfiidgigenibaaW.PrintLast Go.Proofs.YtgfiidgigenibaaW.PrintMore
set_option linter.unusedVariables false
set_option linter.unusedSimpArgs false
/-! ### the reference's search goes in the order of flow.reach -/
theorem has6_ev (l : List Int) (hl : l.length ≤ big) (n : Int) : Ev (fun k => skiarearef06_has.f k l n) (decide (n ∈ l)) := by
  refine up_loop l.length (fun i => Ev (fun k => skiarearef06_has.l0 k l n i) (decide (n ∈ l.drop i.toNat))) ?_ (fun i h0 h1 ih => ?_)
  · rw [drop_nil l _ rfl]
    exact Ev.step (f := fun _ => some false) (fun k => by rw [skiarearef06_has.l0, if_neg (by omega)]) (Ev.now _)
  · refine Ev.step (fun k => by rw [skiarearef06_has.l0, if_pos h1, if_pos h0, wrap_inc h0 h1 hl]) ?_
    by_cases c : rd l i = n
    · refine Ev.pos c ?_
      rw [decide_eq_true ((mem_drop l 0 i h0 h1 n).2 (Or.inl c.symm))]; exact Ev.now _
    · refine Ev.neg c ?_
      rw [show decide (n ∈ l.drop i.toNat) = decide (n ∈ l.drop (i + 1).toNat) from decide_eq_decide.2 (by rw [mem_drop l 0 i h0 h1 n]; exact ⟨fun h => h.resolve_left (fun e => c e.symm), Or.inr⟩)]
      exact ih
/-- How the reference writes a step. -/
def viaP (y : Int × Bool) : Int := if y.2 = true then -(y.1 + 1) else y.1 + 1
def ksM (m : List (Int × (Int × Bool))) : List Int := m.map Prod.fst
def vsM (m : List (Int × (Int × Bool))) : List Int := m.map fun p => viaP p.2
theorem ksM_len (m : List (Int × (Int × Bool))) : (ksM m).length = m.length := List.length_map _
theorem vsM_len (m : List (Int × (Int × Bool))) : (vsM m).length = m.length := List.length_map _
theorem ksM_add (m : List (Int × (Int × Bool))) (v : Int) (y : Int × Bool) : ksM (m ++ [(v, y)]) = ksM m ++ [v] := by simp [ksM]
theorem vsM_add (m : List (Int × (Int × Bool))) (v : Int) (y : Int × Bool) : vsM (m ++ [(v, y)]) = vsM m ++ [viaP y] := by simp [vsM]
theorem rd_ks {m : List (Int × (Int × Bool))} {p : Nat} {v : Int} {y : Int × Bool} (h : m[p]? = some (v, y)) : rd (ksM m) p = v := by simp [rd, ksM, List.getD_eq_getElem?_getD, h]
theorem rd_vs {m : List (Int × (Int × Bool))} {p : Nat} {v : Int} {y : Int × Bool} (h : m[p]? = some (v, y)) : rd (vsM m) p = viaP y := by simp [rd, vsM, List.getD_eq_getElem?_getD, h]
theorem rd_ks_add (m : List (Int × (Int × Bool))) (v : Int) (y : Int × Bool) (i : Int) (h0 : 0 ≤ i) (h1 : i < m.length) : rd (ksM (m ++ [(v, y)])) i = rd (ksM m) i := by
  rw [ksM_add]
  simp [rd, List.getD_eq_getElem?_getD, List.getElem?_append_left (show i.toNat < (ksM m).length by rw [ksM_len]; omega)]
theorem visit_add (c : Prop) [Decidable c] (v : Int) (y : Int × Bool) (m : List (Int × (Int × Bool))) (q : List Int) : (if c then visitP v y m q else (m, q)).1 = if c ∧ v ∉ ksM m then m ++ [(v, y)] else m := by
  by_cases h : c
  · rw [if_pos h]
    unfold visitP
    by_cases g : (mlook m v).isSome = true
    · rw [if_pos g, if_neg (fun hh => hh.2 ((mlook_some m v).1 g))]
    · have hn : mlook m v = none := by cases hm : mlook m v with | none => rfl | some z => rw [hm] at g; exact absurd rfl g
      rw [if_neg g, if_pos ⟨h, fun hh => g ((mlook_some m v).2 hh)⟩, mput_new m v y hn]
  · rw [if_neg h, if_neg (fun hh => h hh.1)]
theorem search_l1 (l : List S67) (f : List Int) (n i : Int) (hf : f.length = l.length) (hl : l.length ≤ 1000000) (hi : 0 ≤ i) (r : List Int × List Int) : ∀ (es : List S67) (xs : List Int) (j : Nat) (m : List (Int × (Int × Bool))) (q : List Int) (m' : List (Int × (Int × Bool))) (q' : List Int), es = l.drop j → xs = f.drop j → reachE n es xs (j : Int) m q = some (m', q') → i < m.length → rd (ksM m) i = n → m.length + 2 * es.length ≤ 10000000 →
    Ev (fun k => skiarearef06_search.l0 k l f (ksM m') (vsM m') (wrap64 (i + 1))) r → Ev (fun k => skiarearef06_search.l1 k l f (ksM m) (vsM m) i (j : Int)) r
  | [], xs, j, m, q, m', q', h1, h2, h3, h4, h5, h6, h7 => by
    have hlen : l.length ≤ j := by
      have := congrArg List.length h1
      simp at this; omega
    rw [reachE] at h3
    obtain ⟨rfl, rfl⟩ := Prod.mk.inj (Option.some.inj h3)
    exact Ev.step (fun k => by rw [skiarearef06_search.l1, if_neg (by omega)]) h7
  | e :: es, xs, j, m, q, m', q', h1, h2, h3, h4, h5, h6, h7 => by
    have hjl : j < l.length := by
      have := congrArg List.length h1
      simp at this; omega
    obtain ⟨x, xs, rfl⟩ : ∃ x ys, xs = x :: ys := by
      cases xs with
      | nil => have := congrArg List.length h2; simp at this; omega
      | cons x ys => exact ⟨x, ys, rfl⟩
    have hle : l[j]? = some e := by
      have := congrArg (fun z => z[0]?) h1
      simp at this; exact this.symm
    have hfe : f[j]? = some x := by
      have := congrArg (fun z => z[0]?) h2
      simp at this; exact this.symm
    have h1' : es = l.drop (j + 1) := by
      have := congrArg List.tail h1
      simpa using this
    have h2' : xs = f.drop (j + 1) := by
      have := congrArg List.tail h2
      simpa using this
    simp only [List.length_cons] at h6
    rw [reachE] at h3
    by_cases hq : q.length < 17592186044413
    case neg => rw [if_neg hq] at h3; cases h3
    rw [if_pos hq] at h3
    have j0 : (0 : Int) ≤ (j : Int) := by omega
    have j1 : (j : Int) < (l.length : Int) := by omega
    have j2 : (j : Int) < (f.length : Int) := by omega
    have jw : wrap64 ((j : Int) + 1) = ((j + 1 : Nat) : Int) := by unfold wrap64; omega
    have jb : wrap64 (wrap64 (-(j : Int)) - 1) = viaP ((j : Int), true) := by simp only [viaP, if_true]; unfold wrap64; omega
    have jf : ((j + 1 : Nat) : Int) = viaP ((j : Int), false) := by simp [viaP]
    have r67 : rd_T67 l (j : Int) = e := rd67_get hle
    have rf : rd f (j : Int) = x := rd_get hfe
    have e1 : (j : Int) + 1 = ((j + 1 : Nat) : Int) := by omega
    rw [e1] at h3
    -- behind the second half
    have go : ∀ (M2 : List (Int × (Int × Bool))) (Q2 : List Int), reachE n es xs ((j + 1 : Nat) : Int) M2 Q2 = some (m', q') → i < M2.length → rd (ksM M2) i = n → M2.length ≤ m.length + 2 → Ev (fun k => skiarearef06_search.l1 k l f (ksM M2) (vsM M2) i ((j + 1 : Nat) : Int)) r := fun M2 Q2 g1 g2 g3 g4 => search_l1 l f n i hf hl hi r es xs (j + 1) M2 Q2 m' q' h1' h2' g1 g2 g3 (by omega) h7
    generalize hs1 : (if e.f1 = n ∧ x < e.f3 then visitP e.f2 ((j : Int), false) m q else (m, q)) = st1 at h3
    have a1 : st1.1 = if (e.f1 = n ∧ x < e.f3) ∧ e.f2 ∉ ksM m then m ++ [(e.f2, ((j : Int), false))] else m := by rw [← hs1]; exact visit_add _ _ _ m q
    replace h3 : reachE n es xs ((j + 1 : Nat) : Int) (if e.f2 = n ∧ 0 < x then visitP e.f1 ((j : Int), true) st1.1 st1.2 else st1).1 (if e.f2 = n ∧ 0 < x then visitP e.f1 ((j : Int), true) st1.1 st1.2 else st1).2 = some (m', q') := h3
    generalize hs2 : (if e.f2 = n ∧ 0 < x then visitP e.f1 ((j : Int), true) st1.1 st1.2 else st1) = st2 at h3
    have a2 : st2.1 = if (e.f2 = n ∧ 0 < x) ∧ e.f1 ∉ ksM st1.1 then st1.1 ++ [(e.f1, ((j : Int), true))] else st1.1 := by rw [← hs2]; exact visit_add _ _ _ st1.1 st1.2
    have b1 : i < st1.1.length ∧ rd (ksM st1.1) i = n ∧ st1.1.length ≤ m.length + 1 := by
      rw [a1]
      split
      · exact ⟨by simp; omega, by rw [rd_ks_add m _ _ i hi h4]; exact h5, by simp⟩
      · exact ⟨h4, h5, by omega⟩
    have b2 : i < st2.1.length ∧ rd (ksM st2.1) i = n ∧ st2.1.length ≤ m.length + 2 := by
      rw [a2]
      split
      · exact ⟨by simp; omega, by rw [rd_ks_add st1.1 _ _ i hi b1.1]; exact b1.2.1, by simp; omega⟩
      · exact ⟨b1.1, b1.2.1, by omega⟩
    have hgo := go st2.1 st2.2 h3 b2.1 b2.2.1 b2.2.2
    generalize hM1 : st1.1 = M1 at a1 a2 b1
    generalize hM2 : st2.1 = M2 at a2 b2 hgo
    clear hs1 hs2 h3 go
    have i1 : i < ((ksM M1).length : Int) := by rw [ksM_len]; exact b1.1
    have k1 : (ksM M1).length < 17592186044416 := by rw [ksM_len]; omega
    have k2 : (vsM M1).length < 17592186044416 := by rw [vsM_len]; omega
    -- the second half
    have sec : Ev (fun k => if 0 ≤ i then (if i < ((ksM M1).length : Int) then (if e.f2 = rd (ksM M1) i then (if (j : Int) < (f.length : Int) then (if x > 0 then ((skiarearef06_has.f k (ksM M1) e.f1).bind fun t => if t = true then skiarearef06_search.l1 k l f (ksM M1) (vsM M1) i ((j + 1 : Nat) : Int) else if (ksM M1).length < 17592186044416 then (if (vsM M1).length < 17592186044416 then skiarearef06_search.l1 k l f (ksM M1 ++ [e.f1]) (vsM M1 ++ [viaP ((j : Int), true)]) i ((j + 1 : Nat) : Int) else none) else none) else skiarearef06_search.l1 k l f (ksM M1) (vsM M1) i ((j + 1 : Nat) : Int)) else none) else skiarearef06_search.l1 k l f (ksM M1) (vsM M1) i ((j + 1 : Nat) : Int)) else none) else none) r := by
      refine Ev.pos hi (Ev.pos i1 ?_)
      rw [b1.2.1]
      by_cases c1 : e.f2 = n
      case neg => rw [a2, if_neg (fun h => c1 h.1.1)] at hgo; exact Ev.neg c1 hgo
      refine Ev.pos c1 (Ev.pos j2 ?_)
      by_cases c2 : 0 < x
      case neg => rw [a2, if_neg (fun h => c2 h.1.2)] at hgo; exact Ev.neg c2 hgo
      refine Ev.pos c2 (Ev.bind (has6_ev (ksM M1) (by simp only [big]; omega) e.f1) ?_)
      by_cases c3 : e.f1 ∈ ksM M1
      · rw [a2, if_neg (fun h => h.2 c3)] at hgo; exact Ev.pos (decide_eq_true c3) hgo
      · rw [a2, if_pos ⟨⟨c1, c2⟩, c3⟩, ksM_add, vsM_add] at hgo
        exact Ev.neg (by simp [c3]) (Ev.pos k1 (Ev.pos k2 hgo))
    have m1 : i < ((ksM m).length : Int) := by rw [ksM_len]; exact h4
    have m2 : (ksM m).length < 17592186044416 := by rw [ksM_len]; omega
    have m3 : (vsM m).length < 17592186044416 := by rw [vsM_len]; omega
    have key : ∀ b : Bool, (b = true ↔ (e.f1 = n ∧ x < e.f3) ∧ e.f2 ∉ ksM m) → Ev (fun k => skiarearef06_search.j2 k l f (ksM m) (vsM m) i (j : Int) b) r := by
      intro b hb
      cases b with
      | true =>
        rw [if_pos (hb.1 rfl)] at a1
        rw [a1, ksM_add, vsM_add] at sec
        refine Ev.step (fun k => ?_) sec
        rw [skiarearef06_search.j2, if_pos rfl, if_pos j0, if_pos j1, if_pos m2, Option.bind_some, if_pos m3, Option.bind_some, r67, rf, jw, jb, jf]
      | false =>
        rw [if_neg (fun h => by have := hb.2 h; cases this)] at a1
        rw [a1] at sec
        refine Ev.step (fun k => ?_) sec
        rw [skiarearef06_search.j2, if_neg (by simp), if_pos j0, if_pos j1, r67, rf, jw, jb]
    refine Ev.step (fun k => by rw [skiarearef06_search.l1, if_pos j1, if_pos j0, if_pos hi, if_pos m1, r67, rf, h5]) ?_
    by_cases c1 : e.f1 = n
    case neg => exact Ev.neg c1 (key false (by simp [c1]))
    refine Ev.pos c1 (Ev.pos j2 ?_)
    by_cases c2 : x < e.f3
    case neg => exact Ev.neg c2 (key false (by simp [c2]))
    exact Ev.pos c2 (Ev.bind (has6_ev (ksM m) (by simp only [big]; omega) e.f2) (key _ (by simp [c1, c2])))
theorem search_sim (l : List S67) (f : List Int) (s : Int) (hf : f.length = l.length) (hl : l.length ≤ 1000000) (d : Nat) : ∀ (m : List (Int × (Int × Bool))) (P q : List Int), RInv l f s m P q → (∃ A, m = (s, (-1, false)) :: A) → 2 * l.length + 1 ≤ P.length + d →
    ∃ M, Ev (fun k => reachO l f k m q) M ∧ Ev (fun k => skiarearef06_search.l0 k l f (ksM m) (vsM m) (P.length : Int)) (ksM M, vsM M) ∧ (∃ P', RInv l f s M P' []) ∧ ∃ A, M = (s, (-1, false)) :: A := by
  have fin : ∀ (m : List (Int × (Int × Bool))) (P : List Int), RInv l f s m P [] → (∃ A, m = (s, (-1, false)) :: A) → ∃ M, Ev (fun k => reachO l f k m []) M ∧ Ev (fun k => skiarearef06_search.l0 k l f (ksM m) (vsM m) (P.length : Int)) (ksM M, vsM M) ∧ (∃ P', RInv l f s M P' []) ∧ ∃ A, M = (s, (-1, false)) :: A := fun m P h hA => by
    have hk : (ksM m).length = P.length := by have := congrArg List.length h.keys; simpa [ksM] using this
    exact ⟨m, Ev.step (f := fun _ => some m) (fun k => by rw [reachO]) (Ev.now _), Ev.step (f := fun _ => some (ksM m, vsM m)) (fun k => by rw [skiarearef06_search.l0, if_neg (by omega)]) (Ev.now _), ⟨P, h⟩, hA⟩
  induction d with
  | zero =>
    intro m P q h hA hd
    have := h.len
    obtain rfl : q = [] := List.eq_nil_of_length_eq_zero (by omega)
    exact fin m P h hA
  | succ d ih =>
    intro m P q h hA hd
    cases q with
    | nil => exact fin m P h hA
    | cons n q =>
      have hlen := h.len
      simp only [List.length_cons] at hlen
      have hml : m.length = P.length + q.length + 1 := by have := congrArg List.length h.keys; simp at this; omega
      obtain ⟨A, a1, a2, a3, a4, a5⟩ := reachE_spec l f n l f 0 m q rfl rfl hf.symm (by omega)
      have hnx := h.next a3 a4 (fun v y hr => a5 v y hr (by obtain ⟨j, e, x, hy, _⟩ := hr; omega))
      obtain ⟨M, hM, hS, hP, hA'⟩ := ih (m ++ A) (P ++ [n]) (q ++ A.map Prod.fst) hnx (by obtain ⟨B, rfl⟩ := hA; exact ⟨B ++ A, rfl⟩) (by simp; omega)
      have e0 : reachE n l f 0 m q = some (m ++ A, q ++ A.map Prod.fst) := a1
      refine ⟨M, Ev.step (fun k => by rw [reachO, e0]; rfl) hM, ?_, hP, hA'⟩
      have hrd : rd (ksM m) (P.length : Int) = n := by
        have : ksM m = P ++ n :: q := h.keys
        rw [this]; simp [rd, List.getD_eq_getElem?_getD]
      refine Ev.step (fun k => by rw [skiarearef06_search.l0, if_pos (by rw [ksM_len]; omega)]) ?_
      refine search_l1 l f n (P.length : Int) hf hl (by omega) _ l f 0 m q _ _ rfl rfl a1 (by omega) hrd (by omega) ?_
      have : wrap64 ((P.length : Int) + 1) = ((P ++ [n]).length : Int) := by rw [List.length_append, List.length_singleton]; unfold wrap64; omega
      rw [this]
      exact hS
/-- What both searches come to. -/
theorem search_both (l : List S67) (f : List Int) (s : Int) (hf : f.length = l.length) (hl : l.length ≤ 1000000) :
    ∃ M, Ev (fun k => flow_reach.f k l f s) M ∧ Ev (fun k => skiarearef06_search.f k l f s) (ksM M, vsM M) ∧ (∃ P', RInv l f s M P' []) ∧ ∃ A, M = (s, (-1, false)) :: A :=
  search_sim l f s hf hl (2 * l.length + 1) [(s, (-1, false))] [] [s] (RInv.start l f s) ⟨[], rfl⟩ (by simp)
/-! ### the way, what it carries, and the flow -/
theorem mem_split (M : List (Int × (Int × Bool))) (p : Nat) (h : p < M.length) : ∃ v y, M[p]? = some (v, y) := ⟨M[p].1, M[p].2, List.getElem?_eq_getElem h⟩
theorem at_rk : ∀ (M : List (Int × (Int × Bool))) (t : Int) (y : Int × Bool), mlook M t = some y → M[rk M t]? = some (t, y)
  | [], t, y, h => by cases h
  | (k, z) :: M, t, y, h => by
    rw [mlook] at h
    rw [rk]
    by_cases c : k = t
    · rw [if_pos c] at h ⊢
      cases h; subst c; rfl
    · rw [if_neg c] at h ⊢
      simpa using at_rk M t y h
theorem rk_at : ∀ (M : List (Int × (Int × Bool))) (p : Nat) (t : Int) (y : Int × Bool), (M.map Prod.fst).Nodup → M[p]? = some (t, y) → rk M t = p ∧ mlook M t = some y
  | [], p, t, y, _, h => by simp at h
  | (k, z) :: M, 0, t, y, _, h => by
    simp at h
    obtain ⟨rfl, rfl⟩ := h
    exact ⟨by rw [rk, if_pos rfl], by rw [mlook, if_pos rfl]⟩
  | (k, z) :: M, p + 1, t, y, hn, h => by
    rw [List.map_cons, List.nodup_cons] at hn
    rw [List.getElem?_cons_succ] at h
    obtain ⟨a, b⟩ := rk_at M p t y hn.2 h
    have hk : k ≠ t := by
      rintro rfl
      exact hn.1 (List.mem_map.2 ⟨_, List.mem_of_getElem? h, rfl⟩)
    exact ⟨by rw [rk, if_neg hk, a], by rw [mlook, if_neg hk, b]⟩
theorem w_bw (a : Int) (h0 : 0 ≤ a) (h1 : a ≤ 10000000) : wrap64 (wrap64 (- -(a + 1)) - 1) = a := by
  rw [Int.neg_neg, show wrap64 (a + 1) = a + 1 by unfold wrap64; omega]
  unfold wrap64; omega
theorem w_fw (a : Int) (h0 : 0 ≤ a) (h1 : a ≤ 10000000) : wrap64 (a + 1 - 1) = a := by unfold wrap64; omega
theorem Back.len {l : List S67} {f : List Int} {s : Int} {M : List (Int × (Int × Bool))} : ∀ {t : Int} {ws : List S90}, Back l f s M t ws → ws.length ≤ rk M t := by
  intro t ws h
  induction h with
  | nil => simp
  | cons _ _ hr _ _ ih => rw [List.length_cons]; omega
def evS (x : S90) : Int := viaP (x.f0, x.f1)
section
variable (l : List S67) (M : List (Int × (Int × Bool)))
theorem way_skip (hM : M.length ≤ 10000000) (t : Int) (acc : List Int) : ∀ i : Nat, i ≤ M.length → (∀ (p : Nat) (y : Int × Bool), p < i → M[p]? = some (t, y) → viaP y = 0) → Ev (fun k => skiarearef06_way.l0 k l (ksM M) (vsM M) t acc ((i : Int) - 1)) acc
  | 0, _, _ => Ev.step (f := fun _ => some acc) (fun k => by rw [skiarearef06_way.l0, if_neg (by omega)]) (Ev.now _)
  | i + 1, hi, h => by
    have ih := way_skip hM t acc i (by omega) (fun p y hp hy => h p y (by omega) hy)
    obtain ⟨v, y, hv⟩ := mem_split M i (by omega)
    have k1 : ((i : Nat) : Int) < ((ksM M).length : Int) := by rw [ksM_len]; omega
    have k2 : ((i : Nat) : Int) < ((vsM M).length : Int) := by rw [vsM_len]; omega
    have hj : Ev (fun k => skiarearef06_way.j1 k l (ksM M) (vsM M) t acc (i : Int) true) acc := by
      refine Ev.step (fun k => by rw [skiarearef06_way.j1, if_pos rfl, show wrap64 ((i : Int) - 1) = (i : Int) - 1 by unfold wrap64; omega]) ih
    rw [show (((i + 1 : Nat) : Int) - 1) = (i : Int) by omega]
    refine Ev.step (fun k => by rw [skiarearef06_way.l0, if_pos (by omega), if_pos (by omega), if_pos k1, rd_ks hv, rd_vs hv]) ?_
    by_cases c : v = t
    · subst c
      refine Ev.pos rfl (Ev.pos k2 ?_)
      rw [h i y (by omega) hv]
      exact hj
    · exact Ev.neg c hj
theorem way_back {f : List Int} {s : Int} (hM : M.length ≤ 10000000) (hl : l.length ≤ 1000000) (hn : (M.map Prod.fst).Nodup) (hr : ∃ A, M = (s, (-1, false)) :: A) {t : Int} {ws : List S90} (hb : Back l f s M t ws) : ∀ (i : Nat) (acc : List Int), rk M t < i → i ≤ M.length → acc.length + i ≤ 100000000 → Ev (fun k => skiarearef06_way.l0 k l (ksM M) (vsM M) t acc ((i : Int) - 1)) (acc ++ ws.map evS) := by
  induction hb with
  | nil =>
    intro i acc h1 h2 h3
    rw [List.map_nil, List.append_nil]
    refine way_skip l M hM s acc i h2 (fun p y hp hy => ?_)
    obtain ⟨A, rfl⟩ := hr
    have := (rk_at _ p s y hn hy).2
    rw [mlook, if_pos rfl] at this
    cases this; rfl
  | @cons t u x ws hts hm hrk hres hb ih =>
    intro i
    induction i with
    | zero => intro acc h1 h2 h3; omega
    | succ i ihi =>
      intro acc h1 h2 h3
      obtain ⟨v, y, hv⟩ := mem_split M i (by omega)
      have k1 : ((i : Nat) : Int) < ((ksM M).length : Int) := by rw [ksM_len]; omega
      have k2 : ((i : Nat) : Int) < ((vsM M).length : Int) := by rw [vsM_len]; omega
      have hw : wrap64 ((i : Int) - 1) = (i : Int) - 1 := by unfold wrap64; omega
      rw [show (((i + 1 : Nat) : Int) - 1) = (i : Int) by omega]
      refine Ev.step (fun k => by rw [skiarearef06_way.l0, if_pos (by omega), if_pos (by omega), if_pos k1, rd_ks hv, rd_vs hv]) ?_
      by_cases c : v = t
      · subst c
        obtain ⟨q1, q2⟩ := rk_at M i v y hn hv
        rw [hm] at q2
        cases q2
        obtain ⟨j, e, z, hj, hle, _, hcase⟩ := hres
        simp only at hj
        have hjl := (List.getElem?_eq_some_iff.1 hle).1
        have hacc : acc.length < 17592186044416 := by omega
        refine Ev.pos rfl (Ev.pos k2 ?_)
        have hih := ih i (acc ++ [evS x]) (by omega) (by omega) (by simp; omega)
        rw [List.append_assoc] at hih
        have hne : (viaP (x.f0, x.f1) == 0) = false := by
          have : viaP (x.f0, x.f1) ≠ 0 := by unfold viaP; simp only; split <;> omega
          simpa using this
        rw [hne]
        refine Ev.step (fun k => by rw [skiarearef06_way.j1, if_neg (by simp), if_pos (by omega), if_pos k2, if_pos hacc, Option.bind_some, rd_vs hv, hw]) ?_
        rcases hcase with ⟨hb1, g1, g2, _⟩ | ⟨hb1, g1, g2, _⟩
        · simp only at hb1
          have hv1 : viaP (x.f0, x.f1) = j + 1 := by rw [hb1]; simp [viaP, hj]
          rw [hv1, w_fw (j : Int) (by omega) (by omega)]
          refine Ev.pos (by omega) (Ev.pos (by omega) (Ev.pos (by omega) ?_))
          rw [rd67_get hle, g1, ← hv1]
          exact hih
        · simp only at hb1
          have hv1 : viaP (x.f0, x.f1) = -((j : Int) + 1) := by rw [hb1]; simp [viaP, hj]
          rw [hv1, w_bw (j : Int) (by omega) (by omega)]
          refine Ev.neg (by omega) (Ev.pos (by omega) (Ev.pos (by omega) ?_))
          rw [rd67_get hle, g1, ← hv1]
          exact hih
      · have hne : rk M t ≠ i := fun e => by
          have := at_rk M t _ hm
          rw [e, hv] at this
          cases this; exact c rfl
        exact Ev.neg c (Ev.step (fun k => by rw [skiarearef06_way.j1, if_pos rfl, hw]) (ihi acc (by omega) (by omega) (by omega)))
end
theorem len_ks1 (M : List (Int × (Int × Bool))) (hM : M.length ≤ 10000000) : wrap64 (((ksM M).length : Int) - 1) = (M.length : Int) - 1 := by rw [ksM_len]; unfold wrap64; omega
theorem rd_mapS (w : List S90) (j : Nat) (x : S90) (h : w[j]? = some x) : rd (w.map evS) j = evS x := by simp [rd, List.getD_eq_getElem?_getD, h]
theorem evS_fw {x : S90} (h : x.f1 = false) : evS x = x.f0 + 1 := by simp [evS, viaP, h]
theorem evS_bw {x : S90} (h : x.f1 = true) : evS x = -(x.f0 + 1) := by simp [evS, viaP, h]
theorem min_sim (l : List S67) (f : List Int) (hf : f.length = l.length) (hl : l.length ≤ 1000000) (s t : Int) (w : List S90) (hw : w.length ≤ 100000000) (n' : Int) (r : List Int) (hn : Ev (fun k => skiarearef06_Find.l2 k l s t f (w.map evS) n' 0) r) : ∀ (ws : List S90) (j : Nat) (n : Int), ws = w.drop j → minR l f ws n = some n' → Ev (fun k => skiarearef06_Find.l1 k l s t f (w.map evS) n (j : Int)) r
  | [], j, n, h1, h2 => by
    have hlen : w.length ≤ j := by
      have := congrArg List.length h1
      simp at this; omega
    rw [minR] at h2
    cases h2
    exact Ev.step (fun k => by rw [skiarearef06_Find.l1, if_neg (by rw [List.length_map]; omega)]) hn
  | x :: ws, j, n, h1, h2 => by
    have hjl : j < w.length := by
      have := congrArg List.length h1
      simp at this; omega
    have hx : w[j]? = some x := by
      have := congrArg (fun z => z[0]?) h1
      simp at this; exact this.symm
    have h1' : ws = w.drop (j + 1) := by
      have := congrArg List.tail h1
      simpa using this
    have jw : wrap64 ((j : Int) + 1) = ((j + 1 : Nat) : Int) := by unfold wrap64; omega
    rw [minR] at h2
    obtain ⟨y, hy, h2⟩ := Option.bind_eq_some_iff.mp h2
    have ih := min_sim l f hf hl s t w hw n' r hn ws (j + 1) _ h1' h2
    refine Ev.step (fun k => by rw [skiarearef06_Find.l1, if_pos (by rw [List.length_map]; omega), if_pos (by omega), rd_mapS w j x hx, jw]) ?_
    unfold roomV at hy
    by_cases hb : x.f1 = true
    · rw [if_pos hb] at hy
      by_cases c : 0 ≤ x.f0 ∧ x.f0 < (f.length : Int)
      case neg => rw [if_neg c] at hy; cases hy
      rw [if_pos c] at hy
      cases hy
      rw [evS_bw hb, w_bw x.f0 (by omega) (by omega)]
      exact Ev.neg (by omega) (Ev.pos c.1 (Ev.pos c.2 ih))
    · rw [if_neg hb] at hy
      by_cases c : 0 ≤ x.f0 ∧ x.f0 < (l.length : Int) ∧ x.f0 < (f.length : Int)
      case neg => rw [if_neg c] at hy; cases hy
      rw [if_pos c] at hy
      cases hy
      rw [evS_fw (by simpa using hb), w_fw x.f0 (by omega) (by omega)]
      exact Ev.pos (by omega) (Ev.pos c.1 (Ev.pos c.2.1 (Ev.pos c.2.2 ih)))
theorem add_sim (l : List S67) (hl : l.length ≤ 1000000) (s t : Int) (w : List S90) (hw : w.length ≤ 100000000) (n : Int) (f2 r : List Int) (hn : Ev (fun k => skiarearef06_Find.l0 k l s t f2) r) : ∀ (ws : List S90) (j : Nat) (f : List Int), ws = w.drop j → f.length = l.length → addR n ws f = some f2 → Ev (fun k => skiarearef06_Find.l2 k l s t f (w.map evS) n (j : Int)) r
  | [], j, f, h1, hf, h2 => by
    have hlen : w.length ≤ j := by
      have := congrArg List.length h1
      simp at this; omega
    rw [addR] at h2
    cases h2
    exact Ev.step (fun k => by rw [skiarearef06_Find.l2, if_neg (by rw [List.length_map]; omega)]) hn
  | x :: ws, j, f, h1, hf, h2 => by
    have hjl : j < w.length := by
      have := congrArg List.length h1
      simp at this; omega
    have hx : w[j]? = some x := by
      have := congrArg (fun z => z[0]?) h1
      simp at this; exact this.symm
    have h1' : ws = w.drop (j + 1) := by
      have := congrArg List.tail h1
      simpa using this
    have jw : wrap64 ((j : Int) + 1) = ((j + 1 : Nat) : Int) := by unfold wrap64; omega
    rw [addR] at h2
    by_cases c : 0 ≤ x.f0 ∧ x.f0 < (f.length : Int)
    case neg => rw [if_neg c] at h2; cases h2
    rw [if_pos c] at h2
    have ih := add_sim l hl s t w hw n f2 r hn ws (j + 1) _ h1' (by rw [List.length_set]; exact hf) h2
    refine Ev.step (fun k => by rw [skiarearef06_Find.l2, if_pos (by rw [List.length_map]; omega), if_pos (by omega), rd_mapS w j x hx, jw]) ?_
    by_cases hb : x.f1 = true
    · rw [if_pos hb] at ih
      rw [evS_bw hb, w_bw x.f0 (by omega) (by omega)]
      exact Ev.neg (by omega) (Ev.pos c.1 (Ev.pos c.2 ih))
    · rw [if_neg hb] at ih
      rw [evS_fw (by simpa using hb), w_fw x.f0 (by omega) (by omega)]
      exact Ev.pos (by omega) (Ev.pos c.1 (Ev.pos c.2 ih))
/-- BOTH FIND THE SAME FLOW. -/
theorem find_sim (l : List S67) (s t : Int) (hst : s ≠ t) (hc : CapOk l) (hl : l.length ≤ 1000000) (d : Nat) : ∀ f : List Int, FOk l f → capSum l < netS l f s + d →
    ∃ g, Ev (fun k => skiarearef06_Find.l0 k l s t f) g ∧ (∃ K0 : Nat, ∀ K, K0 ≤ K → ∀ q, d ≤ q → findL K l s t q f = some g) ∧ FOk l g := by
  induction d with
  | zero =>
    intro f hf hd
    have := netS_le l f s hf.fit (fun e he => (hc e he).1)
    omega
  | succ d ih =>
    intro f hf hd
    obtain ⟨M, ⟨K1, hK1⟩, hS, ⟨P, hR⟩, hA⟩ := search_both l f s hf.len hl
    replace hK1 : ∀ k, K1 ≤ k → flow_reach.f k l f s = some M := hK1
    have hMl : M.length ≤ 2 * l.length + 1 := by
      have h2 := hR.len
      have h3 : M.length = P.length := by have := congrArg List.length hR.keys; simpa using this
      simp at h2; omega
    have hM : M.length ≤ 10000000 := by omega
    cases hm : mlook M t with
    | none =>
      refine ⟨f, ?_, ⟨K1, fun K hK q hq => ?_⟩, hf⟩
      · have hway : Ev (fun k => skiarearef06_way.f k l (ksM M) (vsM M) t) [] := by
          unfold skiarearef06_way.f
          rw [len_ks1 M hM]
          refine way_skip l M hM t [] M.length (Nat.le_refl _) (fun p y _ hy => ?_)
          have := (rk_at M p t y hR.nodup hy).2
          rw [hm] at this; cases this
        refine Ev.step (fun k => by rw [skiarearef06_Find.l0]) ?_
        refine Ev.bind hS (Ev.bind hway ?_)
        exact Ev.pos (by simp) (Ev.now _)
      · obtain ⟨q', rfl⟩ : ∃ q', q = q' + 1 := ⟨q - 1, by omega⟩
        rw [findL, hK1 K hK, Option.bind_some, hm, if_neg (by simp)]
    | some y =>
      have hlt := rk_lt M t (by rw [hm]; rfl)
      obtain ⟨ws, ⟨K2, hK2⟩, hb⟩ := path_spec hR hl (rk M t) t [] (by rw [hm]; rfl) (Nat.le_refl _) (by simp; omega)
      have hway : Ev (fun k => skiarearef06_way.f k l (ksM M) (vsM M) t) (ws.map evS) := by
        unfold skiarearef06_way.f
        rw [len_ks1 M hM]
        exact way_back l M hM hl hR.nodup hA hb M.length [] hlt (Nat.le_refl _) (by simp; omega)
      have hwl : ws.length ≤ rk M t := hb.len
      cases hb with
      | nil => exact absurd rfl hst
      | @cons _ u x ws hts hmx hr hres hb =>
        obtain ⟨r, hrv, hr1, j, e, z, _, hle, hze, hcase⟩ := room_spec hf hc hres
        have hB : Back l f s M t (x :: ws) := .cons hts hmx hr hres hb
        obtain ⟨n, hmin, hn1, _, hnr⟩ := minR_spec hf hc hB r hr1
        obtain ⟨g', hadd, hg, hnet⟩ := addR_spec hf hc n hn1 hB hnr f hf (fun _ _ _ _ => rfl)
        have h1 := hnet s
        rw [if_pos rfl, if_neg (Ne.symm hst)] at h1
        obtain ⟨g, hE, ⟨K3, hK3⟩, hgf⟩ := ih g' hg (by omega)
        refine ⟨g, ?_, ⟨K1 + K2 + K3, fun K hK q hq => ?_⟩, hgf⟩
        · refine Ev.step (fun k => by rw [skiarearef06_Find.l0]) ?_
          refine Ev.bind hS (Ev.bind hway ?_)
          refine Ev.neg (by rw [List.length_map, List.length_cons]; omega) ?_
          have hcap := hc e (List.mem_of_getElem? hle)
          have hfit := hf.fit j e z hle hze
          have hr2 : r < 1000001 := by rcases hcase with ⟨_, _, _, h⟩ | ⟨_, _, _, h⟩ <;> omega
          have hmin2 : minR l f (x :: ws) 1000001 = some n := by
            rw [minR, hrv, Option.bind_some] at hmin ⊢
            rw [if_pos hr2]
            rw [if_neg (by omega)] at hmin
            exact hmin
          exact min_sim l f hf.len hl s t (x :: ws) (by omega) n g (add_sim l hl s t (x :: ws) (by omega) n g' g hE (x :: ws) 0 f rfl hf.len hadd) (x :: ws) 0 1000001 rfl hmin2
        · obtain ⟨q', rfl⟩ : ∃ q', q = q' + 1 := ⟨q - 1, by omega⟩
          have hp : flow_path.f K l M s t = some (x :: ws) := hK2 K (by omega)
          rw [findL, hK1 K (by omega), Option.bind_some, hm, if_pos (show (some y : Option (Int × Bool)).isSome = true from rfl), hp, Option.bind_some]
          simp only
          rw [hrv, Option.bind_some, hmin, Option.bind_some, hadd, Option.bind_some]
          exact hK3 K (by omega) q' (by omega)
theorem net_ev (l : List S67) (g : List Int) (hg : g.length = l.length) (hl : l.length ≤ 1000000) (hb : ∀ x ∈ g, 0 ≤ x ∧ x ≤ 1000000) (u : Int) : ∀ (es : List S67) (xs : List Int) (j : Nat) (acc : Int), es = l.drop j → xs = g.drop j → -(1000000 * (j : Int)) ≤ acc → acc ≤ 1000000 * (j : Int) → Ev (fun k => skiarearef06_net.l0 k l g u acc (j : Int)) (acc + netS es xs u)
  | [], xs, j, acc, h1, h2, _, _ => by
    have hlen : l.length ≤ j := by
      have := congrArg List.length h1
      simp at this; omega
    rw [netS.eq_2 [] xs u (by intro _ _ _ _ h; cases h), Int.add_zero]
    exact Ev.step (f := fun _ => some acc) (fun k => by rw [skiarearef06_net.l0, if_neg (by omega)]) (Ev.now _)
  | e :: es, xs, j, acc, h1, h2, h3, h4 => by
    have hjl : j < l.length := by
      have := congrArg List.length h1
      simp at this; omega
    obtain ⟨x, xs, rfl⟩ : ∃ x ys, xs = x :: ys := by
      cases xs with
      | nil => have := congrArg List.length h2; simp at this; omega
      | cons x ys => exact ⟨x, ys, rfl⟩
    have hle : l[j]? = some e := by
      have := congrArg (fun z => z[0]?) h1
      simp at this; exact this.symm
    have hfe : g[j]? = some x := by
      have := congrArg (fun z => z[0]?) h2
      simp at this; exact this.symm
    have h1' : es = l.drop (j + 1) := by
      have := congrArg List.tail h1
      simpa using this
    have h2' : xs = g.drop (j + 1) := by
      have := congrArg List.tail h2
      simpa using this
    have hx := hb x (List.mem_of_getElem? hfe)
    have jw : wrap64 ((j : Int) + 1) = ((j + 1 : Nat) : Int) := by unfold wrap64; omega
    have j2 : (j : Int) < (g.length : Int) := by omega
    refine Ev.step (fun k => by rw [skiarearef06_net.l0, if_pos (by omega), if_pos (by omega), rd67_get hle, rd_get hfe, jw]) ?_
    rw [netS]
    by_cases c1 : e.f1 = u
    · refine Ev.pos c1 (Ev.pos j2 ?_)
      rw [if_pos c1]
      by_cases c2 : e.f2 = u
      · refine Ev.pos c2 ?_
        rw [if_pos c2, show wrap64 (wrap64 (acc + x) - x) = acc by unfold wrap64; omega]
        have := net_ev l g hg hl hb u es xs (j + 1) acc h1' h2' (by omega) (by omega)
        rwa [show acc + (x - x + netS es xs u) = acc + netS es xs u by omega]
      · refine Ev.neg c2 ?_
        rw [if_neg c2, show wrap64 (acc + x) = acc + x by unfold wrap64; omega]
        have := net_ev l g hg hl hb u es xs (j + 1) (acc + x) h1' h2' (by omega) (by omega)
        rwa [show acc + (x - 0 + netS es xs u) = acc + x + netS es xs u by omega]
    · refine Ev.neg c1 ?_
      rw [if_neg c1]
      by_cases c2 : e.f2 = u
      · refine Ev.pos c2 (Ev.pos j2 ?_)
        rw [if_pos c2, show wrap64 (acc - x) = acc - x by unfold wrap64; omega]
        have := net_ev l g hg hl hb u es xs (j + 1) (acc - x) h1' h2' (by omega) (by omega)
        rwa [show acc + (0 - x + netS es xs u) = acc - x + netS es xs u by omega]
      · refine Ev.neg c2 ?_
        rw [if_neg c2]
        have := net_ev l g hg hl hb u es xs (j + 1) acc h1' h2' (by omega) (by omega)
        rwa [show acc + (0 - 0 + netS es xs u) = acc + netS es xs u by omega]
/-- BOTH MAX ARE THE SAME. -/
theorem max_both (l : List S67) (s t : Int) (hst : s ≠ t) (hc : CapOk l) (hl : l.length ≤ 1000000) : ∃ v : Int, Ev (fun k => flow_Max.f k l s t) v ∧ Ev (fun k => skiarearef06_Max.f k l s t) v := by
  obtain ⟨g, h1, ⟨K0, hK⟩, h2⟩ := find_sim l s t hst hc hl ((capSum l).toNat + 1) (List.replicate l.length 0) (FOk.zero l hc) (by rw [netS_zero]; have := capSum_le l hc; omega)
  refine ⟨netS l g s, ?_, ?_⟩
  · have hF : Ev (fun k => flow_Find.f k l s t) g := ⟨K0 + (capSum l).toNat + 1, fun k hk => by
      show flow_Find.f k l s t = some g
      rw [flow_Find.f, if_pos (by omega), if_neg hst]
      exact hK k (by omega) k (by omega)⟩
    refine Ev.congr (fun k => by rw [flow_Max.f, if_neg hst]) ?_
    exact Ev.bind (f := fun _ f => flow_Value.f l f s) hF (Ev.congr (fun _ => value_spec h2 hc hl s) (Ev.now _))
  · unfold skiarearef06_Max.f
    refine Ev.neg hst ?_
    have hF : Ev (fun k => skiarearef06_Find.f k l s t) g := by
      unfold skiarearef06_Find.f
      refine Ev.pos (by omega) (Ev.pos (by omega) ?_)
      rw [show ((l.length : Int)).toNat = l.length by omega]
      exact Ev.neg hst h1
    refine Ev.bind hF (Ev.bind ?_ (Ev.now _))
    have := net_ev l g h2.len hl (h2.bd hc) s l g 0 0 rfl rfl (by omega) (by omega)
    rw [Int.zero_add] at this
    exact Ev.bind this (Ev.now _)
/-! ### the reference's Egress -/
theorem node_iff (a : List S62) (b : List S82) (c : List S44) (d : List Int) (hl : a.length ≤ big) (n : Int) : ∃ r : Int × Int × Bool, Ev (fun k => skiarearef10_Node.f k a b c d n) r ∧ (r.2.2 = true ↔ IsNode a n) := by
  have := up_loop a.length (fun i => ∃ r : Int × Int × Bool, Ev (fun k => skiarearef10_Node.l0 k n i a b c d) r ∧ (r.2.2 = true ↔ IsNode (a.drop i.toNat) n)) ?_ (fun i h0 h1 ih => ?_)
  · exact this
  · rw [drop_nil a _ rfl]
    exact ⟨(0, 0, false), Ev.step (f := fun _ => some (0, 0, false)) (fun k => by rw [skiarearef10_Node.l0, if_neg (by omega)]) (Ev.now _), by simp [IsNode]⟩
  · have hd := drop_at a z62 i h0 h1
    by_cases e : (rd_T62 a i).f0 = n
    · exact ⟨_, Ev.step (fun k => by rw [skiarearef10_Node.l0, if_pos h1, if_pos h0, if_pos e]) (Ev.now _), fun _ => ⟨_, by rw [hd]; exact List.mem_cons_self .., e⟩, fun _ => rfl⟩
    · obtain ⟨r, x, y⟩ := ih
      refine ⟨r, Ev.step (fun k => by rw [skiarearef10_Node.l0, if_pos h1, if_pos h0, if_neg e, wrap_inc h0 h1 hl]) x, ?_⟩
      rw [y, hd]
      constructor
      · rintro ⟨z, hz, h⟩; exact ⟨z, List.mem_cons_of_mem _ hz, h⟩
      · rintro ⟨z, hz, h⟩
        rcases List.mem_cons.1 hz with rfl | hz
        · exact absurd h e
        · exact ⟨z, hz, h⟩
section
variable (a : List S62) (b : List S82) (c : List S44) (d : List Int) (e : List Int) (n : Int)
theorem listed_ev (he : e.length ≤ big) (acc : List S67) (i : Int) (hi0 : 0 ≤ i) (hi1 : i < c.length) (r : Int) (h : ∀ bb : Bool, (bb = true ↔ (rd_T44 c i).f0 ∈ e) → Ev (fun k => skiarearef55_Egress.l1 k e n acc i bb (e.length : Int) a b c d) r) : Ev (fun k => skiarearef55_Egress.l1 k e n acc i false 0 a b c d) r := by
  have := up_loop e.length (fun x => ∀ lst : Bool, (∀ bb : Bool, (bb = true ↔ lst = true ∨ (rd_T44 c i).f0 ∈ e.drop x.toNat) → Ev (fun k => skiarearef55_Egress.l1 k e n acc i bb (e.length : Int) a b c d) r) → Ev (fun k => skiarearef55_Egress.l1 k e n acc i lst x a b c d) r) ?_ (fun x h0 h1 ih => ?_)
  · exact this false (fun bb hbb => h bb (by rw [hbb]; simp))
  · intro lst hh
    exact hh lst (by rw [drop_nil e _ rfl]; simp)
  · intro lst hh
    have hd := drop_at e 0 x h0 h1
    change e.drop x.toNat = rd e x :: e.drop (x + 1).toNat at hd
    cases lst with
    | true =>
      refine Ev.step (fun k => by rw [skiarearef55_Egress.l1, if_pos h1, if_pos rfl, wrap_inc h0 h1 he]) ?_
      exact ih true (fun bb hbb => hh bb (by rw [hbb]; simp))
    | false =>
      refine Ev.step (fun k => by rw [skiarearef55_Egress.l1, if_pos h1, if_neg (by simp), if_pos h0, if_pos hi0, if_pos hi1, wrap_inc h0 h1 he]) ?_
      refine ih _ (fun bb hbb => hh bb ?_)
      rw [hbb, hd, List.mem_cons]
      simp only [beq_iff_eq, Bool.false_eq_true, false_or]
      constructor
      · rintro (h | h)
        · exact Or.inl h.symm
        · exact Or.inr h
      · rintro (h | h)
        · exact Or.inl h.symm
        · exact Or.inr h
theorem runs55_ev (he : e.length ≤ big) (hc : c.length ≤ 1000) (hr : ∀ x ∈ c, RunOk a x) (r : Int) : ∀ (cs : List S44) (j : Nat) (acc : List S67), cs = c.drop j → acc.length + cs.length ≤ 1000000 → Ev (fun k => skiarearef55_Egress.l2 k n (acc ++ edA e cs acc.length) 0 a b c d) r → Ev (fun k => skiarearef55_Egress.l0 k e n acc (j : Int) a b c d) r
  | [], j, acc, h1, h2, h3 => by
    have hlen : c.length ≤ j := by
      have := congrArg List.length h1
      simp at this; omega
    rw [edA, List.append_nil] at h3
    exact Ev.step (fun k => by rw [skiarearef55_Egress.l0, if_neg (by omega)]) h3
  | x :: cs, j, acc, h1, h2, h3 => by
    have hjl : j < c.length := by
      have := congrArg List.length h1
      simp at this; omega
    have hx : c[j]? = some x := by
      have := congrArg (fun z => z[0]?) h1
      simp at this; exact this.symm
    have h1' : cs = c.drop (j + 1) := by
      have := congrArg List.tail h1
      simpa using this
    have r44 : rd_T44 c (j : Int) = x := by simp [rd_T44, List.getD_eq_getElem?_getD, hx]
    have hok := (hr x (List.mem_of_getElem? hx)).2.2
    have jw : wrap64 ((j : Int) + 1) = ((j + 1 : Nat) : Int) := by unfold wrap64; omega
    rw [List.length_cons] at h2
    rw [edA] at h3
    refine Ev.step (fun k => by rw [skiarearef55_Egress.l0, if_pos (by omega)]) ?_
    refine listed_ev a b c d e n he acc (j : Int) (by omega) (by omega) r (fun bb hbb => ?_)
    rw [r44] at hbb
    cases bb with
    | true =>
      have hm := hbb.1 rfl
      rw [if_pos hm] at h3
      have hcost : wrap64 (wrap64 (5 - x.f4) * 500) = (5 - x.f4) * 500 := by unfold wrap64; omega
      refine Ev.step (fun k => by rw [skiarearef55_Egress.l1, if_neg (by omega), if_pos rfl, if_pos (by omega), if_pos (by omega), if_pos (by omega), r44, jw, hcost]) ?_
      refine runs55_ev he hc hr r cs (j + 1) _ h1' (by rw [List.length_append, List.length_singleton]; omega) ?_
      rwa [List.length_append, List.length_singleton, List.append_assoc]
    | false =>
      have hm : x.f0 ∉ e := fun h => by have := hbb.2 h; cases this
      rw [if_neg hm] at h3
      refine Ev.step (fun k => by rw [skiarearef55_Egress.l1, if_neg (by omega), if_neg (by simp), jw]) ?_
      exact runs55_ev he hc hr r cs (j + 1) acc h1' (by omega) h3
theorem bases55_ev (hd : d.length ≤ 64) (r : Int) : ∀ (ds : List Int) (j : Nat) (acc : List S67), ds = d.drop j → acc.length + ds.length ≤ 1000000 → Ev (fun k => skiarearef06_Max.f k (acc ++ edB ds acc.length) n 0) r → Ev (fun k => skiarearef55_Egress.l2 k n acc (j : Int) a b c d) r
  | [], j, acc, h1, h2, h3 => by
    have hlen : d.length ≤ j := by
      have := congrArg List.length h1
      simp at this; omega
    rw [edB, List.append_nil] at h3
    exact Ev.step (fun k => by rw [skiarearef55_Egress.l2, if_neg (by omega)]) (Ev.bind h3 (Ev.now _))
  | x :: ds, j, acc, h1, h2, h3 => by
    have hjl : j < d.length := by
      have := congrArg List.length h1
      simp at this; omega
    have hx : d[j]? = some x := by
      have := congrArg (fun z => z[0]?) h1
      simp at this; exact this.symm
    have h1' : ds = d.drop (j + 1) := by
      have := congrArg List.tail h1
      simpa using this
    have jw : wrap64 ((j : Int) + 1) = ((j + 1 : Nat) : Int) := by unfold wrap64; omega
    rw [List.length_cons] at h2
    rw [edB] at h3
    refine Ev.step (fun k => by rw [skiarearef55_Egress.l2, if_pos (by omega), if_pos (by omega), if_pos (by omega), rd_get hx, jw]) ?_
    refine bases55_ev hd r ds (j + 1) _ h1' (by rw [List.length_append, List.length_singleton]; omega) ?_
    rwa [List.length_append, List.length_singleton, List.append_assoc]
end
/-- BOTH EGRESS ARE THE SAME. -/
theorem egress_both {a : List S62} (b : List S82) {c : List S44} {d : List Int} (hm : MapOk a c d) (ha : a.length ≤ big) (hc : c.length ≤ 1000) (e : List Int) (he : e.length ≤ big) (n : Int) :
    ∃ v : Int, Ev (fun k => census_Egress.f k a b c d e n) v ∧ Ev (fun k => skiarearef55_Egress.f k a b c d e n) v := by
  have hlen : (edAll e c d).length ≤ 1000000 := by have := edA_len e c 0; have := hm.few; rw [edAll, List.length_append, edB_len]; omega
  have hok := edAll_ok hm e
  have hcap : CapOk (edAll e c d) := fun x hx => ⟨by have := (hok x hx).1; omega, (hok x hx).2.1⟩
  obtain ⟨r, hr, hiff⟩ := node_iff a b c d ha n
  by_cases c1 : IsNode a n
  · have hn : n ≠ 0 := by obtain ⟨x, hx, rfl⟩ := c1; have := hm.ids x hx; omega
    obtain ⟨v, h1, h2⟩ := max_both (edAll e c d) n 0 hn hcap hlen
    refine ⟨v, egress_of hm hc he n (fun _ => h1) (fun h => absurd c1 h), ?_⟩
    unfold skiarearef55_Egress.f
    refine Ev.bind hr (Ev.pos (hiff.2 c1) ?_)
    have hA := edA_len e c 0
    have hf := hm.few
    exact runs55_ev a b c d e n he hc hm.run v c 0 [] rfl (by simp; omega) (bases55_ev a b c d n hm.few v d 0 _ rfl (by simp; omega) (by simpa [edAll] using h2))
  · refine ⟨0, egress_of hm hc he n (fun h => absurd h c1) (fun _ => rfl), ?_⟩
    unfold skiarearef55_Egress.f
    exact Ev.bind hr (Ev.neg (fun h => c1 (hiff.1 h)) (Ev.now _))
theorem empty_both {a : List S62} (b : List S82) {c : List S44} {d : List Int} (e : List Int) (n p : Int) (h : ∃ v : Int, Ev (fun k => census_Egress.f k a b c d e n) v ∧ Ev (fun k => skiarearef55_Egress.f k a b c d e n) v) :
    ∃ v : Int, Ev (fun k => census_Empty.f k a b c d e n p) v ∧ Ev (fun k => skiarearef55_Empty.f k a b c d e n p) v := by
  obtain ⟨v, h1, h2⟩ := h
  unfold census_Empty.f skiarearef55_Empty.f
  simp only [within_eq, Option.bind_some]
  have bad : Ev (fun k => skiarearef55_Empty.j0 k e n p true a b c d) (-1) := Ev.step (f := fun _ => some (-1)) (fun k => by rw [skiarearef55_Empty.j0, if_pos rfl]) (Ev.now _)
  by_cases c1 : p < 0
  · exact ⟨-1, Ev.neg (by simp; omega) (Ev.now _), Ev.pos c1 bad⟩
  by_cases c2 : p > 1000000
  · exact ⟨-1, Ev.neg (by simp; omega) (Ev.now _), Ev.neg c1 (by rw [decide_eq_true c2]; exact bad)⟩
  rw [decide_eq_false c2]
  have c3 : decide (0 ≤ p ∧ p ≤ 1000000) = true := decide_eq_true (by omega)
  have go : ∀ u : Int, Ev (fun k => if p = 0 then some 0 else ((skiarearef55_Egress.f k a b c d e n).bind fun t => if t = 0 then some (-1) else some (wrap64 (Int.tdiv (wrap64 (wrap64 (wrap64 (p * 3600) + t) - 1)) t)))) u → Ev (fun k => if p < 0 then skiarearef55_Empty.j0 k e n p true a b c d else skiarearef55_Empty.j0 k e n p false a b c d) u := fun u h => by
    refine Ev.neg c1 ?_
    exact Ev.step (fun k => by rw [skiarearef55_Empty.j0, if_neg (by simp)]) h
  by_cases c4 : p = 0
  · exact ⟨0, Ev.pos c3 (Ev.pos c4 (Ev.now _)), go 0 (Ev.pos c4 (Ev.now _))⟩
  by_cases c5 : v = 0
  · exact ⟨-1, Ev.pos c3 (Ev.neg c4 (Ev.bind h1 (Ev.pos c5 (Ev.now _)))), go _ (Ev.neg c4 (Ev.bind h2 (Ev.pos c5 (Ev.now _))))⟩
  · exact ⟨_, Ev.pos c3 (Ev.neg c4 (Ev.bind h1 (Ev.neg c5 (Ev.now _)))), go _ (Ev.neg c4 (Ev.bind h2 (Ev.neg c5 (Ev.now _))))⟩
end Go.Proofs.Ytgfiidgigenibaa.Q
