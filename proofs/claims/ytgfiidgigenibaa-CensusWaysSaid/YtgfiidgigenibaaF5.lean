/- Plain laws and readings for the seat's proofs (this session's). -/
import Derived.RangeFuncNested
import Derived.Shelf.Abstract
import Derived.Deep.Slices
import Derived.ProofKit
import Derived.OpenShut
import Derived.ChangeOld
import Derived.Lib.SmallJoins
import Derived.WalkSpells
import Derived.Test.YtgfiidgigenibaaF4
namespace Go.Proofs.Ytgfiidgigenibaa.Q
open Go.RowKit Go.Proofs.YtgfiidgigenibaaW.PrintWords Go.Proofs.YtgfiidgigenibaaW.PrintLast Go.Proofs.YtgfiidgigenibaaW.PrintMore
set_option linter.unusedVariables false
set_option linter.unusedSimpArgs false
/-! ### cuts -/
def sumK : List Int → (Int → Int) → Int
  | [], _ => 0
  | a :: K, h => h a + sumK K h
theorem sumK_add : ∀ (K : List Int) (g h : Int → Int), sumK K (fun u => g u + h u) = sumK K g + sumK K h
  | [], _, _ => rfl
  | a :: K, g, h => by rw [sumK, sumK, sumK, sumK_add K g h]; omega
theorem sumK_sub : ∀ (K : List Int) (g h : Int → Int), sumK K (fun u => g u - h u) = sumK K g - sumK K h
  | [], _, _ => rfl
  | a :: K, g, h => by rw [sumK, sumK, sumK, sumK_sub K g h]; omega
theorem sumK_zero : ∀ (K : List Int) (g : Int → Int), (∀ u ∈ K, g u = 0) → sumK K g = 0
  | [], _, _ => rfl
  | a :: K, g, h => by rw [sumK, h a (List.mem_cons_self ..), sumK_zero K g (fun u hu => h u (List.mem_cons_of_mem _ hu))]; rfl
theorem sumK_one : ∀ (K : List Int) (a x : Int), K.Nodup → sumK K (fun u => if a = u then x else 0) = if a ∈ K then x else 0
  | [], a, x, _ => by simp [sumK]
  | b :: K, a, x, h => by
    rw [List.nodup_cons] at h
    rw [sumK, sumK_one K a x h.2]
    by_cases c : a = b
    · subst c; rw [if_pos rfl, if_neg h.1, if_pos (List.mem_cons_self ..)]; omega
    · rw [if_neg c]
      by_cases d : a ∈ K
      · rw [if_pos d, if_pos (List.mem_cons_of_mem _ d)]; omega
      · rw [if_neg d, if_neg (by simp [c, d])]; rfl
theorem sumK_at : ∀ (K : List Int) (g : Int → Int) (s : Int), K.Nodup → s ∈ K → (∀ u ∈ K, u ≠ s → g u = 0) → sumK K g = g s
  | [], _, _, _, h, _ => by cases h
  | b :: K, g, s, hn, hs, h => by
    rw [List.nodup_cons] at hn
    rw [sumK]
    by_cases c : s = b
    · subst c
      rw [sumK_zero K g (fun u hu => h u (List.mem_cons_of_mem _ hu) (by rintro rfl; exact hn.1 hu))]; omega
    · have hs' : s ∈ K := (List.mem_cons.1 hs).resolve_left c
      rw [h b (List.mem_cons_self ..) (Ne.symm c), sumK_at K g s hn.2 hs' (fun u hu => h u (List.mem_cons_of_mem _ hu))]; omega
/-- What flows out of K, less what flows into it. -/
def cutS (K : List Int) : List S67 → List Int → Int
  | e :: es, x :: xs => (if e.f1 ∈ K then x else 0) - (if e.f2 ∈ K then x else 0) + cutS K es xs
  | _, _ => 0
/-- What can flow out of K. -/
def capCut (K : List Int) : List S67 → Int
  | [] => 0
  | e :: es => (if e.f1 ∈ K ∧ e.f2 ∉ K then e.f3 else 0) + capCut K es
theorem cut_sum (K : List Int) (hK : K.Nodup) : ∀ (l : List S67) (f : List Int), sumK K (fun u => netS l f u) = cutS K l f
  | [], f => by rw [sumK_zero K _ (fun u _ => by unfold netS; rfl)]; unfold cutS; rfl
  | e :: es, [] => sumK_zero K _ (fun u _ => rfl)
  | e :: es, x :: xs => by
    have : (fun u => netS (e :: es) (x :: xs) u) = fun u => ((if e.f1 = u then x else 0) - (if e.f2 = u then x else 0)) + netS es xs u := by funext u; rw [netS]
    rw [this, sumK_add, sumK_sub, sumK_one K _ _ hK, sumK_one K _ _ hK, cut_sum K hK es xs, cutS]
/-- A flow's value is what flows out of any set that holds s and not t. -/
theorem net_cut {l : List S67} {g : List Int} {s t : Int} (hz : ∀ u, u ≠ s → u ≠ t → netS l g u = 0) (K : List Int) (hK : K.Nodup) (hs : s ∈ K) (ht : t ∉ K) : netS l g s = cutS K l g := by
  rw [← cut_sum K hK l g]
  exact (sumK_at K _ s hK hs (fun u hu hne => hz u hne (by rintro rfl; exact ht hu))).symm
theorem cut_le (K : List Int) : ∀ (l : List S67) (g : List Int), (∀ (j : Nat) (e : S67) (x : Int), l[j]? = some e → g[j]? = some x → 0 ≤ x ∧ x ≤ e.f3) → (∀ e ∈ l, 0 ≤ e.f3) → cutS K l g ≤ capCut K l
  | [], g, _, _ => by unfold cutS capCut; exact Int.le_refl _
  | e :: es, [], h, hc => by
    have := cut_le K es [] (fun j e x _ h => by simp at h) (fun x hx => hc x (List.mem_cons_of_mem _ hx))
    have e1 : cutS K es [] = 0 := by cases es <;> rfl
    have h0 := hc e (List.mem_cons_self ..)
    rw [show cutS K (e :: es) [] = 0 from rfl, capCut]
    split <;> omega
  | e :: es, x :: xs, h, hc => by
    have ih := cut_le K es xs (fun j e' x' h1 h2 => h (j + 1) e' x' (by simpa using h1) (by simpa using h2)) (fun x hx => hc x (List.mem_cons_of_mem _ hx))
    have h0 := h 0 e x rfl rfl
    rw [cutS, capCut]
    by_cases c1 : e.f1 ∈ K <;> by_cases c2 : e.f2 ∈ K <;> simp only [c1, c2, not_true_eq_false, not_false_eq_true, and_true, and_false, false_and, if_true, if_false] <;> omega
theorem cut_full (K : List Int) : ∀ (l : List S67) (g : List Int), g.length = l.length → (∀ (j : Nat) (e : S67) (x : Int), l[j]? = some e → g[j]? = some x → (e.f1 ∈ K → e.f2 ∉ K → x = e.f3) ∧ (e.f2 ∈ K → e.f1 ∉ K → x = 0)) → cutS K l g = capCut K l
  | [], g, _, _ => by unfold cutS capCut; rfl
  | e :: es, [], h, _ => by simp at h
  | e :: es, x :: xs, h, hj => by
    have ih := cut_full K es xs (by simpa using h) (fun j e' x' h1 h2 => hj (j + 1) e' x' (by simpa using h1) (by simpa using h2))
    have h0 := hj 0 e x rfl rfl
    rw [cutS, capCut, ih]
    obtain ⟨h1, h2⟩ := h0
    by_cases c1 : e.f1 ∈ K <;> by_cases c2 : e.f2 ∈ K
    · simp only [c1, c2, not_true_eq_false, not_false_eq_true, and_true, and_false, false_and, if_true, if_false]; omega
    · have := h1 c1 c2
      simp only [c1, c2, not_true_eq_false, not_false_eq_true, and_true, and_false, false_and, if_true, if_false]; omega
    · have := h2 c2 c1
      simp only [c1, c2, not_true_eq_false, not_false_eq_true, and_true, and_false, false_and, if_true, if_false]; omega
    · simp only [c1, c2, not_true_eq_false, not_false_eq_true, and_true, and_false, false_and, if_true, if_false]; omega
/-- What cannot be left over what is left of the capacities. -/
theorem RInv.closed {l : List S67} {g : List Int} {s : Int} {M : List (Int × (Int × Bool))} {P : List Int} (h : RInv l g s M P []) (hg : FOk l g) (j : Nat) (e : S67) (x : Int) (hl : l[j]? = some e) (hx : g[j]? = some x) :
    (e.f1 ∈ M.map Prod.fst → e.f2 ∉ M.map Prod.fst → x = e.f3) ∧ (e.f2 ∈ M.map Prod.fst → e.f1 ∉ M.map Prod.fst → x = 0) := by
  have hk : P = M.map Prod.fst := by rw [h.keys, List.append_nil]
  have hfit := hg.fit j e x hl hx
  refine ⟨fun h1 h2 => ?_, fun h1 h2 => ?_⟩
  · by_cases c : x < e.f3
    · exact absurd ((mlook_some M e.f2).1 (h.shut e.f1 (by rw [hk]; exact h1) e.f2 ((j : Int), false) ⟨j, e, x, rfl, hl, hx, Or.inl ⟨rfl, rfl, rfl, c⟩⟩)) h2
    · omega
  · by_cases c : 0 < x
    · exact absurd ((mlook_some M e.f1).1 (h.shut e.f2 (by rw [hk]; exact h1) e.f1 ((j : Int), true) ⟨j, e, x, rfl, hl, hx, Or.inr ⟨rfl, rfl, rfl, c⟩⟩)) h2
    · omega
/-- THE VALUE THAT MAX RETURNS: what can flow out of a set that holds s and not t; and no more than what can flow out of any such set. -/
theorem max_cut (l : List S67) (s t : Int) (hst : s ≠ t) (hc : CapOk l) (hl : l.length ≤ 1000000) :
    ∃ v : Int, Ev (fun k => flow_Max.f k l s t) v ∧ (∃ K : List Int, K.Nodup ∧ s ∈ K ∧ t ∉ K ∧ v = capCut K l) ∧ (∀ K : List Int, K.Nodup → s ∈ K → t ∉ K → v ≤ capCut K l) ∧ ∃ g, FOk l g ∧ v = netS l g s := by
  obtain ⟨g, h1, h2, h3, M, P, h4, h5⟩ := max_spec l s t hst hc hl
  refine ⟨netS l g s, h1, ⟨M.map Prod.fst, h4.nodup, (mlook_some M s).1 h4.root, fun hh => ?_, ?_⟩, fun K hK hs ht => ?_, g, h2, rfl⟩
  · have := (mlook_some M t).2 hh
    rw [h5] at this; cases this
  · rw [net_cut h3 _ h4.nodup ((mlook_some M s).1 h4.root) (fun hh => by have := (mlook_some M t).2 hh; rw [h5] at this; cases this)]
    exact cut_full _ l g h2.len (h4.closed h2)
  · rw [net_cut h3 K hK hs ht]
    exact cut_le K l g h2.fit (fun e he => (hc e he).1)
def outCap (u : Int) : List S67 → Int
  | [] => 0
  | e :: es => (if e.f1 = u then e.f3 else 0) + outCap u es
theorem net_out (u : Int) : ∀ (l : List S67) (g : List Int), (∀ (j : Nat) (e : S67) (x : Int), l[j]? = some e → g[j]? = some x → 0 ≤ x ∧ x ≤ e.f3) → (∀ e ∈ l, 0 ≤ e.f3) → netS l g u ≤ outCap u l
  | [], g, _, _ => by unfold netS outCap; exact Int.le_refl _
  | e :: es, [], h, hc => by
    have := net_out u es [] (fun j e x _ h => by simp at h) (fun x hx => hc x (List.mem_cons_of_mem _ hx))
    have e1 : netS es [] u = 0 := by cases es <;> rfl
    have h0 := hc e (List.mem_cons_self ..)
    rw [show netS (e :: es) [] u = 0 from rfl, outCap]
    split <;> omega
  | e :: es, x :: xs, h, hc => by
    have ih := net_out u es xs (fun j e' x' h1 h2 => h (j + 1) e' x' (by simpa using h1) (by simpa using h2)) (fun x hx => hc x (List.mem_cons_of_mem _ hx))
    have h0 := h 0 e x rfl rfl
    rw [netS, outCap]
    split <;> split <;> omega
/-- The nodes that can be reached over the edges at all. -/
theorem reach_zero (l : List S67) (s : Int) (hc : CapOk l) (hp : ∀ e ∈ l, 0 < e.f3) (hl : l.length ≤ 1000000) (R : Int → Prop) (hR : R s) (hstep : ∀ e ∈ l, R e.f1 → R e.f2) :
    ∃ K : List Int, K.Nodup ∧ s ∈ K ∧ (∀ u ∈ K, R u) ∧ capCut K l = 0 := by
  obtain ⟨M, _, P, h⟩ := reach_spec l (List.replicate l.length 0) s List.length_replicate hl
  refine ⟨M.map Prod.fst, h.nodup, (mlook_some M s).1 h.root, ?_, ?_⟩
  · have : ∀ d : Nat, ∀ u, (mlook M u).isSome = true → rk M u ≤ d → R u := by
      intro d
      induction d with
      | zero =>
        intro u hu hr
        obtain ⟨y, hy⟩ := Option.isSome_iff_exists.1 hu
        rcases h.tree u y hy with e | ⟨v, _, hv, _⟩
        · rw [e]; exact hR
        · omega
      | succ d ih =>
        intro u hu hr
        obtain ⟨y, hy⟩ := Option.isSome_iff_exists.1 hu
        rcases h.tree u y hy with e | ⟨v, hv, hrv, hres⟩
        · rw [e]; exact hR
        · have := ih v hv (by omega)
          obtain ⟨j, e, x, _, hle, hx, hcase⟩ := hres
          have hx0 : x = 0 := List.eq_of_mem_replicate (List.mem_of_getElem? hx)
          rcases hcase with ⟨_, g1, g2, _⟩ | ⟨_, _, _, g3⟩
          · rw [← g2]; exact hstep e (List.mem_of_getElem? hle) (by rw [g1]; exact this)
          · omega
    exact fun u hu => this _ u ((mlook_some M u).2 hu) (Nat.le_refl _)
  · have hk : P = M.map Prod.fst := by rw [h.keys, List.append_nil]
    have hz : ∀ (es : List S67), (∀ e ∈ es, e ∈ l) → capCut (M.map Prod.fst) es = 0 := by
      intro es
      induction es with
      | nil => intro _; rfl
      | cons e es ih =>
        intro hs
        rw [capCut, ih (fun x hx => hs x (List.mem_cons_of_mem _ hx)), if_neg]
        · rfl
        · rintro ⟨h1, h2⟩
          have he := hs e (List.mem_cons_self ..)
          obtain ⟨j, hj, hje⟩ := List.mem_iff_getElem.1 he
          have hl' : l[j]? = some e := by rw [List.getElem?_eq_getElem hj, hje]
          have hx : (List.replicate l.length (0 : Int))[j]? = some 0 := by rw [List.getElem?_replicate]; simp [hj]
          exact h2 ((mlook_some M e.f2).1 (h.shut e.f1 (by rw [hk]; exact h1) e.f2 ((j : Int), false) ⟨j, e, 0, rfl, hl', hx, Or.inl ⟨rfl, rfl, rfl, hp e he⟩⟩))
    exact hz l (fun e he => he)
end Go.Proofs.Ytgfiidgigenibaa.Q
