/- Plain laws and readings for the seat's proofs (this session's). -/
import Derived.RangeFuncNested
import Derived.Shelf.Abstract
import Derived.Deep.Slices
import Derived.ProofKit
import Derived.OpenShut
import Derived.ChangeOld
import Derived.Lib.SmallJoins
import Derived.WalkSpells
import Derived.Test.YtgfiidgigenibaaW1
import Derived.Test.YtgfiidgigenibaaF5
import Derived.Test.YtgfiidgigenibaaQ16
namespace Go.Proofs.Ytgfiidgigenibaa.Q
open Go.RowKit Go.Proofs.YtgfiidgigenibaaW.PrintWords Go.Proofs.YtgfiidgigenibaaW.PrintLast Go.Proofs.YtgfiidgigenibaaW.PrintMore
set_option linter.unusedVariables false
set_option linter.unusedSimpArgs false
/-! ### the edges of the persons' ways down, and what can flow -/
def edA (e : List Int) : List S44 → Nat → List S67
  | [], _ => []
  | r :: c, n => if r.f0 ∈ e then ⟨n, r.f2, r.f3, (5 - r.f4) * 500⟩ :: edA e c (n + 1) else edA e c n
def edB : List Int → Nat → List S67
  | [], _ => []
  | b :: d, n => ⟨n, b, 0, 1000000⟩ :: edB d (n + 1)
def edAll (e : List Int) (c : List S44) (d : List Int) : List S67 := edA e c 0 ++ edB d (edA e c 0).length
theorem edA_len (e : List Int) : ∀ (c : List S44) (n : Nat), (edA e c n).length ≤ c.length
  | [], _ => Nat.le_refl _
  | r :: c, n => by
    rw [edA, List.length_cons]
    split
    · have := edA_len e c (n + 1); rw [List.length_cons]; omega
    · have := edA_len e c n; omega
theorem edB_len : ∀ (d : List Int) (n : Nat), (edB d n).length = d.length
  | [], _ => rfl
  | b :: d, n => by rw [edB, List.length_cons, List.length_cons, edB_len d (n + 1)]
theorem edgesA_ev {a : List S62} (e : List Int) (he : e.length ≤ big) : ∀ (c : List S44) (acc : List S67), (∀ r ∈ c, RunOk a r) → acc.length + c.length ≤ 1000000 → Ev (fun k => edgesA k e c acc) (acc ++ edA e c acc.length)
  | [], acc, _, _ => by rw [edA, List.append_nil]; exact Ev.now _
  | r :: c, acc, h, hl => by
    rw [List.length_cons] at hl
    have hr := h r (List.mem_cons_self ..)
    have h' := fun x hx => h x (List.mem_cons_of_mem r hx)
    refine Ev.bind (contains_ev e he r.f0) ?_
    rw [edA]
    by_cases m : r.f0 ∈ e
    · rw [if_pos m, show wrap64 (wrap64 (5 - r.f4) * 500) = (5 - r.f4) * 500 by have := hr.2.2; unfold wrap64; omega]
      refine Ev.pos (decide_eq_true m) (Ev.pos (by omega) ?_)
      have := edgesA_ev (a := a) e he c (acc ++ [⟨acc.length, r.f2, r.f3, (5 - r.f4) * 500⟩]) h' (by rw [List.length_append, List.length_singleton]; omega)
      rwa [List.length_append, List.length_singleton, List.append_assoc] at this
    · rw [if_neg m]
      exact Ev.neg (by simp [m]) (edgesA_ev (a := a) e he c acc h' (by omega))
theorem edgesB_eq : ∀ (d : List Int) (acc : List S67), acc.length + d.length ≤ 1000000 → edgesB d acc = some (acc ++ edB d acc.length)
  | [], acc, _ => by rw [edgesB, edB, List.append_nil]
  | b :: d, acc, hl => by
    rw [List.length_cons] at hl
    rw [edgesB, if_pos (by omega), edgesB_eq d _ (by rw [List.length_append, List.length_singleton]; omega), edB, List.length_append, List.length_singleton, List.append_assoc]
    rfl
theorem egress_of {a : List S62} {b : List S82} {c : List S44} {d e : List Int} (hm : MapOk a c d) (hc : c.length ≤ 1000) (he : e.length ≤ big) (n : Int) {v : Int} (h : IsNode a n → Ev (fun k => flow_Max.f k (edAll e c d) n 0) v) (h0 : ¬ IsNode a n → v = 0) : Ev (fun k => census_Egress.f k a b c d e n) v := by
  unfold census_Egress.f
  have hd := hm.few
  by_cases c1 : IsNode a n
  · refine Ev.pos ((any_node a n).2 c1) ?_
    have := edgesA_ev (a := a) e he c [] hm.run (by simp; omega)
    refine Ev.bind this ?_
    have hl := edA_len e c 0
    refine Ev.congr (fun k => by rw [edgesB_eq d _ (by simp; omega), Option.bind_some]) ?_
    exact h c1
  · rw [h0 c1]
    exact Ev.neg (fun hh => c1 ((any_node a n).1 hh)) (Ev.now _)
/-- What can flow out of K over the runs, and over the bases. -/
def cutA (K e : List Int) : List S44 → Int
  | [] => 0
  | r :: c => (if r.f0 ∈ e ∧ r.f2 ∈ K ∧ r.f3 ∉ K then (5 - r.f4) * 500 else 0) + cutA K e c
def cutB (K : List Int) : List Int → Int
  | [] => 0
  | b :: d => (if b ∈ K ∧ (0 : Int) ∉ K then 1000000 else 0) + cutB K d
theorem capCut_append (K : List Int) : ∀ l l' : List S67, capCut K (l ++ l') = capCut K l + capCut K l'
  | [], l' => by rw [capCut, List.nil_append, Int.zero_add]
  | e :: l, l' => by rw [List.cons_append, capCut, capCut, capCut_append K l l', Int.add_assoc]
theorem cut_edA (K e : List Int) : ∀ (c : List S44) (n : Nat), capCut K (edA e c n) = cutA K e c
  | [], _ => rfl
  | r :: c, n => by
    rw [edA, cutA]
    by_cases m : r.f0 ∈ e
    · rw [if_pos m, capCut, cut_edA K e c (n + 1)]
      simp only [m, true_and]
    · rw [if_neg m, cut_edA K e c n, if_neg (fun h => m h.1), Int.zero_add]
theorem cut_edB (K : List Int) : ∀ (d : List Int) (n : Nat), capCut K (edB d n) = cutB K d
  | [], _ => rfl
  | b :: d, n => by rw [edB, cutB, capCut, cut_edB K d (n + 1)]
theorem cut_all (K e : List Int) (c : List S44) (d : List Int) : capCut K (edAll e c d) = cutA K e c + cutB K d := by rw [edAll, capCut_append, cut_edA, cut_edB]
theorem cutA_nn {a : List S62} (K e : List Int) : ∀ c : List S44, (∀ r ∈ c, RunOk a r) → 0 ≤ cutA K e c ∧ ∀ r ∈ c, r.f0 ∈ e → r.f2 ∈ K → r.f3 ∉ K → 500 ≤ cutA K e c
  | [], _ => ⟨Int.le_refl _, by simp⟩
  | r :: c, h => by
    have ih := cutA_nn (a := a) K e c (fun x hx => h x (List.mem_cons_of_mem _ hx))
    have hr := (h r (List.mem_cons_self ..)).2.2
    rw [cutA]
    refine ⟨by split <;> omega, fun x hx h1 h2 h3 => ?_⟩
    rcases List.mem_cons.1 hx with rfl | hx
    · rw [if_pos ⟨h1, h2, h3⟩]; omega
    · have := ih.2 x hx h1 h2 h3; split <;> omega
theorem cutB_nn (K : List Int) : ∀ d : List Int, 0 ≤ cutB K d ∧ ∀ b ∈ d, b ∈ K → (0 : Int) ∉ K → 1000000 ≤ cutB K d
  | [] => ⟨Int.le_refl _, by simp⟩
  | b :: d => by
    have ih := cutB_nn K d
    rw [cutB]
    refine ⟨by split <;> omega, fun x hx h1 h2 => ?_⟩
    rcases List.mem_cons.1 hx with rfl | hx
    · rw [if_pos ⟨h1, h2⟩]; omega
    · have := ih.2 x hx h1 h2; split <;> omega
theorem cutA_mono {a : List S62} (K e e' : List Int) (hs : ∀ x ∈ e, x ∈ e') : ∀ c : List S44, (∀ r ∈ c, RunOk a r) → cutA K e c ≤ cutA K e' c
  | [], _ => Int.le_refl _
  | r :: c, h => by
    have ih := cutA_mono (a := a) K e e' hs c (fun x hx => h x (List.mem_cons_of_mem _ hx))
    have hr := (h r (List.mem_cons_self ..)).2.2
    rw [cutA, cutA]
    by_cases m : r.f0 ∈ e ∧ r.f2 ∈ K ∧ r.f3 ∉ K
    · rw [if_pos m, if_pos ⟨hs _ m.1, m.2⟩]; omega
    · rw [if_neg m]; split <;> omega
/-- What the runs that begin at n take. -/
def outR (n : Int) (e : List Int) : List S44 → Int
  | [] => 0
  | r :: c => (if r.f2 = n ∧ r.f0 ∈ e then (5 - r.f4) * 500 else 0) + outR n e c
theorem outR_bd {a : List S62} (n : Int) (e : List Int) : ∀ c : List S44, (∀ r ∈ c, RunOk a r) → 0 ≤ outR n e c ∧ outR n e c ≤ 2000 * c.length ∧ cutA [n] e c ≤ outR n e c
  | [], _ => ⟨Int.le_refl _, Int.le_refl _, Int.le_refl _⟩
  | r :: c, h => by
    have ih := outR_bd (a := a) n e c (fun x hx => h x (List.mem_cons_of_mem _ hx))
    have hr := (h r (List.mem_cons_self ..)).2.2
    rw [outR, cutA, List.length_cons]
    by_cases m : r.f2 = n ∧ r.f0 ∈ e
    · rw [if_pos m]; split <;> omega
    · rw [if_neg m, if_neg (fun hh => m ⟨by simpa using hh.2.1, hh.1⟩)]; omega
theorem cutB_no (n : Int) : ∀ d : List Int, n ∉ d → cutB [n] d = 0
  | [], _ => rfl
  | b :: d, h => by
    rw [List.mem_cons, not_or] at h
    rw [cutB, cutB_no n d h.2, if_neg (fun hh => h.1 (List.mem_singleton.1 hh.1).symm)]; rfl
theorem edAll_ok {a : List S62} {c : List S44} {d : List Int} (hm : MapOk a c d) (e : List Int) : ∀ x ∈ edAll e c d, 0 < x.f3 ∧ x.f3 ≤ 1000000 ∧ ((∃ r ∈ c, r.f0 ∈ e ∧ x.f1 = r.f2 ∧ x.f2 = r.f3) ∨ (x.f1 ∈ d ∧ x.f2 = 0)) := by
  have hA : ∀ (c' : List S44) (n : Nat), (∀ r ∈ c', r ∈ c) → ∀ x ∈ edA e c' n, 0 < x.f3 ∧ x.f3 ≤ 1000000 ∧ ∃ r ∈ c, r.f0 ∈ e ∧ x.f1 = r.f2 ∧ x.f2 = r.f3 := by
    intro c'
    induction c' with
    | nil => intro n _ x hx; simp [edA] at hx
    | cons r c' ih =>
      intro n hs x hx
      have hr := (hm.run r (hs r (List.mem_cons_self ..))).2.2
      rw [edA] at hx
      by_cases m : r.f0 ∈ e
      · rw [if_pos m] at hx
        rcases List.mem_cons.1 hx with rfl | hx
        · exact ⟨by show 0 < (5 - r.f4) * 500; omega, by show (5 - r.f4) * 500 ≤ 1000000; omega, r, hs r (List.mem_cons_self ..), m, rfl, rfl⟩
        · exact ih _ (fun y hy => hs y (List.mem_cons_of_mem _ hy)) x hx
      · rw [if_neg m] at hx
        exact ih _ (fun y hy => hs y (List.mem_cons_of_mem _ hy)) x hx
  have hB : ∀ (d' : List Int) (n : Nat), (∀ b ∈ d', b ∈ d) → ∀ x ∈ edB d' n, 0 < x.f3 ∧ x.f3 ≤ 1000000 ∧ x.f1 ∈ d ∧ x.f2 = 0 := by
    intro d'
    induction d' with
    | nil => intro n _ x hx; simp [edB] at hx
    | cons b d' ih =>
      intro n hs x hx
      rw [edB] at hx
      rcases List.mem_cons.1 hx with rfl | hx
      · exact ⟨by show (0 : Int) < 1000000; omega, Int.le_refl _, hs b (List.mem_cons_self ..), rfl⟩
      · exact ih _ (fun y hy => hs y (List.mem_cons_of_mem _ hy)) x hx
  intro x hx
  rcases List.mem_append.1 hx with hx | hx
  · obtain ⟨h1, h2, h3⟩ := hA c 0 (fun _ h => h) x hx; exact ⟨h1, h2, Or.inl h3⟩
  · obtain ⟨h1, h2, h3⟩ := hB d _ (fun _ h => h) x hx; exact ⟨h1, h2, Or.inr h3⟩
/-- THE VALUE OF EGRESS. -/
theorem egress_spec {a : List S62} (b : List S82) {c : List S44} {d : List Int} (hm : MapOk a c d) (hc : c.length ≤ 1000) (e : List Int) (he : e.length ≤ big) (n : Int) :
    ∃ v : Int, Ev (fun k => census_Egress.f k a b c d e n) v ∧ (¬ IsNode a n → v = 0) ∧ (IsNode a n → n ≠ 0 ∧ (∃ K : List Int, K.Nodup ∧ n ∈ K ∧ (0 : Int) ∉ K ∧ v = cutA K e c + cutB K d) ∧ ∀ K : List Int, K.Nodup → n ∈ K → (0 : Int) ∉ K → v ≤ cutA K e c + cutB K d) := by
  have hlen : (edAll e c d).length ≤ 1000000 := by have := edA_len e c 0; have := hm.few; rw [edAll, List.length_append, edB_len]; omega
  have hok := edAll_ok hm e
  have hcap : CapOk (edAll e c d) := fun x hx => ⟨by have := (hok x hx).1; omega, (hok x hx).2.1⟩
  by_cases c1 : IsNode a n
  · have hn : n ≠ 0 := by obtain ⟨x, hx, rfl⟩ := c1; have := hm.ids x hx; omega
    obtain ⟨v, h1, ⟨K, k1, k2, k3, k4⟩, h3, _⟩ := max_cut (edAll e c d) n 0 hn hcap hlen
    exact ⟨v, egress_of hm hc he n (fun _ => h1) (fun h => absurd c1 h), fun h => absurd c1 h, fun _ => ⟨hn, ⟨K, k1, k2, k3, by rw [k4, cut_all]⟩, fun K q1 q2 q3 => by rw [← cut_all]; exact h3 K q1 q2 q3⟩⟩
  · exact ⟨0, egress_of hm hc he n (fun h => absurd h c1) (fun _ => rfl), fun _ => rfl, fun h => absurd h c1⟩
/-- Egress is positive exactly if a base can be reached. -/
theorem egress_home {a : List S62} {c : List S44} {d : List Int} (hm : MapOk a c d) (hc : c.length ≤ 1000) (e h : List Int) (n v : Int) (hv : IsNode a n → n ≠ 0 ∧ (∃ K : List Int, K.Nodup ∧ n ∈ K ∧ (0 : Int) ∉ K ∧ v = cutA K e c + cutB K d) ∧ ∀ K : List Int, K.Nodup → n ∈ K → (0 : Int) ∉ K → v ≤ cutA K e c + cutB K d) (hz : ¬ IsNode a n → v = 0)
    (h1 : ∀ x ∈ d, x ∈ h) (h2 : ∀ r ∈ c, r.f0 ∈ e → r.f3 ∈ h → r.f2 ∈ h) (h3 : ∀ R : Int → Prop, (∀ x ∈ d, R x) → (∀ r ∈ c, r.f0 ∈ e → R r.f3 → R r.f2) → ∀ x ∈ h, R x) : n ∈ h ↔ v > 0 := by
  by_cases c1 : IsNode a n
  case neg =>
    rw [hz c1]
    exact ⟨fun hh => absurd (h3 (IsNode a) hm.base (fun r hr _ _ => (hm.run r hr).1) n hh) c1, fun hh => by omega⟩
  obtain ⟨hn, ⟨K, k1, k2, k3, k4⟩, hle⟩ := hv c1
  constructor
  · intro hh
    refine Int.not_le.1 (fun hle0 => ?_)
    have nA := cutA_nn (a := a) K e c hm.run
    have nB := cutB_nn K d
    have : n ∉ K := h3 (fun x => x ∉ K) (fun x hx hk => by have := nB.2 x hx hk k3; omega) (fun r hr hm' h hk => by have := nA.2 r hr hm' hk h; omega) n hh
    exact this k2
  · intro hpos
    refine Decidable.byContradiction (fun hh => ?_)
    have hlen : (edAll e c d).length ≤ 1000000 := by have := edA_len e c 0; have := hm.few; rw [edAll, List.length_append, edB_len]; omega
    have hok := edAll_ok hm e
    have hcap : CapOk (edAll e c d) := fun x hx => ⟨by have := (hok x hx).1; omega, (hok x hx).2.1⟩
    obtain ⟨K, q1, q2, q3, q4⟩ := reach_zero (edAll e c d) n hcap (fun x hx => (hok x hx).1) hlen (fun x => x ∉ h ∧ x ≠ 0) ⟨hh, hn⟩ (fun x hx hR => by
      rcases (hok x hx).2.2 with ⟨r, hr, hmem, e1, e2⟩ | ⟨e1, e2⟩
      · rw [e1] at hR
        rw [e2]
        refine ⟨fun h' => hR.1 (h2 r hr hmem h'), ?_⟩
        obtain ⟨y, hy, hy2⟩ := (hm.run r hr).2.1
        have := hm.ids y hy
        omega
      · exact absurd (h1 _ e1) hR.1)
    have := hle K q1 q2 (fun h0 => (q3 0 h0).2 rfl)
    rw [← cut_all, q4] at this
    omega
end Go.Proofs.Ytgfiidgigenibaa.Q
