/- Plain laws and readings for the seat's proofs (this session's). -/
import Derived.RangeFuncNested
import Derived.Shelf.Abstract
import Derived.Deep.Slices
import Derived.ProofKit
import Derived.OpenShut
import Derived.ChangeOld
import Derived.Lib.SmallJoins
import Derived.WalkSpells
import Derived.Test.YtmhggplhfcmgkaaK19
import Derived.Test.YtmhggplhfcmgkaaQ17
import Derived.Test.YtmhggplhfcmgkaaQ18
import Derived.Test.YtmhggplhfcmgkaaQ19
namespace Go.Proofs.Ytmhggplhfcmgkaa.Q
open Go.RowKit Go.Proofs.YtmhggplhfcmgkaaW.PrintWords Go.Proofs.YtmhggplhfcmgkaaW.PrintLast Go.Proofs.YtmhggplhfcmgkaaW.PrintMore
set_option linter.unusedVariables false
set_option linter.unusedSimpArgs false
/-! ### when an item is open -/
/-- Some sign keeps the item at t. -/
def cov (every : Int) (l : List S35) (item t : Int) : Bool := l.any (cntB item t every)
/-- Nothing overflows. -/
def Tame (every : Int) (l : List S35) : Prop := 1 ≤ every ∧ every ≤ 604800 ∧ ∀ s ∈ l, 0 ≤ s.f2 ∧ s.f2 ≤ 20000000
theorem Okay.tame {items : List Int} {every : Int} {l : List S35} (h : Okay items every l) : Tame every l :=
  ⟨h.e1, h.e2, fun s hs => ⟨((signsE_ok items l 0 h.sg).1 s hs).2.1, ((signsE_ok items l 0 h.sg).1 s hs).2.2.1⟩⟩
theorem Tame.tail {every : Int} {s : S35} {l : List S35} (h : Tame every (s :: l)) : Tame every l := ⟨h.1, h.2.1, fun x hx => h.2.2 x (List.mem_cons_of_mem _ hx)⟩
theorem Tame.drop {every : Int} {l : List S35} (h : Tame every l) (n : Nat) : Tame every (l.drop n) := ⟨h.1, h.2.1, fun x hx => h.2.2 x (List.mem_of_mem_drop hx)⟩
theorem cnt_iff {every : Int} {s : S35} (h1 : 1 ≤ every) (h2 : every ≤ 604800) (h3 : 0 ≤ s.f2) (h4 : s.f2 ≤ 20000000) (item t : Int) : cntB item t every s = true ↔ s.f0 = item ∧ s.f2 ≤ t ∧ t < s.f2 + every := by
  have hw : wrap64 (s.f2 + every) = s.f2 + every := by unfold wrap64; omega
  unfold cntB
  rw [hw]
  simp
theorem Tame.wrap {every : Int} {l : List S35} (h : Tame every l) {s : S35} (hs : s ∈ l) : wrap64 (s.f2 + every) = s.f2 + every := by
  have := h.2.2 s hs
  have := h.1
  have := h.2.1
  unfold wrap64; omega
theorem Tame.cnt {every : Int} {l : List S35} (h : Tame every l) {s : S35} (hs : s ∈ l) (item t : Int) : cntB item t every s = true ↔ s.f0 = item ∧ s.f2 ≤ t ∧ t < s.f2 + every :=
  cnt_iff h.1 h.2.1 (h.2.2 s hs).1 (h.2.2 s hs).2 item t
theorem cov_iff {every : Int} {l : List S35} (h : Tame every l) (item t : Int) : cov every l item t = true ↔ ∃ s ∈ l, s.f0 = item ∧ s.f2 ≤ t ∧ t < s.f2 + every := by
  unfold cov
  rw [List.any_eq_true]
  exact ⟨fun ⟨s, hs, hc⟩ => ⟨s, hs, (h.cnt hs item t).1 hc⟩, fun ⟨s, hs, hc⟩ => ⟨s, hs, (h.cnt hs item t).2 hc⟩⟩
theorem openL_mem (items : List Int) (every : Int) (l : List S35) (t it : Int) : it ∈ openL items every l t ↔ it ∈ items ∧ cov every l it t = false := by
  unfold openL cov
  simp
theorem done_iff (items : List Int) (every : Int) (l : List S35) (t : Int) : (((openL items every l t).length : Int) == 0) = true ↔ ∀ it ∈ items, cov every l it t = true := by
  rw [beq_iff_eq]
  constructor
  · intro h it hi
    cases hc : cov every l it t with
    | true => rfl
    | false =>
      have := (openL_mem items every l t it).2 ⟨hi, hc⟩
      have := List.length_pos_of_mem this
      omega
  · intro h
    have : openL items every l t = [] := by
      rw [List.eq_nil_iff_forall_not_mem]
      intro it hi
      have := (openL_mem items every l t it).1 hi
      rw [h it this.1] at this
      exact absurd this.2 (by simp)
    rw [this]; rfl
theorem open_some (items : List Int) (every : Int) (l : List S35) (t : Int) (hi : items.length ≤ 64) : inspect_Open.f items every l t = some (openL items every l t) := by
  rw [inspect_Open.f, if_pos (by omega)]
theorem done_some (items : List Int) (every : Int) (l : List S35) (t : Int) (hi : items.length ≤ 64) : inspect_Done.f items every l t = some (((openL items every l t).length : Int) == 0) := by
  rw [inspect_Done.f, open_some items every l t hi, Option.bind_some]
/-! ### the program's Until -/
theorem idx_neg {α : Type} (p : α → Bool) : ∀ (l : List α) (i : Nat), idxFrom p l i < 0 → l.any p = false
  | [], _, _ => rfl
  | x :: l, i, h => by
    rw [idxFrom] at h
    by_cases c : p x = true
    · rw [if_pos c] at h; omega
    · rw [if_neg c] at h
      have := idx_neg p l (i + 1) h
      simp only [List.any_cons, this, Bool.or_false]
      simpa using c
theorem idx_at (p : S35 → Bool) : ∀ (l : List S35) (i : Nat), ¬ idxFrom p l i < 0 → ∃ j : Nat, idxFrom p l i = (i : Int) + j ∧ j < l.length ∧ p (rd_T35 l j) = true
  | [], i, h => by rw [idxFrom] at h; omega
  | x :: l, i, h => by
    rw [idxFrom] at h ⊢
    by_cases c : p x = true
    · rw [if_pos c]
      exact ⟨0, by omega, by simp, by simpa [rd_T35] using c⟩
    · rw [if_neg c] at h ⊢
      obtain ⟨j, e, hj, hp⟩ := idx_at p l (i + 1) h
      exact ⟨j + 1, by omega, by simp; omega, by simpa [rd_T35] using hp⟩
theorem rd35_mem (l : List S35) (j : Nat) (h : j < l.length) : rd_T35 l j ∈ l := by
  simp [rd_T35, List.getD_eq_getElem?_getD, List.getElem?_eq_getElem h]
/-- From t on, u is the time at which the item is open first. -/
def First (every : Int) (l : List S35) (item t u : Int) : Prop := t ≤ u ∧ cov every l item u = false ∧ ∀ v, t ≤ v → v < u → cov every l item v = true
theorem untilIn_ev {every : Int} {l : List S35} (h : Tame every l) (item : Int) (d : Nat) : ∀ t : Int, 20604800 - t ≤ d → ∃ u, Ev (fun k => untilIn every l item k t) u ∧ First every l item t u := by
  induction d with
  | zero =>
    intro t hd
    by_cases c : idxFrom (cntB item t every) l 0 < 0
    · refine ⟨t, Ev.step (f := fun _ => some t) (fun k => by rw [untilIn, if_pos c]) (Ev.now _), by omega, idx_neg _ l 0 c, fun v h1 h2 => by omega⟩
    · obtain ⟨j, _, hj, hp⟩ := idx_at _ l 0 c
      have hm := rd35_mem l j hj
      have := (h.cnt hm item t).1 hp
      have := h.2.2 _ hm
      have := h.2.1
      omega
  | succ d ih =>
    intro t hd
    by_cases c : idxFrom (cntB item t every) l 0 < 0
    · refine ⟨t, Ev.step (f := fun _ => some t) (fun k => by rw [untilIn, if_pos c]) (Ev.now _), by omega, idx_neg _ l 0 c, fun v h1 h2 => by omega⟩
    · obtain ⟨j, e, hj, hp⟩ := idx_at _ l 0 c
      have hm := rd35_mem l j hj
      have hc := (h.cnt hm item t).1 hp
      obtain ⟨u, hu, hf⟩ := ih ((rd_T35 l j).f2 + every) (by omega)
      refine ⟨u, Ev.step (f := fun k => untilIn every l item k ((rd_T35 l j).f2 + every)) (fun k => ?_) hu, by have := hf.1; omega, hf.2.1, fun v h1 h2 => ?_⟩
      · rw [untilIn, if_neg c, e, show ((0 : Nat) : Int) + (j : Int) = (j : Int) by omega, h.wrap hm]
      · by_cases c2 : v < (rd_T35 l j).f2 + every
        · exact (cov_iff h item v).2 ⟨_, hm, hc.1, by omega, c2⟩
        · exact hf.2.2 v (by omega) h2
theorem untilL_ev {every : Int} {l : List S35} (h : Tame every l) (t : Int) : ∀ (its : List Int) (m : Int), ∃ r, Ev (fun k => untilL k every l t its m) r ∧ r ≤ m ∧ (∀ it ∈ its, ∀ u, t ≤ u → u < r → cov every l it u = true) ∧ (r = m ∨ (t ≤ r ∧ ∃ it ∈ its, cov every l it r = false))
  | [], m => ⟨m, Ev.now _, Int.le_refl _, by simp, .inl rfl⟩
  | it :: its, m => by
    obtain ⟨u, hu, hf⟩ := untilIn_ev h it (20604800 - t).toNat t (by omega)
    obtain ⟨r, hr, h1, h2, h3⟩ := untilL_ev h t its (min m u)
    refine ⟨r, Ev.bind (f := fun k u => untilL k every l t its (min m u)) hu hr, by omega, ?_, ?_⟩
    · intro x hx v hv hv2
      rcases List.mem_cons.1 hx with rfl | hx
      · exact hf.2.2 v hv (by omega)
      · exact h2 x hx v hv hv2
    · rcases h3 with h3 | ⟨ha, x, hx, hc⟩
      · by_cases c : m ≤ u
        · exact .inl (by omega)
        · have e : r = u := by omega
          exact .inr ⟨by rw [e]; exact hf.1, it, List.mem_cons_self .., by rw [e]; exact hf.2.1⟩
      · exact .inr ⟨ha, x, List.mem_cons_of_mem _ hx, hc⟩
/-- What Until says, where all is done at t. -/
structure UntilIs (items : List Int) (every : Int) (l : List S35) (t r : Int) : Prop where
  top : r ≤ 20000000
  shut : ∀ it ∈ items, ∀ u, t ≤ u → u < r → cov every l it u = true
  opn : r = 20000000 ∨ (t ≤ r ∧ ∃ it ∈ items, cov every l it r = false)
theorem UntilIs.eq {items : List Int} {every : Int} {l : List S35} {t r s : Int} (h : UntilIs items every l t r) (g : UntilIs items every l t s) : r = s := by
  rcases Int.lt_trichotomy r s with c | c | c
  · rcases h.opn with e | ⟨h1, it, hi, hc⟩
    · have := g.top; omega
    · rw [g.shut it hi r h1 c] at hc; exact absurd hc (by simp)
  · exact c
  · rcases g.opn with e | ⟨h1, it, hi, hc⟩
    · have := h.top; omega
    · rw [h.shut it hi s h1 c] at hc; exact absurd hc (by simp)
theorem until_ev {items : List Int} {every : Int} {l : List S35} (h : Tame every l) (hi : items.length ≤ 64) (t : Int) :
    ∃ r, Ev (fun k => inspect_Until.f k items every l t) r ∧ ((∀ it ∈ items, cov every l it t = true) → UntilIs items every l t r) ∧ (¬ (∀ it ∈ items, cov every l it t = true) → r = t) := by
  by_cases c : ∀ it ∈ items, cov every l it t = true
  · obtain ⟨r, hr, h1, h2, h3⟩ := untilL_ev h t items 20000000
    refine ⟨r, Ev.congr (fun k => ?_) hr, fun _ => ⟨h1, h2, h3⟩, fun h => absurd c h⟩
    rw [inspect_Until.f, done_some items every l t hi, Option.bind_some, if_pos ((done_iff items every l t).2 c)]
  · refine ⟨t, Ev.congr (fun k => ?_) (Ev.now _), fun h => absurd h c, fun _ => rfl⟩
    rw [inspect_Until.f, done_some items every l t hi, Option.bind_some, if_neg (fun h => c ((done_iff items every l t).1 h))]
end Go.Proofs.Ytmhggplhfcmgkaa.Q
