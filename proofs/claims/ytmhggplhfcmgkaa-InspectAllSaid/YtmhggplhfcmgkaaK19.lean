/- Plain laws and readings for the seat's proofs (this session's). -/
import Derived.RangeFuncNested
import Derived.Shelf.Abstract
import Derived.Deep.Slices
import Derived.ProofKit
import Derived.OpenShut
import Derived.ChangeOld
import Derived.Lib.SmallJoins
import Derived.WalkSpells
import Derived.Test.YtmhggplhfcmgkaaRP19
namespace Go.Proofs.Ytmhggplhfcmgkaa.Q
open Go.RowKit Go.Proofs.YtmhggplhfcmgkaaW.PrintWords Go.Proofs.YtmhggplhfcmgkaaW.PrintLast Go.Proofs.YtmhggplhfcmgkaaW.PrintMore
set_option linter.unusedVariables false
set_option linter.unusedSimpArgs false
/-! ### what Right = OK says -/
theorem signsE_ok (items : List Int) : ∀ (l : List S35) (latest : Int), signsE items latest l = 0 → (∀ s ∈ l, s.f0 ∈ items ∧ 0 ≤ s.f2 ∧ s.f2 ≤ 20000000 ∧ latest ≤ s.f2) ∧ l.Pairwise (fun a b => a.f2 ≤ b.f2)
  | [], _, _ => ⟨fun _ h => by simp at h, List.Pairwise.nil⟩
  | s :: l, latest, h => by
    rw [signsE] at h
    by_cases c1 : s.f0 ∉ items
    · rw [if_pos c1] at h; exact absurd h (by decide)
    rw [if_neg c1] at h
    by_cases c2 : s.f1 < 1 ∨ s.f1 > 9999
    · rw [if_pos c2] at h; exact absurd h (by decide)
    rw [if_neg c2] at h
    by_cases c3 : s.f2 < 0 ∨ s.f2 > 20000000
    · rw [if_pos c3] at h; exact absurd h (by decide)
    rw [if_neg c3] at h
    by_cases c4 : s.f2 < latest
    · rw [if_pos c4] at h; exact absurd h (by decide)
    rw [if_neg c4] at h
    obtain ⟨h1, h2⟩ := signsE_ok items l s.f2 h
    refine ⟨fun x hx => ?_, List.Pairwise.cons (fun x hx => (h1 x hx).2.2.2) h2⟩
    rcases List.mem_cons.1 hx with rfl | hx
    · exact ⟨by simpa using c1, by omega, by omega, by omega⟩
    · obtain ⟨a, b, c, d⟩ := h1 x hx
      exact ⟨a, b, c, by omega⟩
structure Okay (items : List Int) (every : Int) (signs : List S35) : Prop where
  ni : items.length ≤ 64
  ns : signs.length ≤ 200
  e1 : 1 ≤ every
  e2 : every ≤ 604800
  it : itemsE [] items = 0
  sg : signsE items 0 signs = 0
theorem right_okay {items : List Int} {every : Int} {signs : List S35} (h : rightS items every signs = 0) : Okay items every signs := by
  unfold rightS at h
  by_cases c : items.length > 64 ∨ signs.length > 200
  · rw [if_pos c] at h; exact absurd h (by decide)
  rw [if_neg c] at h
  by_cases c1 : every < 1 ∨ every > 604800
  · rw [if_pos c1] at h; exact absurd h (by decide)
  rw [if_neg c1] at h
  by_cases c2 : itemsE [] items ≠ 0
  · rw [if_pos c2] at h; exact absurd h c2
  rw [if_neg c2] at h
  exact ⟨by omega, by omega, by omega, by omega, by simpa using c2, h⟩
theorem okay_right {items : List Int} {every : Int} {signs : List S35} (h : Okay items every signs) : rightS items every signs = 0 := by
  unfold rightS
  rw [if_neg (by have := h.ni; have := h.ns; omega), if_neg (by have := h.e1; have := h.e2; omega), if_neg (by simp [h.it])]
  exact h.sg
end Go.Proofs.Ytmhggplhfcmgkaa.Q
