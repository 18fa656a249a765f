-- written by wip/drive.py (this session's program) over the kit's print words
import Derived.Test.YtgfiidgigenibaaQ0
namespace Go.Proofs.Ytgfiidgigenibaa.Q
open Go.RowKit Go.Proofs.YtgfiidgigenibaaW.PrintWords Go.Proofs.YtgfiidgigenibaaW.PrintLast Go.Proofs.YtgfiidgigenibaaW.PrintMore
attribute [local go_sem] max2_int min2_int max_two min_two max_three min_three max_four min_four   -- for this text's walks alone
set_option linter.unusedVariables false
set_option linter.unusedSimpArgs false

/-! ### api_Crossing: function 39 -/
def api_Crossing.f (l0 : List S28) : Option (List S28) := if l0.length < 4398046511103 then some l0 else none
set_option maxRecDepth 100000 in
set_option maxHeartbeats 800000 in
theorem api_Crossing.calls (A0 : Option Addr) (c0 : Nat) (l0 : List S28) (r : List S28) (w : World) (hr0 : Kd.C k28 w A0 l0.length l0) (hc0 : l0.length ≤ c0) (h : api_Crossing.f l0 = some r) :
  Calls Try.prog 39 #[.slice A0 l0.length c0] w fun e w' => ∃ v0_ : Value, e = .returned (v0_) ∧ Kd.R k28 28 w' w.heap.size (fun _ => True) v0_ r ∧ Below w.heap.size w w' := by
 unfold api_Crossing.f at h
 by_cases hl : l0.length < 4398046511103
 ·rw [if_pos hl] at h
  obtain rfl := Option.some.inj h
  have heq := fun (W : World) => Lib.run_eql_slice_nil (P := Try.prog) W 22 28 A0 l0.length c0 0 0 Try.underlying22
  have HR := a_ hr0
  have HC := a_ hc0
  have HL := a_ hl
  have HB := a_ (Below.refl w.heap.size w)
  clear h hl
  rcases A0 with _ | ad
  ·have e0 : l0 = [] := by
    rcases Nat.eq_zero_or_pos l0.length with h0 | h0
    ·exact List.eq_nil_of_length_eq_zero h0
    ·obtain ⟨ad, e, _⟩ := hr0.2.2 h0; cases e
   have E0 := a_ e0
   clear e0 hr0 hc0
   go_enter Try.func39, Try.ntmps39
   go_wp2
   go_ret
   exact ⟨_, rfl, by rw [E0.out]; exact Kd.R_nil _ _ _ _ _, Below.refl _ _⟩
  ·clear hr0 hc0
   go_enter Try.func39, Try.ntmps39
   go_wp2_with (first | ((with_reducible refine gate_dst (N := 5) rfl ?_); refine Kd.R_lit k28 (w0 := w) w.heap.size 28 rfl (N := 5) rfl (xs := []) (inner := []) (ok := fun _ => True) (okp := fun _ => True) ?hr (Reps.none _ _) (fun _ hk => hk) trivial HB.out (below_size HB.out) (by simp) ?_; (case hr => first | (go_simp; done) | (go_simp; rfl)); intro v5 w5 ho hb hg hat; have HO := a_ ho; have HB2 := a_ hb; clear HB ho hb hg hat; have HB := HB2; clear HB2) | ((with_reducible refine gate_builtin (b := .append) (xs := #[.tmp 5, .tmp 6]) rfl ?_); at_builtin; refine Kd.R_append_rows k28 (w0 := w) w.heap.size rfl (.tmp 5) (.tmp 6) 22 28 (.agg #[(.int .i64 0), (.int .i64 0), (.int .i64 0), (.int .i64 0)]) 32 rfl Try.underlying22 info28 rfl (by decide) (by omega) v5 [] l0 _ _ _ (fun _ => True) (fun _ => False) rfl rfl ?aO ?aR (fun _ _ h => h) (fun _ h => h.elim) ?aF ?aB ?aS ?aL ?_; (case aR => exact Kd.C_below HR.out HB.out); (case aB => exact HB.out); (case aF => exact (fun _ _ => trivial)); (case aO => exact HO.out); (case aS => exact (below_size HB.out)); (case aL => have := HL.out; simp; omega); intro v7 w7 ho hb hg hat; have HO7 := a_ ho; have HB2 := a_ hb; clear HB HO ho hb hg hat; have HB := HB2; clear HB2))
   go_ret
   exact ⟨_, rfl, HO7.out, HB.out⟩
 ·rw [if_neg hl] at h; exact absurd h (by simp)


end Go.Proofs.Ytgfiidgigenibaa.Q
