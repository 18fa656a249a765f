-- written by wip/drive.py (this session's program) over the kit's print words
import Derived.Test.YtmhggplhfcmgkaaQ0
import Derived.Test.YtmhggplhfcmgkaaQ3
namespace Go.Proofs.Ytmhggplhfcmgkaa.Q
open Go.RowKit Go.Proofs.YtmhggplhfcmgkaaW.PrintWords Go.Proofs.YtmhggplhfcmgkaaW.PrintLast Go.Proofs.YtmhggplhfcmgkaaW.PrintMore
attribute [local go_sem] max2_int min2_int max_two min_two max_three min_three max_four min_four   -- for this text's walks alone
set_option linter.unusedVariables false
set_option linter.unusedSimpArgs false

/-! ### patrol_hazard: function 66 -/
def patrol_hazard.f (l0 : List S56) (a1 : Int) : Option Int := some (idxFrom (fun h : S56 => decide (h.f0 = a1)) l0 0)
set_option maxHeartbeats 800000 in
theorem patrol_hazard.calls (A0 : Option Addr) (c0 : Nat) (l0 : List S56) (a1 : Int) (r : Int) (w : World) (hr0 : Kd.C k56 w A0 l0.length l0) (hc0 : l0.length ≤ c0) (h : patrol_hazard.f l0 a1 = some r) :
  Calls Try.prog 66 #[.slice A0 l0.length c0, .int .i64 a1] w fun e w' => e = .returned (.int .i64 r) ∧ Below w.heap.size w w' := by
 have hmf : ∀ (fn : Fn) (first cap : Array Value) (w : World), (Instr.makeFunc fn first cap).run Try.prog w = .ok (.func fn first cap) w := fun _ _ _ _ => rfl
 have HR := Aside0.mk hr0
 have HC := Aside0.mk hc0
 have HE := Aside0.mk (Option.some.inj h)
 clear hr0 hc0 h
 have HB := Aside0.mk (Below.refl w.heap.size w)
 go_enter Try.func66, Try.ntmps66
 go_wp2_with (first | ((with_reducible refine gate_dst (N := 3) rfl ?_); refine box_event ?hg (N := 3) ?hd (cs := #[.int .i64 a1]) (t := 3) ?hr ?_; (case hd => rfl); (case hg => rfl); (case hr => first | (go_simp; done) | (go_simp; rfl)); intro gb hg w_gb hbox hb; have n0_ := Aside0.mk (below_step bel_ hb); have n1_ := Aside0.mk (hbox); have n2_ := Aside0.mk ((by rw [hg]; exact (below_size bel_) : w.heap.size ≤ gb)); clear HB; have HB := n0_; have BKgb := n1_; have GEgb := n2_; clear n0_ n1_ n2_; clear hb hbox hg; have hczgb_0 : w_gb.cell? ⟨gb, 0, none⟩ = some (.int .i64 a1) := (blk_cell BKgb.out 0).trans rfl; have hfzgb_0 := blk_frozen BKgb.out 0) | (go_at_call 77; (with_reducible refine (idx56_78 gb (fun h : S56 => decide (h.f0 = a1)) A0 c0 l0 _ ?s1 HC.out ?s2).mono ?_); (case s1 => exact Kd.C_below HR.out HB.out); (case s2 => exact fun W x b hbW hpx => haz78_calls x gb a1 b W (pw_cell_below hbW ((blk_cell BKgb.out 0).trans rfl)) hpx); rintro e w' ⟨rfl, hb⟩; rw [HE.out]))
 go_ret
 exact ⟨rfl, below_step HB.out hb⟩



end Go.Proofs.Ytmhggplhfcmgkaa.Q
