/- Plain laws and readings for the seat's proofs (this session's). -/
import Derived.RangeFuncNested
import Derived.Shelf.Abstract
import Derived.Deep.Slices
import Derived.ProofKit
import Derived.OpenShut
import Derived.ChangeOld
import Derived.Lib.SmallJoins
import Derived.WalkSpells
import Derived.Test.YtgfiidgigenibaaW2
import Derived.Test.YtgfiidgigenibaaW3
import Derived.Test.YtgfiidgigenibaaOpnM
import Derived.Test.YtgfiidgigenibaaQ24
import Derived.Test.YtgfiidgigenibaaQ44
namespace Go.Proofs.Ytgfiidgigenibaa.Q
open Go.RowKit Go.Proofs.YtgfiidgigenibaaW.PrintWords Go.Proofs.YtgfiidgigenibaaW.PrintLast Go.Proofs.YtgfiidgigenibaaW.PrintMore
set_option linter.unusedVariables false
set_option linter.unusedSimpArgs false
theorem CensusWays_pure (a : List S62) (b : List S82) (c : List S44) (d l1 l2 : List Int) (n : Int) (w0 : WNodes a) (w1 : WLifts b) (w2 : WRuns c) (w3 : WInts d) (w4 : WInts l1) (w5 : WInts l2) (w6 : W64 n) : ∃ k, skiarealaw55_CensusWays.f k a b c d l1 l2 n = some true := by
  refine Ev.rounds (g := fun k => skiarealaw55_CensusWays.f k a b c d l1 l2 n) (r := true) ?_
  unfold skiarealaw55_CensusWays.f skiarealaw55_alive.f
  simp only [Option.bind_some, if_true]
  have out : Ev (fun k => skiarealaw55_CensusWays.j0 k l1 l2 n true a b c d) true := Ev.step (f := fun _ => some true) (fun k => by rw [skiarealaw55_CensusWays.j0, if_pos rfl]) (Ev.now _)
  obtain ⟨s, hs, hok⟩ := small_ev a b c d l1 (Nat.le_trans w0.1 (by simp only [maxLen, big]; omega)) (Nat.le_trans w1.1 (by simp only [maxLen, big]; omega)) (Nat.le_trans w2.1 (by simp only [maxLen, big]; omega))
  refine Ev.bind hs ?_
  by_cases c1 : s = true
  case neg => exact Ev.neg c1 out
  refine Ev.pos c1 ?_
  obtain ⟨hm, h1, h2, h3, h4⟩ := hok c1
  by_cases c2 : (l2.length : Int) > 100
  · rw [decide_eq_true c2]; exact out
  rw [decide_eq_false c2]
  obtain ⟨v, v1, v2, v3⟩ := egress_spec b hm (by omega) l1 (by simp only [big]; omega) n
  obtain ⟨h, q1, q2, q3, q4, q5⟩ := home_ev a b c d l1 (by omega) (by have := hm.few; omega) (by simp only [big]; omega)
  have hpos := egress_home hm (by omega) l1 h n v v3 v2 q3 q4 q5
  obtain ⟨v', w1, w2, w3⟩ := egress_spec b hm (by omega) (([] ++ l1) ++ l2) (by simp only [big, List.length_append, List.length_nil]; omega) n
  refine Ev.step (fun k => by rw [skiarealaw55_CensusWays.j0, if_neg (by simp)]) ?_
  refine Ev.bind v1 (Ev.bind q1 (Ev.bind (lhas_ev h (by simp only [big]; omega) n) ?_))
  refine Ev.neg (by rw [show decide (n ∈ h) = decide (v > 0) from decide_eq_decide.2 hpos]; simp) ?_
  simp only [Option.bind_some]
  refine Ev.pos (by simp only [List.length_nil]; omega) (Ev.pos (by simp only [List.length_append, List.length_nil]; omega) ?_)
  refine Ev.bind w1 ?_
  have nn : 0 ≤ v := by
    by_cases i : IsNode a n
    · obtain ⟨_, ⟨K, _, _, _, e⟩, _⟩ := v3 i
      have := (cutA_nn (a := a) K l1 c hm.run).1
      have := (cutB_nn K d).1
      omega
    · rw [v2 i]; omega
  have mono : ¬ v' < v := by
    by_cases i : IsNode a n
    · obtain ⟨_, _, hle⟩ := v3 i
      obtain ⟨_, ⟨K, k1, k2, k3, e⟩, _⟩ := w3 i
      have := hle K k1 k2 k3
      have := cutA_mono (a := a) K l1 (([] ++ l1) ++ l2) (fun x hx => by simp [hx]) c hm.run
      omega
    · rw [v2 i, w2 i]; omega
  rw [decide_eq_false mono]
  refine Ev.step (fun k => by rw [skiarealaw55_CensusWays.j1, if_neg (by simp)]) ?_
  refine Ev.bind (lhas_ev d (by have := hm.few; simp only [big]; omega) n) ?_
  by_cases c3 : n ∈ d
  · refine Ev.pos (decide_eq_true c3) ?_
    obtain ⟨_, ⟨K, k1, k2, k3, e⟩, _⟩ := v3 (hm.base n c3)
    have := (cutA_nn (a := a) K l1 c hm.run).1
    have := (cutB_nn K d).2 n c3 k2 k3
    rw [decide_eq_true (show v ≥ 1000000 by omega)]
    exact Ev.now _
  refine Ev.neg (by simp [c3]) ?_
  have bd := outR_bd (a := a) n l1 c hm.run
  have le : v ≤ outR n l1 c := by
    by_cases i : IsNode a n
    · obtain ⟨h0, _, hle⟩ := v3 i
      have := hle [n] (by simp) (by simp) (by simpa using fun h => h0 h.symm)
      rw [cutB_no n d c3] at this
      omega
    · rw [v2 i]; omega
  have := up_loop c.length (fun i => ∀ s : Int, s + outR n l1 (c.drop i.toNat) = outR n l1 c → 0 ≤ s → Ev (fun k => skiarealaw55_CensusWays.l0 k l1 n v s i a b c d) true) ?_ (fun i h0 h1 ih => ?_)
  · exact this 0 (by simp) (by omega)
  · intro s e hs
    rw [drop_nil c _ rfl, outR, Int.add_zero] at e
    refine Ev.step (f := fun _ => some true) (fun k => by rw [skiarealaw55_CensusWays.l0, if_neg (by omega), if_pos nn, decide_eq_true (by omega)]) (Ev.now _)
  · intro s e hs
    have hd := drop_at c z44 i h0 h1
    change c.drop i.toNat = rd_T44 c i :: c.drop (i + 1).toNat at hd
    have hr := (hm.run _ (getD_in c z44 i h0 h1)).2.2
    change 1 ≤ (rd_T44 c i).f4 ∧ (rd_T44 c i).f4 ≤ 4 at hr
    have tl := (outR_bd (a := a) n l1 (c.drop (i + 1).toNat) (fun r hr => hm.run r (List.mem_of_mem_drop hr))).1
    rw [hd, outR] at e
    generalize hr' : rd_T44 c i = r at e hr
    refine Ev.step (fun k => by rw [skiarealaw55_CensusWays.l0, if_pos h1, if_pos h0, wrap_inc h0 h1 (by omega), hr']) ?_
    by_cases c4 : r.f2 = n
    · refine Ev.pos c4 (Ev.bind (lhas_ev l1 (by simp only [big]; omega) r.f0) ?_)
      by_cases c5 : r.f0 ∈ l1
      · refine Ev.pos (decide_eq_true c5) ?_
        rw [if_pos ⟨c4, c5⟩] at e
        rw [show wrap64 (s + wrap64 (wrap64 (5 - r.f4) * 500)) = s + (5 - r.f4) * 500 by unfold wrap64; omega]
        exact ih _ (by omega) (by omega)
      · rw [if_neg (fun h => c5 h.2)] at e
        exact Ev.neg (by simp [c5]) (ih _ (by omega) hs)
    · rw [if_neg (fun h => c4 h.1)] at e
      exact Ev.neg c4 (ih _ (by omega) hs)
end Go.Proofs.Ytgfiidgigenibaa.Q
