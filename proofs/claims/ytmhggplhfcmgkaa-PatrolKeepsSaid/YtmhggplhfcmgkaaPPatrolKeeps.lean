/- Plain laws and readings for the seat's proofs (this session's). -/
import Derived.RangeFuncNested
import Derived.Shelf.Abstract
import Derived.Deep.Slices
import Derived.ProofKit
import Derived.OpenShut
import Derived.ChangeOld
import Derived.Lib.SmallJoins
import Derived.WalkSpells
import Derived.Test.YtmhggplhfcmgkaaRD53
import Derived.Test.YtmhggplhfcmgkaaCP53
import Derived.Test.YtmhggplhfcmgkaaSA19
import Derived.Test.YtmhggplhfcmgkaaSP19
import Derived.Test.YtmhggplhfcmgkaaOpn53
import Derived.Test.YtmhggplhfcmgkaaQ50
import Derived.Test.YtmhggplhfcmgkaaQ59
import Derived.Test.YtmhggplhfcmgkaaQ78
import Derived.Test.YtmhggplhfcmgkaaQ79
namespace Go.Proofs.Ytmhggplhfcmgkaa.Q
open Go.RowKit Go.Proofs.YtmhggplhfcmgkaaW.PrintWords Go.Proofs.YtmhggplhfcmgkaaW.PrintLast Go.Proofs.YtmhggplhfcmgkaaW.PrintMore
set_option linter.unusedVariables false
set_option linter.unusedSimpArgs false
/-! ### the lists with one changed -/
theorem idx_map (run : Int) : ∀ (l : List S63) (n : Nat), idxFrom (fun x : S63 => decide (x.f0 = run)) l n = idxFrom (fun r : Int => decide (r = run)) (l.map (·.f0)) n
  | [], _ => rfl
  | x :: l, n => by rw [List.map_cons, idxFrom, idxFrom, idx_map run l (n + 1)]
theorem any_map63 (run : Int) (l : List S63) : l.any (runP run) = (l.map (·.f0)).any (fun r => decide (r = run)) := by
  rw [List.any_map]; rfl
theorem idx_at63 (run : Int) : ∀ (l : List S63) (n : Nat), ¬ idxFrom (fun x : S63 => decide (x.f0 = run)) l n < 0 → ∃ j : Nat, idxFrom (fun x : S63 => decide (x.f0 = run)) l n = (n : Int) + j ∧ j < l.length ∧ (l.getD j z63).f0 = run
  | [], n, h => by rw [idxFrom] at h; omega
  | x :: l, n, h => by
    rw [idxFrom] at h ⊢
    by_cases c : x.f0 = run
    · rw [if_pos (by simpa using c)]
      exact ⟨0, by omega, by simp, by simpa using c⟩
    · rw [if_neg (by simpa using c)] at h ⊢
      obtain ⟨j, e, hj, hp⟩ := idx_at63 run l (n + 1) h
      exact ⟨j + 1, by omega, by simp; omega, by simpa using hp⟩
theorem idxR_run {ls : List S63} {run : Int} (h : 0 ≤ idxR ls run) : (rd_T63 ls (idxR ls run)).f0 = run := by
  obtain ⟨j, e, _, hp⟩ := idx_at63 run ls 0 (by unfold idxR at h; omega)
  unfold idxR rd_T63
  rw [e, show (((0 : Nat) : Int) + (j : Int)).toNat = j by omega]
  exact hp
theorem rd_set (ls : List S63) (n : Nat) (y : S63) (i : Int) (h0 : 0 ≤ i) (h1 : i < ls.length) : rd_T63 (ls.set n y) i = if i.toNat = n then y else rd_T63 ls i := by
  unfold rd_T63
  rw [List.getD_eq_getElem?_getD, List.getD_eq_getElem?_getD]
  by_cases c : i.toNat = n
  · rw [if_pos c, c, List.getElem?_set_self (by omega)]; rfl
  · rw [if_neg c, List.getElem?_set_ne (Ne.symm c)]
theorem map_set (ls : List S63) (n : Nat) (y : S63) (hn : n < ls.length) (hy : y.f0 = (ls.getD n z63).f0) : (ls.set n y).map (·.f0) = ls.map (·.f0) := by
  rw [List.map_set]
  apply List.ext_getElem?
  intro j
  by_cases c : n = j
  · subst c
    rw [List.getElem?_set_self (by simpa using hn), List.getElem?_map, List.getElem?_eq_getElem hn]
    simp [hy, List.getD_eq_getElem?_getD, List.getElem?_eq_getElem hn]
  · rw [List.getElem?_set_ne c]
theorem idxR_set (ls : List S63) (n : Nat) (y : S63) (hn : n < ls.length) (hy : y.f0 = (ls.getD n z63).f0) (other : Int) : idxR (ls.set n y) other = idxR ls other := by
  unfold idxR
  rw [idx_map, map_set ls n y hn hy, ← idx_map]
theorem listsE_mk : ∀ (l : List S63) (prev : Int), (∀ x ∈ l, prev < x.f0 ∧ 1 ≤ x.f0 ∧ x.f0 ≤ 9999 ∧ rightS x.f1.f0 x.f1.f1 x.f1.f2 = 0) → l.Pairwise (fun a b => a.f0 < b.f0) → listsE prev l = 0
  | [], _, _, _ => rfl
  | x :: l, prev, h, hp => by
    obtain ⟨h1, h2, h3, h4⟩ := h x (List.mem_cons_self ..)
    rw [List.pairwise_cons] at hp
    rw [listsE, if_neg (by omega), if_neg (by omega), if_neg (by simp [h4])]
    refine listsE_mk l x.f0 (fun y hy => ?_) hp.2
    obtain ⟨a, b, c, d⟩ := h y (List.mem_cons_of_mem _ hy)
    exact ⟨hp.1 y hy, b, c, d⟩
theorem hazE_congr {ls ls' : List S63} (h : ∀ r, ls'.any (runP r) = ls.any (runP r)) : ∀ (l pre : List S56), hazE ls' pre l = hazE ls pre l
  | [], _ => rfl
  | y :: l, pre => by rw [hazE, hazE, h, hazE_congr h l]
theorem fine_set {ls : List S63} {hs : List S56} (F : Fine ls hs) {n : Nat} {y : S63} (hn : n < ls.length) (hy : y.f0 = (ls.getD n z63).f0) (hr : rightS y.f1.f0 y.f1.f1 y.f1.f2 = 0) : Fine (ls.set n y) hs := by
  have hm := map_set ls n y hn hy
  have hok := listsE_ok ls 0 F.le
  have hinc : (ls.set n y).Pairwise (fun a b => a.f0 < b.f0) := by
    have h1 : (ls.map (·.f0)).Pairwise (· < ·) := List.pairwise_map.2 F.inc
    rw [← hm] at h1
    exact List.pairwise_map.1 h1
  have hmem : ∀ x ∈ ls.set n y, x ∈ ls ∨ x = y := fun x hx => List.mem_or_eq_of_mem_set hx
  have hget : ls.getD n z63 ∈ ls := by rw [List.getD_eq_getElem?_getD, List.getElem?_eq_getElem hn, Option.getD_some]; exact List.getElem_mem _
  refine ⟨by rw [List.length_set]; exact F.nl, F.nh, fun x hx => ?_, hinc, ?_, ?_⟩
  · rcases hmem x hx with h | h
    · exact F.ok x h
    · rw [h]; exact right_okay hr
  · refine listsE_mk _ 0 (fun x hx => ?_) hinc
    rcases hmem x hx with h | h
    · exact hok.1 x h
    · have := hok.1 _ hget
      rw [h, hy]; exact ⟨this.1, this.2.1, this.2.2.1, hr⟩
  · rw [hazE_congr (ls := ls) (fun r => by rw [any_map63, any_map63, hm])]
    exact F.he
/-! ### latest -/
theorem latest_ev (ls : List S63) (hs : List S56) (S : Small ls hs) (run a : Int) (d : Nat) : ∀ i : Int, 0 ≤ i → i + d = ls.length →
    ∃ b, Ev (fun k => skiarealaw53_latest.l0 k run a i ls hs) b ∧ (b = true → ∀ x ∈ ls.drop i.toNat, x.f0 = run → ∀ s ∈ x.f1.f2, s.f2 ≤ a) := by
  have hn := S.nl
  induction d with
  | zero =>
    intro i h0 hd
    refine ⟨true, Ev.step (f := fun _ => some true) (fun k => by rw [skiarealaw53_latest.l0, if_neg (by omega)]) (Ev.now _), fun _ => ?_⟩
    rw [List.drop_eq_nil_of_le (by omega)]; simp
  | succ d ih =>
    intro i h0 hd
    have h1 : i < (ls.length : Int) := by omega
    have hw : wrap64 (i + 1) = i + 1 := by unfold wrap64; omega
    have hfit := (S.fit _ (rd63_mem ls i h0 h1)).2
    obtain ⟨b, hb, hB⟩ := ih (i + 1) (by omega) (by omega)
    have off : Ev (fun k => skiarealaw53_latest.j2 k run a i 0 false ls hs) b → True := fun _ => trivial
    have inner : ∀ (e : Nat) (j : Int), 0 ≤ j → j + e = (rd_T63 ls i).f1.f2.length →
        ∃ c, Ev (fun k => skiarealaw53_latest.l1 k run a i j ls hs) c ∧ (c = true → b = true ∧ ((rd_T63 ls i).f0 = run → ∀ s ∈ (rd_T63 ls i).f1.f2.drop j.toNat, s.f2 ≤ a)) := by
      intro e
      induction e with
      | zero =>
        intro j hj hje
        refine ⟨b, ?_, fun h => ⟨h, fun _ => by rw [List.drop_eq_nil_of_le (by omega)]; simp⟩⟩
        refine Ev.step (fun k => by rw [skiarealaw53_latest.l1, if_pos h0, if_pos h1, if_neg (by omega)]) ?_
        exact Ev.step (fun k => by rw [skiarealaw53_latest.j2, if_neg (by simp), hw]) hb
      | succ e ihe =>
        intro j hj hje
        have hj1 : j < ((rd_T63 ls i).f1.f2.length : Int) := by omega
        have hwj : wrap64 (j + 1) = j + 1 := by unfold wrap64; omega
        by_cases cr : (rd_T63 ls i).f0 = run
        · have st : ∀ r, Ev (fun k => (if ((rd_T35 ((rd_T63 ls i).f1.f2) j).f2) > a then (some false) else (skiarealaw53_latest.l1 k run a i (j + 1) ls hs))) r → Ev (fun k => skiarealaw53_latest.l1 k run a i j ls hs) r := fun r hr => by
            refine Ev.step (fun k => by rw [skiarealaw53_latest.l1, if_pos h0, if_pos h1, if_pos hj1, show ((rd_T63 ls i).f0 == run) = true by simpa using cr]) ?_
            exact Ev.step (fun k => by rw [skiarealaw53_latest.j2, if_pos rfl, if_pos h0, if_pos h1, if_pos hj, if_pos hj1, hwj]) hr
          by_cases ca : ((rd_T35 ((rd_T63 ls i).f1.f2) j).f2) > a
          · exact ⟨false, st _ (Ev.pos ca (Ev.now _)), fun h => by cases h⟩
          · obtain ⟨c, hc, hC⟩ := ihe (j + 1) (by omega) (by omega)
            refine ⟨c, st _ (Ev.neg ca hc), fun h => ⟨(hC h).1, fun hr s hs2 => ?_⟩⟩
            rw [rd35_at _ j hj hj1] at hs2
            rcases List.mem_cons.1 hs2 with rfl | hs2
            · omega
            · exact (hC h).2 hr s hs2
        · refine ⟨b, ?_, fun h => ⟨h, fun hr => absurd hr cr⟩⟩
          refine Ev.step (fun k => by rw [skiarealaw53_latest.l1, if_pos h0, if_pos h1, if_pos hj1, show ((rd_T63 ls i).f0 == run) = false by simpa using cr]) ?_
          exact Ev.step (fun k => by rw [skiarealaw53_latest.j2, if_neg (by simp), hw]) hb
    obtain ⟨c, hc, hC⟩ := inner (rd_T63 ls i).f1.f2.length 0 (by omega) (by omega)
    refine ⟨c, Ev.step (fun k => by rw [skiarealaw53_latest.l0, if_pos h1]) hc, fun h x hx => ?_⟩
    rw [rd63_at ls i h0 h1] at hx
    rcases List.mem_cons.1 hx with rfl | hx
    · have := (hC h).2; simpa using this
    · exact hB (hC h).1 x hx
/-! ### Sign of a run's list -/
def newL (x : S63) (item byy a : Int) : List S35 := dropI item x.f1.f2 ++ [⟨item, byy, a⟩]
def newX (x : S63) (item byy a : Int) : S63 := ⟨x.f0, ⟨x.f1.f0, x.f1.f1, newL x item byy a⟩⟩
theorem psign_ev {ls : List S63} {hs : List S56} (S : Small ls hs) (F : Fine ls hs) (run item byy a : Int) :
    Ev (fun k => patrol_Sign.f k ls hs run item byy a) (if idxR ls run < 0 then (([] : List S63), ([] : List S56), 8) else if rightS (rd_T63 ls (idxR ls run)).f1.f0 (rd_T63 ls (idxR ls run)).f1.f1 (newL (rd_T63 ls (idxR ls run)) item byy a) = 0 then (ls.set (idxR ls run).toNat (newX (rd_T63 ls (idxR ls run)) item byy a), hs, 0) else (([] : List S63), ([] : List S56), rightS (rd_T63 ls (idxR ls run)).f1.f0 (rd_T63 ls (idxR ls run)).f1.f1 (newL (rd_T63 ls (idxR ls run)) item byy a))) := by
  refine Ev.congr (fun k => by rw [patrol_Sign.f, patrol_list.f, Option.bind_some]) ?_
  change Ev (fun k => (if idxR ls run < 0 then (some (([] : List (S63)), ([] : List (S56)), 8)) else (if 0 ≤ idxR ls run then (if idxR ls run < (ls.length : Int) then ((inspect_Sign.f k ((rd_T63 ls (idxR ls run)).f1.f0) ((rd_T63 ls (idxR ls run)).f1.f1) ((rd_T63 ls (idxR ls run)).f1.f2) item byy a).bind fun bt407 => (if bt407.2.2.2 = 0 then ((patrol_copied.f ls hs).bind fun bt416 => (if idxR ls run < (bt416.1.length : Int) then (some ((bt416.1.set (idxR ls run : Int).toNat (⟨(rd_T63 bt416.1 (idxR ls run)).f0, (⟨bt407.1, bt407.2.1, bt407.2.2.1⟩ : S25)⟩ : S63)), bt416.2, 0)) else (none))) else (some (([] : List (S63)), ([] : List (S56)), bt407.2.2.2)))) else (none)) else (none)))) _
  by_cases c : idxR ls run < 0
  · refine Ev.pos c ?_; rw [if_pos c]; exact Ev.now _
  refine Ev.neg c (Ev.pos (by omega) (Ev.pos (idxR_lt ls run) ?_))
  rw [if_neg c]
  have ok := F.ok _ (rd63_mem ls (idxR ls run) (by omega) (idxR_lt ls run))
  have h1 : Ev (fun k => inspect_Sign.f k ((rd_T63 ls (idxR ls run)).f1.f0) ((rd_T63 ls (idxR ls run)).f1.f1) ((rd_T63 ls (idxR ls run)).f1.f2) item byy a) (signF (rd_T63 ls (idxR ls run)).f1.f0 (rd_T63 ls (idxR ls run)).f1.f1 (newL (rd_T63 ls (idxR ls run)) item byy a)) := by
    have hi := ok.ni
    have hl := ok.ns
    refine Ev.congr (fun k => by rw [inspect_Sign.f, slices_Clone_int_int.f, if_pos (by omega), Option.bind_some]) ?_
    have := sign_ev (rd_T63 ls (idxR ls run)).f1.f0 (rd_T63 ls (idxR ls run)).f1.f1 (rd_T63 ls (idxR ls run)).f1.f2 item byy a hi hl (rd_T63 ls (idxR ls run)).f1.f2.length 0 [] (by omega) (by omega) (by simp)
    simpa [newL] using this
  refine Ev.bind (f := fun k bt407 => (if bt407.2.2.2 = 0 then ((patrol_copied.f ls hs).bind fun bt416 => (if idxR ls run < (bt416.1.length : Int) then (some ((bt416.1.set (idxR ls run : Int).toNat (⟨(rd_T63 bt416.1 (idxR ls run)).f0, (⟨bt407.1, bt407.2.1, bt407.2.2.1⟩ : S25)⟩ : S63)), bt416.2, 0)) else (none))) else (some (([] : List (S63)), ([] : List (S56)), bt407.2.2.2)))) h1 ?_
  unfold signF
  by_cases e : rightS (rd_T63 ls (idxR ls run)).f1.f0 (rd_T63 ls (idxR ls run)).f1.f1 (newL (rd_T63 ls (idxR ls run)) item byy a) = 0
  · simp only [if_pos e]
    refine Ev.pos trivial ?_
    refine Ev.congr (f := fun _ => some (ls.set (idxR ls run).toNat (newX (rd_T63 ls (idxR ls run)) item byy a), hs, 0)) (fun k => ?_) (Ev.now _)
    rw [copied_some S.nl S.nh S.fit, Option.bind_some, if_pos (idxR_lt ls run)]
    rfl
  · simp only [if_neg e]
    exact Ev.now _
/-! ### the law's two loops -/
theorem keeps_l1 (ls ls' : List S63) (hs : List S56) (hn : hs.length ≤ 9223372036854775807) (d : Nat) : ∀ i : Int, 0 ≤ i → i + d = hs.length → Ev (fun k => skiarealaw53_PatrolKeeps.l1 k i ls hs ls' hs) true := by
  induction d with
  | zero =>
    intro i h0 hd
    exact Ev.step (f := fun _ => some true) (fun k => by rw [skiarealaw53_PatrolKeeps.l1, if_neg (by omega)]) (Ev.now _)
  | succ d ih =>
    intro i h0 hd
    have h1 : i < (hs.length : Int) := by omega
    exact Ev.step (fun k => by rw [skiarealaw53_PatrolKeeps.l1, if_pos h1, if_pos h0, if_pos h1, if_neg (by simp), wrap_inc h0 h1 hn]) (ih (i + 1) (by omega) (by omega))
theorem keeps_l0 {ls : List S63} {hs : List S56} (S : Small ls hs) (run : Int) (n : Nat) (y : S63) (hnl : n < ls.length) (hy : y.f0 = (ls.getD n z63).f0) (hrun : (ls.getD n z63).f0 = run) (d : Nat) : ∀ i : Int, 0 ≤ i → i + d = ls.length →
    Ev (fun k => skiarealaw53_PatrolKeeps.l0 k run i ls hs (ls.set n y) hs) true := by
  have hn := S.nl
  have hlen : (ls.set n y).length = ls.length := List.length_set
  induction d with
  | zero =>
    intro i h0 hd
    exact Ev.step (fun k => by rw [skiarealaw53_PatrolKeeps.l0, if_neg (by omega)]) (keeps_l1 ls (ls.set n y) hs (by have := S.nh; omega) hs.length 0 (by omega) (by omega))
  | succ d ih =>
    intro i h0 hd
    have h1 : i < (ls.length : Int) := by omega
    have hw : wrap64 (i + 1) = i + 1 := by unfold wrap64; omega
    have hf := S.fit _ (rd63_mem ls i h0 h1)
    have hrd := rd_set ls n y i h0 h1
    have hsame : (rd_T63 (ls.set n y) i).f0 = (rd_T63 ls i).f0 := by
      rw [hrd]
      by_cases c : i.toNat = n
      · rw [if_pos c, hy]; unfold rd_T63; rw [c]
      · rw [if_neg c]
    refine Ev.step (fun k => by rw [skiarealaw53_PatrolKeeps.l0, if_pos (by omega), if_pos h0, if_pos h1, if_pos hsame, hw]) ?_
    by_cases cr : (rd_T63 (ls.set n y) i).f0 = run
    · exact Ev.pos cr (ih (i + 1) (by omega) (by omega))
    · refine Ev.neg cr ?_
      have cn : i.toNat ≠ n := fun c => cr (by rw [hsame]; unfold rd_T63; rw [c]; exact hrun)
      rw [if_neg cn] at hrd
      rw [hrd]
      refine Ev.bind (f := fun k t758 => (if t758 = true then (skiarealaw53_PatrolKeeps.l0 k run (i + 1) ls hs (ls.set n y) hs) else (some false))) (same_refl _ _ _ (by have := hf.1; omega) (by have := hf.2; omega)) ?_
      exact Ev.pos rfl (ih (i + 1) (by omega) (by omega))
theorem keeps_ready {ls : List S63} {hs : List S56} (F : Fine ls hs) {run item byy a other t : Int} (hi : 0 ≤ idxR ls run) (hr : rightS (rd_T63 ls (idxR ls run)).f1.f0 (rd_T63 ls (idxR ls run)).f1.f1 (newL (rd_T63 ls (idxR ls run)) item byy a) = 0)
    (hat : a ≤ t) (hlat : ∀ x ∈ ls, x.f0 = run → ∀ s ∈ x.f1.f2, s.f2 ≤ a) (h : readyB ls hs other t = true) : readyB (ls.set (idxR ls run).toNat (newX (rd_T63 ls (idxR ls run)) item byy a)) hs other t = true := by
  have hlt := idxR_lt ls run
  have hidx := idxR_set ls (idxR ls run).toNat (newX (rd_T63 ls (idxR ls run)) item byy a) (by omega) rfl other
  unfold readyB at h ⊢
  rw [hidx]
  by_cases c : 0 ≤ idxR ls other
  · rw [if_pos c] at h ⊢
    rw [Bool.and_eq_true] at h ⊢
    refine ⟨?_, h.2⟩
    rw [rd_set ls _ _ (idxR ls other) c (idxR_lt ls other)]
    by_cases e : (idxR ls other).toNat = (idxR ls run).toNat
    · rw [if_pos e]
      have e2 : idxR ls other = idxR ls run := by omega
      rw [e2] at h
      have hmem := rd63_mem ls (idxR ls run) hi hlt
      have ok := F.ok _ hmem
      have okn := right_okay hr
      have h1 := (done_iff _ _ _ _).1 h.1
      refine (done_iff _ _ _ _).2 (fun it hit => ?_)
      obtain ⟨s, hs1, hs2, hs3, hs4⟩ := (cov_iff ok.tame it t).1 (h1 it hit)
      have hla := hlat _ hmem (idxR_run hi) s hs1
      refine (cov_iff okn.tame it t).2 ?_
      by_cases ci : it = item
      · exact ⟨⟨item, byy, a⟩, by simp [newL], ci.symm, hat, by show t < a + _; omega⟩
      · refine ⟨s, ?_, hs2, hs3, hs4⟩
        unfold newL
        refine List.mem_append_left _ ?_
        unfold dropI
        rw [List.mem_filter]
        refine ⟨hs1, ?_⟩
        have : ¬ s.f0 = item := fun g => ci (by rw [← hs2, g])
        simpa using this
    · rw [if_neg e]; exact h.1
  · rw [if_neg c] at h; cases h
theorem PatrolKeeps_pure (l0_0 : List S63) (l0_1 : List S56) (a1 s0 s1 s2 a3 a4 : Int) (w0 : WLists l0_0) (w1 : WHaz l0_1) (wa1 : W64 a1) (ws0 : W64 s0) (ws1 : W64 s1) (ws2 : W64 s2) (wa3 : W64 a3) (wa4 : W64 a4) : ∃ k, skiarealaw53_PatrolKeeps.f k l0_0 l0_1 a1 s0 s1 s2 a3 a4 = some true := by
  refine Ev.rounds (g := fun k => skiarealaw53_PatrolKeeps.f k l0_0 l0_1 a1 s0 s1 s2 a3 a4) (r := true) ?_
  unfold skiarealaw53_PatrolKeeps.f skiarealaw53_alive.f
  simp only [Option.bind_some, if_true]
  have skip : Ev (fun k => skiarealaw53_PatrolKeeps.j0 k a1 a3 a4 true l0_0 l0_1 s0 s1 s2) true := Ev.step (f := fun _ => some true) (fun k => by rw [skiarealaw53_PatrolKeeps.j0, if_pos rfl]) (Ev.now _)
  obtain ⟨b, hb, hB⟩ := small_ev l0_0 l0_1
  refine Ev.bind (f := fun k t739 => (if t739 = true then ((patrol_Right.f k l0_0 l0_1).bind fun t740 => (skiarealaw53_PatrolKeeps.j0 k a1 a3 a4 (t740 != 0) l0_0 l0_1 s0 s1 s2)) else (skiarealaw53_PatrolKeeps.j0 k a1 a3 a4 true l0_0 l0_1 s0 s1 s2))) hb ?_
  cases b with
  | false => exact Ev.neg (by simp) skip
  | true =>
    have S := hB rfl
    refine Ev.pos rfl ?_
    refine Ev.bind (f := fun k t740 => (skiarealaw53_PatrolKeeps.j0 k a1 a3 a4 (t740 != 0) l0_0 l0_1 s0 s1 s2)) (patrolright_ev l0_0 l0_1 S) ?_
    by_cases c : right53 l0_0 l0_1 = 0
    case neg => (rw [show (right53 l0_0 l0_1 != 0) = true by simpa using c]; exact skip)
    have F := fine_of c
    rw [c, show ((0 : Int) != 0) = false from rfl]
    refine Ev.step (fun k => by rw [skiarealaw53_PatrolKeeps.j0, if_neg (by simp)]) ?_
    refine Ev.bind (f := fun k bt741 => (if bt741.2.2 = 0 then ((patrol_Right.f k bt741.1 bt741.2.1).bind fun t749 => (if t749 = 0 then (if (bt741.1.length : Int) = (l0_0.length : Int) then (if (bt741.2.1.length : Int) = (l0_1.length : Int) then (if s2 ≤ a4 then ((skiarealaw53_latest.f k l0_0 l0_1 a1 s2).bind fun t750 => (if t750 = true then ((patrol_Ready.f l0_0 l0_1 a3 a4).bind fun t751 => (if t751 = true then ((patrol_Ready.f bt741.1 bt741.2.1 a3 a4).bind fun t752 => (skiarealaw53_PatrolKeeps.j1 k a1 (!t752) l0_0 l0_1 bt741.1 bt741.2.1)) else (skiarealaw53_PatrolKeeps.j1 k a1 false l0_0 l0_1 bt741.1 bt741.2.1))) else (skiarealaw53_PatrolKeeps.j1 k a1 false l0_0 l0_1 bt741.1 bt741.2.1))) else (skiarealaw53_PatrolKeeps.j1 k a1 false l0_0 l0_1 bt741.1 bt741.2.1)) else (skiarealaw53_PatrolKeeps.j1 k a1 true l0_0 l0_1 bt741.1 bt741.2.1)) else (skiarealaw53_PatrolKeeps.j1 k a1 true l0_0 l0_1 bt741.1 bt741.2.1)) else (skiarealaw53_PatrolKeeps.j1 k a1 true l0_0 l0_1 bt741.1 bt741.2.1))) else (if (bt741.1.length : Int) = 0 then (some ((bt741.2.1.length : Int) == 0)) else (some false)))) (psign_ev S F a1 s0 s1 s2) ?_
    by_cases ci : idxR l0_0 a1 < 0
    · rw [if_pos ci]
      exact Ev.neg (by decide) (Ev.pos rfl (Ev.now _))
    rw [if_neg ci]
    by_cases e : rightS (rd_T63 l0_0 (idxR l0_0 a1)).f1.f0 (rd_T63 l0_0 (idxR l0_0 a1)).f1.f1 (newL (rd_T63 l0_0 (idxR l0_0 a1)) s0 s1 s2) = 0
    case neg => (rw [if_neg e]; exact Ev.neg e (Ev.pos rfl (Ev.now _)))
    rw [if_pos e]
    have hlt := idxR_lt l0_0 a1
    have F2 : Fine (l0_0.set (idxR l0_0 a1).toNat (newX (rd_T63 l0_0 (idxR l0_0 a1)) s0 s1 s2)) l0_1 := fine_set F (by omega) rfl e
    have okn := right_okay e
    have S2 : Small (l0_0.set (idxR l0_0 a1).toNat (newX (rd_T63 l0_0 (idxR l0_0 a1)) s0 s1 s2)) l0_1 := ⟨by rw [List.length_set]; exact S.nl, S.nh, fun x hx => by
      rcases List.mem_or_eq_of_mem_set hx with h | h
      · exact S.fit x h
      · rw [h]; exact ⟨by have := okn.ni; show (rd_T63 l0_0 (idxR l0_0 a1)).f1.f0.length ≤ 70; omega, by have := okn.ns; show (newL (rd_T63 l0_0 (idxR l0_0 a1)) s0 s1 s2).length ≤ 210; omega⟩⟩
    have last : Ev (fun k => skiarealaw53_PatrolKeeps.j1 k a1 false l0_0 l0_1 (l0_0.set (idxR l0_0 a1).toNat (newX (rd_T63 l0_0 (idxR l0_0 a1)) s0 s1 s2)) l0_1) true := by
      refine Ev.step (fun k => by rw [skiarealaw53_PatrolKeeps.j1, if_neg (by simp)]) ?_
      exact keeps_l0 S a1 (idxR l0_0 a1).toNat (newX (rd_T63 l0_0 (idxR l0_0 a1)) s0 s1 s2) (by omega) rfl (idxR_run (by omega)) l0_0.length 0 (by omega) (by omega)
    refine Ev.pos rfl ?_
    refine Ev.bind (f := fun k t749 => (if t749 = 0 then (if ((l0_0.set (idxR l0_0 a1).toNat (newX (rd_T63 l0_0 (idxR l0_0 a1)) s0 s1 s2)).length : Int) = (l0_0.length : Int) then (if (l0_1.length : Int) = (l0_1.length : Int) then (if s2 ≤ a4 then ((skiarealaw53_latest.f k l0_0 l0_1 a1 s2).bind fun t750 => (if t750 = true then ((patrol_Ready.f l0_0 l0_1 a3 a4).bind fun t751 => (if t751 = true then ((patrol_Ready.f (l0_0.set (idxR l0_0 a1).toNat (newX (rd_T63 l0_0 (idxR l0_0 a1)) s0 s1 s2)) l0_1 a3 a4).bind fun t752 => (skiarealaw53_PatrolKeeps.j1 k a1 (!t752) l0_0 l0_1 (l0_0.set (idxR l0_0 a1).toNat (newX (rd_T63 l0_0 (idxR l0_0 a1)) s0 s1 s2)) l0_1)) else (skiarealaw53_PatrolKeeps.j1 k a1 false l0_0 l0_1 (l0_0.set (idxR l0_0 a1).toNat (newX (rd_T63 l0_0 (idxR l0_0 a1)) s0 s1 s2)) l0_1))) else (skiarealaw53_PatrolKeeps.j1 k a1 false l0_0 l0_1 (l0_0.set (idxR l0_0 a1).toNat (newX (rd_T63 l0_0 (idxR l0_0 a1)) s0 s1 s2)) l0_1))) else (skiarealaw53_PatrolKeeps.j1 k a1 false l0_0 l0_1 (l0_0.set (idxR l0_0 a1).toNat (newX (rd_T63 l0_0 (idxR l0_0 a1)) s0 s1 s2)) l0_1)) else (skiarealaw53_PatrolKeeps.j1 k a1 true l0_0 l0_1 (l0_0.set (idxR l0_0 a1).toNat (newX (rd_T63 l0_0 (idxR l0_0 a1)) s0 s1 s2)) l0_1)) else (skiarealaw53_PatrolKeeps.j1 k a1 true l0_0 l0_1 (l0_0.set (idxR l0_0 a1).toNat (newX (rd_T63 l0_0 (idxR l0_0 a1)) s0 s1 s2)) l0_1)) else (skiarealaw53_PatrolKeeps.j1 k a1 true l0_0 l0_1 (l0_0.set (idxR l0_0 a1).toNat (newX (rd_T63 l0_0 (idxR l0_0 a1)) s0 s1 s2)) l0_1))) (a := 0) (by have := patrolright_ev _ _ S2; rw [F2.right] at this; exact this) ?_
    refine Ev.pos rfl (Ev.pos (by rw [List.length_set]) (Ev.pos rfl ?_))
    by_cases ct : s2 ≤ a4
    case neg => exact Ev.neg ct last
    refine Ev.pos ct ?_
    obtain ⟨q, hq, hQ⟩ := latest_ev l0_0 l0_1 S a1 s2 l0_0.length 0 (by omega) (by omega)
    refine Ev.bind (f := fun k t750 => (if t750 = true then ((patrol_Ready.f l0_0 l0_1 a3 a4).bind fun t751 => (if t751 = true then ((patrol_Ready.f (l0_0.set (idxR l0_0 a1).toNat (newX (rd_T63 l0_0 (idxR l0_0 a1)) s0 s1 s2)) l0_1 a3 a4).bind fun t752 => (skiarealaw53_PatrolKeeps.j1 k a1 (!t752) l0_0 l0_1 (l0_0.set (idxR l0_0 a1).toNat (newX (rd_T63 l0_0 (idxR l0_0 a1)) s0 s1 s2)) l0_1)) else (skiarealaw53_PatrolKeeps.j1 k a1 false l0_0 l0_1 (l0_0.set (idxR l0_0 a1).toNat (newX (rd_T63 l0_0 (idxR l0_0 a1)) s0 s1 s2)) l0_1))) else (skiarealaw53_PatrolKeeps.j1 k a1 false l0_0 l0_1 (l0_0.set (idxR l0_0 a1).toNat (newX (rd_T63 l0_0 (idxR l0_0 a1)) s0 s1 s2)) l0_1))) (a := q) (Ev.congr (fun k => by rw [skiarealaw53_latest.f]) hq) ?_
    cases q with
    | false => exact Ev.neg (by simp) last
    | true =>
      have hlat : ∀ x ∈ l0_0, x.f0 = a1 → ∀ s ∈ x.f1.f2, s.f2 ≤ s2 := by have := hQ rfl; simpa using this
      refine Ev.pos rfl ?_
      refine Ev.congr (fun k => by rw [patrolready_eq F, Option.bind_some, patrolready_eq F2, Option.bind_some]) ?_
      cases cr : readyB l0_0 l0_1 a3 a4 with
      | false => exact Ev.neg (by simp) last
      | true =>
        refine Ev.pos rfl ?_
        rw [keeps_ready F (by omega) e ct hlat cr]
        exact last
end Go.Proofs.Ytmhggplhfcmgkaa.Q
