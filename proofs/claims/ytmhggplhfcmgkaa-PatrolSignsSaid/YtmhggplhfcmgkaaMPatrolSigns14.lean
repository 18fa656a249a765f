/- Walks and plain laws that this claim bears (this session's). -/
import Derived.RangeFuncNested
import Derived.Shelf.Abstract
import Derived.Deep.Slices
import Derived.ProofKit
import Derived.OpenShut
import Derived.ChangeOld
import Derived.Lib.SmallJoins
import Derived.WalkSpells
import Derived.Test.YtmhggplhfcmgkaaM2
import Derived.Test.YtmhggplhfcmgkaaMPatrolSigns17
namespace Go.Proofs.Ytmhggplhfcmgkaa.Q
open Go.RowKit Go.Proofs.YtmhggplhfcmgkaaW.PrintWords Go.Proofs.YtmhggplhfcmgkaaW.PrintLast Go.Proofs.YtmhggplhfcmgkaaW.PrintMore
set_option linter.unusedVariables false
set_option linter.unusedSimpArgs false
def signF (items : List Int) (every : Int) (l : List S35) : List Int × Int × List S35 × Int :=
  if rightS items every l = 0 then (items, every, l, 0) else (([] : List Int), 0, ([] : List S35), rightS items every l)
def dropI (item : Int) (l : List S35) : List S35 := l.filter (fun s => !decide (s.f0 = item))
theorem dropI_eq {item : Int} {s : S35} {l : List S35} (h : s.f0 = item) : dropI item (s :: l) = dropI item l := by simp [dropI, h]
theorem dropI_ne {item : Int} {s : S35} {l : List S35} (h : ¬ s.f0 = item) : dropI item (s :: l) = s :: dropI item l := by simp [dropI, h]
theorem sign_ev (items : List Int) (every : Int) (l : List S35) (a1 a2 a3 : Int) (hi : items.length ≤ 64) (hl : l.length ≤ 200) (d : Nat) : ∀ (i : Int) (acc : List S35), 0 ≤ i → i + d = l.length → (acc.length : Int) ≤ i →
    Ev (fun k => inspect_Sign.l0 k a1 a2 a3 l (l.length : Int) i items every acc) (signF items every (acc ++ dropI a1 (l.drop i.toNat) ++ [⟨a1, a2, a3⟩])) := by
  induction d with
  | zero =>
    intro i acc h0 hd ha
    refine Ev.step (fun k => by rw [inspect_Sign.l0, if_neg (by omega), if_pos (by omega), Option.bind_some]) ?_
    rw [List.drop_eq_nil_of_le (by omega), show dropI a1 [] = [] from rfl, List.append_nil]
    refine Ev.bind (f := fun k t125 => (if t125 = 0 then (some (items, every, acc ++ [⟨a1, a2, a3⟩], 0)) else (some (([] : List Int), 0, ([] : List (S35)), t125)))) (right_ev items every (acc ++ [⟨a1, a2, a3⟩]) (by omega) (by simp; omega)) ?_
    unfold signF
    by_cases c : rightS items every (acc ++ [⟨a1, a2, a3⟩]) = 0
    · refine Ev.pos c ?_; rw [if_pos c]; exact Ev.now _
    · refine Ev.neg c ?_; rw [if_neg c]; exact Ev.now _
  | succ d ih =>
    intro i acc h0 hd ha
    have h1 : i < (l.length : Int) := by omega
    rw [rd35_at l i h0 h1]
    have hw := wrap_inc h0 h1 (by omega)
    refine Ev.step (fun k => by rw [inspect_Sign.l0, if_pos h1, if_pos h0, if_pos h1, hw]) ?_
    by_cases c : (rd_T35 l i).f0 = a1
    · rw [dropI_eq c]
      exact Ev.pos c (ih (i + 1) acc (by omega) (by omega) (by omega))
    · rw [dropI_ne c]
      refine Ev.neg c (Ev.pos (by omega) ?_)
      have := ih (i + 1) (acc ++ [rd_T35 l i]) (by omega) (by omega) (by simp; omega)
      rw [List.append_assoc acc [rd_T35 l i], List.singleton_append] at this
      exact this
-- the same as the first part of PatrolKeepsLaw.lean
def newL (x : S63) (item byy a : Int) : List S35 := dropI item x.f1.f2 ++ [⟨item, byy, a⟩]
def newX (x : S63) (item byy a : Int) : S63 := ⟨x.f0, ⟨x.f1.f0, x.f1.f1, newL x item byy a⟩⟩
theorem psign_ev {ls : List S63} {hs : List S56} (S : Small ls hs) (F : Fine ls hs) (run item byy a : Int) :
    Ev (fun k => patrol_Sign.f k ls hs run item byy a) (if idxR ls run < 0 then (([] : List S63), ([] : List S56), 8) else if rightS (rd_T63 ls (idxR ls run)).f1.f0 (rd_T63 ls (idxR ls run)).f1.f1 (newL (rd_T63 ls (idxR ls run)) item byy a) = 0 then (ls.set (idxR ls run).toNat (newX (rd_T63 ls (idxR ls run)) item byy a), hs, 0) else (([] : List S63), ([] : List S56), rightS (rd_T63 ls (idxR ls run)).f1.f0 (rd_T63 ls (idxR ls run)).f1.f1 (newL (rd_T63 ls (idxR ls run)) item byy a))) := by
  refine Ev.congr (fun k => by rw [patrol_Sign.f, patrol_list.f, Option.bind_some]) ?_
  change Ev (fun k => (if idxR ls run < 0 then (some (([] : List (S63)), ([] : List (S56)), 8)) else (if 0 ≤ idxR ls run then (if idxR ls run < (ls.length : Int) then ((inspect_Sign.f k ((rd_T63 ls (idxR ls run)).f1.f0) ((rd_T63 ls (idxR ls run)).f1.f1) ((rd_T63 ls (idxR ls run)).f1.f2) item byy a).bind fun bt407 => (if bt407.2.2.2 = 0 then ((patrol_copied.f ls hs).bind fun bt416 => (if idxR ls run < (bt416.1.length : Int) then (some ((bt416.1.set (idxR ls run : Int).toNat (⟨(rd_T63 bt416.1 (idxR ls run)).f0, (⟨bt407.1, bt407.2.1, bt407.2.2.1⟩ : S25)⟩ : S63)), bt416.2, 0)) else (none))) else (some (([] : List (S63)), ([] : List (S56)), bt407.2.2.2)))) else (none)) else (none)))) _
  by_cases c : idxR ls run < 0
  · refine Ev.pos c ?_; rw [if_pos c]; exact Ev.now _
  refine Ev.neg c (Ev.pos (by omega) (Ev.pos (idxR_lt ls run) ?_))
  rw [if_neg c]
  have ok := F.ok _ (rd63_mem ls (idxR ls run) (by omega) (idxR_lt ls run))
  have h1 : Ev (fun k => inspect_Sign.f k ((rd_T63 ls (idxR ls run)).f1.f0) ((rd_T63 ls (idxR ls run)).f1.f1) ((rd_T63 ls (idxR ls run)).f1.f2) item byy a) (signF (rd_T63 ls (idxR ls run)).f1.f0 (rd_T63 ls (idxR ls run)).f1.f1 (newL (rd_T63 ls (idxR ls run)) item byy a)) := by
    have hi := ok.ni
    have hl := ok.ns
    refine Ev.congr (fun k => by rw [inspect_Sign.f, slices_Clone_int_int.f, if_pos (by omega), Option.bind_some]) ?_
    have := sign_ev (rd_T63 ls (idxR ls run)).f1.f0 (rd_T63 ls (idxR ls run)).f1.f1 (rd_T63 ls (idxR ls run)).f1.f2 item byy a hi hl (rd_T63 ls (idxR ls run)).f1.f2.length 0 [] (by omega) (by omega) (by simp)
    simpa [newL] using this
  refine Ev.bind (f := fun k bt407 => (if bt407.2.2.2 = 0 then ((patrol_copied.f ls hs).bind fun bt416 => (if idxR ls run < (bt416.1.length : Int) then (some ((bt416.1.set (idxR ls run : Int).toNat (⟨(rd_T63 bt416.1 (idxR ls run)).f0, (⟨bt407.1, bt407.2.1, bt407.2.2.1⟩ : S25)⟩ : S63)), bt416.2, 0)) else (none))) else (some (([] : List (S63)), ([] : List (S56)), bt407.2.2.2)))) h1 ?_
  unfold signF
  by_cases e : rightS (rd_T63 ls (idxR ls run)).f1.f0 (rd_T63 ls (idxR ls run)).f1.f1 (newL (rd_T63 ls (idxR ls run)) item byy a) = 0
  · simp only [if_pos e]
    refine Ev.pos trivial ?_
    refine Ev.congr (f := fun _ => some (ls.set (idxR ls run).toNat (newX (rd_T63 ls (idxR ls run)) item byy a), hs, 0)) (fun k => ?_) (Ev.now _)
    rw [copied_some S.nl S.nh S.fit, Option.bind_some, if_pos (idxR_lt ls run)]
    rfl
  · simp only [if_neg e]
    exact Ev.now _
theorem refsign1_ev (items its : List Int) (every ev : Int) (l : List S35) (a1 a2 a3 : Int) (hi : items.length ≤ 64) (hl : l.length ≤ 200) (d : Nat) : ∀ (i : Int) (acc : List S35), 0 ≤ i → i + d = l.length → (acc.length : Int) ≤ i →
    Ev (fun k => skiarearef19_Sign.l1 k a1 a2 a3 i its ev l items every acc) (signF items every (acc ++ dropI a1 (l.drop i.toNat) ++ [⟨a1, a2, a3⟩])) := by
  induction d with
  | zero =>
    intro i acc h0 hd ha
    refine Ev.step (fun k => by rw [skiarearef19_Sign.l1, if_neg (by omega), if_pos (by omega), Option.bind_some]) ?_
    rw [List.drop_eq_nil_of_le (by omega), show dropI a1 [] = [] from rfl, List.append_nil]
    refine Ev.bind (f := fun k t125 => (if t125 = 0 then (some (items, every, acc ++ [⟨a1, a2, a3⟩], 0)) else (some (([] : List Int), 0, ([] : List (S35)), t125)))) (refright_ev items every (acc ++ [⟨a1, a2, a3⟩]) (by omega) (by simp; omega)) ?_
    unfold signF
    by_cases c : rightS items every (acc ++ [⟨a1, a2, a3⟩]) = 0
    · refine Ev.pos c ?_; rw [if_pos c]; exact Ev.now _
    · refine Ev.neg c ?_; rw [if_neg c]; exact Ev.now _
  | succ d ih =>
    intro i acc h0 hd ha
    have h1 : i < (l.length : Int) := by omega
    rw [rd35_at l i h0 h1]
    have hw := wrap_inc h0 h1 (by omega)
    refine Ev.step (fun k => by rw [skiarearef19_Sign.l1, if_pos h1, if_pos h0, hw]) ?_
    by_cases c : (rd_T35 l i).f0 = a1
    · rw [dropI_eq c]
      exact Ev.pos c (ih (i + 1) acc (by omega) (by omega) (by omega))
    · rw [dropI_ne c]
      refine Ev.neg c (Ev.pos (by omega) ?_)
      have := ih (i + 1) (acc ++ [rd_T35 l i]) (by omega) (by omega) (by simp; omega)
      rw [List.append_assoc acc [rd_T35 l i], List.singleton_append] at this
      exact this
theorem refsign_ev (items : List Int) (every : Int) (l : List S35) (a1 a2 a3 : Int) (hi : items.length ≤ 64) (hl : l.length ≤ 200) (d : Nat) : ∀ (i : Int), 0 ≤ i → i + d = items.length →
    Ev (fun k => skiarearef19_Sign.l0 k a1 a2 a3 i items every l (items.take i.toNat) every) (signF items every (dropI a1 l ++ [⟨a1, a2, a3⟩])) := by
  induction d with
  | zero =>
    intro i h0 hd
    refine Ev.step (fun k => by rw [skiarearef19_Sign.l0, if_neg (by omega)]) ?_
    rw [List.take_of_length_le (by omega)]
    have := refsign1_ev items items every every l a1 a2 a3 hi hl l.length 0 [] (by omega) (by omega) (by simp)
    simpa using this
  | succ d ih =>
    intro i h0 hd
    have h1 : i < (items.length : Int) := by omega
    have hw := wrap_inc h0 h1 (by omega)
    refine Ev.step (fun k => by rw [skiarearef19_Sign.l0, if_pos h1, if_pos h0, if_pos (by rw [List.length_take]; omega), hw, ← take_at items i h0 h1]) ?_
    exact ih (i + 1) (by omega) (by omega)
theorem refsign53_ev {ls : List S63} {hs : List S56} (S : Small ls hs) (F : Fine ls hs) (run item byy a : Int) :
    Ev (fun k => skiarearef53_Sign.f k ls hs run item byy a) (if idxR ls run < 0 then (([] : List S63), ([] : List S56), 8) else if rightS (rd_T63 ls (idxR ls run)).f1.f0 (rd_T63 ls (idxR ls run)).f1.f1 (newL (rd_T63 ls (idxR ls run)) item byy a) = 0 then (ls.set (idxR ls run).toNat (newX (rd_T63 ls (idxR ls run)) item byy a), hs, 0) else (([] : List S63), ([] : List S56), rightS (rd_T63 ls (idxR ls run)).f1.f0 (rd_T63 ls (idxR ls run)).f1.f1 (newL (rd_T63 ls (idxR ls run)) item byy a))) := by
  refine Ev.congr (fun k => by rw [skiarearef53_Sign.f]) ?_
  refine Ev.bind (f := fun k t567 => (if t567 < 0 then (some (([] : List (S63)), ([] : List (S56)), 8)) else (if 0 ≤ t567 then (if t567 < (ls.length : Int) then ((skiarearef19_Sign.f k ((rd_T63 ls t567).f1.f0) ((rd_T63 ls t567).f1.f1) ((rd_T63 ls t567).f1.f2) item byy a).bind fun bt569 => (if bt569.2.2.2 = 0 then ((skiarearef53_Own.f k ls hs).bind fun bt578 => (if t567 < (bt578.1.length : Int) then (some ((bt578.1.set (t567 : Int).toNat (⟨(rd_T63 bt578.1 t567).f0, (⟨bt569.1, bt569.2.1, bt569.2.2.1⟩ : S25)⟩ : S63)), bt578.2, 0)) else (none))) else (some (([] : List (S63)), ([] : List (S56)), bt569.2.2.2)))) else (none)) else (none)))) (a := idxR ls run) (refat_ev ls hs run (by have := S.nl; omega)) ?_
  by_cases c : idxR ls run < 0
  · refine Ev.pos c ?_; rw [if_pos c]; exact Ev.now _
  refine Ev.neg c (Ev.pos (by omega) (Ev.pos (idxR_lt ls run) ?_))
  rw [if_neg c]
  have ok := F.ok _ (rd63_mem ls (idxR ls run) (by omega) (idxR_lt ls run))
  have h1 : Ev (fun k => skiarearef19_Sign.f k ((rd_T63 ls (idxR ls run)).f1.f0) ((rd_T63 ls (idxR ls run)).f1.f1) ((rd_T63 ls (idxR ls run)).f1.f2) item byy a) (signF (rd_T63 ls (idxR ls run)).f1.f0 (rd_T63 ls (idxR ls run)).f1.f1 (newL (rd_T63 ls (idxR ls run)) item byy a)) := by
    have := refsign_ev (rd_T63 ls (idxR ls run)).f1.f0 (rd_T63 ls (idxR ls run)).f1.f1 (rd_T63 ls (idxR ls run)).f1.f2 item byy a ok.ni ok.ns (rd_T63 ls (idxR ls run)).f1.f0.length 0 (by omega) (by omega)
    exact Ev.congr (fun k => by rw [skiarearef19_Sign.f]; rfl) this
  refine Ev.bind (f := fun k bt569 => (if bt569.2.2.2 = 0 then ((skiarearef53_Own.f k ls hs).bind fun bt578 => (if idxR ls run < (bt578.1.length : Int) then (some ((bt578.1.set (idxR ls run : Int).toNat (⟨(rd_T63 bt578.1 (idxR ls run)).f0, (⟨bt569.1, bt569.2.1, bt569.2.2.1⟩ : S25)⟩ : S63)), bt578.2, 0)) else (none))) else (some (([] : List (S63)), ([] : List (S56)), bt569.2.2.2)))) h1 ?_
  unfold signF
  by_cases e : rightS (rd_T63 ls (idxR ls run)).f1.f0 (rd_T63 ls (idxR ls run)).f1.f1 (newL (rd_T63 ls (idxR ls run)) item byy a) = 0
  · simp only [if_pos e]
    refine Ev.pos trivial ?_
    refine Ev.bind (own_ev ls hs S) ?_
    exact Ev.pos (idxR_lt ls run) (Ev.now _)
  · simp only [if_neg e]
    exact Ev.now _
theorem PatrolSigns_pure (l0_0 : List S63) (l0_1 : List S56) (a1 s0 s1 s2 : Int) (w0 : WLists l0_0) (w1 : WHaz l0_1) (wa1 : W64 a1) (ws0 : W64 s0) (ws1 : W64 s1) (ws2 : W64 s2) : ∃ k, skiarealaw53_PatrolSigns.f k l0_0 l0_1 a1 s0 s1 s2 = some true := by
  refine Ev.rounds (g := fun k => skiarealaw53_PatrolSigns.f k l0_0 l0_1 a1 s0 s1 s2) (r := true) ?_
  unfold skiarealaw53_PatrolSigns.f skiarealaw53_alive.f
  simp only [Option.bind_some, if_true]
  obtain ⟨b, hb, hB⟩ := accepted_ev l0_0 l0_1
  refine Ev.bind (f := fun k t598 => (if t598 = true then ((patrol_Sign.f k l0_0 l0_1 a1 s0 s1 s2).bind fun bt599 => ((skiarearef53_Sign.f k l0_0 l0_1 a1 s0 s1 s2).bind fun bt607 => ((skiarearef53_Same.f k bt599.1 bt599.2.1 bt607.1 bt607.2.1).bind fun t615 => (if t615 = true then (some (bt599.2.2 == bt607.2.2)) else (some false))))) else (some true))) hb ?_
  cases b with
  | false => exact Ev.neg (by simp) (Ev.now _)
  | true =>
    obtain ⟨S, F⟩ := hB rfl
    refine Ev.pos rfl ?_
    have h1 := psign_ev S F a1 s0 s1 s2
    have h2 := refsign53_ev S F a1 s0 s1 s2
    have hS : Small (if idxR l0_0 a1 < 0 then (([] : List S63), ([] : List S56), (8 : Int)) else if rightS (rd_T63 l0_0 (idxR l0_0 a1)).f1.f0 (rd_T63 l0_0 (idxR l0_0 a1)).f1.f1 (newL (rd_T63 l0_0 (idxR l0_0 a1)) s0 s1 s2) = 0 then (l0_0.set (idxR l0_0 a1).toNat (newX (rd_T63 l0_0 (idxR l0_0 a1)) s0 s1 s2), l0_1, 0) else (([] : List S63), ([] : List S56), rightS (rd_T63 l0_0 (idxR l0_0 a1)).f1.f0 (rd_T63 l0_0 (idxR l0_0 a1)).f1.f1 (newL (rd_T63 l0_0 (idxR l0_0 a1)) s0 s1 s2))).1 (if idxR l0_0 a1 < 0 then (([] : List S63), ([] : List S56), (8 : Int)) else if rightS (rd_T63 l0_0 (idxR l0_0 a1)).f1.f0 (rd_T63 l0_0 (idxR l0_0 a1)).f1.f1 (newL (rd_T63 l0_0 (idxR l0_0 a1)) s0 s1 s2) = 0 then (l0_0.set (idxR l0_0 a1).toNat (newX (rd_T63 l0_0 (idxR l0_0 a1)) s0 s1 s2), l0_1, 0) else (([] : List S63), ([] : List S56), rightS (rd_T63 l0_0 (idxR l0_0 a1)).f1.f0 (rd_T63 l0_0 (idxR l0_0 a1)).f1.f1 (newL (rd_T63 l0_0 (idxR l0_0 a1)) s0 s1 s2))).2.1 := by
      have nil : Small ([] : List S63) ([] : List S56) := ⟨by simp, by simp, by simp⟩
      by_cases c : idxR l0_0 a1 < 0
      · simp only [if_pos c]; exact nil
      · simp only [if_neg c]
        by_cases e : rightS (rd_T63 l0_0 (idxR l0_0 a1)).f1.f0 (rd_T63 l0_0 (idxR l0_0 a1)).f1.f1 (newL (rd_T63 l0_0 (idxR l0_0 a1)) s0 s1 s2) = 0
        · simp only [if_pos e]
          have okn := right_okay e
          exact ⟨by rw [List.length_set]; exact S.nl, S.nh, fun x hx => by
            rcases List.mem_or_eq_of_mem_set hx with h | h
            · exact S.fit x h
            · rw [h]; exact ⟨by have := okn.ni; show (rd_T63 l0_0 (idxR l0_0 a1)).f1.f0.length ≤ 70; omega, by have := okn.ns; show (newL (rd_T63 l0_0 (idxR l0_0 a1)) s0 s1 s2).length ≤ 210; omega⟩⟩
        · simp only [if_neg e]; exact nil
    generalize (if idxR l0_0 a1 < 0 then (([] : List S63), ([] : List S56), (8 : Int)) else if rightS (rd_T63 l0_0 (idxR l0_0 a1)).f1.f0 (rd_T63 l0_0 (idxR l0_0 a1)).f1.f1 (newL (rd_T63 l0_0 (idxR l0_0 a1)) s0 s1 s2) = 0 then (l0_0.set (idxR l0_0 a1).toNat (newX (rd_T63 l0_0 (idxR l0_0 a1)) s0 s1 s2), l0_1, 0) else (([] : List S63), ([] : List S56), rightS (rd_T63 l0_0 (idxR l0_0 a1)).f1.f0 (rd_T63 l0_0 (idxR l0_0 a1)).f1.f1 (newL (rd_T63 l0_0 (idxR l0_0 a1)) s0 s1 s2))) = r at h1 h2 hS
    refine Ev.bind (f := fun k bt599 => ((skiarearef53_Sign.f k l0_0 l0_1 a1 s0 s1 s2).bind fun bt607 => ((skiarearef53_Same.f k bt599.1 bt599.2.1 bt607.1 bt607.2.1).bind fun t615 => (if t615 = true then (some (bt599.2.2 == bt607.2.2)) else (some false))))) h1 ?_
    refine Ev.bind (f := fun k bt607 => ((skiarearef53_Same.f k r.1 r.2.1 bt607.1 bt607.2.1).bind fun t615 => (if t615 = true then (some (r.2.2 == bt607.2.2)) else (some false)))) h2 ?_
    refine Ev.bind (f := fun k t615 => (if t615 = true then (some (r.2.2 == r.2.2)) else (some false))) (same53_refl r.1 r.2.1 hS) ?_
    refine Ev.pos rfl ?_
    rw [beq_self_eq_true]
    exact Ev.now _
end Go.Proofs.Ytmhggplhfcmgkaa.Q
