/- Walks and plain laws that this claim bears (this session's). -/
import Derived.Test.YtmhggplhfcmgkaaM4
namespace Go.Proofs.Ytmhggplhfcmgkaa.Q
open Go.RowKit Go.Proofs.YtmhggplhfcmgkaaW.PrintWords Go.Proofs.YtmhggplhfcmgkaaW.PrintLast Go.Proofs.YtmhggplhfcmgkaaW.PrintMore
attribute [local go_sem] max2_int min2_int max_two min_two max_three min_three max_four min_four   -- for this text's walks alone
set_option linter.unusedVariables false
set_option linter.unusedSimpArgs false
theorem skiarearef19_Has.calls_n (k : Nat) (A0 : Option Addr) (c0 : Nat) (l0 : List Int) (a1 : Int) (r : Bool) (w : World) (n : Nat) (hn : n = l0.length) (hr0 : Kd.C (Kd.int .i64) w A0 l0.length l0) (hc0 : l0.length ≤ c0) (h : skiarearef19_Has.f k l0 a1 = some r) :
  Calls Try.prog 57 #[.slice A0 n c0, .int .i64 a1] w fun e w' => e = .returned (.bool r) ∧ Drawn0 w w' := by
 subst hn; exact skiarearef19_Has.calls k A0 c0 l0 a1 r w hr0 hc0 h
mutual
def skiarearef19_Right.j0 : Nat → Bool → List Int → Int → List (S35) → Option (Int)
 | 0, _, _, _, _ => none
 | k + 1, x15, x225000, x225001, x225002 => if x15 = true then (some 4) else ((skiarearef19_in.f x225001 1 604800).bind fun t225 => (if t225 = true then (skiarearef19_Right.l0 k 0 x225000 x225001 x225002) else (some 2)))
def skiarearef19_Right.l0 : Nat → Int → List Int → Int → List (S35) → Option (Int)
 | 0, _, _, _, _ => none
 | k + 1, x3, x225000, x225001, x225002 => if x3 < (x225000.length : Int) then (if 0 ≤ x3 then ((skiarearef19_in.f (rd x225000 x3) 1 9999).bind fun t227 => (if t227 = true then (if x3 ≤ (x225000.length : Int) then ((skiarearef19_Has.f k (x225000.take (x3 : Int).toNat) (rd x225000 x3)).bind fun t230 => (if t230 = true then (some 7) else (skiarearef19_Right.l0 k (wrap64 (x3 + 1)) x225000 x225001 x225002))) else (none)) else (some 2))) else (none)) else (skiarearef19_Right.l1 k 0 x225000 x225001 x225002)
def skiarearef19_Right.l1 : Nat → Int → List Int → Int → List (S35) → Option (Int)
 | 0, _, _, _, _ => none
 | k + 1, x4, x225000, x225001, x225002 => if x4 < (x225002.length : Int) then (if 0 ≤ x4 then ((skiarearef19_Has.f k x225000 ((rd_T35 x225002 x4).f0)).bind fun t233 => (if t233 = true then ((skiarearef19_in.f ((rd_T35 x225002 x4).f1) 1 9999).bind fun t234 => (if t234 = true then ((skiarearef19_in.f ((rd_T35 x225002 x4).f2) 0 20000000).bind fun t235 => (if t235 = true then (if x4 > 0 then (if 0 ≤ (wrap64 (x4 - 1)) then (if (wrap64 (x4 - 1)) < (x225002.length : Int) then (if ((rd_T35 x225002 x4).f2) < ((rd_T35 x225002 (wrap64 (x4 - 1))).f2) then (some 11) else (skiarearef19_Right.l1 k (wrap64 (x4 + 1)) x225000 x225001 x225002)) else (none)) else (none)) else (skiarearef19_Right.l1 k (wrap64 (x4 + 1)) x225000 x225001 x225002)) else (some 2))) else (some 17))) else (some 8))) else (none)) else (some 0)
end
def skiarearef19_Right.f (k : Nat) (l0_0 : List Int) (a0_1 : Int) (l0_2 : List (S35)) : Option (Int) := if (l0_0.length : Int) > 64 then (skiarearef19_Right.j0 k true l0_0 a0_1 l0_2) else (skiarearef19_Right.j0 k (decide ((l0_2.length : Int) > 200)) l0_0 a0_1 l0_2)
theorem skiarearef19_Right.mono_l : ∀ k, (∀ y0 y1 y2 y3, LeO (skiarearef19_Right.j0 k y0 y1 y2 y3) (skiarearef19_Right.j0 (k + 1) y0 y1 y2 y3)) ∧ (∀ y0 y1 y2 y3, LeO (skiarearef19_Right.l0 k y0 y1 y2 y3) (skiarearef19_Right.l0 (k + 1) y0 y1 y2 y3)) ∧ (∀ y0 y1 y2 y3, LeO (skiarearef19_Right.l1 k y0 y1 y2 y3) (skiarearef19_Right.l1 (k + 1) y0 y1 y2 y3))
 | 0 => ⟨fun _ _ _ _ r h => by simp [skiarearef19_Right.j0] at h, fun _ _ _ _ r h => by simp [skiarearef19_Right.l0] at h, fun _ _ _ _ r h => by simp [skiarearef19_Right.l1] at h⟩
 | k + 1 => by
  obtain ⟨ih0, ih1, ih2⟩ := skiarearef19_Right.mono_l k
  refine ⟨?_, ?_, ?_⟩
  ·intro y0 y1 y2 y3
   unfold skiarearef19_Right.j0
   repeat' first
   | (with_reducible exact ih0 _ _ _ _)
   | (with_reducible exact ih1 _ _ _ _)
   | (with_reducible exact ih2 _ _ _ _)
   | (with_reducible exact skiarearef19_Has.mono _ _ _)
   | (with_reducible exact LeO.refl _)
   | (with_reducible exact LeO.none _)
   | (with_reducible refine LeO.ite ?_ ?_)
   | (with_reducible refine LeO.bind ?_ (fun _ => ?_))
   | exact ih0 _ _ _ _
   | exact ih1 _ _ _ _
   | exact ih2 _ _ _ _
   | exact skiarearef19_Has.mono _ _ _
   | exact LeO.none _
   | refine LeO.ite ?_ ?_
   | refine LeO.bind ?_ (fun _ => ?_)
  ·intro y0 y1 y2 y3
   unfold skiarearef19_Right.l0
   repeat' first
   | (with_reducible exact ih0 _ _ _ _)
   | (with_reducible exact ih1 _ _ _ _)
   | (with_reducible exact ih2 _ _ _ _)
   | (with_reducible exact skiarearef19_Has.mono _ _ _)
   | (with_reducible exact LeO.refl _)
   | (with_reducible exact LeO.none _)
   | (with_reducible refine LeO.ite ?_ ?_)
   | (with_reducible refine LeO.bind ?_ (fun _ => ?_))
   | exact ih0 _ _ _ _
   | exact ih1 _ _ _ _
   | exact ih2 _ _ _ _
   | exact skiarearef19_Has.mono _ _ _
   | exact LeO.none _
   | refine LeO.ite ?_ ?_
   | refine LeO.bind ?_ (fun _ => ?_)
  ·intro y0 y1 y2 y3
   unfold skiarearef19_Right.l1
   repeat' first
   | (with_reducible exact ih0 _ _ _ _)
   | (with_reducible exact ih1 _ _ _ _)
   | (with_reducible exact ih2 _ _ _ _)
   | (with_reducible exact skiarearef19_Has.mono _ _ _)
   | (with_reducible exact LeO.refl _)
   | (with_reducible exact LeO.none _)
   | (with_reducible refine LeO.ite ?_ ?_)
   | (with_reducible refine LeO.bind ?_ (fun _ => ?_))
   | exact ih0 _ _ _ _
   | exact ih1 _ _ _ _
   | exact ih2 _ _ _ _
   | exact skiarearef19_Has.mono _ _ _
   | exact LeO.none _
   | refine LeO.ite ?_ ?_
   | refine LeO.bind ?_ (fun _ => ?_)
theorem skiarearef19_Right.mono : ∀ a0 a1 a2 k, LeO (skiarearef19_Right.f k a0 a1 a2) (skiarearef19_Right.f (k + 1) a0 a1 a2) := by
 intro a0 a1 a2 k
 obtain ⟨ih0, ih1, ih2⟩ := skiarearef19_Right.mono_l k
 unfold skiarearef19_Right.f
 repeat' first
   | (with_reducible exact ih0 _ _ _ _)
   | (with_reducible exact ih1 _ _ _ _)
   | (with_reducible exact ih2 _ _ _ _)
   | (with_reducible exact skiarearef19_Has.mono _ _ _)
   | (with_reducible exact LeO.refl _)
   | (with_reducible exact LeO.none _)
   | (with_reducible refine LeO.ite ?_ ?_)
   | (with_reducible refine LeO.bind ?_ (fun _ => ?_))
   | exact ih0 _ _ _ _
   | exact ih1 _ _ _ _
   | exact ih2 _ _ _ _
   | exact skiarearef19_Has.mono _ _ _
   | exact LeO.none _
   | refine LeO.ite ?_ ?_
   | refine LeO.bind ?_ (fun _ => ?_)
set_option maxHeartbeats 8000000 in
set_option maxRecDepth 100000 in
theorem skiarearef19_Right.calls (k : Nat) (A0_0 : Option Addr) (c0_0 : Nat) (l0_0 : List Int) (a0_1 : Int) (A0_2 : Option Addr) (c0_2 : Nat) (l0_2 : List (S35)) (r : Int) (w : World) (hr0_0 : Kd.C (Kd.int .i64) w A0_0 l0_0.length l0_0) (hc0_0 : l0_0.length ≤ c0_0) (hr0_2 : Kd.C k35 w A0_2 l0_2.length l0_2) (hc0_2 : l0_2.length ≤ c0_2) (h : skiarearef19_Right.f k l0_0 a0_1 l0_2 = some r) :
  Calls Try.prog 20 #[.agg #[.slice A0_0 l0_0.length c0_0, .int .i64 a0_1, .slice A0_2 l0_2.length c0_2]] w fun e w' => e = .returned (.int .i64 r) ∧ Below w.heap.size w w' := by
 have hu25 := Try.underlying25
 have hu35 := Try.underlying35
 have HR0_0 := a_ hr0_0
 have HC0_0 := a_ hc0_0
 clear hr0_0 hc0_0
 have HR0_2 := a_ hr0_2
 have HC0_2 := a_ hc0_2
 clear hr0_2 hc0_2
 have HB := a_ (Below.refl w.heap.size w)
 have H : (if (l0_0.length : Int) > 64 then (skiarearef19_Right.j0 k true l0_0 a0_1 l0_2) else (skiarearef19_Right.j0 k (decide ((l0_2.length : Int) > 200)) l0_0 a0_1 l0_2)) = some r := h
 clear h
 have HC2 := a_ H
 clear H
 go_enter Try.func20, Try.ntmps20
 go_upto_region 1 with (first | ((with_reducible refine gate_dst (N := 1) rfl ?_); (try (refine gate_guard (by rfl) ?_; dsimp only)); refine box_event ?hg (N := 1) ?hd (cs := #[.slice A0_0 l0_0.length c0_0, .int .i64 a0_1, .slice A0_2 l0_2.length c0_2]) (t := 25) ?hr ?_; (case hd => rfl); (case hg => rfl); (case hr => first | (go_simp; done) | (go_simp; rfl)); intro gb224 hg w3 hbox hb; have n0_ := a_ (below_step bel_ hb); have n1_ := a_ (hbox); have n2_ := a_ (bz_ hg : w.heap.size ≤ gb224); have n3_ := a_ (bz_ hg : w.heap.size ≤ gb224); clear HB; have HB := n0_; have BK224 := n1_; have GW224 := n2_; have GE224 := n3_; clear n0_ n1_ n2_ n3_; clear hb hbox hg))
 repeat (go_quiet (first | ((with_reducible refine gate_dst (N := 1) rfl ?_); (try (refine gate_guard (by rfl) ?_; dsimp only)); refine box_event ?hg (N := 1) ?hd (cs := #[.slice A0_0 l0_0.length c0_0, .int .i64 a0_1, .slice A0_2 l0_2.length c0_2]) (t := 25) ?hr ?_; (case hd => rfl); (case hg => rfl); (case hr => first | (go_simp; done) | (go_simp; rfl)); intro gb224 hg w3 hbox hb; have n0_ := a_ (below_step bel_ hb); have n1_ := a_ (hbox); have n2_ := a_ (bz_ hg : w.heap.size ≤ gb224); have n3_ := a_ (bz_ hg : w.heap.size ≤ gb224); clear HB; have HB := n0_; have BK224 := n1_; have GW224 := n2_; have GE224 := n3_; clear n0_ n1_ n2_ n3_; clear hb hbox hg)); go_upto_region 1 with (first | ((with_reducible refine gate_dst (N := 1) rfl ?_); (try (refine gate_guard (by rfl) ?_; dsimp only)); refine box_event ?hg (N := 1) ?hd (cs := #[.slice A0_0 l0_0.length c0_0, .int .i64 a0_1, .slice A0_2 l0_2.length c0_2]) (t := 25) ?hr ?_; (case hd => rfl); (case hg => rfl); (case hr => first | (go_simp; done) | (go_simp; rfl)); intro gb224 hg w3 hbox hb; have n0_ := a_ (below_step bel_ hb); have n1_ := a_ (hbox); have n2_ := a_ (bz_ hg : w.heap.size ≤ gb224); have n3_ := a_ (bz_ hg : w.heap.size ≤ gb224); clear HB; have HB := n0_; have BK224 := n1_; have GW224 := n2_; have GE224 := n3_; clear n0_ n1_ n2_ n3_; clear hb hbox hg)))
 (try simp only [Act.put, List.setIfInBounds_toArray, List.set_cons_zero, List.set_cons_succ])
 go_cut [15] (fun v15 wc => ∃ (kq : Nat) (x15_1 : Bool), v15 = .bool x15_1 ∧ Aside0 (skiarearef19_Right.j0 kq x15_1 l0_0 a0_1 l0_2 = some r) ∧ Aside0 (kq ≤ k) ∧ Aside0 (wc.heap[gb224]? = some (.cells #[(.slice A0_0 l0_0.length c0_0), .int .i64 a0_1, (.slice A0_2 l0_2.length c0_2)] 25 (0, 0))) ∧ Aside0 (Below w.heap.size w wc))
 case first =>
  have H := HC2.out
  clear HC2
  by_cases c4 : (l0_0.length : Int) > 64
  ·rw [if_pos c4] at H
   have c4b0 : decide (64 < (l0_0.length : Int)) = true := decide_eq_true c4
   have c4b1 : decide (64 < l0_0.length) = true := decide_eq_true (by omega)
   clear c4
   (first | rw [c4b0] | (simp only [i64_w, i32_w]; rw [c4b0]) | skip)
   have H' := a_ H
   clear H
   have hcz5_0 := cz_ BK224 0
   have hcz5_1 := cz_ BK224 1
   have hcz5_2 := cz_ BK224 2
   have hfz5_0 := fz_ BK224 0
   have hfz5_1 := fz_ BK224 1
   have hfz5_2 := fz_ BK224 2
   go_wp2
   repeat (go_quiet (fail); try go_wp2)
   go_meet
   case rel => exact ⟨_, (true), (by first | rfl | (simp; done) | (simp [*]; done)), H', ⟨by first | omega | exact Nat.le_refl _⟩, ⟨by exact BK224.out⟩, ⟨by repeat (first | (with_reducible first | exact HB.out | apply below_alloc | apply pw_below_drewN | apply below_drew1 | refine below_set ?_ GE224.out) | exact HB.out)⟩⟩
  ·rw [if_neg c4] at H
   have c4b0 : decide (64 < (l0_0.length : Int)) = false := decide_eq_false c4
   have c4b1 : decide (64 < l0_0.length) = false := decide_eq_false (by omega)
   clear c4
   (first | rw [c4b0] | (simp only [i64_w, i32_w]; rw [c4b0]) | skip)
   have H' := a_ H
   clear H
   have hcz6_0 := cz_ BK224 0
   have hcz6_1 := cz_ BK224 1
   have hcz6_2 := cz_ BK224 2
   have hfz6_0 := fz_ BK224 0
   have hfz6_1 := fz_ BK224 1
   have hfz6_2 := fz_ BK224 2
   go_wp2
   repeat (go_quiet (fail); try go_wp2)
   go_meet
   case rel => exact ⟨_, (decide ((l0_2.length : Int) > 200)), (by first | rfl | (simp; done) | (simp [*]; done)), H', ⟨by first | omega | exact Nat.le_refl _⟩, ⟨by exact BK224.out⟩, ⟨by repeat (first | (with_reducible first | exact HB.out | apply below_alloc | apply pw_below_drewN | apply below_drew1 | refine below_set ?_ GE224.out) | exact HB.out)⟩⟩
 case rest =>
  clear HC2
  try clear c2
  try clear p2
  try clear c4
  try clear c4b0
  try clear c4b1
  try clear hcz5_0
  try clear hcz5_1
  try clear hcz5_2
  try clear hcz6_0
  try clear hcz6_1
  try clear hcz6_2
  try clear hfz5_0
  try clear hfz5_1
  try clear hfz5_2
  try clear hfz6_0
  try clear hfz6_1
  try clear hfz6_2
  obtain ⟨kq, x15_1, rfl, HA, HJ1, BK224, HB⟩ := hcut
  cases kq with
  | zero => exact absurd HA.out (by simp [skiarearef19_Right.j0])
  | succ kj1 =>
   have H := HA.out
   clear HA
   simp only [skiarearef19_Right.j0] at H
   by_cases c7 : x15_1 = true
   ·subst c7
    have H1 : (some 4) = some r := by rw [if_pos rfl] at H; exact H
    clear H
    have H := H1
    clear H1
    obtain rfl := Option.some.inj H
    go_wp2
    repeat (go_quiet (fail); try go_wp2)
    go_ret
    exact ⟨by first | rfl | (simp [errW_none, errW_some] <;> rfl) | (simp [*, errW_none, errW_some] <;> rfl), by repeat (first | (with_reducible first | exact HB.out | apply below_alloc | apply pw_below_drewN | apply below_drew1 | refine below_set ?_ GE224.out) | exact HB.out)⟩
   ·replace c7 := Bool.eq_false_iff.mpr c7
    subst c7
    have H1 : ((skiarearef19_in.f a0_1 1 604800).bind fun t225 => (if t225 = true then (skiarearef19_Right.l0 kj1 0 l0_0 a0_1 l0_2) else (some 2))) = some r := by rw [if_neg (show ¬ (false = true) by decide)] at H; exact H
    clear H
    have H := H1
    clear H1
    replace H := Option.bind_eq_some_iff.mp H
    obtain ⟨t225, A80, H⟩ := H
    replace H : (if t225 = true then (skiarearef19_Right.l0 kj1 0 l0_0 a0_1 l0_2) else (some 2)) = some r := H
    have A8 := a_ A80
    clear A80
    by_cases c9 : t225 = true
    ·subst c9
     have H1 : (skiarearef19_Right.l0 kj1 0 l0_0 a0_1 l0_2) = some r := by rw [if_pos rfl] at H; exact H
     clear H
     have H := H1
     clear H1
     have H' := a_ H
     clear H
     have hcz10_0 := cz_ BK224 0
     have hcz10_1 := cz_ BK224 1
     have hcz10_2 := cz_ BK224 2
     have hfz10_0 := fz_ BK224 0
     have hfz10_1 := fz_ BK224 1
     have hfz10_2 := fz_ BK224 2
     go_wp2_with (first | (go_at_call 56; (with_reducible refine (skiarearef19_in.calls a0_1 1 604800 true _ A8.out).mono ?_); rintro e w' ⟨rfl, ⟨nd, rfl⟩⟩; (try first | exact ⟨rfl, _, World.drewN_drewN _ _ _⟩ | exact ⟨rfl, _, Eq.trans (World.drewN_drewN _ _ _) (congrArg (World.drewN _) (Nat.add_assoc _ _ _))⟩)))
     repeat (go_quiet (fail); try go_wp2_with (first | (go_at_call 56; (with_reducible refine (skiarearef19_in.calls a0_1 1 604800 true _ A8.out).mono ?_); rintro e w' ⟨rfl, ⟨nd, rfl⟩⟩; (try first | exact ⟨rfl, _, World.drewN_drewN _ _ _⟩ | exact ⟨rfl, _, Eq.trans (World.drewN_drewN _ _ _) (congrArg (World.drewN _) (Nat.add_assoc _ _ _))⟩))))
     go_loopg [3] kj1 (fun kq v3 w' => ∃ (x3_2 : Int), v3 = .int .i64 x3_2 ∧ Aside0 (skiarearef19_Right.l0 kq x3_2 l0_0 a0_1 l0_2 = some r) ∧ Aside0 (kq ≤ kj1) ∧ Aside0 (w'.heap[gb224]? = some (.cells #[(.slice A0_0 l0_0.length c0_0), .int .i64 a0_1, (.slice A0_2 l0_2.length c0_2)] 25 (0, 0))) ∧ Aside0 (Below w.heap.size w w'))
     case atStart => exact ⟨(0), (by first | rfl | (simp; done) | (simp [*]; done)), H', ⟨Nat.le_refl _⟩, ⟨by exact BK224.out⟩, ⟨by repeat (first | (with_reducible first | exact HB.out | apply below_alloc | apply pw_below_drewN | apply below_drew1 | refine below_set ?_ GE224.out) | exact HB.out)⟩⟩
     case round =>
      clear H'
      try clear c2
      try clear p2
      try clear c4
      try clear c4b0
      try clear c4b1
      try clear c7
      try clear c9
      try clear hcz10_0
      try clear hcz10_1
      try clear hcz10_2
      try clear hcz5_0
      try clear hcz5_1
      try clear hcz5_2
      try clear hcz6_0
      try clear hcz6_1
      try clear hcz6_2
      try clear hfz10_0
      try clear hfz10_1
      try clear hfz10_2
      try clear hfz5_0
      try clear hfz5_1
      try clear hfz5_2
      try clear hfz6_0
      try clear hfz6_1
      try clear hfz6_2
      try clear p2
      obtain ⟨x3_2, rfl, HA, HK2, BK224, HB⟩ := hrel
      cases gk with
      | zero => exact absurd HA.out (by simp [skiarearef19_Right.l0])
      | succ k2 =>
       have H := HA.out
       clear HA
       simp only [skiarearef19_Right.l0] at H
       by_cases c11 : x3_2 < (l0_0.length : Int)
       ·rw [if_pos c11] at H
        have c11b0 : decide (x3_2 < (l0_0.length : Int)) = true := decide_eq_true c11
        clear c11
        by_cases c12 : 0 ≤ x3_2
        ·rw [if_pos c12] at H
         have c12b0 : decide (0 ≤ x3_2) = true := decide_eq_true c12
         clear c12
         replace H := Option.bind_eq_some_iff.mp H
         obtain ⟨t227, A130, H⟩ := H
         replace H : (if t227 = true then (if x3_2 ≤ (l0_0.length : Int) then ((skiarearef19_Has.f k2 (l0_0.take (x3_2 : Int).toNat) (rd l0_0 x3_2)).bind fun t230 => (if t230 = true then (some 7) else (skiarearef19_Right.l0 k2 (wrap64 (x3_2 + 1)) l0_0 a0_1 l0_2))) else (none)) else (some 2)) = some r := H
         have A13 := a_ A130
         clear A130
         by_cases c14 : t227 = true
         ·subst c14
          have H1 : (if x3_2 ≤ (l0_0.length : Int) then ((skiarearef19_Has.f k2 (l0_0.take (x3_2 : Int).toNat) (rd l0_0 x3_2)).bind fun t230 => (if t230 = true then (some 7) else (skiarearef19_Right.l0 k2 (wrap64 (x3_2 + 1)) l0_0 a0_1 l0_2))) else (none)) = some r := by rw [if_pos rfl] at H; exact H
          clear H
          have H := H1
          clear H1
          have c15b0 := eq_true (od_ : 0 ≤ x3_2)
          by_cases c16 : x3_2 ≤ (l0_0.length : Int)
          ·rw [if_pos c16] at H
           have c16b0 := eq_true c16
           have c16b1 : decide (x3_2 ≤ (l0_0.length : Int)) = true := decide_eq_true c16
           clear c16
           replace H := Option.bind_eq_some_iff.mp H
           obtain ⟨t230, A170, H⟩ := H
           replace H : (if t230 = true then (some 7) else (skiarearef19_Right.l0 k2 (wrap64 (x3_2 + 1)) l0_0 a0_1 l0_2)) = some r := H
           have A17 := a_ A170
           clear A170
           by_cases c18 : t230 = true
           ·subst c18
            have H1 : (some 7) = some r := by rw [if_pos rfl] at H; exact H
            clear H
            have H := H1
            clear H1
            obtain rfl := Option.some.inj H
            have hcz19_0 := cz_ BK224 0
            have hcz19_1 := cz_ BK224 1
            have hcz19_2 := cz_ BK224 2
            have hfz19_0 := fz_ BK224 0
            have hfz19_1 := fz_ BK224 1
            have hfz19_2 := fz_ BK224 2
            have p226 : 0 ≤ (x3_2 : Int) := od_
            have q226 : x3_2 < (l0_0.length : Int) := od_
            obtain ⟨ad226, e226, hx226_0⟩ := Kd.at_int HR0_0.out x3_2 p226 q226
            cases e226
            replace hx226_0 := pc_ hx226_0
            replace p226 := eq_true p226
            replace q226 := eq_true q226
            go_wp2_with (first | (go_at_call 56; (with_reducible refine (skiarearef19_in.calls (rd l0_0 x3_2) 1 9999 true _ A13.out).mono ?_); rintro e w' ⟨rfl, ⟨nd, rfl⟩⟩; (try first | exact ⟨rfl, _, World.drewN_drewN _ _ _⟩ | exact ⟨rfl, _, Eq.trans (World.drewN_drewN _ _ _) (congrArg (World.drewN _) (Nat.add_assoc _ _ _))⟩); obtain ⟨i020, hi020, _, hsz20, _⟩ := info_parts info3; obtain ⟨hcut20, hA20, hC20⟩ := print_take_of (P := Try.prog) (Value.int .i64) 0 22 3 .i64 Try.underlying22 hi020 hsz20 (some ad226) c0_0 l0_0 x3_2 (od_) (od_) HC0_0.out; have HR228 := a_ (Kd.C_of_reads (h1 := fun _ => rfl) (hA20 _ (Kd.reads_of_C HR0_0.out))); have HC228 := a_ hC20; clear hA20 hC20 hi020 hsz20; have p229 : 0 ≤ (x3_2 : Int) := od_; have q229 : x3_2 < (l0_0.length : Int) := od_; obtain ⟨ad229, e229, hx229_0⟩ := Kd.at_int HR0_0.out x3_2 p229 q229; obtain rfl : ad226 = ad229 := (by injection e229); replace hx229_0 := pc_ hx229_0; replace p229 := eq_true p229; replace q229 := eq_true q229) | (go_at_call 57; (with_reducible refine (skiarearef19_Has.calls_n k2 _ _ (l0_0.take (x3_2 : Int).toNat) (rd l0_0 x3_2) true _ _ ?hn ?side1 ?side2 A17.out).mono ?_); (case hn => have z1 := of_eq_true c15b0; have z2 := of_eq_true c16b0; rw [List.length_take]; omega); (case side1 => exact kC_ (Kd.C_below HR228.out bel_)); (case side2 => exact HC228.out); rintro e w' ⟨rfl, ⟨nd, rfl⟩⟩; (try first | exact ⟨rfl, _, World.drewN_drewN _ _ _⟩ | exact ⟨rfl, _, Eq.trans (World.drewN_drewN _ _ _) (congrArg (World.drewN _) (Nat.add_assoc _ _ _))⟩)))
            repeat (go_quiet (first | (go_at_call 56; (with_reducible refine (skiarearef19_in.calls (rd l0_0 x3_2) 1 9999 true _ A13.out).mono ?_); rintro e w' ⟨rfl, ⟨nd, rfl⟩⟩; (try first | exact ⟨rfl, _, World.drewN_drewN _ _ _⟩ | exact ⟨rfl, _, Eq.trans (World.drewN_drewN _ _ _) (congrArg (World.drewN _) (Nat.add_assoc _ _ _))⟩); obtain ⟨i020, hi020, _, hsz20, _⟩ := info_parts info3; obtain ⟨hcut20, hA20, hC20⟩ := print_take_of (P := Try.prog) (Value.int .i64) 0 22 3 .i64 Try.underlying22 hi020 hsz20 (some ad226) c0_0 l0_0 x3_2 (od_) (od_) HC0_0.out; have HR228 := a_ (Kd.C_of_reads (h1 := fun _ => rfl) (hA20 _ (Kd.reads_of_C HR0_0.out))); have HC228 := a_ hC20; clear hA20 hC20 hi020 hsz20; have p229 : 0 ≤ (x3_2 : Int) := od_; have q229 : x3_2 < (l0_0.length : Int) := od_; obtain ⟨ad229, e229, hx229_0⟩ := Kd.at_int HR0_0.out x3_2 p229 q229; obtain rfl : ad226 = ad229 := (by injection e229); replace hx229_0 := pc_ hx229_0; replace p229 := eq_true p229; replace q229 := eq_true q229) | (go_at_call 57; (with_reducible refine (skiarearef19_Has.calls_n k2 _ _ (l0_0.take (x3_2 : Int).toNat) (rd l0_0 x3_2) true _ _ ?hn ?side1 ?side2 A17.out).mono ?_); (case hn => have z1 := of_eq_true c15b0; have z2 := of_eq_true c16b0; rw [List.length_take]; omega); (case side1 => exact kC_ (Kd.C_below HR228.out bel_)); (case side2 => exact HC228.out); rintro e w' ⟨rfl, ⟨nd, rfl⟩⟩; (try first | exact ⟨rfl, _, World.drewN_drewN _ _ _⟩ | exact ⟨rfl, _, Eq.trans (World.drewN_drewN _ _ _) (congrArg (World.drewN _) (Nat.add_assoc _ _ _))⟩))); try go_wp2_with (first | (go_at_call 56; (with_reducible refine (skiarearef19_in.calls (rd l0_0 x3_2) 1 9999 true _ A13.out).mono ?_); rintro e w' ⟨rfl, ⟨nd, rfl⟩⟩; (try first | exact ⟨rfl, _, World.drewN_drewN _ _ _⟩ | exact ⟨rfl, _, Eq.trans (World.drewN_drewN _ _ _) (congrArg (World.drewN _) (Nat.add_assoc _ _ _))⟩); obtain ⟨i020, hi020, _, hsz20, _⟩ := info_parts info3; obtain ⟨hcut20, hA20, hC20⟩ := print_take_of (P := Try.prog) (Value.int .i64) 0 22 3 .i64 Try.underlying22 hi020 hsz20 (some ad226) c0_0 l0_0 x3_2 (od_) (od_) HC0_0.out; have HR228 := a_ (Kd.C_of_reads (h1 := fun _ => rfl) (hA20 _ (Kd.reads_of_C HR0_0.out))); have HC228 := a_ hC20; clear hA20 hC20 hi020 hsz20; have p229 : 0 ≤ (x3_2 : Int) := od_; have q229 : x3_2 < (l0_0.length : Int) := od_; obtain ⟨ad229, e229, hx229_0⟩ := Kd.at_int HR0_0.out x3_2 p229 q229; obtain rfl : ad226 = ad229 := (by injection e229); replace hx229_0 := pc_ hx229_0; replace p229 := eq_true p229; replace q229 := eq_true q229) | (go_at_call 57; (with_reducible refine (skiarearef19_Has.calls_n k2 _ _ (l0_0.take (x3_2 : Int).toNat) (rd l0_0 x3_2) true _ _ ?hn ?side1 ?side2 A17.out).mono ?_); (case hn => have z1 := of_eq_true c15b0; have z2 := of_eq_true c16b0; rw [List.length_take]; omega); (case side1 => exact kC_ (Kd.C_below HR228.out bel_)); (case side2 => exact HC228.out); rintro e w' ⟨rfl, ⟨nd, rfl⟩⟩; (try first | exact ⟨rfl, _, World.drewN_drewN _ _ _⟩ | exact ⟨rfl, _, Eq.trans (World.drewN_drewN _ _ _) (congrArg (World.drewN _) (Nat.add_assoc _ _ _))⟩))))
            go_ret
            exact ⟨by first | rfl | (simp [errW_none, errW_some] <;> rfl) | (simp [*, errW_none, errW_some] <;> rfl), by repeat (first | (with_reducible first | exact HB.out | apply below_alloc | apply pw_below_drewN | apply below_drew1 | refine below_set ?_ GE224.out) | exact HB.out)⟩
           ·replace c18 := Bool.eq_false_iff.mpr c18
            subst c18
            have H1 : (skiarearef19_Right.l0 k2 (wrap64 (x3_2 + 1)) l0_0 a0_1 l0_2) = some r := by rw [if_neg (show ¬ (false = true) by decide)] at H; exact H
            clear H
            have H := H1
            clear H1
            have H' := a_ H
            clear H
            have hcz21_0 := cz_ BK224 0
            have hcz21_1 := cz_ BK224 1
            have hcz21_2 := cz_ BK224 2
            have hfz21_0 := fz_ BK224 0
            have hfz21_1 := fz_ BK224 1
            have hfz21_2 := fz_ BK224 2
            have p226 : 0 ≤ (x3_2 : Int) := od_
            have q226 : x3_2 < (l0_0.length : Int) := od_
            obtain ⟨ad226, e226, hx226_0⟩ := Kd.at_int HR0_0.out x3_2 p226 q226
            cases e226
            replace hx226_0 := pc_ hx226_0
            replace p226 := eq_true p226
            replace q226 := eq_true q226
            go_wp2_with (first | (go_at_call 56; (with_reducible refine (skiarearef19_in.calls (rd l0_0 x3_2) 1 9999 true _ A13.out).mono ?_); rintro e w' ⟨rfl, ⟨nd, rfl⟩⟩; (try first | exact ⟨rfl, _, World.drewN_drewN _ _ _⟩ | exact ⟨rfl, _, Eq.trans (World.drewN_drewN _ _ _) (congrArg (World.drewN _) (Nat.add_assoc _ _ _))⟩); obtain ⟨i022, hi022, _, hsz22, _⟩ := info_parts info3; obtain ⟨hcut22, hA22, hC22⟩ := print_take_of (P := Try.prog) (Value.int .i64) 0 22 3 .i64 Try.underlying22 hi022 hsz22 (some ad226) c0_0 l0_0 x3_2 (od_) (od_) HC0_0.out; have HR228 := a_ (Kd.C_of_reads (h1 := fun _ => rfl) (hA22 _ (Kd.reads_of_C HR0_0.out))); have HC228 := a_ hC22; clear hA22 hC22 hi022 hsz22; have p229 : 0 ≤ (x3_2 : Int) := od_; have q229 : x3_2 < (l0_0.length : Int) := od_; obtain ⟨ad229, e229, hx229_0⟩ := Kd.at_int HR0_0.out x3_2 p229 q229; obtain rfl : ad226 = ad229 := (by injection e229); replace hx229_0 := pc_ hx229_0; replace p229 := eq_true p229; replace q229 := eq_true q229) | (go_at_call 57; (with_reducible refine (skiarearef19_Has.calls_n k2 _ _ (l0_0.take (x3_2 : Int).toNat) (rd l0_0 x3_2) false _ _ ?hn ?side1 ?side2 A17.out).mono ?_); (case hn => have z1 := of_eq_true c15b0; have z2 := of_eq_true c16b0; rw [List.length_take]; omega); (case side1 => exact kC_ (Kd.C_below HR228.out bel_)); (case side2 => exact HC228.out); rintro e w' ⟨rfl, ⟨nd, rfl⟩⟩; (try first | exact ⟨rfl, _, World.drewN_drewN _ _ _⟩ | exact ⟨rfl, _, Eq.trans (World.drewN_drewN _ _ _) (congrArg (World.drewN _) (Nat.add_assoc _ _ _))⟩)))
            repeat (go_quiet (first | (go_at_call 56; (with_reducible refine (skiarearef19_in.calls (rd l0_0 x3_2) 1 9999 true _ A13.out).mono ?_); rintro e w' ⟨rfl, ⟨nd, rfl⟩⟩; (try first | exact ⟨rfl, _, World.drewN_drewN _ _ _⟩ | exact ⟨rfl, _, Eq.trans (World.drewN_drewN _ _ _) (congrArg (World.drewN _) (Nat.add_assoc _ _ _))⟩); obtain ⟨i022, hi022, _, hsz22, _⟩ := info_parts info3; obtain ⟨hcut22, hA22, hC22⟩ := print_take_of (P := Try.prog) (Value.int .i64) 0 22 3 .i64 Try.underlying22 hi022 hsz22 (some ad226) c0_0 l0_0 x3_2 (od_) (od_) HC0_0.out; have HR228 := a_ (Kd.C_of_reads (h1 := fun _ => rfl) (hA22 _ (Kd.reads_of_C HR0_0.out))); have HC228 := a_ hC22; clear hA22 hC22 hi022 hsz22; have p229 : 0 ≤ (x3_2 : Int) := od_; have q229 : x3_2 < (l0_0.length : Int) := od_; obtain ⟨ad229, e229, hx229_0⟩ := Kd.at_int HR0_0.out x3_2 p229 q229; obtain rfl : ad226 = ad229 := (by injection e229); replace hx229_0 := pc_ hx229_0; replace p229 := eq_true p229; replace q229 := eq_true q229) | (go_at_call 57; (with_reducible refine (skiarearef19_Has.calls_n k2 _ _ (l0_0.take (x3_2 : Int).toNat) (rd l0_0 x3_2) false _ _ ?hn ?side1 ?side2 A17.out).mono ?_); (case hn => have z1 := of_eq_true c15b0; have z2 := of_eq_true c16b0; rw [List.length_take]; omega); (case side1 => exact kC_ (Kd.C_below HR228.out bel_)); (case side2 => exact HC228.out); rintro e w' ⟨rfl, ⟨nd, rfl⟩⟩; (try first | exact ⟨rfl, _, World.drewN_drewN _ _ _⟩ | exact ⟨rfl, _, Eq.trans (World.drewN_drewN _ _ _) (congrArg (World.drewN _) (Nat.add_assoc _ _ _))⟩))); try go_wp2_with (first | (go_at_call 56; (with_reducible refine (skiarearef19_in.calls (rd l0_0 x3_2) 1 9999 true _ A13.out).mono ?_); rintro e w' ⟨rfl, ⟨nd, rfl⟩⟩; (try first | exact ⟨rfl, _, World.drewN_drewN _ _ _⟩ | exact ⟨rfl, _, Eq.trans (World.drewN_drewN _ _ _) (congrArg (World.drewN _) (Nat.add_assoc _ _ _))⟩); obtain ⟨i022, hi022, _, hsz22, _⟩ := info_parts info3; obtain ⟨hcut22, hA22, hC22⟩ := print_take_of (P := Try.prog) (Value.int .i64) 0 22 3 .i64 Try.underlying22 hi022 hsz22 (some ad226) c0_0 l0_0 x3_2 (od_) (od_) HC0_0.out; have HR228 := a_ (Kd.C_of_reads (h1 := fun _ => rfl) (hA22 _ (Kd.reads_of_C HR0_0.out))); have HC228 := a_ hC22; clear hA22 hC22 hi022 hsz22; have p229 : 0 ≤ (x3_2 : Int) := od_; have q229 : x3_2 < (l0_0.length : Int) := od_; obtain ⟨ad229, e229, hx229_0⟩ := Kd.at_int HR0_0.out x3_2 p229 q229; obtain rfl : ad226 = ad229 := (by injection e229); replace hx229_0 := pc_ hx229_0; replace p229 := eq_true p229; replace q229 := eq_true q229) | (go_at_call 57; (with_reducible refine (skiarearef19_Has.calls_n k2 _ _ (l0_0.take (x3_2 : Int).toNat) (rd l0_0 x3_2) false _ _ ?hn ?side1 ?side2 A17.out).mono ?_); (case hn => have z1 := of_eq_true c15b0; have z2 := of_eq_true c16b0; rw [List.length_take]; omega); (case side1 => exact kC_ (Kd.C_below HR228.out bel_)); (case side2 => exact HC228.out); rintro e w' ⟨rfl, ⟨nd, rfl⟩⟩; (try first | exact ⟨rfl, _, World.drewN_drewN _ _ _⟩ | exact ⟨rfl, _, Eq.trans (World.drewN_drewN _ _ _) (congrArg (World.drewN _) (Nat.add_assoc _ _ _))⟩))))
            go_roundg k2
            case measure => have := HJ1.out; have := HK2.out; omega
            case rel => exact ⟨(wrap64 (x3_2 + 1)), (by first | rfl | (simp; done) | (simp [*]; done)), H', ⟨by have := HJ1.out; have := HK2.out; omega⟩, ⟨by exact BK224.out⟩, ⟨by repeat (first | (with_reducible first | exact HB.out | apply below_alloc | apply pw_below_drewN | apply below_drew1 | refine below_set ?_ GE224.out) | exact HB.out)⟩⟩
          ·rw [if_neg c16] at H
           exact absurd H (by simp)
         ·replace c14 := Bool.eq_false_iff.mpr c14
          subst c14
          have H1 : (some 2) = some r := by rw [if_neg (show ¬ (false = true) by decide)] at H; exact H
          clear H
          have H := H1
          clear H1
          obtain rfl := Option.some.inj H
          have hcz23_0 := cz_ BK224 0
          have hcz23_1 := cz_ BK224 1
          have hcz23_2 := cz_ BK224 2
          have hfz23_0 := fz_ BK224 0
          have hfz23_1 := fz_ BK224 1
          have hfz23_2 := fz_ BK224 2
          have p226 : 0 ≤ (x3_2 : Int) := od_
          have q226 : x3_2 < (l0_0.length : Int) := od_
          obtain ⟨ad226, e226, hx226_0⟩ := Kd.at_int HR0_0.out x3_2 p226 q226
          cases e226
          replace hx226_0 := pc_ hx226_0
          replace p226 := eq_true p226
          replace q226 := eq_true q226
          go_wp2_with (first | (go_at_call 56; (with_reducible refine (skiarearef19_in.calls (rd l0_0 x3_2) 1 9999 false _ A13.out).mono ?_); rintro e w' ⟨rfl, ⟨nd, rfl⟩⟩; (try first | exact ⟨rfl, _, World.drewN_drewN _ _ _⟩ | exact ⟨rfl, _, Eq.trans (World.drewN_drewN _ _ _) (congrArg (World.drewN _) (Nat.add_assoc _ _ _))⟩)))
          repeat (go_quiet (fail); try go_wp2_with (first | (go_at_call 56; (with_reducible refine (skiarearef19_in.calls (rd l0_0 x3_2) 1 9999 false _ A13.out).mono ?_); rintro e w' ⟨rfl, ⟨nd, rfl⟩⟩; (try first | exact ⟨rfl, _, World.drewN_drewN _ _ _⟩ | exact ⟨rfl, _, Eq.trans (World.drewN_drewN _ _ _) (congrArg (World.drewN _) (Nat.add_assoc _ _ _))⟩))))
          go_ret
          exact ⟨by first | rfl | (simp [errW_none, errW_some] <;> rfl) | (simp [*, errW_none, errW_some] <;> rfl), by repeat (first | (with_reducible first | exact HB.out | apply below_alloc | apply pw_below_drewN | apply below_drew1 | refine below_set ?_ GE224.out) | exact HB.out)⟩
        ·rw [if_neg c12] at H
         exact absurd H (by simp)
       ·rw [if_neg c11] at H
        have c11b0 : decide (x3_2 < (l0_0.length : Int)) = false := decide_eq_false c11
        clear c11
        have H' := a_ H
        clear H
        have hcz24_0 := cz_ BK224 0
        have hcz24_1 := cz_ BK224 1
        have hcz24_2 := cz_ BK224 2
        have hfz24_0 := fz_ BK224 0
        have hfz24_1 := fz_ BK224 1
        have hfz24_2 := fz_ BK224 2
        go_wp2
        repeat (go_quiet (fail); try go_wp2)
        go_loopg [4] k2 (fun kq v4 w' => ∃ (x4_3 : Int), v4 = .int .i64 x4_3 ∧ Aside0 (skiarearef19_Right.l1 kq x4_3 l0_0 a0_1 l0_2 = some r) ∧ Aside0 (kq ≤ k2) ∧ Aside0 (w'.heap[gb224]? = some (.cells #[(.slice A0_0 l0_0.length c0_0), .int .i64 a0_1, (.slice A0_2 l0_2.length c0_2)] 25 (0, 0))) ∧ Aside0 (Below w.heap.size w w'))
        case atStart => exact ⟨(0), (by first | rfl | (simp; done) | (simp [*]; done)), H', ⟨Nat.le_refl _⟩, ⟨by exact BK224.out⟩, ⟨by repeat (first | (with_reducible first | exact HB.out | apply below_alloc | apply pw_below_drewN | apply below_drew1 | refine below_set ?_ GE224.out) | exact HB.out)⟩⟩
        case round =>
         clear H'
         try clear c1
         try clear c2
         try clear p2
         try clear q2
         try clear hx2
         try clear c4
         try clear c4b0
         try clear c4b1
         try clear p6
         try clear c7
         try clear c9
         try clear c11
         try clear c11b0
         try clear c12
         try clear c12b0
         try clear c14
         try clear c15
         try clear c15b0
         try clear c16
         try clear c16b0
         try clear c16b1
         try clear c18
         try clear c20
         try clear p22
         try clear q22
         try clear hx22
         try clear hcz10_0
         try clear hcz10_1
         try clear hcz10_2
         try clear hcz19_0
         try clear hcz19_1
         try clear hcz19_2
         try clear hcz21_0
         try clear hcz21_1
         try clear hcz21_2
         try clear hcz23_0
         try clear hcz23_1
         try clear hcz23_2
         try clear hcz24_0
         try clear hcz24_1
         try clear hcz24_2
         try clear hcz5_0
         try clear hcz5_1
         try clear hcz5_2
         try clear hcz6_0
         try clear hcz6_1
         try clear hcz6_2
         try clear hfz10_0
         try clear hfz10_1
         try clear hfz10_2
         try clear hfz19_0
         try clear hfz19_1
         try clear hfz19_2
         try clear hfz21_0
         try clear hfz21_1
         try clear hfz21_2
         try clear hfz23_0
         try clear hfz23_1
         try clear hfz23_2
         try clear hfz24_0
         try clear hfz24_1
         try clear hfz24_2
         try clear hfz5_0
         try clear hfz5_1
         try clear hfz5_2
         try clear hfz6_0
         try clear hfz6_1
         try clear hfz6_2
         try clear hx226_0
         try clear hx229_0
         try clear p2
         try clear p226
         try clear p229
         try clear q226
         try clear q229
         obtain ⟨x4_3, rfl, HA, HK3, BK224, HB⟩ := hrel
         cases gk with
         | zero => exact absurd HA.out (by simp [skiarearef19_Right.l1])
         | succ k3 =>
          have H := HA.out
          clear HA
          simp only [skiarearef19_Right.l1] at H
          by_cases c25 : x4_3 < (l0_2.length : Int)
          ·rw [if_pos c25] at H
           have c25b0 : decide (x4_3 < (l0_2.length : Int)) = true := decide_eq_true c25
           clear c25
           by_cases c26 : 0 ≤ x4_3
           ·rw [if_pos c26] at H
            have c26b0 : decide (0 ≤ x4_3) = true := decide_eq_true c26
            clear c26
            replace H := Option.bind_eq_some_iff.mp H
            obtain ⟨t233, A270, H⟩ := H
            replace H : (if t233 = true then ((skiarearef19_in.f ((rd_T35 l0_2 x4_3).f1) 1 9999).bind fun t234 => (if t234 = true then ((skiarearef19_in.f ((rd_T35 l0_2 x4_3).f2) 0 20000000).bind fun t235 => (if t235 = true then (if x4_3 > 0 then (if 0 ≤ (wrap64 (x4_3 - 1)) then (if (wrap64 (x4_3 - 1)) < (l0_2.length : Int) then (if ((rd_T35 l0_2 x4_3).f2) < ((rd_T35 l0_2 (wrap64 (x4_3 - 1))).f2) then (some 11) else (skiarearef19_Right.l1 k3 (wrap64 (x4_3 + 1)) l0_0 a0_1 l0_2)) else (none)) else (none)) else (skiarearef19_Right.l1 k3 (wrap64 (x4_3 + 1)) l0_0 a0_1 l0_2)) else (some 2))) else (some 17))) else (some 8)) = some r := H
            have A27 := a_ A270
            clear A270
            by_cases c28 : t233 = true
            ·subst c28
             have H1 : ((skiarearef19_in.f ((rd_T35 l0_2 x4_3).f1) 1 9999).bind fun t234 => (if t234 = true then ((skiarearef19_in.f ((rd_T35 l0_2 x4_3).f2) 0 20000000).bind fun t235 => (if t235 = true then (if x4_3 > 0 then (if 0 ≤ (wrap64 (x4_3 - 1)) then (if (wrap64 (x4_3 - 1)) < (l0_2.length : Int) then (if ((rd_T35 l0_2 x4_3).f2) < ((rd_T35 l0_2 (wrap64 (x4_3 - 1))).f2) then (some 11) else (skiarearef19_Right.l1 k3 (wrap64 (x4_3 + 1)) l0_0 a0_1 l0_2)) else (none)) else (none)) else (skiarearef19_Right.l1 k3 (wrap64 (x4_3 + 1)) l0_0 a0_1 l0_2)) else (some 2))) else (some 17))) = some r := by rw [if_pos rfl] at H; exact H
             clear H
             have H := H1
             clear H1
             replace H := Option.bind_eq_some_iff.mp H
             obtain ⟨t234, A290, H⟩ := H
             replace H : (if t234 = true then ((skiarearef19_in.f ((rd_T35 l0_2 x4_3).f2) 0 20000000).bind fun t235 => (if t235 = true then (if x4_3 > 0 then (if 0 ≤ (wrap64 (x4_3 - 1)) then (if (wrap64 (x4_3 - 1)) < (l0_2.length : Int) then (if ((rd_T35 l0_2 x4_3).f2) < ((rd_T35 l0_2 (wrap64 (x4_3 - 1))).f2) then (some 11) else (skiarearef19_Right.l1 k3 (wrap64 (x4_3 + 1)) l0_0 a0_1 l0_2)) else (none)) else (none)) else (skiarearef19_Right.l1 k3 (wrap64 (x4_3 + 1)) l0_0 a0_1 l0_2)) else (some 2))) else (some 17)) = some r := H
             have A29 := a_ A290
             clear A290
             by_cases c30 : t234 = true
             ·subst c30
              have H1 : ((skiarearef19_in.f ((rd_T35 l0_2 x4_3).f2) 0 20000000).bind fun t235 => (if t235 = true then (if x4_3 > 0 then (if 0 ≤ (wrap64 (x4_3 - 1)) then (if (wrap64 (x4_3 - 1)) < (l0_2.length : Int) then (if ((rd_T35 l0_2 x4_3).f2) < ((rd_T35 l0_2 (wrap64 (x4_3 - 1))).f2) then (some 11) else (skiarearef19_Right.l1 k3 (wrap64 (x4_3 + 1)) l0_0 a0_1 l0_2)) else (none)) else (none)) else (skiarearef19_Right.l1 k3 (wrap64 (x4_3 + 1)) l0_0 a0_1 l0_2)) else (some 2))) = some r := by rw [if_pos rfl] at H; exact H
              clear H
              have H := H1
              clear H1
              replace H := Option.bind_eq_some_iff.mp H
              obtain ⟨t235, A310, H⟩ := H
              replace H : (if t235 = true then (if x4_3 > 0 then (if 0 ≤ (wrap64 (x4_3 - 1)) then (if (wrap64 (x4_3 - 1)) < (l0_2.length : Int) then (if ((rd_T35 l0_2 x4_3).f2) < ((rd_T35 l0_2 (wrap64 (x4_3 - 1))).f2) then (some 11) else (skiarearef19_Right.l1 k3 (wrap64 (x4_3 + 1)) l0_0 a0_1 l0_2)) else (none)) else (none)) else (skiarearef19_Right.l1 k3 (wrap64 (x4_3 + 1)) l0_0 a0_1 l0_2)) else (some 2)) = some r := H
              have A31 := a_ A310
              clear A310
              by_cases c32 : t235 = true
              ·subst c32
               have H1 : (if x4_3 > 0 then (if 0 ≤ (wrap64 (x4_3 - 1)) then (if (wrap64 (x4_3 - 1)) < (l0_2.length : Int) then (if ((rd_T35 l0_2 x4_3).f2) < ((rd_T35 l0_2 (wrap64 (x4_3 - 1))).f2) then (some 11) else (skiarearef19_Right.l1 k3 (wrap64 (x4_3 + 1)) l0_0 a0_1 l0_2)) else (none)) else (none)) else (skiarearef19_Right.l1 k3 (wrap64 (x4_3 + 1)) l0_0 a0_1 l0_2)) = some r := by rw [if_pos rfl] at H; exact H
               clear H
               have H := H1
               clear H1
               by_cases c33 : x4_3 > 0
               ·rw [if_pos c33] at H
                have c33b0 : decide (0 < x4_3) = true := decide_eq_true c33
                clear c33
                obtain ⟨ji34, hji34⟩ : ∃ j_ : Int, (wrap64 (x4_3 - 1)) = j_ := ⟨_, rfl⟩
                replace H : (if 0 ≤ (ji34) then (if (ji34) < (l0_2.length : Int) then (if ((rd_T35 l0_2 x4_3).f2) < ((rd_T35 l0_2 (ji34)).f2) then (some 11) else (skiarearef19_Right.l1 k3 (wrap64 (x4_3 + 1)) l0_0 a0_1 l0_2)) else (none)) else (none)) = some r := by first | (rw [hji34] at H; exact H) | (simp only [hji34] at H ⊢; exact H)
                (try rw [hji34] at A27)
                (try rw [hji34] at A29)
                (try rw [hji34] at A31)
                have hji34w : (IntKind.i64.wrap (x4_3 - 1)) = ji34 := (i64_w _).trans hji34
                by_cases c35 : 0 ≤ (ji34)
                ·rw [if_pos c35] at H
                 have c35b0 : decide (0 ≤ (ji34)) = true := decide_eq_true c35
                 clear c35
                 by_cases c36 : (ji34) < (l0_2.length : Int)
                 ·rw [if_pos c36] at H
                  have c36b0 : decide ((ji34) < (l0_2.length : Int)) = true := decide_eq_true c36
                  clear c36
                  by_cases c37 : ((rd_T35 l0_2 x4_3).f2) < ((rd_T35 l0_2 (ji34)).f2)
                  ·rw [if_pos c37] at H
                   have c37b0 : decide (((rd_T35 l0_2 x4_3).f2) < ((rd_T35 l0_2 (ji34)).f2)) = true := decide_eq_true c37
                   clear c37
                   obtain rfl := Option.some.inj H
                   have hcz38_0 := cz_ BK224 0
                   have hcz38_1 := cz_ BK224 1
                   have hcz38_2 := cz_ BK224 2
                   have hfz38_0 := fz_ BK224 0
                   have hfz38_1 := fz_ BK224 1
                   have hfz38_2 := fz_ BK224 2
                   have p231 : 0 ≤ (x4_3 : Int) := od_
                   have q231 : x4_3 < (l0_2.length : Int) := od_
                   obtain ⟨ad231, e231, hx231_0, hx231_1, hx231_2⟩ := at_T35 HR0_2.out x4_3 p231 q231
                   cases e231
                   replace hx231_0 := pc_ hx231_0
                   replace hx231_1 := pc_ hx231_1
                   replace hx231_2 := pc_ hx231_2
                   replace p231 := eq_true p231
                   replace q231 := eq_true q231
                   go_wp2_with (first | ((with_reducible refine gate_dst (N := 5) rfl ?_); (try (refine gate_guard (by rfl) ?_; dsimp only)); refine box_event ?hg (N := 5) ?hd (cs := #[.int .i64 0, .int .i64 0, .int .i64 0]) (t := 35) ?hr ?_; (case hd => rfl); (case hg => rfl); (case hr => first | (go_simp; done) | (go_simp; rfl)); intro gb232 hg w39 hbox hb; have n0_ := a_ (blk_below (bk_ BK224.out) hb); have n1_ := a_ (below_step bel_ hb); have n2_ := a_ (hbox); have n3_ := a_ (bz_ hg : w.heap.size ≤ gb232); have n4_ := a_ (bz_ hg : w.heap.size ≤ gb232); have n5_ := a_ (nl_ hg (bk_ BK224.out)); have n6_ := a_ (ng_ hg (bk_ BK224.out)); clear BK224; clear HB; have BK224 := n0_; have HB := n1_; have BK232 := n2_; have GW232 := n3_; have GE232 := n4_; have NB224_232 := n5_; have NB232_224 := n6_; clear n0_ n1_ n2_ n3_ n4_ n5_ n6_; clear hb hbox hg; have hnb40 := NB232_224.out; have hnc40 := NB224_232.out; have hcz41_0 := cz_ BK232 0; have hcz41_1 := cz_ BK232 1; have hcz41_2 := cz_ BK232 2; have hfz41_0 := fz_ BK232 0; have hfz41_1 := fz_ BK232 1; have hfz41_2 := fz_ BK232 2; have hcz42_0 := cz_ BK224 0; have hcz42_1 := cz_ BK224 1; have hcz42_2 := cz_ BK224 2; have hfz42_0 := fz_ BK224 0; have hfz42_1 := fz_ BK224 1; have hfz42_2 := fz_ BK224 2) | (go_at_call 57; (with_reducible refine (skiarearef19_Has.calls k3 _ _ l0_0 ((rd_T35 l0_2 x4_3).f0) true _ ?side1 ?side2 A27.out).mono ?_); (case side1 => exact Kd.C_below HR0_0.out bel_); (case side2 => exact HC0_0.out); rintro e w' ⟨rfl, ⟨nd, rfl⟩⟩; (try first | exact ⟨rfl, _, World.drewN_drewN _ _ _⟩ | exact ⟨rfl, _, Eq.trans (World.drewN_drewN _ _ _) (congrArg (World.drewN _) (Nat.add_assoc _ _ _))⟩)) | (go_at_call 56; (with_reducible refine (skiarearef19_in.calls ((rd_T35 l0_2 x4_3).f1) 1 9999 true _ A29.out).mono ?_); rintro e w' ⟨rfl, ⟨nd, rfl⟩⟩; (try first | exact ⟨rfl, _, World.drewN_drewN _ _ _⟩ | exact ⟨rfl, _, Eq.trans (World.drewN_drewN _ _ _) (congrArg (World.drewN _) (Nat.add_assoc _ _ _))⟩)) | (go_at_call 56; (with_reducible refine (skiarearef19_in.calls ((rd_T35 l0_2 x4_3).f2) 0 20000000 true _ A31.out).mono ?_); rintro e w' ⟨rfl, ⟨nd, rfl⟩⟩; (try first | exact ⟨rfl, _, World.drewN_drewN _ _ _⟩ | exact ⟨rfl, _, Eq.trans (World.drewN_drewN _ _ _) (congrArg (World.drewN _) (Nat.add_assoc _ _ _))⟩); have p236 : 0 ≤ ((ji34) : Int) := od_; have q236 : (ji34) < (l0_2.length : Int) := od_; obtain ⟨ad236, e236, hx236_0, hx236_1, hx236_2⟩ := at_T35 HR0_2.out (ji34) p236 q236; obtain rfl : ad231 = ad236 := (by injection e236); have hn236_0 : ad231.block ≠ gb232 := Nat.ne_of_lt (Nat.lt_of_lt_of_le (by have := World.block_lt_of_cell? _ _ hx236_0; first | rwa [add_block] at this | exact this) GW232.out); have hn236_1 : ad231.block ≠ gb232 := Nat.ne_of_lt (Nat.lt_of_lt_of_le (by have := World.block_lt_of_cell? _ _ hx236_0; first | rwa [add_block] at this | exact this) GW232.out); have hn236_2 : ad231.block ≠ gb232 := Nat.ne_of_lt (Nat.lt_of_lt_of_le (by have := World.block_lt_of_cell? _ _ hx236_0; first | rwa [add_block] at this | exact this) GW232.out); replace hx236_0 := pc_ hx236_0; replace hx236_1 := pc_ hx236_1; replace hx236_2 := pc_ hx236_2; replace hx236_0 := (cell_far (p := ⟨gb232, 0, none⟩) (by first | (rw [add_block]; exact hn236_0) | (show (Addr.add _ _).block ≠ _; rw [add_block]; exact hn236_0) | exact hn236_0) (.int .i64 ((rd_T35 l0_2 x4_3).f0))).trans hx236_0; replace hx236_1 := (cell_far (p := ⟨gb232, 0, none⟩) (by first | (rw [add_block]; exact hn236_0) | (show (Addr.add _ _).block ≠ _; rw [add_block]; exact hn236_0) | exact hn236_0) (.int .i64 ((rd_T35 l0_2 x4_3).f0))).trans hx236_1; replace hx236_2 := (cell_far (p := ⟨gb232, 0, none⟩) (by first | (rw [add_block]; exact hn236_0) | (show (Addr.add _ _).block ≠ _; rw [add_block]; exact hn236_0) | exact hn236_0) (.int .i64 ((rd_T35 l0_2 x4_3).f0))).trans hx236_2; replace hx236_0 := (cell_far (p := ⟨gb232, 1, none⟩) (by first | (rw [add_block]; exact hn236_1) | (show (Addr.add _ _).block ≠ _; rw [add_block]; exact hn236_1) | exact hn236_1) (.int .i64 ((rd_T35 l0_2 x4_3).f1))).trans hx236_0; replace hx236_1 := (cell_far (p := ⟨gb232, 1, none⟩) (by first | (rw [add_block]; exact hn236_1) | (show (Addr.add _ _).block ≠ _; rw [add_block]; exact hn236_1) | exact hn236_1) (.int .i64 ((rd_T35 l0_2 x4_3).f1))).trans hx236_1; replace hx236_2 := (cell_far (p := ⟨gb232, 1, none⟩) (by first | (rw [add_block]; exact hn236_1) | (show (Addr.add _ _).block ≠ _; rw [add_block]; exact hn236_1) | exact hn236_1) (.int .i64 ((rd_T35 l0_2 x4_3).f1))).trans hx236_2; replace hx236_0 := (cell_far (p := ⟨gb232, 2, none⟩) (by first | (rw [add_block]; exact hn236_2) | (show (Addr.add _ _).block ≠ _; rw [add_block]; exact hn236_2) | exact hn236_2) (.int .i64 ((rd_T35 l0_2 x4_3).f2))).trans hx236_0; replace hx236_1 := (cell_far (p := ⟨gb232, 2, none⟩) (by first | (rw [add_block]; exact hn236_2) | (show (Addr.add _ _).block ≠ _; rw [add_block]; exact hn236_2) | exact hn236_2) (.int .i64 ((rd_T35 l0_2 x4_3).f2))).trans hx236_1; replace hx236_2 := (cell_far (p := ⟨gb232, 2, none⟩) (by first | (rw [add_block]; exact hn236_2) | (show (Addr.add _ _).block ≠ _; rw [add_block]; exact hn236_2) | exact hn236_2) (.int .i64 ((rd_T35 l0_2 x4_3).f2))).trans hx236_2; (try have hy236_0 := fun (n_ : Nat) => (show (((((w39.drewN n_).setCell ⟨gb232, 0, none⟩ (.int .i64 ((rd_T35 l0_2 x4_3).f0))).setCell ⟨gb232, 1, none⟩ (.int .i64 ((rd_T35 l0_2 x4_3).f1))).setCell ⟨gb232, 2, none⟩ (.int .i64 ((rd_T35 l0_2 x4_3).f2)))).cell? _ = some _ from hx236_0)); (try have hy236_1 := fun (n_ : Nat) => (show (((((w39.drewN n_).setCell ⟨gb232, 0, none⟩ (.int .i64 ((rd_T35 l0_2 x4_3).f0))).setCell ⟨gb232, 1, none⟩ (.int .i64 ((rd_T35 l0_2 x4_3).f1))).setCell ⟨gb232, 2, none⟩ (.int .i64 ((rd_T35 l0_2 x4_3).f2)))).cell? _ = some _ from hx236_1)); (try have hy236_2 := fun (n_ : Nat) => (show (((((w39.drewN n_).setCell ⟨gb232, 0, none⟩ (.int .i64 ((rd_T35 l0_2 x4_3).f0))).setCell ⟨gb232, 1, none⟩ (.int .i64 ((rd_T35 l0_2 x4_3).f1))).setCell ⟨gb232, 2, none⟩ (.int .i64 ((rd_T35 l0_2 x4_3).f2)))).cell? _ = some _ from hx236_2)); clear hn236_0; clear hn236_1; clear hn236_2; replace p236 := eq_true p236; replace q236 := eq_true q236))
                   repeat (go_quiet (fail); try go_wp2_with (first | ((with_reducible refine gate_dst (N := 5) rfl ?_); (try (refine gate_guard (by rfl) ?_; dsimp only)); refine box_event ?hg (N := 5) ?hd (cs := #[.int .i64 0, .int .i64 0, .int .i64 0]) (t := 35) ?hr ?_; (case hd => rfl); (case hg => rfl); (case hr => first | (go_simp; done) | (go_simp; rfl)); intro gb232 hg w39 hbox hb; have n0_ := a_ (blk_below (bk_ BK224.out) hb); have n1_ := a_ (below_step bel_ hb); have n2_ := a_ (hbox); have n3_ := a_ (bz_ hg : w.heap.size ≤ gb232); have n4_ := a_ (bz_ hg : w.heap.size ≤ gb232); have n5_ := a_ (nl_ hg (bk_ BK224.out)); have n6_ := a_ (ng_ hg (bk_ BK224.out)); clear BK224; clear HB; have BK224 := n0_; have HB := n1_; have BK232 := n2_; have GW232 := n3_; have GE232 := n4_; have NB224_232 := n5_; have NB232_224 := n6_; clear n0_ n1_ n2_ n3_ n4_ n5_ n6_; clear hb hbox hg; have hnb40 := NB232_224.out; have hnc40 := NB224_232.out; have hcz41_0 := cz_ BK232 0; have hcz41_1 := cz_ BK232 1; have hcz41_2 := cz_ BK232 2; have hfz41_0 := fz_ BK232 0; have hfz41_1 := fz_ BK232 1; have hfz41_2 := fz_ BK232 2; have hcz42_0 := cz_ BK224 0; have hcz42_1 := cz_ BK224 1; have hcz42_2 := cz_ BK224 2; have hfz42_0 := fz_ BK224 0; have hfz42_1 := fz_ BK224 1; have hfz42_2 := fz_ BK224 2) | (go_at_call 57; (with_reducible refine (skiarearef19_Has.calls k3 _ _ l0_0 ((rd_T35 l0_2 x4_3).f0) true _ ?side1 ?side2 A27.out).mono ?_); (case side1 => exact Kd.C_below HR0_0.out bel_); (case side2 => exact HC0_0.out); rintro e w' ⟨rfl, ⟨nd, rfl⟩⟩; (try first | exact ⟨rfl, _, World.drewN_drewN _ _ _⟩ | exact ⟨rfl, _, Eq.trans (World.drewN_drewN _ _ _) (congrArg (World.drewN _) (Nat.add_assoc _ _ _))⟩)) | (go_at_call 56; (with_reducible refine (skiarearef19_in.calls ((rd_T35 l0_2 x4_3).f1) 1 9999 true _ A29.out).mono ?_); rintro e w' ⟨rfl, ⟨nd, rfl⟩⟩; (try first | exact ⟨rfl, _, World.drewN_drewN _ _ _⟩ | exact ⟨rfl, _, Eq.trans (World.drewN_drewN _ _ _) (congrArg (World.drewN _) (Nat.add_assoc _ _ _))⟩)) | (go_at_call 56; (with_reducible refine (skiarearef19_in.calls ((rd_T35 l0_2 x4_3).f2) 0 20000000 true _ A31.out).mono ?_); rintro e w' ⟨rfl, ⟨nd, rfl⟩⟩; (try first | exact ⟨rfl, _, World.drewN_drewN _ _ _⟩ | exact ⟨rfl, _, Eq.trans (World.drewN_drewN _ _ _) (congrArg (World.drewN _) (Nat.add_assoc _ _ _))⟩); have p236 : 0 ≤ ((ji34) : Int) := od_; have q236 : (ji34) < (l0_2.length : Int) := od_; obtain ⟨ad236, e236, hx236_0, hx236_1, hx236_2⟩ := at_T35 HR0_2.out (ji34) p236 q236; obtain rfl : ad231 = ad236 := (by injection e236); have hn236_0 : ad231.block ≠ gb232 := Nat.ne_of_lt (Nat.lt_of_lt_of_le (by have := World.block_lt_of_cell? _ _ hx236_0; first | rwa [add_block] at this | exact this) GW232.out); have hn236_1 : ad231.block ≠ gb232 := Nat.ne_of_lt (Nat.lt_of_lt_of_le (by have := World.block_lt_of_cell? _ _ hx236_0; first | rwa [add_block] at this | exact this) GW232.out); have hn236_2 : ad231.block ≠ gb232 := Nat.ne_of_lt (Nat.lt_of_lt_of_le (by have := World.block_lt_of_cell? _ _ hx236_0; first | rwa [add_block] at this | exact this) GW232.out); replace hx236_0 := pc_ hx236_0; replace hx236_1 := pc_ hx236_1; replace hx236_2 := pc_ hx236_2; replace hx236_0 := (cell_far (p := ⟨gb232, 0, none⟩) (by first | (rw [add_block]; exact hn236_0) | (show (Addr.add _ _).block ≠ _; rw [add_block]; exact hn236_0) | exact hn236_0) (.int .i64 ((rd_T35 l0_2 x4_3).f0))).trans hx236_0; replace hx236_1 := (cell_far (p := ⟨gb232, 0, none⟩) (by first | (rw [add_block]; exact hn236_0) | (show (Addr.add _ _).block ≠ _; rw [add_block]; exact hn236_0) | exact hn236_0) (.int .i64 ((rd_T35 l0_2 x4_3).f0))).trans hx236_1; replace hx236_2 := (cell_far (p := ⟨gb232, 0, none⟩) (by first | (rw [add_block]; exact hn236_0) | (show (Addr.add _ _).block ≠ _; rw [add_block]; exact hn236_0) | exact hn236_0) (.int .i64 ((rd_T35 l0_2 x4_3).f0))).trans hx236_2; replace hx236_0 := (cell_far (p := ⟨gb232, 1, none⟩) (by first | (rw [add_block]; exact hn236_1) | (show (Addr.add _ _).block ≠ _; rw [add_block]; exact hn236_1) | exact hn236_1) (.int .i64 ((rd_T35 l0_2 x4_3).f1))).trans hx236_0; replace hx236_1 := (cell_far (p := ⟨gb232, 1, none⟩) (by first | (rw [add_block]; exact hn236_1) | (show (Addr.add _ _).block ≠ _; rw [add_block]; exact hn236_1) | exact hn236_1) (.int .i64 ((rd_T35 l0_2 x4_3).f1))).trans hx236_1; replace hx236_2 := (cell_far (p := ⟨gb232, 1, none⟩) (by first | (rw [add_block]; exact hn236_1) | (show (Addr.add _ _).block ≠ _; rw [add_block]; exact hn236_1) | exact hn236_1) (.int .i64 ((rd_T35 l0_2 x4_3).f1))).trans hx236_2; replace hx236_0 := (cell_far (p := ⟨gb232, 2, none⟩) (by first | (rw [add_block]; exact hn236_2) | (show (Addr.add _ _).block ≠ _; rw [add_block]; exact hn236_2) | exact hn236_2) (.int .i64 ((rd_T35 l0_2 x4_3).f2))).trans hx236_0; replace hx236_1 := (cell_far (p := ⟨gb232, 2, none⟩) (by first | (rw [add_block]; exact hn236_2) | (show (Addr.add _ _).block ≠ _; rw [add_block]; exact hn236_2) | exact hn236_2) (.int .i64 ((rd_T35 l0_2 x4_3).f2))).trans hx236_1; replace hx236_2 := (cell_far (p := ⟨gb232, 2, none⟩) (by first | (rw [add_block]; exact hn236_2) | (show (Addr.add _ _).block ≠ _; rw [add_block]; exact hn236_2) | exact hn236_2) (.int .i64 ((rd_T35 l0_2 x4_3).f2))).trans hx236_2; (try have hy236_0 := fun (n_ : Nat) => (show (((((w39.drewN n_).setCell ⟨gb232, 0, none⟩ (.int .i64 ((rd_T35 l0_2 x4_3).f0))).setCell ⟨gb232, 1, none⟩ (.int .i64 ((rd_T35 l0_2 x4_3).f1))).setCell ⟨gb232, 2, none⟩ (.int .i64 ((rd_T35 l0_2 x4_3).f2)))).cell? _ = some _ from hx236_0)); (try have hy236_1 := fun (n_ : Nat) => (show (((((w39.drewN n_).setCell ⟨gb232, 0, none⟩ (.int .i64 ((rd_T35 l0_2 x4_3).f0))).setCell ⟨gb232, 1, none⟩ (.int .i64 ((rd_T35 l0_2 x4_3).f1))).setCell ⟨gb232, 2, none⟩ (.int .i64 ((rd_T35 l0_2 x4_3).f2)))).cell? _ = some _ from hx236_1)); (try have hy236_2 := fun (n_ : Nat) => (show (((((w39.drewN n_).setCell ⟨gb232, 0, none⟩ (.int .i64 ((rd_T35 l0_2 x4_3).f0))).setCell ⟨gb232, 1, none⟩ (.int .i64 ((rd_T35 l0_2 x4_3).f1))).setCell ⟨gb232, 2, none⟩ (.int .i64 ((rd_T35 l0_2 x4_3).f2)))).cell? _ = some _ from hx236_2)); clear hn236_0; clear hn236_1; clear hn236_2; replace p236 := eq_true p236; replace q236 := eq_true q236)))
                   go_ret
                   exact ⟨by first | rfl | (simp [errW_none, errW_some] <;> rfl) | (simp only [← hji34]; first | rfl | (simp [errW_none, errW_some] <;> rfl)) | (simp [*, errW_none, errW_some] <;> rfl), by repeat (first | (with_reducible first | exact HB.out | apply below_alloc | apply pw_below_drewN | apply below_drew1 | refine below_set ?_ GE224.out | refine below_set ?_ GE232.out) | exact HB.out)⟩
                  ·rw [if_neg c37] at H
                   have c37b0 : decide (((rd_T35 l0_2 x4_3).f2) < ((rd_T35 l0_2 (ji34)).f2)) = false := decide_eq_false c37
                   clear c37
                   have H' := a_ H
                   clear H
                   have hcz43_0 := cz_ BK224 0
                   have hcz43_1 := cz_ BK224 1
                   have hcz43_2 := cz_ BK224 2
                   have hfz43_0 := fz_ BK224 0
                   have hfz43_1 := fz_ BK224 1
                   have hfz43_2 := fz_ BK224 2
                   have p231 : 0 ≤ (x4_3 : Int) := od_
                   have q231 : x4_3 < (l0_2.length : Int) := od_
                   obtain ⟨ad231, e231, hx231_0, hx231_1, hx231_2⟩ := at_T35 HR0_2.out x4_3 p231 q231
                   cases e231
                   replace hx231_0 := pc_ hx231_0
                   replace hx231_1 := pc_ hx231_1
                   replace hx231_2 := pc_ hx231_2
                   replace p231 := eq_true p231
                   replace q231 := eq_true q231
                   go_wp2_with (first | ((with_reducible refine gate_dst (N := 5) rfl ?_); (try (refine gate_guard (by rfl) ?_; dsimp only)); refine box_event ?hg (N := 5) ?hd (cs := #[.int .i64 0, .int .i64 0, .int .i64 0]) (t := 35) ?hr ?_; (case hd => rfl); (case hg => rfl); (case hr => first | (go_simp; done) | (go_simp; rfl)); intro gb232 hg w44 hbox hb; have n0_ := a_ (blk_below (bk_ BK224.out) hb); have n1_ := a_ (below_step bel_ hb); have n2_ := a_ (hbox); have n3_ := a_ (bz_ hg : w.heap.size ≤ gb232); have n4_ := a_ (bz_ hg : w.heap.size ≤ gb232); have n5_ := a_ (nl_ hg (bk_ BK224.out)); have n6_ := a_ (ng_ hg (bk_ BK224.out)); clear BK224; clear HB; have BK224 := n0_; have HB := n1_; have BK232 := n2_; have GW232 := n3_; have GE232 := n4_; have NB224_232 := n5_; have NB232_224 := n6_; clear n0_ n1_ n2_ n3_ n4_ n5_ n6_; clear hb hbox hg; have hnb45 := NB232_224.out; have hnc45 := NB224_232.out; have hcz46_0 := cz_ BK232 0; have hcz46_1 := cz_ BK232 1; have hcz46_2 := cz_ BK232 2; have hfz46_0 := fz_ BK232 0; have hfz46_1 := fz_ BK232 1; have hfz46_2 := fz_ BK232 2; have hcz47_0 := cz_ BK224 0; have hcz47_1 := cz_ BK224 1; have hcz47_2 := cz_ BK224 2; have hfz47_0 := fz_ BK224 0; have hfz47_1 := fz_ BK224 1; have hfz47_2 := fz_ BK224 2) | (go_at_call 57; (with_reducible refine (skiarearef19_Has.calls k3 _ _ l0_0 ((rd_T35 l0_2 x4_3).f0) true _ ?side1 ?side2 A27.out).mono ?_); (case side1 => exact Kd.C_below HR0_0.out bel_); (case side2 => exact HC0_0.out); rintro e w' ⟨rfl, ⟨nd, rfl⟩⟩; (try first | exact ⟨rfl, _, World.drewN_drewN _ _ _⟩ | exact ⟨rfl, _, Eq.trans (World.drewN_drewN _ _ _) (congrArg (World.drewN _) (Nat.add_assoc _ _ _))⟩)) | (go_at_call 56; (with_reducible refine (skiarearef19_in.calls ((rd_T35 l0_2 x4_3).f1) 1 9999 true _ A29.out).mono ?_); rintro e w' ⟨rfl, ⟨nd, rfl⟩⟩; (try first | exact ⟨rfl, _, World.drewN_drewN _ _ _⟩ | exact ⟨rfl, _, Eq.trans (World.drewN_drewN _ _ _) (congrArg (World.drewN _) (Nat.add_assoc _ _ _))⟩)) | (go_at_call 56; (with_reducible refine (skiarearef19_in.calls ((rd_T35 l0_2 x4_3).f2) 0 20000000 true _ A31.out).mono ?_); rintro e w' ⟨rfl, ⟨nd, rfl⟩⟩; (try first | exact ⟨rfl, _, World.drewN_drewN _ _ _⟩ | exact ⟨rfl, _, Eq.trans (World.drewN_drewN _ _ _) (congrArg (World.drewN _) (Nat.add_assoc _ _ _))⟩); have p236 : 0 ≤ ((ji34) : Int) := od_; have q236 : (ji34) < (l0_2.length : Int) := od_; obtain ⟨ad236, e236, hx236_0, hx236_1, hx236_2⟩ := at_T35 HR0_2.out (ji34) p236 q236; obtain rfl : ad231 = ad236 := (by injection e236); have hn236_0 : ad231.block ≠ gb232 := Nat.ne_of_lt (Nat.lt_of_lt_of_le (by have := World.block_lt_of_cell? _ _ hx236_0; first | rwa [add_block] at this | exact this) GW232.out); have hn236_1 : ad231.block ≠ gb232 := Nat.ne_of_lt (Nat.lt_of_lt_of_le (by have := World.block_lt_of_cell? _ _ hx236_0; first | rwa [add_block] at this | exact this) GW232.out); have hn236_2 : ad231.block ≠ gb232 := Nat.ne_of_lt (Nat.lt_of_lt_of_le (by have := World.block_lt_of_cell? _ _ hx236_0; first | rwa [add_block] at this | exact this) GW232.out); replace hx236_0 := pc_ hx236_0; replace hx236_1 := pc_ hx236_1; replace hx236_2 := pc_ hx236_2; replace hx236_0 := (cell_far (p := ⟨gb232, 0, none⟩) (by first | (rw [add_block]; exact hn236_0) | (show (Addr.add _ _).block ≠ _; rw [add_block]; exact hn236_0) | exact hn236_0) (.int .i64 ((rd_T35 l0_2 x4_3).f0))).trans hx236_0; replace hx236_1 := (cell_far (p := ⟨gb232, 0, none⟩) (by first | (rw [add_block]; exact hn236_0) | (show (Addr.add _ _).block ≠ _; rw [add_block]; exact hn236_0) | exact hn236_0) (.int .i64 ((rd_T35 l0_2 x4_3).f0))).trans hx236_1; replace hx236_2 := (cell_far (p := ⟨gb232, 0, none⟩) (by first | (rw [add_block]; exact hn236_0) | (show (Addr.add _ _).block ≠ _; rw [add_block]; exact hn236_0) | exact hn236_0) (.int .i64 ((rd_T35 l0_2 x4_3).f0))).trans hx236_2; replace hx236_0 := (cell_far (p := ⟨gb232, 1, none⟩) (by first | (rw [add_block]; exact hn236_1) | (show (Addr.add _ _).block ≠ _; rw [add_block]; exact hn236_1) | exact hn236_1) (.int .i64 ((rd_T35 l0_2 x4_3).f1))).trans hx236_0; replace hx236_1 := (cell_far (p := ⟨gb232, 1, none⟩) (by first | (rw [add_block]; exact hn236_1) | (show (Addr.add _ _).block ≠ _; rw [add_block]; exact hn236_1) | exact hn236_1) (.int .i64 ((rd_T35 l0_2 x4_3).f1))).trans hx236_1; replace hx236_2 := (cell_far (p := ⟨gb232, 1, none⟩) (by first | (rw [add_block]; exact hn236_1) | (show (Addr.add _ _).block ≠ _; rw [add_block]; exact hn236_1) | exact hn236_1) (.int .i64 ((rd_T35 l0_2 x4_3).f1))).trans hx236_2; replace hx236_0 := (cell_far (p := ⟨gb232, 2, none⟩) (by first | (rw [add_block]; exact hn236_2) | (show (Addr.add _ _).block ≠ _; rw [add_block]; exact hn236_2) | exact hn236_2) (.int .i64 ((rd_T35 l0_2 x4_3).f2))).trans hx236_0; replace hx236_1 := (cell_far (p := ⟨gb232, 2, none⟩) (by first | (rw [add_block]; exact hn236_2) | (show (Addr.add _ _).block ≠ _; rw [add_block]; exact hn236_2) | exact hn236_2) (.int .i64 ((rd_T35 l0_2 x4_3).f2))).trans hx236_1; replace hx236_2 := (cell_far (p := ⟨gb232, 2, none⟩) (by first | (rw [add_block]; exact hn236_2) | (show (Addr.add _ _).block ≠ _; rw [add_block]; exact hn236_2) | exact hn236_2) (.int .i64 ((rd_T35 l0_2 x4_3).f2))).trans hx236_2; (try have hy236_0 := fun (n_ : Nat) => (show (((((w44.drewN n_).setCell ⟨gb232, 0, none⟩ (.int .i64 ((rd_T35 l0_2 x4_3).f0))).setCell ⟨gb232, 1, none⟩ (.int .i64 ((rd_T35 l0_2 x4_3).f1))).setCell ⟨gb232, 2, none⟩ (.int .i64 ((rd_T35 l0_2 x4_3).f2)))).cell? _ = some _ from hx236_0)); (try have hy236_1 := fun (n_ : Nat) => (show (((((w44.drewN n_).setCell ⟨gb232, 0, none⟩ (.int .i64 ((rd_T35 l0_2 x4_3).f0))).setCell ⟨gb232, 1, none⟩ (.int .i64 ((rd_T35 l0_2 x4_3).f1))).setCell ⟨gb232, 2, none⟩ (.int .i64 ((rd_T35 l0_2 x4_3).f2)))).cell? _ = some _ from hx236_1)); (try have hy236_2 := fun (n_ : Nat) => (show (((((w44.drewN n_).setCell ⟨gb232, 0, none⟩ (.int .i64 ((rd_T35 l0_2 x4_3).f0))).setCell ⟨gb232, 1, none⟩ (.int .i64 ((rd_T35 l0_2 x4_3).f1))).setCell ⟨gb232, 2, none⟩ (.int .i64 ((rd_T35 l0_2 x4_3).f2)))).cell? _ = some _ from hx236_2)); clear hn236_0; clear hn236_1; clear hn236_2; replace p236 := eq_true p236; replace q236 := eq_true q236))
                   repeat (go_quiet (fail); try go_wp2_with (first | ((with_reducible refine gate_dst (N := 5) rfl ?_); (try (refine gate_guard (by rfl) ?_; dsimp only)); refine box_event ?hg (N := 5) ?hd (cs := #[.int .i64 0, .int .i64 0, .int .i64 0]) (t := 35) ?hr ?_; (case hd => rfl); (case hg => rfl); (case hr => first | (go_simp; done) | (go_simp; rfl)); intro gb232 hg w44 hbox hb; have n0_ := a_ (blk_below (bk_ BK224.out) hb); have n1_ := a_ (below_step bel_ hb); have n2_ := a_ (hbox); have n3_ := a_ (bz_ hg : w.heap.size ≤ gb232); have n4_ := a_ (bz_ hg : w.heap.size ≤ gb232); have n5_ := a_ (nl_ hg (bk_ BK224.out)); have n6_ := a_ (ng_ hg (bk_ BK224.out)); clear BK224; clear HB; have BK224 := n0_; have HB := n1_; have BK232 := n2_; have GW232 := n3_; have GE232 := n4_; have NB224_232 := n5_; have NB232_224 := n6_; clear n0_ n1_ n2_ n3_ n4_ n5_ n6_; clear hb hbox hg; have hnb45 := NB232_224.out; have hnc45 := NB224_232.out; have hcz46_0 := cz_ BK232 0; have hcz46_1 := cz_ BK232 1; have hcz46_2 := cz_ BK232 2; have hfz46_0 := fz_ BK232 0; have hfz46_1 := fz_ BK232 1; have hfz46_2 := fz_ BK232 2; have hcz47_0 := cz_ BK224 0; have hcz47_1 := cz_ BK224 1; have hcz47_2 := cz_ BK224 2; have hfz47_0 := fz_ BK224 0; have hfz47_1 := fz_ BK224 1; have hfz47_2 := fz_ BK224 2) | (go_at_call 57; (with_reducible refine (skiarearef19_Has.calls k3 _ _ l0_0 ((rd_T35 l0_2 x4_3).f0) true _ ?side1 ?side2 A27.out).mono ?_); (case side1 => exact Kd.C_below HR0_0.out bel_); (case side2 => exact HC0_0.out); rintro e w' ⟨rfl, ⟨nd, rfl⟩⟩; (try first | exact ⟨rfl, _, World.drewN_drewN _ _ _⟩ | exact ⟨rfl, _, Eq.trans (World.drewN_drewN _ _ _) (congrArg (World.drewN _) (Nat.add_assoc _ _ _))⟩)) | (go_at_call 56; (with_reducible refine (skiarearef19_in.calls ((rd_T35 l0_2 x4_3).f1) 1 9999 true _ A29.out).mono ?_); rintro e w' ⟨rfl, ⟨nd, rfl⟩⟩; (try first | exact ⟨rfl, _, World.drewN_drewN _ _ _⟩ | exact ⟨rfl, _, Eq.trans (World.drewN_drewN _ _ _) (congrArg (World.drewN _) (Nat.add_assoc _ _ _))⟩)) | (go_at_call 56; (with_reducible refine (skiarearef19_in.calls ((rd_T35 l0_2 x4_3).f2) 0 20000000 true _ A31.out).mono ?_); rintro e w' ⟨rfl, ⟨nd, rfl⟩⟩; (try first | exact ⟨rfl, _, World.drewN_drewN _ _ _⟩ | exact ⟨rfl, _, Eq.trans (World.drewN_drewN _ _ _) (congrArg (World.drewN _) (Nat.add_assoc _ _ _))⟩); have p236 : 0 ≤ ((ji34) : Int) := od_; have q236 : (ji34) < (l0_2.length : Int) := od_; obtain ⟨ad236, e236, hx236_0, hx236_1, hx236_2⟩ := at_T35 HR0_2.out (ji34) p236 q236; obtain rfl : ad231 = ad236 := (by injection e236); have hn236_0 : ad231.block ≠ gb232 := Nat.ne_of_lt (Nat.lt_of_lt_of_le (by have := World.block_lt_of_cell? _ _ hx236_0; first | rwa [add_block] at this | exact this) GW232.out); have hn236_1 : ad231.block ≠ gb232 := Nat.ne_of_lt (Nat.lt_of_lt_of_le (by have := World.block_lt_of_cell? _ _ hx236_0; first | rwa [add_block] at this | exact this) GW232.out); have hn236_2 : ad231.block ≠ gb232 := Nat.ne_of_lt (Nat.lt_of_lt_of_le (by have := World.block_lt_of_cell? _ _ hx236_0; first | rwa [add_block] at this | exact this) GW232.out); replace hx236_0 := pc_ hx236_0; replace hx236_1 := pc_ hx236_1; replace hx236_2 := pc_ hx236_2; replace hx236_0 := (cell_far (p := ⟨gb232, 0, none⟩) (by first | (rw [add_block]; exact hn236_0) | (show (Addr.add _ _).block ≠ _; rw [add_block]; exact hn236_0) | exact hn236_0) (.int .i64 ((rd_T35 l0_2 x4_3).f0))).trans hx236_0; replace hx236_1 := (cell_far (p := ⟨gb232, 0, none⟩) (by first | (rw [add_block]; exact hn236_0) | (show (Addr.add _ _).block ≠ _; rw [add_block]; exact hn236_0) | exact hn236_0) (.int .i64 ((rd_T35 l0_2 x4_3).f0))).trans hx236_1; replace hx236_2 := (cell_far (p := ⟨gb232, 0, none⟩) (by first | (rw [add_block]; exact hn236_0) | (show (Addr.add _ _).block ≠ _; rw [add_block]; exact hn236_0) | exact hn236_0) (.int .i64 ((rd_T35 l0_2 x4_3).f0))).trans hx236_2; replace hx236_0 := (cell_far (p := ⟨gb232, 1, none⟩) (by first | (rw [add_block]; exact hn236_1) | (show (Addr.add _ _).block ≠ _; rw [add_block]; exact hn236_1) | exact hn236_1) (.int .i64 ((rd_T35 l0_2 x4_3).f1))).trans hx236_0; replace hx236_1 := (cell_far (p := ⟨gb232, 1, none⟩) (by first | (rw [add_block]; exact hn236_1) | (show (Addr.add _ _).block ≠ _; rw [add_block]; exact hn236_1) | exact hn236_1) (.int .i64 ((rd_T35 l0_2 x4_3).f1))).trans hx236_1; replace hx236_2 := (cell_far (p := ⟨gb232, 1, none⟩) (by first | (rw [add_block]; exact hn236_1) | (show (Addr.add _ _).block ≠ _; rw [add_block]; exact hn236_1) | exact hn236_1) (.int .i64 ((rd_T35 l0_2 x4_3).f1))).trans hx236_2; replace hx236_0 := (cell_far (p := ⟨gb232, 2, none⟩) (by first | (rw [add_block]; exact hn236_2) | (show (Addr.add _ _).block ≠ _; rw [add_block]; exact hn236_2) | exact hn236_2) (.int .i64 ((rd_T35 l0_2 x4_3).f2))).trans hx236_0; replace hx236_1 := (cell_far (p := ⟨gb232, 2, none⟩) (by first | (rw [add_block]; exact hn236_2) | (show (Addr.add _ _).block ≠ _; rw [add_block]; exact hn236_2) | exact hn236_2) (.int .i64 ((rd_T35 l0_2 x4_3).f2))).trans hx236_1; replace hx236_2 := (cell_far (p := ⟨gb232, 2, none⟩) (by first | (rw [add_block]; exact hn236_2) | (show (Addr.add _ _).block ≠ _; rw [add_block]; exact hn236_2) | exact hn236_2) (.int .i64 ((rd_T35 l0_2 x4_3).f2))).trans hx236_2; (try have hy236_0 := fun (n_ : Nat) => (show (((((w44.drewN n_).setCell ⟨gb232, 0, none⟩ (.int .i64 ((rd_T35 l0_2 x4_3).f0))).setCell ⟨gb232, 1, none⟩ (.int .i64 ((rd_T35 l0_2 x4_3).f1))).setCell ⟨gb232, 2, none⟩ (.int .i64 ((rd_T35 l0_2 x4_3).f2)))).cell? _ = some _ from hx236_0)); (try have hy236_1 := fun (n_ : Nat) => (show (((((w44.drewN n_).setCell ⟨gb232, 0, none⟩ (.int .i64 ((rd_T35 l0_2 x4_3).f0))).setCell ⟨gb232, 1, none⟩ (.int .i64 ((rd_T35 l0_2 x4_3).f1))).setCell ⟨gb232, 2, none⟩ (.int .i64 ((rd_T35 l0_2 x4_3).f2)))).cell? _ = some _ from hx236_1)); (try have hy236_2 := fun (n_ : Nat) => (show (((((w44.drewN n_).setCell ⟨gb232, 0, none⟩ (.int .i64 ((rd_T35 l0_2 x4_3).f0))).setCell ⟨gb232, 1, none⟩ (.int .i64 ((rd_T35 l0_2 x4_3).f1))).setCell ⟨gb232, 2, none⟩ (.int .i64 ((rd_T35 l0_2 x4_3).f2)))).cell? _ = some _ from hx236_2)); clear hn236_0; clear hn236_1; clear hn236_2; replace p236 := eq_true p236; replace q236 := eq_true q236)))
                   go_roundg k3
                   case measure => have := HJ1.out; have := HK2.out; have := HK3.out; omega
                   case rel => exact ⟨(wrap64 (x4_3 + 1)), (by first | rfl | (simp; done) | (simp [*]; done)), H', ⟨by have := HJ1.out; have := HK2.out; have := HK3.out; omega⟩, ⟨by refine blk_far ?_ NB224_232.out _; refine blk_far ?_ NB224_232.out _; refine blk_far ?_ NB224_232.out _; exact BK224.out⟩, ⟨by repeat (first | (with_reducible first | exact HB.out | apply below_alloc | apply pw_below_drewN | apply below_drew1 | refine below_set ?_ GE224.out | refine below_set ?_ GE232.out) | exact HB.out)⟩⟩
                 ·rw [if_neg c36] at H
                  exact absurd H (by simp)
                ·rw [if_neg c35] at H
                 exact absurd H (by simp)
               ·rw [if_neg c33] at H
                have c33b0 : decide (0 < x4_3) = false := decide_eq_false c33
                clear c33
                have H' := a_ H
                clear H
                have hcz48_0 := cz_ BK224 0
                have hcz48_1 := cz_ BK224 1
                have hcz48_2 := cz_ BK224 2
                have hfz48_0 := fz_ BK224 0
                have hfz48_1 := fz_ BK224 1
                have hfz48_2 := fz_ BK224 2
                have p231 : 0 ≤ (x4_3 : Int) := od_
                have q231 : x4_3 < (l0_2.length : Int) := od_
                obtain ⟨ad231, e231, hx231_0, hx231_1, hx231_2⟩ := at_T35 HR0_2.out x4_3 p231 q231
                cases e231
                replace hx231_0 := pc_ hx231_0
                replace hx231_1 := pc_ hx231_1
                replace hx231_2 := pc_ hx231_2
                replace p231 := eq_true p231
                replace q231 := eq_true q231
                go_wp2_with (first | ((with_reducible refine gate_dst (N := 5) rfl ?_); (try (refine gate_guard (by rfl) ?_; dsimp only)); refine box_event ?hg (N := 5) ?hd (cs := #[.int .i64 0, .int .i64 0, .int .i64 0]) (t := 35) ?hr ?_; (case hd => rfl); (case hg => rfl); (case hr => first | (go_simp; done) | (go_simp; rfl)); intro gb232 hg w49 hbox hb; have n0_ := a_ (blk_below (bk_ BK224.out) hb); have n1_ := a_ (below_step bel_ hb); have n2_ := a_ (hbox); have n3_ := a_ (bz_ hg : w.heap.size ≤ gb232); have n4_ := a_ (bz_ hg : w.heap.size ≤ gb232); have n5_ := a_ (nl_ hg (bk_ BK224.out)); have n6_ := a_ (ng_ hg (bk_ BK224.out)); clear BK224; clear HB; have BK224 := n0_; have HB := n1_; have BK232 := n2_; have GW232 := n3_; have GE232 := n4_; have NB224_232 := n5_; have NB232_224 := n6_; clear n0_ n1_ n2_ n3_ n4_ n5_ n6_; clear hb hbox hg; have hnb50 := NB232_224.out; have hnc50 := NB224_232.out; have hcz51_0 := cz_ BK232 0; have hcz51_1 := cz_ BK232 1; have hcz51_2 := cz_ BK232 2; have hfz51_0 := fz_ BK232 0; have hfz51_1 := fz_ BK232 1; have hfz51_2 := fz_ BK232 2; have hcz52_0 := cz_ BK224 0; have hcz52_1 := cz_ BK224 1; have hcz52_2 := cz_ BK224 2; have hfz52_0 := fz_ BK224 0; have hfz52_1 := fz_ BK224 1; have hfz52_2 := fz_ BK224 2) | (go_at_call 57; (with_reducible refine (skiarearef19_Has.calls k3 _ _ l0_0 ((rd_T35 l0_2 x4_3).f0) true _ ?side1 ?side2 A27.out).mono ?_); (case side1 => exact Kd.C_below HR0_0.out bel_); (case side2 => exact HC0_0.out); rintro e w' ⟨rfl, ⟨nd, rfl⟩⟩; (try first | exact ⟨rfl, _, World.drewN_drewN _ _ _⟩ | exact ⟨rfl, _, Eq.trans (World.drewN_drewN _ _ _) (congrArg (World.drewN _) (Nat.add_assoc _ _ _))⟩)) | (go_at_call 56; (with_reducible refine (skiarearef19_in.calls ((rd_T35 l0_2 x4_3).f1) 1 9999 true _ A29.out).mono ?_); rintro e w' ⟨rfl, ⟨nd, rfl⟩⟩; (try first | exact ⟨rfl, _, World.drewN_drewN _ _ _⟩ | exact ⟨rfl, _, Eq.trans (World.drewN_drewN _ _ _) (congrArg (World.drewN _) (Nat.add_assoc _ _ _))⟩)) | (go_at_call 56; (with_reducible refine (skiarearef19_in.calls ((rd_T35 l0_2 x4_3).f2) 0 20000000 true _ A31.out).mono ?_); rintro e w' ⟨rfl, ⟨nd, rfl⟩⟩; (try first | exact ⟨rfl, _, World.drewN_drewN _ _ _⟩ | exact ⟨rfl, _, Eq.trans (World.drewN_drewN _ _ _) (congrArg (World.drewN _) (Nat.add_assoc _ _ _))⟩)))
                repeat (go_quiet (fail); try go_wp2_with (first | ((with_reducible refine gate_dst (N := 5) rfl ?_); (try (refine gate_guard (by rfl) ?_; dsimp only)); refine box_event ?hg (N := 5) ?hd (cs := #[.int .i64 0, .int .i64 0, .int .i64 0]) (t := 35) ?hr ?_; (case hd => rfl); (case hg => rfl); (case hr => first | (go_simp; done) | (go_simp; rfl)); intro gb232 hg w49 hbox hb; have n0_ := a_ (blk_below (bk_ BK224.out) hb); have n1_ := a_ (below_step bel_ hb); have n2_ := a_ (hbox); have n3_ := a_ (bz_ hg : w.heap.size ≤ gb232); have n4_ := a_ (bz_ hg : w.heap.size ≤ gb232); have n5_ := a_ (nl_ hg (bk_ BK224.out)); have n6_ := a_ (ng_ hg (bk_ BK224.out)); clear BK224; clear HB; have BK224 := n0_; have HB := n1_; have BK232 := n2_; have GW232 := n3_; have GE232 := n4_; have NB224_232 := n5_; have NB232_224 := n6_; clear n0_ n1_ n2_ n3_ n4_ n5_ n6_; clear hb hbox hg; have hnb50 := NB232_224.out; have hnc50 := NB224_232.out; have hcz51_0 := cz_ BK232 0; have hcz51_1 := cz_ BK232 1; have hcz51_2 := cz_ BK232 2; have hfz51_0 := fz_ BK232 0; have hfz51_1 := fz_ BK232 1; have hfz51_2 := fz_ BK232 2; have hcz52_0 := cz_ BK224 0; have hcz52_1 := cz_ BK224 1; have hcz52_2 := cz_ BK224 2; have hfz52_0 := fz_ BK224 0; have hfz52_1 := fz_ BK224 1; have hfz52_2 := fz_ BK224 2) | (go_at_call 57; (with_reducible refine (skiarearef19_Has.calls k3 _ _ l0_0 ((rd_T35 l0_2 x4_3).f0) true _ ?side1 ?side2 A27.out).mono ?_); (case side1 => exact Kd.C_below HR0_0.out bel_); (case side2 => exact HC0_0.out); rintro e w' ⟨rfl, ⟨nd, rfl⟩⟩; (try first | exact ⟨rfl, _, World.drewN_drewN _ _ _⟩ | exact ⟨rfl, _, Eq.trans (World.drewN_drewN _ _ _) (congrArg (World.drewN _) (Nat.add_assoc _ _ _))⟩)) | (go_at_call 56; (with_reducible refine (skiarearef19_in.calls ((rd_T35 l0_2 x4_3).f1) 1 9999 true _ A29.out).mono ?_); rintro e w' ⟨rfl, ⟨nd, rfl⟩⟩; (try first | exact ⟨rfl, _, World.drewN_drewN _ _ _⟩ | exact ⟨rfl, _, Eq.trans (World.drewN_drewN _ _ _) (congrArg (World.drewN _) (Nat.add_assoc _ _ _))⟩)) | (go_at_call 56; (with_reducible refine (skiarearef19_in.calls ((rd_T35 l0_2 x4_3).f2) 0 20000000 true _ A31.out).mono ?_); rintro e w' ⟨rfl, ⟨nd, rfl⟩⟩; (try first | exact ⟨rfl, _, World.drewN_drewN _ _ _⟩ | exact ⟨rfl, _, Eq.trans (World.drewN_drewN _ _ _) (congrArg (World.drewN _) (Nat.add_assoc _ _ _))⟩))))
                go_roundg k3
                case measure => have := HJ1.out; have := HK2.out; have := HK3.out; omega
                case rel => exact ⟨(wrap64 (x4_3 + 1)), (by first | rfl | (simp; done) | (simp [*]; done)), H', ⟨by have := HJ1.out; have := HK2.out; have := HK3.out; omega⟩, ⟨by refine blk_far ?_ NB224_232.out _; refine blk_far ?_ NB224_232.out _; refine blk_far ?_ NB224_232.out _; exact BK224.out⟩, ⟨by repeat (first | (with_reducible first | exact HB.out | apply below_alloc | apply pw_below_drewN | apply below_drew1 | refine below_set ?_ GE224.out | refine below_set ?_ GE232.out) | exact HB.out)⟩⟩
              ·replace c32 := Bool.eq_false_iff.mpr c32
               subst c32
               have H1 : (some 2) = some r := by rw [if_neg (show ¬ (false = true) by decide)] at H; exact H
               clear H
               have H := H1
               clear H1
               obtain rfl := Option.some.inj H
               have hcz53_0 := cz_ BK224 0
               have hcz53_1 := cz_ BK224 1
               have hcz53_2 := cz_ BK224 2
               have hfz53_0 := fz_ BK224 0
               have hfz53_1 := fz_ BK224 1
               have hfz53_2 := fz_ BK224 2
               have p231 : 0 ≤ (x4_3 : Int) := od_
               have q231 : x4_3 < (l0_2.length : Int) := od_
               obtain ⟨ad231, e231, hx231_0, hx231_1, hx231_2⟩ := at_T35 HR0_2.out x4_3 p231 q231
               cases e231
               replace hx231_0 := pc_ hx231_0
               replace hx231_1 := pc_ hx231_1
               replace hx231_2 := pc_ hx231_2
               replace p231 := eq_true p231
               replace q231 := eq_true q231
               go_wp2_with (first | ((with_reducible refine gate_dst (N := 5) rfl ?_); (try (refine gate_guard (by rfl) ?_; dsimp only)); refine box_event ?hg (N := 5) ?hd (cs := #[.int .i64 0, .int .i64 0, .int .i64 0]) (t := 35) ?hr ?_; (case hd => rfl); (case hg => rfl); (case hr => first | (go_simp; done) | (go_simp; rfl)); intro gb232 hg w54 hbox hb; have n0_ := a_ (blk_below (bk_ BK224.out) hb); have n1_ := a_ (below_step bel_ hb); have n2_ := a_ (hbox); have n3_ := a_ (bz_ hg : w.heap.size ≤ gb232); have n4_ := a_ (bz_ hg : w.heap.size ≤ gb232); have n5_ := a_ (nl_ hg (bk_ BK224.out)); have n6_ := a_ (ng_ hg (bk_ BK224.out)); clear BK224; clear HB; have BK224 := n0_; have HB := n1_; have BK232 := n2_; have GW232 := n3_; have GE232 := n4_; have NB224_232 := n5_; have NB232_224 := n6_; clear n0_ n1_ n2_ n3_ n4_ n5_ n6_; clear hb hbox hg; have hnb55 := NB232_224.out; have hnc55 := NB224_232.out; have hcz56_0 := cz_ BK232 0; have hcz56_1 := cz_ BK232 1; have hcz56_2 := cz_ BK232 2; have hfz56_0 := fz_ BK232 0; have hfz56_1 := fz_ BK232 1; have hfz56_2 := fz_ BK232 2; have hcz57_0 := cz_ BK224 0; have hcz57_1 := cz_ BK224 1; have hcz57_2 := cz_ BK224 2; have hfz57_0 := fz_ BK224 0; have hfz57_1 := fz_ BK224 1; have hfz57_2 := fz_ BK224 2) | (go_at_call 57; (with_reducible refine (skiarearef19_Has.calls k3 _ _ l0_0 ((rd_T35 l0_2 x4_3).f0) true _ ?side1 ?side2 A27.out).mono ?_); (case side1 => exact Kd.C_below HR0_0.out bel_); (case side2 => exact HC0_0.out); rintro e w' ⟨rfl, ⟨nd, rfl⟩⟩; (try first | exact ⟨rfl, _, World.drewN_drewN _ _ _⟩ | exact ⟨rfl, _, Eq.trans (World.drewN_drewN _ _ _) (congrArg (World.drewN _) (Nat.add_assoc _ _ _))⟩)) | (go_at_call 56; (with_reducible refine (skiarearef19_in.calls ((rd_T35 l0_2 x4_3).f1) 1 9999 true _ A29.out).mono ?_); rintro e w' ⟨rfl, ⟨nd, rfl⟩⟩; (try first | exact ⟨rfl, _, World.drewN_drewN _ _ _⟩ | exact ⟨rfl, _, Eq.trans (World.drewN_drewN _ _ _) (congrArg (World.drewN _) (Nat.add_assoc _ _ _))⟩)) | (go_at_call 56; (with_reducible refine (skiarearef19_in.calls ((rd_T35 l0_2 x4_3).f2) 0 20000000 false _ A31.out).mono ?_); rintro e w' ⟨rfl, ⟨nd, rfl⟩⟩; (try first | exact ⟨rfl, _, World.drewN_drewN _ _ _⟩ | exact ⟨rfl, _, Eq.trans (World.drewN_drewN _ _ _) (congrArg (World.drewN _) (Nat.add_assoc _ _ _))⟩)))
               repeat (go_quiet (fail); try go_wp2_with (first | ((with_reducible refine gate_dst (N := 5) rfl ?_); (try (refine gate_guard (by rfl) ?_; dsimp only)); refine box_event ?hg (N := 5) ?hd (cs := #[.int .i64 0, .int .i64 0, .int .i64 0]) (t := 35) ?hr ?_; (case hd => rfl); (case hg => rfl); (case hr => first | (go_simp; done) | (go_simp; rfl)); intro gb232 hg w54 hbox hb; have n0_ := a_ (blk_below (bk_ BK224.out) hb); have n1_ := a_ (below_step bel_ hb); have n2_ := a_ (hbox); have n3_ := a_ (bz_ hg : w.heap.size ≤ gb232); have n4_ := a_ (bz_ hg : w.heap.size ≤ gb232); have n5_ := a_ (nl_ hg (bk_ BK224.out)); have n6_ := a_ (ng_ hg (bk_ BK224.out)); clear BK224; clear HB; have BK224 := n0_; have HB := n1_; have BK232 := n2_; have GW232 := n3_; have GE232 := n4_; have NB224_232 := n5_; have NB232_224 := n6_; clear n0_ n1_ n2_ n3_ n4_ n5_ n6_; clear hb hbox hg; have hnb55 := NB232_224.out; have hnc55 := NB224_232.out; have hcz56_0 := cz_ BK232 0; have hcz56_1 := cz_ BK232 1; have hcz56_2 := cz_ BK232 2; have hfz56_0 := fz_ BK232 0; have hfz56_1 := fz_ BK232 1; have hfz56_2 := fz_ BK232 2; have hcz57_0 := cz_ BK224 0; have hcz57_1 := cz_ BK224 1; have hcz57_2 := cz_ BK224 2; have hfz57_0 := fz_ BK224 0; have hfz57_1 := fz_ BK224 1; have hfz57_2 := fz_ BK224 2) | (go_at_call 57; (with_reducible refine (skiarearef19_Has.calls k3 _ _ l0_0 ((rd_T35 l0_2 x4_3).f0) true _ ?side1 ?side2 A27.out).mono ?_); (case side1 => exact Kd.C_below HR0_0.out bel_); (case side2 => exact HC0_0.out); rintro e w' ⟨rfl, ⟨nd, rfl⟩⟩; (try first | exact ⟨rfl, _, World.drewN_drewN _ _ _⟩ | exact ⟨rfl, _, Eq.trans (World.drewN_drewN _ _ _) (congrArg (World.drewN _) (Nat.add_assoc _ _ _))⟩)) | (go_at_call 56; (with_reducible refine (skiarearef19_in.calls ((rd_T35 l0_2 x4_3).f1) 1 9999 true _ A29.out).mono ?_); rintro e w' ⟨rfl, ⟨nd, rfl⟩⟩; (try first | exact ⟨rfl, _, World.drewN_drewN _ _ _⟩ | exact ⟨rfl, _, Eq.trans (World.drewN_drewN _ _ _) (congrArg (World.drewN _) (Nat.add_assoc _ _ _))⟩)) | (go_at_call 56; (with_reducible refine (skiarearef19_in.calls ((rd_T35 l0_2 x4_3).f2) 0 20000000 false _ A31.out).mono ?_); rintro e w' ⟨rfl, ⟨nd, rfl⟩⟩; (try first | exact ⟨rfl, _, World.drewN_drewN _ _ _⟩ | exact ⟨rfl, _, Eq.trans (World.drewN_drewN _ _ _) (congrArg (World.drewN _) (Nat.add_assoc _ _ _))⟩))))
               go_ret
               exact ⟨by first | rfl | (simp [errW_none, errW_some] <;> rfl) | (simp [*, errW_none, errW_some] <;> rfl), by repeat (first | (with_reducible first | exact HB.out | apply below_alloc | apply pw_below_drewN | apply below_drew1 | refine below_set ?_ GE224.out | refine below_set ?_ GE232.out) | exact HB.out)⟩
             ·replace c30 := Bool.eq_false_iff.mpr c30
              subst c30
              have H1 : (some 17) = some r := by rw [if_neg (show ¬ (false = true) by decide)] at H; exact H
              clear H
              have H := H1
              clear H1
              obtain rfl := Option.some.inj H
              have hcz58_0 := cz_ BK224 0
              have hcz58_1 := cz_ BK224 1
              have hcz58_2 := cz_ BK224 2
              have hfz58_0 := fz_ BK224 0
              have hfz58_1 := fz_ BK224 1
              have hfz58_2 := fz_ BK224 2
              have p231 : 0 ≤ (x4_3 : Int) := od_
              have q231 : x4_3 < (l0_2.length : Int) := od_
              obtain ⟨ad231, e231, hx231_0, hx231_1, hx231_2⟩ := at_T35 HR0_2.out x4_3 p231 q231
              cases e231
              replace hx231_0 := pc_ hx231_0
              replace hx231_1 := pc_ hx231_1
              replace hx231_2 := pc_ hx231_2
              replace p231 := eq_true p231
              replace q231 := eq_true q231
              go_wp2_with (first | ((with_reducible refine gate_dst (N := 5) rfl ?_); (try (refine gate_guard (by rfl) ?_; dsimp only)); refine box_event ?hg (N := 5) ?hd (cs := #[.int .i64 0, .int .i64 0, .int .i64 0]) (t := 35) ?hr ?_; (case hd => rfl); (case hg => rfl); (case hr => first | (go_simp; done) | (go_simp; rfl)); intro gb232 hg w59 hbox hb; have n0_ := a_ (blk_below (bk_ BK224.out) hb); have n1_ := a_ (below_step bel_ hb); have n2_ := a_ (hbox); have n3_ := a_ (bz_ hg : w.heap.size ≤ gb232); have n4_ := a_ (bz_ hg : w.heap.size ≤ gb232); have n5_ := a_ (nl_ hg (bk_ BK224.out)); have n6_ := a_ (ng_ hg (bk_ BK224.out)); clear BK224; clear HB; have BK224 := n0_; have HB := n1_; have BK232 := n2_; have GW232 := n3_; have GE232 := n4_; have NB224_232 := n5_; have NB232_224 := n6_; clear n0_ n1_ n2_ n3_ n4_ n5_ n6_; clear hb hbox hg; have hnb60 := NB232_224.out; have hnc60 := NB224_232.out; have hcz61_0 := cz_ BK232 0; have hcz61_1 := cz_ BK232 1; have hcz61_2 := cz_ BK232 2; have hfz61_0 := fz_ BK232 0; have hfz61_1 := fz_ BK232 1; have hfz61_2 := fz_ BK232 2; have hcz62_0 := cz_ BK224 0; have hcz62_1 := cz_ BK224 1; have hcz62_2 := cz_ BK224 2; have hfz62_0 := fz_ BK224 0; have hfz62_1 := fz_ BK224 1; have hfz62_2 := fz_ BK224 2) | (go_at_call 57; (with_reducible refine (skiarearef19_Has.calls k3 _ _ l0_0 ((rd_T35 l0_2 x4_3).f0) true _ ?side1 ?side2 A27.out).mono ?_); (case side1 => exact Kd.C_below HR0_0.out bel_); (case side2 => exact HC0_0.out); rintro e w' ⟨rfl, ⟨nd, rfl⟩⟩; (try first | exact ⟨rfl, _, World.drewN_drewN _ _ _⟩ | exact ⟨rfl, _, Eq.trans (World.drewN_drewN _ _ _) (congrArg (World.drewN _) (Nat.add_assoc _ _ _))⟩)) | (go_at_call 56; (with_reducible refine (skiarearef19_in.calls ((rd_T35 l0_2 x4_3).f1) 1 9999 false _ A29.out).mono ?_); rintro e w' ⟨rfl, ⟨nd, rfl⟩⟩; (try first | exact ⟨rfl, _, World.drewN_drewN _ _ _⟩ | exact ⟨rfl, _, Eq.trans (World.drewN_drewN _ _ _) (congrArg (World.drewN _) (Nat.add_assoc _ _ _))⟩)))
              repeat (go_quiet (fail); try go_wp2_with (first | ((with_reducible refine gate_dst (N := 5) rfl ?_); (try (refine gate_guard (by rfl) ?_; dsimp only)); refine box_event ?hg (N := 5) ?hd (cs := #[.int .i64 0, .int .i64 0, .int .i64 0]) (t := 35) ?hr ?_; (case hd => rfl); (case hg => rfl); (case hr => first | (go_simp; done) | (go_simp; rfl)); intro gb232 hg w59 hbox hb; have n0_ := a_ (blk_below (bk_ BK224.out) hb); have n1_ := a_ (below_step bel_ hb); have n2_ := a_ (hbox); have n3_ := a_ (bz_ hg : w.heap.size ≤ gb232); have n4_ := a_ (bz_ hg : w.heap.size ≤ gb232); have n5_ := a_ (nl_ hg (bk_ BK224.out)); have n6_ := a_ (ng_ hg (bk_ BK224.out)); clear BK224; clear HB; have BK224 := n0_; have HB := n1_; have BK232 := n2_; have GW232 := n3_; have GE232 := n4_; have NB224_232 := n5_; have NB232_224 := n6_; clear n0_ n1_ n2_ n3_ n4_ n5_ n6_; clear hb hbox hg; have hnb60 := NB232_224.out; have hnc60 := NB224_232.out; have hcz61_0 := cz_ BK232 0; have hcz61_1 := cz_ BK232 1; have hcz61_2 := cz_ BK232 2; have hfz61_0 := fz_ BK232 0; have hfz61_1 := fz_ BK232 1; have hfz61_2 := fz_ BK232 2; have hcz62_0 := cz_ BK224 0; have hcz62_1 := cz_ BK224 1; have hcz62_2 := cz_ BK224 2; have hfz62_0 := fz_ BK224 0; have hfz62_1 := fz_ BK224 1; have hfz62_2 := fz_ BK224 2) | (go_at_call 57; (with_reducible refine (skiarearef19_Has.calls k3 _ _ l0_0 ((rd_T35 l0_2 x4_3).f0) true _ ?side1 ?side2 A27.out).mono ?_); (case side1 => exact Kd.C_below HR0_0.out bel_); (case side2 => exact HC0_0.out); rintro e w' ⟨rfl, ⟨nd, rfl⟩⟩; (try first | exact ⟨rfl, _, World.drewN_drewN _ _ _⟩ | exact ⟨rfl, _, Eq.trans (World.drewN_drewN _ _ _) (congrArg (World.drewN _) (Nat.add_assoc _ _ _))⟩)) | (go_at_call 56; (with_reducible refine (skiarearef19_in.calls ((rd_T35 l0_2 x4_3).f1) 1 9999 false _ A29.out).mono ?_); rintro e w' ⟨rfl, ⟨nd, rfl⟩⟩; (try first | exact ⟨rfl, _, World.drewN_drewN _ _ _⟩ | exact ⟨rfl, _, Eq.trans (World.drewN_drewN _ _ _) (congrArg (World.drewN _) (Nat.add_assoc _ _ _))⟩))))
              go_ret
              exact ⟨by first | rfl | (simp [errW_none, errW_some] <;> rfl) | (simp [*, errW_none, errW_some] <;> rfl), by repeat (first | (with_reducible first | exact HB.out | apply below_alloc | apply pw_below_drewN | apply below_drew1 | refine below_set ?_ GE224.out | refine below_set ?_ GE232.out) | exact HB.out)⟩
            ·replace c28 := Bool.eq_false_iff.mpr c28
             subst c28
             have H1 : (some 8) = some r := by rw [if_neg (show ¬ (false = true) by decide)] at H; exact H
             clear H
             have H := H1
             clear H1
             obtain rfl := Option.some.inj H
             have hcz63_0 := cz_ BK224 0
             have hcz63_1 := cz_ BK224 1
             have hcz63_2 := cz_ BK224 2
             have hfz63_0 := fz_ BK224 0
             have hfz63_1 := fz_ BK224 1
             have hfz63_2 := fz_ BK224 2
             have p231 : 0 ≤ (x4_3 : Int) := od_
             have q231 : x4_3 < (l0_2.length : Int) := od_
             obtain ⟨ad231, e231, hx231_0, hx231_1, hx231_2⟩ := at_T35 HR0_2.out x4_3 p231 q231
             cases e231
             replace hx231_0 := pc_ hx231_0
             replace hx231_1 := pc_ hx231_1
             replace hx231_2 := pc_ hx231_2
             replace p231 := eq_true p231
             replace q231 := eq_true q231
             go_wp2_with (first | ((with_reducible refine gate_dst (N := 5) rfl ?_); (try (refine gate_guard (by rfl) ?_; dsimp only)); refine box_event ?hg (N := 5) ?hd (cs := #[.int .i64 0, .int .i64 0, .int .i64 0]) (t := 35) ?hr ?_; (case hd => rfl); (case hg => rfl); (case hr => first | (go_simp; done) | (go_simp; rfl)); intro gb232 hg w64 hbox hb; have n0_ := a_ (blk_below (bk_ BK224.out) hb); have n1_ := a_ (below_step bel_ hb); have n2_ := a_ (hbox); have n3_ := a_ (bz_ hg : w.heap.size ≤ gb232); have n4_ := a_ (bz_ hg : w.heap.size ≤ gb232); have n5_ := a_ (nl_ hg (bk_ BK224.out)); have n6_ := a_ (ng_ hg (bk_ BK224.out)); clear BK224; clear HB; have BK224 := n0_; have HB := n1_; have BK232 := n2_; have GW232 := n3_; have GE232 := n4_; have NB224_232 := n5_; have NB232_224 := n6_; clear n0_ n1_ n2_ n3_ n4_ n5_ n6_; clear hb hbox hg; have hnb65 := NB232_224.out; have hnc65 := NB224_232.out; have hcz66_0 := cz_ BK232 0; have hcz66_1 := cz_ BK232 1; have hcz66_2 := cz_ BK232 2; have hfz66_0 := fz_ BK232 0; have hfz66_1 := fz_ BK232 1; have hfz66_2 := fz_ BK232 2; have hcz67_0 := cz_ BK224 0; have hcz67_1 := cz_ BK224 1; have hcz67_2 := cz_ BK224 2; have hfz67_0 := fz_ BK224 0; have hfz67_1 := fz_ BK224 1; have hfz67_2 := fz_ BK224 2) | (go_at_call 57; (with_reducible refine (skiarearef19_Has.calls k3 _ _ l0_0 ((rd_T35 l0_2 x4_3).f0) false _ ?side1 ?side2 A27.out).mono ?_); (case side1 => exact Kd.C_below HR0_0.out bel_); (case side2 => exact HC0_0.out); rintro e w' ⟨rfl, ⟨nd, rfl⟩⟩; (try first | exact ⟨rfl, _, World.drewN_drewN _ _ _⟩ | exact ⟨rfl, _, Eq.trans (World.drewN_drewN _ _ _) (congrArg (World.drewN _) (Nat.add_assoc _ _ _))⟩)))
             repeat (go_quiet (fail); try go_wp2_with (first | ((with_reducible refine gate_dst (N := 5) rfl ?_); (try (refine gate_guard (by rfl) ?_; dsimp only)); refine box_event ?hg (N := 5) ?hd (cs := #[.int .i64 0, .int .i64 0, .int .i64 0]) (t := 35) ?hr ?_; (case hd => rfl); (case hg => rfl); (case hr => first | (go_simp; done) | (go_simp; rfl)); intro gb232 hg w64 hbox hb; have n0_ := a_ (blk_below (bk_ BK224.out) hb); have n1_ := a_ (below_step bel_ hb); have n2_ := a_ (hbox); have n3_ := a_ (bz_ hg : w.heap.size ≤ gb232); have n4_ := a_ (bz_ hg : w.heap.size ≤ gb232); have n5_ := a_ (nl_ hg (bk_ BK224.out)); have n6_ := a_ (ng_ hg (bk_ BK224.out)); clear BK224; clear HB; have BK224 := n0_; have HB := n1_; have BK232 := n2_; have GW232 := n3_; have GE232 := n4_; have NB224_232 := n5_; have NB232_224 := n6_; clear n0_ n1_ n2_ n3_ n4_ n5_ n6_; clear hb hbox hg; have hnb65 := NB232_224.out; have hnc65 := NB224_232.out; have hcz66_0 := cz_ BK232 0; have hcz66_1 := cz_ BK232 1; have hcz66_2 := cz_ BK232 2; have hfz66_0 := fz_ BK232 0; have hfz66_1 := fz_ BK232 1; have hfz66_2 := fz_ BK232 2; have hcz67_0 := cz_ BK224 0; have hcz67_1 := cz_ BK224 1; have hcz67_2 := cz_ BK224 2; have hfz67_0 := fz_ BK224 0; have hfz67_1 := fz_ BK224 1; have hfz67_2 := fz_ BK224 2) | (go_at_call 57; (with_reducible refine (skiarearef19_Has.calls k3 _ _ l0_0 ((rd_T35 l0_2 x4_3).f0) false _ ?side1 ?side2 A27.out).mono ?_); (case side1 => exact Kd.C_below HR0_0.out bel_); (case side2 => exact HC0_0.out); rintro e w' ⟨rfl, ⟨nd, rfl⟩⟩; (try first | exact ⟨rfl, _, World.drewN_drewN _ _ _⟩ | exact ⟨rfl, _, Eq.trans (World.drewN_drewN _ _ _) (congrArg (World.drewN _) (Nat.add_assoc _ _ _))⟩))))
             go_ret
             exact ⟨by first | rfl | (simp [errW_none, errW_some] <;> rfl) | (simp [*, errW_none, errW_some] <;> rfl), by repeat (first | (with_reducible first | exact HB.out | apply below_alloc | apply pw_below_drewN | apply below_drew1 | refine below_set ?_ GE224.out | refine below_set ?_ GE232.out) | exact HB.out)⟩
           ·rw [if_neg c26] at H
            exact absurd H (by simp)
          ·rw [if_neg c25] at H
           have c25b0 : decide (x4_3 < (l0_2.length : Int)) = false := decide_eq_false c25
           clear c25
           obtain rfl := Option.some.inj H
           have hcz68_0 := cz_ BK224 0
           have hcz68_1 := cz_ BK224 1
           have hcz68_2 := cz_ BK224 2
           have hfz68_0 := fz_ BK224 0
           have hfz68_1 := fz_ BK224 1
           have hfz68_2 := fz_ BK224 2
           go_wp2
           repeat (go_quiet (fail); try go_wp2)
           go_ret
           exact ⟨by first | rfl | (simp [errW_none, errW_some] <;> rfl) | (simp [*, errW_none, errW_some] <;> rfl), by repeat (first | (with_reducible first | exact HB.out | apply below_alloc | apply pw_below_drewN | apply below_drew1 | refine below_set ?_ GE224.out) | exact HB.out)⟩
    ·replace c9 := Bool.eq_false_iff.mpr c9
     subst c9
     have H1 : (some 2) = some r := by rw [if_neg (show ¬ (false = true) by decide)] at H; exact H
     clear H
     have H := H1
     clear H1
     obtain rfl := Option.some.inj H
     have hcz69_0 := cz_ BK224 0
     have hcz69_1 := cz_ BK224 1
     have hcz69_2 := cz_ BK224 2
     have hfz69_0 := fz_ BK224 0
     have hfz69_1 := fz_ BK224 1
     have hfz69_2 := fz_ BK224 2
     go_wp2_with (first | (go_at_call 56; (with_reducible refine (skiarearef19_in.calls a0_1 1 604800 false _ A8.out).mono ?_); rintro e w' ⟨rfl, ⟨nd, rfl⟩⟩; (try first | exact ⟨rfl, _, World.drewN_drewN _ _ _⟩ | exact ⟨rfl, _, Eq.trans (World.drewN_drewN _ _ _) (congrArg (World.drewN _) (Nat.add_assoc _ _ _))⟩)))
     repeat (go_quiet (fail); try go_wp2_with (first | (go_at_call 56; (with_reducible refine (skiarearef19_in.calls a0_1 1 604800 false _ A8.out).mono ?_); rintro e w' ⟨rfl, ⟨nd, rfl⟩⟩; (try first | exact ⟨rfl, _, World.drewN_drewN _ _ _⟩ | exact ⟨rfl, _, Eq.trans (World.drewN_drewN _ _ _) (congrArg (World.drewN _) (Nat.add_assoc _ _ _))⟩))))
     go_ret
     exact ⟨by first | rfl | (simp [errW_none, errW_some] <;> rfl) | (simp [*, errW_none, errW_some] <;> rfl), by repeat (first | (with_reducible first | exact HB.out | apply below_alloc | apply pw_below_drewN | apply below_drew1 | refine below_set ?_ GE224.out) | exact HB.out)⟩
end Go.Proofs.Ytmhggplhfcmgkaa.Q
