/- Plain laws and readings for the seat's proofs (this session's). -/
import Derived.RangeFuncNested
import Derived.Shelf.Abstract
import Derived.Deep.Slices
import Derived.ProofKit
import Derived.OpenShut
import Derived.ChangeOld
import Derived.Lib.SmallJoins
import Derived.WalkSpells
import Derived.Test.YtgfiidgigenibaaW1
import Derived.Test.YtgfiidgigenibaaF2
import Derived.Test.YtgfiidgigenibaaQ43
namespace Go.Proofs.Ytgfiidgigenibaa.Q
open Go.RowKit Go.Proofs.YtgfiidgigenibaaW.PrintWords Go.Proofs.YtgfiidgigenibaaW.PrintLast Go.Proofs.YtgfiidgigenibaaW.PrintMore
set_option linter.unusedVariables false
set_option linter.unusedSimpArgs false
/-! ### the nodes from which a base can be reached -/
def downL (e : List Int) (c : List S44) : List S67 := (c.filter fun r => decide (r.f0 ∈ e)).map fun r => ⟨r.f0, r.f2, r.f3, r.f6⟩
def turnL (l : List S67) : List S67 := l.map fun x => ⟨x.f0, x.f2, x.f1, x.f3⟩
theorem down_ev (a : List S62) (b : List S82) (c : List S44) (d e : List Int) (hc : c.length ≤ 1000) (he : e.length ≤ big) : Ev (fun k => skiarearef11_down.f k a b c d e) (downL e c) := by
  have := up_loop c.length (fun i => ∀ acc : List S67, acc.length ≤ i → Ev (fun k => skiarearef11_down.l0 k e acc i a b c d) (acc ++ downL e (c.drop i.toNat))) ?_ (fun i h0 h1 ih => ?_)
  · exact this [] (by simp)
  · intro acc _
    rw [drop_nil c _ rfl, show downL e [] = [] from rfl, List.append_nil]
    exact Ev.step (f := fun _ => some acc) (fun k => by rw [skiarearef11_down.l0, if_neg (by omega)]) (Ev.now _)
  · intro acc hacc
    have hd := drop_at c z44 i h0 h1
    change c.drop i.toNat = rd_T44 c i :: c.drop (i + 1).toNat at hd
    rw [hd]
    generalize hr : rd_T44 c i = r
    refine Ev.step (fun k => by rw [skiarearef11_down.l0, if_pos h1, if_pos h0, wrap_inc h0 h1 (by omega), hr]) (Ev.bind (has5_ev e he r.f0) ?_)
    by_cases m : r.f0 ∈ e
    · refine Ev.pos (decide_eq_true m) (Ev.pos (by omega) ?_)
      have := ih (acc ++ [⟨r.f0, r.f2, r.f3, r.f6⟩]) (by rw [List.length_append, List.length_singleton]; omega)
      rwa [List.append_assoc, show [(⟨r.f0, r.f2, r.f3, r.f6⟩ : S67)] ++ downL e (c.drop (i + 1).toNat) = downL e (r :: c.drop (i + 1).toNat) by simp [downL, m]] at this
    · refine Ev.neg (by simp [m]) ?_
      have := ih acc (by omega)
      rwa [show downL e (c.drop (i + 1).toNat) = downL e (r :: c.drop (i + 1).toNat) by simp [downL, m]] at this
theorem turned_ev (l : List S67) (hl : l.length ≤ 1000) : Ev (fun k => skiarearef05_turned.f k l) (turnL l) := by
  have := up_loop l.length (fun i => ∀ acc : List S67, acc.length ≤ i → Ev (fun k => skiarearef05_turned.l0 k l acc i) (acc ++ turnL (l.drop i.toNat))) ?_ (fun i h0 h1 ih => ?_)
  · exact this [] (by simp)
  · intro acc _
    rw [drop_nil l _ rfl, show turnL [] = [] from rfl, List.append_nil]
    exact Ev.step (f := fun _ => some acc) (fun k => by rw [skiarearef05_turned.l0, if_neg (by omega)]) (Ev.now _)
  · intro acc hacc
    have hd := drop_at l z67 i h0 h1
    change l.drop i.toNat = rd_T67 l i :: l.drop (i + 1).toNat at hd
    rw [hd]
    generalize hr : rd_T67 l i = r
    refine Ev.step (fun k => by rw [skiarearef05_turned.l0, if_pos h1, if_pos h0, wrap_inc h0 h1 (by omega), hr]) ?_
    refine Ev.pos (by omega) ?_
    have := ih (acc ++ [⟨r.f0, r.f2, r.f1, r.f3⟩]) (by rw [List.length_append, List.length_singleton]; omega)
    rwa [List.append_assoc] at this
def putL (n : Int) : List Int → List Int
  | [] => [n]
  | x :: l => if x ≥ n then (if x > n then n :: x :: l else x :: l) else x :: putL n l
theorem put_ev (l : List Int) (n : Int) (hl : l.length ≤ 1000000) : Ev (fun k => skiarearef05_put.f k l n) (putL n l) := by
  have := up_loop l.length (fun i => (∀ acc : List Int, acc.length ≤ i → Ev (fun k => skiarearef05_put.l0 k l n acc false i) (acc ++ putL n (l.drop i.toNat))) ∧ (∀ acc : List Int, acc.length ≤ i + 1 → Ev (fun k => skiarearef05_put.l0 k l n acc true i) (acc ++ l.drop i.toNat))) ?_ (fun i h0 h1 ih => ?_)
  · exact this.1 [] (by simp)
  · rw [drop_nil l _ rfl]
    refine ⟨fun acc ha => Ev.step (f := fun _ => some (acc ++ [n])) (fun k => by rw [skiarearef05_put.l0, if_neg (by omega), if_neg (by simp), if_pos (by omega)]) (Ev.now _), fun acc ha => ?_⟩
    rw [List.append_nil]
    exact Ev.step (f := fun _ => some acc) (fun k => by rw [skiarearef05_put.l0, if_neg (by omega), if_pos rfl]) (Ev.now _)
  · have hd := drop_at l 0 i h0 h1
    change l.drop i.toNat = rd l i :: l.drop (i + 1).toNat at hd
    rw [hd]
    generalize hr : rd l i = r
    refine ⟨fun acc ha => ?_, fun acc ha => ?_⟩
    · refine Ev.step (fun k => by rw [skiarearef05_put.l0, if_pos h1, if_neg (by simp), if_pos h0, hr]) ?_
      by_cases c : r ≥ n
      · rw [decide_eq_true c, putL, if_pos c]
        refine Ev.step (fun k => by rw [skiarearef05_put.j1, if_pos rfl, if_pos h0, if_pos h1, hr, wrap_inc h0 h1 (by omega)]) ?_
        by_cases c2 : r > n
        · rw [if_pos c2]
          refine Ev.pos c2 (Ev.pos (by omega) ?_)
          refine Ev.congr (fun k => by rw [Option.bind_some]) ?_
          refine Ev.pos (by rw [List.length_append, List.length_singleton]; omega) ?_
          have := ih.2 (acc ++ [n] ++ [r]) (by simp; omega)
          rwa [show ∀ X : List Int, acc ++ [n] ++ [r] ++ X = acc ++ n :: r :: X by simp] at this
        · rw [if_neg c2]
          refine Ev.neg c2 (Ev.pos (by omega) ?_)
          have := ih.2 (acc ++ [r]) (by simp; omega)
          rwa [List.append_assoc] at this
      · rw [decide_eq_false c, putL, if_neg c]
        refine Ev.step (fun k => by rw [skiarearef05_put.j1, if_neg (by simp), if_pos h0, if_pos h1, if_pos (by omega), hr, wrap_inc h0 h1 (by omega)]) ?_
        have := ih.1 (acc ++ [r]) (by simp; omega)
        rwa [List.append_assoc] at this
    · refine Ev.step (fun k => by rw [skiarearef05_put.l0, if_pos h1, if_pos rfl]) ?_
      refine Ev.step (fun k => by rw [skiarearef05_put.j1, if_neg (by simp), if_pos h0, if_pos h1, if_pos (by omega), hr, wrap_inc h0 h1 (by omega)]) ?_
      have := ih.2 (acc ++ [r]) (by simp; omega)
      rwa [List.append_assoc] at this
theorem putL_mem (n x : Int) : ∀ l : List Int, x ∈ putL n l ↔ x = n ∨ x ∈ l
  | [] => by simp [putL]
  | y :: l => by
    rw [putL]
    by_cases c : y ≥ n
    · rw [if_pos c]
      by_cases c2 : y > n
      · rw [if_pos c2, List.mem_cons]
      · rw [if_neg c2, show y = n by omega]; simp
    · rw [if_neg c, List.mem_cons, putL_mem n x l, List.mem_cons]; exact or_left_comm
theorem putL_inc (n : Int) : ∀ l : List Int, l.Pairwise (· < ·) → (putL n l).Pairwise (· < ·)
  | [], _ => by simp [putL]
  | y :: l, h => by
    rw [putL]
    rw [List.pairwise_cons] at h
    by_cases c : y ≥ n
    · rw [if_pos c]
      by_cases c2 : y > n
      · rw [if_pos c2, List.pairwise_cons]
        refine ⟨fun z hz => ?_, List.pairwise_cons.2 h⟩
        rcases List.mem_cons.1 hz with rfl | hz
        · exact c2
        · have := h.1 z hz; omega
      · rw [if_neg c2]; exact List.pairwise_cons.2 h
    · rw [if_neg c, List.pairwise_cons]
      refine ⟨fun z hz => ?_, putL_inc n l h.2⟩
      rcases (putL_mem n z l).1 hz with rfl | hz
      · omega
      · exact h.1 z hz
theorem putL_len (n : Int) : ∀ l : List Int, l.length ≤ (putL n l).length ∧ (putL n l).length ≤ l.length + 1 ∧ ((putL n l).length = l.length → putL n l = l)
  | [] => by simp [putL]
  | y :: l => by
    have ih := putL_len n l
    rw [putL]
    by_cases c : y ≥ n
    · rw [if_pos c]
      by_cases c2 : y > n
      · rw [if_pos c2]; simp
      · rw [if_neg c2]; simp
    · rw [if_neg c]
      simp only [List.length_cons]
      exact ⟨by omega, by omega, fun h => by rw [ih.2.2 (by omega)]⟩
def putsL : List Int → List Int → List Int
  | [], out => out
  | n :: l, out => putsL l (putL n out)
def passL : List S67 → List Int → List Int
  | [], out => out
  | x :: l, out => passL l (if x.f1 ∈ out then putL x.f2 out else out)
theorem putsL_spec : ∀ (l out : List Int), out.Pairwise (· < ·) → (putsL l out).Pairwise (· < ·) ∧ (∀ x, x ∈ putsL l out ↔ x ∈ l ∨ x ∈ out) ∧ (putsL l out).length ≤ out.length + l.length
  | [], out, h => ⟨h, fun x => by simp [putsL], by simp [putsL]⟩
  | n :: l, out, h => by
    obtain ⟨h1, h2, h3⟩ := putsL_spec l (putL n out) (putL_inc n out h)
    have := putL_len n out
    refine ⟨h1, fun x => ?_, ?_⟩
    · rw [putsL, h2 x, putL_mem, List.mem_cons]
      rw [or_assoc]; exact or_left_comm
    · rw [putsL, List.length_cons]; omega
theorem passL_spec : ∀ (l : List S67) (out : List Int), out.Pairwise (· < ·) → (passL l out).Pairwise (· < ·) ∧ out.length ≤ (passL l out).length ∧ ((passL l out).length = out.length → passL l out = out ∧ ∀ x ∈ l, x.f1 ∈ out → x.f2 ∈ out)
    ∧ (passL l out).length ≤ out.length + l.length ∧ (∀ x ∈ out, x ∈ passL l out) ∧ ∀ R : Int → Prop, (∀ x ∈ out, R x) → (∀ x ∈ l, R x.f1 → R x.f2) → ∀ x ∈ passL l out, R x
  | [], out, h => ⟨h, Nat.le_refl _, fun _ => ⟨rfl, by simp⟩, by simp [passL], fun x hx => hx, fun R h1 _ => h1⟩
  | e :: l, out, h => by
    by_cases c : e.f1 ∈ out
    · rw [passL, if_pos c]
      obtain ⟨h1, h2, h3, h4, h5, h6⟩ := passL_spec l (putL e.f2 out) (putL_inc _ _ h)
      obtain ⟨p1, p2, p3⟩ := putL_len e.f2 out
      refine ⟨h1, by omega, fun he => ?_, by rw [List.length_cons]; omega, fun x hx => h5 x ((putL_mem _ _ _).2 (Or.inr hx)), fun R hR hs => h6 R (fun x hx => ?_) (fun x hx => hs x (List.mem_cons_of_mem _ hx))⟩
      · obtain ⟨q1, q2⟩ := h3 (by omega)
        have pe := p3 (by omega)
        rw [pe] at q1 q2
        refine ⟨by rw [pe]; exact q1, fun x hx hf => ?_⟩
        rcases List.mem_cons.1 hx with rfl | hx
        · rw [← pe]; exact (putL_mem _ _ _).2 (Or.inl rfl)
        · exact q2 x hx hf
      · rcases (putL_mem _ _ _).1 hx with rfl | hx
        · exact hs e (List.mem_cons_self ..) (hR _ c)
        · exact hR x hx
    · rw [passL, if_neg c]
      obtain ⟨h1, h2, h3, h4, h5, h6⟩ := passL_spec l out h
      refine ⟨h1, h2, fun he => ⟨(h3 he).1, fun x hx hf => ?_⟩, by rw [List.length_cons]; omega, h5, fun R hR hs => h6 R hR (fun x hx => hs x (List.mem_cons_of_mem _ hx))⟩
      rcases List.mem_cons.1 hx with rfl | hx
      · exact absurd hf c
      · exact (h3 he).2 x hx hf
theorem inc_nodup {l : List Int} (h : l.Pairwise (· < ·)) : l.Nodup := h.imp (fun h => by omega)
/-- WHAT REACH RETURNS: the nodes of `f`, what follows over the edges, and nothing else. -/
theorem reach5_ev (l : List S67) (f : List Int) (hl : l.length ≤ 1000) (hf : f.length ≤ 1000) : ∃ r : List Int, Ev (fun k => skiarearef05_Reach.f k l f) r ∧ r.length ≤ 2000 ∧ (∀ x ∈ f, x ∈ r) ∧ (∀ x ∈ l, x.f1 ∈ r → x.f2 ∈ r) ∧ ∀ R : Int → Prop, (∀ x ∈ f, R x) → (∀ x ∈ l, R x.f1 → R x.f2) → ∀ x ∈ r, R x := by
  let N : List Int := f ++ l.map (·.f2)
  have hN : N.length = f.length + l.length := by simp [N]
  have len : ∀ out : List Int, out.Pairwise (· < ·) → (∀ x ∈ out, x ∈ N) → out.length ≤ 2000 := fun out h1 h2 => by
    have := nodup_sub out N (inc_nodup h1) h2; omega
  have pass : ∀ (out : List Int) (was : Int) (r : List Int), out.length + l.length ≤ 1000000 → Ev (fun k => skiarearef05_Reach.l1 k l (passL l out) was) r → Ev (fun k => skiarearef05_Reach.l2 k l out was 0) r := by
    intro out was r ho hr
    have := up_loop l.length (fun i => ∀ out : List Int, out.length ≤ 1000000 - l.length + i → Ev (fun k => skiarearef05_Reach.l1 k l (passL (l.drop i.toNat) out) was) r → Ev (fun k => skiarearef05_Reach.l2 k l out was i) r) ?_ (fun i h0 h1 ih => ?_)
    · exact this out (by omega) hr
    · intro out _ h
      rw [drop_nil l _ rfl, passL] at h
      exact Ev.step (fun k => by rw [skiarearef05_Reach.l2, if_neg (by omega)]) h
    · intro out ho h
      have hd := drop_at l z67 i h0 h1
      change l.drop i.toNat = rd_T67 l i :: l.drop (i + 1).toNat at hd
      rw [hd, passL] at h
      refine Ev.step (fun k => by rw [skiarearef05_Reach.l2, if_pos h1, if_pos h0, wrap_inc h0 h1 (by omega)]) (Ev.bind (has5_ev out (by simp only [big]; omega) _) ?_)
      by_cases c : (rd_T67 l i).f1 ∈ out
      · rw [if_pos c] at h
        have := putL_len (rd_T67 l i).f2 out
        refine Ev.pos (decide_eq_true c) (Ev.bind (put_ev out _ (by omega)) (ih _ (by omega) h))
      · rw [if_neg c] at h
        exact Ev.neg (by simp [c]) (ih _ (by omega) h)
  have rounds : ∀ (d : Nat) (out : List Int) (was : Int), was < out.length → out.Pairwise (· < ·) → (∀ x ∈ out, x ∈ N) → N.length < out.length + d → (∀ x ∈ f, x ∈ out) → (∀ R : Int → Prop, (∀ x ∈ f, R x) → (∀ x ∈ l, R x.f1 → R x.f2) → ∀ x ∈ out, R x) →
      ∃ r : List Int, Ev (fun k => skiarearef05_Reach.l1 k l out was) r ∧ r.length ≤ 2000 ∧ (∀ x ∈ f, x ∈ r) ∧ (∀ x ∈ l, x.f1 ∈ r → x.f2 ∈ r) ∧ ∀ R : Int → Prop, (∀ x ∈ f, R x) → (∀ x ∈ l, R x.f1 → R x.f2) → ∀ x ∈ r, R x := by
    intro d
    induction d with
    | zero => intro out was _ h1 h2 h3 _ _; have := nodup_sub out N (inc_nodup h1) h2; omega
    | succ d ih =>
      intro out was hw h1 h2 h3 h4 h5
      obtain ⟨p1, p2, p3, p4, p5, p6⟩ := passL_spec l out h1
      have hlen := len out h1 h2
      have sub : ∀ x ∈ passL l out, x ∈ N := p6 (fun x => x ∈ N) h2 (fun x hx _ => List.mem_append_right _ (List.mem_map_of_mem hx))
      have cl : ∀ R : Int → Prop, (∀ x ∈ f, R x) → (∀ x ∈ l, R x.f1 → R x.f2) → ∀ x ∈ passL l out, R x := fun R hR hs => p6 R (h5 R hR hs) hs
      by_cases e : (passL l out).length = out.length
      · obtain ⟨q1, q2⟩ := p3 e
        refine ⟨out, Ev.step (fun k => by rw [skiarearef05_Reach.l1, if_pos hw]) (pass out _ out (by omega) ?_), hlen, h4, q2, h5⟩
        rw [q1]
        exact Ev.step (f := fun _ => some out) (fun k => by rw [skiarearef05_Reach.l1, if_neg (by omega)]) (Ev.now _)
      · obtain ⟨r, r1, r2⟩ := ih (passL l out) out.length (by omega) p1 sub (by omega) (fun x hx => p5 x (h4 x hx)) cl
        exact ⟨r, Ev.step (fun k => by rw [skiarearef05_Reach.l1, if_pos hw]) (pass out _ r (by omega) r1), r2⟩
  obtain ⟨s1, s2, s3⟩ := putsL_spec f [] List.Pairwise.nil
  obtain ⟨r, r1, r2⟩ := rounds (N.length + 1) (putsL f []) (-1) (by omega) s1 (fun x hx => List.mem_append_left _ (((s2 x).1 hx).resolve_right (by simp))) (by omega) (fun x hx => (s2 x).2 (Or.inl hx)) (fun R hR _ x hx => hR x (((s2 x).1 hx).resolve_right (by simp)))
  refine ⟨r, ?_, r2⟩
  have := up_loop f.length (fun i => ∀ out : List Int, out.length ≤ i → Ev (fun k => skiarearef05_Reach.l1 k l (putsL (f.drop i.toNat) out) (-1)) r → Ev (fun k => skiarearef05_Reach.l0 k l f out i) r) ?_ (fun i h0 h1 ih => ?_)
  · exact this [] (by simp) r1
  · intro out _ h
    rw [drop_nil f _ rfl, putsL] at h
    exact Ev.step (fun k => by rw [skiarearef05_Reach.l0, if_neg (by omega)]) h
  · intro out ho h
    have hd := drop_at f 0 i h0 h1
    change f.drop i.toNat = rd f i :: f.drop (i + 1).toNat at hd
    rw [hd, putsL] at h
    have := putL_len (rd f i) out
    exact Ev.step (fun k => by rw [skiarearef05_Reach.l0, if_pos h1, if_pos h0, wrap_inc h0 h1 (by omega)]) (Ev.bind (put_ev out _ (by omega)) (ih _ (by omega) h))
theorem home_ev (a : List S62) (b : List S82) (c : List S44) (d e : List Int) (hc : c.length ≤ 1000) (hd : d.length ≤ 1000) (he : e.length ≤ big) : ∃ h : List Int, Ev (fun k => skiarearef11_Home.f k a b c d e) h ∧ h.length ≤ 2000 ∧ (∀ x ∈ d, x ∈ h) ∧ (∀ r ∈ c, r.f0 ∈ e → r.f3 ∈ h → r.f2 ∈ h) ∧ ∀ R : Int → Prop, (∀ x ∈ d, R x) → (∀ r ∈ c, r.f0 ∈ e → R r.f3 → R r.f2) → ∀ x ∈ h, R x := by
  have hlen : (downL e c).length ≤ 1000 := by have := List.length_filter_le (fun r : S44 => decide (r.f0 ∈ e)) c; simp only [downL, List.length_map]; omega
  have mem : ∀ x, x ∈ turnL (downL e c) ↔ ∃ r ∈ c, r.f0 ∈ e ∧ x = ⟨r.f0, r.f3, r.f2, r.f6⟩ := fun x => by
    simp only [turnL, downL, List.mem_map, List.mem_filter, decide_eq_true_eq]
    constructor
    · rintro ⟨y, ⟨r, ⟨h1, h2⟩, rfl⟩, rfl⟩; exact ⟨r, h1, h2, rfl⟩
    · rintro ⟨r, h1, h2, rfl⟩; exact ⟨_, ⟨r, ⟨h1, h2⟩, rfl⟩, rfl⟩
  obtain ⟨h, h1, h2, h3, h4, h5⟩ := reach5_ev (turnL (downL e c)) d (by simpa [turnL] using hlen) hd
  refine ⟨h, ?_, h2, h3, fun r hr hm => h4 _ ((mem _).2 ⟨r, hr, hm, rfl⟩), fun R hR hs => h5 R hR (fun x hx => ?_)⟩
  · unfold skiarearef11_Home.f skiarearef05_Back.f
    refine Ev.bind (down_ev a b c d e hc he) (Ev.bind (a := h) (Ev.bind (turned_ev _ hlen) (Ev.bind h1 (Ev.now _))) (Ev.now _))
  · obtain ⟨r, hr, hm, rfl⟩ := (mem x).1 hx
    exact hs r hr hm
end Go.Proofs.Ytgfiidgigenibaa.Q
