-- written by wip/drive.py (this session's program) over the kit's print words
import Derived.Test.YtgfiidgigenibaaQ0
namespace Go.Proofs.Ytgfiidgigenibaa.Q
open Go.RowKit Go.Proofs.YtgfiidgigenibaaW.PrintWords Go.Proofs.YtgfiidgigenibaaW.PrintLast Go.Proofs.YtgfiidgigenibaaW.PrintMore
attribute [local go_sem] max2_int min2_int max_two min_two max_three min_three max_four min_four   -- for this text's walks alone
set_option linter.unusedVariables false
set_option linter.unusedSimpArgs false

/-! ### flow_Max: function 36 -/
section
open Go.Shelf
attribute [local go_sem] Oper.semAt_some
/-! ### maps keyed by int that the call itself made: a list of pairs, in the order in which the keys came -/
def mlook {α : Type} : List (Int × α) → Int → Option α
 | [], _ => none
 | (k, v) :: m, x => if k = x then some v else mlook m x
def mput {α : Type} : List (Int × α) → Int → α → List (Int × α)
 | [], x, v => [(x, v)]
 | (k, u) :: m, x, v => if k = x then (k, v) :: m else (k, u) :: mput m x v
def mkv (e : MapEntry) : Value × Value := (e.key, e.val)
def mek {α : Type} (enc : α → Value) (p : Int × α) : Value × Value := (.int .i64 p.1, enc p.2)
def MapIs {α : Type} (w : World) (B : Nat) (enc : α → Value) (m : List (Int × α)) : Prop :=
 ∃ es clock, w.heap[B]? = some (.map es clock) ∧ es.toList.map mkv = m.map (mek enc)
section
variable {α : Type} {enc : α → Value}
theorem find_map (x : Int) : ∀ (l : List MapEntry) (m : List (Int × α)) (i : Nat), l.map mkv = m.map (mek enc) →
  (mlook m x = none ∧ Instr.findNow (.int .i64) (.int .i64 x) l i = some none ∧ ∀ v, mput m x v = m ++ [(x, v)]) ∨
  ∃ j v e, mlook m x = some v ∧ Instr.findNow (.int .i64) (.int .i64 x) l i = some (some (i + j, enc v)) ∧ l[j]? = some e ∧ e.key = .int .i64 x ∧ ∀ v' e', mkv e' = (.int .i64 x, enc v') → (l.set j e').map mkv = (mput m x v').map (mek enc)
 | [], m, i, h => by
  cases m with
  | nil => exact .inl ⟨rfl, rfl, fun _ => rfl⟩
  | cons p m => exact absurd h (by simp)
 | e :: l, m, i, h => by
  cases m with
  | nil => exact absurd h (by simp)
  | cons p m =>
   obtain ⟨k, u⟩ := p
   simp only [List.map_cons, List.cons.injEq] at h
   obtain ⟨h1, h2⟩ := h
   have hk : e.key = .int .i64 k := congrArg Prod.fst h1
   have hv : e.val = enc u := congrArg Prod.snd h1
   by_cases c : k = x
   ·subst c
    refine .inr ⟨0, u, e, by simp [mlook], ?_, rfl, hk, fun v' e' he => ?_⟩
    ·simp [Instr.findNow, hk, hv, Instr.sameNow]
    ·rw [List.set_cons_zero, List.map_cons, he, mput, if_pos rfl, List.map_cons, h2]
     rfl
   ·have hs : Instr.sameNow (.int .i64) (.int .i64 x) e.key = some false := by
     rw [hk]; simp [Instr.sameNow]; exact fun h => c h.symm
    rcases find_map x l m (i + 1) h2 with ⟨a1, a2, a3⟩ | ⟨j, v, e', a1, a2, a3, a4, a5⟩
    ·refine .inl ⟨by rw [mlook, if_neg c, a1], by rw [Instr.findNow, hs]; exact a2, fun v => by rw [mput, if_neg c, a3]; rfl⟩
    ·refine .inr ⟨j + 1, v, e', by rw [mlook, if_neg c, a1], by rw [Instr.findNow, hs]; simp only; rw [a2]; congr 3; omega, a3, a4, fun v' e1 he => ?_⟩
     rw [List.set_cons_succ, List.map_cons, a5 v' e1 he, h1, mput, if_neg c, List.map_cons]
variable {P : Program} {w : World} {B : Nat} {m : List (Int × α)} {t e : TypeId}
theorem run_key (h3 : P.underlying 3 = some (.int .i64)) (w : World) (em : Bool) (n : Nat) (x : Int) : (Instr.checkKey em (n + 1) 3 (.int .i64 x)).run P w = .ok () w := by
 unfold Instr.checkKey
 simp [run_underlying h3, Result.andThen]
theorem run_mlook (h3 : P.underlying 3 = some (.int .i64)) (ht : P.underlying t = some (.map 3 e)) (z : α) (hz : (zeroValue e).run P w = .ok (enc z) w) (h : MapIs w B enc m) (x : Int) (c : Bool) :
  (Instr.lookup t (.map (some B)) (.int .i64 x) c).run P w = .ok (if c then .tuple #[enc ((mlook m x).getD z), .bool (mlook m x).isSome] else enc ((mlook m x).getD z)) w := by
 obtain ⟨es, clock, hb, hm⟩ := h
 have hck : ∀ em, (Instr.checkKey em 10000 3 (.int .i64 x)).run P w = .ok () w := fun em => run_key h3 w em 9999 x
 rcases find_map x es.toList m 0 hm with ⟨a1, a2, _⟩ | ⟨j, v, e', a1, a2, _⟩
 ·cases c <;> simp [Instr.lookup, run_underlying ht, MapKept.run_getObj_map hb, hck, Instr.findKey, run_underlying h3, a1, a2, hz, Result.andThen]
 ·cases c <;> simp [Instr.lookup, run_underlying ht, MapKept.run_getObj_map hb, hck, Instr.findKey, run_underlying h3, a1, a2, Result.andThen]
theorem run_mput (h3 : P.underlying 3 = some (.int .i64)) (ht : P.underlying t = some (.map 3 e)) (h : MapIs w B enc m) (x : Int) (v : α) :
  ∃ w', (Instr.mapUpdate t (.map (some B)) (.int .i64 x) (enc v)).run P w = .ok () w' ∧ MapIs w' B enc (mput m x v) ∧ (∀ k, k ≠ B → w'.heap[k]? = w.heap[k]?) ∧ w'.heap.size = w.heap.size ∧ w'.os = w.os ∧ w'.tape = w.tape ∧ w'.output = w.output := by
 obtain ⟨es, clock, hb, hm⟩ := h
 have hck : ∀ em, (Instr.checkKey em 10000 3 (.int .i64 x)).run P w = .ok () w := fun em => run_key h3 w em 9999 x
 have hlt : B < w.heap.size := (Array.getElem?_eq_some_iff.1 hb).1
 have key : ∀ o, (∀ k, k ≠ B → (ChangeMaps.setBlock w B o).heap[k]? = w.heap[k]?) ∧ (ChangeMaps.setBlock w B o).heap.size = w.heap.size ∧ (ChangeMaps.setBlock w B o).heap[B]? = some o := fun o =>
  ⟨fun k hk => by simp [ChangeMaps.setBlock, Array.getElem?_setIfInBounds, Ne.symm hk], by simp [ChangeMaps.setBlock], by simp [ChangeMaps.setBlock, Array.getElem?_setIfInBounds, hlt]⟩
 rcases find_map x es.toList m 0 hm with ⟨a1, a2, a3⟩ | ⟨j, u, e', a1, a2, a3, a4, a5⟩
 ·refine ⟨ChangeMaps.setBlock w B (.map (es.push ⟨.int .i64 x, enc v, clock⟩) (clock + 1)), ?_, ⟨_, _, (key _).2.2, ?_⟩, (key _).1, (key _).2.1, rfl, rfl, rfl⟩
  ·simp [Instr.mapUpdate, run_underlying ht, MapKept.run_getObj_map hb, hck, Instr.findKey, run_underlying h3, a2, MapKept.run_setObj_map _ hb, Result.andThen, ChangeMaps.setBlock]
  ·rw [a3, Array.toList_push, List.map_append, hm, List.map_append]; rfl
 ·have hj : es[j]? = some e' := by simpa using a3
  refine ⟨ChangeMaps.setBlock w B (.map (es.modify j fun e => { e with key := .int .i64 x, val := enc v }) clock), ?_, ⟨_, _, (key _).2.2, ?_⟩, (key _).1, (key _).2.1, rfl, rfl, rfl⟩
  ·have hst : ∀ w, (Instr.keyThatStays (.int .i64 x) (.int .i64 x)).run P w = .ok (.int .i64 x) w := fun w => by simp [Instr.keyThatStays, Instr.sameBits]
   simp [Instr.mapUpdate, run_underlying ht, MapKept.run_getObj_map hb, hck, Instr.findKey, run_underlying h3, a2, hj, a4, hst, MapKept.run_setObj_map _ hb, Result.andThen, ChangeMaps.setBlock]
  ·rw [Array.toList_modify, ← a5 v { e' with key := .int .i64 x, val := enc v } rfl, ChangeMaps.modify_eq_set _ _ _ _ a3]
end
section
variable {P : Program} {ops : Array Oper} {Q : Exit → Act → World → Prop}
/-- An operation of a region that is run where it is: it yields v, the world stays. -/
theorem look_ {oi : Oper} {N : Option Tmp} {a : Act} {w : World} {v : Value} {K : Act → World → Prop} (hw : Region.wanted oi (yielded ops a.tmps) = true) (hN : oi.dst = N) (hrun : (execOp a.eval oi).run P w = .ok (.value v) w)
  (h : K (a.put N v) w) : if Region.wanted oi (yielded ops a.tmps) = true then Oper.wp P oi a w K Q else K (a.put N undef) w := by
 subst hN
 exact event_step hw hrun h
end
def get0 (m : List (Int × Int)) (x : Int) : Int := (mlook m x).getD 0
/-- How much more flows away from each node than to it. -/
def surpL : List S67 → List Int → List (Int × Int) → Option (List (Int × Int))
 | [], _, m => some m
 | _ :: _, [], _ => none
 | e :: es, x :: xs, m => surpL es xs (mput (mput m e.f1 (wrap64 (get0 m e.f1 + x))) e.f2 (wrap64 (get0 (mput m e.f1 (wrap64 (get0 m e.f1 + x))) e.f2 - x)))
theorem rd67_at (l : List S67) (i : Int) (h0 : 0 ≤ i) (h1 : i < l.length) : l.drop i.toNat = rd_T67 l i :: l.drop (i + 1).toNat := by
 rw [List.drop_eq_getElem_cons (by omega), show (i + 1).toNat = i.toNat + 1 by omega]
 simp [rd_T67, List.getD_eq_getElem?_getD, List.getElem?_eq_getElem (show i.toNat < l.length by omega)]
theorem rdi_at (l : List Int) (i : Int) (h0 : 0 ≤ i) (h1 : i < l.length) : l.drop i.toNat = rd l i :: l.drop (i + 1).toNat := by
 rw [List.drop_eq_getElem_cons (by omega), show (i + 1).toNat = i.toNat + 1 by omega]
 simp [rd, List.getD_eq_getElem?_getD, List.getElem?_eq_getElem (show i.toNat < l.length by omega)]
/-- What a store into the map leaves of everything else. -/
structure MapTurn (w w' : World) (B : Nat) : Prop where
 far : ∀ k, k ≠ B → w'.heap[k]? = w.heap[k]?
 size : w'.heap.size = w.heap.size
 os : w'.os = w.os
 tape : w'.tape = w.tape
 out : w'.output = w.output
theorem MapTurn.below {w0 w w' : World} {B base : Nat} (h : MapTurn w w' B) (hb : Below base w0 w) (hB : base ≤ B) : Below base w0 w' :=
 ⟨h.os.trans hb.os, h.tape.trans hb.tape, h.out.trans hb.output, by rw [h.size]; exact hb.size, fun k hk => (h.far k (by omega)).trans (hb.block k hk)⟩
theorem MapTurn.blk {w w' : World} {B g : Nat} {o : Obj} (h : MapTurn w w' B) (hg : w.heap[g]? = some o) (hne : g ≠ B) : w'.heap[g]? = some o := (h.far g hne).trans hg
theorem MapIs.blk {α : Type} {enc : α → Value} {w w' : World} {B : Nat} {m : List (Int × α)} (h : MapIs w B enc m) (hb : w'.heap[B]? = w.heap[B]?) : MapIs w' B enc m := by
 obtain ⟨es, c, h1, h2⟩ := h
 exact ⟨es, c, hb.trans h1, h2⟩
theorem MapIs.lt {α : Type} {enc : α → Value} {w : World} {B : Nat} {m : List (Int × α)} (h : MapIs w B enc m) : B < w.heap.size := by
 obtain ⟨es, c, h1, _⟩ := h
 exact (Array.getElem?_eq_some_iff.1 h1).1
theorem MapIs.below {α : Type} {enc : α → Value} {w w' : World} {B : Nat} {m : List (Int × α)} (h : MapIs w B enc m) (hb : Below w.heap.size w w') : MapIs w' B enc m := h.blk (hb.block B h.lt)
theorem MapIs.ne {α : Type} {enc : α → Value} {w : World} {B g : Nat} {m : List (Int × α)} {cs : Array Value} {t : Nat} (h : MapIs w B enc m) (hg : w.heap[g]? = some (.cells cs t (0, 0))) : g ≠ B := by
 rintro rfl
 obtain ⟨es, c, h1, _⟩ := h
 rw [h1] at hg
 cases hg
theorem MapIs.far {α : Type} {enc : α → Value} {w : World} {B g : Nat} {m : List (Int × α)} {cs : Array Value} {t : Nat} (h : MapIs w B enc m) (hg : w.heap[g]? = some (.cells cs t (0, 0))) (i : Nat) (u : Value) : MapIs (w.setCell ⟨g, i, none⟩ u) B enc m :=
 h.blk (Below.heap_setCell w ⟨g, i, none⟩ u B (fun e => h.ne hg (by simpa using e.symm)))
theorem MapIs.new {α : Type} (enc : α → Value) (w : World) : MapIs (w.alloc (.map #[] 0)) w.heap.size enc [] := ⟨#[], 0, heap_alloc_new w _, rfl⟩
theorem zero3 (w : World) : (zeroValue 3).run Try.prog w = .ok (.int .i64 0) w := by kernel_rfl
theorem run_mlook_int {w : World} {B : Nat} {m : List (Int × Int)} (h : MapIs w B (Value.int .i64) m) (x : Int) : (Instr.lookup 85 (.map (some B)) (.int .i64 x) false).run Try.prog w = .ok (.int .i64 (get0 m x)) w := by
 have := run_mlook Try.underlying3 Try.underlying85 (0 : Int) (zero3 w) h x false
 simpa [get0] using this
theorem run_mput_int {w : World} {B : Nat} {m : List (Int × Int)} (h : MapIs w B (Value.int .i64) m) (x v : Int) : ∃ w', (Instr.mapUpdate 85 (.map (some B)) (.int .i64 x) (.int .i64 v)).run Try.prog w = .ok () w' ∧ MapIs w' B (Value.int .i64) (mput m x v) ∧ MapTurn w w' B := by
 obtain ⟨w', h1, h2, h3, h4, h5, h6, h7⟩ := run_mput (enc := Value.int .i64) Try.underlying3 Try.underlying85 h x v
 exact ⟨w', h1, h2, ⟨h3, h4, h5, h6, h7⟩⟩
def flow_surplus.f (l : List S67) (f : List Int) : Option (List (Int × Int)) := surpL l f []
def flow_surplus.T5 : Bool × List (List Nat × List Nat) := (true, [([], []), ([], []), ([1], [1]), ([0, 2], [0, 2]), ([], []), ([], []), ([4, 5], [4, 5]), ([6], [6]), ([3, 7], [3, 7]), ([0, 2, 8, 0, 1, 2, 3, 4, 5, 6, 7, 8], [0, 2, 8])])
def flow_surplus.B5 : List Nat := [0, 0, 2, 7, 0, 0, 48, 112, 255, 511]
theorem flow_surplus.tab5 : rtab .any (opsOf Try.f59 5) = flow_surplus.T5 := by kernel_rfl
theorem flow_surplus.bits5 : waitsOk flow_surplus.T5.2 flow_surplus.B5 = true := by kernel_rfl
def flow_surplus.T6 : Bool × List (List Nat × List Nat) := (true, [([], []), ([], []), ([1], [1]), ([0, 2], [0, 2]), ([], []), ([], []), ([4, 5], [4, 5]), ([6], [6]), ([3, 7], [3, 7]), ([0, 2, 8, 0, 1, 2, 3, 4, 5, 6, 7, 8], [0, 2, 8])])
def flow_surplus.B6 : List Nat := [0, 0, 2, 7, 0, 0, 48, 112, 255, 511]
theorem flow_surplus.tab6 : rtab .any (opsOf Try.f59 6) = flow_surplus.T6 := by kernel_rfl
theorem flow_surplus.bits6 : waitsOk flow_surplus.T6.2 flow_surplus.B6 = true := by kernel_rfl
set_option maxRecDepth 10000 in
set_option maxHeartbeats 4000000 in
theorem flow_surplus.calls (A0 : Option Addr) (c0 : Nat) (l : List S67) (A1 : Option Addr) (c1 : Nat) (f : List Int) (r : List (Int × Int)) (w : World) (hr0 : Kd.C k67 w A0 l.length l) (hc0 : l.length ≤ c0) (hr1 : Kd.C (Kd.int .i64) w A1 f.length f) (hc1 : f.length ≤ c1) (h : flow_surplus.f l f = some r) :
  Calls Try.prog 59 #[.slice A0 l.length c0, .slice A1 f.length c1] w fun e w' => ∃ B, e = .returned (.map (some B)) ∧ w.heap.size ≤ B ∧ MapIs w' B (Value.int .i64) r ∧ Below w.heap.size w w' := by
 have hu65 := Try.underlying65
 have hu67 := Try.underlying67
 have hmm := @run_makeMap Try.prog
 have HR0 := a_ hr0
 have HC0 := a_ hc0
 have HR1 := a_ hr1
 have HC1 := a_ hc1
 have HN := a_ (Kd.C_max hr0)
 have HH : Aside0 (surpL l f [] = some r) := ⟨h⟩
 clear hr0 hc0 hr1 hc1 h
 go_enter Try.func59, Try.ntmps59
 go_wp2
 go_loopw [11] (fun v11 w' => ∃ x11 : Int, v11 = .int .i64 x11 ∧ Aside0 (0 ≤ x11) ∧ Aside0 (x11 ≤ l.length) ∧ ∃ m, Aside0 (surpL (l.drop x11.toNat) (f.drop x11.toNat) m = some r) ∧ Aside0 (MapIs w' w.heap.size (Value.int .i64) m) ∧ Aside0 (Below w.heap.size w w')) (fun v11 _ => l.length - (intOf v11).toNat)
 case atStart => exact ⟨0, rfl, ⟨by omega⟩, ⟨by omega⟩, [], HH, ⟨MapIs.new _ _⟩, ⟨below_alloc (Below.refl _ _) _⟩⟩
 case round =>
  clear HH
  obtain ⟨x11, rfl, H0, H1, m, HS, HM, HB⟩ := hrel
  by_cases hlt : x11 < (l.length : Int)
  ·have p1 := H0.out
   have hs := HS.out
   have hx1 : x11 < (f.length : Int) := by
    by_cases hh : x11 < (f.length : Int)
    ·exact hh
    ·rw [rd67_at l x11 p1 hlt, show f.drop x11.toNat = [] from List.drop_eq_nil_of_le (by omega), surpL] at hs
     cases hs
   rw [rd67_at l x11 p1 hlt, rdi_at f x11 p1 hx1, surpL] at hs
   clear HS
   have HS := a_ hs
   clear hs
   obtain ⟨ad, e0, y0, y1, y2, y3⟩ := at_T67 HR0.out x11 p1 hlt
   cases e0
   obtain ⟨ad1, e1, hx⟩ := Kd.at_int HR1.out x11 p1 hx1
   cases e1
   have FW := a_ hx
   clear hx
   replace y0 := (HB.out.cell (World.block_lt_of_cell? w _ y0)).trans y0
   replace y1 := (HB.out.cell (World.block_lt_of_cell? w _ y1)).trans y1
   replace y2 := (HB.out.cell (World.block_lt_of_cell? w _ y2)).trans y2
   replace y3 := (HB.out.cell (World.block_lt_of_cell? w _ y3)).trans y3
   have HW : Aside0 (wrap64 (x11 + 1) = x11 + 1) := ⟨by have h1 := HN.out; unfold wrap64; omega⟩
   have HLT := a_ hlt
   have GB := a_ (Nat.le_refl w.heap.size)
   have dl : decide (x11 < (l.length : Int)) = true := decide_eq_true hlt
   replace p1 := eq_true p1
   replace hlt := eq_true hlt
   replace hx1 := eq_true hx1
   go_upto_region 5 with (first | ((with_reducible refine gate_dst (N := 7) rfl ?_); refine box_event ?hg (N := 7) ?hd (cs := #[.int .i64 0, .int .i64 0, .int .i64 0, .int .i64 0]) (t := 67) ?hr ?_; (case hd => rfl); (case hg => rfl); (case hr => first | (go_simp; done) | (go_simp; rfl)); intro gE hg w_gE hbox hb; have n0_ := a_ (below_step bel_ hb); have n1_ := a_ (hbox); have n2_ := a_ ((by rw [hg]; exact (below_size bel_) : w.heap.size ≤ gE)); have HBE := a_ hb; clear HB; have HB := n0_; have BKgE := n1_; have GEgE := n2_; clear n0_ n1_ n2_; clear hb hbox hg; have hczgE_0 : w_gE.cell? ⟨gE, 0, none⟩ = some (.int .i64 0) := (blk_cell BKgE.out 0).trans rfl; have hczgE_1 : w_gE.cell? ⟨gE, 1, none⟩ = some (.int .i64 0) := (blk_cell BKgE.out 1).trans rfl; have hczgE_2 : w_gE.cell? ⟨gE, 2, none⟩ = some (.int .i64 0) := (blk_cell BKgE.out 2).trans rfl; have hczgE_3 : w_gE.cell? ⟨gE, 3, none⟩ = some (.int .i64 0) := (blk_cell BKgE.out 3).trans rfl; have hfzgE_0 := blk_frozen BKgE.out 0; have hfzgE_1 := blk_frozen BKgE.out 1; have hfzgE_2 := blk_frozen BKgE.out 2; have hfzgE_3 := blk_frozen BKgE.out 3))
   have HM2 := a_ (HM.out.below HBE.out)
   have HB2 := a_ (below_set (j := 3) (v := .int .i64 (rd_T67 l x11).f3) (below_set (j := 2) (v := .int .i64 (rd_T67 l x11).f2) (below_set (j := 1) (v := .int .i64 (rd_T67 l x11).f1) (below_set (j := 0) (v := .int .i64 (rd_T67 l x11).f0) HB.out GEgE.out) GEgE.out) GEgE.out) GEgE.out)
   have h0 := blk_put (cs' := #[.int .i64 (rd_T67 l x11).f0, .int .i64 0, .int .i64 0, .int .i64 0]) BKgE.out 0 (.int .i64 (rd_T67 l x11).f0) rfl
   have h1 := blk_put (cs' := #[.int .i64 (rd_T67 l x11).f0, .int .i64 (rd_T67 l x11).f1, .int .i64 0, .int .i64 0]) h0 1 (.int .i64 (rd_T67 l x11).f1) rfl
   have h2 := blk_put (cs' := #[.int .i64 (rd_T67 l x11).f0, .int .i64 (rd_T67 l x11).f1, .int .i64 (rd_T67 l x11).f2, .int .i64 0]) h1 2 (.int .i64 (rd_T67 l x11).f2) rfl
   have h3 := blk_put (cs' := #[.int .i64 (rd_T67 l x11).f0, .int .i64 (rd_T67 l x11).f1, .int .i64 (rd_T67 l x11).f2, .int .i64 (rd_T67 l x11).f3]) h2 3 (.int .i64 (rd_T67 l x11).f3) rfl
   have BE := a_ h3
   have HM3 := a_ ((((HM2.out.far BKgE.out 0 (.int .i64 (rd_T67 l x11).f0)).far h0 1 (.int .i64 (rd_T67 l x11).f1)).far h1 2 (.int .i64 (rd_T67 l x11).f2)).far h2 3 (.int .i64 (rd_T67 l x11).f3))
   clear y0 y1 y2 y3 h0 h1 h2 h3 HM HM2 HB BKgE HBE hczgE_0 hczgE_1 hczgE_2 hczgE_3 hfzgE_0 hfzgE_1 hfzgE_2 hfzgE_3
   have HM := HM3
   have HB := HB2
   clear HM3 HB2
   generalize (((w_gE.setCell ⟨gE, 0, none⟩ (.int .i64 (rd_T67 l x11).f0)).setCell ⟨gE, 1, none⟩ (.int .i64 (rd_T67 l x11).f1)).setCell ⟨gE, 2, none⟩ (.int .i64 (rd_T67 l x11).f2)).setCell ⟨gE, 3, none⟩ (.int .i64 (rd_T67 l x11).f3) = wE at HM HB BE ⊢
   refine start_ (n := 10) (S := fun w' => w'.cell? ⟨gE, 0, none⟩ = some (.int .i64 (rd_T67 l x11).f0) ∧ w'.cell? ⟨gE, 1, none⟩ = some (.int .i64 (rd_T67 l x11).f1) ∧ w'.cell? ⟨gE, 2, none⟩ = some (.int .i64 (rd_T67 l x11).f2) ∧ w'.cell? ⟨gE, 3, none⟩ = some (.int .i64 (rd_T67 l x11).f3) ∧ w'.cell? (ad1.add x11.toNat) = some (.int .i64 (rd f x11))) (ds := []) #[false, false, false, false, false, false, false, false, false, false] (by kernel_rfl) rfl rfl ⟨(blk_cell BE.out 0).trans rfl, (blk_cell BE.out 1).trans rfl, (blk_cell BE.out 2).trans rfl, (blk_cell BE.out 3).trans rfl, (HB.out.cell (World.block_lt_of_cell? w _ FW.out)).trans FW.out⟩ (fun hHeld => ?_)
   refine with_tabW flow_surplus.tab5 flow_surplus.bits5 (fun HT_ HW_ => ?_)
   have hBE := a_ (blk_drew BE.out)
   have hHM := a_ (HM.out.below (below_drew (Below.refl _ _)))
   have hHB := a_ (below_drew1 HB.out)
   clear BE HM HB
   have BE := hBE
   have HM := hHM
   have HB := hHB
   clear hBE hHM hHB
   generalize wE.drew = W5 at BE HM HB hHeld ⊢
   refine pq_ 0 (some 16) #[true, false, false, false, false, false, false, false, false, false] ?_
   refine pq_ 1 (some 17) #[true, true, false, false, false, false, false, false, false, false] ?_
   refine take_ (i := 2) (N := some 18) (v := ?_) (a' := ?_) #[true, true, true, false, false, false, false, false, false, false] rfl rfl (take_ofW HT_.out HW_.out (by kernel_rfl)) (fun _ _ _ h => h) (Or.inl ⟨by rfl, ?_⟩) hHeld ?_ ?_
   rotate_left
   ·rintro w' ⟨s0, s1, s2, s3, s4⟩
    go_simp
    with_reducible rfl
   rotate_left
   ·simp only [Act.put, List.setIfInBounds_toArray, List.set_cons_zero, List.set_cons_succ, i64_w, i32_w]
    rfl
   refine pq_ 4 (some 20) #[true, true, true, false, true, false, false, false, false, false] ?_
   refine pq_ 5 (some 21) #[true, true, true, false, true, true, false, false, false, false] ?_
   refine pq_ 6 (some 22) #[true, true, true, false, true, true, true, false, false, false] ?_
   refine take_ (i := 7) (N := some 23) (v := ?_) (a' := ?_) #[true, true, true, false, true, true, true, true, false, false] rfl rfl (take_ofW HT_.out HW_.out (by kernel_rfl)) (fun _ _ _ h => h) (Or.inl ⟨by rfl, ?_⟩) hHeld ?_ ?_
   rotate_left
   ·rintro w' ⟨s0, s1, s2, s3, s4⟩
    go_simp
    with_reducible rfl
   rotate_left
   ·simp only [Act.put, List.setIfInBounds_toArray, List.set_cons_zero, List.set_cons_succ, i64_w, i32_w]
    rfl
   refine one_ (i := 3) (N := some 19) #[true, true, true, true, true, true, true, true, false, false] rfl rfl (one_of HT_.out (by kernel_rfl)) (by decide) (fun K hK => ?_)
   refine look_ (v := .int .i64 (get0 m (rd_T67 l x11).f1)) (by rfl) rfl ?_ ?_
   ·have hrun := run_mlook_int HM.out (rd_T67 l x11).f1
    go_simp
   refine hK.out _ _ ⟨(blk_cell BE.out 0).trans rfl, (blk_cell BE.out 1).trans rfl, (blk_cell BE.out 2).trans rfl, (blk_cell BE.out 3).trans rfl, (HB.out.cell (World.block_lt_of_cell? w _ FW.out)).trans FW.out⟩ (fun hHeld => ?_)
   clear hK K
   refine norm_ (a' := ?_) ?_ ?_
   rotate_left
   ·show Act.put _ (some 19) _ = _
    simp only [Act.put, List.setIfInBounds_toArray, List.set_cons_zero, List.set_cons_succ, i64_w, i32_w]
    rfl
   refine pq_ 8 (some 24) #[true, true, true, true, true, true, true, true, true, false] ?_
   refine one_ (i := 9) (N := none) #[true, true, true, true, true, true, true, true, true, true] rfl rfl (one_of HT_.out (by kernel_rfl)) (by decide) (fun K hK => ?_)
   obtain ⟨N5, hrun, hM2, hT⟩ := run_mput_int HM.out (rd_T67 l x11).f1 (wrap64 (get0 m (rd_T67 l x11).f1 + rd f x11))
   refine skip_ (w1 := N5) (by rfl) rfl ?_ ?_
   ·go_simp
   have hBE := a_ (hT.blk BE.out (MapIs.ne HM.out BE.out))
   have hHB := a_ (hT.below HB.out GB.out)
   have hHM := a_ hM2
   clear BE HM HB hrun hM2 hT
   have BE := hBE
   have HM := hHM
   have HB := hHB
   clear hBE hHM hHB
   refine hK.out _ _ ⟨(blk_cell BE.out 0).trans rfl, (blk_cell BE.out 1).trans rfl, (blk_cell BE.out 2).trans rfl, (blk_cell BE.out 3).trans rfl, (HB.out.cell (World.block_lt_of_cell? w _ FW.out)).trans FW.out⟩ (fun hHeld => ?_)
   clear hK K
   refine done_ (done_of HT_.out (by kernel_rfl)) ?_
   clear hHeld HT_ HW_
   go_upto_region 6 with fail
   refine start_ (n := 10) (S := fun w' => w'.cell? ⟨gE, 0, none⟩ = some (.int .i64 (rd_T67 l x11).f0) ∧ w'.cell? ⟨gE, 1, none⟩ = some (.int .i64 (rd_T67 l x11).f1) ∧ w'.cell? ⟨gE, 2, none⟩ = some (.int .i64 (rd_T67 l x11).f2) ∧ w'.cell? ⟨gE, 3, none⟩ = some (.int .i64 (rd_T67 l x11).f3) ∧ w'.cell? (ad1.add x11.toNat) = some (.int .i64 (rd f x11))) (ds := []) #[false, false, false, false, false, false, false, false, false, false] (by kernel_rfl) rfl rfl ⟨(blk_cell BE.out 0).trans rfl, (blk_cell BE.out 1).trans rfl, (blk_cell BE.out 2).trans rfl, (blk_cell BE.out 3).trans rfl, (HB.out.cell (World.block_lt_of_cell? w _ FW.out)).trans FW.out⟩ (fun hHeld => ?_)
   refine with_tabW flow_surplus.tab6 flow_surplus.bits6 (fun HT_ HW_ => ?_)
   have hBE := a_ (blk_drew BE.out)
   have hHM := a_ (HM.out.below (below_drew (Below.refl _ _)))
   have hHB := a_ (below_drew1 HB.out)
   clear BE HM HB
   have BE := hBE
   have HM := hHM
   have HB := hHB
   clear hBE hHM hHB
   generalize N5.drew = W6 at BE HM HB hHeld ⊢
   refine pq_ 0 (some 25) #[true, false, false, false, false, false, false, false, false, false] ?_
   refine pq_ 1 (some 26) #[true, true, false, false, false, false, false, false, false, false] ?_
   refine take_ (i := 2) (N := some 27) (v := ?_) (a' := ?_) #[true, true, true, false, false, false, false, false, false, false] rfl rfl (take_ofW HT_.out HW_.out (by kernel_rfl)) (fun _ _ _ h => h) (Or.inl ⟨by rfl, ?_⟩) hHeld ?_ ?_
   rotate_left
   ·rintro w' ⟨s0, s1, s2, s3, s4⟩
    go_simp
    with_reducible rfl
   rotate_left
   ·simp only [Act.put, List.setIfInBounds_toArray, List.set_cons_zero, List.set_cons_succ, i64_w, i32_w]
    rfl
   refine pq_ 4 (some 29) #[true, true, true, false, true, false, false, false, false, false] ?_
   refine pq_ 5 (some 30) #[true, true, true, false, true, true, false, false, false, false] ?_
   refine pq_ 6 (some 31) #[true, true, true, false, true, true, true, false, false, false] ?_
   refine take_ (i := 7) (N := some 32) (v := ?_) (a' := ?_) #[true, true, true, false, true, true, true, true, false, false] rfl rfl (take_ofW HT_.out HW_.out (by kernel_rfl)) (fun _ _ _ h => h) (Or.inl ⟨by rfl, ?_⟩) hHeld ?_ ?_
   rotate_left
   ·rintro w' ⟨s0, s1, s2, s3, s4⟩
    go_simp
    with_reducible rfl
   rotate_left
   ·simp only [Act.put, List.setIfInBounds_toArray, List.set_cons_zero, List.set_cons_succ, i64_w, i32_w]
    rfl
   refine one_ (i := 3) (N := some 28) #[true, true, true, true, true, true, true, true, false, false] rfl rfl (one_of HT_.out (by kernel_rfl)) (by decide) (fun K hK => ?_)
   refine look_ (v := .int .i64 (get0 (mput m (rd_T67 l x11).f1 (wrap64 (get0 m (rd_T67 l x11).f1 + rd f x11))) (rd_T67 l x11).f2)) (by rfl) rfl ?_ ?_
   ·have hrun := run_mlook_int HM.out (rd_T67 l x11).f2
    go_simp
   refine hK.out _ _ ⟨(blk_cell BE.out 0).trans rfl, (blk_cell BE.out 1).trans rfl, (blk_cell BE.out 2).trans rfl, (blk_cell BE.out 3).trans rfl, (HB.out.cell (World.block_lt_of_cell? w _ FW.out)).trans FW.out⟩ (fun hHeld => ?_)
   clear hK K
   refine norm_ (a' := ?_) ?_ ?_
   rotate_left
   ·show Act.put _ (some 28) _ = _
    simp only [Act.put, List.setIfInBounds_toArray, List.set_cons_zero, List.set_cons_succ, i64_w, i32_w]
    rfl
   refine pq_ 8 (some 33) #[true, true, true, true, true, true, true, true, true, false] ?_
   refine one_ (i := 9) (N := none) #[true, true, true, true, true, true, true, true, true, true] rfl rfl (one_of HT_.out (by kernel_rfl)) (by decide) (fun K hK => ?_)
   obtain ⟨N6, hrun, hM2, hT⟩ := run_mput_int HM.out (rd_T67 l x11).f2 (wrap64 (get0 (mput m (rd_T67 l x11).f1 (wrap64 (get0 m (rd_T67 l x11).f1 + rd f x11))) (rd_T67 l x11).f2 - rd f x11))
   refine skip_ (w1 := N6) (by rfl) rfl ?_ ?_
   ·go_simp
   have hBE := a_ (hT.blk BE.out (MapIs.ne HM.out BE.out))
   have hHB := a_ (hT.below HB.out GB.out)
   have hHM := a_ hM2
   clear BE HM HB hrun hM2 hT
   have BE := hBE
   have HM := hHM
   have HB := hHB
   clear hBE hHM hHB
   refine hK.out _ _ ⟨(blk_cell BE.out 0).trans rfl, (blk_cell BE.out 1).trans rfl, (blk_cell BE.out 2).trans rfl, (blk_cell BE.out 3).trans rfl, (HB.out.cell (World.block_lt_of_cell? w _ FW.out)).trans FW.out⟩ (fun hHeld => ?_)
   clear hK K
   refine done_ (done_of HT_.out (by kernel_rfl)) ?_
   clear hHeld HT_ HW_
   go_wp2
   rw [HW.out]
   go_roundw
   case measure => have h1 := HLT.out; have h2 := H0.out; simp only [intOf]; omega
   case rel => exact ⟨x11 + 1, rfl, ⟨by have := H0.out; omega⟩, ⟨by have := HLT.out; omega⟩, _, HS, HM, HB⟩
  ·have dl : decide (x11 < (l.length : Int)) = false := decide_eq_false hlt
   have hs := HS.out
   rw [show l.drop x11.toNat = [] by apply List.drop_eq_nil_of_le; omega, surpL] at hs
   obtain rfl := Option.some.inj hs
   clear hs HS hlt
   go_wp2
   go_ret
   exact ⟨_, rfl, Nat.le_refl _, HM.out, HB.out⟩

theorem bne_ {w : World} {g g' : Nat} {t t' : TypeId} {cs cs' : Array Value} (h : w.heap[g]? = some (.cells cs t (0, 0))) (h' : w.heap[g']? = some (.cells cs' t' (0, 0))) (hne : t ≠ t') : g ≠ g' := by
 rintro rfl
 have e := h.symm.trans h'
 simp only [Option.some.injEq, Obj.cells.injEq] at e
 exact hne e.2.1
/-! ### a slice of ints of the call's own that may begin in the middle of its row -/
structure SegAt (w : World) (base : Nat) (a : Addr) (c : Nat) (xs : List Int) (cur : Array Value) : Prop where
 sp : a.spot = none
 lo : base ≤ a.block
 blk : w.heap[a.block]? = some (.cells cur 3 (0, 0))
 fit : a.off + c ≤ cur.size
 at_ : ∀ j, j < xs.length → cur[a.off + j]? = some (.int .i64 (xs.getD j 0))
def OSeg (w : World) (base : Nat) (v : Value) (xs : List Int) : Prop :=
 ∃ A c, v = .slice A xs.length c ∧ xs.length ≤ c ∧ c ≤ maxLen ∧ (A = none → c = 0) ∧ ∀ a, A = some a → ∃ cur, SegAt w base a c xs cur
/-- What an append to such a slice leaves: all blocks but rows of ints from base on. -/
structure Turn3 (w w' : World) (base : Nat) : Prop where
 os : w'.os = w.os
 tape : w'.tape = w.tape
 out : w'.output = w.output
 size : w.heap.size ≤ w'.heap.size
 blk : ∀ k, k < w.heap.size → (k < base ∨ ∀ cur, w.heap[k]? ≠ some (.cells cur 3 (0, 0))) → w'.heap[k]? = w.heap[k]?
theorem Turn3.below {w0 w w' : World} {base : Nat} (h : Turn3 w w' base) (hb : Below base w0 w) (hs : base ≤ w.heap.size) : Below base w0 w' :=
 ⟨h.os.trans hb.os, h.tape.trans hb.tape, h.out.trans hb.output, Nat.le_trans hb.size h.size, fun k hk => (h.blk k (by omega) (Or.inl hk)).trans (hb.block k hk)⟩
theorem Turn3.cells {w w' : World} {base g t : Nat} {cs : Array Value} (h : Turn3 w w' base) (hg : w.heap[g]? = some (.cells cs t (0, 0))) (ht : t ≠ 3) : w'.heap[g]? = some (.cells cs t (0, 0)) :=
 (h.blk g (blk_lt hg) (Or.inr (fun cur e => by rw [hg] at e; injection e with e; injection e with _ e _; exact ht e))).trans hg
theorem Turn3.low {w w' : World} {base g : Nat} {o : Obj} (h : Turn3 w w' base) (hg : w.heap[g]? = some o) (hb : g < base) : w'.heap[g]? = some o := (h.blk g (blk_lt hg) (Or.inl hb)).trans hg
theorem Turn3.map {α : Type} {enc : α → Value} {w w' : World} {base B : Nat} {m : List (Int × α)} (h : Turn3 w w' base) (hm : MapIs w B enc m) : MapIs w' B enc m :=
 hm.blk (h.blk B hm.lt (Or.inr (fun cur e => hm.ne e rfl)))
theorem OSeg.step {w w' : World} {base : Nat} {v : Value} {xs : List Int} (h : OSeg w base v xs) (hk : ∀ g, base ≤ g → (∃ cur, w.heap[g]? = some (.cells cur 3 (0, 0))) → w'.heap[g]? = w.heap[g]?) : OSeg w' base v xs := by
 obtain ⟨A, c, e, h1, h2, h3, h4⟩ := h
 refine ⟨A, c, e, h1, h2, h3, fun a ha => ?_⟩
 obtain ⟨cur, s⟩ := h4 a ha
 exact ⟨cur, s.sp, s.lo, (hk _ s.lo ⟨cur, s.blk⟩).trans s.blk, s.fit, s.at_⟩
theorem OSeg.below {w w' : World} {base : Nat} {v : Value} {xs : List Int} (h : OSeg w base v xs) (hb : Below w.heap.size w w') : OSeg w' base v xs :=
 h.step fun g _ ⟨cur, hg⟩ => hb.block g (blk_lt hg)
theorem OSeg.far {w : World} {base : Nat} {v : Value} {xs : List Int} (h : OSeg w base v xs) {g t : Nat} {cs : Array Value} (hg : w.heap[g]? = some (.cells cs t (0, 0))) (ht : t ≠ 3) (i : Nat) (u : Value) : OSeg (w.setCell ⟨g, i, none⟩ u) base v xs :=
 h.step fun k _ ⟨cur, hk⟩ => Below.heap_setCell w ⟨g, i, none⟩ u k (fun e => by
  have e : k = g := by simpa using e
  subst e
  rw [hg] at hk; injection hk with hk; injection hk with _ hk _; exact ht hk)
theorem OSeg.turn {w w' : World} {base B : Nat} {v : Value} {xs : List Int} (h : OSeg w base v xs) (ht : MapTurn w w' B) {α : Type} {enc : α → Value} {m : List (Int × α)} (hm : MapIs w B enc m) : OSeg w' base v xs :=
 h.step fun k _ ⟨cur, hk⟩ => ht.far k (hm.ne hk)
theorem OSeg.shape {w : World} {base : Nat} {v : Value} {xs : List Int} (h : OSeg w base v xs) : ∃ A c, v = .slice A xs.length c := by
 obtain ⟨A, c, e, _⟩ := h
 exact ⟨A, c, e⟩
theorem OSeg.max {w : World} {base : Nat} {v : Value} {xs : List Int} (h : OSeg w base v xs) : xs.length ≤ maxLen := by
 obtain ⟨A, c, e, h1, h2, _⟩ := h
 omega
/-- The first number of a slice that has one. -/
theorem OSeg.head {w : World} {base : Nat} {A : Option Addr} {n c : Nat} {x : Int} {xs : List Int} (h : OSeg w base (.slice A n c) (x :: xs)) : ∃ a, A = some a ∧ w.cell? (a.add 0) = some (.int .i64 x) ∧ w.cell? a = some (.int .i64 x) := by
 obtain ⟨A', c', e, h1, h2, h3, h4⟩ := h
 injection e with e1 e2 e3
 subst e1 e2 e3
 cases A with
 | none => have := h3 rfl; simp at h1; omega
 | some a =>
  obtain ⟨cur, s⟩ := h4 a rfl
  have hc := s.at_ 0 (by simp)
  obtain ⟨g, o, sp⟩ := a
  obtain rfl : sp = none := s.sp
  have : w.cell? ⟨g, o, none⟩ = some (.int .i64 x) := by
   have e := blk_cell s.blk o
   simp only [Nat.add_zero] at hc
   rw [e, hc]; rfl
  exact ⟨_, rfl, by rw [show (⟨g, o, none⟩ : Addr).add 0 = ⟨g, o, none⟩ by unfold Addr.add; split <;> simp_all]; exact this, this⟩
/-- The rest of it. -/
theorem OSeg.tail {w : World} {base : Nat} {A : Option Addr} {n c : Nat} {x : Int} {xs : List Int} (h : OSeg w base (.slice A n c) (x :: xs)) : OSeg w base (.slice (if c = 1 then A else A.map (·.add 1)) (n - 1) (c - 1)) xs := by
 obtain ⟨A', c', e, h1, h2, h3, h4⟩ := h
 injection e with e1 e2 e3
 subst e1 e2 e3
 simp only [List.length_cons] at h1 ⊢
 refine ⟨_, _, rfl, by omega, by omega, fun hA => ?_, fun a ha => ?_⟩
 ·by_cases hc : c = 1
  ·omega
  ·rw [if_neg hc] at hA
   have := h3 (by simpa using hA)
   omega
 ·by_cases hc : c = 1
  ·rw [if_pos hc] at ha
   obtain ⟨cur, s⟩ := h4 a ha
   refine ⟨cur, s.sp, s.lo, s.blk, by have := s.fit; omega, fun j hj => ?_⟩
   omega
  ·rw [if_neg hc] at ha
   obtain ⟨a0, hA, rfl⟩ := Option.map_eq_some_iff.mp ha
   obtain ⟨cur, s⟩ := h4 a0 hA
   obtain ⟨g, o, sp⟩ := a0
   obtain rfl : sp = none := s.sp
   have e : (⟨g, o, none⟩ : Addr).add 1 = ⟨g, o + 1, none⟩ := by unfold Addr.add; split <;> simp_all
   rw [e]
   refine ⟨cur, rfl, s.lo, s.blk, by have := s.fit; simp only at this ⊢; omega, fun j hj => ?_⟩
   have := s.at_ (j + 1) (by simp; omega)
   simp only [List.getD_cons_succ] at this
   simp only
   rw [show o + 1 + j = o + (j + 1) by omega]
   exact this
theorem OSeg.one {w : World} {g base : Nat} {x : Int} (h : w.heap[g]? = some (.cells #[.int .i64 x] 3 (0, 0))) (hb : base ≤ g) : OSeg w base (.slice (some ⟨g, 0, none⟩) 1 1) [x] :=
 ⟨_, _, rfl, Nat.le_refl _, by decide, fun h => (by cases h), fun a ha => by
  injection ha with ha
  subst ha
  exact ⟨_, rfl, hb, h, by simp, fun j hj => by
   obtain rfl : j = 0 := by simpa using hj
   rfl⟩⟩
theorem wpList_append_seg {ops : Array Oper} {rest : List Oper} {o : Oper} {a : Act} {Q : Exit → Act → World → Prop} (w : World) (base : Nat)
  (hg : o.guard = none) (s x : Operand) (hop : o.op = Op.call { callee := Callee.builtin Builtin.append, args := #[s, x], argTypes := #[36, 36] })
  (v : Value) (xs : List Int) (hs : a.eval s = v) (hv : OSeg w base v xs) (g : Nat) (y : Int) (hx : a.eval x = .slice (some ⟨g, 0, none⟩) 1 1) (hc : w.cell? ⟨g, 0, none⟩ = some (.int .i64 y)) (hbase : base ≤ w.heap.size) (hl : xs.length < 17592186044415)
  (hK : ∀ v' w', OSeg w' base v' (xs ++ [y]) → Turn3 w w' base → wpList Try.prog ops Q rest (a.put o.dst v') w') : wpList Try.prog ops Q (o :: rest) a w := by
 obtain ⟨i0, hi, hz0, hz1, hz2⟩ := info_parts info3
 obtain ⟨A, c, rfl, h1, h2, h3, h4⟩ := hv
 have hnews : ∀ j u, ([Value.int .i64 y] : List Value)[j]? = some u → w.cell? ((⟨g, 0, none⟩ : Addr).add j) = some u := fun j u hj => by
  cases j with
  | zero => simp only [List.getElem?_cons_zero, Option.some.injEq] at hj; subst hj; rw [show (⟨g, 0, none⟩ : Addr).add 0 = ⟨g, 0, none⟩ by unfold Addr.add; split <;> simp_all]; exact hc
  | succ j => simp at hj
 have h1c : ∀ u ∈ ([Value.int .i64 y] : List Value), u.oneCell' = true := fun u hu => by rw [List.mem_singleton.1 hu]; rfl
 have grown : ∀ (v' : Value) (w' : World), w'.ownsRow w.heap.size 3 1 v' (xs.length + 1) (xs.map (Value.int .i64) ++ [.int .i64 y]) → w.grownBy w' none → wpList Try.prog ops Q rest (a.put o.dst v') w' := fun v' w' ho hgr => by
  refine hK v' w' ?_ ⟨hgr.os, hgr.tape, hgr.output, hgr.size, fun k hk _ => hgr.block k hk (by simp)⟩
  rcases ho.2 with ⟨_, e⟩ | ⟨g', cap, cur, rfl, hb', hh, hcap, hcm, hsz, htk⟩
  ·omega
  ·refine ⟨some ⟨g', 0, none⟩, cap, by simp, by simp; omega, hcm, fun h => (by cases h), fun a ha => ?_⟩
   injection ha with ha
   subst ha
   refine ⟨cur, rfl, by simp only; omega, hh, by simp only; omega, fun j hj => ?_⟩
   have hj' : j < xs.length + 1 := by simpa using hj
   have e := congrArg (fun l => l[j]?) htk
   simp only [Nat.mul_one] at e
   rw [List.getElem?_take_of_lt hj', Array.getElem?_toList] at e
   simp only [Nat.zero_add]
   rw [e]
   by_cases hjx : j < xs.length
   ·rw [List.getElem?_append_left (by simpa using hjx), List.getElem?_map, List.getElem?_eq_getElem hjx]
    simp [List.getD_eq_getElem?_getD, List.getElem?_append_left hjx, List.getElem?_eq_getElem hjx]
   ·obtain rfl : j = xs.length := by omega
    simp [List.getD_eq_getElem?_getD]
 have olds : ∀ a, A = some a → ∀ j u, (xs.map (Value.int .i64))[j]? = some u → w.cell? (a.add j) = some u := fun a ha j u hj => by
  obtain ⟨cur, sg⟩ := h4 a ha
  obtain ⟨g1, o1, sp⟩ := a
  obtain rfl : sp = none := sg.sp
  have hjl : j < xs.length := by
   have := (List.getElem?_eq_some_iff.1 hj).1
   simpa using this
  rw [Addr.add_lit, blk_cell sg.blk, sg.at_ j hjl, ← hj, List.getElem?_map, List.getElem?_eq_getElem hjl]
  simp [List.getD_eq_getElem?_getD, List.getElem?_eq_getElem hjl]
 by_cases hroom : xs.length + 1 ≤ c
 ·cases A with
  | none => have := h3 rfl; omega
  | some a1 =>
   obtain ⟨cur, sg⟩ := h4 a1 rfl
   have oldsA := olds a1 rfl
   obtain ⟨g1, o1, sp⟩ := a1
   obtain rfl : sp = none := sg.sp
   have hfit := sg.fit
   simp only at hfit
   have hrow := setCells_row (g := g1) (e := 3) [Value.int .i64 y] (o1 + xs.length) w cur sg.blk (by simp; omega)
   refine wpList_append_arg w hg s x 36 hop 3 i0 (.int .i64 0) 1 8 Try.underlying36 hi hz0 hz1 hz2 rfl (by decide) g1 o1 xs.length c (xs.map (Value.int .i64)) hs (by simp) (fun j u hj => by have := oldsA j u hj; rwa [Addr.add_lit] at this) ⟨g, 0, none⟩ 1 1 [.int .i64 y] hx rfl hnews h1c ?_ (by unfold maxLen; omega) (by omega) ?_ ?_
   ·intro _ j hj
    obtain rfl : j = 0 := by simpa using hj
    rw [blk_cell sg.blk, blk_frozen sg.blk]
    simp only [Nat.mul_one, Nat.add_zero, and_true]
    rw [Array.getElem?_eq_getElem (by omega)]; rfl
   ·intro _
    rw [Nat.mul_one]
    refine hK _ _ ?_ ?_
    ·obtain ⟨cur2, hb2, hs2, hat2⟩ : ∃ cur2, (w.setCells g1 (o1 + xs.length) [Value.int .i64 y]).heap[g1]? = some (.cells cur2 3 (0, 0)) ∧ cur2.size = cur.size ∧ ∀ j, cur2[j]? = if j = o1 + xs.length then some (.int .i64 y) else cur[j]? := by
      refine ⟨cur.setIfInBounds (o1 + xs.length) (.int .i64 y), ?_, by simp, fun j => ?_⟩
      ·show (w.setCell ⟨g1, o1 + xs.length, none⟩ (.int .i64 y)).heap[g1]? = _
       exact blk_put sg.blk _ _ rfl
      ·rw [Array.getElem?_setIfInBounds]
       by_cases hj : j = o1 + xs.length
       ·subst hj; rw [if_pos rfl, if_pos rfl, if_pos (by omega)]
       ·rw [if_neg (fun h => hj h.symm), if_neg hj]
     refine ⟨some ⟨g1, o1, none⟩, c, by simp, by simp; omega, h2, fun h => (by cases h), fun a ha => ?_⟩
     injection ha with ha
     subst ha
     refine ⟨cur2, rfl, sg.lo, hb2, by simp only; omega, fun j hj => ?_⟩
     simp only
     rw [hat2]
     have hj' : j < xs.length + 1 := by simpa using hj
     by_cases hjx : j < xs.length
     ·rw [if_neg (by omega)]
      have := sg.at_ j hjx
      simp only at this
      rw [this]
      simp [List.getD_eq_getElem?_getD, List.getElem?_append_left hjx, List.getElem?_eq_getElem hjx]
     ·obtain rfl : j = xs.length := by omega
      rw [if_pos rfl]
      simp [List.getD_eq_getElem?_getD]
    ·obtain ⟨q1, q2, q3, q4⟩ := setCells_same g1 [Value.int .i64 y] (o1 + xs.length) w
     refine ⟨q1, q2, q3, by omega, fun k hk ho => setCells_far _ _ k (fun e => ?_)⟩
     subst e
     have hlo := sg.lo
     simp only at hlo
     rcases ho with ho | ho
     ·omega
     ·exact ho cur sg.blk
   ·intro _ v' w' ho hgr
    exact grown v' w' ho hgr
 ·refine wpList_append_grows w hg s x 36 hop 3 i0 (.int .i64 0) 1 8 Try.underlying36 hi hz0 hz1 hz2 rfl (by decide) A xs.length c (xs.map (Value.int .i64)) hs (fun h => by have := h3 h; omega) (by simp) (fun b hb j u hj => olds b hb j u hj) ⟨g, 0, none⟩ 1 1 [.int .i64 y] hx rfl hnews h1c (by omega) (by unfold maxLen; omega) (by omega) (fun v' w' ho hgr => grown v' w' ho hgr)
def encS (x : Int × Bool) : Value := .agg #[.int .i64 x.1, .bool x.2]
def visitP (node : Int) (x : Int × Bool) (m : List (Int × (Int × Bool))) (q : List Int) : List (Int × (Int × Bool)) × List Int :=
 if (mlook m node).isSome then (m, q) else (mput m node x, q ++ [node])
structure RState (w W : World) (gS gO B : Nat) (m : List (Int × (Int × Bool))) (v : Value) (q : List Int) : Prop where
 b : Below w.heap.size w W
 s : W.heap[gS]? = some (.cells #[.map (some B)] 87 (0, 0))
 o : W.heap[gO]? = some (.cells #[v] 36 (0, 0))
 q : OSeg W w.heap.size v q
 m : MapIs W B encS m
 ls : w.heap.size ≤ gS
 lo : w.heap.size ≤ gO
 lb : w.heap.size ≤ B
section
variable {w W W1 : World} {gS gO B : Nat} {m : List (Int × (Int × Bool))} {v : Value} {q : List Int}
theorem RState.step (h : RState w W gS gO B m v q) (hb : Below W.heap.size W W1) : RState w W1 gS gO B m v q :=
 ⟨below_step h.b hb, blk_below h.s hb, blk_below h.o hb, h.q.below hb, h.m.below hb, h.ls, h.lo, h.lb⟩
theorem RState.ne (h : RState w W gS gO B m v q) : gO ≠ gS := fun e => by
 have h1 := h.o
 rw [e, h.s] at h1
 injection h1 with h1; injection h1 with _ h1 _; exact absurd h1 (by decide)
theorem RState.set (h : RState w W gS gO B m v q) {g t : Nat} {cs : Array Value} (hx : W.heap[g]? = some (.cells cs t (0, 0))) (ht : t ≠ 3 ∧ t ≠ 36 ∧ t ≠ 87) (hge : w.heap.size ≤ g) (i : Nat) (u : Value) : RState w (W.setCell ⟨g, i, none⟩ u) gS gO B m v q :=
 ⟨below_set h.b hge, blk_far h.s (p := ⟨g, i, none⟩) (fun e => by have e : gS = g := e; have h1 := h.s; rw [e, hx] at h1; injection h1 with h1; injection h1 with _ h1 _; exact ht.2.2 h1) u,
  blk_far h.o (p := ⟨g, i, none⟩) (fun e => by have e : gO = g := e; have h1 := h.o; rw [e, hx] at h1; injection h1 with h1; injection h1 with _ h1 _; exact ht.2.1 h1) u, h.q.far hx ht.1 i u, h.m.far hx i u, h.ls, h.lo, h.lb⟩
theorem RState.cS (h : RState w W gS gO B m v q) : W.cell? ⟨gS, 0, none⟩ = some (.map (some B)) := (blk_cell h.s 0).trans rfl
theorem RState.cO (h : RState w W gS gO B m v q) : W.cell? ⟨gO, 0, none⟩ = some v := (blk_cell h.o 0).trans rfl
theorem RState.fO (h : RState w W gS gO B m v q) : W.frozen? ⟨gO, 0, none⟩ = false := blk_frozen h.o 0
theorem RState.turn (h : RState w W gS gO B m v q) {m' : List (Int × (Int × Bool))} (ht : MapTurn W W1 B) (hm : MapIs W1 B encS m') : RState w W1 gS gO B m' v q :=
 ⟨ht.below h.b h.lb, ht.blk h.s (h.m.ne h.s), ht.blk h.o (h.m.ne h.o), h.q.turn ht h.m, hm, h.ls, h.lo, h.lb⟩
theorem RState.push (h : RState w W gS gO B m v q) {v' : Value} {q' : List Int} (ht : Turn3 W W1 w.heap.size) (hq : OSeg W1 w.heap.size v' q') : RState w (W1.setCell ⟨gO, 0, none⟩ v') gS gO B m v' q' :=
 have o1 := ht.cells h.o (by decide)
 ⟨below_set (ht.below h.b h.b.size) h.lo, blk_far (ht.cells h.s (by decide)) (p := ⟨gO, 0, none⟩) h.ne.symm v', blk_put o1 0 v' rfl, hq.far o1 (by decide) 0 v', (ht.map h.m).far o1 0 v', h.ls, h.lo, h.lb⟩
theorem RState.cut (h : RState w W gS gO B m v q) {v' : Value} {q' : List Int} (hq : OSeg W w.heap.size v' q') : RState w (W.setCell ⟨gO, 0, none⟩ v') gS gO B m v' q' :=
 ⟨below_set h.b h.lo, blk_far h.s (p := ⟨gO, 0, none⟩) h.ne.symm v', blk_put h.o 0 v' rfl, hq.far h.o (by decide) 0 v', h.m.far h.o 0 v', h.ls, h.lo, h.lb⟩
end
/-- What the closure leaves of the other blocks. -/
def Keeps (W W' : World) (gO : Nat) : Prop := ∀ g cs t, W.heap[g]? = some (.cells cs t (0, 0)) → t ≠ 3 → g ≠ gO → W'.heap[g]? = some (.cells cs t (0, 0))
theorem Keeps.refl (W : World) (gO : Nat) : Keeps W W gO := fun _ _ _ h _ _ => h
theorem Keeps.trans {W W1 W2 : World} {gO : Nat} (h : Keeps W W1 gO) (h' : Keeps W1 W2 gO) : Keeps W W2 gO := fun g cs t hg ht hn => h' g cs t (h g cs t hg ht hn) ht hn
theorem Keeps.below {W W1 : World} {gO : Nat} (hb : Below W.heap.size W W1) : Keeps W W1 gO := fun _ _ _ h _ _ => blk_below h hb
theorem Keeps.set {W : World} {gO g : Nat} (hg : ∀ o, W.heap[g]? = some o → False) (i : Nat) (u : Value) : Keeps W (W.setCell ⟨g, i, none⟩ u) gO := fun k cs t h _ _ => blk_far h (p := ⟨g, i, none⟩) (fun e => by have e : k = g := e; subst e; exact hg _ h) u
theorem Keeps.turn {W W1 : World} {gO B : Nat} (h : MapTurn W W1 B) {α : Type} {enc : α → Value} {m : List (Int × α)} (hm : MapIs W B enc m) : Keeps W W1 gO := fun k cs t hk _ _ => h.blk hk (hm.ne hk)
theorem Keeps.turn3 {W W1 : World} {gO base : Nat} (h : Turn3 W W1 base) : Keeps W W1 gO := fun k cs t hk ht _ => h.cells hk ht
theorem Keeps.cell {W : World} {gO : Nat} (u : Value) : Keeps W (W.setCell ⟨gO, 0, none⟩ u) gO := fun k cs t hk _ hn => blk_far hk (p := ⟨gO, 0, none⟩) hn u
/-- .. from a world on: what is new in between may turn. -/
theorem Keeps.over {W W1 W2 : World} {gO : Nat} (h : Keeps W W1 gO) (h2 : ∀ g, g < W.heap.size → g ≠ gO → W2.heap[g]? = W1.heap[g]?) : Keeps W W2 gO := fun g cs t hg ht hn => (h2 g (blk_lt hg) hn).trans (h g cs t hg ht hn)
theorem zero90 (w : World) : (zeroValue 90).run Try.prog w = .ok (encS (0, false)) w := by kernel_rfl
section
variable {ops : Array Oper} {rest : List Oper} {o : Oper} {a : Act} {Q : Exit → Act → World → Prop} {w : World} {B : Nat} {M : List (Int × (Int × Bool))}
theorem wpList_look_ok (hg : o.guard = none) (m x : Operand) (hop : o.op = Op.lookup 87 m x true) (hm : a.eval m = .map (some B)) (hM : MapIs w B encS M) (key : Int) (hx : a.eval x = .int .i64 key) (i : Int) (b ok : Bool) (hv : (mlook M key).getD (0, false) = (i, b)) (hok : (mlook M key).isSome = ok)
  (hK : wpList Try.prog ops Q rest (a.put o.dst (.tuple #[.agg #[.int .i64 i, .bool b], .bool ok])) w) : wpList Try.prog ops Q (o :: rest) a w := by
 refine wpList_plain hg fun K' hK' => ?_
 have hrun := run_mlook Try.underlying3 Try.underlying87 (0, false) (zero90 w) hM key true
 rw [if_pos rfl, hv, hok] at hrun
 unfold Oper.wp
 simp [execOp, hop, hm, hx, hrun, Result.andThen]
 exact hK' _ _ hK
theorem wpList_look_at (hg : o.guard = none) (m x : Operand) (hop : o.op = Op.lookup 87 m x false) (hm : a.eval m = .map (some B)) (hM : MapIs w B encS M) (key : Int) (hx : a.eval x = .int .i64 key) (i : Int) (b : Bool) (hv : (mlook M key).getD (0, false) = (i, b))
  (hK : wpList Try.prog ops Q rest (a.put o.dst (.agg #[.int .i64 i, .bool b])) w) : wpList Try.prog ops Q (o :: rest) a w := by
 refine wpList_plain hg fun K' hK' => ?_
 have hrun := run_mlook Try.underlying3 Try.underlying87 (0, false) (zero90 w) hM key false
 rw [if_neg (by simp), hv] at hrun
 unfold Oper.wp
 simp [execOp, hop, hm, hx, hrun, Result.andThen]
 exact hK' _ _ hK
theorem wpList_mput (hg : o.guard = none) (m x v : Operand) (hop : o.op = Op.mapUpdate 87 m x v) (hm : a.eval m = .map (some B)) (hM : MapIs w B encS M) (key : Int) (hx : a.eval x = .int .i64 key) (i : Int) (b : Bool) (hv : a.eval v = .agg #[.int .i64 i, .bool b])
  (hK : ∀ w', MapIs w' B encS (mput M key (i, b)) → MapTurn w w' B → wpList Try.prog ops Q rest (a.put o.dst undef) w') : wpList Try.prog ops Q (o :: rest) a w := by
 refine wpList_plain hg fun K' hK' => ?_
 obtain ⟨w', h1, h2, h3, h4, h5, h6, h7⟩ := run_mput (enc := encS) Try.underlying3 Try.underlying87 hM key (i, b)
 have h1' : (Instr.mapUpdate 87 (.map (some B)) (.int .i64 key) (.agg #[.int .i64 i, .bool b])).run Try.prog w = .ok () w' := h1
 unfold Oper.wp
 simp [execOp, hop, hm, hx, hv, h1', Result.andThen]
 exact hK' _ _ (hK w' h2 ⟨h3, h4, h5, h6, h7⟩)
end
set_option maxRecDepth 10000 in
set_option maxHeartbeats 4000000 in
theorem flow_visit.calls (w W : World) (gS gO B : Nat) (m : List (Int × (Int × Bool))) (v : Value) (q : List Int) (node : Int) (x1 : Int) (x2 : Bool) (h : RState w W gS gO B m v q) (hq : q.length < 17592186044415) :
  Calls Try.prog 67 #[.int .i64 node, .agg #[.int .i64 x1, .bool x2], .pointer (some ⟨gS, 0, none⟩), .pointer (some ⟨gO, 0, none⟩)] W fun e W' => e = .returned (.tuple #[]) ∧ (∃ v', RState w W' gS gO B (visitP node (x1, x2) m q).1 v' (visitP node (x1, x2) m q).2) ∧ Keeps W W' gO := by
 have hu90 := Try.underlying90
 obtain ⟨Aq, cq, rfl⟩ := h.q.shape
 have RS := a_ h
 have HQ := a_ hq
 have hcS := RS.out.cS
 have hcO := RS.out.cO
 have hfO := RS.out.fO
 clear h hq
 unfold visitP
 cases hl : mlook m node with
 | some y =>
  obtain ⟨i, b⟩ := y
  have HL : Aside0 ((mlook m node).getD (0, false) = (i, b)) := ⟨by rw [hl]; rfl⟩
  have HI : Aside0 ((mlook m node).isSome = true) := ⟨by rw [hl]; rfl⟩
  clear hl
  go_enter Try.func67, Try.ntmps67
  go_wp2_with (first | ((with_reducible refine gate_dst (N := 5) rfl ?_); refine box_event ?hg (N := 5) ?hd (cs := #[.int .i64 x1, .bool x2]) (t := 90) ?hr ?_; (case hd => rfl); (case hg => rfl); (case hr => first | (go_simp; done) | (go_simp; rfl)); intro gP hg W1 hbox hb; have GP := a_ ((by rw [hg]; exact below_size RS.out.b) : w.heap.size ≤ gP); have BP := a_ hbox; have KP := a_ ((Keeps.below hb : Keeps W W1 gO)); have LP := a_ ((by rw [hg]; exact Nat.le_refl _) : W.heap.size ≤ gP); have RS1 := a_ (RS.out.step hb); clear RS hb hg hbox hcS hcO hfO; have RS := RS1; clear RS1; have hcS := RS.out.cS; have hcO := RS.out.cO; have hfO := RS.out.fO; have hp0 : W1.cell? ⟨gP, 0, none⟩ = some (.int .i64 x1) := (blk_cell BP.out 0).trans rfl; have hp1 : W1.cell? ⟨gP, 1, none⟩ = some (.bool x2) := (blk_cell BP.out 1).trans rfl) | (at_lookup; refine wpList_look_ok rfl _ _ rfl rfl RS.out.m node rfl i b true HL.out HI.out ?_) | ((with_reducible refine gate_dst (N := 6) rfl ?_); refine box_event ?hg (N := 6) ?hd (cs := #[.int .i64 0, .bool false]) (t := 90) ?hr ?_; (case hd => rfl); (case hg => rfl); (case hr => first | (go_simp; done) | (go_simp; rfl)); intro gT hg W2 hbox hb; have GT := a_ ((by rw [hg]; exact below_size RS.out.b) : w.heap.size ≤ gT); have BT := a_ hbox; have KT := a_ (KP.out.trans (Keeps.below hb)); have LT := a_ ((by rw [hg]; exact Nat.le_of_lt (Nat.lt_of_le_of_lt LP.out (blk_lt BP.out))) : W.heap.size ≤ gT); have BP1 := a_ (blk_below BP.out hb); have RS1 := a_ (RS.out.step hb); have NTP := a_ ((by rw [hg]; exact Nat.ne_of_lt (blk_lt BP.out)) : gP ≠ gT); clear RS BP KP hb hg hbox hcS hcO hfO hp0 hp1; have RS := RS1; have BP := BP1; clear RS1 BP1; have hcS := RS.out.cS; have hcO := RS.out.cO; have hfO := RS.out.fO; have hp0 : W2.cell? ⟨gP, 0, none⟩ = some (.int .i64 x1) := (blk_cell BP.out 0).trans rfl; have hp1 : W2.cell? ⟨gP, 1, none⟩ = some (.bool x2) := (blk_cell BP.out 1).trans rfl; have ht0 : W2.cell? ⟨gT, 0, none⟩ = some (.int .i64 0) := (blk_cell BT.out 0).trans rfl; have ht1 : W2.cell? ⟨gT, 1, none⟩ = some (.bool false) := (blk_cell BT.out 1).trans rfl; have hg0 := blk_frozen BT.out 0; have hg1 := blk_frozen BT.out 1; have hntp := NTP.out; have hnts : gS ≠ gT := bne_ RS.out.s BT.out (by decide); have hnto : gO ≠ gT := bne_ RS.out.o BT.out (by decide)))
  have BT1 := blk_put (cs' := #[.int .i64 i, .bool false]) BT.out 0 (.int .i64 i) rfl
  have RS1 := (RS.out.set BT.out (by decide) GT.out 0 (.int .i64 i)).set BT1 (by decide) GT.out 1 (.bool b)
  have K1 := KT.out.over (W2 := ((W2.setCell ⟨gT, 0, none⟩ (.int .i64 i)).setCell ⟨gT, 1, none⟩ (.bool b))) (fun g hg hn => by rw [Below.heap_setCell _ _ _ g (show g ≠ gT by have := LT.out; omega), Below.heap_setCell _ _ _ g (show g ≠ gT by have := LT.out; omega)])
  go_end0
  exact ⟨rfl, ⟨_, RS1⟩, K1⟩
 | none =>
  have HL : Aside0 ((mlook m node).getD (0, false) = (0, false)) := ⟨by rw [hl]; rfl⟩
  have HI : Aside0 ((mlook m node).isSome = false) := ⟨by rw [hl]; rfl⟩
  clear hl
  go_enter Try.func67, Try.ntmps67
  go_wp2_with (first | ((with_reducible refine gate_dst (N := 5) rfl ?_); refine box_event ?hg (N := 5) ?hd (cs := #[.int .i64 x1, .bool x2]) (t := 90) ?hr ?_; (case hd => rfl); (case hg => rfl); (case hr => first | (go_simp; done) | (go_simp; rfl)); intro gP hg W1 hbox hb; have GP := a_ ((by rw [hg]; exact below_size RS.out.b) : w.heap.size ≤ gP); have BP := a_ hbox; have KP := a_ ((Keeps.below hb : Keeps W W1 gO)); have LP := a_ ((by rw [hg]; exact Nat.le_refl _) : W.heap.size ≤ gP); have RS1 := a_ (RS.out.step hb); clear RS hb hg hbox hcS hcO hfO; have RS := RS1; clear RS1; have hcS := RS.out.cS; have hcO := RS.out.cO; have hfO := RS.out.fO; have hp0 : W1.cell? ⟨gP, 0, none⟩ = some (.int .i64 x1) := (blk_cell BP.out 0).trans rfl; have hp1 : W1.cell? ⟨gP, 1, none⟩ = some (.bool x2) := (blk_cell BP.out 1).trans rfl) | (at_lookup; refine wpList_look_ok rfl _ _ rfl rfl RS.out.m node rfl 0 false false HL.out HI.out ?_) | ((with_reducible refine gate_dst (N := 6) rfl ?_); refine box_event ?hg (N := 6) ?hd (cs := #[.int .i64 0, .bool false]) (t := 90) ?hr ?_; (case hd => rfl); (case hg => rfl); (case hr => first | (go_simp; done) | (go_simp; rfl)); intro gT hg W2 hbox hb; have GT := a_ ((by rw [hg]; exact below_size RS.out.b) : w.heap.size ≤ gT); have BT := a_ hbox; have KT := a_ (KP.out.trans (Keeps.below hb)); have LT := a_ ((by rw [hg]; exact Nat.le_of_lt (Nat.lt_of_le_of_lt LP.out (blk_lt BP.out))) : W.heap.size ≤ gT); have BP1 := a_ (blk_below BP.out hb); have RS1 := a_ (RS.out.step hb); have NTP := a_ ((by rw [hg]; exact Nat.ne_of_lt (blk_lt BP.out)) : gP ≠ gT); clear RS BP KP hb hg hbox hcS hcO hfO hp0 hp1; have RS := RS1; have BP := BP1; clear RS1 BP1; have hcS := RS.out.cS; have hcO := RS.out.cO; have hfO := RS.out.fO; have hp0 : W2.cell? ⟨gP, 0, none⟩ = some (.int .i64 x1) := (blk_cell BP.out 0).trans rfl; have hp1 : W2.cell? ⟨gP, 1, none⟩ = some (.bool x2) := (blk_cell BP.out 1).trans rfl; have ht0 : W2.cell? ⟨gT, 0, none⟩ = some (.int .i64 0) := (blk_cell BT.out 0).trans rfl; have ht1 : W2.cell? ⟨gT, 1, none⟩ = some (.bool false) := (blk_cell BT.out 1).trans rfl; have hg0 := blk_frozen BT.out 0; have hg1 := blk_frozen BT.out 1; have hntp := NTP.out; have hnts : gS ≠ gT := bne_ RS.out.s BT.out (by decide); have hnto : gO ≠ gT := bne_ RS.out.o BT.out (by decide)) | (at_mapUpdate; have BT1 := blk_put (cs' := #[.int .i64 0, .bool false]) BT.out 0 (.int .i64 0) rfl; have RS1 := a_ ((RS.out.set BT.out (by decide) GT.out 0 (.int .i64 0)).set BT1 (by decide) GT.out 1 (.bool false)); have K1 := a_ (KT.out.over (W2 := ((W2.setCell ⟨gT, 0, none⟩ (.int .i64 0)).setCell ⟨gT, 1, none⟩ (.bool false))) (fun g hg hn => by rw [Below.heap_setCell _ _ _ g (show g ≠ gT by have := LT.out; omega), Below.heap_setCell _ _ _ g (show g ≠ gT by have := LT.out; omega)])); refine wpList_mput rfl _ _ _ rfl rfl RS1.out.m node rfl x1 x2 rfl ?_; intro W3 hm ht; have K2 := a_ (K1.out.trans (Keeps.turn ht RS1.out.m)); have RS2 := a_ (RS1.out.turn ht hm); clear BT1 RS RS1 KT K1 BT BP hm ht hcS hcO hfO hp0 hp1 ht0 ht1 hg0 hg1 hntp hnts hnto NTP; have RS := RS2; have KT := K2; clear RS2 K2; have hcS := RS.out.cS; have hcO := RS.out.cO; have hfO := RS.out.fO) | ((with_reducible refine gate_builtin (b := .append) (xs := #[.tmp 19, .tmp 21]) rfl ?_); at_builtin; have hbn := below_alloc (Below.refl W3.heap.size W3) (.cells #[.int .i64 node] 3); have RS1 := a_ (RS.out.step hbn); have K1 := a_ (KT.out.trans (Keeps.below (gO := gO) hbn)); refine wpList_append_seg _ w.heap.size rfl _ _ rfl _ q rfl RS1.out.q W3.heap.size node rfl ((blk_cell (heap_alloc_new W3 _) 0).trans rfl) RS1.out.b.size HQ.out ?_; intro v' W4 hq ht; have RS2 := a_ (RS1.out.push ht hq); have K2 := a_ ((K1.out.trans (Keeps.turn3 ht)).trans (Keeps.cell v')); obtain ⟨A2, c2, rfl⟩ := hq.shape; have O4 := ht.cells RS1.out.o (by decide); clear RS RS1 KT K1 hcS hcO hfO hbn hq ht; have hcO : W4.cell? ⟨gO, 0, none⟩ = some (.slice Aq q.length cq) := (blk_cell O4 0).trans rfl; have hfO := blk_frozen O4 0; clear O4))
  simp only [List.length_append, List.length_singleton] at RS2 K2
  go_end0
  exact ⟨rfl, ⟨_, RS2.out⟩, K2.out⟩

/-- The edges, one after the other, seen from a node that is taken out of the queue. -/
def reachE (node : Int) : List S67 → List Int → Int → List (Int × (Int × Bool)) → List Int → Option (List (Int × (Int × Bool)) × List Int)
 | [], _, _, m, q => some (m, q)
 | _ :: _, [], _, _, _ => none
 | e :: es, x :: xs, i, m, q =>
  if q.length < 17592186044413 then
   (let st1 := if e.f1 = node ∧ x < e.f3 then visitP e.f2 (i, false) m q else (m, q)
    let st2 := if e.f2 = node ∧ 0 < x then visitP e.f1 (i, true) st1.1 st1.2 else st1
    reachE node es xs (i + 1) st2.1 st2.2)
  else none
def reachO (l : List S67) (f : List Int) : Nat → List (Int × (Int × Bool)) → List Int → Option (List (Int × (Int × Bool)))
 | 0, _, _ => none
 | _ + 1, m, [] => some m
 | k + 1, m, n :: q => (reachE n l f 0 m q).bind fun st => reachO l f k st.1 st.2
def flow_reach.f (k : Nat) (l : List S67) (f : List Int) (s : Int) : Option (List (Int × (Int × Bool))) := reachO l f k [(s, (-1, false))] [s]
section
variable {ops : Array Oper} {rest : List Oper} {o : Oper} {a : Act} {Q : Exit → Act → World → Prop} {w : World} {B : Nat} {M : List (Int × (Int × Bool))}
theorem wpList_insert (hg : o.guard = none) (m x v : Operand) (hop : o.op = Op.insert 87 m x v) (hm : a.eval m = .map (some B)) (hM : MapIs w B encS M) (key : Int) (hx : a.eval x = .int .i64 key) (i : Int) (b : Bool) (hv : a.eval v = .agg #[.int .i64 i, .bool b])
  (hK : ∀ w', MapIs w' B encS (mput M key (i, b)) → MapTurn w w' B → wpList Try.prog ops Q rest (a.put o.dst undef) w') : wpList Try.prog ops Q (o :: rest) a w := by
 refine wpList_plain hg fun K' hK' => ?_
 obtain ⟨w', h1, h2, h3, h4, h5, h6, h7⟩ := run_mput (enc := encS) Try.underlying3 Try.underlying87 hM key (i, b)
 have h1' : (Instr.mapUpdate 87 (.map (some B)) (.int .i64 key) (.agg #[.int .i64 i, .bool b])).run Try.prog w = .ok () w' := h1
 unfold Oper.wp
 simp [execOp, hop, hm, hx, hv, h1', Result.andThen]
 exact hK' _ _ (hK w' h2 ⟨h3, h4, h5, h6, h7⟩)
end
theorem visitP_len (node : Int) (x : Int × Bool) (m : List (Int × (Int × Bool))) (q : List Int) : (visitP node x m q).2.length ≤ q.length + 1 := by
 unfold visitP
 split <;> simp
theorem wpList_tail {ops : Array Oper} {rest : List Oper} {o : Oper} {a : Act} {Q : Exit → Act → World → Prop} {w : World} {base : Nat} (hg : o.guard = none) (s : Operand) (hop : o.op = Op.slice 36 s (some (.const (.int .i64 1))) none none) {A : Option Addr} {n c : Nat} {x : Int} {xs : List Int} (hs : a.eval s = .slice A n c) (hq : OSeg w base (.slice A n c) (x :: xs))
  (hK : ∀ A' c', OSeg w base (.slice A' xs.length c') xs → wpList Try.prog ops Q rest (a.put o.dst (.slice A' xs.length c')) w) : wpList Try.prog ops Q (o :: rest) a w := by
 refine wpList_plain hg fun K' hK' => ?_
 have ht := hq.tail
 obtain ⟨A1, c1, e, h1, _⟩ := hq
 injection e with e1 e2 e3
 subst e1 e2 e3
 simp only [List.length_cons] at hs h1 ht
 have hel : Try.prog.elem 36 = 3 := by kernel_rfl
 have hsz : (sizeOf 3).run Try.prog w = .ok 1 w := by kernel_rfl
 have hsa : (Instr.sliceAt 36 (.slice A (xs.length + 1) c) (some (.int .i64 1)) none none).run Try.prog w = (Instr.slice 36 (.slice A (xs.length + 1) c) (some (.int .i64 1)) none none).run Try.prog w := by
  simp [Instr.sliceAt, run_underlying Try.underlying36]
 have hrun : (Instr.sliceAt 36 (.slice A (xs.length + 1) c) (some (.int .i64 1)) none none).run Try.prog w = .ok (.slice (if c = 1 then A else A.map (·.add 1)) xs.length (c - 1)) w := by
  rw [hsa, run_slice_l (P := Try.prog) w 36 A (xs.length + 1) c (by rw [hel]; exact Try.underlying36) .i64 1 (by omega) (by omega), hel, hsz]
  simp [Result.andThen, sliced]
 unfold Oper.wp
 have hcv : a.eval (.const (.int .i64 1)) = .int .i64 1 := rfl
 simp [execOp, hop, hs, hcv, hrun, Result.andThen]
 exact hK' _ _ (hK _ _ (by simpa using ht))
set_option maxRecDepth 10000 in
set_option maxHeartbeats 8000000 in
theorem flow_reach.calls (k : Nat) (A0 : Option Addr) (c0 : Nat) (l : List S67) (A1 : Option Addr) (c1 : Nat) (f : List Int) (s : Int) (r : List (Int × (Int × Bool))) (w : World) (hr0 : Kd.C k67 w A0 l.length l) (hc0 : l.length ≤ c0) (hr1 : Kd.C (Kd.int .i64) w A1 f.length f) (hc1 : f.length ≤ c1) (h : flow_reach.f k l f s = some r) :
  Calls Try.prog 60 #[.slice A0 l.length c0, .slice A1 f.length c1, .int .i64 s] w fun e w' => ∃ B, e = .returned (.map (some B)) ∧ w.heap.size ≤ B ∧ MapIs w' B encS r ∧ Below w.heap.size w w' := by
 have hu65 := Try.underlying65
 have hu67 := Try.underlying67
 have hu90 := Try.underlying90
 have hmm := @run_makeMap Try.prog
 have hmf : ∀ (fn : Fn) (first cap : Array Value) (w : World), (Instr.makeFunc fn first cap).run Try.prog w = .ok (.func fn first cap) w := fun _ _ _ _ => rfl
 have HR0 := a_ hr0
 have HC0 := a_ hc0
 have HR1 := a_ hr1
 have HC1 := a_ hc1
 have HN := a_ (Kd.C_max hr0)
 have HH : Aside0 (reachO l f k [(s, (-1, false))] [s] = some r) := ⟨h⟩
 clear hr0 hc0 hr1 hc1 h
 go_enter Try.func60, Try.ntmps60
 go_wp2_with (first | (with_reducible refine wpList_insert rfl (.tmp 13) (.tmp 14) (.tmp 15) rfl rfl (MapIs.new encS w) s rfl (-1) false rfl ?_; intro W1 hm ht; have HB1 := a_ (ht.below (below_alloc (Below.refl w.heap.size w) (.map #[] 0)) (Nat.le_refl _)); have HM := a_ hm; clear hm ht) | ((with_reducible refine gate_dst (N := 7) rfl ?_); refine box_event ?hg (N := 7) ?hd (cs := #[.map none]) (t := 87) ?hr ?_; (case hd => rfl); (case hg => rfl); (case hr => first | (go_simp; done) | (go_simp; rfl)); intro gS hg W2 hbox hb; have GS := a_ ((by rw [hg]; exact HB1.out.size) : w.heap.size ≤ gS); have BS := a_ hbox; have HM1 := a_ (HM.out.below hb); have HB2 := a_ (below_step HB1.out hb); have hs0 : W2.cell? ⟨gS, 0, none⟩ = some (.map none) := (blk_cell BS.out 0).trans rfl; have hs1 := blk_frozen BS.out 0; clear HM HB1 hg hbox hb; have HM := HM1; clear HM1) | ((with_reducible refine gate_dst (N := 8) rfl ?_); have BS1 := blk_put (cs' := #[.map (some w.heap.size)]) BS.out 0 (.map (some w.heap.size)) rfl; have HM1 := HM.out.far BS.out 0 (.map (some w.heap.size)); have HB3 := below_set (j := 0) (v := .map (some w.heap.size)) HB2.out GS.out; have hbn := below_alloc (Below.refl (W2.setCell ⟨gS, 0, none⟩ (.map (some w.heap.size))).heap.size (W2.setCell ⟨gS, 0, none⟩ (.map (some w.heap.size)))) (.cells #[.int .i64 s] 3); have hsz : (W2.setCell ⟨gS, 0, none⟩ (.map (some w.heap.size))).heap.size = W2.heap.size := (by go_simp); have BQ := a_ (show (World.alloc (W2.setCell ⟨gS, 0, none⟩ (.map (some w.heap.size))) (.cells #[.int .i64 s] 3)).heap[W2.heap.size]? = some (.cells #[.int .i64 s] 3) by rw [← hsz]; exact heap_alloc_new _ _); have GQ := a_ (show w.heap.size ≤ W2.heap.size by rw [← hsz]; exact HB3.size); clear hsz; have BS2 := a_ (blk_below BS1 hbn); have HM2 := a_ (HM1.below hbn); have HB4 := a_ (below_step HB3 hbn); clear BS1 HM1 HB3 hbn HB2 HM BS hs0 hs1; have BS := BS2; have HM := HM2; clear BS2 HM2; (with_reducible refine gate_dst (N := 8) rfl ?_); refine box_event ?hg (N := 8) ?hd (cs := #[.slice none 0 0]) (t := 36) ?hr ?_; (case hd => rfl); (case hg => rfl); (case hr => first | (go_simp; done) | (go_simp; rfl)); intro gO hg W3 hbox hb; have GO := a_ ((by rw [hg]; exact HB4.out.size) : w.heap.size ≤ gO); have BO := a_ hbox; have BS2 := a_ (blk_below BS.out hb); have HM2 := a_ (HM.out.below hb); have BQ2 := a_ (blk_below BQ.out hb); have HB5 := a_ (below_step HB4.out hb); clear BS HM BQ HB4 hg hbox hb; have BS := BS2; have HM := HM2; have BQ := BQ2; clear BS2 HM2 BQ2; have ho0 : W3.cell? ⟨gO, 0, none⟩ = some (.slice none 0 0) := (blk_cell BO.out 0).trans rfl; have ho1 := blk_frozen BO.out 0))
 have RS : Aside0 (RState w (W3.setCell ⟨gO, 0, none⟩ (.slice (some ⟨W2.heap.size, 0, none⟩) 1 1)) gS gO w.heap.size [(s, (-1, false))] (.slice (some ⟨W2.heap.size, 0, none⟩) 1 1) [s]) := ⟨⟨below_set HB5.out GO.out, blk_far BS.out (p := ⟨gO, 0, none⟩) (bne_ BS.out BO.out (by decide)) _, blk_put BO.out 0 _ rfl, (OSeg.one BQ.out GQ.out).far BO.out (by decide) 0 _, HM.out.far BO.out 0 _, GS.out, GO.out, Nat.le_refl _⟩⟩
 clear HB5 GO BS BO BQ GQ HM GS ho0 ho1
 go_loopg [10] k (fun kq v10 w' => ∃ (m : List (Int × (Int × Bool))) (v : Value) (q : List Int), Aside0 (reachO l f kq m q = some r) ∧ Aside0 (RState w w' gS gO w.heap.size m v q))
 case atStart => exact ⟨_, _, _, HH, RS⟩
 case round =>
  clear RS HH
  obtain ⟨m, v, q, HA, RS⟩ := hrel
  cases gk with
  | zero => exact absurd HA.out (by simp [reachO])
  | succ k1 =>
  obtain ⟨Aq, cq, rfl⟩ := RS.out.q.shape
  cases q with
  | nil =>
   have ha := HA.out
   rw [reachO] at ha
   obtain rfl := Option.some.inj ha
   clear ha HA
   have hcO : wr.cell? ⟨gO, 0, none⟩ = some (.slice Aq 0 cq) := RS.out.cO
   have hcS := RS.out.cS
   go_wp2
   go_ret
   exact ⟨_, rfl, RS.out.lb, RS.out.m, RS.out.b⟩
  | cons n q =>
   have ha := HA.out
   rw [reachO] at ha
   obtain ⟨⟨m2, q2⟩, hE, hO⟩ := Option.bind_eq_some_iff.mp ha
   have HE := a_ hE
   have HO := a_ (show reachO l f k1 m2 q2 = some r from hO)
   clear ha hE hO HA
   obtain ⟨aq, rfl, hq0, hq1⟩ := RS.out.q.head
   have hcO : wr.cell? ⟨gO, 0, none⟩ = some (.slice (some aq) (q.length + 1) cq) := RS.out.cO
   have hfO := RS.out.fO
   have hcS := RS.out.cS
   have p1 : decide (0 < ((q.length + 1 : Nat) : Int)) = true := decide_eq_true (by omega)
   go_wp2_with (first | (refine wpList_tail (base := w.heap.size) (x := n) (xs := q) rfl (.tmp 26) rfl rfl RS.out.q ?_; intro A9 c9 hq9; have HQ9 := a_ hq9; clear hq9))
   have RS1 := a_ (RS.out.cut HQ9.out)
   clear RS HQ9 hcO hfO hcS hq0 hq1 p1
   have RS := RS1
   clear RS1
   go_loopw [30] (fun v30 w' => ∃ (x : Int) (m : List (Int × (Int × Bool))) (v : Value) (q : List Int), v30 = .int .i64 x ∧ Aside0 (0 ≤ x) ∧ Aside0 (x ≤ l.length) ∧ Aside0 (reachE n (l.drop x.toNat) (f.drop x.toNat) x m q = some (m2, q2)) ∧ Aside0 (RState w w' gS gO w.heap.size m v q)) (fun v30 _ => l.length - (intOf v30).toNat)
   case atStart => exact ⟨0, _, _, _, rfl, ⟨by omega⟩, ⟨by omega⟩, HE, RS⟩
   case round =>
   clear RS HE
   obtain ⟨x, m, v, q, rfl, H0, H1, HE, RS⟩ := hrel
   by_cases hlt : x < (l.length : Int)
   ·have p1 := H0.out
    have he := HE.out
    have hx1 : x < (f.length : Int) := by
     by_cases hh : x < (f.length : Int)
     ·exact hh
     ·rw [rd67_at l x p1 hlt, show f.drop x.toNat = [] from List.drop_eq_nil_of_le (by omega), reachE] at he
      cases he
    rw [rd67_at l x p1 hlt, rdi_at f x p1 hx1, reachE] at he
    have hql : q.length < 17592186044413 := by
     by_cases hql : q.length < 17592186044413
     ·exact hql
     ·rw [if_neg hql] at he; cases he
    rw [if_pos hql] at he
    have HQL := a_ hql
    have HE2 := a_ he
    clear HE he hql
    obtain ⟨ad, e0, y0, y1, y2, y3⟩ := at_T67 HR0.out x p1 hlt
    cases e0
    obtain ⟨ad1, e1, hx⟩ := Kd.at_int HR1.out x p1 hx1
    cases e1
    have FW := a_ hx
    clear hx
    replace y0 := (RS.out.b.cell (World.block_lt_of_cell? w _ y0)).trans y0
    replace y1 := (RS.out.b.cell (World.block_lt_of_cell? w _ y1)).trans y1
    replace y2 := (RS.out.b.cell (World.block_lt_of_cell? w _ y2)).trans y2
    replace y3 := (RS.out.b.cell (World.block_lt_of_cell? w _ y3)).trans y3
    have HW : Aside0 (wrap64 (x + 1) = x + 1) := ⟨by have h1 := HN.out; unfold wrap64; omega⟩
    have HLT := a_ hlt
    generalize he0 : rd_T67 l x = ed at y0 y1 y2 y3 HE2
    generalize hf0 : rd f x = xf at FW HE2
    clear he0 hf0
    have dl : decide (x < (l.length : Int)) = true := decide_eq_true hlt
    replace p1 := eq_true p1
    replace hlt := eq_true hlt
    replace hx1 := eq_true hx1
    go_upto_region 10 with (first | ((with_reducible refine gate_dst (N := 12) rfl ?_); refine box_event ?hg (N := 12) ?hd (cs := #[.int .i64 0, .int .i64 0, .int .i64 0, .int .i64 0]) (t := 67) ?hr ?_; (case hd => rfl); (case hg => rfl); (case hr => first | (go_simp; done) | (go_simp; rfl)); intro gE hg WE hbox hb; have GE := a_ ((by rw [hg]; exact RS.out.b.size) : w.heap.size ≤ gE); have BE0 := a_ hbox; have RS1 := a_ (RS.out.step hb); have he00 : WE.cell? ⟨gE, 0, none⟩ = some (.int .i64 0) := (blk_cell BE0.out 0).trans rfl; have he01 : WE.cell? ⟨gE, 1, none⟩ = some (.int .i64 0) := (blk_cell BE0.out 1).trans rfl; have he02 : WE.cell? ⟨gE, 2, none⟩ = some (.int .i64 0) := (blk_cell BE0.out 2).trans rfl; have he03 : WE.cell? ⟨gE, 3, none⟩ = some (.int .i64 0) := (blk_cell BE0.out 3).trans rfl; have hf00 := blk_frozen BE0.out 0; have hf01 := blk_frozen BE0.out 1; have hf02 := blk_frozen BE0.out 2; have hf03 := blk_frozen BE0.out 3; clear RS hg hbox hb; have RS := RS1; clear RS1))
    have b0 := blk_put (cs' := #[.int .i64 ed.f0, .int .i64 0, .int .i64 0, .int .i64 0]) BE0.out 0 (.int .i64 ed.f0) rfl
    have b1 := blk_put (cs' := #[.int .i64 ed.f0, .int .i64 ed.f1, .int .i64 0, .int .i64 0]) b0 1 (.int .i64 ed.f1) rfl
    have b2 := blk_put (cs' := #[.int .i64 ed.f0, .int .i64 ed.f1, .int .i64 ed.f2, .int .i64 0]) b1 2 (.int .i64 ed.f2) rfl
    have b3 := blk_put (cs' := #[.int .i64 ed.f0, .int .i64 ed.f1, .int .i64 ed.f2, .int .i64 ed.f3]) b2 3 (.int .i64 ed.f3) rfl
    have RS1 := a_ ((((RS.out.set BE0.out (by decide) GE.out 0 (.int .i64 ed.f0)).set b0 (by decide) GE.out 1 (.int .i64 ed.f1)).set b1 (by decide) GE.out 2 (.int .i64 ed.f2)).set b2 (by decide) GE.out 3 (.int .i64 ed.f3))
    have BE := a_ b3
    clear RS b0 b1 b2 b3 BE0 y0 y1 y2 y3 he00 he01 he02 he03 hf00 hf01 hf02 hf03
    have RS := RS1
    clear RS1
    generalize (((WE.setCell ⟨gE, 0, none⟩ (.int .i64 ed.f0)).setCell ⟨gE, 1, none⟩ (.int .i64 ed.f1)).setCell ⟨gE, 2, none⟩ (.int .i64 ed.f2)).setCell ⟨gE, 3, none⟩ (.int .i64 ed.f3) = WF at RS BE ⊢
    have hE0 : WF.cell? ⟨gE, 0, none⟩ = some (.int .i64 ed.f0) := (blk_cell BE.out 0).trans rfl
    have hE1 : WF.cell? ⟨gE, 1, none⟩ = some (.int .i64 ed.f1) := (blk_cell BE.out 1).trans rfl
    have hE2 : WF.cell? ⟨gE, 2, none⟩ = some (.int .i64 ed.f2) := (blk_cell BE.out 2).trans rfl
    have hE3 : WF.cell? ⟨gE, 3, none⟩ = some (.int .i64 ed.f3) := (blk_cell BE.out 3).trans rfl
    have hFx := (RS.out.b.cell (World.block_lt_of_cell? w _ FW.out)).trans FW.out
    go_cut [47] (fun v47 wc => ∃ cb : Bool, v47 = .bool cb ∧ Aside0 (cb = decide (ed.f1 = n ∧ xf < ed.f3)) ∧ Aside0 (RState w wc gS gO w.heap.size m v q) ∧ Aside0 (wc.heap[gE]? = some (.cells #[.int .i64 ed.f0, .int .i64 ed.f1, .int .i64 ed.f2, .int .i64 ed.f3] 67 (0, 0))))
    case first =>
     have RSd := fun nq => a_ (RS.out.step (pw_below_drewN (Below.refl WF.heap.size WF) nq))
     by_cases c1 : ed.f1 = n
     ·have d1 : decide (ed.f1 = n) = true := decide_eq_true c1
      by_cases c2 : xf < ed.f3
      ·have d2 : decide (xf < ed.f3) = true := decide_eq_true c2
       go_quiet (fail)
       go_wp2
       go_meet
       case rel => exact ⟨true, by first | rfl | (simp [*]; done), ⟨(decide_eq_true ⟨c1, c2⟩).symm⟩, RSd nq, ⟨blk_drewN BE.out nq⟩⟩
      ·have d2 : decide (xf < ed.f3) = false := decide_eq_false c2
       go_quiet (fail)
       go_wp2
       go_meet
       case rel => exact ⟨false, by first | rfl | (simp [*]; done), ⟨(decide_eq_false (fun h : ed.f1 = n ∧ xf < ed.f3 => by have h2 := h.2; omega)).symm⟩, RSd nq, ⟨blk_drewN BE.out nq⟩⟩
     ·have d1 : decide (ed.f1 = n) = false := decide_eq_false c1
      have d1' : (ed.f1 == n) = false := by simpa using c1
      go_quiet (fail)
      go_wp2
      go_meet
      case rel => exact ⟨false, by first | rfl | (simp [*]; done), ⟨(decide_eq_false (fun h : ed.f1 = n ∧ xf < ed.f3 => c1 h.1)).symm⟩, RSd nq, ⟨blk_drewN BE.out nq⟩⟩
    case rest =>
    clear RS BE hE0 hE1 hE2 hE3 hFx
    obtain ⟨cb, rfl, HCB, RS, BE⟩ := hcut
    have NE := a_ (bne_ BE.out RS.out.o (by decide))
    have hE0 : wc.cell? ⟨gE, 0, none⟩ = some (.int .i64 ed.f0) := (blk_cell BE.out 0).trans rfl
    have hE1 : wc.cell? ⟨gE, 1, none⟩ = some (.int .i64 ed.f1) := (blk_cell BE.out 1).trans rfl
    have hE2 : wc.cell? ⟨gE, 2, none⟩ = some (.int .i64 ed.f2) := (blk_cell BE.out 2).trans rfl
    have hE3 : wc.cell? ⟨gE, 3, none⟩ = some (.int .i64 ed.f3) := (blk_cell BE.out 3).trans rfl
    have hFx := (RS.out.b.cell (World.block_lt_of_cell? w _ FW.out)).trans FW.out
    go_step
    go_cut [48] (fun v48 wd => ∃ (m' : List (Int × (Int × Bool))) (v' : Value) (q' : List Int), Aside0 ((if ed.f1 = n ∧ xf < ed.f3 then visitP ed.f2 (x, false) m q else (m, q)) = (m', q')) ∧ Aside0 (RState w wd gS gO w.heap.size m' v' q') ∧ Aside0 (wd.heap[gE]? = some (.cells #[.int .i64 ed.f0, .int .i64 ed.f1, .int .i64 ed.f2, .int .i64 ed.f3] 67 (0, 0))))
    case first =>
     have RSd := RS
     cases cb with
     | true =>
      go_wp2_with (first | (go_at_call 67; (with_reducible refine (flow_visit.calls w wc gS gO w.heap.size m v q ed.f2 x false RSd.out (by have := HQL.out; omega)).mono ?_); rintro e W5 ⟨rfl, ⟨v5, hr5⟩, hk5⟩))
      go_meet
      case rel => exact ⟨_, v5, _, ⟨by rw [if_pos (of_decide_eq_true HCB.out.symm)]⟩, ⟨hr5⟩, ⟨hk5 _ _ _ BE.out (by decide) NE.out⟩⟩
     | false =>
      go_wp2
      go_meet
      case rel => exact ⟨_, v, _, ⟨by rw [if_neg (of_decide_eq_false HCB.out.symm)]⟩, RS, BE⟩
    case rest =>
     clear RS BE hE0 hE1 hE2 hE3 hFx NE HCB
     obtain ⟨m', v', q', HST, RS, BE⟩ := hcut
     have he := HE2.out
     rw [HST.out] at he
     have HQ5 : Aside0 (q'.length ≤ q.length + 1) := ⟨by have h := congrArg (fun z => z.2.length) HST.out; simp only at h; rw [← h]; split; exact visitP_len _ _ _ _; exact Nat.le_succ _⟩
     have HE3 : Aside0 (reachE n (l.drop (x + 1).toNat) (f.drop (x + 1).toNat) (x + 1) (if ed.f2 = n ∧ 0 < xf then visitP ed.f1 (x, true) m' q' else (m', q')).1 (if ed.f2 = n ∧ 0 < xf then visitP ed.f1 (x, true) m' q' else (m', q')).2 = some (m2, q2)) := ⟨he⟩
     clear he HE2 HST
     have hE0 : wc.cell? ⟨gE, 0, none⟩ = some (.int .i64 ed.f0) := (blk_cell BE.out 0).trans rfl
     have hE1 : wc.cell? ⟨gE, 1, none⟩ = some (.int .i64 ed.f1) := (blk_cell BE.out 1).trans rfl
     have hE2 : wc.cell? ⟨gE, 2, none⟩ = some (.int .i64 ed.f2) := (blk_cell BE.out 2).trans rfl
     have hE3 : wc.cell? ⟨gE, 3, none⟩ = some (.int .i64 ed.f3) := (blk_cell BE.out 3).trans rfl
     have hFx := (RS.out.b.cell (World.block_lt_of_cell? w _ FW.out)).trans FW.out
     have RSd := RS
     by_cases c3 : ed.f2 = n
     ·have d3 : decide (ed.f2 = n) = true := decide_eq_true c3
      by_cases c4 : 0 < xf
      ·have d4 : decide (0 < xf) = true := decide_eq_true c4
       go_wp2_with (first | (go_at_call 67; (with_reducible refine (flow_visit.calls w wc gS gO w.heap.size m' v' q' ed.f1 x true RSd.out (by have := HQL.out; have := HQ5.out; omega)).mono ?_); rintro e W5 ⟨rfl, ⟨v5, hr5⟩, hk5⟩))
       rw [HW.out]
       go_roundw
       case measure => have h1 := HLT.out; have h2 := H0.out; simp only [intOf]; omega
       case rel => exact ⟨x + 1, _, v5, _, rfl, ⟨by have := H0.out; omega⟩, ⟨by have := HLT.out; omega⟩, ⟨by have h := HE3.out; rw [if_pos ⟨c3, c4⟩] at h; exact h⟩, ⟨hr5⟩⟩
      ·have d4 : decide (0 < xf) = false := decide_eq_false c4
       go_wp2
       rw [HW.out]
       go_roundw
       case measure => have h1 := HLT.out; have h2 := H0.out; simp only [intOf]; omega
       case rel => exact ⟨x + 1, _, v', _, rfl, ⟨by have := H0.out; omega⟩, ⟨by have := HLT.out; omega⟩, ⟨by have h := HE3.out; rw [if_neg (fun h : ed.f2 = n ∧ 0 < xf => by have h2 := h.2; omega)] at h; exact h⟩, RS⟩
     ·have d3 : decide (ed.f2 = n) = false := decide_eq_false c3
      have d3' : (ed.f2 == n) = false := by simpa using c3
      go_wp2
      rw [HW.out]
      go_roundw
      case measure => have h1 := HLT.out; have h2 := H0.out; simp only [intOf]; omega
      case rel => exact ⟨x + 1, _, v', _, rfl, ⟨by have := H0.out; omega⟩, ⟨by have := HLT.out; omega⟩, ⟨by have h := HE3.out; rw [if_neg (fun h : ed.f2 = n ∧ 0 < xf => c3 h.1)] at h; exact h⟩, RS⟩
   ·have dl : decide (x < (l.length : Int)) = false := decide_eq_false hlt
    have he := HE.out
    rw [show l.drop x.toNat = [] by apply List.drop_eq_nil_of_le; omega, reachE] at he
    obtain ⟨rfl, rfl⟩ := Prod.mk.inj (Option.some.inj he)
    clear he HE hlt
    go_wp2
    go_roundg k1
    case measure => omega
    case rel => exact ⟨_, _, _, HO, RS⟩

def pathL (l : List S67) (M : List (Int × (Int × Bool))) (s : Int) : Nat → Int → List S90 → Option (List S90)
 | 0, _, _ => none
 | k + 1, t, acc =>
  if t = s then some acc else
  if 0 ≤ ((mlook M t).getD (0, false)).1 ∧ ((mlook M t).getD (0, false)).1 < (l.length : Int) ∧ acc.length < 8796093022207 then
   pathL l M s k (if ((mlook M t).getD (0, false)).2 = true then (rd_T67 l ((mlook M t).getD (0, false)).1).f2 else (rd_T67 l ((mlook M t).getD (0, false)).1).f1) (acc ++ [⟨((mlook M t).getD (0, false)).1, ((mlook M t).getD (0, false)).2⟩])
  else none
def flow_path.f (k : Nat) (l : List S67) (M : List (Int × (Int × Bool))) (s t : Int) : Option (List S90) := pathL l M s k t []
set_option maxRecDepth 10000 in
set_option maxHeartbeats 8000000 in
theorem flow_path.calls (k : Nat) (A0 : Option Addr) (c0 : Nat) (l : List S67) (B : Nat) (M : List (Int × (Int × Bool))) (s t : Int) (r : List S90) (w : World) (hr0 : Kd.C k67 w A0 l.length l) (hc0 : l.length ≤ c0) (hM : MapIs w B encS M) (h : flow_path.f k l M s t = some r) :
  Calls Try.prog 61 #[.slice A0 l.length c0, .map (some B), .int .i64 s, .int .i64 t] w fun e w' => ∃ v0_ : Value, e = .returned v0_ ∧ Kd.R k90 90 w' w.heap.size (fun _ => True) v0_ r ∧ Below w.heap.size w w' := by
 have hu65 := Try.underlying65
 have hu67 := Try.underlying67
 have hu90 := Try.underlying90
 have HR0 := a_ hr0
 have HC0 := a_ hc0
 have HM := a_ hM
 have HH : Aside0 (pathL l M s k t [] = some r) := ⟨h⟩
 have HB := a_ (Below.refl w.heap.size w)
 clear hr0 hc0 hM h
 go_enter Try.func61, Try.ntmps61
 go_wp2
 go_loopg [3, 9] k (fun kq v3 v9 w' => ∃ (t : Int) (v : Value) (acc : List S90), v3 = .int .i64 t ∧ v9 = v ∧ Aside0 (pathL l M s kq t acc = some r) ∧ Aside0 (Kd.R k90 90 w' w.heap.size (fun _ => True) v acc) ∧ Aside0 (Below w.heap.size w w'))
 case atStart => exact ⟨_, _, _, rfl, rfl, HH, ⟨Kd.R_nil _ _ _ _ _⟩, HB⟩
 case round =>
  clear HH HB
  obtain ⟨t, v, acc, rfl, rfl, HA, HO, HB⟩ := hrel
  cases gk with
  | zero => exact absurd HA.out (by simp [pathL])
  | succ k1 =>
  have ha := HA.out
  rw [pathL] at ha
  clear HA
  by_cases c1 : t = s
  ·rw [if_pos c1] at ha
   obtain rfl := Option.some.inj ha
   have d1 : decide (t = s) = true := decide_eq_true c1
   subst c1
   clear ha
   go_wp2
   go_ret
   exact ⟨_, rfl, HO.out, HB.out⟩
  ·rw [if_neg c1] at ha
   have d1 : decide (t = s) = false := decide_eq_false c1
   have d1' : (t == s) = false := by simpa using c1
   have d1'' : (t != s) = true := by simpa using c1
   obtain ⟨⟨i, b⟩, hy⟩ : ∃ y, (mlook M t).getD (0, false) = y := ⟨_, rfl⟩
   rw [hy] at ha
   have HY := a_ hy
   clear hy
   simp only at ha
   have hcc : 0 ≤ i ∧ i < (l.length : Int) ∧ acc.length < 8796093022207 := by
    by_cases hh : 0 ≤ i ∧ i < (l.length : Int) ∧ acc.length < 8796093022207
    ·exact hh
    ·rw [if_neg hh] at ha; cases ha
   rw [if_pos hcc] at ha
   obtain ⟨p1, q1, hal⟩ := hcc
   have HAL := a_ hal
   have HQ0 := a_ ha
   clear ha hal
   have HMr := a_ (HM.out.blk (HB.out.block B HM.out.lt))
   obtain ⟨ad, e0, y0, y1, y2, y3⟩ := at_T67 HR0.out i p1 q1
   cases e0
   have Y1 := a_ y1
   have Y2 := a_ y2
   clear y0 y1 y2 y3
   replace p1 := eq_true p1
   replace q1 := eq_true q1
   cases b with
   | true =>
   have HQ : Aside0 (pathL l M s k1 (rd_T67 l i).f2 (acc ++ [⟨i, true⟩]) = some r) := ⟨by have h := HQ0.out; rw [if_pos rfl] at h; exact h⟩
   clear HQ0
   go_wp2_with (first | (at_lookup; refine wpList_look_at rfl _ _ rfl rfl HMr.out t rfl i true HY.out ?_) | ((with_reducible refine gate_dst (N := 10) rfl ?_); refine box_event ?hg (N := 10) ?hd (cs := #[.int .i64 0, .bool false]) (t := 90) ?hr ?_; (case hd => rfl); (case hg => rfl); (case hr => first | (go_simp; done) | (go_simp; rfl)); intro gX hg W1 hbox hb; have GX := a_ ((by rw [hg]; exact HB.out.size) : w.heap.size ≤ gX); have BX := a_ hbox; have HO1 := a_ (Kd.R_below (Kd.R_mono (ok' := fun k => k ≠ gX) (Kd.R_bound HO.out) (fun k hk => by rw [hg]; have := hk.2.2.1; omega)) hb); have HB1 := a_ (below_step HB.out hb); have hx0 : W1.cell? ⟨gX, 0, none⟩ = some (.int .i64 0) := (blk_cell BX.out 0).trans rfl; have hx1 : W1.cell? ⟨gX, 1, none⟩ = some (.bool false) := (blk_cell BX.out 1).trans rfl; have hf0 := blk_frozen BX.out 0; have hf1 := blk_frozen BX.out 1; clear HO HB hg hbox hb; have HO := HO1; have HB := HB1; clear HO1 HB1) | ((with_reducible refine gate_builtin (b := .append) (xs := #[.tmp 17, .tmp 19]) rfl ?_); at_builtin; have B0 := blk_put (cs' := #[.int .i64 i, .bool false]) BX.out 0 (.int .i64 i) rfl; have B1 := blk_put (cs' := #[.int .i64 i, .bool true]) B0 1 (.bool true) rfl; have HB1 := below_set (j := 1) (v := .bool true) (below_set (j := 0) (v := .int .i64 i) HB.out GX.out) GX.out; have HO1 := Kd.R_far (p := ⟨gX, 1, none⟩) (Kd.R_far (p := ⟨gX, 0, none⟩) HO.out (fun _ hk => hk) (.int .i64 i)) (fun _ hk => hk) (.bool true); refine Kd.R_append k90 (w0 := w) w.heap.size rfl (.tmp 17) (.tmp 19) 92 90 (.agg #[(.int .i64 0), (.bool false)]) 16 rfl Try.underlying92 info90 rfl (by decide) (by omega) _ acc (⟨i, true⟩ : S90) [.int .i64 i, .bool true] (fun k => k ≠ gX) (fun _ => False) rfl (by first | (go_simp; done) | (go_simp; rfl)) ?aP (fun _ hk => hk.elim) ?aF HO1 HB1 HB1.size ?aL ?_; (case aP => exact k90_mkM _ _ _ (⟨i, true⟩ : S90)); (case aF => exact (fun k hk => (by have := blk_lt B1; omega))); (case aL => have := HAL.out; omega); intro v1 W3 ho hb hg hat; have B3 := hg.block gX (blk_lt B1) (fun e => (HO1.1 gX e.symm) rfl); have B4 := a_ (B3.trans B1); have HO2 := a_ (Kd.R_mono (ok' := fun _ => True) ho (fun _ _ => trivial)); have HB2 := a_ hb; clear B0 B1 B3 HB1 HO1 HO HB BX ho hb hg hat hx0 hx1 hf0 hf1; have HO := HO2; have HB := HB2; have BX := B4; clear HO2 HB2 B4; have hx0 : W3.cell? ⟨gX, 0, none⟩ = some (.int .i64 i) := (blk_cell BX.out 0).trans rfl; have hx1 : W3.cell? ⟨gX, 1, none⟩ = some (.bool true) := (blk_cell BX.out 1).trans rfl; have y1 := (HB.out.cell (World.block_lt_of_cell? w _ Y1.out)).trans Y1.out; have y2 := (HB.out.cell (World.block_lt_of_cell? w _ Y2.out)).trans Y2.out))
   go_roundg k1
   case measure => omega
   case rel => exact ⟨_, _, _, rfl, rfl, HQ, HO, HB⟩
   | false =>
   have HQ : Aside0 (pathL l M s k1 (rd_T67 l i).f1 (acc ++ [⟨i, false⟩]) = some r) := ⟨by have h := HQ0.out; rw [if_neg (by simp)] at h; exact h⟩
   clear HQ0
   go_wp2_with (first | (at_lookup; refine wpList_look_at rfl _ _ rfl rfl HMr.out t rfl i false HY.out ?_) | ((with_reducible refine gate_dst (N := 10) rfl ?_); refine box_event ?hg (N := 10) ?hd (cs := #[.int .i64 0, .bool false]) (t := 90) ?hr ?_; (case hd => rfl); (case hg => rfl); (case hr => first | (go_simp; done) | (go_simp; rfl)); intro gX hg W1 hbox hb; have GX := a_ ((by rw [hg]; exact HB.out.size) : w.heap.size ≤ gX); have BX := a_ hbox; have HO1 := a_ (Kd.R_below (Kd.R_mono (ok' := fun k => k ≠ gX) (Kd.R_bound HO.out) (fun k hk => by rw [hg]; have := hk.2.2.1; omega)) hb); have HB1 := a_ (below_step HB.out hb); have hx0 : W1.cell? ⟨gX, 0, none⟩ = some (.int .i64 0) := (blk_cell BX.out 0).trans rfl; have hx1 : W1.cell? ⟨gX, 1, none⟩ = some (.bool false) := (blk_cell BX.out 1).trans rfl; have hf0 := blk_frozen BX.out 0; have hf1 := blk_frozen BX.out 1; clear HO HB hg hbox hb; have HO := HO1; have HB := HB1; clear HO1 HB1) | ((with_reducible refine gate_builtin (b := .append) (xs := #[.tmp 17, .tmp 19]) rfl ?_); at_builtin; have B0 := blk_put (cs' := #[.int .i64 i, .bool false]) BX.out 0 (.int .i64 i) rfl; have B1 := blk_put (cs' := #[.int .i64 i, .bool false]) B0 1 (.bool false) rfl; have HB1 := below_set (j := 1) (v := .bool false) (below_set (j := 0) (v := .int .i64 i) HB.out GX.out) GX.out; have HO1 := Kd.R_far (p := ⟨gX, 1, none⟩) (Kd.R_far (p := ⟨gX, 0, none⟩) HO.out (fun _ hk => hk) (.int .i64 i)) (fun _ hk => hk) (.bool false); refine Kd.R_append k90 (w0 := w) w.heap.size rfl (.tmp 17) (.tmp 19) 92 90 (.agg #[(.int .i64 0), (.bool false)]) 16 rfl Try.underlying92 info90 rfl (by decide) (by omega) _ acc (⟨i, false⟩ : S90) [.int .i64 i, .bool false] (fun k => k ≠ gX) (fun _ => False) rfl (by first | (go_simp; done) | (go_simp; rfl)) ?aP (fun _ hk => hk.elim) ?aF HO1 HB1 HB1.size ?aL ?_; (case aP => exact k90_mkM _ _ _ (⟨i, false⟩ : S90)); (case aF => exact (fun k hk => (by have := blk_lt B1; omega))); (case aL => have := HAL.out; omega); intro v1 W3 ho hb hg hat; have B3 := hg.block gX (blk_lt B1) (fun e => (HO1.1 gX e.symm) rfl); have B4 := a_ (B3.trans B1); have HO2 := a_ (Kd.R_mono (ok' := fun _ => True) ho (fun _ _ => trivial)); have HB2 := a_ hb; clear B0 B1 B3 HB1 HO1 HO HB BX ho hb hg hat hx0 hx1 hf0 hf1; have HO := HO2; have HB := HB2; have BX := B4; clear HO2 HB2 B4; have hx0 : W3.cell? ⟨gX, 0, none⟩ = some (.int .i64 i) := (blk_cell BX.out 0).trans rfl; have hx1 : W3.cell? ⟨gX, 1, none⟩ = some (.bool false) := (blk_cell BX.out 1).trans rfl; have y1 := (HB.out.cell (World.block_lt_of_cell? w _ Y1.out)).trans Y1.out; have y2 := (HB.out.cell (World.block_lt_of_cell? w _ Y2.out)).trans Y2.out))
   go_roundg k1
   case measure => omega
   case rel => exact ⟨_, _, _, rfl, rfl, HQ, HO, HB⟩

/-! ### the flow: a row of ints in a block of its own -/
def ints (f : List Int) : Array Value := (f.map (Value.int .i64)).toArray
def FRow (w : World) (g : Nat) (f : List Int) : Prop := w.heap[g]? = some (.cells (ints f) 3 (0, 0))
theorem FRow.cell {w : World} {g : Nat} {f : List Int} (h : FRow w g f) (i : Int) (h0 : 0 ≤ i) (h1 : i < f.length) : w.cell? ⟨g, i.toNat, none⟩ = some (.int .i64 (rd f i)) := by
 rw [blk_cell h]
 simp [ints, rd, List.getElem?_eq_getElem (show i.toNat < f.length by omega), List.getD_eq_getElem?_getD]
theorem FRow.put {w : World} {g : Nat} {f : List Int} (h : FRow w g f) (i : Nat) (x : Int) : FRow (w.setCell ⟨g, i, none⟩ (.int .i64 x)) g (f.set i x) := by
 refine blk_put h i _ ?_
 simp [ints, List.map_set]
theorem FRow.below {w w1 : World} {g : Nat} {f : List Int} (h : FRow w g f) (hb : Below w.heap.size w w1) : FRow w1 g f := blk_below h hb
theorem FRow.own {w : World} {g base : Nat} {f : List Int} (h : FRow w g f) (hb : base ≤ g) (hl : f.length ≤ maxLen) : Kd.R (Kd.int .i64) 3 w base (fun _ => True) (.slice (some ⟨g, 0, none⟩) f.length f.length) f :=
 Kd.R_of_own ⟨by simp [encs], .inr ⟨g, f.length, ints f, rfl, hb, h, Nat.le_refl _, hl, by simp [ints], by simp only [ints, encs, Nat.mul_one]; exact List.take_of_length_le (by simp)⟩⟩ (fun _ _ => trivial)
theorem FRow.reads {w : World} {g : Nat} {f : List Int} (h : FRow w g f) (hl : f.length ≤ maxLen) : Kd.C (Kd.int .i64) w (some ⟨g, 0, none⟩) f.length f := (Kd.R_reads' (h.own (Nat.zero_le g) hl)).2.2
theorem FRow.made {w : World} {base n : Nat} {v : Value} {g : Nat} (hv : v = .slice (some ⟨g, 0, none⟩) n n) (h : w.ownsRow base 3 1 v n (madeCells #[Value.int .i64 0] (n * 1)).toList) : FRow w g (List.replicate n 0) := by
 subst hv
 rcases h.2 with ⟨e, _⟩ | ⟨g', cap, cur, e, hb, hh, h1, h2, h3, h4⟩
 ·cases e
 ·injection e with e1 e2 e3
  injection e1 with e1
  injection e1 with e1 _ _
  subst e1 e3
  unfold FRow
  rw [hh]
  have : cur = ints (List.replicate n 0) := by
   apply Array.ext'
   rw [List.take_of_length_le (by simp [h3])] at h4
   rw [h4]
   apply List.ext_getElem
   ·simp [size_madeCells, ints]
   ·intro j hj1 hj2
    simp [madeCells, ints]
    rw [Nat.mod_one]; rfl
  rw [this]
/-- What is left of the capacity of a step. -/
def roomV (l : List S67) (f : List Int) (x : S90) : Option Int :=
 if x.f1 = true then (if 0 ≤ x.f0 ∧ x.f0 < (f.length : Int) then some (rd f x.f0) else none)
 else (if 0 ≤ x.f0 ∧ x.f0 < (l.length : Int) ∧ x.f0 < (f.length : Int) then some (wrap64 ((rd_T67 l x.f0).f3 - rd f x.f0)) else none)
set_option maxRecDepth 10000 in
set_option maxHeartbeats 8000000 in
theorem flow_room.calls (W : World) (A0 : Option Addr) (c0 : Nat) (l : List S67) (gF gL gR : Nat) (f : List Int) (i : Int) (b : Bool) (r : Int) (hr0 : Kd.C k67 W A0 l.length l) (hF : W.heap[gF]? = some (.cells #[.slice (some ⟨gR, 0, none⟩) f.length f.length] 36 (0, 0))) (hL : W.heap[gL]? = some (.cells #[.slice A0 l.length c0] 65 (0, 0))) (hR : FRow W gR f) (h : roomV l f ⟨i, b⟩ = some r) :
  Calls Try.prog 62 #[.agg #[.int .i64 i, .bool b], .pointer (some ⟨gF, 0, none⟩), .pointer (some ⟨gL, 0, none⟩)] W fun e w' => e = .returned (.int .i64 r) ∧ Below W.heap.size W w' := by
 have hu36 := Try.underlying36
 have hu65 := Try.underlying65
 have hu67 := Try.underlying67
 have hu90 := Try.underlying90
 have HR0 := a_ hr0
 have HF := a_ hF
 have HL := a_ hL
 have HR := a_ hR
 clear hr0 hF hL hR
 unfold roomV at h
 cases b with
 | true =>
  rw [if_pos rfl] at h
  have hcc : 0 ≤ i ∧ i < (f.length : Int) := by
   by_cases hh : 0 ≤ i ∧ i < (f.length : Int)
   ·exact hh
   ·rw [if_neg hh] at h; cases h
  rw [if_pos hcc] at h
  obtain rfl := Option.some.inj h
  obtain ⟨p0, p1⟩ := hcc
  have HI0 := a_ p0
  have HI1 := a_ p1
  clear h
  replace p0 := eq_true p0
  replace p1 := eq_true p1
  go_enter Try.func62, Try.ntmps62
  go_wp2_with (first | ((with_reducible refine gate_dst (N := 3) rfl ?_); refine box_event ?hg (N := 3) ?hd (cs := #[.int .i64 i, .bool true]) (t := 90) ?hr ?_; (case hd => rfl); (case hg => rfl); (case hr => first | (go_simp; done) | (go_simp; rfl)); intro gX hg W1 hbox hb; have BX := a_ hbox; have HB := a_ hb; have hx0 : W1.cell? ⟨gX, 0, none⟩ = some (.int .i64 i) := (blk_cell BX.out 0).trans rfl; have hx1 : W1.cell? ⟨gX, 1, none⟩ = some (.bool true) := (blk_cell BX.out 1).trans rfl; have hF : W1.cell? ⟨gF, 0, none⟩ = some (.slice (some ⟨gR, 0, none⟩) f.length f.length) := (blk_cell (blk_below HF.out hb) 0).trans rfl; have hL : W1.cell? ⟨gL, 0, none⟩ = some (.slice A0 l.length c0) := (blk_cell (blk_below HL.out hb) 0).trans rfl; have hf := FRow.cell (HR.out.below hb) i HI0.out HI1.out; clear hg hbox hb))
  go_ret
  exact ⟨rfl, HB.out⟩
 | false =>
  rw [if_neg (by simp)] at h
  have hcc : 0 ≤ i ∧ i < (l.length : Int) ∧ i < (f.length : Int) := by
   by_cases hh : 0 ≤ i ∧ i < (l.length : Int) ∧ i < (f.length : Int)
   ·exact hh
   ·rw [if_neg hh] at h; cases h
  rw [if_pos hcc] at h
  obtain rfl := Option.some.inj h
  obtain ⟨p0, p2, p1⟩ := hcc
  have HI0 := a_ p0
  have HI1 := a_ p1
  clear h
  obtain ⟨ad, e0, y0, y1, y2, y3⟩ := at_T67 HR0.out i p0 p2
  cases e0
  have Y3 := a_ y3
  clear y0 y1 y2 y3
  replace p0 := eq_true p0
  replace p1 := eq_true p1
  replace p2 := eq_true p2
  go_enter Try.func62, Try.ntmps62
  go_upto_region 3 with (first | ((with_reducible refine gate_dst (N := 3) rfl ?_); refine box_event ?hg (N := 3) ?hd (cs := #[.int .i64 i, .bool false]) (t := 90) ?hr ?_; (case hd => rfl); (case hg => rfl); (case hr => first | (go_simp; done) | (go_simp; rfl)); intro gX hg W1 hbox hb; have BX := a_ hbox; have HB := a_ hb; have hx0 : W1.cell? ⟨gX, 0, none⟩ = some (.int .i64 i) := (blk_cell BX.out 0).trans rfl; have hx1 : W1.cell? ⟨gX, 1, none⟩ = some (.bool false) := (blk_cell BX.out 1).trans rfl; have hF : W1.cell? ⟨gF, 0, none⟩ = some (.slice (some ⟨gR, 0, none⟩) f.length f.length) := (blk_cell (blk_below HF.out hb) 0).trans rfl; have hL : W1.cell? ⟨gL, 0, none⟩ = some (.slice (some ad) l.length c0) := (blk_cell (blk_below HL.out hb) 0).trans rfl; have hf := FRow.cell (HR.out.below hb) i HI0.out HI1.out; have y3 := (hb.cell (World.block_lt_of_cell? W _ Y3.out)).trans Y3.out; clear hg hbox hb))
  go_quiet (fail)
  go_wp2
  go_ret
  exact ⟨rfl, pw_below_drewN HB.out nq⟩

def minR (l : List S67) (f : List Int) : List S90 → Int → Option Int
 | [], n => some n
 | x :: xs, n => (roomV l f x).bind fun y => minR l f xs (if y < n then y else n)
def addR (n : Int) : List S90 → List Int → Option (List Int)
 | [], f => some f
 | x :: xs, f => if 0 ≤ x.f0 ∧ x.f0 < (f.length : Int) then addR n xs (f.set x.f0.toNat (if x.f1 = true then wrap64 (rd f x.f0 - n) else wrap64 (rd f x.f0 + n))) else none
def findL (K : Nat) (l : List S67) (s t : Int) : Nat → List Int → Option (List Int)
 | 0, _ => none
 | q + 1, f => (flow_reach.f K l f s).bind fun M => if (mlook M t).isSome = true then (flow_path.f K l M s t).bind fun way => match way with
   | [] => none
   | x :: _ => (roomV l f x).bind fun n0 => (minR l f way n0).bind fun n => (addR n way f).bind fun f2 => findL K l s t q f2
  else some f
def flow_Find.f (k : Nat) (l : List S67) (s t : Int) : Option (List Int) := if l.length < 17592186044416 then (if s = t then some (List.replicate l.length 0) else findL k l s t k (List.replicate l.length 0)) else none
theorem addR_len (n : Int) : ∀ (xs : List S90) (f r : List Int), addR n xs f = some r → r.length = f.length
 | [], f, r, h => by rw [addR] at h; rw [← Option.some.inj h]
 | x :: xs, f, r, h => by
  rw [addR] at h
  by_cases c : 0 ≤ x.f0 ∧ x.f0 < (f.length : Int)
  ·rw [if_pos c] at h
   rw [addR_len n xs _ r h, List.length_set]
  ·rw [if_neg c] at h; cases h
structure FSt (w W : World) (gL gF gR : Nat) (A0 : Option Addr) (c0 : Nat) (l : List S67) (f : List Int) : Prop where
 b : Below w.heap.size w W
 L : W.heap[gL]? = some (.cells #[.slice A0 l.length c0] 65 (0, 0))
 F : W.heap[gF]? = some (.cells #[.slice (some ⟨gR, 0, none⟩) l.length l.length] 36 (0, 0))
 R : FRow W gR f
 ge : w.heap.size ≤ gR
 len : f.length = l.length
section
variable {w W W1 : World} {gL gF gR : Nat} {A0 : Option Addr} {c0 : Nat} {l : List S67} {f : List Int}
theorem FSt.step (h : FSt w W gL gF gR A0 c0 l f) (hb : Below W.heap.size W W1) : FSt w W1 gL gF gR A0 c0 l f :=
 ⟨below_step h.b hb, blk_below h.L hb, blk_below h.F hb, h.R.below hb, h.ge, h.len⟩
theorem FSt.cL (h : FSt w W gL gF gR A0 c0 l f) : W.cell? ⟨gL, 0, none⟩ = some (.slice A0 l.length c0) := (blk_cell h.L 0).trans rfl
theorem FSt.cF (h : FSt w W gL gF gR A0 c0 l f) : W.cell? ⟨gF, 0, none⟩ = some (.slice (some ⟨gR, 0, none⟩) l.length l.length) := (blk_cell h.F 0).trans rfl
theorem FSt.F' (h : FSt w W gL gF gR A0 c0 l f) : W.heap[gF]? = some (.cells #[.slice (some ⟨gR, 0, none⟩) f.length f.length] 36 (0, 0)) := by rw [h.len]; exact h.F
theorem FSt.set (h : FSt w W gL gF gR A0 c0 l f) {g : Nat} {cs : Array Value} (hx : W.heap[g]? = some (.cells cs 90 (0, 0))) (hge : w.heap.size ≤ g) (i : Nat) (u : Value) : FSt w (W.setCell ⟨g, i, none⟩ u) gL gF gR A0 c0 l f :=
 ⟨below_set h.b hge, blk_far h.L (p := ⟨g, i, none⟩) (bne_ h.L hx (by decide)) u, blk_far h.F (p := ⟨g, i, none⟩) (bne_ h.F hx (by decide)) u, blk_far h.R (p := ⟨g, i, none⟩) (bne_ h.R hx (by decide)) u, h.ge, h.len⟩
theorem FSt.put (h : FSt w W gL gF gR A0 c0 l f) (i : Nat) (x : Int) : FSt w (W.setCell ⟨gR, i, none⟩ (.int .i64 x)) gL gF gR A0 c0 l (f.set i x) :=
 ⟨below_set h.b h.ge, blk_far h.L (p := ⟨gR, i, none⟩) (bne_ h.L h.R (by decide)) _, blk_far h.F (p := ⟨gR, i, none⟩) (bne_ h.F h.R (by decide)) _, h.R.put i x, h.ge, by rw [List.length_set]; exact h.len⟩
end
/-- The steps of a way, in a row of the call's own. -/
def WRow (w W : World) (v : Value) (way : List S90) : Prop := Kd.R k90 90 W w.heap.size (fun _ => True) v way
section
variable {w W W1 : World} {v : Value} {way : List S90}
theorem WRow.step (h : WRow w W v way) (hb : Below W.heap.size W W1) : WRow w W1 v way := Kd.R_below h hb
theorem WRow.set3 (h : WRow w W v way) {g : Nat} {cs : Array Value} (hx : W.heap[g]? = some (.cells cs 3 (0, 0))) (i : Nat) (u : Value) : WRow w (W.setCell ⟨g, i, none⟩ u) v way :=
 Kd.R_mono (Kd.R_far (p := ⟨g, i, none⟩) (Kd.R_types h hx (by decide)) (fun _ hk => hk.2) u) (fun _ _ => trivial)
/-- Behind a new block: it is none of the row's. -/
theorem WRow.new (h : WRow w W v way) {g : Nat} (hg : g = W.heap.size) (hb : Below W.heap.size W W1) : Kd.R k90 90 W1 w.heap.size (fun k => k ≠ g) v way :=
 Kd.R_below (Kd.R_mono (ok' := fun k => k ≠ g) (Kd.R_bound h) (fun k hk => by have := hk.2.2.1; omega)) hb
theorem WRow.set {g : Nat} (h : Kd.R k90 90 W w.heap.size (fun k => k ≠ g) v way) (i : Nat) (u : Value) : Kd.R k90 90 (W.setCell ⟨g, i, none⟩ u) w.heap.size (fun k => k ≠ g) v way :=
 Kd.R_far (p := ⟨g, i, none⟩) h (fun _ hk => hk) u
theorem WRow.of {g : Nat} (h : Kd.R k90 90 W w.heap.size (fun k => k ≠ g) v way) : WRow w W v way := Kd.R_mono h (fun _ _ => trivial)
end
theorem rd90_at (l : List S90) (i : Int) (h0 : 0 ≤ i) (h1 : i < l.length) : l.drop i.toNat = rd_T90 l i :: l.drop (i + 1).toNat := by
 rw [List.drop_eq_getElem_cons (by omega), show (i + 1).toNat = i.toNat + 1 by omega]
 simp [rd_T90, List.getD_eq_getElem?_getD, List.getElem?_eq_getElem (show i.toNat < l.length by omega)]
theorem WRow.shape {w W : World} {v : Value} {way : List S90} (h : WRow w W v way) (hp : 0 < way.length) : ∃ g c, v = .slice (some ⟨g, 0, none⟩) way.length c := by
 obtain ⟨inner, ho⟩ := Kd.R_own h
 rcases ho.2 with ⟨_, e⟩ | ⟨g, cap, cur, rfl, _⟩
 ·omega
 ·exact ⟨g, cap, rfl⟩
theorem WRow.cells {w W : World} {g n c : Nat} {way : List S90} (h : WRow w W (.slice (some ⟨g, 0, none⟩) n c) way) (i : Int) (h0 : 0 ≤ i) (h1 : i < way.length) : W.cell? ⟨g, i.toNat * 2, none⟩ = some (.int .i64 (rd_T90 way i).f0) ∧ W.cell? ⟨g, i.toNat * 2 + 1, none⟩ = some (.bool (rd_T90 way i).f1) := by
 obtain ⟨ad, e, z0, z1⟩ := at_T90 (Kd.R_reads' h).2.2 i h0 h1
 cases e
 simp only [add_plain] at z0 z1
 exact ⟨z0, z1⟩
set_option maxRecDepth 10000 in
set_option maxHeartbeats 8000000 in
theorem flow_Find.calls (k : Nat) (A0 : Option Addr) (c0 : Nat) (l : List S67) (s t : Int) (r : List Int) (w : World) (hr0 : Kd.C k67 w A0 l.length l) (hc0 : l.length ≤ c0) (h : flow_Find.f k l s t = some r) :
  Calls Try.prog 50 #[.slice A0 l.length c0, .int .i64 s, .int .i64 t] w fun e w' => ∃ v0_ : Value, e = .returned v0_ ∧ Kd.R (Kd.int .i64) 3 w' w.heap.size (fun _ => True) v0_ r ∧ Below w.heap.size w w' := by
 have hu36 := Try.underlying36
 have hu65 := Try.underlying65
 have hu67 := Try.underlying67
 have hu90 := Try.underlying90
 have hmf : ∀ (fn : Fn) (first cap : Array Value) (w : World), (Instr.makeFunc fn first cap).run Try.prog w = .ok (.func fn first cap) w := fun _ _ _ _ => rfl
 have HR0 := a_ hr0
 have HC0 := a_ hc0
 clear hr0 hc0
 unfold flow_Find.f at h
 by_cases hln : l.length < 17592186044416
 case neg => (rw [if_neg hln] at h; cases h)
 rw [if_pos hln] at h
 have HLN := a_ hln
 clear hln
 by_cases c1 : s = t
 ·rw [if_pos c1] at h
  obtain rfl := Option.some.inj h
  have d1 : decide (s = t) = true := decide_eq_true c1
  subst c1
  clear h
  go_enter Try.func50, Try.ntmps50
  go_wp2_with (first | ((with_reducible refine gate_dst (N := 3) rfl ?_); refine box_event ?hg (N := 3) ?hd (cs := #[.slice A0 l.length c0]) (t := 65) ?hr ?_; (case hd => rfl); (case hg => rfl); (case hr => first | (go_simp; done) | (go_simp; rfl)); intro gL hg W1 hbox hb; have GL := a_ ((by rw [hg]; exact Nat.le_refl _) : w.heap.size ≤ gL); have BL := a_ hbox; have HB1 := a_ hb; have hl0 : W1.cell? ⟨gL, 0, none⟩ = some (.slice A0 l.length c0) := (blk_cell BL.out 0).trans rfl; clear hg hbox hb) | (at_make; obtain ⟨i0, hi, hz0, hz1, hz2⟩ := info_parts info3; refine wpList_make_full _ rfl (.tmp 19) (.tmp 19) 36 rfl w.heap.size 3 i0 (.int .i64 0) 1 Try.underlying36 hi hz0 hz1 .i64 .i64 (l.length : Int) (l.length : Int) l.length rfl rfl rfl rfl (by rw [hz2]; have := HLN.out; omega) (by have := HLN.out; unfold maxLen; omega) HB1.out.size ?_; intro W2 ho hgr; have GR := a_ HB1.out.size; obtain ⟨gR, hgR⟩ : ∃ g, g = W1.heap.size := ⟨_, rfl⟩; rw [← hgR] at ho GR ⊢; have FR := a_ (FRow.made rfl ho); have BL2 := a_ ((hgr.block gL (blk_lt BL.out) (by simp)).trans BL.out); have HB2 := a_ (HB1.out.grown hgr HB1.out.size (fun k hk => (by cases hk))); clear ho hgr HB1 BL hi hz0 hz1 hz2 hl0 hgR; have BL := BL2; clear BL2) | ((with_reducible refine gate_dst (N := 7) rfl ?_); refine box_event ?hg (N := 7) ?hd (cs := #[.slice none 0 0]) (t := 36) ?hr ?_; (case hd => rfl); (case hg => rfl); (case hr => first | (go_simp; done) | (go_simp; rfl)); intro gF hg W3 hbox hb; have GF := a_ ((by rw [hg]; exact HB2.out.size) : w.heap.size ≤ gF); have BF := a_ hbox; have BL2 := a_ (blk_below BL.out hb); have FR2 := a_ (FR.out.below hb); have HB3 := a_ (below_step HB2.out hb); have hf0 : W3.cell? ⟨gF, 0, none⟩ = some (.slice none 0 0) := (blk_cell BF.out 0).trans rfl; have hf1 := blk_frozen BF.out 0; clear hg hbox hb BL FR HB2; have BL := BL2; have FR := FR2; clear BL2 FR2))
  go_ret
  have FR2 : FRow (W3.setCell ⟨gF, 0, none⟩ (.slice (some ⟨gR, 0, none⟩) l.length l.length)) gR (List.replicate l.length 0) := blk_far FR.out (p := ⟨gF, 0, none⟩) (bne_ FR.out BF.out (by decide)) _
  exact ⟨_, rfl, by have := FR2.own GR.out (by rw [List.length_replicate]; have := HLN.out; unfold maxLen; omega); rwa [List.length_replicate] at this, below_set HB3.out GF.out⟩
 ·rw [if_neg c1] at h
  have d1 : decide (s = t) = false := decide_eq_false c1
  have d1' : (s == t) = false := by simpa using c1
  have HH := a_ h
  clear h
  go_enter Try.func50, Try.ntmps50
  go_wp2_with (first | ((with_reducible refine gate_dst (N := 3) rfl ?_); refine box_event ?hg (N := 3) ?hd (cs := #[.slice A0 l.length c0]) (t := 65) ?hr ?_; (case hd => rfl); (case hg => rfl); (case hr => first | (go_simp; done) | (go_simp; rfl)); intro gL hg W1 hbox hb; have GL := a_ ((by rw [hg]; exact Nat.le_refl _) : w.heap.size ≤ gL); have BL := a_ hbox; have HB1 := a_ hb; have hl0 : W1.cell? ⟨gL, 0, none⟩ = some (.slice A0 l.length c0) := (blk_cell BL.out 0).trans rfl; clear hg hbox hb) | (at_make; obtain ⟨i0, hi, hz0, hz1, hz2⟩ := info_parts info3; refine wpList_make_full _ rfl (.tmp 19) (.tmp 19) 36 rfl w.heap.size 3 i0 (.int .i64 0) 1 Try.underlying36 hi hz0 hz1 .i64 .i64 (l.length : Int) (l.length : Int) l.length rfl rfl rfl rfl (by rw [hz2]; have := HLN.out; omega) (by have := HLN.out; unfold maxLen; omega) HB1.out.size ?_; intro W2 ho hgr; have GR := a_ HB1.out.size; obtain ⟨gR, hgR⟩ : ∃ g, g = W1.heap.size := ⟨_, rfl⟩; rw [← hgR] at ho GR ⊢; have FR := a_ (FRow.made rfl ho); have BL2 := a_ ((hgr.block gL (blk_lt BL.out) (by simp)).trans BL.out); have HB2 := a_ (HB1.out.grown hgr HB1.out.size (fun k hk => (by cases hk))); clear ho hgr HB1 BL hi hz0 hz1 hz2 hl0 hgR; have BL := BL2; clear BL2) | ((with_reducible refine gate_dst (N := 7) rfl ?_); refine box_event ?hg (N := 7) ?hd (cs := #[.slice none 0 0]) (t := 36) ?hr ?_; (case hd => rfl); (case hg => rfl); (case hr => first | (go_simp; done) | (go_simp; rfl)); intro gF hg W3 hbox hb; have GF := a_ ((by rw [hg]; exact HB2.out.size) : w.heap.size ≤ gF); have BF := a_ hbox; have BL2 := a_ (blk_below BL.out hb); have FR2 := a_ (FR.out.below hb); have HB3 := a_ (below_step HB2.out hb); have hf0 : W3.cell? ⟨gF, 0, none⟩ = some (.slice none 0 0) := (blk_cell BF.out 0).trans rfl; have hf1 := blk_frozen BF.out 0; clear hg hbox hb BL FR HB2; have BL := BL2; have FR := FR2; clear BL2 FR2))
  have ST : Aside0 (FSt w (W3.setCell ⟨gF, 0, none⟩ (.slice (some ⟨gR, 0, none⟩) l.length l.length)) gL gF gR A0 c0 l (List.replicate l.length 0)) := ⟨⟨below_set HB3.out GF.out, blk_far BL.out (p := ⟨gF, 0, none⟩) (bne_ BL.out BF.out (by decide)) _, blk_put BF.out 0 _ rfl, blk_far FR.out (p := ⟨gF, 0, none⟩) (bne_ FR.out BF.out (by decide)) _, GR.out, List.length_replicate⟩⟩
  clear HB3 GF BL BF FR GL hf0 hf1
  go_loopg [8] k (fun kq v8 w' => ∃ f : List Int, Aside0 (findL k l s t kq f = some r) ∧ Aside0 (FSt w w' gL gF gR A0 c0 l f))
  case atStart => exact ⟨_, HH, ST⟩
  case round =>
  clear ST HH
  obtain ⟨f, HA, ST⟩ := hrel
  cases gk with
  | zero => exact absurd HA.out (by simp [findL])
  | succ k1 =>
  have ha := HA.out
  rw [findL] at ha
  clear HA
  obtain ⟨M, hM, ha⟩ := Option.bind_eq_some_iff.mp ha
  have HM := a_ hM
  have HFL : Aside0 (f.length ≤ maxLen) := ⟨by rw [ST.out.len]; have := HLN.out; unfold maxLen; omega⟩
  clear hM
  have hcL := ST.out.cL
  have hcF := ST.out.cF
  cases hmt : mlook M t with
  | none =>
   rw [hmt, if_neg (by simp)] at ha
   obtain rfl := Option.some.inj ha
   have HL : Aside0 ((mlook M t).getD (0, false) = (0, false)) := ⟨by rw [hmt]; rfl⟩
   have HI : Aside0 ((mlook M t).isSome = false) := ⟨by rw [hmt]; rfl⟩
   clear ha hmt
   go_wp2_with (first | (go_at_call 60; have hcall := flow_reach.calls k A0 c0 l (some ⟨gR, 0, none⟩) f.length f s M wr (Kd.C_below HR0.out ST.out.b) HC0.out (ST.out.R.reads HFL.out) (Nat.le_refl _) HM.out; rw [ST.out.len] at hcall; refine hcall.mono ?_; clear hcall; rintro e W1 ⟨B, rfl, hgB, hMI, hb⟩; have MI := a_ hMI; have ST1 := a_ (ST.out.step hb); clear ST hcL hcF; have ST := ST1; clear ST1; have hcL := ST.out.cL; have hcF := ST.out.cF; clear hb hgB hMI) | (at_lookup; refine wpList_look_ok rfl _ _ rfl rfl MI.out t rfl 0 false false HL.out HI.out ?_) | ((with_reducible refine gate_dst (N := 9) rfl ?_); refine box_event ?hg (N := 9) ?hd (cs := #[.int .i64 0, .bool false]) (t := 90) ?hr ?_; (case hd => rfl); (case hg => rfl); (case hr => first | (go_simp; done) | (go_simp; rfl)); intro gX hg W2 hbox hb; have GX := a_ ((by rw [hg]; exact ST.out.b.size) : w.heap.size ≤ gX); have BX := a_ hbox; have MI1 := a_ (MI.out.below hb); clear MI; have MI := MI1; clear MI1; have ST1 := a_ (ST.out.step hb); clear ST hcL hcF; have ST := ST1; clear ST1; have hcL := ST.out.cL; have hcF := ST.out.cF; have hx0 : W2.cell? ⟨gX, 0, none⟩ = some (.int .i64 0) := (blk_cell BX.out 0).trans rfl; have hx1 : W2.cell? ⟨gX, 1, none⟩ = some (.bool false) := (blk_cell BX.out 1).trans rfl; have hy0 := blk_frozen BX.out 0; have hy1 := blk_frozen BX.out 1; have hnL := bne_ ST.out.L BX.out (by decide); have hnF := bne_ ST.out.F BX.out (by decide); clear hg hbox hb))
   go_ret
   have X0 := blk_put (cs' := #[.int .i64 0, .bool false]) BX.out 0 (.int .i64 0) rfl
   have ST1 := a_ ((ST.out.set BX.out GX.out 0 (.int .i64 0)).set X0 GX.out 1 (.bool false))
   clear ST hcL hcF X0 hx0 hx1 hy0 hy1 hnL hnF
   have ST := ST1
   clear ST1
   exact ⟨_, rfl, by have := ST.out.R.own ST.out.ge HFL.out; rwa [ST.out.len] at this, ST.out.b⟩
  | some y =>
   obtain ⟨i0, b0⟩ := y
   rw [hmt, if_pos (show (some (i0, b0) : Option (Int × Bool)).isSome = true from rfl)] at ha
   have HL : Aside0 ((mlook M t).getD (0, false) = (i0, b0)) := ⟨by rw [hmt]; rfl⟩
   have HI : Aside0 ((mlook M t).isSome = true) := ⟨by rw [hmt]; rfl⟩
   clear hmt
   obtain ⟨way, hw, ha⟩ := Option.bind_eq_some_iff.mp ha
   have HW := a_ hw
   clear hw
   cases way with
   | nil => cases ha
   | cons x ws =>
   obtain ⟨n0, hn0, ha⟩ := Option.bind_eq_some_iff.mp ha
   obtain ⟨n, hn, ha⟩ := Option.bind_eq_some_iff.mp ha
   obtain ⟨f2, hf2, ha⟩ := Option.bind_eq_some_iff.mp ha
   have HN0 := a_ hn0
   have HN := a_ hn
   have HF2 := a_ hf2
   have HO := a_ ha
   clear hn0 hn hf2 ha
   go_wp2_with (first | (go_at_call 60; have hcall := flow_reach.calls k A0 c0 l (some ⟨gR, 0, none⟩) f.length f s M wr (Kd.C_below HR0.out ST.out.b) HC0.out (ST.out.R.reads HFL.out) (Nat.le_refl _) HM.out; rw [ST.out.len] at hcall; refine hcall.mono ?_; clear hcall; rintro e W1 ⟨B, rfl, hgB, hMI, hb⟩; have MI := a_ hMI; have ST1 := a_ (ST.out.step hb); clear ST hcL hcF; have ST := ST1; clear ST1; have hcL := ST.out.cL; have hcF := ST.out.cF; clear hb hgB hMI) | (at_lookup; refine wpList_look_ok rfl _ _ rfl rfl MI.out t rfl i0 b0 true HL.out HI.out ?_) | ((with_reducible refine gate_dst (N := 9) rfl ?_); refine box_event ?hg (N := 9) ?hd (cs := #[.int .i64 0, .bool false]) (t := 90) ?hr ?_; (case hd => rfl); (case hg => rfl); (case hr => first | (go_simp; done) | (go_simp; rfl)); intro gX hg W2 hbox hb; have GX := a_ ((by rw [hg]; exact ST.out.b.size) : w.heap.size ≤ gX); have BX := a_ hbox; have MI1 := a_ (MI.out.below hb); clear MI; have MI := MI1; clear MI1; have ST1 := a_ (ST.out.step hb); clear ST hcL hcF; have ST := ST1; clear ST1; have hcL := ST.out.cL; have hcF := ST.out.cF; have hx0 : W2.cell? ⟨gX, 0, none⟩ = some (.int .i64 0) := (blk_cell BX.out 0).trans rfl; have hx1 : W2.cell? ⟨gX, 1, none⟩ = some (.bool false) := (blk_cell BX.out 1).trans rfl; have hy0 := blk_frozen BX.out 0; have hy1 := blk_frozen BX.out 1; have hnL := bne_ ST.out.L BX.out (by decide); have hnF := bne_ ST.out.F BX.out (by decide); clear hg hbox hb) | (go_at_call 61; have X0 := blk_put (cs' := #[.int .i64 i0, .bool false]) BX.out 0 (.int .i64 i0) rfl; have ST1 := a_ ((ST.out.set BX.out GX.out 0 (.int .i64 i0)).set X0 GX.out 1 (.bool b0)); have MI1 := a_ ((MI.out.far BX.out 0 (.int .i64 i0)).far X0 1 (.bool b0)); clear MI; have MI := MI1; clear MI1; clear ST hcL hcF X0 hx0 hx1 hy0 hy1 hnL hnF; have ST := ST1; clear ST1; (with_reducible refine (flow_path.calls k A0 c0 l B M s t (x :: ws) _ (Kd.C_below HR0.out ST.out.b) HC0.out MI.out HW.out).mono ?_); rintro e W4 ⟨v, rfl, hv, hb⟩; have WR := a_ (show WRow w W4 v (x :: ws) from Kd.R_lower hv ST.out.b.size); obtain ⟨gW, cw, rfl⟩ := WRow.shape WR.out (by rw [List.length_cons]; omega); have ST1 := a_ (ST.out.step hb); clear ST; have ST := ST1; clear ST1; have hcL := ST.out.cL; have hcF := ST.out.cF; have z0 : W4.cell? ⟨gW, 0, none⟩ = some (.int .i64 x.f0) := (WRow.cells WR.out 0 (by omega) (by rw [List.length_cons]; omega)).1; have z1 : W4.cell? ⟨gW, 1, none⟩ = some (.bool x.f1) := (WRow.cells WR.out 0 (by omega) (by rw [List.length_cons]; omega)).2; clear hv hb) | (go_at_call 62; (with_reducible refine (flow_room.calls _ A0 c0 l gF gL gR f x.f0 x.f1 n0 (Kd.C_below HR0.out ST.out.b) ST.out.F' ST.out.L ST.out.R HN0.out).mono ?_); rintro e W5 ⟨rfl, hb⟩; clear hcL hcF; have ST1 := a_ (ST.out.step hb); have WR1 := a_ (WRow.step WR.out hb); clear ST WR; have ST := ST1; have WR := WR1; clear ST1 WR1; have hcL := ST.out.cL; have hcF := ST.out.cF; clear hb))
   have MX := n0
   replace WR : Aside0 (WRow w W5 (.slice (some ⟨gW, 0, none⟩) (ws.length + 1) cw) (x :: ws)) := WR
   generalize hway : x :: ws = way at HN HF2 WR
   have HWL := a_ ((by rw [← hway]; exact List.length_cons) : way.length = ws.length + 1)
   have WM := a_ (show way.length ≤ 9223372036854775807 from Kd.C_max (Kd.R_reads' WR.out).2.2)
   clear hway HM HL HI HW HN0 MX hcL hcF z0 z1
   clear GX BX MI
   go_loopw [13, 51] (fun v13 v51 w' => ∃ nn x51 : Int, v13 = .int .i64 nn ∧ v51 = .int .i64 x51 ∧ Aside0 (0 ≤ x51) ∧ Aside0 (x51 ≤ way.length) ∧ Aside0 (minR l f (way.drop x51.toNat) nn = some n) ∧ Aside0 (FSt w w' gL gF gR A0 c0 l f) ∧ Aside0 (WRow w w' (.slice (some ⟨gW, 0, none⟩) (ws.length + 1) cw) way)) (fun _ v51 _ => way.length - (intOf v51).toNat)
   case atStart => exact ⟨n0, 0, rfl, rfl, ⟨by omega⟩, ⟨by omega⟩, HN, ST, WR⟩
   case round =>
   clear ST WR HN
   obtain ⟨nn, x51, rfl, rfl, H0, H1, HMI, ST, WR⟩ := hrel
   have hcL := ST.out.cL
   have hcF := ST.out.cF
   by_cases hlt : x51 < (way.length : Int)
   ·have p1 := H0.out
    have hm := HMI.out
    rw [rd90_at way x51 p1 hlt, minR] at hm
    obtain ⟨y, hy, hm⟩ := Option.bind_eq_some_iff.mp hm
    have HY := a_ hy
    have HM2 := a_ hm
    clear hm hy HMI
    obtain ⟨z0, z1⟩ := WRow.cells WR.out x51 p1 hlt
    have HLT := a_ hlt
    have HWP : Aside0 (wrap64 (x51 + 1) = x51 + 1) := ⟨by have h1 := WM.out; unfold wrap64; omega⟩
    generalize rd_T90 way x51 = sx at z0 z1 HY
    have dl : decide (x51 < ((ws.length + 1 : Nat) : Int)) = true := decide_eq_true (by have h1 := HWL.out; omega)
    have dl' : x51 < ((ws.length : Int) + 1) := by have h1 := HWL.out; omega
    replace p1 := eq_true p1
    replace dl' := eq_true dl'
    clear hlt
    go_wp2_with (first | ((with_reducible refine gate_dst (N := 15) rfl ?_); refine box_event ?hg (N := 15) ?hd (cs := #[.int .i64 0, .bool false]) (t := 90) ?hr ?_; (case hd => rfl); (case hg => rfl); (case hr => first | (go_simp; done) | (go_simp; rfl)); intro gY hg WY hbox hb; have GX := a_ ((by rw [hg]; exact ST.out.b.size) : w.heap.size ≤ gY); have BX := a_ hbox; have WR1 := a_ (WRow.new WR.out hg hb); clear WR; have WR := WR1; clear WR1; have ST1 := a_ (ST.out.step hb); clear ST hcL hcF; have ST := ST1; clear ST1; have hcL := ST.out.cL; have hcF := ST.out.cF; have hx0 : WY.cell? ⟨gY, 0, none⟩ = some (.int .i64 0) := (blk_cell BX.out 0).trans rfl; have hx1 : WY.cell? ⟨gY, 1, none⟩ = some (.bool false) := (blk_cell BX.out 1).trans rfl; have hy0 := blk_frozen BX.out 0; have hy1 := blk_frozen BX.out 1; have hnL := bne_ ST.out.L BX.out (by decide); have hnF := bne_ ST.out.F BX.out (by decide); (try clear z0); (try clear z1); clear hg hbox hb) | (go_at_call 62; have X0 := blk_put (cs' := #[.int .i64 sx.f0, .bool false]) BX.out 0 (.int .i64 sx.f0) rfl; have ST1 := a_ ((ST.out.set BX.out GX.out 0 (.int .i64 sx.f0)).set X0 GX.out 1 (.bool sx.f1)); clear ST hcL hcF X0 hx0 hx1 hy0 hy1 hnL hnF; have ST := ST1; clear ST1; have WR1 := a_ (WRow.of (WRow.set (WRow.set WR.out 0 (.int .i64 sx.f0)) 1 (.bool sx.f1))); clear WR; have WR := WR1; clear WR1; (with_reducible refine (flow_room.calls _ A0 c0 l gF gL gR f sx.f0 sx.f1 y (Kd.C_below HR0.out ST.out.b) ST.out.F' ST.out.L ST.out.R HY.out).mono ?_); rintro e W5 ⟨rfl, hb⟩; clear GX BX; have ST1 := a_ (ST.out.step hb); have WR1 := a_ (WRow.step WR.out hb); clear ST WR; have ST := ST1; have WR := WR1; clear ST1 WR1; have hcL := ST.out.cL; have hcF := ST.out.cF; clear hb))
    rw [HWP.out]
    go_roundw
    case measure => have h1 := HLT.out; have h2 := H0.out; simp only [intOf]; omega
    case rel => exact ⟨_, x51 + 1, rfl, rfl, ⟨by have := H0.out; omega⟩, ⟨by have := HLT.out; omega⟩, HM2, ST, WR⟩
   ·have hm := HMI.out
    rw [show way.drop x51.toNat = [] by apply List.drop_eq_nil_of_le; omega, minR] at hm
    obtain rfl := Option.some.inj hm
    have dl : decide (x51 < ((ws.length + 1 : Nat) : Int)) = false := decide_eq_false (by have h1 := HWL.out; omega)
    have dl' : ¬ x51 < ((ws.length : Int) + 1) := by have h1 := HWL.out; omega
    clear hm HMI hlt
    go_wp2
    clear hcL hcF dl dl' H0 H1
    go_loopw [63] (fun v63 w' => ∃ (x63 : Int) (f' : List Int), v63 = .int .i64 x63 ∧ Aside0 (0 ≤ x63) ∧ Aside0 (x63 ≤ way.length) ∧ Aside0 (addR nn (way.drop x63.toNat) f' = some f2) ∧ Aside0 (FSt w w' gL gF gR A0 c0 l f') ∧ Aside0 (WRow w w' (.slice (some ⟨gW, 0, none⟩) (ws.length + 1) cw) way)) (fun v63 _ => way.length - (intOf v63).toNat)
    case atStart => exact ⟨0, f, rfl, ⟨by omega⟩, ⟨by omega⟩, HF2, ST, WR⟩
    case round =>
    clear ST WR HF2
    obtain ⟨x63, f', rfl, H0, H1, HAD, ST, WR⟩ := hrel
    have hcL := ST.out.cL
    have hcF := ST.out.cF
    by_cases hlt : x63 < (way.length : Int)
    ·have p1 := H0.out
     have hm := HAD.out
     rw [rd90_at way x63 p1 hlt, addR] at hm
     obtain ⟨z0, z1⟩ := WRow.cells WR.out x63 p1 hlt
     have HLT := a_ hlt
     have HWP : Aside0 (wrap64 (x63 + 1) = x63 + 1) := ⟨by have h1 := WM.out; unfold wrap64; omega⟩
     generalize rd_T90 way x63 = sx at z0 z1 hm
     have hcc : 0 ≤ sx.f0 ∧ sx.f0 < (f'.length : Int) := by
      by_cases hh : 0 ≤ sx.f0 ∧ sx.f0 < (f'.length : Int)
      ·exact hh
      ·rw [if_neg hh] at hm; cases hm
     rw [if_pos hcc] at hm
     obtain ⟨q0, q1⟩ := hcc
     have HM2 := a_ hm
     clear hm HAD
     have hfc := FRow.cell ST.out.R sx.f0 q0 q1
     have q1' : sx.f0 < (l.length : Int) := by rw [← ST.out.len]; exact q1
     have dl : decide (x63 < ((ws.length + 1 : Nat) : Int)) = true := decide_eq_true (by have h1 := HWL.out; omega)
     have dl' : x63 < ((ws.length : Int) + 1) := by have h1 := HWL.out; omega
     replace p1 := eq_true p1
     replace q0 := eq_true q0
     replace q1 := eq_true q1
     replace q1' := eq_true q1'
     replace dl' := eq_true dl'
     clear hlt
     obtain ⟨si, sb⟩ := sx
     simp only at z0 z1 hfc q0 q1 q1'
     have HQ0 := a_ (of_eq_true q0)
     have HQ1 := a_ (of_eq_true q1)
     cases sb with
     | false =>
      go_wp2_with (first | ((with_reducible refine gate_dst (N := 17) rfl ?_); refine box_event ?hg (N := 17) ?hd (cs := #[.int .i64 0, .bool false]) (t := 90) ?hr ?_; (case hd => rfl); (case hg => rfl); (case hr => first | (go_simp; done) | (go_simp; rfl)); intro gZ hg WZ hbox hb; have GX := a_ ((by rw [hg]; exact ST.out.b.size) : w.heap.size ≤ gZ); have BX := a_ hbox; have WR1 := a_ (WRow.new WR.out hg hb); clear WR; have WR := WR1; clear WR1; have hnR0 := ST.out.R.below hb; have hfc1 := FRow.cell hnR0 si HQ0.out HQ1.out; have hff1 := blk_frozen hnR0 si.toNat; have ST1 := a_ (ST.out.step hb); clear ST hcL hcF; have ST := ST1; clear ST1; have hcL := ST.out.cL; have hcF := ST.out.cF; have hx0 : WZ.cell? ⟨gZ, 0, none⟩ = some (.int .i64 0) := (blk_cell BX.out 0).trans rfl; have hx1 : WZ.cell? ⟨gZ, 1, none⟩ = some (.bool false) := (blk_cell BX.out 1).trans rfl; have hy0 := blk_frozen BX.out 0; have hy1 := blk_frozen BX.out 1; have hnL := bne_ ST.out.L BX.out (by decide); have hnF := bne_ ST.out.F BX.out (by decide); (try clear z0); (try clear z1); have hnR := bne_ hnR0 BX.out (by decide); clear hnR0 hg hbox hb))
      have X0 := blk_put (cs' := #[.int .i64 si, .bool false]) BX.out 0 (.int .i64 si) rfl
      have ST1 := a_ ((ST.out.set BX.out GX.out 0 (.int .i64 si)).set X0 GX.out 1 (.bool false))
      clear ST hcL hcF X0 hx0 hx1 hy0 hy1 hnL hnF
      have ST := ST1
      clear ST1
      have WR1 := a_ (WRow.of (WRow.set (WRow.set WR.out 0 (.int .i64 si)) 1 (.bool false)))
      clear WR
      have WR := WR1
      clear WR1
      rw [HWP.out]
      go_roundw
      case measure => have h1 := HLT.out; have h2 := H0.out; simp only [intOf]; omega
      case rel => exact ⟨x63 + 1, _, rfl, ⟨by have := H0.out; omega⟩, ⟨by have := HLT.out; omega⟩, ⟨by have h := HM2.out; simpa using h⟩, ⟨ST.out.put _ _⟩, ⟨WRow.set3 WR.out ST.out.R _ _⟩⟩
     | true =>
      go_wp2_with (first | ((with_reducible refine gate_dst (N := 17) rfl ?_); refine box_event ?hg (N := 17) ?hd (cs := #[.int .i64 0, .bool false]) (t := 90) ?hr ?_; (case hd => rfl); (case hg => rfl); (case hr => first | (go_simp; done) | (go_simp; rfl)); intro gZ hg WZ hbox hb; have GX := a_ ((by rw [hg]; exact ST.out.b.size) : w.heap.size ≤ gZ); have BX := a_ hbox; have WR1 := a_ (WRow.new WR.out hg hb); clear WR; have WR := WR1; clear WR1; have hnR0 := ST.out.R.below hb; have hfc1 := FRow.cell hnR0 si HQ0.out HQ1.out; have hff1 := blk_frozen hnR0 si.toNat; have ST1 := a_ (ST.out.step hb); clear ST hcL hcF; have ST := ST1; clear ST1; have hcL := ST.out.cL; have hcF := ST.out.cF; have hx0 : WZ.cell? ⟨gZ, 0, none⟩ = some (.int .i64 0) := (blk_cell BX.out 0).trans rfl; have hx1 : WZ.cell? ⟨gZ, 1, none⟩ = some (.bool false) := (blk_cell BX.out 1).trans rfl; have hy0 := blk_frozen BX.out 0; have hy1 := blk_frozen BX.out 1; have hnL := bne_ ST.out.L BX.out (by decide); have hnF := bne_ ST.out.F BX.out (by decide); (try clear z0); (try clear z1); have hnR := bne_ hnR0 BX.out (by decide); clear hnR0 hg hbox hb))
      have X0 := blk_put (cs' := #[.int .i64 si, .bool false]) BX.out 0 (.int .i64 si) rfl
      have ST1 := a_ ((ST.out.set BX.out GX.out 0 (.int .i64 si)).set X0 GX.out 1 (.bool true))
      clear ST hcL hcF X0 hx0 hx1 hy0 hy1 hnL hnF
      have ST := ST1
      clear ST1
      have WR1 := a_ (WRow.of (WRow.set (WRow.set WR.out 0 (.int .i64 si)) 1 (.bool true)))
      clear WR
      have WR := WR1
      clear WR1
      rw [HWP.out]
      go_roundw
      case measure => have h1 := HLT.out; have h2 := H0.out; simp only [intOf]; omega
      case rel => exact ⟨x63 + 1, _, rfl, ⟨by have := H0.out; omega⟩, ⟨by have := HLT.out; omega⟩, ⟨by have h := HM2.out; simpa using h⟩, ⟨ST.out.put _ _⟩, ⟨WRow.set3 WR.out ST.out.R _ _⟩⟩
    ·have hm := HAD.out
     rw [show way.drop x63.toNat = [] by apply List.drop_eq_nil_of_le; omega, addR] at hm
     obtain rfl := Option.some.inj hm
     have dl : decide (x63 < ((ws.length + 1 : Nat) : Int)) = false := decide_eq_false (by have h1 := HWL.out; omega)
     have dl' : ¬ x63 < ((ws.length : Int) + 1) := by have h1 := HWL.out; omega
     clear hm HAD hlt
     go_wp2
     go_roundg k1
     case measure => omega
     case rel => exact ⟨_, HO, ST⟩

theorem reachO_mono (l : List S67) (f : List Int) : ∀ k m q, LeO (reachO l f k m q) (reachO l f (k + 1) m q)
 | 0, m, q => fun r h => by cases h
 | k + 1, m, [] => by rw [reachO, reachO]; exact LeO.refl _
 | k + 1, m, n :: q => by
  rw [reachO, reachO]
  exact LeO.bind (LeO.refl _) (fun st => reachO_mono l f k st.1 st.2)
theorem pathL_mono (l : List S67) (M : List (Int × (Int × Bool))) (s : Int) : ∀ k t acc, LeO (pathL l M s k t acc) (pathL l M s (k + 1) t acc)
 | 0, t, acc => fun r h => by cases h
 | k + 1, t, acc => by
  rw [pathL, pathL]
  exact LeO.ite (LeO.refl _) (LeO.ite (pathL_mono l M s k _ _) (LeO.refl _))
theorem findL_mono (l : List S67) (s t : Int) (K : Nat) : ∀ q f, LeO (findL K l s t q f) (findL (K + 1) l s t (q + 1) f)
 | 0, f => fun r h => by cases h
 | q + 1, f => by
  rw [findL, findL]
  refine LeO.bind (reachO_mono l f K _ _) (fun M => LeO.ite (LeO.bind (pathL_mono l M s K t []) (fun way => ?_)) (LeO.refl _))
  cases way with
  | nil => exact LeO.refl _
  | cons x ws => exact LeO.bind (LeO.refl _) (fun n0 => LeO.bind (LeO.refl _) (fun n => LeO.bind (LeO.refl _) (fun f2 => findL_mono l s t K q f2)))
theorem flow_Find.mono : ∀ a0 a1 a2 k, LeO (flow_Find.f k a0 a1 a2) (flow_Find.f (k + 1) a0 a1 a2) := fun l s t k => by
 unfold flow_Find.f
 exact LeO.ite (LeO.ite (LeO.refl _) (findL_mono l s t k k _)) (LeO.refl _)
def flow_Value.f (l : List S67) (f : List Int) (s : Int) : Option Int := (flow_surplus.f l f).bind fun m => some (get0 m s)
def flow_Max.f (k : Nat) (l : List S67) (s t : Int) : Option Int := if s = t then some 0 else (flow_Find.f k l s t).bind fun f => flow_Value.f l f s
theorem flow_Max.mono : ∀ a0 a1 a2 k, LeO (flow_Max.f k a0 a1 a2) (flow_Max.f (k + 1) a0 a1 a2) := fun l s t k => by
 unfold flow_Max.f
 exact LeO.ite (LeO.refl _) (LeO.bind (flow_Find.mono l s t k) (fun _ => LeO.refl _))
theorem wpList_look85 {ops : Array Oper} {rest : List Oper} {o : Oper} {a : Act} {Q : Exit → Act → World → Prop} {w : World} {B : Nat} {M : List (Int × Int)} (hg : o.guard = none) (m x : Operand) (hop : o.op = Op.lookup 85 m x false) (hm : a.eval m = .map (some B)) (hM : MapIs w B (Value.int .i64) M) (key : Int) (hx : a.eval x = .int .i64 key)
  (hK : wpList Try.prog ops Q rest (a.put o.dst (.int .i64 (get0 M key))) w) : wpList Try.prog ops Q (o :: rest) a w := by
 refine wpList_plain hg fun K' hK' => ?_
 have hrun := run_mlook_int hM key
 unfold Oper.wp
 simp [execOp, hop, hm, hx, hrun, Result.andThen]
 exact hK' _ _ hK
set_option maxRecDepth 10000 in
theorem flow_Value.calls (A0 : Option Addr) (c0 : Nat) (l : List S67) (A1 : Option Addr) (c1 : Nat) (f : List Int) (s r : Int) (w : World) (hr0 : Kd.C k67 w A0 l.length l) (hc0 : l.length ≤ c0) (hr1 : Kd.C (Kd.int .i64) w A1 f.length f) (hc1 : f.length ≤ c1) (h : flow_Value.f l f s = some r) :
  Calls Try.prog 49 #[.slice A0 l.length c0, .slice A1 f.length c1, .int .i64 s] w fun e w' => e = .returned (.int .i64 r) ∧ Below w.heap.size w w' := by
 obtain ⟨m, hm, h⟩ := Option.bind_eq_some_iff.mp h
 obtain rfl := Option.some.inj h
 have HR0 := a_ hr0
 have HC0 := a_ hc0
 have HR1 := a_ hr1
 have HC1 := a_ hc1
 have HM := a_ hm
 clear hr0 hc0 hr1 hc1 hm h
 go_enter Try.func49, Try.ntmps49
 go_wp2_with (first | (go_at_call 59; (with_reducible refine (flow_surplus.calls A0 c0 l A1 c1 f m w HR0.out HC0.out HR1.out HC1.out HM.out).mono ?_); rintro e W1 ⟨B, rfl, hB, hMI, hb⟩; have MI := a_ hMI; have HB := a_ hb; clear hB hMI hb) | (at_lookup; refine wpList_look85 rfl _ _ rfl rfl MI.out s rfl ?_))
 go_ret
 exact ⟨rfl, HB.out⟩
set_option maxRecDepth 10000 in
theorem flow_Max.calls (k : Nat) (A0 : Option Addr) (c0 : Nat) (l : List S67) (s t r : Int) (w : World) (hr0 : Kd.C k67 w A0 l.length l) (hc0 : l.length ≤ c0) (h : flow_Max.f k l s t = some r) :
  Calls Try.prog 36 #[.slice A0 l.length c0, .int .i64 s, .int .i64 t] w fun e w' => e = .returned (.int .i64 r) ∧ Below w.heap.size w w' := by
 have HR0 := a_ hr0
 have HC0 := a_ hc0
 clear hr0 hc0
 unfold flow_Max.f at h
 by_cases c : s = t
 ·rw [if_pos c] at h
  obtain rfl := Option.some.inj h
  have d1 : decide (s = t) = true := decide_eq_true c
  subst c
  clear h
  go_enter Try.func36, Try.ntmps36
  go_wp2
  go_ret
  exact ⟨rfl, Below.refl _ _⟩
 ·rw [if_neg c] at h
  have d1 : decide (s = t) = false := decide_eq_false c
  have d1' : (s == t) = false := by simpa using c
  obtain ⟨f, hf, h⟩ := Option.bind_eq_some_iff.mp h
  have HF := a_ hf
  have HV := a_ h
  clear hf h
  go_enter Try.func36, Try.ntmps36
  go_wp2_with (first | (go_at_call 50; (with_reducible refine (flow_Find.calls k A0 c0 l s t f w HR0.out HC0.out HF.out).mono ?_); rintro e W1 ⟨v, rfl, hv, hb⟩; obtain ⟨A1, c1, rfl⟩ := Kd.R_slice hv; have HO := a_ hv; have HB := a_ hb; clear hv hb) | (go_at_call 49; (with_reducible refine (flow_Value.calls A0 c0 l A1 c1 f s r W1 (Kd.C_below HR0.out HB.out) HC0.out (Kd.R_reads' HO.out).2.2 (Kd.R_reads' HO.out).2.1 HV.out).mono ?_); rintro e W2 ⟨rfl, hb⟩; have HB2 := a_ (below_step HB.out hb); clear hb))
  go_ret
  exact ⟨rfl, HB2.out⟩
end



end Go.Proofs.Ytgfiidgigenibaa.Q
