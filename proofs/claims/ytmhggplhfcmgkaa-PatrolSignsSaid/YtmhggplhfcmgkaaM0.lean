/- Walks and plain laws that this claim bears (this session's). -/
import Derived.Test.YtmhggplhfcmgkaaProg
import Derived.Below
import Derived.Deep.Draws
import Derived.Deep.AppendLies
import Derived.Maps.AppendAt
import Derived.OwnWalk
import Derived.Laws.BytesArg
import Derived.Laws.MakeOwn
import Derived.Laws.OwnMore
import Derived.Deep.OwnRows
import Derived.Tactics
import Derived.Lib.ConvBytes
import Derived.Laws.Slices
import Derived.WalkKit
import Derived.KernelRfl
import Derived.RowKit3
import Derived.Deep.LoopGhost
import Derived.Deep.QuietTactic
import Derived.BigQuiet
import Derived.WideLaws
import Derived.Deep.DeepCutAuto
import Derived.Deep.CutBlock
import Derived.Deep.RegionHeld3
import Derived.Laws.Rows
import Derived.Lib.AppendStr
import Derived.ArgAppend
import Derived.Laws.IdiomCopy
import Derived.OrdersHeld
import Derived.Laws.BitsLemmas
import Derived.RowKit
import Derived.RangeFuncNested
import Derived.RangeFuncBound
import Derived.RangeFuncCalls
import Derived.RangeFuncLeaves
import Derived.RangeFuncBox
import Derived.Shelf.Abstract
import Derived.OwnWalkIn
import Derived.TacticsInMore
import Derived.LoopNIn
import Derived.LoopIn
import Derived.WalkSpells
import Derived.Lib.LazyBuf
import Derived.Test.YtmhggplhfcmgkaaWW
namespace Go.Proofs.Ytmhggplhfcmgkaa.Q
open Go.RowKit Go.Proofs.YtmhggplhfcmgkaaW.PrintWords Go.Proofs.YtmhggplhfcmgkaaW.PrintLast Go.Proofs.YtmhggplhfcmgkaaW.PrintMore
attribute [local go_sem] max2_int min2_int max_two min_two max_three min_three max_four min_four   -- for this text's walks alone
set_option linter.unusedVariables false
set_option linter.unusedSimpArgs false
def errW : Option Int → Value
 | none => .nilIface
 | some c => .iface 0 (.int .i64 c)
theorem errW_none : errW none = .nilIface := rfl
theorem errW_some (c : Int) : errW (some c) = .iface 0 (.int .i64 c) := rfl

theorem info3 : (Try.prog.info? 3).map (fun i => (i.zero, i.size, i.bytes)) = some (some (.int .i64 0), 1, 8) := by kernel_rfl
theorem info35 : (Try.prog.info? 35).map (fun i => (i.zero, i.size, i.bytes)) = some (some (.agg #[(.int .i64 0), (.int .i64 0), (.int .i64 0)]), 3, 24) := by kernel_rfl
theorem info56 : (Try.prog.info? 56).map (fun i => (i.zero, i.size, i.bytes)) = some (some (.agg #[(.int .i64 0), (.int .i64 0), (.int .i64 0)]), 3, 24) := by kernel_rfl
theorem info63 : (Try.prog.info? 63).map (fun i => (i.zero, i.size, i.bytes)) = some (some (.agg #[(.int .i64 0), (.slice none 0 0), (.int .i64 0), (.slice none 0 0)]), 4, 64) := by kernel_rfl
-- the values' own types
/-! #### struct type 35 -/
structure S35 where
 f0 : Int
 f1 : Int
 f2 : Int
def z35 : S35 := ⟨(0 : Int), (0 : Int), (0 : Int)⟩
def k35 : Kd S35 := Kd.iso (Kd.pair (Kd.int .i64) (Kd.pair (Kd.int .i64) (Kd.int .i64))) (fun x : S35 => (x.f0, x.f1, x.f2))
theorem k35_open {w : World} {x : S35} {cs : List Value} (h : k35.K w x cs) : cs = [.int .i64 x.f0, .int .i64 x.f1, .int .i64 x.f2] := by
 obtain ⟨_, _, rfl, rfl, ⟨_, _, rfl, rfl, rfl⟩⟩ := h
 exact rfl
theorem k35_openM {w : World} {base : Nat} {ok : Nat → Prop} {x : S35} {cs : List Value} (h : k35.M w base ok x cs) : cs = [.int .i64 x.f0, .int .i64 x.f1, .int .i64 x.f2] := by
 obtain ⟨_, _, rfl, rfl, ⟨_, _, rfl, rfl, rfl⟩⟩ := h
 exact rfl
theorem k35_mk (w : World) (x : S35)  : k35.K w x [.int .i64 x.f0, .int .i64 x.f1, .int .i64 x.f2] := ⟨[.int .i64 x.f0], [.int .i64 x.f1, .int .i64 x.f2], rfl, rfl, ⟨[.int .i64 x.f1], [.int .i64 x.f2], rfl, rfl, rfl⟩⟩
theorem k35_mkM (w : World) (base : Nat) (ok : Nat → Prop) (x : S35)  : k35.M w base ok x [.int .i64 x.f0, .int .i64 x.f1, .int .i64 x.f2] := ⟨[.int .i64 x.f0], [.int .i64 x.f1, .int .i64 x.f2], rfl, rfl, ⟨[.int .i64 x.f1], [.int .i64 x.f2], rfl, rfl, rfl⟩⟩
theorem k35_mkF (W : World) (ok : Nat → Prop) (x : S35) : Kd.FK k35 W ok x [.int .i64 x.f0, .int .i64 x.f1, .int .i64 x.f2] := fun W2 _ => k35_mk W2 x
def rd_T35 (xs : List S35) (i : Int) : S35 := xs.getD i.toNat z35
theorem at_T35 {w : World} {A : Option Addr} {n : Nat} {xs : List S35} (h : Kd.C k35 w A n xs) (i : Int) (h0 : 0 ≤ i) (h1 : i < n) : ∃ ad , A = some ad ∧ w.cell? (ad.add (i.toNat * 3)) = some (.int .i64 (rd_T35 xs i).f0) ∧ w.cell? ⟨(ad.add (i.toNat * 3)).block, (ad.add (i.toNat * 3)).off + 1, none⟩ = some (.int .i64 (rd_T35 xs i).f1) ∧ w.cell? ⟨(ad.add (i.toNat * 3)).block, (ad.add (i.toNat * 3)).off + 2, none⟩ = some (.int .i64 (rd_T35 xs i).f2) := by
 obtain ⟨ad, c, e, _, hK, hc0⟩ := Kd.C_get h z35 i h0 h1
 have hc : ∀ j u, c[j]? = some u → w.cell? (ad.add (i.toNat * 3 + j)) = some u := hc0
 obtain rfl := k35_open hK
 exact ⟨ad, e, hc 0 _ rfl, by rw [← add_field _ _ 1 (by omega)]; exact hc 1 _ rfl, by rw [← add_field _ _ 2 (by omega)]; exact hc 2 _ rfl⟩

/-! #### struct type 56 -/
structure S56 where
 f0 : Int
 f1 : Int
 f2 : Int
def z56 : S56 := ⟨(0 : Int), (0 : Int), (0 : Int)⟩
def k56 : Kd S56 := Kd.iso (Kd.pair (Kd.int .i64) (Kd.pair (Kd.int .i64) (Kd.int .i64))) (fun x : S56 => (x.f0, x.f1, x.f2))
theorem k56_open {w : World} {x : S56} {cs : List Value} (h : k56.K w x cs) : cs = [.int .i64 x.f0, .int .i64 x.f1, .int .i64 x.f2] := by
 obtain ⟨_, _, rfl, rfl, ⟨_, _, rfl, rfl, rfl⟩⟩ := h
 exact rfl
theorem k56_openM {w : World} {base : Nat} {ok : Nat → Prop} {x : S56} {cs : List Value} (h : k56.M w base ok x cs) : cs = [.int .i64 x.f0, .int .i64 x.f1, .int .i64 x.f2] := by
 obtain ⟨_, _, rfl, rfl, ⟨_, _, rfl, rfl, rfl⟩⟩ := h
 exact rfl
theorem k56_mk (w : World) (x : S56)  : k56.K w x [.int .i64 x.f0, .int .i64 x.f1, .int .i64 x.f2] := ⟨[.int .i64 x.f0], [.int .i64 x.f1, .int .i64 x.f2], rfl, rfl, ⟨[.int .i64 x.f1], [.int .i64 x.f2], rfl, rfl, rfl⟩⟩
theorem k56_mkM (w : World) (base : Nat) (ok : Nat → Prop) (x : S56)  : k56.M w base ok x [.int .i64 x.f0, .int .i64 x.f1, .int .i64 x.f2] := ⟨[.int .i64 x.f0], [.int .i64 x.f1, .int .i64 x.f2], rfl, rfl, ⟨[.int .i64 x.f1], [.int .i64 x.f2], rfl, rfl, rfl⟩⟩
theorem k56_mkF (W : World) (ok : Nat → Prop) (x : S56) : Kd.FK k56 W ok x [.int .i64 x.f0, .int .i64 x.f1, .int .i64 x.f2] := fun W2 _ => k56_mk W2 x
def rd_T56 (xs : List S56) (i : Int) : S56 := xs.getD i.toNat z56
theorem at_T56 {w : World} {A : Option Addr} {n : Nat} {xs : List S56} (h : Kd.C k56 w A n xs) (i : Int) (h0 : 0 ≤ i) (h1 : i < n) : ∃ ad , A = some ad ∧ w.cell? (ad.add (i.toNat * 3)) = some (.int .i64 (rd_T56 xs i).f0) ∧ w.cell? ⟨(ad.add (i.toNat * 3)).block, (ad.add (i.toNat * 3)).off + 1, none⟩ = some (.int .i64 (rd_T56 xs i).f1) ∧ w.cell? ⟨(ad.add (i.toNat * 3)).block, (ad.add (i.toNat * 3)).off + 2, none⟩ = some (.int .i64 (rd_T56 xs i).f2) := by
 obtain ⟨ad, c, e, _, hK, hc0⟩ := Kd.C_get h z56 i h0 h1
 have hc : ∀ j u, c[j]? = some u → w.cell? (ad.add (i.toNat * 3 + j)) = some u := hc0
 obtain rfl := k56_open hK
 exact ⟨ad, e, hc 0 _ rfl, by rw [← add_field _ _ 1 (by omega)]; exact hc 1 _ rfl, by rw [← add_field _ _ 2 (by omega)]; exact hc 2 _ rfl⟩

def rd_L3 (xs : List (List Int)) (i : Int) : (List Int) := xs.getD i.toNat ([] : List Int)
theorem at_L3 {w : World} {A : Option Addr} {n : Nat} {xs : List (List Int)} (h : Kd.C (Kd.slice 3 (Kd.int .i64)) w A n xs) (i : Int) (h0 : 0 ≤ i) (h1 : i < n) : ∃ ad A0 c0, A = some ad ∧ w.cell? (ad.add i.toNat) = some (.slice A0 (rd_L3 xs i).length c0) ∧ (rd_L3 xs i).length ≤ c0 ∧ (Kd.int .i64).C w A0 (rd_L3 xs i).length (rd_L3 xs i) := by
 obtain ⟨ad, c, e, _, hK, hc0⟩ := Kd.C_get h ([] : List Int) i h0 h1
 have hc : ∀ j u, c[j]? = some u → w.cell? (ad.add (i.toNat * 1 + j)) = some u := hc0
 obtain ⟨A0, c0, rfl, l0, g0⟩ := hK
 exact ⟨ad, A0, c0, e, by have hq := hc 0 _ rfl; rwa [Nat.mul_one, Nat.add_zero] at hq, l0, g0⟩

def rd_L4 (xs : List (List S35)) (i : Int) : (List S35) := xs.getD i.toNat ([] : List S35)
theorem at_L4 {w : World} {A : Option Addr} {n : Nat} {xs : List (List S35)} (h : Kd.C (Kd.slice 35 k35) w A n xs) (i : Int) (h0 : 0 ≤ i) (h1 : i < n) : ∃ ad A0 c0, A = some ad ∧ w.cell? (ad.add i.toNat) = some (.slice A0 (rd_L4 xs i).length c0) ∧ (rd_L4 xs i).length ≤ c0 ∧ k35.C w A0 (rd_L4 xs i).length (rd_L4 xs i) := by
 obtain ⟨ad, c, e, _, hK, hc0⟩ := Kd.C_get h ([] : List S35) i h0 h1
 have hc : ∀ j u, c[j]? = some u → w.cell? (ad.add (i.toNat * 1 + j)) = some u := hc0
 obtain ⟨A0, c0, rfl, l0, g0⟩ := hK
 exact ⟨ad, A0, c0, e, by have hq := hc 0 _ rfl; rwa [Nat.mul_one, Nat.add_zero] at hq, l0, g0⟩

/-! #### struct type 25 -/
structure S25 where
 f0 : (List Int)
 f1 : Int
 f2 : (List S35)
def z25 : S25 := ⟨([] : List Int), (0 : Int), ([] : List S35)⟩
def k25 : Kd S25 := Kd.iso (Kd.pair (Kd.slice 3 (Kd.int .i64)) (Kd.pair (Kd.int .i64) (Kd.slice 35 k35))) (fun x : S25 => (x.f0, x.f1, x.f2))
theorem k25_open {w : World} {x : S25} {cs : List Value} (h : k25.K w x cs) : ∃ A0 c0 A2 c2, cs = [.slice A0 x.f0.length c0, .int .i64 x.f1, .slice A2 x.f2.length c2] ∧ x.f0.length ≤ c0 ∧ (Kd.int .i64).C w A0 x.f0.length x.f0 ∧ x.f2.length ≤ c2 ∧ k35.C w A2 x.f2.length x.f2 := by
 obtain ⟨_, _, rfl, ⟨A0, c0, rfl, l0, g0⟩, ⟨_, _, rfl, rfl, ⟨A2, c2, rfl, l2, g2⟩⟩⟩ := h
 exact ⟨A0, c0, A2, c2, rfl, l0, g0, l2, g2⟩
theorem k25_openM {w : World} {base : Nat} {ok : Nat → Prop} {x : S25} {cs : List Value} (h : k25.M w base ok x cs) : ∃ v0 v2, cs = [v0, .int .i64 x.f1, v2] ∧ (Kd.int .i64).R 3 w base ok v0 x.f0 ∧ k35.R 35 w base ok v2 x.f2 := by
 obtain ⟨_, _, rfl, ⟨v0, rfl, g0⟩, ⟨_, _, rfl, rfl, ⟨v2, rfl, g2⟩⟩⟩ := h
 exact ⟨v0, v2, rfl, g0, g2⟩
theorem k25_mk (w : World) (x : S25) {A0 : Option Addr} {c0 : Nat} (l0 : x.f0.length ≤ c0) (g0 : (Kd.int .i64).C w A0 x.f0.length x.f0) {A2 : Option Addr} {c2 : Nat} (l2 : x.f2.length ≤ c2) (g2 : k35.C w A2 x.f2.length x.f2) : k25.K w x [.slice A0 x.f0.length c0, .int .i64 x.f1, .slice A2 x.f2.length c2] := ⟨[.slice A0 x.f0.length c0], [.int .i64 x.f1, .slice A2 x.f2.length c2], rfl, ⟨A0, c0, rfl, l0, g0⟩, ⟨[.int .i64 x.f1], [.slice A2 x.f2.length c2], rfl, rfl, ⟨A2, c2, rfl, l2, g2⟩⟩⟩
theorem k25_mkM (w : World) (base : Nat) (ok : Nat → Prop) (x : S25) {v0 : Value} (g0 : (Kd.int .i64).R 3 w base ok v0 x.f0) {v2 : Value} (g2 : k35.R 35 w base ok v2 x.f2) : k25.M w base ok x [v0, .int .i64 x.f1, v2] := ⟨[v0], [.int .i64 x.f1, v2], rfl, ⟨v0, rfl, g0⟩, ⟨[.int .i64 x.f1], [v2], rfl, rfl, ⟨v2, rfl, g2⟩⟩⟩
theorem k25_openF {W : World} {ok : Nat → Prop} {x : S25} {cs : List Value} (h : Kd.FK k25 W ok x cs) : ∃ A0 c0 A2 c2, cs = [.slice A0 x.f0.length c0, .int .i64 x.f1, .slice A2 x.f2.length c2] ∧ x.f0.length ≤ c0 ∧ Kd.F (Kd.int .i64) W ok A0 x.f0.length x.f0 ∧ x.f2.length ≤ c2 ∧ Kd.F k35 W ok A2 x.f2.length x.f2 := by
 obtain ⟨A0, c0, A2, c2, rfl, l0, _, l2, _⟩ := k25_open (Kd.FK_now h)
 exact ⟨A0, c0, A2, c2, rfl, l0, (fun W' hW => by obtain ⟨A0_, c0_, A2_, c2_, he, l0_, g0_, l2_, g2_⟩ := k25_open (h W' hW); injection (Option.some.inj (show some (Value.slice A0 x.f0.length c0) = some (Value.slice A0_ x.f0.length c0_) from congrArg (fun l => l[0]?) he)) with ha_ _ _; rw [ha_]; exact g0_), l2, (fun W' hW => by obtain ⟨A0_, c0_, A2_, c2_, he, l0_, g0_, l2_, g2_⟩ := k25_open (h W' hW); injection (Option.some.inj (show some (Value.slice A2 x.f2.length c2) = some (Value.slice A2_ x.f2.length c2_) from congrArg (fun l => l[2]?) he)) with ha_ _ _; rw [ha_]; exact g2_)⟩
theorem k25_mkF (W : World) (ok : Nat → Prop) (x : S25) {A0 : Option Addr} {c0 : Nat} (l0 : x.f0.length ≤ c0) (g0 : Kd.F (Kd.int .i64) W ok A0 x.f0.length x.f0) {A2 : Option Addr} {c2 : Nat} (l2 : x.f2.length ≤ c2) (g2 : Kd.F k35 W ok A2 x.f2.length x.f2) : Kd.FK k25 W ok x [.slice A0 x.f0.length c0, .int .i64 x.f1, .slice A2 x.f2.length c2] := fun W2 hW => k25_mk W2 x l0 (g0 W2 hW) l2 (g2 W2 hW)
def rd_T25 (xs : List S25) (i : Int) : S25 := xs.getD i.toNat z25
theorem at_T25 {w : World} {A : Option Addr} {n : Nat} {xs : List S25} (h : Kd.C k25 w A n xs) (i : Int) (h0 : 0 ≤ i) (h1 : i < n) : ∃ ad A0 c0 A2 c2, A = some ad ∧ w.cell? (ad.add (i.toNat * 3)) = some (.slice A0 (rd_T25 xs i).f0.length c0) ∧ w.cell? ⟨(ad.add (i.toNat * 3)).block, (ad.add (i.toNat * 3)).off + 1, none⟩ = some (.int .i64 (rd_T25 xs i).f1) ∧ w.cell? ⟨(ad.add (i.toNat * 3)).block, (ad.add (i.toNat * 3)).off + 2, none⟩ = some (.slice A2 (rd_T25 xs i).f2.length c2) ∧ (rd_T25 xs i).f0.length ≤ c0 ∧ (Kd.int .i64).C w A0 (rd_T25 xs i).f0.length (rd_T25 xs i).f0 ∧ (rd_T25 xs i).f2.length ≤ c2 ∧ k35.C w A2 (rd_T25 xs i).f2.length (rd_T25 xs i).f2 := by
 obtain ⟨ad, c, e, _, hK, hc0⟩ := Kd.C_get h z25 i h0 h1
 have hc : ∀ j u, c[j]? = some u → w.cell? (ad.add (i.toNat * 3 + j)) = some u := hc0
 obtain ⟨A0, c0, A2, c2, rfl, l0, g0, l2, g2⟩ := k25_open hK
 exact ⟨ad, A0, c0, A2, c2, e, hc 0 _ rfl, by rw [← add_field _ _ 1 (by omega)]; exact hc 1 _ rfl, by rw [← add_field _ _ 2 (by omega)]; exact hc 2 _ rfl, l0, g0, l2, g2⟩

/-! #### struct type 63 -/
structure S63 where
 f0 : Int
 f1 : S25
def z63 : S63 := ⟨(0 : Int), z25⟩
def k63 : Kd S63 := Kd.iso (Kd.pair (Kd.int .i64) k25) (fun x : S63 => (x.f0, x.f1))
theorem k63_open {w : World} {x : S63} {cs : List Value} (h : k63.K w x cs) : ∃ A1 c1 A3 c3, cs = [.int .i64 x.f0, .slice A1 x.f1.f0.length c1, .int .i64 x.f1.f1, .slice A3 x.f1.f2.length c3] ∧ x.f1.f0.length ≤ c1 ∧ (Kd.int .i64).C w A1 x.f1.f0.length x.f1.f0 ∧ x.f1.f2.length ≤ c3 ∧ k35.C w A3 x.f1.f2.length x.f1.f2 := by
 obtain ⟨_, _, rfl, rfl, s1⟩ := h
 obtain ⟨A1, c1, A3, c3, rfl, l1, g1, l3, g3⟩ := k25_open s1
 exact ⟨A1, c1, A3, c3, rfl, l1, g1, l3, g3⟩
theorem k63_openM {w : World} {base : Nat} {ok : Nat → Prop} {x : S63} {cs : List Value} (h : k63.M w base ok x cs) : ∃ v1 v3, cs = [.int .i64 x.f0, v1, .int .i64 x.f1.f1, v3] ∧ (Kd.int .i64).R 3 w base ok v1 x.f1.f0 ∧ k35.R 35 w base ok v3 x.f1.f2 := by
 obtain ⟨_, _, rfl, rfl, s1⟩ := h
 obtain ⟨v1, v3, rfl, g1, g3⟩ := k25_openM s1
 exact ⟨v1, v3, rfl, g1, g3⟩
theorem k63_mk (w : World) (x : S63) {A1 : Option Addr} {c1 : Nat} (l1 : x.f1.f0.length ≤ c1) (g1 : (Kd.int .i64).C w A1 x.f1.f0.length x.f1.f0) {A3 : Option Addr} {c3 : Nat} (l3 : x.f1.f2.length ≤ c3) (g3 : k35.C w A3 x.f1.f2.length x.f1.f2) : k63.K w x [.int .i64 x.f0, .slice A1 x.f1.f0.length c1, .int .i64 x.f1.f1, .slice A3 x.f1.f2.length c3] := ⟨[.int .i64 x.f0], [.slice A1 x.f1.f0.length c1, .int .i64 x.f1.f1, .slice A3 x.f1.f2.length c3], rfl, rfl, (k25_mk w x.f1 l1 g1 l3 g3)⟩
theorem k63_mkM (w : World) (base : Nat) (ok : Nat → Prop) (x : S63) {v1 : Value} (g1 : (Kd.int .i64).R 3 w base ok v1 x.f1.f0) {v3 : Value} (g3 : k35.R 35 w base ok v3 x.f1.f2) : k63.M w base ok x [.int .i64 x.f0, v1, .int .i64 x.f1.f1, v3] := ⟨[.int .i64 x.f0], [v1, .int .i64 x.f1.f1, v3], rfl, rfl, (k25_mkM w base ok x.f1 g1 g3)⟩
theorem k63_openF {W : World} {ok : Nat → Prop} {x : S63} {cs : List Value} (h : Kd.FK k63 W ok x cs) : ∃ A1 c1 A3 c3, cs = [.int .i64 x.f0, .slice A1 x.f1.f0.length c1, .int .i64 x.f1.f1, .slice A3 x.f1.f2.length c3] ∧ x.f1.f0.length ≤ c1 ∧ Kd.F (Kd.int .i64) W ok A1 x.f1.f0.length x.f1.f0 ∧ x.f1.f2.length ≤ c3 ∧ Kd.F k35 W ok A3 x.f1.f2.length x.f1.f2 := by
 obtain ⟨A1, c1, A3, c3, rfl, l1, _, l3, _⟩ := k63_open (Kd.FK_now h)
 exact ⟨A1, c1, A3, c3, rfl, l1, (fun W' hW => by obtain ⟨A1_, c1_, A3_, c3_, he, l1_, g1_, l3_, g3_⟩ := k63_open (h W' hW); injection (Option.some.inj (show some (Value.slice A1 x.f1.f0.length c1) = some (Value.slice A1_ x.f1.f0.length c1_) from congrArg (fun l => l[1]?) he)) with ha_ _ _; rw [ha_]; exact g1_), l3, (fun W' hW => by obtain ⟨A1_, c1_, A3_, c3_, he, l1_, g1_, l3_, g3_⟩ := k63_open (h W' hW); injection (Option.some.inj (show some (Value.slice A3 x.f1.f2.length c3) = some (Value.slice A3_ x.f1.f2.length c3_) from congrArg (fun l => l[3]?) he)) with ha_ _ _; rw [ha_]; exact g3_)⟩
theorem k63_mkF (W : World) (ok : Nat → Prop) (x : S63) {A1 : Option Addr} {c1 : Nat} (l1 : x.f1.f0.length ≤ c1) (g1 : Kd.F (Kd.int .i64) W ok A1 x.f1.f0.length x.f1.f0) {A3 : Option Addr} {c3 : Nat} (l3 : x.f1.f2.length ≤ c3) (g3 : Kd.F k35 W ok A3 x.f1.f2.length x.f1.f2) : Kd.FK k63 W ok x [.int .i64 x.f0, .slice A1 x.f1.f0.length c1, .int .i64 x.f1.f1, .slice A3 x.f1.f2.length c3] := fun W2 hW => k63_mk W2 x l1 (g1 W2 hW) l3 (g3 W2 hW)
def rd_T63 (xs : List S63) (i : Int) : S63 := xs.getD i.toNat z63
theorem at_T63 {w : World} {A : Option Addr} {n : Nat} {xs : List S63} (h : Kd.C k63 w A n xs) (i : Int) (h0 : 0 ≤ i) (h1 : i < n) : ∃ ad A1 c1 A3 c3, A = some ad ∧ w.cell? (ad.add (i.toNat * 4)) = some (.int .i64 (rd_T63 xs i).f0) ∧ w.cell? ⟨(ad.add (i.toNat * 4)).block, (ad.add (i.toNat * 4)).off + 1, none⟩ = some (.slice A1 (rd_T63 xs i).f1.f0.length c1) ∧ w.cell? ⟨(ad.add (i.toNat * 4)).block, (ad.add (i.toNat * 4)).off + 2, none⟩ = some (.int .i64 (rd_T63 xs i).f1.f1) ∧ w.cell? ⟨(ad.add (i.toNat * 4)).block, (ad.add (i.toNat * 4)).off + 3, none⟩ = some (.slice A3 (rd_T63 xs i).f1.f2.length c3) ∧ (rd_T63 xs i).f1.f0.length ≤ c1 ∧ (Kd.int .i64).C w A1 (rd_T63 xs i).f1.f0.length (rd_T63 xs i).f1.f0 ∧ (rd_T63 xs i).f1.f2.length ≤ c3 ∧ k35.C w A3 (rd_T63 xs i).f1.f2.length (rd_T63 xs i).f1.f2 := by
 obtain ⟨ad, c, e, _, hK, hc0⟩ := Kd.C_get h z63 i h0 h1
 have hc : ∀ j u, c[j]? = some u → w.cell? (ad.add (i.toNat * 4 + j)) = some u := hc0
 obtain ⟨A1, c1, A3, c3, rfl, l1, g1, l3, g3⟩ := k63_open hK
 exact ⟨ad, A1, c1, A3, c3, e, hc 0 _ rfl, by rw [← add_field _ _ 1 (by omega)]; exact hc 1 _ rfl, by rw [← add_field _ _ 2 (by omega)]; exact hc 2 _ rfl, by rw [← add_field _ _ 3 (by omega)]; exact hc 3 _ rfl, l1, g1, l3, g3⟩
def cntB (item t every : Int) (x : S35) : Bool := decide (x.f0 = item) && (decide (x.f2 ≤ t) && decide (t < wrap64 (x.f2 + every)))
set_option maxHeartbeats 800000 in
theorem counts1_calls (x : S35) (bi bt bl : Nat) (item t every : Int) (b : Bool) (w : World)
  (hi : w.cell? ⟨bi, 0, none⟩ = some (.int .i64 item)) (ht : w.cell? ⟨bt, 0, none⟩ = some (.int .i64 t)) (hl : w.cell? ⟨bl, 1, none⟩ = some (.int .i64 every)) (hbb : cntB item t every x = b) :
  Calls Try.prog 76 #[.agg #[.int .i64 x.f0, .int .i64 x.f1, .int .i64 x.f2], .pointer (some ⟨bi, 0, none⟩), .pointer (some ⟨bt, 0, none⟩), .pointer (some ⟨bl, 0, none⟩)] w
   fun e w' => e = .returned (.bool b) ∧ Below w.heap.size w w' := by
 have hu25 := Try.underlying25
 have hu35 := Try.underlying35
 have hi2 := pw_cell_below (below_alloc (Below.refl w.heap.size w) (.cells #[.int .i64 x.f0, .int .i64 x.f1, .int .i64 x.f2] 35)) hi
 have ht2 := pw_cell_below (below_alloc (Below.refl w.heap.size w) (.cells #[.int .i64 x.f0, .int .i64 x.f1, .int .i64 x.f2] 35)) ht
 have hl2 := pw_cell_below (below_alloc (Below.refl w.heap.size w) (.cells #[.int .i64 x.f0, .int .i64 x.f1, .int .i64 x.f2] 35)) hl
 clear hi ht hl
 by_cases c1 : x.f0 = item
 ·have d1 : (x.f0 == item) = true := beq_iff_eq.2 c1
  by_cases c2 : x.f2 ≤ t
  ·have d2 : decide (x.f2 ≤ t) = true := decide_eq_true c2
   by_cases c3 : t < wrap64 (x.f2 + every)
   ·obtain rfl : true = b := by rw [← hbb]; simp [cntB, c1, c2, c3]
    have d3 : decide (t < wrap64 (x.f2 + every)) = true := decide_eq_true c3
    clear c1 c2 c3 hbb
    go_enter Try.func76, Try.ntmps76
    go_wp2
    go_ret
    exact ⟨rfl, (Below.refl _ w).alloc (Nat.le_refl _) _⟩
   ·obtain rfl : false = b := by rw [← hbb]; simp [cntB, c3]
    have d3 : decide (t < wrap64 (x.f2 + every)) = false := decide_eq_false c3
    clear c1 c2 c3 hbb
    go_enter Try.func76, Try.ntmps76
    go_wp2
    go_ret
    exact ⟨rfl, (Below.refl _ w).alloc (Nat.le_refl _) _⟩
  ·obtain rfl : false = b := by rw [← hbb]; simp [cntB, c2]
   have d2 : decide (x.f2 ≤ t) = false := decide_eq_false c2
   clear c1 c2 hbb
   go_enter Try.func76, Try.ntmps76
   go_wp2
   go_ret
   exact ⟨rfl, (Below.refl _ w).alloc (Nat.le_refl _) _⟩
 ·obtain rfl : false = b := by rw [← hbb]; simp [cntB, c1]
  have d1 : (x.f0 == item) = false := beq_eq_false_iff_ne.2 c1
  clear c1 hbb
  go_enter Try.func76, Try.ntmps76
  go_wp2
  go_ret
  exact ⟨rfl, (Below.refl _ w).alloc (Nat.le_refl _) _⟩
/-- The place of the first element from place i on of which p holds, or -1. -/
def idxFrom {α : Type} (p : α → Bool) : List α → Nat → Int
 | [], _ => -1
 | x :: l, i => if p x then (i : Int) else idxFrom p l (i + 1)
theorem idxFrom_at {α : Type} (p : α → Bool) (l : List α) (z : α) (i k : Nat) (h : k < l.length) : idxFrom p (l.drop k) i = if p (l.getD k z) then (i : Int) else idxFrom p (l.drop (k + 1)) (i + 1) := by
 rw [List.drop_eq_getElem_cons h]
 simp [idxFrom, List.getD_eq_getElem?_getD, List.getElem?_eq_getElem h]
theorem idxFrom_any {α : Type} (p : α → Bool) (l : List α) (i : Nat) : decide (0 ≤ idxFrom p l i) = l.any p := by
 induction l generalizing i with
 | nil => simp [idxFrom]
 | cons x l ih =>
  by_cases h : p x = true
  ·simp [idxFrom, h]
  ·rw [show idxFrom p (x :: l) i = idxFrom p l (i + 1) by simp [idxFrom, h], ih]; simp [h]
set_option maxHeartbeats 800000 in
theorem idx35_calls (bi bt bl : Nat) (p : S35 → Bool) (A : Option Addr) (c : Nat) (l : List S35) (w : World)
  (hr : Kd.C k35 w A l.length l) (hc : l.length ≤ c)
  (hp : ∀ (W : World) (x : S35) (b : Bool), Below w.heap.size w W → p x = b → Calls Try.prog 76 #[.agg #[.int .i64 x.f0, .int .i64 x.f1, .int .i64 x.f2], .pointer (some ⟨bi, 0, none⟩), .pointer (some ⟨bt, 0, none⟩), .pointer (some ⟨bl, 0, none⟩)] W fun e w' => e = .returned (.bool b) ∧ Below W.heap.size W w') :
  Calls Try.prog 63 #[.slice A l.length c, .func (.func 76) #[] #[.pointer (some ⟨bi, 0, none⟩), .pointer (some ⟨bt, 0, none⟩), .pointer (some ⟨bl, 0, none⟩)]] w
   fun e w' => e = .returned (.int .i64 (idxFrom p l 0)) ∧ Below w.heap.size w w' := by
 have hu35 := Try.underlying35
 have HR := a_ hr
 have HC := a_ hc
 have HP := a_ hp
 have HN := a_ (Kd.C_max hr)
 clear hr hc hp
 go_enter Try.func63, Try.ntmps63
 go_wp2
 go_loopw [8] (fun v8 wr => ∃ x8 : Int, v8 = .int .i64 x8 ∧ Aside0 (0 ≤ x8) ∧ Aside0 (x8 ≤ l.length) ∧ Aside0 (idxFrom p (l.drop x8.toNat) x8.toNat = idxFrom p l 0) ∧ Aside0 (Below w.heap.size w wr)) (fun v8 _ => l.length - (intOf v8).toNat)
 case atStart => exact ⟨0, rfl, ⟨by omega⟩, ⟨by omega⟩, ⟨rfl⟩, ⟨Below.refl _ _⟩⟩
 case round =>
  obtain ⟨x8, rfl, H0, H1, HE, HB⟩ := hrel
  by_cases hlt : x8 < (l.length : Int)
  ·have p1 := H0.out
   obtain ⟨ad, ea, g0, g1, g2⟩ := at_T35 HR.out x8 p1 hlt
   cases ea
   replace g0 := (HB.out.cell (World.block_lt_of_cell? w _ g0)).trans g0
   replace g1 := (HB.out.cell (World.block_lt_of_cell? w _ g1)).trans g1
   replace g2 := (HB.out.cell (World.block_lt_of_cell? w _ g2)).trans g2
   have HS := a_ (idxFrom_at p l z35 x8.toNat x8.toNat (by omega))
   have HX := a_ (show ((x8.toNat : Nat) : Int) = x8 by omega)
   have HW : Aside0 (wrap64 (x8 + 1) = x8 + 1) := ⟨by have := HN.out; unfold wrap64; omega⟩
   have C1 := a_ hlt
   have P1 := a_ p1
   replace p1 := eq_true p1
   have d1 : decide (x8 < (l.length : Int)) = true := decide_eq_true hlt
   replace hlt := eq_true hlt
   obtain ⟨b, hb⟩ : ∃ b, p (rd_T35 l x8) = b := ⟨_, rfl⟩
   have HBb := a_ hb
   clear hb
   cases b with
   | true =>
    go_wp2_with (go_at_call 76; (with_reducible refine (HP.out _ (rd_T35 l x8) true HB.out HBb.out).mono ?_); rintro e w' ⟨rfl, hbw⟩)
    go_ret
    exact ⟨by rw [← HE.out, HS.out, if_pos (by exact HBb.out), HX.out]; rfl, below_then HB.out HB.out.size hbw⟩
   | false =>
    go_wp2_with (go_at_call 76; (with_reducible refine (HP.out _ (rd_T35 l x8) false HB.out HBb.out).mono ?_); rintro e w' ⟨rfl, hbw⟩)
    go_roundw
    case rel => exact ⟨x8 + 1, by rw [HW.out], ⟨by have := P1.out; omega⟩, ⟨by have := C1.out; omega⟩, ⟨by rw [← HE.out, HS.out, if_neg (by have := HBb.out; unfold rd_T35 at this; rw [this]; simp), show (x8 + 1).toNat = x8.toNat + 1 by have := P1.out; omega]⟩, ⟨below_then HB.out HB.out.size hbw⟩⟩
    case measure => have h1 := P1.out; have h2 := C1.out; rw [HW.out]; simp only [intOf]; omega
  ·have d1 : decide (x8 < (l.length : Int)) = false := decide_eq_false hlt
   have HZ := a_ (show l.drop x8.toNat = [] by apply List.drop_eq_nil_of_le; omega)
   clear hlt
   go_wp2
   go_ret
   exact ⟨by rw [← HE.out, HZ.out]; rfl, HB.out⟩
set_option maxHeartbeats 800000 in
theorem any35_calls (bi bt bl : Nat) (p : S35 → Bool) (A : Option Addr) (c : Nat) (l : List S35) (w : World)
  (hr : Kd.C k35 w A l.length l) (hc : l.length ≤ c)
  (hp : ∀ (W : World) (x : S35) (b : Bool), Below w.heap.size w W → p x = b → Calls Try.prog 76 #[.agg #[.int .i64 x.f0, .int .i64 x.f1, .int .i64 x.f2], .pointer (some ⟨bi, 0, none⟩), .pointer (some ⟨bt, 0, none⟩), .pointer (some ⟨bl, 0, none⟩)] W fun e w' => e = .returned (.bool b) ∧ Below W.heap.size W w')
  (r : Bool) (hrr : l.any p = r) :
  Calls Try.prog 60 #[.slice A l.length c, .func (.func 76) #[] #[.pointer (some ⟨bi, 0, none⟩), .pointer (some ⟨bt, 0, none⟩), .pointer (some ⟨bl, 0, none⟩)]] w
   fun e w' => e = .returned (.bool r) ∧ Below w.heap.size w w' := by
 have HI := a_ (idx35_calls bi bt bl p A c l w hr hc hp)
 have HR := a_ (idxFrom_any p l 0)
 have HRR := a_ hrr
 clear hr hc hp hrr
 cases r with
 | true =>
  have hd : decide (0 ≤ idxFrom p l 0) = true := by rw [HR.out]; exact HRR.out
  generalize idxFrom p l 0 = z at *
  go_enter Try.func60, Try.ntmps60
  go_wp2_with (go_at_call 63; (with_reducible refine HI.out.mono ?_); rintro e w' ⟨rfl, hbw⟩)
  go_ret
  exact ⟨rfl, hbw⟩
 | false =>
  have hd : decide (0 ≤ idxFrom p l 0) = false := by rw [HR.out]; exact HRR.out
  generalize idxFrom p l 0 = z at *
  go_enter Try.func60, Try.ntmps60
  go_wp2_with (go_at_call 63; (with_reducible refine HI.out.mono ?_); rintro e w' ⟨rfl, hbw⟩)
  go_ret
  exact ⟨rfl, hbw⟩
set_option maxHeartbeats 800000 in
theorem idx56_78 (bi : Nat) (p : S56 → Bool) (A : Option Addr) (c : Nat) (l : List S56) (w : World)
  (hr : Kd.C k56 w A l.length l) (hc : l.length ≤ c)
  (hp : ∀ (W : World) (x : S56) (b : Bool), Below w.heap.size w W → p x = b → Calls Try.prog 78 #[.agg #[.int .i64 x.f0, .int .i64 x.f1, .int .i64 x.f2], .pointer (some ⟨bi, 0, none⟩)] W fun e w' => e = .returned (.bool b) ∧ Below W.heap.size W w') :
  Calls Try.prog 77 #[.slice A l.length c, .func (.func 78) #[] #[.pointer (some ⟨bi, 0, none⟩)]] w
   fun e w' => e = .returned (.int .i64 (idxFrom p l 0)) ∧ Below w.heap.size w w' := by
 have hu56 := Try.underlying56
 have HR := a_ hr
 have HC := a_ hc
 have HP := a_ hp
 have HN := a_ (Kd.C_max hr)
 clear hr hc hp
 go_enter Try.func77, Try.ntmps77
 go_wp2
 go_loopw [8] (fun v8 wr => ∃ x8 : Int, v8 = .int .i64 x8 ∧ Aside0 (0 ≤ x8) ∧ Aside0 (x8 ≤ l.length) ∧ Aside0 (idxFrom p (l.drop x8.toNat) x8.toNat = idxFrom p l 0) ∧ Aside0 (Below w.heap.size w wr)) (fun v8 _ => l.length - (intOf v8).toNat)
 case atStart => exact ⟨0, rfl, ⟨by omega⟩, ⟨by omega⟩, ⟨rfl⟩, ⟨Below.refl _ _⟩⟩
 case round =>
  obtain ⟨x8, rfl, H0, H1, HE, HB⟩ := hrel
  by_cases hlt : x8 < (l.length : Int)
  ·have p1 := H0.out
   obtain ⟨ad, ea, g0, g1, g2⟩ := at_T56 HR.out x8 p1 hlt
   cases ea
   replace g0 := (HB.out.cell (World.block_lt_of_cell? w _ g0)).trans g0
   replace g1 := (HB.out.cell (World.block_lt_of_cell? w _ g1)).trans g1
   replace g2 := (HB.out.cell (World.block_lt_of_cell? w _ g2)).trans g2
   have HS := a_ (idxFrom_at p l z56 x8.toNat x8.toNat (by omega))
   have HX := a_ (show ((x8.toNat : Nat) : Int) = x8 by omega)
   have HW : Aside0 (wrap64 (x8 + 1) = x8 + 1) := ⟨by have := HN.out; unfold wrap64; omega⟩
   have C1 := a_ hlt
   have P1 := a_ p1
   replace p1 := eq_true p1
   have d1 : decide (x8 < (l.length : Int)) = true := decide_eq_true hlt
   replace hlt := eq_true hlt
   obtain ⟨b, hb⟩ : ∃ b, p (rd_T56 l x8) = b := ⟨_, rfl⟩
   have HBb := a_ hb
   clear hb
   cases b with
   | true =>
    go_wp2_with (go_at_call 78; (with_reducible refine (HP.out _ (rd_T56 l x8) true HB.out HBb.out).mono ?_); rintro e w' ⟨rfl, hbw⟩)
    go_ret
    exact ⟨by rw [← HE.out, HS.out, if_pos (by exact HBb.out), HX.out]; rfl, below_then HB.out HB.out.size hbw⟩
   | false =>
    go_wp2_with (go_at_call 78; (with_reducible refine (HP.out _ (rd_T56 l x8) false HB.out HBb.out).mono ?_); rintro e w' ⟨rfl, hbw⟩)
    go_roundw
    case rel => exact ⟨x8 + 1, by rw [HW.out], ⟨by have := P1.out; omega⟩, ⟨by have := C1.out; omega⟩, ⟨by rw [← HE.out, HS.out, if_neg (by have := HBb.out; unfold rd_T56 at this; rw [this]; simp), show (x8 + 1).toNat = x8.toNat + 1 by have := P1.out; omega]⟩, ⟨below_then HB.out HB.out.size hbw⟩⟩
    case measure => have h1 := P1.out; have h2 := C1.out; rw [HW.out]; simp only [intOf]; omega
  ·have d1 : decide (x8 < (l.length : Int)) = false := decide_eq_false hlt
   have HZ := a_ (show l.drop x8.toNat = [] by apply List.drop_eq_nil_of_le; omega)
   clear hlt
   go_wp2
   go_ret
   exact ⟨by rw [← HE.out, HZ.out]; rfl, HB.out⟩
set_option maxHeartbeats 800000 in
theorem idx56_72 (bi : Nat) (p : S56 → Bool) (A : Option Addr) (c : Nat) (l : List S56) (w : World)
  (hr : Kd.C k56 w A l.length l) (hc : l.length ≤ c)
  (hp : ∀ (W : World) (x : S56) (b : Bool), Below w.heap.size w W → p x = b → Calls Try.prog 72 #[.agg #[.int .i64 x.f0, .int .i64 x.f1, .int .i64 x.f2], .pointer (some ⟨bi, 0, none⟩)] W fun e w' => e = .returned (.bool b) ∧ Below W.heap.size W w') :
  Calls Try.prog 77 #[.slice A l.length c, .func (.func 72) #[] #[.pointer (some ⟨bi, 0, none⟩)]] w
   fun e w' => e = .returned (.int .i64 (idxFrom p l 0)) ∧ Below w.heap.size w w' := by
 have hu56 := Try.underlying56
 have HR := a_ hr
 have HC := a_ hc
 have HP := a_ hp
 have HN := a_ (Kd.C_max hr)
 clear hr hc hp
 go_enter Try.func77, Try.ntmps77
 go_wp2
 go_loopw [8] (fun v8 wr => ∃ x8 : Int, v8 = .int .i64 x8 ∧ Aside0 (0 ≤ x8) ∧ Aside0 (x8 ≤ l.length) ∧ Aside0 (idxFrom p (l.drop x8.toNat) x8.toNat = idxFrom p l 0) ∧ Aside0 (Below w.heap.size w wr)) (fun v8 _ => l.length - (intOf v8).toNat)
 case atStart => exact ⟨0, rfl, ⟨by omega⟩, ⟨by omega⟩, ⟨rfl⟩, ⟨Below.refl _ _⟩⟩
 case round =>
  obtain ⟨x8, rfl, H0, H1, HE, HB⟩ := hrel
  by_cases hlt : x8 < (l.length : Int)
  ·have p1 := H0.out
   obtain ⟨ad, ea, g0, g1, g2⟩ := at_T56 HR.out x8 p1 hlt
   cases ea
   replace g0 := (HB.out.cell (World.block_lt_of_cell? w _ g0)).trans g0
   replace g1 := (HB.out.cell (World.block_lt_of_cell? w _ g1)).trans g1
   replace g2 := (HB.out.cell (World.block_lt_of_cell? w _ g2)).trans g2
   have HS := a_ (idxFrom_at p l z56 x8.toNat x8.toNat (by omega))
   have HX := a_ (show ((x8.toNat : Nat) : Int) = x8 by omega)
   have HW : Aside0 (wrap64 (x8 + 1) = x8 + 1) := ⟨by have := HN.out; unfold wrap64; omega⟩
   have C1 := a_ hlt
   have P1 := a_ p1
   replace p1 := eq_true p1
   have d1 : decide (x8 < (l.length : Int)) = true := decide_eq_true hlt
   replace hlt := eq_true hlt
   obtain ⟨b, hb⟩ : ∃ b, p (rd_T56 l x8) = b := ⟨_, rfl⟩
   have HBb := a_ hb
   clear hb
   cases b with
   | true =>
    go_wp2_with (go_at_call 72; (with_reducible refine (HP.out _ (rd_T56 l x8) true HB.out HBb.out).mono ?_); rintro e w' ⟨rfl, hbw⟩)
    go_ret
    exact ⟨by rw [← HE.out, HS.out, if_pos (by exact HBb.out), HX.out]; rfl, below_then HB.out HB.out.size hbw⟩
   | false =>
    go_wp2_with (go_at_call 72; (with_reducible refine (HP.out _ (rd_T56 l x8) false HB.out HBb.out).mono ?_); rintro e w' ⟨rfl, hbw⟩)
    go_roundw
    case rel => exact ⟨x8 + 1, by rw [HW.out], ⟨by have := P1.out; omega⟩, ⟨by have := C1.out; omega⟩, ⟨by rw [← HE.out, HS.out, if_neg (by have := HBb.out; unfold rd_T56 at this; rw [this]; simp), show (x8 + 1).toNat = x8.toNat + 1 by have := P1.out; omega]⟩, ⟨below_then HB.out HB.out.size hbw⟩⟩
    case measure => have h1 := P1.out; have h2 := C1.out; rw [HW.out]; simp only [intOf]; omega
  ·have d1 : decide (x8 < (l.length : Int)) = false := decide_eq_false hlt
   have HZ := a_ (show l.drop x8.toNat = [] by apply List.drop_eq_nil_of_le; omega)
   clear hlt
   go_wp2
   go_ret
   exact ⟨by rw [← HE.out, HZ.out]; rfl, HB.out⟩
set_option maxHeartbeats 800000 in
theorem any56_72 (bi : Nat) (p : S56 → Bool) (A : Option Addr) (c : Nat) (l : List S56) (w : World)
  (hr : Kd.C k56 w A l.length l) (hc : l.length ≤ c)
  (hp : ∀ (W : World) (x : S56) (b : Bool), Below w.heap.size w W → p x = b → Calls Try.prog 72 #[.agg #[.int .i64 x.f0, .int .i64 x.f1, .int .i64 x.f2], .pointer (some ⟨bi, 0, none⟩)] W fun e w' => e = .returned (.bool b) ∧ Below W.heap.size W w')
  (r : Bool) (hrr : l.any p = r) :
  Calls Try.prog 73 #[.slice A l.length c, .func (.func 72) #[] #[.pointer (some ⟨bi, 0, none⟩)]] w
   fun e w' => e = .returned (.bool r) ∧ Below w.heap.size w w' := by
 have HI := a_ (idx56_72 bi p A c l w hr hc hp)
 have HR := a_ (idxFrom_any p l 0)
 have HRR := a_ hrr
 clear hr hc hp hrr
 cases r with
 | true =>
  have hd : decide (0 ≤ idxFrom p l 0) = true := by rw [HR.out]; exact HRR.out
  generalize idxFrom p l 0 = z at *
  go_enter Try.func73, Try.ntmps73
  go_wp2_with (go_at_call 77; (with_reducible refine HI.out.mono ?_); rintro e w' ⟨rfl, hbw⟩)
  go_ret
  exact ⟨rfl, hbw⟩
 | false =>
  have hd : decide (0 ≤ idxFrom p l 0) = false := by rw [HR.out]; exact HRR.out
  generalize idxFrom p l 0 = z at *
  go_enter Try.func73, Try.ntmps73
  go_wp2_with (go_at_call 77; (with_reducible refine HI.out.mono ?_); rintro e w' ⟨rfl, hbw⟩)
  go_ret
  exact ⟨rfl, hbw⟩
set_option maxHeartbeats 800000 in
theorem idx63_80 (bi : Nat) (p : S63 → Bool) (A : Option Addr) (c : Nat) (l : List S63) (w : World)
  (hr : Kd.C k63 w A l.length l) (hc : l.length ≤ c)
  (hp : ∀ (W : World) (x : S63) (A1 : Option Addr) (c1 : Nat) (A3 : Option Addr) (c3 : Nat) (b : Bool), Below w.heap.size w W → p x = b → Calls Try.prog 80 #[.agg #[.int .i64 x.f0, .slice A1 x.f1.f0.length c1, .int .i64 x.f1.f1, .slice A3 x.f1.f2.length c3], .pointer (some ⟨bi, 0, none⟩)] W fun e w' => e = .returned (.bool b) ∧ Below W.heap.size W w') :
  Calls Try.prog 79 #[.slice A l.length c, .func (.func 80) #[] #[.pointer (some ⟨bi, 0, none⟩)]] w
   fun e w' => e = .returned (.int .i64 (idxFrom p l 0)) ∧ Below w.heap.size w w' := by
 have hu63 := Try.underlying63
 have HR := a_ hr
 have HC := a_ hc
 have HP := a_ hp
 have HN := a_ (Kd.C_max hr)
 clear hr hc hp
 go_enter Try.func79, Try.ntmps79
 go_wp2
 go_loopw [8] (fun v8 wr => ∃ x8 : Int, v8 = .int .i64 x8 ∧ Aside0 (0 ≤ x8) ∧ Aside0 (x8 ≤ l.length) ∧ Aside0 (idxFrom p (l.drop x8.toNat) x8.toNat = idxFrom p l 0) ∧ Aside0 (Below w.heap.size w wr)) (fun v8 _ => l.length - (intOf v8).toNat)
 case atStart => exact ⟨0, rfl, ⟨by omega⟩, ⟨by omega⟩, ⟨rfl⟩, ⟨Below.refl _ _⟩⟩
 case round =>
  obtain ⟨x8, rfl, H0, H1, HE, HB⟩ := hrel
  by_cases hlt : x8 < (l.length : Int)
  ·have p1 := H0.out
   obtain ⟨ad, A1, c1, A3, c3, ea, g0, g1, g2, g3, _, _, _, _⟩ := at_T63 HR.out x8 p1 hlt
   cases ea
   replace g0 := (HB.out.cell (World.block_lt_of_cell? w _ g0)).trans g0
   replace g1 := (HB.out.cell (World.block_lt_of_cell? w _ g1)).trans g1
   replace g2 := (HB.out.cell (World.block_lt_of_cell? w _ g2)).trans g2
   replace g3 := (HB.out.cell (World.block_lt_of_cell? w _ g3)).trans g3
   have HS := a_ (idxFrom_at p l z63 x8.toNat x8.toNat (by omega))
   have HX := a_ (show ((x8.toNat : Nat) : Int) = x8 by omega)
   have HW : Aside0 (wrap64 (x8 + 1) = x8 + 1) := ⟨by have := HN.out; unfold wrap64; omega⟩
   have C1 := a_ hlt
   have P1 := a_ p1
   replace p1 := eq_true p1
   have d1 : decide (x8 < (l.length : Int)) = true := decide_eq_true hlt
   replace hlt := eq_true hlt
   obtain ⟨b, hb⟩ : ∃ b, p (rd_T63 l x8) = b := ⟨_, rfl⟩
   have HBb := a_ hb
   clear hb
   cases b with
   | true =>
    go_wp2_with (go_at_call 80; (with_reducible refine (HP.out _ (rd_T63 l x8) _ _ _ _ true HB.out HBb.out).mono ?_); rintro e w' ⟨rfl, hbw⟩)
    go_ret
    exact ⟨by rw [← HE.out, HS.out, if_pos (by exact HBb.out), HX.out]; rfl, below_then HB.out HB.out.size hbw⟩
   | false =>
    go_wp2_with (go_at_call 80; (with_reducible refine (HP.out _ (rd_T63 l x8) _ _ _ _ false HB.out HBb.out).mono ?_); rintro e w' ⟨rfl, hbw⟩)
    go_roundw
    case rel => exact ⟨x8 + 1, by rw [HW.out], ⟨by have := P1.out; omega⟩, ⟨by have := C1.out; omega⟩, ⟨by rw [← HE.out, HS.out, if_neg (by have := HBb.out; unfold rd_T63 at this; rw [this]; simp), show (x8 + 1).toNat = x8.toNat + 1 by have := P1.out; omega]⟩, ⟨below_then HB.out HB.out.size hbw⟩⟩
    case measure => have h1 := P1.out; have h2 := C1.out; rw [HW.out]; simp only [intOf]; omega
  ·have d1 : decide (x8 < (l.length : Int)) = false := decide_eq_false hlt
   have HZ := a_ (show l.drop x8.toNat = [] by apply List.drop_eq_nil_of_le; omega)
   clear hlt
   go_wp2
   go_ret
   exact ⟨by rw [← HE.out, HZ.out]; rfl, HB.out⟩

set_option maxHeartbeats 800000 in
theorem haz78_calls (x : S56) (bi : Nat) (id : Int) (b : Bool) (w : World) (hi : w.cell? ⟨bi, 0, none⟩ = some (.int .i64 id)) (hb : decide (x.f0 = id) = b) :
  Calls Try.prog 78 #[.agg #[.int .i64 x.f0, .int .i64 x.f1, .int .i64 x.f2], .pointer (some ⟨bi, 0, none⟩)] w fun e w' => e = .returned (.bool b) ∧ Below w.heap.size w w' := by
 have hu56 := Try.underlying56
 have hi2 := pw_cell_below (below_alloc (Below.refl w.heap.size w) (.cells #[.int .i64 x.f0, .int .i64 x.f1, .int .i64 x.f2] 56)) hi
 clear hi
 have d1 : (x.f0 == id) = b := by rw [← hb]; rfl
 clear hb
 cases b
 all_goals
  go_enter Try.func78, Try.ntmps78
  go_wp2
  go_ret
  exact ⟨rfl, (Below.refl _ w).alloc (Nat.le_refl _) _⟩
set_option maxHeartbeats 800000 in
theorem rdy72_calls (x : S56) (bi : Nat) (run : Int) (b : Bool) (w : World) (hi : w.cell? ⟨bi, 0, none⟩ = some (.int .i64 run)) (hb : decide (x.f1 = run) = b) :
  Calls Try.prog 72 #[.agg #[.int .i64 x.f0, .int .i64 x.f1, .int .i64 x.f2], .pointer (some ⟨bi, 0, none⟩)] w fun e w' => e = .returned (.bool b) ∧ Below w.heap.size w w' := by
 have hu56 := Try.underlying56
 have hi2 := pw_cell_below (below_alloc (Below.refl w.heap.size w) (.cells #[.int .i64 x.f0, .int .i64 x.f1, .int .i64 x.f2] 56)) hi
 clear hi
 have d1 : (x.f1 == run) = b := by rw [← hb]; rfl
 clear hb
 cases b
 all_goals
  go_enter Try.func72, Try.ntmps72
  go_wp2
  go_ret
  exact ⟨rfl, (Below.refl _ w).alloc (Nat.le_refl _) _⟩
set_option maxHeartbeats 800000 in
theorem lst80_calls (x : S63) (A1 : Option Addr) (c1 : Nat) (A3 : Option Addr) (c3 : Nat) (bi : Nat) (run : Int) (b : Bool) (w : World) (hi : w.cell? ⟨bi, 0, none⟩ = some (.int .i64 run)) (hb : decide (x.f0 = run) = b) :
  Calls Try.prog 80 #[.agg #[.int .i64 x.f0, .slice A1 x.f1.f0.length c1, .int .i64 x.f1.f1, .slice A3 x.f1.f2.length c3], .pointer (some ⟨bi, 0, none⟩)] w fun e w' => e = .returned (.bool b) ∧ Below w.heap.size w w' := by
 have hu63 := Try.underlying63
 have hi2 := pw_cell_below (below_alloc (Below.refl w.heap.size w) (.cells #[.int .i64 x.f0, .slice A1 x.f1.f0.length c1, .int .i64 x.f1.f1, .slice A3 x.f1.f2.length c3] 63)) hi
 clear hi
 have d1 : (x.f0 == run) = b := by rw [← hb]; rfl
 clear hb
 cases b
 all_goals
  go_enter Try.func80, Try.ntmps80
  go_wp2
  go_ret
  exact ⟨rfl, (Below.refl _ w).alloc (Nat.le_refl _) _⟩
set_option maxHeartbeats 800000 in
theorem counts_calls (A0 : Option Addr) (n0 c0 : Nat) (every : Int) (A2 : Option Addr) (n2 c2 : Nat) (item t : Int) (w : World) :
  Calls Try.prog 61 #[.agg #[.slice A0 n0 c0, .int .i64 every, .slice A2 n2 c2], .int .i64 item, .int .i64 t] w fun e w' => ∃ bi bt bl : Nat, e = .returned (.func (.func 76) #[] #[.pointer (some ⟨bi, 0, none⟩), .pointer (some ⟨bt, 0, none⟩), .pointer (some ⟨bl, 0, none⟩)]) ∧ w'.cell? ⟨bi, 0, none⟩ = some (.int .i64 item) ∧ w'.cell? ⟨bt, 0, none⟩ = some (.int .i64 t) ∧ w'.cell? ⟨bl, 1, none⟩ = some (.int .i64 every) ∧ Below w.heap.size w w' := by
 have hu25 := Try.underlying25
 have hmf : ∀ (fn : Fn) (first cap : Array Value) (w : World), (Instr.makeFunc fn first cap).run Try.prog w = .ok (.func fn first cap) w := fun _ _ _ _ => rfl
 go_enter Try.func61, Try.ntmps61
 go_wp2
 go_ret
 exact ⟨_, _, _, rfl, by go_simp, by go_simp, by go_simp, below_alloc (below_alloc (below_alloc (Below.refl _ _) _) _) _⟩
/-- The items that no sign keeps at the time t. -/
def openL (items : List Int) (every : Int) (signs : List S35) (t : Int) : List Int := items.filter fun it => !(signs.any (cntB it t every))
def inspect_Open.f (l0_0 : List Int) (a0_1 : Int) (l0_2 : List S35) (a1 : Int) : Option (List Int) := if l0_0.length < 17592186044416 then some (openL l0_0 a0_1 l0_2 a1) else none
theorem openL_step (items : List Int) (every : Int) (signs : List S35) (t : Int) (i : Int) (h0 : 0 ≤ i) (h1 : i < items.length) :
  openL (items.take (i + 1).toNat) every signs t = if signs.any (cntB (rd items i) t every) then openL (items.take i.toNat) every signs t else openL (items.take i.toNat) every signs t ++ [rd items i] := by
 rw [show (i + 1).toNat = i.toNat + 1 by omega]
 unfold openL
 rw [List.take_succ_eq_append_getElem (by omega), List.filter_append]
 have e : items[i.toNat]'(by omega) = rd items i := by simp [rd, List.getD_eq_getElem?_getD, List.getElem?_eq_getElem (show i.toNat < items.length by omega)]
 rw [e]
 by_cases h : signs.any (cntB (rd items i) t every) = true
 ·rw [if_pos h]; simp [h]
 ·rw [if_neg h]; simp [h]
theorem openL_len (items : List Int) (every : Int) (signs : List S35) (t : Int) : (openL items every signs t).length ≤ items.length := List.length_filter_le _ _
def inspect_Open.T5 : Bool × List (List Nat × List Nat) := (true, [([], []), ([0], [0]), ([], []), ([], []), ([], []), ([2, 3, 4], [2, 3, 4]), ([1, 5, 5], [1, 5]), ([6], [6])])
def inspect_Open.B5 : List Nat := [0, 1, 0, 0, 0, 28, 63, 127]
theorem inspect_Open.tab5 : rtab .any (opsOf Try.f27 5) = inspect_Open.T5 := by kernel_rfl
theorem inspect_Open.bits5 : waitsOk inspect_Open.T5.2 inspect_Open.B5 = true := by kernel_rfl
set_option maxHeartbeats 4000000 in
theorem inspect_Open.calls (A0_0 : Option Addr) (c0_0 : Nat) (l0_0 : List Int) (a0_1 : Int) (A0_2 : Option Addr) (c0_2 : Nat) (l0_2 : List (S35)) (a1 : Int) (r : List Int) (w : World) (hr0_0 : Kd.C (Kd.int .i64) w A0_0 l0_0.length l0_0) (hc0_0 : l0_0.length ≤ c0_0) (hr0_2 : Kd.C k35 w A0_2 l0_2.length l0_2) (hc0_2 : l0_2.length ≤ c0_2) (h : inspect_Open.f l0_0 a0_1 l0_2 a1 = some r) :
  Calls Try.prog 27 #[.agg #[.slice A0_0 l0_0.length c0_0, .int .i64 a0_1, .slice A0_2 l0_2.length c0_2], .int .i64 a1] w fun e w' => ∃ v0_ : Value, e = .returned (v0_) ∧ Kd.R (Kd.int .i64) 3 w' w.heap.size (fun _ => True) v0_ r ∧ Below w.heap.size w w' := by
 have hu25 := Try.underlying25
 have HR0_0 := a_ hr0_0
 have HC0_0 := a_ hc0_0
 have HR0_2 := a_ hr0_2
 have HC0_2 := a_ hc0_2
 clear hr0_0 hc0_0 hr0_2 hc0_2
 unfold inspect_Open.f at h
 by_cases hlen : l0_0.length < 17592186044416
 ·rw [if_pos hlen] at h
  have HR := a_ (Option.some.inj h)
  have HLEN := a_ hlen
  clear h hlen
  have HB := a_ (Below.refl w.heap.size w)
  go_enter Try.func27, Try.ntmps27
  go_wp2_with (first | ((with_reducible refine gate_dst (N := 2) rfl ?_); refine box_event ?hg (N := 2) ?hd (cs := #[.slice A0_0 l0_0.length c0_0, .int .i64 a0_1, .slice A0_2 l0_2.length c0_2]) (t := 25) ?hr ?_; (case hd => rfl); (case hg => rfl); (case hr => first | (go_simp; done) | (go_simp; rfl)); intro gb157 hg w_gb157 hbox hb; have n0_ := a_ (below_step bel_ hb); have n1_ := a_ (hbox); have n2_ := a_ (bz_ hg : w.heap.size ≤ gb157); clear HB; have HB := n0_; have BKgb157 := n1_; have GEgb157 := n2_; clear n0_ n1_ n2_; clear hb hbox hg; have hczgb157_0 : w_gb157.cell? ⟨gb157, 0, none⟩ = some (.slice A0_0 l0_0.length c0_0) := (blk_cell BKgb157.out 0).trans rfl; have hczgb157_1 : w_gb157.cell? ⟨gb157, 1, none⟩ = some (.int .i64 a0_1) := (blk_cell BKgb157.out 1).trans rfl; have hczgb157_2 : w_gb157.cell? ⟨gb157, 2, none⟩ = some (.slice A0_2 l0_2.length c0_2) := (blk_cell BKgb157.out 2).trans rfl; have hfzgb157_0 := blk_frozen BKgb157.out 0; have hfzgb157_1 := blk_frozen BKgb157.out 1; have hfzgb157_2 := blk_frozen BKgb157.out 2))
  clear hczgb157_0 hczgb157_1 hczgb157_2
  go_loopw [5, 11] (fun v5 v11 w' => ∃ x11 : Int, v11 = .int .i64 x11 ∧ Aside0 (0 ≤ x11) ∧ Aside0 (x11 ≤ l0_0.length) ∧ Aside0 (Kd.R (Kd.int .i64) 3 w' w.heap.size (fun _ => True) v5 (openL (l0_0.take x11.toNat) a0_1 l0_2 a1)) ∧ Aside0 (w'.heap[gb157]? = some (.cells #[(.slice A0_0 l0_0.length c0_0), .int .i64 a0_1, (.slice A0_2 l0_2.length c0_2)] 25 (0, 0))) ∧ Aside0 (Below w.heap.size w w')) (fun _ v11 _ => l0_0.length - (intOf v11).toNat)
  case atStart => exact ⟨0, rfl, ⟨by omega⟩, ⟨by omega⟩, ⟨Kd.R_nil _ _ _ _ _⟩, BKgb157, HB⟩
  case round =>
   clear BKgb157 HB
   obtain ⟨x11, rfl, H0, H1, HO, BKgb157, HB⟩ := hrel
   by_cases hlt : x11 < (l0_0.length : Int)
   ·have p158 := H0.out
    obtain ⟨ad158, e158, hx⟩ := Kd.at_int HR0_0.out x11 p158 hlt
    cases e158
    replace hx := (HB.out.cell (World.block_lt_of_cell? w _ hx)).trans hx
    have hcz9_0 : wr.cell? ⟨gb157, 0, none⟩ = some (.slice (some ad158) l0_0.length c0_0) := (blk_cell BKgb157.out 0).trans rfl
    have hcz9_1 : wr.cell? ⟨gb157, 1, none⟩ = some (.int .i64 a0_1) := (blk_cell BKgb157.out 1).trans rfl
    have hcz9_2 : wr.cell? ⟨gb157, 2, none⟩ = some (.slice A0_2 l0_2.length c0_2) := (blk_cell BKgb157.out 2).trans rfl
    have C1 := a_ hlt
    have HS := a_ (openL_step l0_0 a0_1 l0_2 a1 x11 p158 hlt)
    replace p158 := eq_true p158
    have d1 : decide (x11 < (l0_0.length : Int)) = true := decide_eq_true hlt
    replace hlt := eq_true hlt
    go_upto_region 5 with fail
    have n0_ := a_ (Kd.R_drew HO.out)
    have n1_ := a_ (blk_drew BKgb157.out)
    have n2_ := a_ (below_drew1 HB.out)
    clear HO BKgb157 HB
    have HO := n0_
    have BKgb157 := n1_
    have HB := n2_
    clear n0_ n1_ n2_ hcz9_0 hcz9_1 hcz9_2 hx
    refine start_ (n := 8) (S := fun w' => w'.cell? ⟨gb157, 0, none⟩ = some (.slice (some ad158) l0_0.length c0_0) ∧ w'.cell? ⟨gb157, 1, none⟩ = some (.int .i64 a0_1) ∧ w'.cell? ⟨gb157, 2, none⟩ = some (.slice A0_2 l0_2.length c0_2)) (ds := []) #[false, false, false, false, false, false, false, false] (by kernel_rfl) rfl rfl ⟨(blk_cell BKgb157.out 0).trans rfl, (blk_cell BKgb157.out 1).trans rfl, (blk_cell BKgb157.out 2).trans rfl⟩ (fun hHeld => ?_)
    refine with_tabW inspect_Open.tab5 inspect_Open.bits5 (fun HT_ HW_ => ?_)
    generalize wr.drew = w10 at HO BKgb157 HB hHeld ⊢
    refine pq_ 0 (some 15) #[true, false, false, false, false, false, false, false] ?_
    refine pq_ 3 (some 18) #[true, false, false, true, false, false, false, false] ?_
    refine pq_ 4 (some 19) #[true, false, false, true, true, false, false, false] ?_
    refine take_ (i := 1) (N := some 16) (v := ?_) (a' := ?_) #[true, true, false, true, true, false, false, false] rfl rfl (take_ofW HT_.out HW_.out (by kernel_rfl)) (fun _ _ _ h => h) (Or.inl ⟨by rfl, ?_⟩) hHeld ?_ ?_
    rotate_left
    ·rintro w' ⟨s0, s1, s2⟩
     go_simp
     with_reducible rfl
    rotate_left
    ·simp only [Act.put, List.setIfInBounds_toArray, List.set_cons_zero, List.set_cons_succ, i64_w, i32_w]
     rfl
    refine take_ (i := 2) (N := some 17) (v := ?_) (a' := ?_) #[true, true, true, true, true, false, false, false] rfl rfl (take_ofW HT_.out HW_.out (by kernel_rfl)) (fun _ _ _ h => h) (Or.inl ⟨by rfl, ?_⟩) hHeld ?_ ?_
    rotate_left
    ·rintro w' ⟨s0, s1, s2⟩
     go_simp
     with_reducible rfl
    rotate_left
    ·simp only [Act.put, List.setIfInBounds_toArray, List.set_cons_zero, List.set_cons_succ, i64_w, i32_w]
     rfl
    refine one_ (i := 5) (N := some 20) #[true, true, true, true, true, true, false, false] rfl rfl (one_of HT_.out (by kernel_rfl)) (by decide) (fun K hK => ?_)
    refine goes_ Try.func61 (by kernel_rfl) rfl #[.agg #[.slice (some ad158) l0_0.length c0_0, .int .i64 a0_1, .slice A0_2 l0_2.length c0_2], .int .i64 (rd l0_0 x11), .int .i64 a1] (by rfl) rfl rfl (by (try simp only [List.map_toArray, List.map_cons, List.map_nil]); first | done | rfl) ?_
    with_reducible refine (counts_calls (some ad158) l0_0.length c0_0 a0_1 A0_2 l0_2.length c0_2 (rd l0_0 x11) a1 _).mono ?_
    rintro e w11 ⟨bi, bt, bl, rfl, gi, gt, gl, hb⟩
    refine ⟨_, rfl, ?_⟩
    have n0_ := a_ (Kd.R_below HO.out hb)
    have n1_ := a_ (blk_below (g := gb157) (o := .cells #[.slice (some ad158) l0_0.length c0_0, .int .i64 a0_1, .slice A0_2 l0_2.length c0_2] 25 (0, 0)) BKgb157.out hb)
    have n2_ := a_ (below_step HB.out hb)
    have GI := a_ gi
    have GT := a_ gt
    have GL := a_ gl
    clear HO BKgb157 HB hb gi gt gl
    have HO := n0_
    have BKgb157 := n1_
    have HB := n2_
    clear n0_ n1_ n2_
    refine hK.out _ _ ⟨(blk_cell BKgb157.out 0).trans rfl, (blk_cell BKgb157.out 1).trans rfl, (blk_cell BKgb157.out 2).trans rfl⟩ (fun hHeld => ?_)
    clear hK K
    refine norm_ (a' := ?_) ?_ ?_
    rotate_left
    ·show Act.put _ (some 20) _ = _
     simp only [Act.put, List.setIfInBounds_toArray, List.set_cons_zero, List.set_cons_succ, i64_w, i32_w]
     rfl
    refine one_ (i := 6) (N := some 21) #[true, true, true, true, true, true, true, false] rfl rfl (one_of HT_.out (by kernel_rfl)) (by decide) (fun K hK => ?_)
    refine goes_ Try.func60 (by kernel_rfl) rfl #[.slice A0_2 l0_2.length c0_2, .func (.func 76) #[] #[.pointer (some ⟨bi, 0, none⟩), .pointer (some ⟨bt, 0, none⟩), .pointer (some ⟨bl, 0, none⟩)]] (by rfl) rfl rfl (by (try simp only [List.map_toArray, List.map_cons, List.map_nil]); first | done | rfl) ?_
    obtain ⟨b, hb0⟩ : ∃ b, l0_2.any (cntB (rd l0_0 x11) a1 a0_1) = b := ⟨_, rfl⟩
    have HAB := a_ hb0
    clear hb0
    with_reducible refine (any35_calls bi bt bl (cntB (rd l0_0 x11) a1 a0_1) A0_2 c0_2 l0_2 _ ?side1 HC0_2.out ?side2 b HAB.out).mono ?_
    (case side1 => exact Kd.C_below HR0_2.out HB.out)
    (case side2 => exact fun W x b hbW hpx => counts1_calls x bi bt bl (rd l0_0 x11) a1 a0_1 b W (pw_cell_below hbW GI.out) (pw_cell_below hbW GT.out) (pw_cell_below hbW GL.out) hpx)
    rintro e w12 ⟨rfl, hb⟩
    refine ⟨_, rfl, ?_⟩
    have n0_ := a_ (Kd.R_below HO.out hb)
    have n1_ := a_ (blk_below (g := gb157) (o := .cells #[.slice (some ad158) l0_0.length c0_0, .int .i64 a0_1, .slice A0_2 l0_2.length c0_2] 25 (0, 0)) BKgb157.out hb)
    have n2_ := a_ (below_step HB.out hb)
    clear HO BKgb157 HB hb GI GT GL
    have HO := n0_
    have BKgb157 := n1_
    have HB := n2_
    clear n0_ n1_ n2_
    refine hK.out _ _ ⟨(blk_cell BKgb157.out 0).trans rfl, (blk_cell BKgb157.out 1).trans rfl, (blk_cell BKgb157.out 2).trans rfl⟩ (fun hHeld => ?_)
    clear hK K
    refine norm_ (a' := ?_) ?_ ?_
    rotate_left
    ·show Act.put _ (some 21) _ = _
     simp only [Act.put, List.setIfInBounds_toArray, List.set_cons_zero, List.set_cons_succ, i64_w, i32_w]
     rfl
    refine pq_ 7 (some 22) #[true, true, true, true, true, true, true, true] ?_
    refine done_ (done_of HT_.out (by kernel_rfl)) ?_
    obtain ⟨xs, hxs⟩ : ∃ xs, openL (l0_0.take x11.toNat) a0_1 l0_2 a1 = xs := ⟨_, rfl⟩
    rw [hxs] at HO
    have HXS := a_ hxs
    clear hxs
    have HW : Aside0 (wrap64 (x11 + 1) = x11 + 1) := ⟨by have h1 := C1.out; have h2 := HLEN.out; have h3 := H0.out; unfold wrap64; omega⟩
    cases b with
    | true =>
     go_wp2
     go_roundw
     case measure => have h1 := C1.out; have h2 := H0.out; rw [HW.out]; simp only [intOf]; omega
     case rel => exact ⟨x11 + 1, by rw [HW.out], ⟨by have := H0.out; omega⟩, ⟨by have := C1.out; omega⟩, ⟨by rw [HS.out, if_pos HAB.out, HXS.out]; exact HO.out⟩, BKgb157, HB⟩
    | false =>
     go_wp2_with (first | ((with_reducible refine gate_builtin (b := .append) (xs := #[.tmp 23, .tmp 25]) rfl ?_); at_builtin; refine Kd.R_append (Kd.int .i64) (w0 := w) w.heap.size rfl (.tmp 23) (.tmp 25) 22 3 (.int .i64 0) 8 rfl Try.underlying22 info3 rfl (by decide) (by omega) u5 xs (rd l0_0 x11) [.int .i64 (rd l0_0 x11)] (fun _ => True) (fun _ => False) rfl rfl ?aP (fun _ hk => hk.elim) ?aF ?aO ?aB ?aS ?aL ?_; (case aP => exact rfl); (case aB => exact HB.out); (case aF => exact (fun _ _ => trivial)); (case aO => exact HO.out); (case aS => exact (below_size HB.out)); (case aL => have h1 := openL_len (l0_0.take x11.toNat) a0_1 l0_2 a1; rw [HXS.out, List.length_take] at h1; have := HLEN.out; omega); intro v162 w13 ho hb hg hat; have n0_ := a_ (blk_grown (g := gb157) (o := .cells #[.slice (some ad158) l0_0.length c0_0, .int .i64 a0_1, .slice A0_2 l0_2.length c0_2] 25 (0, 0)) BKgb157.out hg (Kd.R_ne HO.out BKgb157.out (by decide))); have n1_ := a_ (hb); have n2_ := a_ (ho); clear HO BKgb157 HB; have HO := n2_; have BKgb157 := n0_; have HB := n1_; clear n0_ n1_ n2_ ho hb hg hat))
     go_roundw
     case measure => have h1 := C1.out; have h2 := H0.out; rw [HW.out]; simp only [intOf]; omega
     case rel => exact ⟨x11 + 1, by rw [HW.out], ⟨by have := H0.out; omega⟩, ⟨by have := C1.out; omega⟩, ⟨by rw [HS.out, if_neg (by rw [HAB.out]; simp), HXS.out]; exact HO.out⟩, BKgb157, HB⟩
   ·have HZ := a_ (show l0_0.take x11.toNat = l0_0 by apply List.take_of_length_le; omega)
    have d1 : decide (x11 < (l0_0.length : Int)) = false := decide_eq_false hlt
    have hO := HO.out
    rw [HZ.out, HR.out] at hO
    have HO2 := a_ hO
    clear hlt hO HO
    go_wp2
    go_ret
    exact ⟨_, rfl, HO2.out, HB.out⟩
 ·rw [if_neg hlen] at h; exact absurd h (by simp)
def inspect_Done.f (l0_0 : List Int) (a0_1 : Int) (l0_2 : List (S35)) (a1 : Int) : Option (Bool) := (inspect_Open.f l0_0 a0_1 l0_2 a1).bind fun t134 => (some ((t134.length : Int) == 0))
set_option maxHeartbeats 8000000 in
set_option maxRecDepth 100000 in
theorem inspect_Done.calls (A0_0 : Option Addr) (c0_0 : Nat) (l0_0 : List Int) (a0_1 : Int) (A0_2 : Option Addr) (c0_2 : Nat) (l0_2 : List (S35)) (a1 : Int) (r : Bool) (w : World) (hr0_0 : Kd.C (Kd.int .i64) w A0_0 l0_0.length l0_0) (hc0_0 : l0_0.length ≤ c0_0) (hr0_2 : Kd.C k35 w A0_2 l0_2.length l0_2) (hc0_2 : l0_2.length ≤ c0_2) (h : inspect_Done.f l0_0 a0_1 l0_2 a1 = some r) :
  Calls Try.prog 29 #[.agg #[.slice A0_0 l0_0.length c0_0, .int .i64 a0_1, .slice A0_2 l0_2.length c0_2], .int .i64 a1] w fun e w' => e = .returned (.bool r) ∧ Below w.heap.size w w' := by
 have hu25 := Try.underlying25
 have HR0_0 := a_ hr0_0
 have HC0_0 := a_ hc0_0
 clear hr0_0 hc0_0
 have HR0_2 := a_ hr0_2
 have HC0_2 := a_ hc0_2
 clear hr0_2 hc0_2
 have HB := a_ (Below.refl w.heap.size w)
 have H : ((inspect_Open.f l0_0 a0_1 l0_2 a1).bind fun t134 => (some ((t134.length : Int) == 0))) = some r := h
 clear h
 replace H := Option.bind_eq_some_iff.mp H
 obtain ⟨t134, A30, H⟩ := H
 replace H : (some ((t134.length : Int) == 0)) = some r := H
 have A3 := a_ A30
 clear A30
 obtain rfl := Option.some.inj H
 go_enter Try.func29, Try.ntmps29
 go_wp2_with (first | ((with_reducible refine gate_dst (N := 2) rfl ?_); refine box_event ?hg (N := 2) ?hd (cs := #[.slice A0_0 l0_0.length c0_0, .int .i64 a0_1, .slice A0_2 l0_2.length c0_2]) (t := 25) ?hr ?_; (case hd => rfl); (case hg => rfl); (case hr => first | (go_simp; done) | (go_simp; rfl)); intro gb133 hg w4 hbox hb; have n0_ := a_ (below_step bel_ hb); have n1_ := a_ (hbox); have n2_ := a_ (bz_ hg : w.heap.size ≤ gb133); have n3_ := a_ (bz_ hg : w.heap.size ≤ gb133); clear HB; have HB := n0_; have BK133 := n1_; have GW133 := n2_; have GE133 := n3_; clear n0_ n1_ n2_ n3_; clear hb hbox hg; have hcz5_0 := cz_ BK133 0; have hcz5_1 := cz_ BK133 1; have hcz5_2 := cz_ BK133 2; have hfz5_0 := fz_ BK133 0; have hfz5_1 := fz_ BK133 1; have hfz5_2 := fz_ BK133 2) | ((with_reducible refine gate_callee (f := 27) rfl ?_); refine gs_ (some 7) Try.func27 #[.agg #[.slice A0_0 l0_0.length c0_0, .int .i64 a0_1, .slice A0_2 l0_2.length c0_2], .int .i64 a1] ?_; (with_reducible refine (inspect_Open.calls _ _ l0_0 a0_1 _ _ l0_2 a1 t134 _ ?side1 ?side2 ?side3 ?side4 A3.out).mono ?_); (case side1 => exact kC_ (Kd.C_below HR0_0.out HB.out)); (case side2 => exact HC0_0.out); (case side3 => exact kC_ (Kd.C_below HR0_2.out HB.out)); (case side4 => exact HC0_2.out); rintro e w6 ⟨v135, rfl, ho0, hb⟩; refine ⟨_, rfl, ?_⟩; have n0_ := a_ (Kd.R_lower ho0 (below_size bel_)); have n1_ := a_ (blk_below (bk_ BK133.out) hb); have n2_ := a_ (below_step bel_ hb); clear BK133; clear HB; have HO136 := n0_; have BK133 := n1_; have HB := n2_; clear n0_ n1_ n2_; (try clear hb); (try clear hb2); (try clear hk); (try clear hi); (try clear ho0); obtain ⟨Ao7, co7, eo7⟩ := Kd.R_slice HO136.out; subst eo7))
 go_ret
 exact ⟨by first | rfl | (simp [errW_none, errW_some] <;> rfl) | (simp [*, errW_none, errW_some] <;> rfl), by repeat (first | (with_reducible first | exact HB.out | apply below_alloc | apply pw_below_drewN | apply below_drew1 | refine below_set ?_ GE133.out) | exact HB.out)⟩
/-- From u on, the time at which the item is open first: a sign that keeps it moves u to its end. -/
def untilIn (every : Int) (signs : List S35) (item : Int) : Nat → Int → Option Int
 | 0, _ => none
 | k + 1, u => if idxFrom (cntB item u every) signs 0 < 0 then some u else untilIn every signs item k (wrap64 ((rd_T35 signs (idxFrom (cntB item u every) signs 0)).f2 + every))
def untilL (k : Nat) (every : Int) (signs : List S35) (t : Int) : List Int → Int → Option Int
 | [], m => some m
 | it :: l, m => (untilIn every signs it k t).bind fun u => untilL k every signs t l (min m u)
def inspect_Until.f (k : Nat) (l0_0 : List Int) (a0_1 : Int) (l0_2 : List S35) (a1 : Int) : Option Int :=
 (inspect_Done.f l0_0 a0_1 l0_2 a1).bind fun d => if d = true then untilL k a0_1 l0_2 a1 l0_0 20000000 else some a1
theorem untilIn_mono (every : Int) (signs : List S35) (item : Int) : ∀ k u, LeO (untilIn every signs item k u) (untilIn every signs item (k + 1) u)
 | 0, u => fun r h => by simp [untilIn] at h
 | k + 1, u => by
  show LeO (if _ then _ else _) (if _ then _ else _)
  exact LeO.ite (LeO.refl _) (untilIn_mono every signs item k _)
theorem untilL_mono (k : Nat) (every : Int) (signs : List S35) (t : Int) : ∀ l m, LeO (untilL k every signs t l m) (untilL (k + 1) every signs t l m)
 | [], m => LeO.refl _
 | it :: l, m => LeO.bind (untilIn_mono every signs it k t) (fun _ => untilL_mono k every signs t l _)
theorem inspect_Until.mono : ∀ a0 a1 a2 a3 k, LeO (inspect_Until.f k a0 a1 a2 a3) (inspect_Until.f (k + 1) a0 a1 a2 a3) := by
 intro a0 a1 a2 a3 k
 unfold inspect_Until.f
 exact LeO.bind (LeO.refl _) (fun _ => LeO.ite (untilL_mono k a1 a2 a3 a0 _) (LeO.refl _))
theorem idxFrom_lt {α : Type} (p : α → Bool) (l : List α) (i : Nat) : idxFrom p l i < (i : Int) + l.length := by
 induction l generalizing i with
 | nil => simp [idxFrom]; omega
 | cons x l ih =>
  have := ih (i + 1)
  unfold idxFrom
  split <;> simp only [List.length_cons] <;> omega
theorem rd_cons_drop (l : List Int) (i : Int) (h0 : 0 ≤ i) (h1 : i < l.length) : l.drop i.toNat = rd l i :: l.drop (i + 1).toNat := by
 rw [List.drop_eq_getElem_cons (by omega), show (i + 1).toNat = i.toNat + 1 by omega]
 simp [rd, List.getD_eq_getElem?_getD, List.getElem?_eq_getElem (show i.toNat < l.length by omega)]
def inspect_Until.T8 : Bool × List (List Nat × List Nat) := (true, [([], []), ([0], [0]), ([], []), ([], []), ([], []), ([2, 3, 4], [2, 3, 4]), ([1, 5, 5], [1, 5]), ([6, 6, 0, 1, 2, 3, 4, 5, 6], [6])])
def inspect_Until.B8 : List Nat := [0, 1, 0, 0, 0, 28, 63, 127]
theorem inspect_Until.tab8 : rtab .any (opsOf Try.f31 8) = inspect_Until.T8 := by kernel_rfl
theorem inspect_Until.bits8 : waitsOk inspect_Until.T8.2 inspect_Until.B8 = true := by kernel_rfl
def inspect_Until.T10 : Bool × List (List Nat × List Nat) := (true, [([], []), ([0], [0]), ([], []), ([1, 2], [1, 2]), ([3], [3]), ([4], [4]), ([], []), ([6], [6]), ([5, 7], [5, 7]), ([8, 0, 1, 2, 3, 4, 5, 6, 7, 8], [8])])
def inspect_Until.B10 : List Nat := [0, 1, 0, 7, 15, 31, 0, 64, 255, 511]
theorem inspect_Until.tab10 : rtab .any (opsOf Try.f31 10) = inspect_Until.T10 := by kernel_rfl
theorem inspect_Until.bits10 : waitsOk inspect_Until.T10.2 inspect_Until.B10 = true := by kernel_rfl
set_option maxHeartbeats 4000000 in
theorem inspect_Until.calls (k : Nat) (A0_0 : Option Addr) (c0_0 : Nat) (l0_0 : List Int) (a0_1 : Int) (A0_2 : Option Addr) (c0_2 : Nat) (l0_2 : List (S35)) (a1 : Int) (r : Int) (w : World) (hr0_0 : Kd.C (Kd.int .i64) w A0_0 l0_0.length l0_0) (hc0_0 : l0_0.length ≤ c0_0) (hr0_2 : Kd.C k35 w A0_2 l0_2.length l0_2) (hc0_2 : l0_2.length ≤ c0_2) (h : inspect_Until.f k l0_0 a0_1 l0_2 a1 = some r) :
  Calls Try.prog 31 #[.agg #[.slice A0_0 l0_0.length c0_0, .int .i64 a0_1, .slice A0_2 l0_2.length c0_2], .int .i64 a1] w fun e w' => e = .returned (.int .i64 r) ∧ Below w.heap.size w w' := by
 have hu25 := Try.underlying25
 have hu35 := Try.underlying35
 have HR0_0 := a_ hr0_0
 have HC0_0 := a_ hc0_0
 have HR0_2 := a_ hr0_2
 have HC0_2 := a_ hc0_2
 have HMX := a_ (Kd.C_max hr0_0)
 clear hr0_0 hc0_0 hr0_2 hc0_2
 unfold inspect_Until.f at h
 obtain ⟨d, A1, H⟩ := Option.bind_eq_some_iff.mp h
 clear h
 have HD := a_ A1
 clear A1
 have HB := a_ (Below.refl w.heap.size w)
 cases d with
 | false =>
  obtain rfl : a1 = r := by simpa using H
  clear H
  go_enter Try.func31, Try.ntmps31
  go_wp2_with (first | ((with_reducible refine gate_dst (N := 2) rfl ?_); refine box_event ?hg (N := 2) ?hd (cs := #[.slice A0_0 l0_0.length c0_0, .int .i64 a0_1, .slice A0_2 l0_2.length c0_2]) (t := 25) ?hr ?_; (case hd => rfl); (case hg => rfl); (case hr => first | (go_simp; done) | (go_simp; rfl)); intro gb hg w_gb hbox hb; have n0_ := a_ (below_step bel_ hb); have n1_ := a_ (hbox); have n2_ := a_ ((by rw [hg]; exact (below_size bel_) : w.heap.size ≤ gb)); clear HB; have HB := n0_; have BKgb := n1_; have GEgb := n2_; clear n0_ n1_ n2_; clear hb hbox hg; have hczgb_0 : w_gb.cell? ⟨gb, 0, none⟩ = some (.slice A0_0 l0_0.length c0_0) := (blk_cell BKgb.out 0).trans rfl; have hczgb_1 : w_gb.cell? ⟨gb, 1, none⟩ = some (.int .i64 a0_1) := (blk_cell BKgb.out 1).trans rfl; have hczgb_2 : w_gb.cell? ⟨gb, 2, none⟩ = some (.slice A0_2 l0_2.length c0_2) := (blk_cell BKgb.out 2).trans rfl; have hfzgb_0 := blk_frozen BKgb.out 0; have hfzgb_1 := blk_frozen BKgb.out 1; have hfzgb_2 := blk_frozen BKgb.out 2) | (go_at_call 29; (with_reducible refine (inspect_Done.calls A0_0 c0_0 l0_0 a0_1 A0_2 c0_2 l0_2 a1 false _ ?s1 HC0_0.out ?s2 HC0_2.out HD.out).mono ?_); (case s1 => exact Kd.C_below HR0_0.out HB.out); (case s2 => exact Kd.C_below HR0_2.out HB.out); rintro e w' ⟨rfl, hb⟩))
  go_ret
  exact ⟨rfl, below_step HB.out hb⟩
 | true =>
  have HH : Aside0 (untilL k a0_1 l0_2 a1 l0_0 20000000 = some r) := ⟨by simpa using H⟩
  clear H
  go_enter Try.func31, Try.ntmps31
  go_wp2_with (first | ((with_reducible refine gate_dst (N := 2) rfl ?_); refine box_event ?hg (N := 2) ?hd (cs := #[.slice A0_0 l0_0.length c0_0, .int .i64 a0_1, .slice A0_2 l0_2.length c0_2]) (t := 25) ?hr ?_; (case hd => rfl); (case hg => rfl); (case hr => first | (go_simp; done) | (go_simp; rfl)); intro gb hg w_gb hbox hb; have n0_ := a_ (below_step bel_ hb); have n1_ := a_ (hbox); have n2_ := a_ ((by rw [hg]; exact (below_size bel_) : w.heap.size ≤ gb)); clear HB; have HB := n0_; have BKgb := n1_; have GEgb := n2_; clear n0_ n1_ n2_; clear hb hbox hg; have hczgb_0 : w_gb.cell? ⟨gb, 0, none⟩ = some (.slice A0_0 l0_0.length c0_0) := (blk_cell BKgb.out 0).trans rfl; have hczgb_1 : w_gb.cell? ⟨gb, 1, none⟩ = some (.int .i64 a0_1) := (blk_cell BKgb.out 1).trans rfl; have hczgb_2 : w_gb.cell? ⟨gb, 2, none⟩ = some (.slice A0_2 l0_2.length c0_2) := (blk_cell BKgb.out 2).trans rfl; have hfzgb_0 := blk_frozen BKgb.out 0; have hfzgb_1 := blk_frozen BKgb.out 1; have hfzgb_2 := blk_frozen BKgb.out 2) | (go_at_call 29; (with_reducible refine (inspect_Done.calls A0_0 c0_0 l0_0 a0_1 A0_2 c0_2 l0_2 a1 true _ ?s1 HC0_0.out ?s2 HC0_2.out HD.out).mono ?_); (case s1 => exact Kd.C_below HR0_0.out HB.out); (case s2 => exact Kd.C_below HR0_2.out HB.out); rintro e w2 ⟨rfl, hb⟩; have n0_ := a_ (below_step HB.out hb); have n1_ := a_ (blk_below BKgb.out hb); clear HB BKgb hczgb_0 hczgb_1 hczgb_2; have HB := n0_; have BKgb := n1_; have hk0 : w2.cell? ⟨gb, 0, none⟩ = some (.slice A0_0 l0_0.length c0_0) := (blk_cell BKgb.out 0).trans rfl; clear n0_ n1_ hb))
  clear hk0
  go_loopw [5, 18] (fun v5 v18 w' => ∃ x5 x18 : Int, v5 = .int .i64 x5 ∧ v18 = .int .i64 x18 ∧ Aside0 (0 ≤ x18) ∧ Aside0 (x18 ≤ l0_0.length) ∧ Aside0 (untilL k a0_1 l0_2 a1 (l0_0.drop x18.toNat) x5 = some r) ∧ Aside0 (w'.heap[gb]? = some (.cells #[(.slice A0_0 l0_0.length c0_0), .int .i64 a0_1, (.slice A0_2 l0_2.length c0_2)] 25 (0, 0))) ∧ Aside0 (Below w.heap.size w w')) (fun _ v18 _ => l0_0.length - (intOf v18).toNat)
  case atStart => exact ⟨20000000, 0, rfl, rfl, ⟨by omega⟩, ⟨by omega⟩, HH, BKgb, HB⟩
  case round =>
   clear BKgb HB HH
   obtain ⟨x5, x18, rfl, rfl, H0, H1, HU, BKgb, HB⟩ := hrel
   by_cases hlt : x18 < (l0_0.length : Int)
   ·have p158 := H0.out
    have hU := HU.out
    rw [rd_cons_drop l0_0 x18 p158 hlt, untilL] at hU
    obtain ⟨ru, hru, hU2⟩ := Option.bind_eq_some_iff.mp hU
    have HRU := a_ hru
    have HU2 := a_ hU2
    clear hU hru hU2 HU
    obtain ⟨ad158, e158, hx⟩ := Kd.at_int HR0_0.out x18 p158 hlt
    cases e158
    replace hx := (HB.out.cell (World.block_lt_of_cell? w _ hx)).trans hx
    have C1 := a_ hlt
    have HW : Aside0 (wrap64 (x18 + 1) = x18 + 1) := ⟨by have h1 := HMX.out; unfold wrap64; omega⟩
    replace p158 := eq_true p158
    have d1 : decide (x18 < (l0_0.length : Int)) = true := decide_eq_true hlt
    replace hlt := eq_true hlt
    generalize hit : rd l0_0 x18 = item at *
    clear hit
    go_wp2
    clear hx
    go_loopg [8, 9] k (fun kq v8 v9 w' => ∃ x8 : Int, v8 = .int .i64 x8 ∧ Aside0 (untilIn a0_1 l0_2 item kq x8 = some ru) ∧ Aside0 (w'.heap[gb]? = some (.cells #[(.slice (some ad158) l0_0.length c0_0), .int .i64 a0_1, (.slice A0_2 l0_2.length c0_2)] 25 (0, 0))) ∧ Aside0 (Below w.heap.size w w'))
    case atStart => exact ⟨a1, rfl, HRU, BKgb, HB⟩
    case round =>
     clear BKgb HB HRU
     obtain ⟨x8, rfl, HA, BKgb, HB⟩ := hrel
     cases gk with
     | zero => exact absurd HA.out (by simp [untilIn])
     | succ k1 =>
     have H := HA.out
     clear HA
     rw [untilIn] at H
     obtain ⟨z, hz⟩ : ∃ z, idxFrom (cntB item x8 a0_1) l0_2 0 = z := ⟨_, rfl⟩
     rw [hz] at H
     have HZ := a_ hz
     have hz1 := idxFrom_lt (cntB item x8 a0_1) l0_2 0
     rw [hz] at hz1
     have HZ1 : Aside0 (z < l0_2.length) := ⟨by omega⟩
     clear hz hz1
     go_upto_region 8 with fail
     have n1_ := a_ (blk_drew BKgb.out)
     have n2_ := a_ (below_drew1 HB.out)
     clear BKgb HB
     have BKgb := n1_
     have HB := n2_
     clear n1_ n2_
     have HQ := a_ H
     clear H
     refine start_ (n := 8) (S := fun w' => w'.cell? ⟨gb, 0, none⟩ = some (.slice (some ad158) l0_0.length c0_0) ∧ w'.cell? ⟨gb, 1, none⟩ = some (.int .i64 a0_1) ∧ w'.cell? ⟨gb, 2, none⟩ = some (.slice A0_2 l0_2.length c0_2)) (ds := []) #[false, false, false, false, false, false, false, false] (by kernel_rfl) rfl rfl ⟨(blk_cell BKgb.out 0).trans rfl, (blk_cell BKgb.out 1).trans rfl, (blk_cell BKgb.out 2).trans rfl⟩ (fun hHeld => ?_)
     refine with_tabW inspect_Until.tab8 inspect_Until.bits8 (fun HT_ HW_ => ?_)
     generalize wr.drew = w10 at BKgb HB hHeld ⊢
     refine pq_ 0 (some 23) #[true, false, false, false, false, false, false, false] ?_
     refine pq_ 3 (some 26) #[true, false, false, true, false, false, false, false] ?_
     refine pq_ 4 (some 27) #[true, false, false, true, true, false, false, false] ?_
     refine take_ (i := 1) (N := some 24) (v := ?_) (a' := ?_) #[true, true, false, true, true, false, false, false] rfl rfl (take_ofW HT_.out HW_.out (by kernel_rfl)) (fun _ _ _ h => h) (Or.inl ⟨by rfl, ?_⟩) hHeld ?_ ?_
     rotate_left
     ·rintro w' ⟨s0, s1, s2⟩
      go_simp
      with_reducible rfl
     rotate_left
     ·simp only [Act.put, List.setIfInBounds_toArray, List.set_cons_zero, List.set_cons_succ, i64_w, i32_w]
      rfl
     refine take_ (i := 2) (N := some 25) (v := ?_) (a' := ?_) #[true, true, true, true, true, false, false, false] rfl rfl (take_ofW HT_.out HW_.out (by kernel_rfl)) (fun _ _ _ h => h) (Or.inl ⟨by rfl, ?_⟩) hHeld ?_ ?_
     rotate_left
     ·rintro w' ⟨s0, s1, s2⟩
      go_simp
      with_reducible rfl
     rotate_left
     ·simp only [Act.put, List.setIfInBounds_toArray, List.set_cons_zero, List.set_cons_succ, i64_w, i32_w]
      rfl
     refine one_ (i := 5) (N := some 28) #[true, true, true, true, true, true, false, false] rfl rfl (one_of HT_.out (by kernel_rfl)) (by decide) (fun K hK => ?_)
     refine goes_ Try.func61 (by kernel_rfl) rfl #[.agg #[.slice (some ad158) l0_0.length c0_0, .int .i64 a0_1, .slice A0_2 l0_2.length c0_2], .int .i64 item, .int .i64 x8] (by rfl) rfl rfl (by (try simp only [List.map_toArray, List.map_cons, List.map_nil]); first | done | rfl) ?_
     with_reducible refine (counts_calls (some ad158) l0_0.length c0_0 a0_1 A0_2 l0_2.length c0_2 item x8 _).mono ?_
     rintro e w11 ⟨bi, bt, bl, rfl, gi, gt, gl, hb⟩
     refine ⟨_, rfl, ?_⟩
     have n1_ := a_ (blk_below (g := gb) (o := .cells #[.slice (some ad158) l0_0.length c0_0, .int .i64 a0_1, .slice A0_2 l0_2.length c0_2] 25 (0, 0)) BKgb.out hb)
     have n2_ := a_ (below_step HB.out hb)
     have GI := a_ gi
     have GT := a_ gt
     have GL := a_ gl
     clear BKgb HB hb gi gt gl
     have BKgb := n1_
     have HB := n2_
     clear n1_ n2_
     refine hK.out _ _ ⟨(blk_cell BKgb.out 0).trans rfl, (blk_cell BKgb.out 1).trans rfl, (blk_cell BKgb.out 2).trans rfl⟩ (fun hHeld => ?_)
     clear hK K
     refine norm_ (a' := ?_) ?_ ?_
     rotate_left
     ·show Act.put _ (some 28) _ = _
      simp only [Act.put, List.setIfInBounds_toArray, List.set_cons_zero, List.set_cons_succ, i64_w, i32_w]
      rfl
     refine one_ (i := 6) (N := some 29) #[true, true, true, true, true, true, true, false] rfl rfl (one_of HT_.out (by kernel_rfl)) (by decide) (fun K hK => ?_)
     refine goes_ Try.func63 (by kernel_rfl) rfl #[.slice A0_2 l0_2.length c0_2, .func (.func 76) #[] #[.pointer (some ⟨bi, 0, none⟩), .pointer (some ⟨bt, 0, none⟩), .pointer (some ⟨bl, 0, none⟩)]] (by rfl) rfl rfl (by (try simp only [List.map_toArray, List.map_cons, List.map_nil]); first | done | rfl) ?_
     with_reducible refine (idx35_calls bi bt bl (cntB item x8 a0_1) A0_2 c0_2 l0_2 _ ?side1 HC0_2.out ?side2).mono ?_
     (case side1 => exact Kd.C_below HR0_2.out HB.out)
     (case side2 => exact fun W x b hbW hpx => counts1_calls x bi bt bl item x8 a0_1 b W (pw_cell_below hbW GI.out) (pw_cell_below hbW GT.out) (pw_cell_below hbW GL.out) hpx)
     rintro e w12 ⟨rfl, hb⟩
     rw [HZ.out]
     refine ⟨_, rfl, ?_⟩
     have n1_ := a_ (blk_below (g := gb) (o := .cells #[.slice (some ad158) l0_0.length c0_0, .int .i64 a0_1, .slice A0_2 l0_2.length c0_2] 25 (0, 0)) BKgb.out hb)
     have n2_ := a_ (below_step HB.out hb)
     clear BKgb HB hb GI GT GL
     have BKgb := n1_
     have HB := n2_
     clear n1_ n2_
     refine hK.out _ _ ⟨(blk_cell BKgb.out 0).trans rfl, (blk_cell BKgb.out 1).trans rfl, (blk_cell BKgb.out 2).trans rfl⟩ (fun hHeld => ?_)
     clear hK K
     refine norm_ (a' := ?_) ?_ ?_
     rotate_left
     ·show Act.put _ (some 29) _ = _
      simp only [Act.put, List.setIfInBounds_toArray, List.set_cons_zero, List.set_cons_succ, i64_w, i32_w]
      rfl
     refine pq_ 7 (some 9) #[true, true, true, true, true, true, true, true] ?_
     refine done_ (done_of HT_.out (by kernel_rfl)) ?_
     by_cases hzn : z < 0
     ·have dz : decide (z < 0) = true := decide_eq_true hzn
      have hq := HQ.out
      rw [if_pos hzn] at hq
      obtain rfl : x8 = ru := by simpa using hq
      clear hq HQ hzn
      go_wp2
      have emin : (if x8 < x5 then x8 else x5) = min x5 x8 := by omega
      rw [emin, HW.out]
      clear emin
      go_roundw
      case measure => have h1 := C1.out; have h2 := H0.out; simp only [intOf]; omega
      case rel => exact ⟨min x5 x8, x18 + 1, rfl, rfl, ⟨by have := H0.out; omega⟩, ⟨by have := C1.out; omega⟩, HU2, BKgb, HB⟩
     ·have hq := HQ.out
      rw [if_neg hzn] at hq
      have HQ2 := a_ hq
      clear hq HQ
      have pz : 0 ≤ z := by omega
      have dz : decide (z < 0) = false := decide_eq_false hzn
      have qz := HZ1.out
      clear hzn
      obtain ⟨ad2, e2, y0, y1, y2⟩ := at_T35 HR0_2.out z pz qz
      cases e2
      have Y2 := a_ ((HB.out.cell (World.block_lt_of_cell? w _ y2)).trans y2)
      have Y2w := a_ y2
      clear y0 y1 y2
      replace pz := eq_true pz
      replace qz := eq_true qz
      go_upto_region 10 with fail
      have n1_ := a_ (blk_drew BKgb.out)
      have n2_ := a_ (below_drew1 HB.out)
      clear BKgb HB Y2
      have BKgb := n1_
      have HB := n2_
      clear n1_ n2_
      refine start_ (n := 10) (S := fun w' => w'.cell? ⟨gb, 0, none⟩ = some (.slice (some ad158) l0_0.length c0_0) ∧ w'.cell? ⟨gb, 1, none⟩ = some (.int .i64 a0_1) ∧ w'.cell? ⟨gb, 2, none⟩ = some (.slice (some ad2) l0_2.length c0_2) ∧ w'.cell? ⟨(ad2.add (z.toNat * 3)).block, (ad2.add (z.toNat * 3)).off + 2, none⟩ = some (.int .i64 (rd_T35 l0_2 z).f2)) (ds := []) #[false, false, false, false, false, false, false, false, false, false] (by kernel_rfl) rfl rfl ⟨(blk_cell BKgb.out 0).trans rfl, (blk_cell BKgb.out 1).trans rfl, (blk_cell BKgb.out 2).trans rfl, (HB.out.cell (World.block_lt_of_cell? w _ Y2w.out)).trans Y2w.out⟩ (fun hHeld => ?_)
      refine with_tabW inspect_Until.tab10 inspect_Until.bits10 (fun HT_ HW_ => ?_)
      generalize w12.drew = w13 at BKgb HB hHeld ⊢
      refine pq_ 0 (some 32) #[true, false, false, false, false, false, false, false, false, false] ?_
      refine pq_ 2 (some 34) #[true, false, true, false, false, false, false, false, false, false] ?_
      refine pq_ 6 (some 38) #[true, false, true, false, false, false, true, false, false, false] ?_
      refine take_ (i := 1) (N := some 33) (v := ?_) (a' := ?_) #[true, true, true, false, false, false, true, false, false, false] rfl rfl (take_ofW HT_.out HW_.out (by kernel_rfl)) (fun _ _ _ h => h) (Or.inl ⟨by rfl, ?_⟩) hHeld ?_ ?_
      rotate_left
      ·rintro w' ⟨s0, s1, s2, s3⟩
       go_simp
       with_reducible rfl
      rotate_left
      ·simp only [Act.put, List.setIfInBounds_toArray, List.set_cons_zero, List.set_cons_succ, i64_w, i32_w]
       rfl
      refine pq_ 3 (some 35) #[true, true, true, true, false, false, true, false, false, false] ?_
      refine pq_ 4 (some 36) #[true, true, true, true, true, false, true, false, false, false] ?_
      refine take_ (i := 5) (N := some 37) (v := ?_) (a' := ?_) #[true, true, true, true, true, true, true, false, false, false] rfl rfl (take_ofW HT_.out HW_.out (by kernel_rfl)) (fun _ _ _ h => h) (Or.inl ⟨by rfl, ?_⟩) hHeld ?_ ?_
      rotate_left
      ·rintro w' ⟨s0, s1, s2, s3⟩
       go_simp
       with_reducible rfl
      rotate_left
      ·simp only [Act.put, List.setIfInBounds_toArray, List.set_cons_zero, List.set_cons_succ, i64_w, i32_w]
       rfl
      refine take_ (i := 7) (N := some 39) (v := ?_) (a' := ?_) #[true, true, true, true, true, true, true, true, false, false] rfl rfl (take_ofW HT_.out HW_.out (by kernel_rfl)) (fun _ _ _ h => h) (Or.inl ⟨by rfl, ?_⟩) hHeld ?_ ?_
      rotate_left
      ·rintro w' ⟨s0, s1, s2, s3⟩
       go_simp
       with_reducible rfl
      rotate_left
      ·simp only [Act.put, List.setIfInBounds_toArray, List.set_cons_zero, List.set_cons_succ, i64_w, i32_w]
       rfl
      refine pq_ 8 (some 40) #[true, true, true, true, true, true, true, true, true, false] ?_
      refine pq_ 9 (some 8) #[true, true, true, true, true, true, true, true, true, true] ?_
      refine done_ (done_of HT_.out (by kernel_rfl)) ?_
      go_wp2
      go_roundg k1
      case measure => omega
      case rel => exact ⟨_, rfl, HQ2, BKgb, HB⟩
   ·have d1 : decide (x18 < (l0_0.length : Int)) = false := decide_eq_false hlt
    have hU := HU.out
    rw [show l0_0.drop x18.toNat = [] by apply List.drop_eq_nil_of_le; omega, untilL] at hU
    obtain rfl : x5 = r := by simpa using hU
    clear hU HU hlt
    go_wp2
    go_ret
    exact ⟨rfl, HB.out⟩
def slices_Index_int_int.l0 : Nat → List Int → Int → Int → Int → Option (Int)
 | 0, _, _, _, _ => none
 | k + 1, x0, x1, x7, x8 => if x8 < x7 then (if 0 ≤ x8 then (if x8 < (x0.length : Int) then (if x1 = (rd x0 x8) then (some x8) else (slices_Index_int_int.l0 k x0 x1 x7 (wrap64 (x8 + 1)))) else (none)) else (none)) else (some (-1))
def slices_Index_int_int.f (k : Nat) (l0 : List Int) (a1 : Int) : Option (Int) := slices_Index_int_int.l0 k l0 a1 (l0.length : Int) 0
theorem slices_Index_int_int.mono_l : ∀ k, (∀ y0 y1 y2 y3, LeO (slices_Index_int_int.l0 k y0 y1 y2 y3) (slices_Index_int_int.l0 (k + 1) y0 y1 y2 y3))
 | 0 => fun _ _ _ _ r h => by simp [slices_Index_int_int.l0] at h
 | k + 1 => by
  have ih0 := slices_Index_int_int.mono_l k
  ·intro y0 y1 y2 y3
   unfold slices_Index_int_int.l0
   repeat' first
   | (with_reducible exact ih0 _ _ _ _)
   | (with_reducible exact LeO.refl _)
   | (with_reducible exact LeO.none _)
   | (with_reducible refine LeO.ite ?_ ?_)
   | (with_reducible refine LeO.bind ?_ (fun _ => ?_))
   | exact ih0 _ _ _ _
   | exact LeO.none _
   | refine LeO.ite ?_ ?_
   | refine LeO.bind ?_ (fun _ => ?_)
theorem slices_Index_int_int.mono : ∀ a0 a1 k, LeO (slices_Index_int_int.f k a0 a1) (slices_Index_int_int.f (k + 1) a0 a1) := by
 intro a0 a1 k
 have ih0 := slices_Index_int_int.mono_l k
 unfold slices_Index_int_int.f
 repeat' first
   | (with_reducible exact ih0 _ _ _ _)
   | (with_reducible exact LeO.refl _)
   | (with_reducible exact LeO.none _)
   | (with_reducible refine LeO.ite ?_ ?_)
   | (with_reducible refine LeO.bind ?_ (fun _ => ?_))
   | exact ih0 _ _ _ _
   | exact LeO.none _
   | refine LeO.ite ?_ ?_
   | refine LeO.bind ?_ (fun _ => ?_)
set_option maxHeartbeats 8000000 in
set_option maxRecDepth 100000 in
theorem slices_Index_int_int.calls (k : Nat) (A0 : Option Addr) (c0 : Nat) (l0 : List Int) (a1 : Int) (r : Int) (w : World) (hr0 : Kd.C (Kd.int .i64) w A0 l0.length l0) (hc0 : l0.length ≤ c0) (h : slices_Index_int_int.f k l0 a1 = some r) :
  Calls Try.prog 74 #[.slice A0 l0.length c0, .int .i64 a1] w fun e w' => e = .returned (.int .i64 r) ∧ Drawn0 w w' := by
 have HR0 := a_ hr0
 have HC0 := a_ hc0
 clear hr0 hc0
 have H : (slices_Index_int_int.l0 k l0 a1 (l0.length : Int) 0) = some r := h
 clear h
 have H' := a_ H
 clear H
 go_enter Try.func74, Try.ntmps74
 go_wp2
 go_loopg [8] k (fun kq v8 w' => ∃ (x8_1 : Int), v8 = .int .i64 x8_1 ∧ Aside0 (slices_Index_int_int.l0 kq l0 a1 (l0.length : Int) x8_1 = some r) ∧ Aside0 (kq ≤ k) ∧ Drawn0 w w')
 case atStart => exact ⟨(0), (by first | rfl | (simp; done) | (simp [*]; done)), H', ⟨Nat.le_refl _⟩, by repeat (first | exact Drawn0.refl _ | apply Drawn0.step)⟩
 case round =>
  clear H'
  try clear p2
  obtain ⟨x8_1, rfl, HA, HK1, ⟨m1, rfl⟩⟩ := hrel
  cases gk with
  | zero => exact absurd HA.out (by simp [slices_Index_int_int.l0])
  | succ k1 =>
   have H := HA.out
   clear HA
   simp only [slices_Index_int_int.l0] at H
   by_cases c3 : x8_1 < (l0.length : Int)
   ·rw [if_pos c3] at H
    have c3b0 : decide (x8_1 < (l0.length : Int)) = true := decide_eq_true c3
    clear c3
    by_cases c4 : 0 ≤ x8_1
    ·rw [if_pos c4] at H
     have c4b0 : decide (0 ≤ x8_1) = true := decide_eq_true c4
     clear c4
     by_cases c5 : x8_1 < (l0.length : Int)
     ·rw [if_pos c5] at H
      have c5b0 : decide (x8_1 < (l0.length : Int)) = true := decide_eq_true c5
      clear c5
      by_cases c6 : a1 = (rd l0 x8_1)
      ·rw [if_pos c6] at H
       have c6b0 : (a1 == (rd l0 x8_1)) = true := beq_iff_eq.mpr c6
       have c6b1 : (a1 != (rd l0 x8_1)) = false := bne_eq_false_iff_eq.mpr c6
       clear c6
       obtain rfl := Option.some.inj H
       have p101 : 0 ≤ (x8_1 : Int) := od_
       have q101 : x8_1 < (l0.length : Int) := od_
       obtain ⟨ad101, e101, hx101_0⟩ := Kd.at_int HR0.out x8_1 p101 q101
       cases e101
       replace p101 := eq_true p101
       replace q101 := eq_true q101
       go_wp2
       go_ret
       exact ⟨by first | rfl | (simp; done) | (simp [*]; done), by repeat (first | exact Drawn0.refl _ | apply Drawn0.step)⟩
      ·rw [if_neg c6] at H
       have c6b0 : (a1 == (rd l0 x8_1)) = false := beq_eq_false_iff_ne.mpr c6
       have c6b1 : (a1 != (rd l0 x8_1)) = true := bne_iff_ne.mpr c6
       have H' := a_ H
       clear H
       have p101 : 0 ≤ (x8_1 : Int) := od_
       have q101 : x8_1 < (l0.length : Int) := od_
       obtain ⟨ad101, e101, hx101_0⟩ := Kd.at_int HR0.out x8_1 p101 q101
       cases e101
       replace p101 := eq_true p101
       replace q101 := eq_true q101
       go_wp2
       go_roundg k1
       case measure => have := HK1.out; omega
       case rel => exact ⟨(wrap64 (x8_1 + 1)), (by first | rfl | (simp; done) | (simp [*]; done)), H', ⟨by have := HK1.out; omega⟩, by repeat (first | exact Drawn0.refl _ | apply Drawn0.step)⟩
     ·rw [if_neg c5] at H
      exact absurd H (by simp)
    ·rw [if_neg c4] at H
     exact absurd H (by simp)
   ·rw [if_neg c3] at H
    have c3b0 : decide (x8_1 < (l0.length : Int)) = false := decide_eq_false c3
    clear c3
    obtain rfl := Option.some.inj H
    go_wp2
    go_ret
    exact ⟨by first | rfl | (simp; done) | (simp [*]; done), by repeat (first | exact Drawn0.refl _ | apply Drawn0.step)⟩
def slices_Contains_int_int.f (k : Nat) (l0 : List Int) (a1 : Int) : Option (Bool) := (slices_Index_int_int.f k l0 a1).bind fun t102 => (some (decide (t102 ≥ 0)))
theorem slices_Contains_int_int.mono : ∀ a0 a1 k, LeO (slices_Contains_int_int.f k a0 a1) (slices_Contains_int_int.f (k + 1) a0 a1) := by
 intro a0 a1 k
 unfold slices_Contains_int_int.f
 repeat' first
   | (with_reducible exact slices_Index_int_int.mono _ _ _)
   | (with_reducible exact LeO.refl _)
   | (with_reducible exact LeO.none _)
   | (with_reducible refine LeO.ite ?_ ?_)
   | (with_reducible refine LeO.bind ?_ (fun _ => ?_))
   | exact slices_Index_int_int.mono _ _ _
   | exact LeO.none _
   | refine LeO.ite ?_ ?_
   | refine LeO.bind ?_ (fun _ => ?_)
set_option maxHeartbeats 8000000 in
set_option maxRecDepth 100000 in
theorem slices_Contains_int_int.calls (k : Nat) (A0 : Option Addr) (c0 : Nat) (l0 : List Int) (a1 : Int) (r : Bool) (w : World) (hr0 : Kd.C (Kd.int .i64) w A0 l0.length l0) (hc0 : l0.length ≤ c0) (h : slices_Contains_int_int.f k l0 a1 = some r) :
  Calls Try.prog 55 #[.slice A0 l0.length c0, .int .i64 a1] w fun e w' => e = .returned (.bool r) ∧ Drawn0 w w' := by
 have HR0 := a_ hr0
 have HC0 := a_ hc0
 clear hr0 hc0
 have H : ((slices_Index_int_int.f k l0 a1).bind fun t102 => (some (decide (t102 ≥ 0)))) = some r := h
 clear h
 replace H := Option.bind_eq_some_iff.mp H
 obtain ⟨t102, A30, H⟩ := H
 replace H : (some (decide (t102 ≥ 0))) = some r := H
 have A3 := a_ A30
 clear A30
 obtain rfl := Option.some.inj H
 go_enter Try.func55, Try.ntmps55
 go_wp2_with (first | ((with_reducible refine gate_callee (f := 74) rfl ?_); refine gs_ (some 7) Try.func74 #[.slice A0 l0.length c0, .int .i64 a1] ?_; (with_reducible refine (slices_Index_int_int.calls k _ _ l0 a1 t102 _ ?side1 ?side2 A3.out).mono ?_); (case side1 => repeat (first | exact HR0.out | (with_reducible refine Kd.C_alloc ?_ _) | (with_reducible refine Kd.C_drewN ?_ _) | (with_reducible refine Kd.C_drew ?_))); (case side2 => exact HC0.out); rintro e w' ⟨rfl, ⟨nd, rfl⟩⟩; refine ⟨_, rfl, ?_⟩))
 go_ret
 exact ⟨by first | rfl | (simp; done) | (simp [*]; done), by repeat (first | exact Drawn0.refl _ | apply Drawn0.step)⟩
mutual
def inspect_items.l0 : Nat → List Int → List Int → Int → Int → Option (Int)
 | 0, _, _, _, _ => none
 | k + 1, x0, x5, x6, x7 => if x7 < x6 then (if 0 ≤ x7 then (if x7 < (x5.length : Int) then (if (rd x5 x7) < 1 then (inspect_items.j1 k x0 x7 (rd x5 x7) x5 x6 x7 true) else (inspect_items.j1 k x0 x7 (rd x5 x7) x5 x6 x7 (decide ((rd x5 x7) > 9999)))) else (none)) else (none)) else (some 0)
def inspect_items.j1 : Nat → List Int → Int → Int → List Int → Int → Int → Bool → Option (Int)
 | 0, _, _, _, _, _, _, _ => none
 | k + 1, x0, x3, x4, x5, x6, x7, x17 => if x17 = true then (some 2) else (if 0 ≤ x3 then (if x3 ≤ (x0.length : Int) then ((slices_Contains_int_int.f k (x0.take (x3 : Int).toNat) x4).bind fun t105 => (if t105 = true then (some 7) else (inspect_items.l0 k x0 x5 x6 (wrap64 (x7 + 1))))) else (none)) else (none))
end
def inspect_items.f (k : Nat) (l0 : List Int) : Option (Int) := inspect_items.l0 k l0 l0 (l0.length : Int) 0
theorem inspect_items.mono_l : ∀ k, (∀ y0 y1 y2 y3, LeO (inspect_items.l0 k y0 y1 y2 y3) (inspect_items.l0 (k + 1) y0 y1 y2 y3)) ∧ (∀ y0 y1 y2 y3 y4 y5 y6, LeO (inspect_items.j1 k y0 y1 y2 y3 y4 y5 y6) (inspect_items.j1 (k + 1) y0 y1 y2 y3 y4 y5 y6))
 | 0 => ⟨fun _ _ _ _ r h => by simp [inspect_items.l0] at h, fun _ _ _ _ _ _ _ r h => by simp [inspect_items.j1] at h⟩
 | k + 1 => by
  obtain ⟨ih0, ih1⟩ := inspect_items.mono_l k
  refine ⟨?_, ?_⟩
  ·intro y0 y1 y2 y3
   unfold inspect_items.l0
   repeat' first
   | (with_reducible exact ih0 _ _ _ _)
   | (with_reducible exact ih1 _ _ _ _ _ _ _)
   | (with_reducible exact slices_Contains_int_int.mono _ _ _)
   | (with_reducible exact LeO.refl _)
   | (with_reducible exact LeO.none _)
   | (with_reducible refine LeO.ite ?_ ?_)
   | (with_reducible refine LeO.bind ?_ (fun _ => ?_))
   | exact ih0 _ _ _ _
   | exact ih1 _ _ _ _ _ _ _
   | exact slices_Contains_int_int.mono _ _ _
   | exact LeO.none _
   | refine LeO.ite ?_ ?_
   | refine LeO.bind ?_ (fun _ => ?_)
  ·intro y0 y1 y2 y3 y4 y5 y6
   unfold inspect_items.j1
   repeat' first
   | (with_reducible exact ih0 _ _ _ _)
   | (with_reducible exact ih1 _ _ _ _ _ _ _)
   | (with_reducible exact slices_Contains_int_int.mono _ _ _)
   | (with_reducible exact LeO.refl _)
   | (with_reducible exact LeO.none _)
   | (with_reducible refine LeO.ite ?_ ?_)
   | (with_reducible refine LeO.bind ?_ (fun _ => ?_))
   | exact ih0 _ _ _ _
   | exact ih1 _ _ _ _ _ _ _
   | exact slices_Contains_int_int.mono _ _ _
   | exact LeO.none _
   | refine LeO.ite ?_ ?_
   | refine LeO.bind ?_ (fun _ => ?_)
theorem inspect_items.mono : ∀ a0 k, LeO (inspect_items.f k a0) (inspect_items.f (k + 1) a0) := by
 intro a0 k
 obtain ⟨ih0, ih1⟩ := inspect_items.mono_l k
 unfold inspect_items.f
 repeat' first
   | (with_reducible exact ih0 _ _ _ _)
   | (with_reducible exact ih1 _ _ _ _ _ _ _)
   | (with_reducible exact slices_Contains_int_int.mono _ _ _)
   | (with_reducible exact LeO.refl _)
   | (with_reducible exact LeO.none _)
   | (with_reducible refine LeO.ite ?_ ?_)
   | (with_reducible refine LeO.bind ?_ (fun _ => ?_))
   | exact ih0 _ _ _ _
   | exact ih1 _ _ _ _ _ _ _
   | exact slices_Contains_int_int.mono _ _ _
   | exact LeO.none _
   | refine LeO.ite ?_ ?_
   | refine LeO.bind ?_ (fun _ => ?_)
set_option maxHeartbeats 8000000 in
set_option maxRecDepth 100000 in
theorem inspect_items.calls (k : Nat) (A0 : Option Addr) (c0 : Nat) (l0 : List Int) (r : Int) (w : World) (hr0 : Kd.C (Kd.int .i64) w A0 l0.length l0) (hc0 : l0.length ≤ c0) (h : inspect_items.f k l0 = some r) :
  Calls Try.prog 54 #[.slice A0 l0.length c0] w fun e w' => e = .returned (.int .i64 r) ∧ Drawn0 w w' := by
 have HR0 := a_ hr0
 have HC0 := a_ hc0
 clear hr0 hc0
 have H : (inspect_items.l0 k l0 l0 (l0.length : Int) 0) = some r := h
 clear h
 have H' := a_ H
 clear H
 go_enter Try.func54, Try.ntmps54
 go_wp2
 go_loopg [7] k (fun kq v7 w' => ∃ (x7_1 : Int), v7 = .int .i64 x7_1 ∧ Aside0 (inspect_items.l0 kq l0 l0 (l0.length : Int) x7_1 = some r) ∧ Aside0 (kq ≤ k) ∧ Drawn0 w w')
 case atStart => exact ⟨(0), (by first | rfl | (simp; done) | (simp [*]; done)), H', ⟨Nat.le_refl _⟩, by repeat (first | exact Drawn0.refl _ | apply Drawn0.step)⟩
 case round =>
  clear H'
  obtain ⟨x7_1, rfl, HA, HK1, ⟨m1, rfl⟩⟩ := hrel
  cases gk with
  | zero => exact absurd HA.out (by simp [inspect_items.l0])
  | succ k1 =>
   have H := HA.out
   clear HA
   simp only [inspect_items.l0] at H
   by_cases c2 : x7_1 < (l0.length : Int)
   ·rw [if_pos c2] at H
    have c2b0 : decide (x7_1 < (l0.length : Int)) = true := decide_eq_true c2
    clear c2
    by_cases c3 : 0 ≤ x7_1
    ·rw [if_pos c3] at H
     have c3b0 : decide (0 ≤ x7_1) = true := decide_eq_true c3
     clear c3
     by_cases c4 : x7_1 < (l0.length : Int)
     ·rw [if_pos c4] at H
      have c4b0 : decide (x7_1 < (l0.length : Int)) = true := decide_eq_true c4
      clear c4
      have HC5 := a_ H
      clear H
      have p103 : 0 ≤ (x7_1 : Int) := od_
      have q103 : x7_1 < (l0.length : Int) := od_
      obtain ⟨ad103, e103, hx103_0⟩ := Kd.at_int HR0.out x7_1 p103 q103
      cases e103
      replace p103 := eq_true p103
      replace q103 := eq_true q103
      go_upto_region 4 with (fail)
      go_cut [17] (fun v17 wc => ∃ (kq : Nat) (x17_4 : Bool), v17 = .bool x17_4 ∧ Aside0 (inspect_items.j1 kq l0 x7_1 (rd l0 x7_1) l0 (l0.length : Int) x7_1 x17_4 = some r) ∧ Aside0 (kq ≤ k1) ∧ Drawn0 w wc)
      case first =>
       have H := HC5.out
       clear HC5
       by_cases c6 : (rd l0 x7_1) < 1
       ·rw [if_pos c6] at H
        have c6b0 : decide ((rd l0 x7_1) < 1) = true := decide_eq_true c6
        clear c6
        (first | rw [c6b0] | (simp only [i64_w, i32_w]; rw [c6b0]) | skip)
        have H' := a_ H
        clear H
        go_wp2
        go_meet
        case rel => exact ⟨_, (true), (by first | rfl | (simp; done) | (simp [*]; done)), H', ⟨by have := HK1.out; first | omega | exact Nat.le_refl _⟩, by repeat (first | exact Drawn0.refl _ | apply Drawn0.step)⟩
       ·rw [if_neg c6] at H
        have c6b0 : decide ((rd l0 x7_1) < 1) = false := decide_eq_false c6
        clear c6
        (first | rw [c6b0] | (simp only [i64_w, i32_w]; rw [c6b0]) | skip)
        have H' := a_ H
        clear H
        go_wp2
        go_meet
        case rel => exact ⟨_, (decide ((rd l0 x7_1) > 9999)), (by first | rfl | (simp; done) | (simp [*]; done)), H', ⟨by have := HK1.out; first | omega | exact Nat.le_refl _⟩, by repeat (first | exact Drawn0.refl _ | apply Drawn0.step)⟩
      case rest =>
       clear HC5
       try clear p1
       try clear q1
       try clear hx1
       try clear c2
       try clear c2b0
       try clear p2
       try clear c3
       try clear c3b0
       try clear c4
       try clear c4b0
       try clear c5
       try clear c6
       try clear c6b0
       try clear hx103_0
       try clear p103
       try clear q103
       obtain ⟨kq, x17_4, rfl, HA, HJ4, ⟨mc4, rfl⟩⟩ := hcut
       cases kq with
       | zero => exact absurd HA.out (by simp [inspect_items.j1])
       | succ kj4 =>
        have H := HA.out
        clear HA
        simp only [inspect_items.j1] at H
        by_cases c7 : x17_4 = true
        ·subst c7
         have H1 : (some 2) = some r := by rw [if_pos rfl] at H; exact H
         clear H
         have H := H1
         clear H1
         obtain rfl := Option.some.inj H
         go_wp2
         go_ret
         exact ⟨by first | rfl | (simp; done) | (simp [*]; done), by repeat (first | exact Drawn0.refl _ | apply Drawn0.step)⟩
        ·replace c7 := Bool.eq_false_iff.mpr c7
         subst c7
         have H1 : (if 0 ≤ x7_1 then (if x7_1 ≤ (l0.length : Int) then ((slices_Contains_int_int.f kj4 (l0.take (x7_1 : Int).toNat) (rd l0 x7_1)).bind fun t105 => (if t105 = true then (some 7) else (inspect_items.l0 kj4 l0 l0 (l0.length : Int) (wrap64 (x7_1 + 1))))) else (none)) else (none)) = some r := by rw [if_neg (show ¬ (false = true) by decide)] at H; exact H
         clear H
         have H := H1
         clear H1
         by_cases c8 : 0 ≤ x7_1
         ·rw [if_pos c8] at H
          have c8b0 := eq_true c8
          have c8b1 : decide (0 ≤ x7_1) = true := decide_eq_true c8
          clear c8
          by_cases c9 : x7_1 ≤ (l0.length : Int)
          ·rw [if_pos c9] at H
           have c9b0 := eq_true c9
           have c9b1 : decide (x7_1 ≤ (l0.length : Int)) = true := decide_eq_true c9
           clear c9
           replace H := Option.bind_eq_some_iff.mp H
           obtain ⟨t105, A100, H⟩ := H
           replace H : (if t105 = true then (some 7) else (inspect_items.l0 kj4 l0 l0 (l0.length : Int) (wrap64 (x7_1 + 1)))) = some r := H
           have A10 := a_ A100
           clear A100
           by_cases c11 : t105 = true
           ·subst c11
            have H1 : (some 7) = some r := by rw [if_pos rfl] at H; exact H
            clear H
            have H := H1
            clear H1
            obtain rfl := Option.some.inj H
            obtain ⟨i012, hi012, _, hsz12, _⟩ := info_parts info3
            obtain ⟨hcut12, hA12, hC12⟩ := print_take_of (P := Try.prog) (Value.int .i64) 0 22 3 .i64 Try.underlying22 hi012 hsz12 (some ad103) c0 l0 x7_1 (od_) (od_) HC0.out
            have HR104 := a_ (Kd.C_of_reads (h1 := fun _ => rfl) (hA12 _ (Kd.reads_of_C HR0.out)))
            have HC104 := a_ hC12
            clear hA12 hC12 hi012 hsz12
            go_wp2_with (first | ((with_reducible refine gate_callee (f := 55) rfl ?_); refine goesL_ (some 22) rfl rfl Try.func55 (by kernel_rfl) rfl #[.slice (some ad103) (l0.take (x7_1 : Int).toNat).length c0, .int .i64 (rd l0 x7_1)] rfl (by (try simp only [List.map_toArray, List.map_cons, List.map_nil]); first | done | (rw [show (l0.take (x7_1 : Int).toNat).length = x7_1.toNat from (by rw [List.length_take]; have h_ : (x7_1 : Int) ≤ (l0.length : Int) := od_; omega)] <;> rfl) | rfl | (simp only [List.length_drop, List.length_take]; rfl)) ?_; (with_reducible refine (slices_Contains_int_int.calls kj4 _ _ (l0.take (x7_1 : Int).toNat) (rd l0 x7_1) true _ ?side1 ?side2 A10.out).mono ?_); (case side1 => repeat (first | exact HR104.out | (with_reducible refine Kd.C_alloc ?_ _) | (with_reducible refine Kd.C_drewN ?_ _) | (with_reducible refine Kd.C_drew ?_))); (case side2 => exact HC104.out); rintro e w' ⟨rfl, ⟨nd, rfl⟩⟩; refine ⟨_, rfl, ?_⟩))
            go_ret
            exact ⟨by first | rfl | (simp; done) | (simp [*]; done), by repeat (first | exact Drawn0.refl _ | apply Drawn0.step)⟩
           ·replace c11 := Bool.eq_false_iff.mpr c11
            subst c11
            have H1 : (inspect_items.l0 kj4 l0 l0 (l0.length : Int) (wrap64 (x7_1 + 1))) = some r := by rw [if_neg (show ¬ (false = true) by decide)] at H; exact H
            clear H
            have H := H1
            clear H1
            have H' := a_ H
            clear H
            obtain ⟨i013, hi013, _, hsz13, _⟩ := info_parts info3
            obtain ⟨hcut13, hA13, hC13⟩ := print_take_of (P := Try.prog) (Value.int .i64) 0 22 3 .i64 Try.underlying22 hi013 hsz13 (some ad103) c0 l0 x7_1 (od_) (od_) HC0.out
            have HR104 := a_ (Kd.C_of_reads (h1 := fun _ => rfl) (hA13 _ (Kd.reads_of_C HR0.out)))
            have HC104 := a_ hC13
            clear hA13 hC13 hi013 hsz13
            go_wp2_with (first | ((with_reducible refine gate_callee (f := 55) rfl ?_); refine goesL_ (some 22) rfl rfl Try.func55 (by kernel_rfl) rfl #[.slice (some ad103) (l0.take (x7_1 : Int).toNat).length c0, .int .i64 (rd l0 x7_1)] rfl (by (try simp only [List.map_toArray, List.map_cons, List.map_nil]); first | done | (rw [show (l0.take (x7_1 : Int).toNat).length = x7_1.toNat from (by rw [List.length_take]; have h_ : (x7_1 : Int) ≤ (l0.length : Int) := od_; omega)] <;> rfl) | rfl | (simp only [List.length_drop, List.length_take]; rfl)) ?_; (with_reducible refine (slices_Contains_int_int.calls kj4 _ _ (l0.take (x7_1 : Int).toNat) (rd l0 x7_1) false _ ?side1 ?side2 A10.out).mono ?_); (case side1 => repeat (first | exact HR104.out | (with_reducible refine Kd.C_alloc ?_ _) | (with_reducible refine Kd.C_drewN ?_ _) | (with_reducible refine Kd.C_drew ?_))); (case side2 => exact HC104.out); rintro e w' ⟨rfl, ⟨nd, rfl⟩⟩; refine ⟨_, rfl, ?_⟩))
            go_roundg kj4
            case measure => have := HK1.out; have := HJ4.out; omega
            case rel => exact ⟨(wrap64 (x7_1 + 1)), (by first | rfl | (simp; done) | (simp [*]; done)), H', ⟨by have := HK1.out; have := HJ4.out; omega⟩, by repeat (first | exact Drawn0.refl _ | apply Drawn0.step)⟩
          ·rw [if_neg c9] at H
           exact absurd H (by simp)
         ·rw [if_neg c8] at H
          exact absurd H (by simp)
     ·rw [if_neg c4] at H
      exact absurd H (by simp)
    ·rw [if_neg c3] at H
     exact absurd H (by simp)
   ·rw [if_neg c2] at H
    have c2b0 : decide (x7_1 < (l0.length : Int)) = false := decide_eq_false c2
    clear c2
    obtain rfl := Option.some.inj H
    go_wp2
    go_ret
    exact ⟨by first | rfl | (simp; done) | (simp [*]; done), by repeat (first | exact Drawn0.refl _ | apply Drawn0.step)⟩
def patrol_within.f (a0 : Int) (a1 : Int) (a2 : Int) : Option (Bool) := if a0 ≥ a1 then (some (decide (a0 ≤ a2))) else (some false)
set_option maxHeartbeats 8000000 in
set_option maxRecDepth 100000 in
theorem patrol_within.calls (a0 : Int) (a1 : Int) (a2 : Int) (r : Bool) (w : World) (h : patrol_within.f a0 a1 a2 = some r) :
  Calls Try.prog 65 #[.int .i64 a0, .int .i64 a1, .int .i64 a2] w fun e w' => e = .returned (.bool r) ∧ Drawn0 w w' := by
 have H : (if a0 ≥ a1 then (some (decide (a0 ≤ a2))) else (some false)) = some r := h
 clear h
 by_cases c4 : a0 ≥ a1
 ·rw [if_pos c4] at H
  have c4b0 : decide (a1 ≤ a0) = true := decide_eq_true c4
  clear c4
  obtain rfl := Option.some.inj H
  go_enter Try.func65, Try.ntmps65
  go_wp2
  go_ret
  exact ⟨by first | rfl | (simp; done) | (simp [*]; done), by repeat (first | exact Drawn0.refl _ | apply Drawn0.step)⟩
 ·rw [if_neg c4] at H
  have c4b0 : decide (a1 ≤ a0) = false := decide_eq_false c4
  clear c4
  obtain rfl := Option.some.inj H
  go_enter Try.func65, Try.ntmps65
  go_wp2
  go_ret
  exact ⟨by first | rfl | (simp; done) | (simp [*]; done), by repeat (first | exact Drawn0.refl _ | apply Drawn0.step)⟩
def patrol_hazard.f (l0 : List S56) (a1 : Int) : Option Int := some (idxFrom (fun h : S56 => decide (h.f0 = a1)) l0 0)
set_option maxHeartbeats 800000 in
theorem patrol_hazard.calls (A0 : Option Addr) (c0 : Nat) (l0 : List S56) (a1 : Int) (r : Int) (w : World) (hr0 : Kd.C k56 w A0 l0.length l0) (hc0 : l0.length ≤ c0) (h : patrol_hazard.f l0 a1 = some r) :
  Calls Try.prog 66 #[.slice A0 l0.length c0, .int .i64 a1] w fun e w' => e = .returned (.int .i64 r) ∧ Below w.heap.size w w' := by
 have hmf : ∀ (fn : Fn) (first cap : Array Value) (w : World), (Instr.makeFunc fn first cap).run Try.prog w = .ok (.func fn first cap) w := fun _ _ _ _ => rfl
 have HR := a_ hr0
 have HC := a_ hc0
 have HE := a_ (Option.some.inj h)
 clear hr0 hc0 h
 have HB := a_ (Below.refl w.heap.size w)
 go_enter Try.func66, Try.ntmps66
 go_wp2_with (first | ((with_reducible refine gate_dst (N := 3) rfl ?_); refine box_event ?hg (N := 3) ?hd (cs := #[.int .i64 a1]) (t := 3) ?hr ?_; (case hd => rfl); (case hg => rfl); (case hr => first | (go_simp; done) | (go_simp; rfl)); intro gb hg w_gb hbox hb; have n0_ := a_ (below_step bel_ hb); have n1_ := a_ (hbox); have n2_ := a_ ((by rw [hg]; exact (below_size bel_) : w.heap.size ≤ gb)); clear HB; have HB := n0_; have BKgb := n1_; have GEgb := n2_; clear n0_ n1_ n2_; clear hb hbox hg; have hczgb_0 : w_gb.cell? ⟨gb, 0, none⟩ = some (.int .i64 a1) := (blk_cell BKgb.out 0).trans rfl; have hfzgb_0 := blk_frozen BKgb.out 0) | (go_at_call 77; (with_reducible refine (idx56_78 gb (fun h : S56 => decide (h.f0 = a1)) A0 c0 l0 _ ?s1 HC.out ?s2).mono ?_); (case s1 => exact Kd.C_below HR.out HB.out); (case s2 => exact fun W x b hbW hpx => haz78_calls x gb a1 b W (pw_cell_below hbW ((blk_cell BKgb.out 0).trans rfl)) hpx); rintro e w' ⟨rfl, hb⟩; rw [HE.out]))
 go_ret
 exact ⟨rfl, below_step HB.out hb⟩
def patrol_list.f (l0 : List S63) (a1 : Int) : Option Int := some (idxFrom (fun h : S63 => decide (h.f0 = a1)) l0 0)
set_option maxHeartbeats 800000 in
theorem patrol_list.calls (A0 : Option Addr) (c0 : Nat) (l0 : List S63) (a1 : Int) (r : Int) (w : World) (hr0 : Kd.C k63 w A0 l0.length l0) (hc0 : l0.length ≤ c0) (h : patrol_list.f l0 a1 = some r) :
  Calls Try.prog 67 #[.slice A0 l0.length c0, .int .i64 a1] w fun e w' => e = .returned (.int .i64 r) ∧ Below w.heap.size w w' := by
 have hmf : ∀ (fn : Fn) (first cap : Array Value) (w : World), (Instr.makeFunc fn first cap).run Try.prog w = .ok (.func fn first cap) w := fun _ _ _ _ => rfl
 have HR := a_ hr0
 have HC := a_ hc0
 have HE := a_ (Option.some.inj h)
 clear hr0 hc0 h
 have HB := a_ (Below.refl w.heap.size w)
 go_enter Try.func67, Try.ntmps67
 go_wp2_with (first | ((with_reducible refine gate_dst (N := 3) rfl ?_); refine box_event ?hg (N := 3) ?hd (cs := #[.int .i64 a1]) (t := 3) ?hr ?_; (case hd => rfl); (case hg => rfl); (case hr => first | (go_simp; done) | (go_simp; rfl)); intro gb hg w_gb hbox hb; have n0_ := a_ (below_step bel_ hb); have n1_ := a_ (hbox); have n2_ := a_ ((by rw [hg]; exact (below_size bel_) : w.heap.size ≤ gb)); clear HB; have HB := n0_; have BKgb := n1_; have GEgb := n2_; clear n0_ n1_ n2_; clear hb hbox hg; have hczgb_0 : w_gb.cell? ⟨gb, 0, none⟩ = some (.int .i64 a1) := (blk_cell BKgb.out 0).trans rfl; have hfzgb_0 := blk_frozen BKgb.out 0) | (go_at_call 79; (with_reducible refine (idx63_80 gb (fun h : S63 => decide (h.f0 = a1)) A0 c0 l0 _ ?s1 HC.out ?s2).mono ?_); (case s1 => exact Kd.C_below HR.out HB.out); (case s2 => exact fun W x A1 c1 A3 c3 b hbW hpx => lst80_calls x A1 c1 A3 c3 gb a1 b W (pw_cell_below hbW ((blk_cell BKgb.out 0).trans rfl)) hpx); rintro e w' ⟨rfl, hb⟩; rw [HE.out]))
 go_ret
 exact ⟨rfl, below_step HB.out hb⟩
def slices_Clone_int_int.f (l0 : List Int) : Option (List Int) := if l0.length < 17592186044416 then some l0 else none
set_option maxRecDepth 100000 in
set_option maxHeartbeats 800000 in
theorem slices_Clone_int_int.calls (A0 : Option Addr) (c0 : Nat) (l0 : List Int) (r : List Int) (w : World) (hr0 : Kd.C (Kd.int .i64) w A0 l0.length l0) (hc0 : l0.length ≤ c0) (h : slices_Clone_int_int.f l0 = some r) :
  Calls Try.prog 58 #[.slice A0 l0.length c0] w fun e w' => ∃ v0_ : Value, e = .returned (v0_) ∧ Kd.R (Kd.int .i64) 3 w' w.heap.size (fun _ => True) v0_ r ∧ Below w.heap.size w w' := by
 unfold slices_Clone_int_int.f at h
 by_cases hl : l0.length < 17592186044416
 ·rw [if_pos hl] at h
  obtain rfl := Option.some.inj h
  have heq := fun (W : World) => Lib.run_eql_slice_nil (P := Try.prog) W 22 3 A0 l0.length c0 0 0 Try.underlying22
  have HR := a_ hr0
  have HC := a_ hc0
  have HL := a_ hl
  have HB := a_ (Below.refl w.heap.size w)
  clear h hl
  rcases A0 with _ | ad
  ·have e0 : l0 = [] := by
    rcases Nat.eq_zero_or_pos l0.length with h0 | h0
    ·exact List.eq_nil_of_length_eq_zero h0
    ·obtain ⟨ad, e, _⟩ := hr0.2.2 h0; cases e
   have E0 := a_ e0
   clear e0 hr0 hc0
   go_enter Try.func58, Try.ntmps58
   go_wp2
   go_ret
   exact ⟨_, rfl, by rw [E0.out]; exact Kd.R_nil _ _ _ _ _, Below.refl _ _⟩
  ·clear hr0 hc0
   go_enter Try.func58, Try.ntmps58
   go_wp2_with (first | ((with_reducible refine gate_dst (N := 5) rfl ?_); refine Kd.R_lit (Kd.int .i64) (w0 := w) w.heap.size 3 rfl (N := 5) rfl (xs := []) (inner := []) (ok := fun _ => True) (okp := fun _ => True) ?hr (Reps.none _ _) (fun _ hk => hk) trivial HB.out (below_size HB.out) (by simp) ?_; (case hr => first | (go_simp; done) | (go_simp; rfl)); intro v5 w5 ho hb hg hat; have HO := a_ ho; have HB2 := a_ hb; clear HB ho hb hg hat; have HB := HB2; clear HB2) | ((with_reducible refine gate_builtin (b := .append) (xs := #[.tmp 5, .tmp 6]) rfl ?_); at_builtin; refine Kd.R_append_rows (Kd.int .i64) (w0 := w) w.heap.size rfl (.tmp 5) (.tmp 6) 22 3 (.int .i64 0) 8 rfl Try.underlying22 info3 rfl (by decide) (by omega) v5 [] l0 _ _ _ (fun _ => True) (fun _ => False) rfl rfl ?aO ?aR (fun _ _ h => h) (fun _ h => h.elim) ?aF ?aB ?aS ?aL ?_; (case aR => exact Kd.C_below HR.out HB.out); (case aB => exact HB.out); (case aF => exact (fun _ _ => trivial)); (case aO => exact HO.out); (case aS => exact (below_size HB.out)); (case aL => have := HL.out; simp; omega); intro v7 w7 ho hb hg hat; have HO7 := a_ ho; have HB2 := a_ hb; clear HB HO ho hb hg hat; have HB := HB2; clear HB2))
   go_ret
   exact ⟨_, rfl, HO7.out, HB.out⟩
 ·rw [if_neg hl] at h; exact absurd h (by simp)
def api_Hazard_82.f (l0 : List S56) : Option (List S56) := if l0.length < 5864062014805 then some l0 else none
set_option maxRecDepth 100000 in
set_option maxHeartbeats 800000 in
theorem api_Hazard_82.calls (A0 : Option Addr) (c0 : Nat) (l0 : List S56) (r : List S56) (w : World) (hr0 : Kd.C k56 w A0 l0.length l0) (hc0 : l0.length ≤ c0) (h : api_Hazard_82.f l0 = some r) :
  Calls Try.prog 82 #[.slice A0 l0.length c0] w fun e w' => ∃ v0_ : Value, e = .returned (v0_) ∧ Kd.R k56 56 w' w.heap.size (fun _ => True) v0_ r ∧ Below w.heap.size w w' := by
 unfold api_Hazard_82.f at h
 by_cases hl : l0.length < 5864062014805
 ·rw [if_pos hl] at h
  obtain rfl := Option.some.inj h
  have heq := fun (W : World) => Lib.run_eql_slice_nil (P := Try.prog) W 46 56 A0 l0.length c0 0 0 Try.underlying46
  have HR := a_ hr0
  have HC := a_ hc0
  have HL := a_ hl
  have HB := a_ (Below.refl w.heap.size w)
  clear h hl
  rcases A0 with _ | ad
  ·have e0 : l0 = [] := by
    rcases Nat.eq_zero_or_pos l0.length with h0 | h0
    ·exact List.eq_nil_of_length_eq_zero h0
    ·obtain ⟨ad, e, _⟩ := hr0.2.2 h0; cases e
   have E0 := a_ e0
   clear e0 hr0 hc0
   go_enter Try.func82, Try.ntmps82
   go_wp2
   go_ret
   exact ⟨_, rfl, by rw [E0.out]; exact Kd.R_nil _ _ _ _ _, Below.refl _ _⟩
  ·clear hr0 hc0
   go_enter Try.func82, Try.ntmps82
   go_wp2_with (first | ((with_reducible refine gate_dst (N := 5) rfl ?_); refine Kd.R_lit k56 (w0 := w) w.heap.size 56 rfl (N := 5) rfl (xs := []) (inner := []) (ok := fun _ => True) (okp := fun _ => True) ?hr (Reps.none _ _) (fun _ hk => hk) trivial HB.out (below_size HB.out) (by simp) ?_; (case hr => first | (go_simp; done) | (go_simp; rfl)); intro v5 w5 ho hb hg hat; have HO := a_ ho; have HB2 := a_ hb; clear HB ho hb hg hat; have HB := HB2; clear HB2) | ((with_reducible refine gate_builtin (b := .append) (xs := #[.tmp 5, .tmp 6]) rfl ?_); at_builtin; refine Kd.R_append_rows k56 (w0 := w) w.heap.size rfl (.tmp 5) (.tmp 6) 46 56 (.agg #[(.int .i64 0), (.int .i64 0), (.int .i64 0)]) 24 rfl Try.underlying46 info56 rfl (by decide) (by omega) v5 [] l0 _ _ _ (fun _ => True) (fun _ => False) rfl rfl ?aO ?aR (fun _ _ h => h) (fun _ h => h.elim) ?aF ?aB ?aS ?aL ?_; (case aR => exact Kd.C_below HR.out HB.out); (case aB => exact HB.out); (case aF => exact (fun _ _ => trivial)); (case aO => exact HO.out); (case aS => exact (below_size HB.out)); (case aL => have := HL.out; simp; omega); intro v7 w7 ho hb hg hat; have HO7 := a_ ho; have HB2 := a_ hb; clear HB HO ho hb hg hat; have HB := HB2; clear HB2))
   go_ret
   exact ⟨_, rfl, HO7.out, HB.out⟩
 ·rw [if_neg hl] at h; exact absurd h (by simp)
def api_Sign_83.f (l0 : List S35) : Option (List S35) := if l0.length < 5864062014805 then some l0 else none
set_option maxRecDepth 100000 in
set_option maxHeartbeats 800000 in
theorem api_Sign_83.calls (A0 : Option Addr) (c0 : Nat) (l0 : List S35) (r : List S35) (w : World) (hr0 : Kd.C k35 w A0 l0.length l0) (hc0 : l0.length ≤ c0) (h : api_Sign_83.f l0 = some r) :
  Calls Try.prog 83 #[.slice A0 l0.length c0] w fun e w' => ∃ v0_ : Value, e = .returned (v0_) ∧ Kd.R k35 35 w' w.heap.size (fun _ => True) v0_ r ∧ Below w.heap.size w w' := by
 unfold api_Sign_83.f at h
 by_cases hl : l0.length < 5864062014805
 ·rw [if_pos hl] at h
  obtain rfl := Option.some.inj h
  have heq := fun (W : World) => Lib.run_eql_slice_nil (P := Try.prog) W 23 35 A0 l0.length c0 0 0 Try.underlying23
  have HR := a_ hr0
  have HC := a_ hc0
  have HL := a_ hl
  have HB := a_ (Below.refl w.heap.size w)
  clear h hl
  rcases A0 with _ | ad
  ·have e0 : l0 = [] := by
    rcases Nat.eq_zero_or_pos l0.length with h0 | h0
    ·exact List.eq_nil_of_length_eq_zero h0
    ·obtain ⟨ad, e, _⟩ := hr0.2.2 h0; cases e
   have E0 := a_ e0
   clear e0 hr0 hc0
   go_enter Try.func83, Try.ntmps83
   go_wp2
   go_ret
   exact ⟨_, rfl, by rw [E0.out]; exact Kd.R_nil _ _ _ _ _, Below.refl _ _⟩
  ·clear hr0 hc0
   go_enter Try.func83, Try.ntmps83
   go_wp2_with (first | ((with_reducible refine gate_dst (N := 5) rfl ?_); refine Kd.R_lit k35 (w0 := w) w.heap.size 35 rfl (N := 5) rfl (xs := []) (inner := []) (ok := fun _ => True) (okp := fun _ => True) ?hr (Reps.none _ _) (fun _ hk => hk) trivial HB.out (below_size HB.out) (by simp) ?_; (case hr => first | (go_simp; done) | (go_simp; rfl)); intro v5 w5 ho hb hg hat; have HO := a_ ho; have HB2 := a_ hb; clear HB ho hb hg hat; have HB := HB2; clear HB2) | ((with_reducible refine gate_builtin (b := .append) (xs := #[.tmp 5, .tmp 6]) rfl ?_); at_builtin; refine Kd.R_append_rows k35 (w0 := w) w.heap.size rfl (.tmp 5) (.tmp 6) 23 35 (.agg #[(.int .i64 0), (.int .i64 0), (.int .i64 0)]) 24 rfl Try.underlying23 info35 rfl (by decide) (by omega) v5 [] l0 _ _ _ (fun _ => True) (fun _ => False) rfl rfl ?aO ?aR (fun _ _ h => h) (fun _ h => h.elim) ?aF ?aB ?aS ?aL ?_; (case aR => exact Kd.C_below HR.out HB.out); (case aB => exact HB.out); (case aF => exact (fun _ _ => trivial)); (case aO => exact HO.out); (case aS => exact (below_size HB.out)); (case aL => have := HL.out; simp; omega); intro v7 w7 ho hb hg hat; have HO7 := a_ ho; have HB2 := a_ hb; clear HB HO ho hb hg hat; have HB := HB2; clear HB2))
   go_ret
   exact ⟨_, rfl, HO7.out, HB.out⟩
 ·rw [if_neg hl] at h; exact absurd h (by simp)
end Go.Proofs.Ytmhggplhfcmgkaa.Q
