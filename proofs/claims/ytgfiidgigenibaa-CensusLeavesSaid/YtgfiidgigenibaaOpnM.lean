/- Plain laws and readings for the seat's proofs (this session's). -/
import Derived.RangeFuncNested
import Derived.Shelf.Abstract
import Derived.Deep.Slices
import Derived.ProofKit
import Derived.OpenShut
import Derived.ChangeOld
import Derived.Lib.SmallJoins
import Derived.WalkSpells
import Derived.Test.YtgfiidgigenibaaOpn
namespace Go.Proofs.Ytgfiidgigenibaa.Q
open Go.RowKit Go.Proofs.YtgfiidgigenibaaW.PrintWords Go.Proofs.YtgfiidgigenibaaW.PrintLast Go.Proofs.YtgfiidgigenibaaW.PrintMore
set_option linter.unusedVariables false
set_option linter.unusedSimpArgs false
/-! ### What came in: maps -/
def W2 (x : S62) : Prop := W64 x.f0 ∧ W64 x.f1
def W7 (x : S44) : Prop := W64 x.f0 ∧ W64 x.f1 ∧ W64 x.f2 ∧ W64 x.f3 ∧ W64 x.f4 ∧ W64 x.f5 ∧ W64 x.f6
def W8 (x : S82) : Prop := W64 x.f0 ∧ W64 x.f1 ∧ W64 x.f2 ∧ W64 x.f3 ∧ W64 x.f4 ∧ W64 x.f5 ∧ W64 x.f6 ∧ W64 x.f7
theorem opn62 : Opn Try.prog k62 62 W2 :=
  opn_struct (fs := _) Try.underlying62 (by kernel_rfl) (opn_cons rfl (by kernel_rfl) (opn_int Try.underlying3) (opn_one rfl (by kernel_rfl) (opn_int Try.underlying3))) (fun x : S62 => (x.f0, x.f1)) (fun p => ⟨p.1, p.2⟩) (fun _ => rfl)
theorem opn44 : Opn Try.prog k44 44 W7 :=
  opn_struct (fs := _) Try.underlying44 (by kernel_rfl) (opn_cons rfl (by kernel_rfl) (opn_int Try.underlying3) (opn_cons rfl (by kernel_rfl) (opn_int Try.underlying3) (opn_cons rfl (by kernel_rfl) (opn_int Try.underlying3) (opn_cons rfl (by kernel_rfl) (opn_int Try.underlying3) (opn_cons rfl (by kernel_rfl) (opn_int Try.underlying3) (opn_cons rfl (by kernel_rfl) (opn_int Try.underlying3) (opn_one rfl (by kernel_rfl) (opn_int Try.underlying3)))))))) (fun x : S44 => (x.f0, x.f1, x.f2, x.f3, x.f4, x.f5, x.f6)) (fun p => ⟨p.1, p.2.1, p.2.2.1, p.2.2.2.1, p.2.2.2.2.1, p.2.2.2.2.2.1, p.2.2.2.2.2.2⟩) (fun _ => rfl)
theorem opn82 : Opn Try.prog k82 82 W8 :=
  opn_struct (fs := _) Try.underlying82 (by kernel_rfl) (opn_cons rfl (by kernel_rfl) (opn_int Try.underlying3) (opn_cons rfl (by kernel_rfl) (opn_int Try.underlying3) (opn_cons rfl (by kernel_rfl) (opn_int Try.underlying3) (opn_cons rfl (by kernel_rfl) (opn_int Try.underlying3) (opn_cons rfl (by kernel_rfl) (opn_int Try.underlying3) (opn_cons rfl (by kernel_rfl) (opn_int Try.underlying3) (opn_cons rfl (by kernel_rfl) (opn_int Try.underlying3) (opn_one rfl (by kernel_rfl) (opn_int Try.underlying3))))))))) (fun x : S82 => (x.f0, x.f1, x.f2, x.f3, x.f4, x.f5, x.f6, x.f7)) (fun p => ⟨p.1, p.2.1, p.2.2.1, p.2.2.2.1, p.2.2.2.2.1, p.2.2.2.2.2.1, p.2.2.2.2.2.2.1, p.2.2.2.2.2.2.2⟩) (fun _ => rfl)
def WNodes (l : List S62) : Prop := l.length ≤ maxLen ∧ ∀ x ∈ l, W2 x
def WRuns (l : List S44) : Prop := l.length ≤ maxLen ∧ ∀ x ∈ l, W7 x
def WLifts (l : List S82) : Prop := l.length ≤ maxLen ∧ ∀ x ∈ l, W8 x
def WInts (l : List Int) : Prop := l.length ≤ maxLen ∧ ∀ x ∈ l, W64 x
theorem opnNodes : Opn Try.prog (Kd.slice 62 k62) 33 WNodes := opn_slice z62 Try.underlying33 (by kernel_rfl) opn62
theorem opnLifts : Opn Try.prog (Kd.slice 82 k82) 34 WLifts := opn_slice z82 Try.underlying34 (by kernel_rfl) opn82
theorem opnRuns : Opn Try.prog (Kd.slice 44 k44) 35 WRuns := opn_slice z44 Try.underlying35 (by kernel_rfl) opn44
theorem opnInts : Opn Try.prog (Kd.slice 3 (Kd.int .i64)) 36 WInts := opn_slice 0 Try.underlying36 (by kernel_rfl) (opn_int Try.underlying3)
end Go.Proofs.Ytgfiidgigenibaa.Q
