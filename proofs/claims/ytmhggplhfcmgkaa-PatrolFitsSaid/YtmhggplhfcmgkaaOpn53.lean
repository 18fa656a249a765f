/- Plain laws and readings for the seat's proofs (this session's). -/
import Derived.RangeFuncNested
import Derived.Shelf.Abstract
import Derived.Deep.Slices
import Derived.ProofKit
import Derived.OpenShut
import Derived.ChangeOld
import Derived.Lib.SmallJoins
import Derived.WalkSpells
import Derived.Test.YtmhggplhfcmgkaaOpn
namespace Go.Proofs.Ytmhggplhfcmgkaa.Q
open Go.RowKit Go.Proofs.YtmhggplhfcmgkaaW.PrintWords Go.Proofs.YtmhggplhfcmgkaaW.PrintLast Go.Proofs.YtmhggplhfcmgkaaW.PrintMore
set_option linter.unusedVariables false
set_option linter.unusedSimpArgs false
def WLists (l : List S63) : Prop := l.length ≤ maxLen ∧ ∀ x ∈ l, W64 x.f0 ∧ WInts x.f1.f0 ∧ W64 x.f1.f1 ∧ WSigns x.f1.f2
def WHaz (l : List S56) : Prop := l.length ≤ maxLen ∧ ∀ x ∈ l, W64 x.f0 ∧ W64 x.f1 ∧ W64 x.f2
theorem opnLists : Opn Try.prog (Kd.slice 63 k63) 45 WLists := opn_slice z63 Try.underlying45 (by kernel_rfl) opn63
theorem opnHaz : Opn Try.prog (Kd.slice 56 k56) 46 WHaz := opn_slice z56 Try.underlying46 (by kernel_rfl) opn56
end Go.Proofs.Ytmhggplhfcmgkaa.Q
