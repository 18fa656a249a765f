/- Plain laws and readings for the seat's proofs (this session's). -/
import Derived.RangeFuncNested
import Derived.Shelf.Abstract
import Derived.Deep.Slices
import Derived.ProofKit
import Derived.OpenShut
import Derived.ChangeOld
import Derived.Lib.SmallJoins
import Derived.WalkSpells
import Derived.Test.YtmhggplhfcmgkaaR53
import Derived.Test.YtmhggplhfcmgkaaQ49
namespace Go.Proofs.Ytmhggplhfcmgkaa.Q
open Go.RowKit Go.Proofs.YtmhggplhfcmgkaaW.PrintWords Go.Proofs.YtmhggplhfcmgkaaW.PrintLast Go.Proofs.YtmhggplhfcmgkaaW.PrintMore
set_option linter.unusedVariables false
set_option linter.unusedSimpArgs false
theorem copied_some {ls : List S63} {hs : List S56} (h1 : ls.length ≤ 70) (h2 : hs.length ≤ 210) (h3 : ∀ x ∈ ls, Fit63 x) : patrol_copied.f ls hs = some (ls, hs) := by
  rw [patrol_copied.f, if_pos ⟨by omega, by omega, fun x hx => ⟨by have := (h3 x hx).1; omega, by have := (h3 x hx).2; omega⟩⟩]
end Go.Proofs.Ytmhggplhfcmgkaa.Q
