/-
  No cell of these rows narrows 'for every input' (looked for: loops, veiled, ifaces, maps, wideKeys, modest, calm, conditions, laid).
  DERIVED. THE GIVEN ROWS OF THIS SEAT. 15 by the template 'for every input the law returns true; each argument reads behind the call as it read before'; 0 by the template 'total and deterministic' (their statements: YtmhggplhfcmgkaaTotals.lean).
  GIVEN WITH THE SEED: the statements are not yours to turn. If you find one false, say at which input.
  Laid BY PROGRAM, IN A SANDBOX (cutbox-rows.mjs): the forced cells as the released guide's own fill.sh prints them over the translation 7cc578b4ca7efa02… (all of the seat's roots in one cut). By AI agents, Wed Nov 11 2026. No macro, syntax, notation, axiom, sorry.
-/
import Derived.Test.YtmhggplhfcmgkaaChecked
import GoSem.Claim
import GoSem.ClaimJoined
import GoSem.ClaimMapViews
import Derived.JoinedTies
import Derived.KernelRfl
namespace Go.Proofs.Ytmhggplhfcmgkaa
/- THE CELL 'sum', in the pinned program and in every row, IS THE sha256 OF THE DUMP (.gsa) THAT YtmhggplhfcmgkaaProg.lean LOADS. Nothing in Lean hashes anything: it is a label: what it is worth is what the hold of that sum in a sandbox is worth. -/
noncomputable def Try.pinned : Pinned := { name := "ytmhggplhfcmgkaa", sum := "7cc578b4ca7efa0298a2ad4b6f9f5d236369915c1192a48cb47b89c5b852d48e", checked := Try.checked }
namespace Rows
def none {H : Type} : Left H := { results := [], args := [] }

/-- 'skiarealaw19.InspectChecks': WHATEVER THE INPUT: true; the input reads as it did. -/
def inspectChecksSpec : ChangeSpec := { name := "inspectChecks", fn := fun _ => fun
  | [d] => { results := [.lit (.bool true)], args := [d] }
  | _ => none }
def inspectChecksRow : OpenClaim := { program := "ytmhggplhfcmgkaa", sum := "7cc578b4ca7efa0298a2ad4b6f9f5d236369915c1192a48cb47b89c5b852d48e", func := "skiarea/skiarealaw19.InspectChecks", spec := "inspectChecks", unfollowed := true, recurses := true, apart := false }
def InspectChecksSaid : Prop := inspectChecksRow.holds Try.pinned (OpenSpec.ofChange inspectChecksSpec)

/-- ITS FALSE NEIGHBOUR: 'it returns false'. Refute it at one input. -/
def inspectChecksWrong : ChangeSpec := { name := "inspectChecks", fn := fun _ => fun
  | [d] => { results := [.lit (.bool false)], args := [d] }
  | _ => none }
def InspectChecksWrongFalsely : Prop := inspectChecksRow.holds Try.pinned (OpenSpec.ofChange inspectChecksWrong)

/-- 'skiarealaw19.InspectSigns': WHATEVER THE INPUT: true; the input reads as it did. -/
def inspectSignsSpec : ChangeSpec := { name := "inspectSigns", fn := fun _ => fun
  | [d1, d2, d3, d4] => { results := [.lit (.bool true)], args := [d1, d2, d3, d4] }
  | _ => none }
def inspectSignsRow : OpenClaim := { program := "ytmhggplhfcmgkaa", sum := "7cc578b4ca7efa0298a2ad4b6f9f5d236369915c1192a48cb47b89c5b852d48e", func := "skiarea/skiarealaw19.InspectSigns", spec := "inspectSigns", unfollowed := true, recurses := true, apart := false }
def InspectSignsSaid : Prop := inspectSignsRow.holds Try.pinned (OpenSpec.ofChange inspectSignsSpec)

/-- ITS FALSE NEIGHBOUR: 'it returns false'. Refute it at one input. -/
def inspectSignsWrong : ChangeSpec := { name := "inspectSigns", fn := fun _ => fun
  | [d1, d2, d3, d4] => { results := [.lit (.bool false)], args := [d1, d2, d3, d4] }
  | _ => none }
def InspectSignsWrongFalsely : Prop := inspectSignsRow.holds Try.pinned (OpenSpec.ofChange inspectSignsWrong)

/-- 'skiarealaw19.InspectLast': WHATEVER THE INPUT: true; the input reads as it did. -/
def inspectLastSpec : ChangeSpec := { name := "inspectLast", fn := fun _ => fun
  | [d1, d2, d3] => { results := [.lit (.bool true)], args := [d1, d2, d3] }
  | _ => none }
def inspectLastRow : OpenClaim := { program := "ytmhggplhfcmgkaa", sum := "7cc578b4ca7efa0298a2ad4b6f9f5d236369915c1192a48cb47b89c5b852d48e", func := "skiarea/skiarealaw19.InspectLast", spec := "inspectLast", unfollowed := true, recurses := true, apart := false }
def InspectLastSaid : Prop := inspectLastRow.holds Try.pinned (OpenSpec.ofChange inspectLastSpec)

/-- ITS FALSE NEIGHBOUR: 'it returns false'. Refute it at one input. -/
def inspectLastWrong : ChangeSpec := { name := "inspectLast", fn := fun _ => fun
  | [d1, d2, d3] => { results := [.lit (.bool false)], args := [d1, d2, d3] }
  | _ => none }
def InspectLastWrongFalsely : Prop := inspectLastRow.holds Try.pinned (OpenSpec.ofChange inspectLastWrong)

/-- 'skiarealaw19.InspectOpen': WHATEVER THE INPUT: true; the input reads as it did. -/
def inspectOpenSpec : ChangeSpec := { name := "inspectOpen", fn := fun _ => fun
  | [d1, d2] => { results := [.lit (.bool true)], args := [d1, d2] }
  | _ => none }
def inspectOpenRow : OpenClaim := { program := "ytmhggplhfcmgkaa", sum := "7cc578b4ca7efa0298a2ad4b6f9f5d236369915c1192a48cb47b89c5b852d48e", func := "skiarea/skiarealaw19.InspectOpen", spec := "inspectOpen", unfollowed := true, recurses := true, apart := false }
def InspectOpenSaid : Prop := inspectOpenRow.holds Try.pinned (OpenSpec.ofChange inspectOpenSpec)

/-- ITS FALSE NEIGHBOUR: 'it returns false'. Refute it at one input. -/
def inspectOpenWrong : ChangeSpec := { name := "inspectOpen", fn := fun _ => fun
  | [d1, d2] => { results := [.lit (.bool false)], args := [d1, d2] }
  | _ => none }
def InspectOpenWrongFalsely : Prop := inspectOpenRow.holds Try.pinned (OpenSpec.ofChange inspectOpenWrong)

/-- 'skiarealaw19.InspectUntils': WHATEVER THE INPUT: true; the input reads as it did. -/
def inspectUntilsSpec : ChangeSpec := { name := "inspectUntils", fn := fun _ => fun
  | [d1, d2] => { results := [.lit (.bool true)], args := [d1, d2] }
  | _ => none }
def inspectUntilsRow : OpenClaim := { program := "ytmhggplhfcmgkaa", sum := "7cc578b4ca7efa0298a2ad4b6f9f5d236369915c1192a48cb47b89c5b852d48e", func := "skiarea/skiarealaw19.InspectUntils", spec := "inspectUntils", unfollowed := true, recurses := true, apart := false }
def InspectUntilsSaid : Prop := inspectUntilsRow.holds Try.pinned (OpenSpec.ofChange inspectUntilsSpec)

/-- ITS FALSE NEIGHBOUR: 'it returns false'. Refute it at one input. -/
def inspectUntilsWrong : ChangeSpec := { name := "inspectUntils", fn := fun _ => fun
  | [d1, d2] => { results := [.lit (.bool false)], args := [d1, d2] }
  | _ => none }
def InspectUntilsWrongFalsely : Prop := inspectUntilsRow.holds Try.pinned (OpenSpec.ofChange inspectUntilsWrong)

/-- 'skiarealaw19.InspectUntil': WHATEVER THE INPUT: true; the input reads as it did. -/
def inspectUntilSpec : ChangeSpec := { name := "inspectUntil", fn := fun _ => fun
  | [d1, d2, d3] => { results := [.lit (.bool true)], args := [d1, d2, d3] }
  | _ => none }
def inspectUntilRow : OpenClaim := { program := "ytmhggplhfcmgkaa", sum := "7cc578b4ca7efa0298a2ad4b6f9f5d236369915c1192a48cb47b89c5b852d48e", func := "skiarea/skiarealaw19.InspectUntil", spec := "inspectUntil", unfollowed := true, recurses := true, apart := false }
def InspectUntilSaid : Prop := inspectUntilRow.holds Try.pinned (OpenSpec.ofChange inspectUntilSpec)

/-- ITS FALSE NEIGHBOUR: 'it returns false'. Refute it at one input. -/
def inspectUntilWrong : ChangeSpec := { name := "inspectUntil", fn := fun _ => fun
  | [d1, d2, d3] => { results := [.lit (.bool false)], args := [d1, d2, d3] }
  | _ => none }
def InspectUntilWrongFalsely : Prop := inspectUntilRow.holds Try.pinned (OpenSpec.ofChange inspectUntilWrong)

/-- 'skiarealaw19.InspectSigned': WHATEVER THE INPUT: true; the input reads as it did. -/
def inspectSignedSpec : ChangeSpec := { name := "inspectSigned", fn := fun _ => fun
  | [d1, d2, d3, d4, d5] => { results := [.lit (.bool true)], args := [d1, d2, d3, d4, d5] }
  | _ => none }
def inspectSignedRow : OpenClaim := { program := "ytmhggplhfcmgkaa", sum := "7cc578b4ca7efa0298a2ad4b6f9f5d236369915c1192a48cb47b89c5b852d48e", func := "skiarea/skiarealaw19.InspectSigned", spec := "inspectSigned", unfollowed := true, recurses := true, apart := false }
def InspectSignedSaid : Prop := inspectSignedRow.holds Try.pinned (OpenSpec.ofChange inspectSignedSpec)

/-- ITS FALSE NEIGHBOUR: 'it returns false'. Refute it at one input. -/
def inspectSignedWrong : ChangeSpec := { name := "inspectSigned", fn := fun _ => fun
  | [d1, d2, d3, d4, d5] => { results := [.lit (.bool false)], args := [d1, d2, d3, d4, d5] }
  | _ => none }
def InspectSignedWrongFalsely : Prop := inspectSignedRow.holds Try.pinned (OpenSpec.ofChange inspectSignedWrong)

/-- 'skiarealaw19.InspectAll': WHATEVER THE INPUT: true; the input reads as it did. -/
def inspectAllSpec : ChangeSpec := { name := "inspectAll", fn := fun _ => fun
  | [d1, d2, d3] => { results := [.lit (.bool true)], args := [d1, d2, d3] }
  | _ => none }
def inspectAllRow : OpenClaim := { program := "ytmhggplhfcmgkaa", sum := "7cc578b4ca7efa0298a2ad4b6f9f5d236369915c1192a48cb47b89c5b852d48e", func := "skiarea/skiarealaw19.InspectAll", spec := "inspectAll", unfollowed := true, recurses := true, apart := false }
def InspectAllSaid : Prop := inspectAllRow.holds Try.pinned (OpenSpec.ofChange inspectAllSpec)

/-- ITS FALSE NEIGHBOUR: 'it returns false'. Refute it at one input. -/
def inspectAllWrong : ChangeSpec := { name := "inspectAll", fn := fun _ => fun
  | [d1, d2, d3] => { results := [.lit (.bool false)], args := [d1, d2, d3] }
  | _ => none }
def InspectAllWrongFalsely : Prop := inspectAllRow.holds Try.pinned (OpenSpec.ofChange inspectAllWrong)

/-- 'skiarealaw53.PatrolRight': WHATEVER THE INPUT: true; the input reads as it did. -/
def patrolRightSpec : ChangeSpec := { name := "patrolRight", fn := fun _ => fun
  | [d] => { results := [.lit (.bool true)], args := [d] }
  | _ => none }
def patrolRightRow : OpenClaim := { program := "ytmhggplhfcmgkaa", sum := "7cc578b4ca7efa0298a2ad4b6f9f5d236369915c1192a48cb47b89c5b852d48e", func := "skiarea/skiarealaw53.PatrolRight", spec := "patrolRight", unfollowed := true, recurses := true, apart := false }
def PatrolRightSaid : Prop := patrolRightRow.holds Try.pinned (OpenSpec.ofChange patrolRightSpec)

/-- ITS FALSE NEIGHBOUR: 'it returns false'. Refute it at one input. -/
def patrolRightWrong : ChangeSpec := { name := "patrolRight", fn := fun _ => fun
  | [d] => { results := [.lit (.bool false)], args := [d] }
  | _ => none }
def PatrolRightWrongFalsely : Prop := patrolRightRow.holds Try.pinned (OpenSpec.ofChange patrolRightWrong)

/-- 'skiarealaw53.PatrolSigns': WHATEVER THE INPUT: true; the input reads as it did. -/
def patrolSignsSpec : ChangeSpec := { name := "patrolSigns", fn := fun _ => fun
  | [d1, d2, d3] => { results := [.lit (.bool true)], args := [d1, d2, d3] }
  | _ => none }
def patrolSignsRow : OpenClaim := { program := "ytmhggplhfcmgkaa", sum := "7cc578b4ca7efa0298a2ad4b6f9f5d236369915c1192a48cb47b89c5b852d48e", func := "skiarea/skiarealaw53.PatrolSigns", spec := "patrolSigns", unfollowed := true, recurses := true, apart := false }
def PatrolSignsSaid : Prop := patrolSignsRow.holds Try.pinned (OpenSpec.ofChange patrolSignsSpec)

/-- ITS FALSE NEIGHBOUR: 'it returns false'. Refute it at one input. -/
def patrolSignsWrong : ChangeSpec := { name := "patrolSigns", fn := fun _ => fun
  | [d1, d2, d3] => { results := [.lit (.bool false)], args := [d1, d2, d3] }
  | _ => none }
def PatrolSignsWrongFalsely : Prop := patrolSignsRow.holds Try.pinned (OpenSpec.ofChange patrolSignsWrong)

/-- 'skiarealaw53.PatrolReports': WHATEVER THE INPUT: true; the input reads as it did. -/
def patrolReportsSpec : ChangeSpec := { name := "patrolReports", fn := fun _ => fun
  | [d1, d2, d3] => { results := [.lit (.bool true)], args := [d1, d2, d3] }
  | _ => none }
def patrolReportsRow : OpenClaim := { program := "ytmhggplhfcmgkaa", sum := "7cc578b4ca7efa0298a2ad4b6f9f5d236369915c1192a48cb47b89c5b852d48e", func := "skiarea/skiarealaw53.PatrolReports", spec := "patrolReports", unfollowed := true, recurses := true, apart := false }
def PatrolReportsSaid : Prop := patrolReportsRow.holds Try.pinned (OpenSpec.ofChange patrolReportsSpec)

/-- ITS FALSE NEIGHBOUR: 'it returns false'. Refute it at one input. -/
def patrolReportsWrong : ChangeSpec := { name := "patrolReports", fn := fun _ => fun
  | [d1, d2, d3] => { results := [.lit (.bool false)], args := [d1, d2, d3] }
  | _ => none }
def PatrolReportsWrongFalsely : Prop := patrolReportsRow.holds Try.pinned (OpenSpec.ofChange patrolReportsWrong)

/-- 'skiarealaw53.PatrolFits': WHATEVER THE INPUT: true; the input reads as it did. -/
def patrolFitsSpec : ChangeSpec := { name := "patrolFits", fn := fun _ => fun
  | [d1, d2, d3] => { results := [.lit (.bool true)], args := [d1, d2, d3] }
  | _ => none }
def patrolFitsRow : OpenClaim := { program := "ytmhggplhfcmgkaa", sum := "7cc578b4ca7efa0298a2ad4b6f9f5d236369915c1192a48cb47b89c5b852d48e", func := "skiarea/skiarealaw53.PatrolFits", spec := "patrolFits", unfollowed := true, recurses := true, apart := false }
def PatrolFitsSaid : Prop := patrolFitsRow.holds Try.pinned (OpenSpec.ofChange patrolFitsSpec)

/-- ITS FALSE NEIGHBOUR: 'it returns false'. Refute it at one input. -/
def patrolFitsWrong : ChangeSpec := { name := "patrolFits", fn := fun _ => fun
  | [d1, d2, d3] => { results := [.lit (.bool false)], args := [d1, d2, d3] }
  | _ => none }
def PatrolFitsWrongFalsely : Prop := patrolFitsRow.holds Try.pinned (OpenSpec.ofChange patrolFitsWrong)

/-- 'skiarealaw53.PatrolReady': WHATEVER THE INPUT: true; the input reads as it did. -/
def patrolReadySpec : ChangeSpec := { name := "patrolReady", fn := fun _ => fun
  | [d1, d2, d3] => { results := [.lit (.bool true)], args := [d1, d2, d3] }
  | _ => none }
def patrolReadyRow : OpenClaim := { program := "ytmhggplhfcmgkaa", sum := "7cc578b4ca7efa0298a2ad4b6f9f5d236369915c1192a48cb47b89c5b852d48e", func := "skiarea/skiarealaw53.PatrolReady", spec := "patrolReady", unfollowed := true, recurses := true, apart := false }
def PatrolReadySaid : Prop := patrolReadyRow.holds Try.pinned (OpenSpec.ofChange patrolReadySpec)

/-- ITS FALSE NEIGHBOUR: 'it returns false'. Refute it at one input. -/
def patrolReadyWrong : ChangeSpec := { name := "patrolReady", fn := fun _ => fun
  | [d1, d2, d3] => { results := [.lit (.bool false)], args := [d1, d2, d3] }
  | _ => none }
def PatrolReadyWrongFalsely : Prop := patrolReadyRow.holds Try.pinned (OpenSpec.ofChange patrolReadyWrong)

/-- 'skiarealaw53.PatrolHazards': WHATEVER THE INPUT: true; the input reads as it did. -/
def patrolHazardsSpec : ChangeSpec := { name := "patrolHazards", fn := fun _ => fun
  | [d1, d2, d3, d4] => { results := [.lit (.bool true)], args := [d1, d2, d3, d4] }
  | _ => none }
def patrolHazardsRow : OpenClaim := { program := "ytmhggplhfcmgkaa", sum := "7cc578b4ca7efa0298a2ad4b6f9f5d236369915c1192a48cb47b89c5b852d48e", func := "skiarea/skiarealaw53.PatrolHazards", spec := "patrolHazards", unfollowed := true, recurses := true, apart := false }
def PatrolHazardsSaid : Prop := patrolHazardsRow.holds Try.pinned (OpenSpec.ofChange patrolHazardsSpec)

/-- ITS FALSE NEIGHBOUR: 'it returns false'. Refute it at one input. -/
def patrolHazardsWrong : ChangeSpec := { name := "patrolHazards", fn := fun _ => fun
  | [d1, d2, d3, d4] => { results := [.lit (.bool false)], args := [d1, d2, d3, d4] }
  | _ => none }
def PatrolHazardsWrongFalsely : Prop := patrolHazardsRow.holds Try.pinned (OpenSpec.ofChange patrolHazardsWrong)

/-- 'skiarealaw53.PatrolKeeps': WHATEVER THE INPUT: true; the input reads as it did. -/
def patrolKeepsSpec : ChangeSpec := { name := "patrolKeeps", fn := fun _ => fun
  | [d1, d2, d3, d4, d5] => { results := [.lit (.bool true)], args := [d1, d2, d3, d4, d5] }
  | _ => none }
def patrolKeepsRow : OpenClaim := { program := "ytmhggplhfcmgkaa", sum := "7cc578b4ca7efa0298a2ad4b6f9f5d236369915c1192a48cb47b89c5b852d48e", func := "skiarea/skiarealaw53.PatrolKeeps", spec := "patrolKeeps", unfollowed := true, recurses := true, apart := false }
def PatrolKeepsSaid : Prop := patrolKeepsRow.holds Try.pinned (OpenSpec.ofChange patrolKeepsSpec)

/-- ITS FALSE NEIGHBOUR: 'it returns false'. Refute it at one input. -/
def patrolKeepsWrong : ChangeSpec := { name := "patrolKeeps", fn := fun _ => fun
  | [d1, d2, d3, d4, d5] => { results := [.lit (.bool false)], args := [d1, d2, d3, d4, d5] }
  | _ => none }
def PatrolKeepsWrongFalsely : Prop := patrolKeepsRow.holds Try.pinned (OpenSpec.ofChange patrolKeepsWrong)

/- THE SECOND FORM. 'bulk': how many values and letters a reading holds, each counted each time it is reached (what is shared counts as often as it is met; a slice's spare places count too). A statement '..UptoSaid' is the law's where the arguments, and the package variables that the reading takes, are together of bulk at most 1048576: NARROWER than '..Said'. Prove '..Said' where nothing that the law and all that it calls make is longer than what came in: it says more and counts as full. Else prove '..UptoSaid'. A law counts once. -/
mutual
def uptoBulk {H : Type} : DataW H → Nat
  | .lit (.string bytes) => bytes.length + 1
  | .lit _ => 1
  | .nil => 1
  | .ptr d => uptoBulk d + 1
  | .slice elems spare => uptoBulkAll elems + uptoBulkAll spare + 1
  | .agg parts => uptoBulkAll parts + 1
  | .iface _ d => uptoBulk d + 1
  | .map entries => uptoBulkEntries entries + 1
  | .held _ => 1
def uptoBulkAll {H : Type} : List (DataW H) → Nat
  | [] => 0
  | d :: r => uptoBulk d + uptoBulkAll r
def uptoBulkEntries {H : Type} : List (Lit × DataW H) → Nat
  | [] => 0
  | x :: r => uptoBulkEntry x + uptoBulkEntries r
def uptoBulkEntry {H : Type} : Lit × DataW H → Nat
  | (.string bytes, d) => bytes.length + uptoBulk d + 1
  | (_, d) => uptoBulk d + 1
 end
def uptoSmall : (H : Type) → List (DataW H) → Bool := fun _ ds => decide (uptoBulkAll ds ≤ 1048576)
def OpenSpec.upto (s : _root_.Go.ChangeSpec) : _root_.Go.OpenSpec := { _root_.Go.OpenSpec.ofChange s with cond := some uptoSmall }

/-- 'skiarealaw19.InspectChecks', WHERE WHAT IT READS IS OF BULK AT MOST 1048576: true; the input reads as it did. -/
def inspectChecksUptoRow : OpenClaim := { program := "ytmhggplhfcmgkaa", sum := "7cc578b4ca7efa0298a2ad4b6f9f5d236369915c1192a48cb47b89c5b852d48e", func := "skiarea/skiarealaw19.InspectChecks", spec := "inspectChecks", unfollowed := true, recurses := true, apart := false, narrowed := true }
def InspectChecksUptoSaid : Prop := inspectChecksUptoRow.holds Try.pinned (OpenSpec.upto inspectChecksSpec)

/-- 'skiarealaw19.InspectSigns', WHERE WHAT IT READS IS OF BULK AT MOST 1048576: true; the input reads as it did. -/
def inspectSignsUptoRow : OpenClaim := { program := "ytmhggplhfcmgkaa", sum := "7cc578b4ca7efa0298a2ad4b6f9f5d236369915c1192a48cb47b89c5b852d48e", func := "skiarea/skiarealaw19.InspectSigns", spec := "inspectSigns", unfollowed := true, recurses := true, apart := false, narrowed := true }
def InspectSignsUptoSaid : Prop := inspectSignsUptoRow.holds Try.pinned (OpenSpec.upto inspectSignsSpec)

/-- 'skiarealaw19.InspectLast', WHERE WHAT IT READS IS OF BULK AT MOST 1048576: true; the input reads as it did. -/
def inspectLastUptoRow : OpenClaim := { program := "ytmhggplhfcmgkaa", sum := "7cc578b4ca7efa0298a2ad4b6f9f5d236369915c1192a48cb47b89c5b852d48e", func := "skiarea/skiarealaw19.InspectLast", spec := "inspectLast", unfollowed := true, recurses := true, apart := false, narrowed := true }
def InspectLastUptoSaid : Prop := inspectLastUptoRow.holds Try.pinned (OpenSpec.upto inspectLastSpec)

/-- 'skiarealaw19.InspectOpen', WHERE WHAT IT READS IS OF BULK AT MOST 1048576: true; the input reads as it did. -/
def inspectOpenUptoRow : OpenClaim := { program := "ytmhggplhfcmgkaa", sum := "7cc578b4ca7efa0298a2ad4b6f9f5d236369915c1192a48cb47b89c5b852d48e", func := "skiarea/skiarealaw19.InspectOpen", spec := "inspectOpen", unfollowed := true, recurses := true, apart := false, narrowed := true }
def InspectOpenUptoSaid : Prop := inspectOpenUptoRow.holds Try.pinned (OpenSpec.upto inspectOpenSpec)

/-- 'skiarealaw19.InspectUntils', WHERE WHAT IT READS IS OF BULK AT MOST 1048576: true; the input reads as it did. -/
def inspectUntilsUptoRow : OpenClaim := { program := "ytmhggplhfcmgkaa", sum := "7cc578b4ca7efa0298a2ad4b6f9f5d236369915c1192a48cb47b89c5b852d48e", func := "skiarea/skiarealaw19.InspectUntils", spec := "inspectUntils", unfollowed := true, recurses := true, apart := false, narrowed := true }
def InspectUntilsUptoSaid : Prop := inspectUntilsUptoRow.holds Try.pinned (OpenSpec.upto inspectUntilsSpec)

/-- 'skiarealaw19.InspectUntil', WHERE WHAT IT READS IS OF BULK AT MOST 1048576: true; the input reads as it did. -/
def inspectUntilUptoRow : OpenClaim := { program := "ytmhggplhfcmgkaa", sum := "7cc578b4ca7efa0298a2ad4b6f9f5d236369915c1192a48cb47b89c5b852d48e", func := "skiarea/skiarealaw19.InspectUntil", spec := "inspectUntil", unfollowed := true, recurses := true, apart := false, narrowed := true }
def InspectUntilUptoSaid : Prop := inspectUntilUptoRow.holds Try.pinned (OpenSpec.upto inspectUntilSpec)

/-- 'skiarealaw19.InspectSigned', WHERE WHAT IT READS IS OF BULK AT MOST 1048576: true; the input reads as it did. -/
def inspectSignedUptoRow : OpenClaim := { program := "ytmhggplhfcmgkaa", sum := "7cc578b4ca7efa0298a2ad4b6f9f5d236369915c1192a48cb47b89c5b852d48e", func := "skiarea/skiarealaw19.InspectSigned", spec := "inspectSigned", unfollowed := true, recurses := true, apart := false, narrowed := true }
def InspectSignedUptoSaid : Prop := inspectSignedUptoRow.holds Try.pinned (OpenSpec.upto inspectSignedSpec)

/-- 'skiarealaw19.InspectAll', WHERE WHAT IT READS IS OF BULK AT MOST 1048576: true; the input reads as it did. -/
def inspectAllUptoRow : OpenClaim := { program := "ytmhggplhfcmgkaa", sum := "7cc578b4ca7efa0298a2ad4b6f9f5d236369915c1192a48cb47b89c5b852d48e", func := "skiarea/skiarealaw19.InspectAll", spec := "inspectAll", unfollowed := true, recurses := true, apart := false, narrowed := true }
def InspectAllUptoSaid : Prop := inspectAllUptoRow.holds Try.pinned (OpenSpec.upto inspectAllSpec)

/-- 'skiarealaw53.PatrolRight', WHERE WHAT IT READS IS OF BULK AT MOST 1048576: true; the input reads as it did. -/
def patrolRightUptoRow : OpenClaim := { program := "ytmhggplhfcmgkaa", sum := "7cc578b4ca7efa0298a2ad4b6f9f5d236369915c1192a48cb47b89c5b852d48e", func := "skiarea/skiarealaw53.PatrolRight", spec := "patrolRight", unfollowed := true, recurses := true, apart := false, narrowed := true }
def PatrolRightUptoSaid : Prop := patrolRightUptoRow.holds Try.pinned (OpenSpec.upto patrolRightSpec)

/-- 'skiarealaw53.PatrolSigns', WHERE WHAT IT READS IS OF BULK AT MOST 1048576: true; the input reads as it did. -/
def patrolSignsUptoRow : OpenClaim := { program := "ytmhggplhfcmgkaa", sum := "7cc578b4ca7efa0298a2ad4b6f9f5d236369915c1192a48cb47b89c5b852d48e", func := "skiarea/skiarealaw53.PatrolSigns", spec := "patrolSigns", unfollowed := true, recurses := true, apart := false, narrowed := true }
def PatrolSignsUptoSaid : Prop := patrolSignsUptoRow.holds Try.pinned (OpenSpec.upto patrolSignsSpec)

/-- 'skiarealaw53.PatrolReports', WHERE WHAT IT READS IS OF BULK AT MOST 1048576: true; the input reads as it did. -/
def patrolReportsUptoRow : OpenClaim := { program := "ytmhggplhfcmgkaa", sum := "7cc578b4ca7efa0298a2ad4b6f9f5d236369915c1192a48cb47b89c5b852d48e", func := "skiarea/skiarealaw53.PatrolReports", spec := "patrolReports", unfollowed := true, recurses := true, apart := false, narrowed := true }
def PatrolReportsUptoSaid : Prop := patrolReportsUptoRow.holds Try.pinned (OpenSpec.upto patrolReportsSpec)

/-- 'skiarealaw53.PatrolFits', WHERE WHAT IT READS IS OF BULK AT MOST 1048576: true; the input reads as it did. -/
def patrolFitsUptoRow : OpenClaim := { program := "ytmhggplhfcmgkaa", sum := "7cc578b4ca7efa0298a2ad4b6f9f5d236369915c1192a48cb47b89c5b852d48e", func := "skiarea/skiarealaw53.PatrolFits", spec := "patrolFits", unfollowed := true, recurses := true, apart := false, narrowed := true }
def PatrolFitsUptoSaid : Prop := patrolFitsUptoRow.holds Try.pinned (OpenSpec.upto patrolFitsSpec)

/-- 'skiarealaw53.PatrolReady', WHERE WHAT IT READS IS OF BULK AT MOST 1048576: true; the input reads as it did. -/
def patrolReadyUptoRow : OpenClaim := { program := "ytmhggplhfcmgkaa", sum := "7cc578b4ca7efa0298a2ad4b6f9f5d236369915c1192a48cb47b89c5b852d48e", func := "skiarea/skiarealaw53.PatrolReady", spec := "patrolReady", unfollowed := true, recurses := true, apart := false, narrowed := true }
def PatrolReadyUptoSaid : Prop := patrolReadyUptoRow.holds Try.pinned (OpenSpec.upto patrolReadySpec)

/-- 'skiarealaw53.PatrolHazards', WHERE WHAT IT READS IS OF BULK AT MOST 1048576: true; the input reads as it did. -/
def patrolHazardsUptoRow : OpenClaim := { program := "ytmhggplhfcmgkaa", sum := "7cc578b4ca7efa0298a2ad4b6f9f5d236369915c1192a48cb47b89c5b852d48e", func := "skiarea/skiarealaw53.PatrolHazards", spec := "patrolHazards", unfollowed := true, recurses := true, apart := false, narrowed := true }
def PatrolHazardsUptoSaid : Prop := patrolHazardsUptoRow.holds Try.pinned (OpenSpec.upto patrolHazardsSpec)

/-- 'skiarealaw53.PatrolKeeps', WHERE WHAT IT READS IS OF BULK AT MOST 1048576: true; the input reads as it did. -/
def patrolKeepsUptoRow : OpenClaim := { program := "ytmhggplhfcmgkaa", sum := "7cc578b4ca7efa0298a2ad4b6f9f5d236369915c1192a48cb47b89c5b852d48e", func := "skiarea/skiarealaw53.PatrolKeeps", spec := "patrolKeeps", unfollowed := true, recurses := true, apart := false, narrowed := true }
def PatrolKeepsUptoSaid : Prop := patrolKeepsUptoRow.holds Try.pinned (OpenSpec.upto patrolKeepsSpec)

end Rows
end Go.Proofs.Ytmhggplhfcmgkaa
