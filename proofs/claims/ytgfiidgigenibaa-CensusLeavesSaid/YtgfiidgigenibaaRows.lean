/-
  No cell of these rows narrows 'for every input' (looked for: loops, veiled, ifaces, maps, wideKeys, modest, calm, conditions, laid).
  DERIVED. THE GIVEN ROWS OF THIS SEAT. 6 by the template 'for every input the law returns true; each argument reads behind the call as it read before'; 0 by the template 'total and deterministic' (their statements: YtgfiidgigenibaaTotals.lean).
  GIVEN WITH THE SEED: the statements are not yours to turn. If you find one false, say at which input.
  Laid BY PROGRAM, IN A SANDBOX (cutbox-rows.mjs): the forced cells as the released guide's own fill.sh prints them over the translation 348a9e940273b2c4… (all of the seat's roots in one cut). By AI agents, Wed Nov 11 2026. No macro, syntax, notation, axiom, sorry.
-/
import Derived.Test.YtgfiidgigenibaaChecked
import GoSem.Claim
import GoSem.ClaimJoined
import GoSem.ClaimMapViews
import Derived.JoinedTies
import Derived.KernelRfl
namespace Go.Proofs.Ytgfiidgigenibaa
/- THE CELL 'sum', in the pinned program and in every row, IS THE sha256 OF THE DUMP (.gsa) THAT YtgfiidgigenibaaProg.lean LOADS. Nothing in Lean hashes anything: it is a label: what it is worth is what the hold of that sum in a sandbox is worth. -/
noncomputable def Try.pinned : Pinned := { name := "ytgfiidgigenibaa", sum := "348a9e940273b2c4751954832333e78b067b570d9b3f08e6176e9f4c89d8c663", checked := Try.checked }
namespace Rows
def none {H : Type} : Left H := { results := [], args := [] }

/-- 'skiarealaw55.CensusParts': WHATEVER THE INPUT: true; the input reads as it did. -/
def censusPartsSpec : ChangeSpec := { name := "censusParts", fn := fun _ => fun
  | [d1, d2, d3] => { results := [.lit (.bool true)], args := [d1, d2, d3] }
  | _ => none }
def censusPartsRow : OpenClaim := { program := "ytgfiidgigenibaa", sum := "348a9e940273b2c4751954832333e78b067b570d9b3f08e6176e9f4c89d8c663", func := "skiarea/skiarealaw55.CensusParts", spec := "censusParts", unfollowed := true, recurses := true, apart := false }
def CensusPartsSaid : Prop := censusPartsRow.holds Try.pinned (OpenSpec.ofChange censusPartsSpec)

/-- ITS FALSE NEIGHBOUR: 'it returns false'. Refute it at one input. -/
def censusPartsWrong : ChangeSpec := { name := "censusParts", fn := fun _ => fun
  | [d1, d2, d3] => { results := [.lit (.bool false)], args := [d1, d2, d3] }
  | _ => none }
def CensusPartsWrongFalsely : Prop := censusPartsRow.holds Try.pinned (OpenSpec.ofChange censusPartsWrong)

/-- 'skiarealaw55.CensusWays': WHATEVER THE INPUT: true; the input reads as it did. -/
def censusWaysSpec : ChangeSpec := { name := "censusWays", fn := fun _ => fun
  | [d1, d2, d3, d4] => { results := [.lit (.bool true)], args := [d1, d2, d3, d4] }
  | _ => none }
def censusWaysRow : OpenClaim := { program := "ytgfiidgigenibaa", sum := "348a9e940273b2c4751954832333e78b067b570d9b3f08e6176e9f4c89d8c663", func := "skiarea/skiarealaw55.CensusWays", spec := "censusWays", unfollowed := true, recurses := true, apart := false }
def CensusWaysSaid : Prop := censusWaysRow.holds Try.pinned (OpenSpec.ofChange censusWaysSpec)

/-- ITS FALSE NEIGHBOUR: 'it returns false'. Refute it at one input. -/
def censusWaysWrong : ChangeSpec := { name := "censusWays", fn := fun _ => fun
  | [d1, d2, d3, d4] => { results := [.lit (.bool false)], args := [d1, d2, d3, d4] }
  | _ => none }
def CensusWaysWrongFalsely : Prop := censusWaysRow.holds Try.pinned (OpenSpec.ofChange censusWaysWrong)

/-- 'skiarealaw55.CensusAdds': WHATEVER THE INPUT: true; the input reads as it did. -/
def censusAddsSpec : ChangeSpec := { name := "censusAdds", fn := fun _ => fun
  | [d1, d2] => { results := [.lit (.bool true)], args := [d1, d2] }
  | _ => none }
def censusAddsRow : OpenClaim := { program := "ytgfiidgigenibaa", sum := "348a9e940273b2c4751954832333e78b067b570d9b3f08e6176e9f4c89d8c663", func := "skiarea/skiarealaw55.CensusAdds", spec := "censusAdds", unfollowed := true, recurses := true, apart := false }
def CensusAddsSaid : Prop := censusAddsRow.holds Try.pinned (OpenSpec.ofChange censusAddsSpec)

/-- ITS FALSE NEIGHBOUR: 'it returns false'. Refute it at one input. -/
def censusAddsWrong : ChangeSpec := { name := "censusAdds", fn := fun _ => fun
  | [d1, d2] => { results := [.lit (.bool false)], args := [d1, d2] }
  | _ => none }
def CensusAddsWrongFalsely : Prop := censusAddsRow.holds Try.pinned (OpenSpec.ofChange censusAddsWrong)

/-- 'skiarealaw55.CensusCounts': WHATEVER THE INPUT: true; the input reads as it did. -/
def censusCountsSpec : ChangeSpec := { name := "censusCounts", fn := fun _ => fun
  | [d1, d2, d3] => { results := [.lit (.bool true)], args := [d1, d2, d3] }
  | _ => none }
def censusCountsRow : OpenClaim := { program := "ytgfiidgigenibaa", sum := "348a9e940273b2c4751954832333e78b067b570d9b3f08e6176e9f4c89d8c663", func := "skiarea/skiarealaw55.CensusCounts", spec := "censusCounts", unfollowed := true, recurses := true, apart := false }
def CensusCountsSaid : Prop := censusCountsRow.holds Try.pinned (OpenSpec.ofChange censusCountsSpec)

/-- ITS FALSE NEIGHBOUR: 'it returns false'. Refute it at one input. -/
def censusCountsWrong : ChangeSpec := { name := "censusCounts", fn := fun _ => fun
  | [d1, d2, d3] => { results := [.lit (.bool false)], args := [d1, d2, d3] }
  | _ => none }
def CensusCountsWrongFalsely : Prop := censusCountsRow.holds Try.pinned (OpenSpec.ofChange censusCountsWrong)

/-- 'skiarealaw55.CensusLeaves': WHATEVER THE INPUT: true; the input reads as it did. -/
def censusLeavesSpec : ChangeSpec := { name := "censusLeaves", fn := fun _ => fun
  | [d1, d2, d3] => { results := [.lit (.bool true)], args := [d1, d2, d3] }
  | _ => none }
def censusLeavesRow : OpenClaim := { program := "ytgfiidgigenibaa", sum := "348a9e940273b2c4751954832333e78b067b570d9b3f08e6176e9f4c89d8c663", func := "skiarea/skiarealaw55.CensusLeaves", spec := "censusLeaves", unfollowed := true, recurses := true, apart := false }
def CensusLeavesSaid : Prop := censusLeavesRow.holds Try.pinned (OpenSpec.ofChange censusLeavesSpec)

/-- ITS FALSE NEIGHBOUR: 'it returns false'. Refute it at one input. -/
def censusLeavesWrong : ChangeSpec := { name := "censusLeaves", fn := fun _ => fun
  | [d1, d2, d3] => { results := [.lit (.bool false)], args := [d1, d2, d3] }
  | _ => none }
def CensusLeavesWrongFalsely : Prop := censusLeavesRow.holds Try.pinned (OpenSpec.ofChange censusLeavesWrong)

/-- 'skiarealaw55.CensusBounds': WHATEVER THE INPUT: true; the input reads as it did. -/
def censusBoundsSpec : ChangeSpec := { name := "censusBounds", fn := fun _ => fun
  | [d1, d2] => { results := [.lit (.bool true)], args := [d1, d2] }
  | _ => none }
def censusBoundsRow : OpenClaim := { program := "ytgfiidgigenibaa", sum := "348a9e940273b2c4751954832333e78b067b570d9b3f08e6176e9f4c89d8c663", func := "skiarea/skiarealaw55.CensusBounds", spec := "censusBounds", unfollowed := true, recurses := true, apart := false }
def CensusBoundsSaid : Prop := censusBoundsRow.holds Try.pinned (OpenSpec.ofChange censusBoundsSpec)

/-- ITS FALSE NEIGHBOUR: 'it returns false'. Refute it at one input. -/
def censusBoundsWrong : ChangeSpec := { name := "censusBounds", fn := fun _ => fun
  | [d1, d2] => { results := [.lit (.bool false)], args := [d1, d2] }
  | _ => none }
def CensusBoundsWrongFalsely : Prop := censusBoundsRow.holds Try.pinned (OpenSpec.ofChange censusBoundsWrong)

/- THE SECOND FORM. 'bulk': how many values and letters a reading holds, each counted each time it is reached (what is shared counts as often as it is met; a slice's spare places count too). A statement '..UptoSaid' is the law's where the arguments, and the package variables that the reading takes, are together of bulk at most 1048576: NARROWER than '..Said'. Prove '..Said' where nothing that the law and all that it calls make is longer than what came in: it says more and counts as full. Else prove '..UptoSaid'. A law counts once. -/
mutual
def uptoBulk {H : Type} : DataW H → Nat
  | .lit (.string bytes) => bytes.length + 1
  | .lit _ => 1
  | .nil => 1
  | .ptr d => uptoBulk d + 1
  | .slice elems spare => uptoBulkAll elems + uptoBulkAll spare + 1
  | .agg parts => uptoBulkAll parts + 1
  | .iface _ d => uptoBulk d + 1
  | .map entries => uptoBulkEntries entries + 1
  | .held _ => 1
def uptoBulkAll {H : Type} : List (DataW H) → Nat
  | [] => 0
  | d :: r => uptoBulk d + uptoBulkAll r
def uptoBulkEntries {H : Type} : List (Lit × DataW H) → Nat
  | [] => 0
  | x :: r => uptoBulkEntry x + uptoBulkEntries r
def uptoBulkEntry {H : Type} : Lit × DataW H → Nat
  | (.string bytes, d) => bytes.length + uptoBulk d + 1
  | (_, d) => uptoBulk d + 1
 end
def uptoSmall : (H : Type) → List (DataW H) → Bool := fun _ ds => decide (uptoBulkAll ds ≤ 1048576)
def OpenSpec.upto (s : _root_.Go.ChangeSpec) : _root_.Go.OpenSpec := { _root_.Go.OpenSpec.ofChange s with cond := some uptoSmall }

/-- 'skiarealaw55.CensusParts', WHERE WHAT IT READS IS OF BULK AT MOST 1048576: true; the input reads as it did. -/
def censusPartsUptoRow : OpenClaim := { program := "ytgfiidgigenibaa", sum := "348a9e940273b2c4751954832333e78b067b570d9b3f08e6176e9f4c89d8c663", func := "skiarea/skiarealaw55.CensusParts", spec := "censusParts", unfollowed := true, recurses := true, apart := false, narrowed := true }
def CensusPartsUptoSaid : Prop := censusPartsUptoRow.holds Try.pinned (OpenSpec.upto censusPartsSpec)

/-- 'skiarealaw55.CensusWays', WHERE WHAT IT READS IS OF BULK AT MOST 1048576: true; the input reads as it did. -/
def censusWaysUptoRow : OpenClaim := { program := "ytgfiidgigenibaa", sum := "348a9e940273b2c4751954832333e78b067b570d9b3f08e6176e9f4c89d8c663", func := "skiarea/skiarealaw55.CensusWays", spec := "censusWays", unfollowed := true, recurses := true, apart := false, narrowed := true }
def CensusWaysUptoSaid : Prop := censusWaysUptoRow.holds Try.pinned (OpenSpec.upto censusWaysSpec)

/-- 'skiarealaw55.CensusAdds', WHERE WHAT IT READS IS OF BULK AT MOST 1048576: true; the input reads as it did. -/
def censusAddsUptoRow : OpenClaim := { program := "ytgfiidgigenibaa", sum := "348a9e940273b2c4751954832333e78b067b570d9b3f08e6176e9f4c89d8c663", func := "skiarea/skiarealaw55.CensusAdds", spec := "censusAdds", unfollowed := true, recurses := true, apart := false, narrowed := true }
def CensusAddsUptoSaid : Prop := censusAddsUptoRow.holds Try.pinned (OpenSpec.upto censusAddsSpec)

/-- 'skiarealaw55.CensusCounts', WHERE WHAT IT READS IS OF BULK AT MOST 1048576: true; the input reads as it did. -/
def censusCountsUptoRow : OpenClaim := { program := "ytgfiidgigenibaa", sum := "348a9e940273b2c4751954832333e78b067b570d9b3f08e6176e9f4c89d8c663", func := "skiarea/skiarealaw55.CensusCounts", spec := "censusCounts", unfollowed := true, recurses := true, apart := false, narrowed := true }
def CensusCountsUptoSaid : Prop := censusCountsUptoRow.holds Try.pinned (OpenSpec.upto censusCountsSpec)

/-- 'skiarealaw55.CensusLeaves', WHERE WHAT IT READS IS OF BULK AT MOST 1048576: true; the input reads as it did. -/
def censusLeavesUptoRow : OpenClaim := { program := "ytgfiidgigenibaa", sum := "348a9e940273b2c4751954832333e78b067b570d9b3f08e6176e9f4c89d8c663", func := "skiarea/skiarealaw55.CensusLeaves", spec := "censusLeaves", unfollowed := true, recurses := true, apart := false, narrowed := true }
def CensusLeavesUptoSaid : Prop := censusLeavesUptoRow.holds Try.pinned (OpenSpec.upto censusLeavesSpec)

/-- 'skiarealaw55.CensusBounds', WHERE WHAT IT READS IS OF BULK AT MOST 1048576: true; the input reads as it did. -/
def censusBoundsUptoRow : OpenClaim := { program := "ytgfiidgigenibaa", sum := "348a9e940273b2c4751954832333e78b067b570d9b3f08e6176e9f4c89d8c663", func := "skiarea/skiarealaw55.CensusBounds", spec := "censusBounds", unfollowed := true, recurses := true, apart := false, narrowed := true }
def CensusBoundsUptoSaid : Prop := censusBoundsUptoRow.holds Try.pinned (OpenSpec.upto censusBoundsSpec)

end Rows
end Go.Proofs.Ytgfiidgigenibaa
