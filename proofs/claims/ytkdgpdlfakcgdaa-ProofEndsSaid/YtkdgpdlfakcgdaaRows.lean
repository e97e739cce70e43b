/-
  No cell of these rows narrows 'for every input' (looked for: loops, veiled, ifaces, maps, wideKeys, modest, calm, conditions, laid).
  DERIVED. THE GIVEN ROWS OF THIS SEAT. 15 by the template 'for every input the law returns true; each argument reads behind the call as it read before'; 0 by the template 'total and deterministic' (their statements: YtkdgpdlfakcgdaaTotals.lean).
  GIVEN WITH THE SEED: the statements are not yours to turn. If you find one false, say at which input.
  Laid BY PROGRAM, IN A SANDBOX (cutbox-rows.mjs): the forced cells as the released guide's own fill.sh prints them over the translation d0a2f6b411f9b131… (all of the seat's roots in one cut). By AI agents, Wed Nov 11 2026. No macro, syntax, notation, axiom, sorry.
-/
import Derived.Test.YtkdgpdlfakcgdaaChecked
import GoSem.Claim
import GoSem.ClaimJoined
import GoSem.ClaimMapViews
import Derived.JoinedTies
import Derived.KernelRfl
namespace Go.Proofs.Ytkdgpdlfakcgdaa
/- THE CELL 'sum', in the pinned program and in every row, IS THE sha256 OF THE DUMP (.gsa) THAT YtkdgpdlfakcgdaaProg.lean LOADS. Nothing in Lean hashes anything: it is a label: what it is worth is what the hold of that sum in a sandbox is worth. -/
noncomputable def Try.pinned : Pinned := { name := "ytkdgpdlfakcgdaa", sum := "d0a2f6b411f9b131edffc955bbeb697c1aaa97d4815cd3c71b88f8d69a7e4983", checked := Try.checked }
namespace Rows
def none {H : Type} : Left H := { results := [], args := [] }

/-- 'saccharumlaw04.ProofDuties': WHATEVER THE INPUT: true; the input reads as it did. -/
def proofDutiesSpec : ChangeSpec := { name := "proofDuties", fn := fun _ => fun
  | [d] => { results := [.lit (.bool true)], args := [d] }
  | _ => none }
def proofDutiesRow : OpenClaim := { program := "ytkdgpdlfakcgdaa", sum := "d0a2f6b411f9b131edffc955bbeb697c1aaa97d4815cd3c71b88f8d69a7e4983", func := "saccharum/saccharumlaw04.ProofDuties", spec := "proofDuties", unfollowed := true, recurses := true, plainKeys := false, apart := false }
def ProofDutiesSaid : Prop := proofDutiesRow.holds Try.pinned (OpenSpec.ofChange proofDutiesSpec)

/-- ITS FALSE NEIGHBOUR: 'it returns false'. Refute it at one input. -/
def proofDutiesWrong : ChangeSpec := { name := "proofDuties", fn := fun _ => fun
  | [d] => { results := [.lit (.bool false)], args := [d] }
  | _ => none }
def ProofDutiesWrongFalsely : Prop := proofDutiesRow.holds Try.pinned (OpenSpec.ofChange proofDutiesWrong)

/-- 'saccharumlaw04.ProofBlends': WHATEVER THE INPUT: true; the input reads as it did. -/
def proofBlendsSpec : ChangeSpec := { name := "proofBlends", fn := fun _ => fun
  | [d1, d2, d3, d4] => { results := [.lit (.bool true)], args := [d1, d2, d3, d4] }
  | _ => none }
def proofBlendsRow : OpenClaim := { program := "ytkdgpdlfakcgdaa", sum := "d0a2f6b411f9b131edffc955bbeb697c1aaa97d4815cd3c71b88f8d69a7e4983", func := "saccharum/saccharumlaw04.ProofBlends", spec := "proofBlends", unfollowed := true, recurses := true, plainKeys := false, apart := false }
def ProofBlendsSaid : Prop := proofBlendsRow.holds Try.pinned (OpenSpec.ofChange proofBlendsSpec)

/-- ITS FALSE NEIGHBOUR: 'it returns false'. Refute it at one input. -/
def proofBlendsWrong : ChangeSpec := { name := "proofBlends", fn := fun _ => fun
  | [d1, d2, d3, d4] => { results := [.lit (.bool false)], args := [d1, d2, d3, d4] }
  | _ => none }
def ProofBlendsWrongFalsely : Prop := proofBlendsRow.holds Try.pinned (OpenSpec.ofChange proofBlendsWrong)

/-- 'saccharumlaw04.ProofWaters': WHATEVER THE INPUT: true; the input reads as it did. -/
def proofWatersSpec : ChangeSpec := { name := "proofWaters", fn := fun _ => fun
  | [d1, d2, d3] => { results := [.lit (.bool true)], args := [d1, d2, d3] }
  | _ => none }
def proofWatersRow : OpenClaim := { program := "ytkdgpdlfakcgdaa", sum := "d0a2f6b411f9b131edffc955bbeb697c1aaa97d4815cd3c71b88f8d69a7e4983", func := "saccharum/saccharumlaw04.ProofWaters", spec := "proofWaters", unfollowed := true, recurses := true, plainKeys := false, apart := false }
def ProofWatersSaid : Prop := proofWatersRow.holds Try.pinned (OpenSpec.ofChange proofWatersSpec)

/-- ITS FALSE NEIGHBOUR: 'it returns false'. Refute it at one input. -/
def proofWatersWrong : ChangeSpec := { name := "proofWaters", fn := fun _ => fun
  | [d1, d2, d3] => { results := [.lit (.bool false)], args := [d1, d2, d3] }
  | _ => none }
def ProofWatersWrongFalsely : Prop := proofWatersRow.holds Try.pinned (OpenSpec.ofChange proofWatersWrong)

/-- 'saccharumlaw04.ProofFewest': WHATEVER THE INPUT: true; the input reads as it did. -/
def proofFewestSpec : ChangeSpec := { name := "proofFewest", fn := fun _ => fun
  | [d1, d2] => { results := [.lit (.bool true)], args := [d1, d2] }
  | _ => none }
def proofFewestRow : OpenClaim := { program := "ytkdgpdlfakcgdaa", sum := "d0a2f6b411f9b131edffc955bbeb697c1aaa97d4815cd3c71b88f8d69a7e4983", func := "saccharum/saccharumlaw04.ProofFewest", spec := "proofFewest", unfollowed := true, recurses := true, plainKeys := false, apart := false }
def ProofFewestSaid : Prop := proofFewestRow.holds Try.pinned (OpenSpec.ofChange proofFewestSpec)

/-- ITS FALSE NEIGHBOUR: 'it returns false'. Refute it at one input. -/
def proofFewestWrong : ChangeSpec := { name := "proofFewest", fn := fun _ => fun
  | [d1, d2] => { results := [.lit (.bool false)], args := [d1, d2] }
  | _ => none }
def ProofFewestWrongFalsely : Prop := proofFewestRow.holds Try.pinned (OpenSpec.ofChange proofFewestWrong)

/-- 'saccharumlaw04.ProofFalse': WHATEVER THE INPUT: true; the input reads as it did. -/
def proofFalseSpec : ChangeSpec := { name := "proofFalse", fn := fun _ => fun
  | [d1, d2] => { results := [.lit (.bool true)], args := [d1, d2] }
  | _ => none }
def proofFalseRow : OpenClaim := { program := "ytkdgpdlfakcgdaa", sum := "d0a2f6b411f9b131edffc955bbeb697c1aaa97d4815cd3c71b88f8d69a7e4983", func := "saccharum/saccharumlaw04.ProofFalse", spec := "proofFalse", unfollowed := true, recurses := true, plainKeys := false, apart := false }
def ProofFalseSaid : Prop := proofFalseRow.holds Try.pinned (OpenSpec.ofChange proofFalseSpec)

/-- ITS FALSE NEIGHBOUR: 'it returns false'. Refute it at one input. -/
def proofFalseWrong : ChangeSpec := { name := "proofFalse", fn := fun _ => fun
  | [d1, d2] => { results := [.lit (.bool false)], args := [d1, d2] }
  | _ => none }
def ProofFalseWrongFalsely : Prop := proofFalseRow.holds Try.pinned (OpenSpec.ofChange proofFalseWrong)

/-- 'saccharumlaw04.ProofTruth': WHATEVER THE INPUT: true; the input reads as it did. -/
def proofTruthSpec : ChangeSpec := { name := "proofTruth", fn := fun _ => fun
  | [d1, d2, d3, d4] => { results := [.lit (.bool true)], args := [d1, d2, d3, d4] }
  | _ => none }
def proofTruthRow : OpenClaim := { program := "ytkdgpdlfakcgdaa", sum := "d0a2f6b411f9b131edffc955bbeb697c1aaa97d4815cd3c71b88f8d69a7e4983", func := "saccharum/saccharumlaw04.ProofTruth", spec := "proofTruth", unfollowed := true, recurses := true, plainKeys := false, apart := false }
def ProofTruthSaid : Prop := proofTruthRow.holds Try.pinned (OpenSpec.ofChange proofTruthSpec)

/-- ITS FALSE NEIGHBOUR: 'it returns false'. Refute it at one input. -/
def proofTruthWrong : ChangeSpec := { name := "proofTruth", fn := fun _ => fun
  | [d1, d2, d3, d4] => { results := [.lit (.bool false)], args := [d1, d2, d3, d4] }
  | _ => none }
def ProofTruthWrongFalsely : Prop := proofTruthRow.holds Try.pinned (OpenSpec.ofChange proofTruthWrong)

/-- 'saccharumlaw04.ProofLess': WHATEVER THE INPUT: true; the input reads as it did. -/
def proofLessSpec : ChangeSpec := { name := "proofLess", fn := fun _ => fun
  | [d1, d2, d3, d4] => { results := [.lit (.bool true)], args := [d1, d2, d3, d4] }
  | _ => none }
def proofLessRow : OpenClaim := { program := "ytkdgpdlfakcgdaa", sum := "d0a2f6b411f9b131edffc955bbeb697c1aaa97d4815cd3c71b88f8d69a7e4983", func := "saccharum/saccharumlaw04.ProofLess", spec := "proofLess", unfollowed := true, recurses := true, plainKeys := false, apart := false }
def ProofLessSaid : Prop := proofLessRow.holds Try.pinned (OpenSpec.ofChange proofLessSpec)

/-- ITS FALSE NEIGHBOUR: 'it returns false'. Refute it at one input. -/
def proofLessWrong : ChangeSpec := { name := "proofLess", fn := fun _ => fun
  | [d1, d2, d3, d4] => { results := [.lit (.bool false)], args := [d1, d2, d3, d4] }
  | _ => none }
def ProofLessWrongFalsely : Prop := proofLessRow.holds Try.pinned (OpenSpec.ofChange proofLessWrong)

/-- 'saccharumlaw04.ProofShortest': WHATEVER THE INPUT: true; the input reads as it did. -/
def proofShortestSpec : ChangeSpec := { name := "proofShortest", fn := fun _ => fun
  | [d1, d2, d3, d4] => { results := [.lit (.bool true)], args := [d1, d2, d3, d4] }
  | _ => none }
def proofShortestRow : OpenClaim := { program := "ytkdgpdlfakcgdaa", sum := "d0a2f6b411f9b131edffc955bbeb697c1aaa97d4815cd3c71b88f8d69a7e4983", func := "saccharum/saccharumlaw04.ProofShortest", spec := "proofShortest", unfollowed := true, recurses := true, plainKeys := false, apart := false }
def ProofShortestSaid : Prop := proofShortestRow.holds Try.pinned (OpenSpec.ofChange proofShortestSpec)

/-- ITS FALSE NEIGHBOUR: 'it returns false'. Refute it at one input. -/
def proofShortestWrong : ChangeSpec := { name := "proofShortest", fn := fun _ => fun
  | [d1, d2, d3, d4] => { results := [.lit (.bool false)], args := [d1, d2, d3, d4] }
  | _ => none }
def ProofShortestWrongFalsely : Prop := proofShortestRow.holds Try.pinned (OpenSpec.ofChange proofShortestWrong)

/-- 'saccharumlaw04.ProofDeclares': WHATEVER THE INPUT: true; the input reads as it did. -/
def proofDeclaresSpec : ChangeSpec := { name := "proofDeclares", fn := fun _ => fun
  | [d1, d2, d3, d4] => { results := [.lit (.bool true)], args := [d1, d2, d3, d4] }
  | _ => none }
def proofDeclaresRow : OpenClaim := { program := "ytkdgpdlfakcgdaa", sum := "d0a2f6b411f9b131edffc955bbeb697c1aaa97d4815cd3c71b88f8d69a7e4983", func := "saccharum/saccharumlaw04.ProofDeclares", spec := "proofDeclares", unfollowed := true, recurses := true, plainKeys := false, apart := false }
def ProofDeclaresSaid : Prop := proofDeclaresRow.holds Try.pinned (OpenSpec.ofChange proofDeclaresSpec)

/-- ITS FALSE NEIGHBOUR: 'it returns false'. Refute it at one input. -/
def proofDeclaresWrong : ChangeSpec := { name := "proofDeclares", fn := fun _ => fun
  | [d1, d2, d3, d4] => { results := [.lit (.bool false)], args := [d1, d2, d3, d4] }
  | _ => none }
def ProofDeclaresWrongFalsely : Prop := proofDeclaresRow.holds Try.pinned (OpenSpec.ofChange proofDeclaresWrong)

/-- 'saccharumlaw04.ProofWider': WHATEVER THE INPUT: true; the input reads as it did. -/
def proofWiderSpec : ChangeSpec := { name := "proofWider", fn := fun _ => fun
  | [d1, d2, d3, d4, d5, d6] => { results := [.lit (.bool true)], args := [d1, d2, d3, d4, d5, d6] }
  | _ => none }
def proofWiderRow : OpenClaim := { program := "ytkdgpdlfakcgdaa", sum := "d0a2f6b411f9b131edffc955bbeb697c1aaa97d4815cd3c71b88f8d69a7e4983", func := "saccharum/saccharumlaw04.ProofWider", spec := "proofWider", unfollowed := true, recurses := true, plainKeys := false, apart := false }
def ProofWiderSaid : Prop := proofWiderRow.holds Try.pinned (OpenSpec.ofChange proofWiderSpec)

/-- ITS FALSE NEIGHBOUR: 'it returns false'. Refute it at one input. -/
def proofWiderWrong : ChangeSpec := { name := "proofWider", fn := fun _ => fun
  | [d1, d2, d3, d4, d5, d6] => { results := [.lit (.bool false)], args := [d1, d2, d3, d4, d5, d6] }
  | _ => none }
def ProofWiderWrongFalsely : Prop := proofWiderRow.holds Try.pinned (OpenSpec.ofChange proofWiderWrong)

/-- 'saccharumlaw04.ProofApart': WHATEVER THE INPUT: true; the input reads as it did. -/
def proofApartSpec : ChangeSpec := { name := "proofApart", fn := fun _ => fun
  | [d] => { results := [.lit (.bool true)], args := [d] }
  | _ => none }
def proofApartRow : OpenClaim := { program := "ytkdgpdlfakcgdaa", sum := "d0a2f6b411f9b131edffc955bbeb697c1aaa97d4815cd3c71b88f8d69a7e4983", func := "saccharum/saccharumlaw04.ProofApart", spec := "proofApart", unfollowed := true, recurses := true, plainKeys := false, apart := false }
def ProofApartSaid : Prop := proofApartRow.holds Try.pinned (OpenSpec.ofChange proofApartSpec)

/-- ITS FALSE NEIGHBOUR: 'it returns false'. Refute it at one input. -/
def proofApartWrong : ChangeSpec := { name := "proofApart", fn := fun _ => fun
  | [d] => { results := [.lit (.bool false)], args := [d] }
  | _ => none }
def ProofApartWrongFalsely : Prop := proofApartRow.holds Try.pinned (OpenSpec.ofChange proofApartWrong)

/-- 'saccharumlaw04.ProofTruths': WHATEVER THE INPUT: true; the input reads as it did. -/
def proofTruthsSpec : ChangeSpec := { name := "proofTruths", fn := fun _ => fun
  | [d1, d2] => { results := [.lit (.bool true)], args := [d1, d2] }
  | _ => none }
def proofTruthsRow : OpenClaim := { program := "ytkdgpdlfakcgdaa", sum := "d0a2f6b411f9b131edffc955bbeb697c1aaa97d4815cd3c71b88f8d69a7e4983", func := "saccharum/saccharumlaw04.ProofTruths", spec := "proofTruths", unfollowed := true, recurses := true, plainKeys := false, apart := false }
def ProofTruthsSaid : Prop := proofTruthsRow.holds Try.pinned (OpenSpec.ofChange proofTruthsSpec)

/-- ITS FALSE NEIGHBOUR: 'it returns false'. Refute it at one input. -/
def proofTruthsWrong : ChangeSpec := { name := "proofTruths", fn := fun _ => fun
  | [d1, d2] => { results := [.lit (.bool false)], args := [d1, d2] }
  | _ => none }
def ProofTruthsWrongFalsely : Prop := proofTruthsRow.holds Try.pinned (OpenSpec.ofChange proofTruthsWrong)

/-- 'saccharumlaw04.ProofNames': WHATEVER THE INPUT: true; the input reads as it did. -/
def proofNamesSpec : ChangeSpec := { name := "proofNames", fn := fun _ => fun
  | [] => { results := [.lit (.bool true)], args := [] }
  | _ => none }
def proofNamesRow : OpenClaim := { program := "ytkdgpdlfakcgdaa", sum := "d0a2f6b411f9b131edffc955bbeb697c1aaa97d4815cd3c71b88f8d69a7e4983", func := "saccharum/saccharumlaw04.ProofNames", spec := "proofNames", unfollowed := true, recurses := true, plainKeys := false, apart := false }
def ProofNamesSaid : Prop := proofNamesRow.holds Try.pinned (OpenSpec.ofChange proofNamesSpec)

/-- ITS FALSE NEIGHBOUR: 'it returns false'. Refute it at one input. -/
def proofNamesWrong : ChangeSpec := { name := "proofNames", fn := fun _ => fun
  | [] => { results := [.lit (.bool false)], args := [] }
  | _ => none }
def ProofNamesWrongFalsely : Prop := proofNamesRow.holds Try.pinned (OpenSpec.ofChange proofNamesWrong)

/-- 'saccharumlaw04.ProofEnds': WHATEVER THE INPUT: true; the input reads as it did. -/
def proofEndsSpec : ChangeSpec := { name := "proofEnds", fn := fun _ => fun
  | [d1, d2, d3] => { results := [.lit (.bool true)], args := [d1, d2, d3] }
  | _ => none }
def proofEndsRow : OpenClaim := { program := "ytkdgpdlfakcgdaa", sum := "d0a2f6b411f9b131edffc955bbeb697c1aaa97d4815cd3c71b88f8d69a7e4983", func := "saccharum/saccharumlaw04.ProofEnds", spec := "proofEnds", unfollowed := true, recurses := true, plainKeys := false, apart := false }
def ProofEndsSaid : Prop := proofEndsRow.holds Try.pinned (OpenSpec.ofChange proofEndsSpec)

/-- ITS FALSE NEIGHBOUR: 'it returns false'. Refute it at one input. -/
def proofEndsWrong : ChangeSpec := { name := "proofEnds", fn := fun _ => fun
  | [d1, d2, d3] => { results := [.lit (.bool false)], args := [d1, d2, d3] }
  | _ => none }
def ProofEndsWrongFalsely : Prop := proofEndsRow.holds Try.pinned (OpenSpec.ofChange proofEndsWrong)

/-- 'saccharumlaw04.ProofMixed': WHATEVER THE INPUT: true; the input reads as it did. -/
def proofMixedSpec : ChangeSpec := { name := "proofMixed", fn := fun _ => fun
  | [d1, d2] => { results := [.lit (.bool true)], args := [d1, d2] }
  | _ => none }
def proofMixedRow : OpenClaim := { program := "ytkdgpdlfakcgdaa", sum := "d0a2f6b411f9b131edffc955bbeb697c1aaa97d4815cd3c71b88f8d69a7e4983", func := "saccharum/saccharumlaw04.ProofMixed", spec := "proofMixed", unfollowed := true, recurses := true, plainKeys := false, apart := false }
def ProofMixedSaid : Prop := proofMixedRow.holds Try.pinned (OpenSpec.ofChange proofMixedSpec)

/-- ITS FALSE NEIGHBOUR: 'it returns false'. Refute it at one input. -/
def proofMixedWrong : ChangeSpec := { name := "proofMixed", fn := fun _ => fun
  | [d1, d2] => { results := [.lit (.bool false)], args := [d1, d2] }
  | _ => none }
def ProofMixedWrongFalsely : Prop := proofMixedRow.holds Try.pinned (OpenSpec.ofChange proofMixedWrong)

/- THE SECOND FORM. 'bulk': how many values and letters a reading holds, each counted each time it is reached (what is shared counts as often as it is met; a slice's spare places count too). A statement '..UptoSaid' is the law's where the arguments, and the package variables that the reading takes, are together of bulk at most 1048576: NARROWER than '..Said'. Prove '..Said' where nothing that the law and all that it calls make is longer than what came in: it says more and counts as full. Else prove '..UptoSaid'. A law counts once. -/
mutual
def uptoBulk {H : Type} : DataW H → Nat
  | .lit (.string bytes) => bytes.length + 1
  | .lit _ => 1
  | .nil => 1
  | .ptr d => uptoBulk d + 1
  | .slice elems spare => uptoBulkAll elems + uptoBulkAll spare + 1
  | .agg parts => uptoBulkAll parts + 1
  | .iface _ d => uptoBulk d + 1
  | .map entries => uptoBulkEntries entries + 1
  | .held _ => 1
def uptoBulkAll {H : Type} : List (DataW H) → Nat
  | [] => 0
  | d :: r => uptoBulk d + uptoBulkAll r
def uptoBulkEntries {H : Type} : List (Lit × DataW H) → Nat
  | [] => 0
  | x :: r => uptoBulkEntry x + uptoBulkEntries r
def uptoBulkEntry {H : Type} : Lit × DataW H → Nat
  | (.string bytes, d) => bytes.length + uptoBulk d + 1
  | (_, d) => uptoBulk d + 1
 end
def uptoSmall : (H : Type) → List (DataW H) → Bool := fun _ ds => decide (uptoBulkAll ds ≤ 1048576)
def OpenSpec.upto (s : _root_.Go.ChangeSpec) : _root_.Go.OpenSpec := { _root_.Go.OpenSpec.ofChange s with cond := some uptoSmall }

/-- 'saccharumlaw04.ProofDuties', WHERE WHAT IT READS IS OF BULK AT MOST 1048576: true; the input reads as it did. -/
def proofDutiesUptoRow : OpenClaim := { program := "ytkdgpdlfakcgdaa", sum := "d0a2f6b411f9b131edffc955bbeb697c1aaa97d4815cd3c71b88f8d69a7e4983", func := "saccharum/saccharumlaw04.ProofDuties", spec := "proofDuties", unfollowed := true, recurses := true, plainKeys := false, apart := false, narrowed := true }
def ProofDutiesUptoSaid : Prop := proofDutiesUptoRow.holds Try.pinned (OpenSpec.upto proofDutiesSpec)

/-- 'saccharumlaw04.ProofBlends', WHERE WHAT IT READS IS OF BULK AT MOST 1048576: true; the input reads as it did. -/
def proofBlendsUptoRow : OpenClaim := { program := "ytkdgpdlfakcgdaa", sum := "d0a2f6b411f9b131edffc955bbeb697c1aaa97d4815cd3c71b88f8d69a7e4983", func := "saccharum/saccharumlaw04.ProofBlends", spec := "proofBlends", unfollowed := true, recurses := true, plainKeys := false, apart := false, narrowed := true }
def ProofBlendsUptoSaid : Prop := proofBlendsUptoRow.holds Try.pinned (OpenSpec.upto proofBlendsSpec)

/-- 'saccharumlaw04.ProofWaters', WHERE WHAT IT READS IS OF BULK AT MOST 1048576: true; the input reads as it did. -/
def proofWatersUptoRow : OpenClaim := { program := "ytkdgpdlfakcgdaa", sum := "d0a2f6b411f9b131edffc955bbeb697c1aaa97d4815cd3c71b88f8d69a7e4983", func := "saccharum/saccharumlaw04.ProofWaters", spec := "proofWaters", unfollowed := true, recurses := true, plainKeys := false, apart := false, narrowed := true }
def ProofWatersUptoSaid : Prop := proofWatersUptoRow.holds Try.pinned (OpenSpec.upto proofWatersSpec)

/-- 'saccharumlaw04.ProofFewest', WHERE WHAT IT READS IS OF BULK AT MOST 1048576: true; the input reads as it did. -/
def proofFewestUptoRow : OpenClaim := { program := "ytkdgpdlfakcgdaa", sum := "d0a2f6b411f9b131edffc955bbeb697c1aaa97d4815cd3c71b88f8d69a7e4983", func := "saccharum/saccharumlaw04.ProofFewest", spec := "proofFewest", unfollowed := true, recurses := true, plainKeys := false, apart := false, narrowed := true }
def ProofFewestUptoSaid : Prop := proofFewestUptoRow.holds Try.pinned (OpenSpec.upto proofFewestSpec)

/-- 'saccharumlaw04.ProofFalse', WHERE WHAT IT READS IS OF BULK AT MOST 1048576: true; the input reads as it did. -/
def proofFalseUptoRow : OpenClaim := { program := "ytkdgpdlfakcgdaa", sum := "d0a2f6b411f9b131edffc955bbeb697c1aaa97d4815cd3c71b88f8d69a7e4983", func := "saccharum/saccharumlaw04.ProofFalse", spec := "proofFalse", unfollowed := true, recurses := true, plainKeys := false, apart := false, narrowed := true }
def ProofFalseUptoSaid : Prop := proofFalseUptoRow.holds Try.pinned (OpenSpec.upto proofFalseSpec)

/-- 'saccharumlaw04.ProofTruth', WHERE WHAT IT READS IS OF BULK AT MOST 1048576: true; the input reads as it did. -/
def proofTruthUptoRow : OpenClaim := { program := "ytkdgpdlfakcgdaa", sum := "d0a2f6b411f9b131edffc955bbeb697c1aaa97d4815cd3c71b88f8d69a7e4983", func := "saccharum/saccharumlaw04.ProofTruth", spec := "proofTruth", unfollowed := true, recurses := true, plainKeys := false, apart := false, narrowed := true }
def ProofTruthUptoSaid : Prop := proofTruthUptoRow.holds Try.pinned (OpenSpec.upto proofTruthSpec)

/-- 'saccharumlaw04.ProofLess', WHERE WHAT IT READS IS OF BULK AT MOST 1048576: true; the input reads as it did. -/
def proofLessUptoRow : OpenClaim := { program := "ytkdgpdlfakcgdaa", sum := "d0a2f6b411f9b131edffc955bbeb697c1aaa97d4815cd3c71b88f8d69a7e4983", func := "saccharum/saccharumlaw04.ProofLess", spec := "proofLess", unfollowed := true, recurses := true, plainKeys := false, apart := false, narrowed := true }
def ProofLessUptoSaid : Prop := proofLessUptoRow.holds Try.pinned (OpenSpec.upto proofLessSpec)

/-- 'saccharumlaw04.ProofShortest', WHERE WHAT IT READS IS OF BULK AT MOST 1048576: true; the input reads as it did. -/
def proofShortestUptoRow : OpenClaim := { program := "ytkdgpdlfakcgdaa", sum := "d0a2f6b411f9b131edffc955bbeb697c1aaa97d4815cd3c71b88f8d69a7e4983", func := "saccharum/saccharumlaw04.ProofShortest", spec := "proofShortest", unfollowed := true, recurses := true, plainKeys := false, apart := false, narrowed := true }
def ProofShortestUptoSaid : Prop := proofShortestUptoRow.holds Try.pinned (OpenSpec.upto proofShortestSpec)

/-- 'saccharumlaw04.ProofDeclares', WHERE WHAT IT READS IS OF BULK AT MOST 1048576: true; the input reads as it did. -/
def proofDeclaresUptoRow : OpenClaim := { program := "ytkdgpdlfakcgdaa", sum := "d0a2f6b411f9b131edffc955bbeb697c1aaa97d4815cd3c71b88f8d69a7e4983", func := "saccharum/saccharumlaw04.ProofDeclares", spec := "proofDeclares", unfollowed := true, recurses := true, plainKeys := false, apart := false, narrowed := true }
def ProofDeclaresUptoSaid : Prop := proofDeclaresUptoRow.holds Try.pinned (OpenSpec.upto proofDeclaresSpec)

/-- 'saccharumlaw04.ProofWider', WHERE WHAT IT READS IS OF BULK AT MOST 1048576: true; the input reads as it did. -/
def proofWiderUptoRow : OpenClaim := { program := "ytkdgpdlfakcgdaa", sum := "d0a2f6b411f9b131edffc955bbeb697c1aaa97d4815cd3c71b88f8d69a7e4983", func := "saccharum/saccharumlaw04.ProofWider", spec := "proofWider", unfollowed := true, recurses := true, plainKeys := false, apart := false, narrowed := true }
def ProofWiderUptoSaid : Prop := proofWiderUptoRow.holds Try.pinned (OpenSpec.upto proofWiderSpec)

/-- 'saccharumlaw04.ProofApart', WHERE WHAT IT READS IS OF BULK AT MOST 1048576: true; the input reads as it did. -/
def proofApartUptoRow : OpenClaim := { program := "ytkdgpdlfakcgdaa", sum := "d0a2f6b411f9b131edffc955bbeb697c1aaa97d4815cd3c71b88f8d69a7e4983", func := "saccharum/saccharumlaw04.ProofApart", spec := "proofApart", unfollowed := true, recurses := true, plainKeys := false, apart := false, narrowed := true }
def ProofApartUptoSaid : Prop := proofApartUptoRow.holds Try.pinned (OpenSpec.upto proofApartSpec)

/-- 'saccharumlaw04.ProofTruths', WHERE WHAT IT READS IS OF BULK AT MOST 1048576: true; the input reads as it did. -/
def proofTruthsUptoRow : OpenClaim := { program := "ytkdgpdlfakcgdaa", sum := "d0a2f6b411f9b131edffc955bbeb697c1aaa97d4815cd3c71b88f8d69a7e4983", func := "saccharum/saccharumlaw04.ProofTruths", spec := "proofTruths", unfollowed := true, recurses := true, plainKeys := false, apart := false, narrowed := true }
def ProofTruthsUptoSaid : Prop := proofTruthsUptoRow.holds Try.pinned (OpenSpec.upto proofTruthsSpec)

/-- 'saccharumlaw04.ProofNames', WHERE WHAT IT READS IS OF BULK AT MOST 1048576: true; the input reads as it did. -/
def proofNamesUptoRow : OpenClaim := { program := "ytkdgpdlfakcgdaa", sum := "d0a2f6b411f9b131edffc955bbeb697c1aaa97d4815cd3c71b88f8d69a7e4983", func := "saccharum/saccharumlaw04.ProofNames", spec := "proofNames", unfollowed := true, recurses := true, plainKeys := false, apart := false, narrowed := true }
def ProofNamesUptoSaid : Prop := proofNamesUptoRow.holds Try.pinned (OpenSpec.upto proofNamesSpec)

/-- 'saccharumlaw04.ProofEnds', WHERE WHAT IT READS IS OF BULK AT MOST 1048576: true; the input reads as it did. -/
def proofEndsUptoRow : OpenClaim := { program := "ytkdgpdlfakcgdaa", sum := "d0a2f6b411f9b131edffc955bbeb697c1aaa97d4815cd3c71b88f8d69a7e4983", func := "saccharum/saccharumlaw04.ProofEnds", spec := "proofEnds", unfollowed := true, recurses := true, plainKeys := false, apart := false, narrowed := true }
def ProofEndsUptoSaid : Prop := proofEndsUptoRow.holds Try.pinned (OpenSpec.upto proofEndsSpec)

/-- 'saccharumlaw04.ProofMixed', WHERE WHAT IT READS IS OF BULK AT MOST 1048576: true; the input reads as it did. -/
def proofMixedUptoRow : OpenClaim := { program := "ytkdgpdlfakcgdaa", sum := "d0a2f6b411f9b131edffc955bbeb697c1aaa97d4815cd3c71b88f8d69a7e4983", func := "saccharum/saccharumlaw04.ProofMixed", spec := "proofMixed", unfollowed := true, recurses := true, plainKeys := false, apart := false, narrowed := true }
def ProofMixedUptoSaid : Prop := proofMixedUptoRow.holds Try.pinned (OpenSpec.upto proofMixedSpec)

end Rows
end Go.Proofs.Ytkdgpdlfakcgdaa
