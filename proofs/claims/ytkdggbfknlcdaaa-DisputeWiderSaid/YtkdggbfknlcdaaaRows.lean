/-
  No cell of these rows narrows 'for every input' (looked for: loops, veiled, ifaces, maps, wideKeys, modest, calm, conditions, laid).
  DERIVED. THE GIVEN ROWS OF THIS SEAT. 8 by the template 'for every input the law returns true; each argument reads behind the call as it read before'; 0 by the template 'total and deterministic' (their statements: YtkdggbfknlcdaaaTotals.lean).
  GIVEN WITH THE SEED: the statements are not yours to turn. If you find one false, say at which input.
  Laid BY PROGRAM, IN A SANDBOX (cutbox-rows.mjs): the forced cells as the released guide's own fill.sh prints them over the translation a97c8cadef2c1c7e… (all of the seat's roots in one cut). By AI agents, Wed Nov 11 2026. No macro, syntax, notation, axiom, sorry.
-/
import Derived.Test.YtkdggbfknlcdaaaChecked
import GoSem.Claim
import GoSem.ClaimJoined
import GoSem.ClaimMapViews
import Derived.JoinedTies
import Derived.KernelRfl
namespace Go.Proofs.Ytkdggbfknlcdaaa
/- THE CELL 'sum', in the pinned program and in every row, IS THE sha256 OF THE DUMP (.gsa) THAT YtkdggbfknlcdaaaProg.lean LOADS. Nothing in Lean hashes anything: it is a label: what it is worth is what the hold of that sum in a sandbox is worth. -/
noncomputable def Try.pinned : Pinned := { name := "ytkdggbfknlcdaaa", sum := "a97c8cadef2c1c7e942ebb844e329727581ec9e0c76325416ce99e5ed12f4a17", checked := Try.checked }
namespace Rows
def none {H : Type} : Left H := { results := [], args := [] }

/-- 'saccharumlaw11.DisputeMeans': WHATEVER THE INPUT: true; the input reads as it did. -/
def disputeMeansSpec : ChangeSpec := { name := "disputeMeans", fn := fun _ => fun
  | [d1, d2] => { results := [.lit (.bool true)], args := [d1, d2] }
  | _ => none }
def disputeMeansRow : OpenClaim := { program := "ytkdggbfknlcdaaa", sum := "a97c8cadef2c1c7e942ebb844e329727581ec9e0c76325416ce99e5ed12f4a17", func := "saccharum/saccharumlaw11.DisputeMeans", spec := "disputeMeans", unfollowed := true, recurses := true, plainKeys := false, apart := false }
def DisputeMeansSaid : Prop := disputeMeansRow.holds Try.pinned (OpenSpec.ofChange disputeMeansSpec)

/-- ITS FALSE NEIGHBOUR: 'it returns false'. Refute it at one input. -/
def disputeMeansWrong : ChangeSpec := { name := "disputeMeans", fn := fun _ => fun
  | [d1, d2] => { results := [.lit (.bool false)], args := [d1, d2] }
  | _ => none }
def DisputeMeansWrongFalsely : Prop := disputeMeansRow.holds Try.pinned (OpenSpec.ofChange disputeMeansWrong)

/-- 'saccharumlaw11.DisputeMore': WHATEVER THE INPUT: true; the input reads as it did. -/
def disputeMoreSpec : ChangeSpec := { name := "disputeMore", fn := fun _ => fun
  | [d1, d2] => { results := [.lit (.bool true)], args := [d1, d2] }
  | _ => none }
def disputeMoreRow : OpenClaim := { program := "ytkdggbfknlcdaaa", sum := "a97c8cadef2c1c7e942ebb844e329727581ec9e0c76325416ce99e5ed12f4a17", func := "saccharum/saccharumlaw11.DisputeMore", spec := "disputeMore", unfollowed := true, recurses := true, plainKeys := false, apart := false }
def DisputeMoreSaid : Prop := disputeMoreRow.holds Try.pinned (OpenSpec.ofChange disputeMoreSpec)

/-- ITS FALSE NEIGHBOUR: 'it returns false'. Refute it at one input. -/
def disputeMoreWrong : ChangeSpec := { name := "disputeMore", fn := fun _ => fun
  | [d1, d2] => { results := [.lit (.bool false)], args := [d1, d2] }
  | _ => none }
def DisputeMoreWrongFalsely : Prop := disputeMoreRow.holds Try.pinned (OpenSpec.ofChange disputeMoreWrong)

/-- 'saccharumlaw11.DisputeWider': WHATEVER THE INPUT: true; the input reads as it did. -/
def disputeWiderSpec : ChangeSpec := { name := "disputeWider", fn := fun _ => fun
  | [d1, d2, d3] => { results := [.lit (.bool true)], args := [d1, d2, d3] }
  | _ => none }
def disputeWiderRow : OpenClaim := { program := "ytkdggbfknlcdaaa", sum := "a97c8cadef2c1c7e942ebb844e329727581ec9e0c76325416ce99e5ed12f4a17", func := "saccharum/saccharumlaw11.DisputeWider", spec := "disputeWider", unfollowed := true, recurses := true, plainKeys := false, apart := false }
def DisputeWiderSaid : Prop := disputeWiderRow.holds Try.pinned (OpenSpec.ofChange disputeWiderSpec)

/-- ITS FALSE NEIGHBOUR: 'it returns false'. Refute it at one input. -/
def disputeWiderWrong : ChangeSpec := { name := "disputeWider", fn := fun _ => fun
  | [d1, d2, d3] => { results := [.lit (.bool false)], args := [d1, d2, d3] }
  | _ => none }
def DisputeWiderWrongFalsely : Prop := disputeWiderRow.holds Try.pinned (OpenSpec.ofChange disputeWiderWrong)

/-- 'saccharumlaw11.DisputeFirst': WHATEVER THE INPUT: true; the input reads as it did. -/
def disputeFirstSpec : ChangeSpec := { name := "disputeFirst", fn := fun _ => fun
  | [d] => { results := [.lit (.bool true)], args := [d] }
  | _ => none }
def disputeFirstRow : OpenClaim := { program := "ytkdggbfknlcdaaa", sum := "a97c8cadef2c1c7e942ebb844e329727581ec9e0c76325416ce99e5ed12f4a17", func := "saccharum/saccharumlaw11.DisputeFirst", spec := "disputeFirst", unfollowed := true, recurses := true, plainKeys := false, apart := false }
def DisputeFirstSaid : Prop := disputeFirstRow.holds Try.pinned (OpenSpec.ofChange disputeFirstSpec)

/-- ITS FALSE NEIGHBOUR: 'it returns false'. Refute it at one input. -/
def disputeFirstWrong : ChangeSpec := { name := "disputeFirst", fn := fun _ => fun
  | [d] => { results := [.lit (.bool false)], args := [d] }
  | _ => none }
def DisputeFirstWrongFalsely : Prop := disputeFirstRow.holds Try.pinned (OpenSpec.ofChange disputeFirstWrong)

/-- 'saccharumlaw11.DisputeLeft': WHATEVER THE INPUT: true; the input reads as it did. -/
def disputeLeftSpec : ChangeSpec := { name := "disputeLeft", fn := fun _ => fun
  | [d1, d2, d3] => { results := [.lit (.bool true)], args := [d1, d2, d3] }
  | _ => none }
def disputeLeftRow : OpenClaim := { program := "ytkdggbfknlcdaaa", sum := "a97c8cadef2c1c7e942ebb844e329727581ec9e0c76325416ce99e5ed12f4a17", func := "saccharum/saccharumlaw11.DisputeLeft", spec := "disputeLeft", unfollowed := true, recurses := true, plainKeys := false, apart := false }
def DisputeLeftSaid : Prop := disputeLeftRow.holds Try.pinned (OpenSpec.ofChange disputeLeftSpec)

/-- ITS FALSE NEIGHBOUR: 'it returns false'. Refute it at one input. -/
def disputeLeftWrong : ChangeSpec := { name := "disputeLeft", fn := fun _ => fun
  | [d1, d2, d3] => { results := [.lit (.bool false)], args := [d1, d2, d3] }
  | _ => none }
def DisputeLeftWrongFalsely : Prop := disputeLeftRow.holds Try.pinned (OpenSpec.ofChange disputeLeftWrong)

/-- 'saccharumlaw11.DisputeWrongs': WHATEVER THE INPUT: true; the input reads as it did. -/
def disputeWrongsSpec : ChangeSpec := { name := "disputeWrongs", fn := fun _ => fun
  | [d1, d2] => { results := [.lit (.bool true)], args := [d1, d2] }
  | _ => none }
def disputeWrongsRow : OpenClaim := { program := "ytkdggbfknlcdaaa", sum := "a97c8cadef2c1c7e942ebb844e329727581ec9e0c76325416ce99e5ed12f4a17", func := "saccharum/saccharumlaw11.DisputeWrongs", spec := "disputeWrongs", unfollowed := true, recurses := true, plainKeys := false, apart := false }
def DisputeWrongsSaid : Prop := disputeWrongsRow.holds Try.pinned (OpenSpec.ofChange disputeWrongsSpec)

/-- ITS FALSE NEIGHBOUR: 'it returns false'. Refute it at one input. -/
def disputeWrongsWrong : ChangeSpec := { name := "disputeWrongs", fn := fun _ => fun
  | [d1, d2] => { results := [.lit (.bool false)], args := [d1, d2] }
  | _ => none }
def DisputeWrongsWrongFalsely : Prop := disputeWrongsRow.holds Try.pinned (OpenSpec.ofChange disputeWrongsWrong)

/-- 'saccharumlaw11.DisputeCharged': WHATEVER THE INPUT: true; the input reads as it did. -/
def disputeChargedSpec : ChangeSpec := { name := "disputeCharged", fn := fun _ => fun
  | [d1, d2, d3, d4] => { results := [.lit (.bool true)], args := [d1, d2, d3, d4] }
  | _ => none }
def disputeChargedRow : OpenClaim := { program := "ytkdggbfknlcdaaa", sum := "a97c8cadef2c1c7e942ebb844e329727581ec9e0c76325416ce99e5ed12f4a17", func := "saccharum/saccharumlaw11.DisputeCharged", spec := "disputeCharged", unfollowed := true, recurses := true, plainKeys := false, apart := false }
def DisputeChargedSaid : Prop := disputeChargedRow.holds Try.pinned (OpenSpec.ofChange disputeChargedSpec)

/-- ITS FALSE NEIGHBOUR: 'it returns false'. Refute it at one input. -/
def disputeChargedWrong : ChangeSpec := { name := "disputeCharged", fn := fun _ => fun
  | [d1, d2, d3, d4] => { results := [.lit (.bool false)], args := [d1, d2, d3, d4] }
  | _ => none }
def DisputeChargedWrongFalsely : Prop := disputeChargedRow.holds Try.pinned (OpenSpec.ofChange disputeChargedWrong)

/-- 'saccharumlaw11.DisputeNames': WHATEVER THE INPUT: true; the input reads as it did. -/
def disputeNamesSpec : ChangeSpec := { name := "disputeNames", fn := fun _ => fun
  | [] => { results := [.lit (.bool true)], args := [] }
  | _ => none }
def disputeNamesRow : OpenClaim := { program := "ytkdggbfknlcdaaa", sum := "a97c8cadef2c1c7e942ebb844e329727581ec9e0c76325416ce99e5ed12f4a17", func := "saccharum/saccharumlaw11.DisputeNames", spec := "disputeNames", unfollowed := true, recurses := true, plainKeys := false, apart := false }
def DisputeNamesSaid : Prop := disputeNamesRow.holds Try.pinned (OpenSpec.ofChange disputeNamesSpec)

/-- ITS FALSE NEIGHBOUR: 'it returns false'. Refute it at one input. -/
def disputeNamesWrong : ChangeSpec := { name := "disputeNames", fn := fun _ => fun
  | [] => { results := [.lit (.bool false)], args := [] }
  | _ => none }
def DisputeNamesWrongFalsely : Prop := disputeNamesRow.holds Try.pinned (OpenSpec.ofChange disputeNamesWrong)

/- THE SECOND FORM. 'bulk': how many values and letters a reading holds, each counted each time it is reached (what is shared counts as often as it is met; a slice's spare places count too). A statement '..UptoSaid' is the law's where the arguments, and the package variables that the reading takes, are together of bulk at most 1048576: NARROWER than '..Said'. Prove '..Said' where nothing that the law and all that it calls make is longer than what came in: it says more and counts as full. Else prove '..UptoSaid'. A law counts once. -/
mutual
def uptoBulk {H : Type} : DataW H → Nat
  | .lit (.string bytes) => bytes.length + 1
  | .lit _ => 1
  | .nil => 1
  | .ptr d => uptoBulk d + 1
  | .slice elems spare => uptoBulkAll elems + uptoBulkAll spare + 1
  | .agg parts => uptoBulkAll parts + 1
  | .iface _ d => uptoBulk d + 1
  | .map entries => uptoBulkEntries entries + 1
  | .held _ => 1
def uptoBulkAll {H : Type} : List (DataW H) → Nat
  | [] => 0
  | d :: r => uptoBulk d + uptoBulkAll r
def uptoBulkEntries {H : Type} : List (Lit × DataW H) → Nat
  | [] => 0
  | x :: r => uptoBulkEntry x + uptoBulkEntries r
def uptoBulkEntry {H : Type} : Lit × DataW H → Nat
  | (.string bytes, d) => bytes.length + uptoBulk d + 1
  | (_, d) => uptoBulk d + 1
 end
def uptoSmall : (H : Type) → List (DataW H) → Bool := fun _ ds => decide (uptoBulkAll ds ≤ 1048576)
def OpenSpec.upto (s : _root_.Go.ChangeSpec) : _root_.Go.OpenSpec := { _root_.Go.OpenSpec.ofChange s with cond := some uptoSmall }

/-- 'saccharumlaw11.DisputeMeans', WHERE WHAT IT READS IS OF BULK AT MOST 1048576: true; the input reads as it did. -/
def disputeMeansUptoRow : OpenClaim := { program := "ytkdggbfknlcdaaa", sum := "a97c8cadef2c1c7e942ebb844e329727581ec9e0c76325416ce99e5ed12f4a17", func := "saccharum/saccharumlaw11.DisputeMeans", spec := "disputeMeans", unfollowed := true, recurses := true, plainKeys := false, apart := false, narrowed := true }
def DisputeMeansUptoSaid : Prop := disputeMeansUptoRow.holds Try.pinned (OpenSpec.upto disputeMeansSpec)

/-- 'saccharumlaw11.DisputeMore', WHERE WHAT IT READS IS OF BULK AT MOST 1048576: true; the input reads as it did. -/
def disputeMoreUptoRow : OpenClaim := { program := "ytkdggbfknlcdaaa", sum := "a97c8cadef2c1c7e942ebb844e329727581ec9e0c76325416ce99e5ed12f4a17", func := "saccharum/saccharumlaw11.DisputeMore", spec := "disputeMore", unfollowed := true, recurses := true, plainKeys := false, apart := false, narrowed := true }
def DisputeMoreUptoSaid : Prop := disputeMoreUptoRow.holds Try.pinned (OpenSpec.upto disputeMoreSpec)

/-- 'saccharumlaw11.DisputeWider', WHERE WHAT IT READS IS OF BULK AT MOST 1048576: true; the input reads as it did. -/
def disputeWiderUptoRow : OpenClaim := { program := "ytkdggbfknlcdaaa", sum := "a97c8cadef2c1c7e942ebb844e329727581ec9e0c76325416ce99e5ed12f4a17", func := "saccharum/saccharumlaw11.DisputeWider", spec := "disputeWider", unfollowed := true, recurses := true, plainKeys := false, apart := false, narrowed := true }
def DisputeWiderUptoSaid : Prop := disputeWiderUptoRow.holds Try.pinned (OpenSpec.upto disputeWiderSpec)

/-- 'saccharumlaw11.DisputeFirst', WHERE WHAT IT READS IS OF BULK AT MOST 1048576: true; the input reads as it did. -/
def disputeFirstUptoRow : OpenClaim := { program := "ytkdggbfknlcdaaa", sum := "a97c8cadef2c1c7e942ebb844e329727581ec9e0c76325416ce99e5ed12f4a17", func := "saccharum/saccharumlaw11.DisputeFirst", spec := "disputeFirst", unfollowed := true, recurses := true, plainKeys := false, apart := false, narrowed := true }
def DisputeFirstUptoSaid : Prop := disputeFirstUptoRow.holds Try.pinned (OpenSpec.upto disputeFirstSpec)

/-- 'saccharumlaw11.DisputeLeft', WHERE WHAT IT READS IS OF BULK AT MOST 1048576: true; the input reads as it did. -/
def disputeLeftUptoRow : OpenClaim := { program := "ytkdggbfknlcdaaa", sum := "a97c8cadef2c1c7e942ebb844e329727581ec9e0c76325416ce99e5ed12f4a17", func := "saccharum/saccharumlaw11.DisputeLeft", spec := "disputeLeft", unfollowed := true, recurses := true, plainKeys := false, apart := false, narrowed := true }
def DisputeLeftUptoSaid : Prop := disputeLeftUptoRow.holds Try.pinned (OpenSpec.upto disputeLeftSpec)

/-- 'saccharumlaw11.DisputeWrongs', WHERE WHAT IT READS IS OF BULK AT MOST 1048576: true; the input reads as it did. -/
def disputeWrongsUptoRow : OpenClaim := { program := "ytkdggbfknlcdaaa", sum := "a97c8cadef2c1c7e942ebb844e329727581ec9e0c76325416ce99e5ed12f4a17", func := "saccharum/saccharumlaw11.DisputeWrongs", spec := "disputeWrongs", unfollowed := true, recurses := true, plainKeys := false, apart := false, narrowed := true }
def DisputeWrongsUptoSaid : Prop := disputeWrongsUptoRow.holds Try.pinned (OpenSpec.upto disputeWrongsSpec)

/-- 'saccharumlaw11.DisputeCharged', WHERE WHAT IT READS IS OF BULK AT MOST 1048576: true; the input reads as it did. -/
def disputeChargedUptoRow : OpenClaim := { program := "ytkdggbfknlcdaaa", sum := "a97c8cadef2c1c7e942ebb844e329727581ec9e0c76325416ce99e5ed12f4a17", func := "saccharum/saccharumlaw11.DisputeCharged", spec := "disputeCharged", unfollowed := true, recurses := true, plainKeys := false, apart := false, narrowed := true }
def DisputeChargedUptoSaid : Prop := disputeChargedUptoRow.holds Try.pinned (OpenSpec.upto disputeChargedSpec)

/-- 'saccharumlaw11.DisputeNames', WHERE WHAT IT READS IS OF BULK AT MOST 1048576: true; the input reads as it did. -/
def disputeNamesUptoRow : OpenClaim := { program := "ytkdggbfknlcdaaa", sum := "a97c8cadef2c1c7e942ebb844e329727581ec9e0c76325416ce99e5ed12f4a17", func := "saccharum/saccharumlaw11.DisputeNames", spec := "disputeNames", unfollowed := true, recurses := true, plainKeys := false, apart := false, narrowed := true }
def DisputeNamesUptoSaid : Prop := disputeNamesUptoRow.holds Try.pinned (OpenSpec.upto disputeNamesSpec)

end Rows
end Go.Proofs.Ytkdggbfknlcdaaa
