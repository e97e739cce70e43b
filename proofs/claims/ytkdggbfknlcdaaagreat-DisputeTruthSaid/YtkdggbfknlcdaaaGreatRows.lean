/-
  No cell of these rows narrows 'for every input' (looked for: loops, veiled, ifaces, maps, wideKeys, modest, calm, conditions, laid).
  DERIVED. THE GIVEN ROWS OF THIS SEAT. 6 by the template 'for every input the law returns true; each argument reads behind the call as it read before'; 0 by the template 'total and deterministic' (their statements: YtkdggbfknlcdaaaGreatTotals.lean).
  GIVEN WITH THE SEED: the statements are not yours to turn. If you find one false, say at which input.
  Laid BY PROGRAM, IN A SANDBOX (cutbox-rows.mjs): the forced cells as the released guide's own fill.sh prints them over the translation 8398f36b5b9c1b22… (all of the seat's roots in one cut). By AI agents, Wed Nov 11 2026. No macro, syntax, notation, axiom, sorry.
-/
import Derived.Test.YtkdggbfknlcdaaaGreatChecked
import GoSem.Claim
import GoSem.ClaimJoined
import GoSem.ClaimMapViews
import Derived.JoinedTies
import Derived.KernelRfl
namespace Go.Proofs.YtkdggbfknlcdaaaGreat
/- THE CELL 'sum', in the pinned program and in every row, IS THE sha256 OF THE DUMP (.gsa) THAT YtkdggbfknlcdaaaGreatProg.lean LOADS. Nothing in Lean hashes anything: it is a label: what it is worth is what the hold of that sum in a sandbox is worth. -/
noncomputable def Tryz.pinned : Pinned := { name := "ytkdggbfknlcdaaagreat", sum := "8398f36b5b9c1b22262a9e41643a90bfdb0865b1396f0ccf48096cb233b3549e", checked := Tryz.checked }
namespace Rows
def none {H : Type} : Left H := { results := [], args := [] }

/-- 'saccharumlaw11.DisputeLeaves': WHATEVER THE INPUT: true; the input reads as it did. -/
def disputeLeavesSpec : ChangeSpec := { name := "disputeLeaves", fn := fun _ => fun
  | [d] => { results := [.lit (.bool true)], args := [d] }
  | _ => none }
def disputeLeavesRow : OpenClaim := { program := "ytkdggbfknlcdaaagreat", sum := "8398f36b5b9c1b22262a9e41643a90bfdb0865b1396f0ccf48096cb233b3549e", func := "saccharum/saccharumlaw11.DisputeLeaves", spec := "disputeLeaves", unfollowed := true, recurses := true, plainKeys := false, apart := false }
def DisputeLeavesSaid : Prop := disputeLeavesRow.holds Tryz.pinned (OpenSpec.ofChange disputeLeavesSpec)

/-- ITS FALSE NEIGHBOUR: 'it returns false'. Refute it at one input. -/
def disputeLeavesWrong : ChangeSpec := { name := "disputeLeaves", fn := fun _ => fun
  | [d] => { results := [.lit (.bool false)], args := [d] }
  | _ => none }
def DisputeLeavesWrongFalsely : Prop := disputeLeavesRow.holds Tryz.pinned (OpenSpec.ofChange disputeLeavesWrong)

/-- 'saccharumlaw11.DisputeBlames': WHATEVER THE INPUT: true; the input reads as it did. -/
def disputeBlamesSpec : ChangeSpec := { name := "disputeBlames", fn := fun _ => fun
  | [d1, d2] => { results := [.lit (.bool true)], args := [d1, d2] }
  | _ => none }
def disputeBlamesRow : OpenClaim := { program := "ytkdggbfknlcdaaagreat", sum := "8398f36b5b9c1b22262a9e41643a90bfdb0865b1396f0ccf48096cb233b3549e", func := "saccharum/saccharumlaw11.DisputeBlames", spec := "disputeBlames", unfollowed := true, recurses := true, plainKeys := false, apart := false }
def DisputeBlamesSaid : Prop := disputeBlamesRow.holds Tryz.pinned (OpenSpec.ofChange disputeBlamesSpec)

/-- ITS FALSE NEIGHBOUR: 'it returns false'. Refute it at one input. -/
def disputeBlamesWrong : ChangeSpec := { name := "disputeBlames", fn := fun _ => fun
  | [d1, d2] => { results := [.lit (.bool false)], args := [d1, d2] }
  | _ => none }
def DisputeBlamesWrongFalsely : Prop := disputeBlamesRow.holds Tryz.pinned (OpenSpec.ofChange disputeBlamesWrong)

/-- 'saccharumlaw11.DisputeCharges': WHATEVER THE INPUT: true; the input reads as it did. -/
def disputeChargesSpec : ChangeSpec := { name := "disputeCharges", fn := fun _ => fun
  | [d1, d2, d3] => { results := [.lit (.bool true)], args := [d1, d2, d3] }
  | _ => none }
def disputeChargesRow : OpenClaim := { program := "ytkdggbfknlcdaaagreat", sum := "8398f36b5b9c1b22262a9e41643a90bfdb0865b1396f0ccf48096cb233b3549e", func := "saccharum/saccharumlaw11.DisputeCharges", spec := "disputeCharges", unfollowed := true, recurses := true, plainKeys := false, apart := false }
def DisputeChargesSaid : Prop := disputeChargesRow.holds Tryz.pinned (OpenSpec.ofChange disputeChargesSpec)

/-- ITS FALSE NEIGHBOUR: 'it returns false'. Refute it at one input. -/
def disputeChargesWrong : ChangeSpec := { name := "disputeCharges", fn := fun _ => fun
  | [d1, d2, d3] => { results := [.lit (.bool false)], args := [d1, d2, d3] }
  | _ => none }
def DisputeChargesWrongFalsely : Prop := disputeChargesRow.holds Tryz.pinned (OpenSpec.ofChange disputeChargesWrong)

/-- 'saccharumlaw11.DisputeTruth': WHATEVER THE INPUT: true; the input reads as it did. -/
def disputeTruthSpec : ChangeSpec := { name := "disputeTruth", fn := fun _ => fun
  | [d1, d2, d3] => { results := [.lit (.bool true)], args := [d1, d2, d3] }
  | _ => none }
def disputeTruthRow : OpenClaim := { program := "ytkdggbfknlcdaaagreat", sum := "8398f36b5b9c1b22262a9e41643a90bfdb0865b1396f0ccf48096cb233b3549e", func := "saccharum/saccharumlaw11.DisputeTruth", spec := "disputeTruth", unfollowed := true, recurses := true, plainKeys := false, apart := false }
def DisputeTruthSaid : Prop := disputeTruthRow.holds Tryz.pinned (OpenSpec.ofChange disputeTruthSpec)

/-- ITS FALSE NEIGHBOUR: 'it returns false'. Refute it at one input. -/
def disputeTruthWrong : ChangeSpec := { name := "disputeTruth", fn := fun _ => fun
  | [d1, d2, d3] => { results := [.lit (.bool false)], args := [d1, d2, d3] }
  | _ => none }
def DisputeTruthWrongFalsely : Prop := disputeTruthRow.holds Tryz.pinned (OpenSpec.ofChange disputeTruthWrong)

/-- 'saccharumlaw11.DisputeBounds': WHATEVER THE INPUT: true; the input reads as it did. -/
def disputeBoundsSpec : ChangeSpec := { name := "disputeBounds", fn := fun _ => fun
  | [d1, d2, d3, d4] => { results := [.lit (.bool true)], args := [d1, d2, d3, d4] }
  | _ => none }
def disputeBoundsRow : OpenClaim := { program := "ytkdggbfknlcdaaagreat", sum := "8398f36b5b9c1b22262a9e41643a90bfdb0865b1396f0ccf48096cb233b3549e", func := "saccharum/saccharumlaw11.DisputeBounds", spec := "disputeBounds", unfollowed := true, recurses := true, plainKeys := false, apart := false }
def DisputeBoundsSaid : Prop := disputeBoundsRow.holds Tryz.pinned (OpenSpec.ofChange disputeBoundsSpec)

/-- ITS FALSE NEIGHBOUR: 'it returns false'. Refute it at one input. -/
def disputeBoundsWrong : ChangeSpec := { name := "disputeBounds", fn := fun _ => fun
  | [d1, d2, d3, d4] => { results := [.lit (.bool false)], args := [d1, d2, d3, d4] }
  | _ => none }
def DisputeBoundsWrongFalsely : Prop := disputeBoundsRow.holds Tryz.pinned (OpenSpec.ofChange disputeBoundsWrong)

/-- 'saccharumlaw11.DisputeEnds': WHATEVER THE INPUT: true; the input reads as it did. -/
def disputeEndsSpec : ChangeSpec := { name := "disputeEnds", fn := fun _ => fun
  | [d1, d2, d3, d4] => { results := [.lit (.bool true)], args := [d1, d2, d3, d4] }
  | _ => none }
def disputeEndsRow : OpenClaim := { program := "ytkdggbfknlcdaaagreat", sum := "8398f36b5b9c1b22262a9e41643a90bfdb0865b1396f0ccf48096cb233b3549e", func := "saccharum/saccharumlaw11.DisputeEnds", spec := "disputeEnds", unfollowed := true, recurses := true, plainKeys := false, apart := false }
def DisputeEndsSaid : Prop := disputeEndsRow.holds Tryz.pinned (OpenSpec.ofChange disputeEndsSpec)

/-- ITS FALSE NEIGHBOUR: 'it returns false'. Refute it at one input. -/
def disputeEndsWrong : ChangeSpec := { name := "disputeEnds", fn := fun _ => fun
  | [d1, d2, d3, d4] => { results := [.lit (.bool false)], args := [d1, d2, d3, d4] }
  | _ => none }
def DisputeEndsWrongFalsely : Prop := disputeEndsRow.holds Tryz.pinned (OpenSpec.ofChange disputeEndsWrong)

/- THE SECOND FORM. 'bulk': how many values and letters a reading holds, each counted each time it is reached (what is shared counts as often as it is met; a slice's spare places count too). A statement '..UptoSaid' is the law's where the arguments, and the package variables that the reading takes, are together of bulk at most 1048576: NARROWER than '..Said'. Prove '..Said' where nothing that the law and all that it calls make is longer than what came in: it says more and counts as full. Else prove '..UptoSaid'. A law counts once. -/
mutual
def uptoBulk {H : Type} : DataW H → Nat
  | .lit (.string bytes) => bytes.length + 1
  | .lit _ => 1
  | .nil => 1
  | .ptr d => uptoBulk d + 1
  | .slice elems spare => uptoBulkAll elems + uptoBulkAll spare + 1
  | .agg parts => uptoBulkAll parts + 1
  | .iface _ d => uptoBulk d + 1
  | .map entries => uptoBulkEntries entries + 1
  | .held _ => 1
def uptoBulkAll {H : Type} : List (DataW H) → Nat
  | [] => 0
  | d :: r => uptoBulk d + uptoBulkAll r
def uptoBulkEntries {H : Type} : List (Lit × DataW H) → Nat
  | [] => 0
  | x :: r => uptoBulkEntry x + uptoBulkEntries r
def uptoBulkEntry {H : Type} : Lit × DataW H → Nat
  | (.string bytes, d) => bytes.length + uptoBulk d + 1
  | (_, d) => uptoBulk d + 1
 end
def uptoSmall : (H : Type) → List (DataW H) → Bool := fun _ ds => decide (uptoBulkAll ds ≤ 1048576)
def OpenSpec.upto (s : _root_.Go.ChangeSpec) : _root_.Go.OpenSpec := { _root_.Go.OpenSpec.ofChange s with cond := some uptoSmall }

/-- 'saccharumlaw11.DisputeLeaves', WHERE WHAT IT READS IS OF BULK AT MOST 1048576: true; the input reads as it did. -/
def disputeLeavesUptoRow : OpenClaim := { program := "ytkdggbfknlcdaaagreat", sum := "8398f36b5b9c1b22262a9e41643a90bfdb0865b1396f0ccf48096cb233b3549e", func := "saccharum/saccharumlaw11.DisputeLeaves", spec := "disputeLeaves", unfollowed := true, recurses := true, plainKeys := false, apart := false, narrowed := true }
def DisputeLeavesUptoSaid : Prop := disputeLeavesUptoRow.holds Tryz.pinned (OpenSpec.upto disputeLeavesSpec)

/-- 'saccharumlaw11.DisputeBlames', WHERE WHAT IT READS IS OF BULK AT MOST 1048576: true; the input reads as it did. -/
def disputeBlamesUptoRow : OpenClaim := { program := "ytkdggbfknlcdaaagreat", sum := "8398f36b5b9c1b22262a9e41643a90bfdb0865b1396f0ccf48096cb233b3549e", func := "saccharum/saccharumlaw11.DisputeBlames", spec := "disputeBlames", unfollowed := true, recurses := true, plainKeys := false, apart := false, narrowed := true }
def DisputeBlamesUptoSaid : Prop := disputeBlamesUptoRow.holds Tryz.pinned (OpenSpec.upto disputeBlamesSpec)

/-- 'saccharumlaw11.DisputeCharges', WHERE WHAT IT READS IS OF BULK AT MOST 1048576: true; the input reads as it did. -/
def disputeChargesUptoRow : OpenClaim := { program := "ytkdggbfknlcdaaagreat", sum := "8398f36b5b9c1b22262a9e41643a90bfdb0865b1396f0ccf48096cb233b3549e", func := "saccharum/saccharumlaw11.DisputeCharges", spec := "disputeCharges", unfollowed := true, recurses := true, plainKeys := false, apart := false, narrowed := true }
def DisputeChargesUptoSaid : Prop := disputeChargesUptoRow.holds Tryz.pinned (OpenSpec.upto disputeChargesSpec)

/-- 'saccharumlaw11.DisputeTruth', WHERE WHAT IT READS IS OF BULK AT MOST 1048576: true; the input reads as it did. -/
def disputeTruthUptoRow : OpenClaim := { program := "ytkdggbfknlcdaaagreat", sum := "8398f36b5b9c1b22262a9e41643a90bfdb0865b1396f0ccf48096cb233b3549e", func := "saccharum/saccharumlaw11.DisputeTruth", spec := "disputeTruth", unfollowed := true, recurses := true, plainKeys := false, apart := false, narrowed := true }
def DisputeTruthUptoSaid : Prop := disputeTruthUptoRow.holds Tryz.pinned (OpenSpec.upto disputeTruthSpec)

/-- 'saccharumlaw11.DisputeBounds', WHERE WHAT IT READS IS OF BULK AT MOST 1048576: true; the input reads as it did. -/
def disputeBoundsUptoRow : OpenClaim := { program := "ytkdggbfknlcdaaagreat", sum := "8398f36b5b9c1b22262a9e41643a90bfdb0865b1396f0ccf48096cb233b3549e", func := "saccharum/saccharumlaw11.DisputeBounds", spec := "disputeBounds", unfollowed := true, recurses := true, plainKeys := false, apart := false, narrowed := true }
def DisputeBoundsUptoSaid : Prop := disputeBoundsUptoRow.holds Tryz.pinned (OpenSpec.upto disputeBoundsSpec)

/-- 'saccharumlaw11.DisputeEnds', WHERE WHAT IT READS IS OF BULK AT MOST 1048576: true; the input reads as it did. -/
def disputeEndsUptoRow : OpenClaim := { program := "ytkdggbfknlcdaaagreat", sum := "8398f36b5b9c1b22262a9e41643a90bfdb0865b1396f0ccf48096cb233b3549e", func := "saccharum/saccharumlaw11.DisputeEnds", spec := "disputeEnds", unfollowed := true, recurses := true, plainKeys := false, apart := false, narrowed := true }
def DisputeEndsUptoSaid : Prop := disputeEndsUptoRow.holds Tryz.pinned (OpenSpec.upto disputeEndsSpec)

end Rows
end Go.Proofs.YtkdggbfknlcdaaaGreat
