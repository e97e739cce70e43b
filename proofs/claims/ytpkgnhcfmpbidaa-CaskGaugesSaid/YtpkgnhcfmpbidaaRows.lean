/-
  No cell of these rows narrows 'for every input' (looked for: loops, veiled, ifaces, maps, wideKeys, modest, calm, conditions, laid).
  DERIVED. THE GIVEN ROWS OF THIS SEAT. 12 by the template 'for every input the law returns true; each argument reads behind the call as it read before'; 0 by the template 'total and deterministic' (their statements: YtpkgnhcfmpbidaaTotals.lean).
  GIVEN WITH THE SEED: the statements are not yours to turn. If you find one false, say at which input.
  Laid BY PROGRAM, IN A SANDBOX (cutbox-rows.mjs): the forced cells as the released guide's own fill.sh prints them over the translation 21000ef0487ab0e8… (all of the seat's roots in one cut). By AI agents, Wed Nov 11 2026. No macro, syntax, notation, axiom, sorry.
-/
import Derived.Test.YtpkgnhcfmpbidaaChecked
import GoSem.Claim
import GoSem.ClaimJoined
import GoSem.ClaimMapViews
import Derived.JoinedTies
import Derived.KernelRfl
namespace Go.Proofs.Ytpkgnhcfmpbidaa
/- THE CELL 'sum', in the pinned program and in every row, IS THE sha256 OF THE DUMP (.gsa) THAT YtpkgnhcfmpbidaaProg.lean LOADS. Nothing in Lean hashes anything: it is a label: what it is worth is what the hold of that sum in a sandbox is worth. -/
noncomputable def Try.pinned : Pinned := { name := "ytpkgnhcfmpbidaa", sum := "21000ef0487ab0e84ae6f5a13c87ca78854f28c34e7810f35884f5ed7a8efabe", checked := Try.checked }
namespace Rows
def none {H : Type} : Left H := { results := [], args := [] }

/-- 'saccharumlaw05.CaskGauges': WHATEVER THE INPUT: true; the input reads as it did. -/
def caskGaugesSpec : ChangeSpec := { name := "caskGauges", fn := fun _ => fun
  | [d1, d2, d3, d4, d5] => { results := [.lit (.bool true)], args := [d1, d2, d3, d4, d5] }
  | _ => none }
def caskGaugesRow : OpenClaim := { program := "ytpkgnhcfmpbidaa", sum := "21000ef0487ab0e84ae6f5a13c87ca78854f28c34e7810f35884f5ed7a8efabe", func := "saccharum/saccharumlaw05.CaskGauges", spec := "caskGauges", unfollowed := true, recurses := true, plainKeys := false, apart := false }
def CaskGaugesSaid : Prop := caskGaugesRow.holds Try.pinned (OpenSpec.ofChange caskGaugesSpec)

/-- ITS FALSE NEIGHBOUR: 'it returns false'. Refute it at one input. -/
def caskGaugesWrong : ChangeSpec := { name := "caskGauges", fn := fun _ => fun
  | [d1, d2, d3, d4, d5] => { results := [.lit (.bool false)], args := [d1, d2, d3, d4, d5] }
  | _ => none }
def CaskGaugesWrongFalsely : Prop := caskGaugesRow.holds Try.pinned (OpenSpec.ofChange caskGaugesWrong)

/-- 'saccharumlaw05.CaskBounds': WHATEVER THE INPUT: true; the input reads as it did. -/
def caskBoundsSpec : ChangeSpec := { name := "caskBounds", fn := fun _ => fun
  | [d1, d2] => { results := [.lit (.bool true)], args := [d1, d2] }
  | _ => none }
def caskBoundsRow : OpenClaim := { program := "ytpkgnhcfmpbidaa", sum := "21000ef0487ab0e84ae6f5a13c87ca78854f28c34e7810f35884f5ed7a8efabe", func := "saccharum/saccharumlaw05.CaskBounds", spec := "caskBounds", unfollowed := true, recurses := true, plainKeys := false, apart := false }
def CaskBoundsSaid : Prop := caskBoundsRow.holds Try.pinned (OpenSpec.ofChange caskBoundsSpec)

/-- ITS FALSE NEIGHBOUR: 'it returns false'. Refute it at one input. -/
def caskBoundsWrong : ChangeSpec := { name := "caskBounds", fn := fun _ => fun
  | [d1, d2] => { results := [.lit (.bool false)], args := [d1, d2] }
  | _ => none }
def CaskBoundsWrongFalsely : Prop := caskBoundsRow.holds Try.pinned (OpenSpec.ofChange caskBoundsWrong)

/-- 'saccharumlaw05.CaskDeeper': WHATEVER THE INPUT: true; the input reads as it did. -/
def caskDeeperSpec : ChangeSpec := { name := "caskDeeper", fn := fun _ => fun
  | [d1, d2, d3, d4, d5] => { results := [.lit (.bool true)], args := [d1, d2, d3, d4, d5] }
  | _ => none }
def caskDeeperRow : OpenClaim := { program := "ytpkgnhcfmpbidaa", sum := "21000ef0487ab0e84ae6f5a13c87ca78854f28c34e7810f35884f5ed7a8efabe", func := "saccharum/saccharumlaw05.CaskDeeper", spec := "caskDeeper", unfollowed := true, recurses := true, plainKeys := false, apart := false }
def CaskDeeperSaid : Prop := caskDeeperRow.holds Try.pinned (OpenSpec.ofChange caskDeeperSpec)

/-- ITS FALSE NEIGHBOUR: 'it returns false'. Refute it at one input. -/
def caskDeeperWrong : ChangeSpec := { name := "caskDeeper", fn := fun _ => fun
  | [d1, d2, d3, d4, d5] => { results := [.lit (.bool false)], args := [d1, d2, d3, d4, d5] }
  | _ => none }
def CaskDeeperWrongFalsely : Prop := caskDeeperRow.holds Try.pinned (OpenSpec.ofChange caskDeeperWrong)

/-- 'saccharumlaw05.CaskMore': WHATEVER THE INPUT: true; the input reads as it did. -/
def caskMoreSpec : ChangeSpec := { name := "caskMore", fn := fun _ => fun
  | [d1, d2] => { results := [.lit (.bool true)], args := [d1, d2] }
  | _ => none }
def caskMoreRow : OpenClaim := { program := "ytpkgnhcfmpbidaa", sum := "21000ef0487ab0e84ae6f5a13c87ca78854f28c34e7810f35884f5ed7a8efabe", func := "saccharum/saccharumlaw05.CaskMore", spec := "caskMore", unfollowed := true, recurses := true, plainKeys := false, apart := false }
def CaskMoreSaid : Prop := caskMoreRow.holds Try.pinned (OpenSpec.ofChange caskMoreSpec)

/-- ITS FALSE NEIGHBOUR: 'it returns false'. Refute it at one input. -/
def caskMoreWrong : ChangeSpec := { name := "caskMore", fn := fun _ => fun
  | [d1, d2] => { results := [.lit (.bool false)], args := [d1, d2] }
  | _ => none }
def CaskMoreWrongFalsely : Prop := caskMoreRow.holds Try.pinned (OpenSpec.ofChange caskMoreWrong)

/-- 'saccharumlaw05.CaskWider': WHATEVER THE INPUT: true; the input reads as it did. -/
def caskWiderSpec : ChangeSpec := { name := "caskWider", fn := fun _ => fun
  | [d1, d2, d3] => { results := [.lit (.bool true)], args := [d1, d2, d3] }
  | _ => none }
def caskWiderRow : OpenClaim := { program := "ytpkgnhcfmpbidaa", sum := "21000ef0487ab0e84ae6f5a13c87ca78854f28c34e7810f35884f5ed7a8efabe", func := "saccharum/saccharumlaw05.CaskWider", spec := "caskWider", unfollowed := true, recurses := true, plainKeys := false, apart := false }
def CaskWiderSaid : Prop := caskWiderRow.holds Try.pinned (OpenSpec.ofChange caskWiderSpec)

/-- ITS FALSE NEIGHBOUR: 'it returns false'. Refute it at one input. -/
def caskWiderWrong : ChangeSpec := { name := "caskWider", fn := fun _ => fun
  | [d1, d2, d3] => { results := [.lit (.bool false)], args := [d1, d2, d3] }
  | _ => none }
def CaskWiderWrongFalsely : Prop := caskWiderRow.holds Try.pinned (OpenSpec.ofChange caskWiderWrong)

/-- 'saccharumlaw05.CaskOver': WHATEVER THE INPUT: true; the input reads as it did. -/
def caskOverSpec : ChangeSpec := { name := "caskOver", fn := fun _ => fun
  | [d1, d2, d3] => { results := [.lit (.bool true)], args := [d1, d2, d3] }
  | _ => none }
def caskOverRow : OpenClaim := { program := "ytpkgnhcfmpbidaa", sum := "21000ef0487ab0e84ae6f5a13c87ca78854f28c34e7810f35884f5ed7a8efabe", func := "saccharum/saccharumlaw05.CaskOver", spec := "caskOver", unfollowed := true, recurses := true, plainKeys := false, apart := false }
def CaskOverSaid : Prop := caskOverRow.holds Try.pinned (OpenSpec.ofChange caskOverSpec)

/-- ITS FALSE NEIGHBOUR: 'it returns false'. Refute it at one input. -/
def caskOverWrong : ChangeSpec := { name := "caskOver", fn := fun _ => fun
  | [d1, d2, d3] => { results := [.lit (.bool false)], args := [d1, d2, d3] }
  | _ => none }
def CaskOverWrongFalsely : Prop := caskOverRow.holds Try.pinned (OpenSpec.ofChange caskOverWrong)

/-- 'saccharumlaw05.CaskPlays': WHATEVER THE INPUT: true; the input reads as it did. -/
def caskPlaysSpec : ChangeSpec := { name := "caskPlays", fn := fun _ => fun
  | [d1, d2] => { results := [.lit (.bool true)], args := [d1, d2] }
  | _ => none }
def caskPlaysRow : OpenClaim := { program := "ytpkgnhcfmpbidaa", sum := "21000ef0487ab0e84ae6f5a13c87ca78854f28c34e7810f35884f5ed7a8efabe", func := "saccharum/saccharumlaw05.CaskPlays", spec := "caskPlays", unfollowed := true, recurses := true, plainKeys := false, apart := false }
def CaskPlaysSaid : Prop := caskPlaysRow.holds Try.pinned (OpenSpec.ofChange caskPlaysSpec)

/-- ITS FALSE NEIGHBOUR: 'it returns false'. Refute it at one input. -/
def caskPlaysWrong : ChangeSpec := { name := "caskPlays", fn := fun _ => fun
  | [d1, d2] => { results := [.lit (.bool false)], args := [d1, d2] }
  | _ => none }
def CaskPlaysWrongFalsely : Prop := caskPlaysRow.holds Try.pinned (OpenSpec.ofChange caskPlaysWrong)

/-- 'saccharumlaw05.CaskTruth': WHATEVER THE INPUT: true; the input reads as it did. -/
def caskTruthSpec : ChangeSpec := { name := "caskTruth", fn := fun _ => fun
  | [d1, d2] => { results := [.lit (.bool true)], args := [d1, d2] }
  | _ => none }
def caskTruthRow : OpenClaim := { program := "ytpkgnhcfmpbidaa", sum := "21000ef0487ab0e84ae6f5a13c87ca78854f28c34e7810f35884f5ed7a8efabe", func := "saccharum/saccharumlaw05.CaskTruth", spec := "caskTruth", unfollowed := true, recurses := true, plainKeys := false, apart := false }
def CaskTruthSaid : Prop := caskTruthRow.holds Try.pinned (OpenSpec.ofChange caskTruthSpec)

/-- ITS FALSE NEIGHBOUR: 'it returns false'. Refute it at one input. -/
def caskTruthWrong : ChangeSpec := { name := "caskTruth", fn := fun _ => fun
  | [d1, d2] => { results := [.lit (.bool false)], args := [d1, d2] }
  | _ => none }
def CaskTruthWrongFalsely : Prop := caskTruthRow.holds Try.pinned (OpenSpec.ofChange caskTruthWrong)

/-- 'saccharumlaw05.CaskWrongs': WHATEVER THE INPUT: true; the input reads as it did. -/
def caskWrongsSpec : ChangeSpec := { name := "caskWrongs", fn := fun _ => fun
  | [d] => { results := [.lit (.bool true)], args := [d] }
  | _ => none }
def caskWrongsRow : OpenClaim := { program := "ytpkgnhcfmpbidaa", sum := "21000ef0487ab0e84ae6f5a13c87ca78854f28c34e7810f35884f5ed7a8efabe", func := "saccharum/saccharumlaw05.CaskWrongs", spec := "caskWrongs", unfollowed := true, recurses := true, plainKeys := false, apart := false }
def CaskWrongsSaid : Prop := caskWrongsRow.holds Try.pinned (OpenSpec.ofChange caskWrongsSpec)

/-- ITS FALSE NEIGHBOUR: 'it returns false'. Refute it at one input. -/
def caskWrongsWrong : ChangeSpec := { name := "caskWrongs", fn := fun _ => fun
  | [d] => { results := [.lit (.bool false)], args := [d] }
  | _ => none }
def CaskWrongsWrongFalsely : Prop := caskWrongsRow.holds Try.pinned (OpenSpec.ofChange caskWrongsWrong)

/-- 'saccharumlaw05.CaskNames': WHATEVER THE INPUT: true; the input reads as it did. -/
def caskNamesSpec : ChangeSpec := { name := "caskNames", fn := fun _ => fun
  | [] => { results := [.lit (.bool true)], args := [] }
  | _ => none }
def caskNamesRow : OpenClaim := { program := "ytpkgnhcfmpbidaa", sum := "21000ef0487ab0e84ae6f5a13c87ca78854f28c34e7810f35884f5ed7a8efabe", func := "saccharum/saccharumlaw05.CaskNames", spec := "caskNames", unfollowed := true, recurses := true, plainKeys := false, apart := false }
def CaskNamesSaid : Prop := caskNamesRow.holds Try.pinned (OpenSpec.ofChange caskNamesSpec)

/-- ITS FALSE NEIGHBOUR: 'it returns false'. Refute it at one input. -/
def caskNamesWrong : ChangeSpec := { name := "caskNames", fn := fun _ => fun
  | [] => { results := [.lit (.bool false)], args := [] }
  | _ => none }
def CaskNamesWrongFalsely : Prop := caskNamesRow.holds Try.pinned (OpenSpec.ofChange caskNamesWrong)

/-- 'saccharumlaw05.CaskFirst': WHATEVER THE INPUT: true; the input reads as it did. -/
def caskFirstSpec : ChangeSpec := { name := "caskFirst", fn := fun _ => fun
  | [d] => { results := [.lit (.bool true)], args := [d] }
  | _ => none }
def caskFirstRow : OpenClaim := { program := "ytpkgnhcfmpbidaa", sum := "21000ef0487ab0e84ae6f5a13c87ca78854f28c34e7810f35884f5ed7a8efabe", func := "saccharum/saccharumlaw05.CaskFirst", spec := "caskFirst", unfollowed := true, recurses := true, plainKeys := false, apart := false }
def CaskFirstSaid : Prop := caskFirstRow.holds Try.pinned (OpenSpec.ofChange caskFirstSpec)

/-- ITS FALSE NEIGHBOUR: 'it returns false'. Refute it at one input. -/
def caskFirstWrong : ChangeSpec := { name := "caskFirst", fn := fun _ => fun
  | [d] => { results := [.lit (.bool false)], args := [d] }
  | _ => none }
def CaskFirstWrongFalsely : Prop := caskFirstRow.holds Try.pinned (OpenSpec.ofChange caskFirstWrong)

/-- 'saccharumlaw05.CaskLeft': WHATEVER THE INPUT: true; the input reads as it did. -/
def caskLeftSpec : ChangeSpec := { name := "caskLeft", fn := fun _ => fun
  | [d1, d2] => { results := [.lit (.bool true)], args := [d1, d2] }
  | _ => none }
def caskLeftRow : OpenClaim := { program := "ytpkgnhcfmpbidaa", sum := "21000ef0487ab0e84ae6f5a13c87ca78854f28c34e7810f35884f5ed7a8efabe", func := "saccharum/saccharumlaw05.CaskLeft", spec := "caskLeft", unfollowed := true, recurses := true, plainKeys := false, apart := false }
def CaskLeftSaid : Prop := caskLeftRow.holds Try.pinned (OpenSpec.ofChange caskLeftSpec)

/-- ITS FALSE NEIGHBOUR: 'it returns false'. Refute it at one input. -/
def caskLeftWrong : ChangeSpec := { name := "caskLeft", fn := fun _ => fun
  | [d1, d2] => { results := [.lit (.bool false)], args := [d1, d2] }
  | _ => none }
def CaskLeftWrongFalsely : Prop := caskLeftRow.holds Try.pinned (OpenSpec.ofChange caskLeftWrong)

/- THE SECOND FORM. 'bulk': how many values and letters a reading holds, each counted each time it is reached (what is shared counts as often as it is met; a slice's spare places count too). A statement '..UptoSaid' is the law's where the arguments, and the package variables that the reading takes, are together of bulk at most 1048576: NARROWER than '..Said'. Prove '..Said' where nothing that the law and all that it calls make is longer than what came in: it says more and counts as full. Else prove '..UptoSaid'. A law counts once. -/
mutual
def uptoBulk {H : Type} : DataW H → Nat
  | .lit (.string bytes) => bytes.length + 1
  | .lit _ => 1
  | .nil => 1
  | .ptr d => uptoBulk d + 1
  | .slice elems spare => uptoBulkAll elems + uptoBulkAll spare + 1
  | .agg parts => uptoBulkAll parts + 1
  | .iface _ d => uptoBulk d + 1
  | .map entries => uptoBulkEntries entries + 1
  | .held _ => 1
def uptoBulkAll {H : Type} : List (DataW H) → Nat
  | [] => 0
  | d :: r => uptoBulk d + uptoBulkAll r
def uptoBulkEntries {H : Type} : List (Lit × DataW H) → Nat
  | [] => 0
  | x :: r => uptoBulkEntry x + uptoBulkEntries r
def uptoBulkEntry {H : Type} : Lit × DataW H → Nat
  | (.string bytes, d) => bytes.length + uptoBulk d + 1
  | (_, d) => uptoBulk d + 1
 end
def uptoSmall : (H : Type) → List (DataW H) → Bool := fun _ ds => decide (uptoBulkAll ds ≤ 1048576)
def OpenSpec.upto (s : _root_.Go.ChangeSpec) : _root_.Go.OpenSpec := { _root_.Go.OpenSpec.ofChange s with cond := some uptoSmall }

/-- 'saccharumlaw05.CaskGauges', WHERE WHAT IT READS IS OF BULK AT MOST 1048576: true; the input reads as it did. -/
def caskGaugesUptoRow : OpenClaim := { program := "ytpkgnhcfmpbidaa", sum := "21000ef0487ab0e84ae6f5a13c87ca78854f28c34e7810f35884f5ed7a8efabe", func := "saccharum/saccharumlaw05.CaskGauges", spec := "caskGauges", unfollowed := true, recurses := true, plainKeys := false, apart := false, narrowed := true }
def CaskGaugesUptoSaid : Prop := caskGaugesUptoRow.holds Try.pinned (OpenSpec.upto caskGaugesSpec)

/-- 'saccharumlaw05.CaskBounds', WHERE WHAT IT READS IS OF BULK AT MOST 1048576: true; the input reads as it did. -/
def caskBoundsUptoRow : OpenClaim := { program := "ytpkgnhcfmpbidaa", sum := "21000ef0487ab0e84ae6f5a13c87ca78854f28c34e7810f35884f5ed7a8efabe", func := "saccharum/saccharumlaw05.CaskBounds", spec := "caskBounds", unfollowed := true, recurses := true, plainKeys := false, apart := false, narrowed := true }
def CaskBoundsUptoSaid : Prop := caskBoundsUptoRow.holds Try.pinned (OpenSpec.upto caskBoundsSpec)

/-- 'saccharumlaw05.CaskDeeper', WHERE WHAT IT READS IS OF BULK AT MOST 1048576: true; the input reads as it did. -/
def caskDeeperUptoRow : OpenClaim := { program := "ytpkgnhcfmpbidaa", sum := "21000ef0487ab0e84ae6f5a13c87ca78854f28c34e7810f35884f5ed7a8efabe", func := "saccharum/saccharumlaw05.CaskDeeper", spec := "caskDeeper", unfollowed := true, recurses := true, plainKeys := false, apart := false, narrowed := true }
def CaskDeeperUptoSaid : Prop := caskDeeperUptoRow.holds Try.pinned (OpenSpec.upto caskDeeperSpec)

/-- 'saccharumlaw05.CaskMore', WHERE WHAT IT READS IS OF BULK AT MOST 1048576: true; the input reads as it did. -/
def caskMoreUptoRow : OpenClaim := { program := "ytpkgnhcfmpbidaa", sum := "21000ef0487ab0e84ae6f5a13c87ca78854f28c34e7810f35884f5ed7a8efabe", func := "saccharum/saccharumlaw05.CaskMore", spec := "caskMore", unfollowed := true, recurses := true, plainKeys := false, apart := false, narrowed := true }
def CaskMoreUptoSaid : Prop := caskMoreUptoRow.holds Try.pinned (OpenSpec.upto caskMoreSpec)

/-- 'saccharumlaw05.CaskWider', WHERE WHAT IT READS IS OF BULK AT MOST 1048576: true; the input reads as it did. -/
def caskWiderUptoRow : OpenClaim := { program := "ytpkgnhcfmpbidaa", sum := "21000ef0487ab0e84ae6f5a13c87ca78854f28c34e7810f35884f5ed7a8efabe", func := "saccharum/saccharumlaw05.CaskWider", spec := "caskWider", unfollowed := true, recurses := true, plainKeys := false, apart := false, narrowed := true }
def CaskWiderUptoSaid : Prop := caskWiderUptoRow.holds Try.pinned (OpenSpec.upto caskWiderSpec)

/-- 'saccharumlaw05.CaskOver', WHERE WHAT IT READS IS OF BULK AT MOST 1048576: true; the input reads as it did. -/
def caskOverUptoRow : OpenClaim := { program := "ytpkgnhcfmpbidaa", sum := "21000ef0487ab0e84ae6f5a13c87ca78854f28c34e7810f35884f5ed7a8efabe", func := "saccharum/saccharumlaw05.CaskOver", spec := "caskOver", unfollowed := true, recurses := true, plainKeys := false, apart := false, narrowed := true }
def CaskOverUptoSaid : Prop := caskOverUptoRow.holds Try.pinned (OpenSpec.upto caskOverSpec)

/-- 'saccharumlaw05.CaskPlays', WHERE WHAT IT READS IS OF BULK AT MOST 1048576: true; the input reads as it did. -/
def caskPlaysUptoRow : OpenClaim := { program := "ytpkgnhcfmpbidaa", sum := "21000ef0487ab0e84ae6f5a13c87ca78854f28c34e7810f35884f5ed7a8efabe", func := "saccharum/saccharumlaw05.CaskPlays", spec := "caskPlays", unfollowed := true, recurses := true, plainKeys := false, apart := false, narrowed := true }
def CaskPlaysUptoSaid : Prop := caskPlaysUptoRow.holds Try.pinned (OpenSpec.upto caskPlaysSpec)

/-- 'saccharumlaw05.CaskTruth', WHERE WHAT IT READS IS OF BULK AT MOST 1048576: true; the input reads as it did. -/
def caskTruthUptoRow : OpenClaim := { program := "ytpkgnhcfmpbidaa", sum := "21000ef0487ab0e84ae6f5a13c87ca78854f28c34e7810f35884f5ed7a8efabe", func := "saccharum/saccharumlaw05.CaskTruth", spec := "caskTruth", unfollowed := true, recurses := true, plainKeys := false, apart := false, narrowed := true }
def CaskTruthUptoSaid : Prop := caskTruthUptoRow.holds Try.pinned (OpenSpec.upto caskTruthSpec)

/-- 'saccharumlaw05.CaskWrongs', WHERE WHAT IT READS IS OF BULK AT MOST 1048576: true; the input reads as it did. -/
def caskWrongsUptoRow : OpenClaim := { program := "ytpkgnhcfmpbidaa", sum := "21000ef0487ab0e84ae6f5a13c87ca78854f28c34e7810f35884f5ed7a8efabe", func := "saccharum/saccharumlaw05.CaskWrongs", spec := "caskWrongs", unfollowed := true, recurses := true, plainKeys := false, apart := false, narrowed := true }
def CaskWrongsUptoSaid : Prop := caskWrongsUptoRow.holds Try.pinned (OpenSpec.upto caskWrongsSpec)

/-- 'saccharumlaw05.CaskNames', WHERE WHAT IT READS IS OF BULK AT MOST 1048576: true; the input reads as it did. -/
def caskNamesUptoRow : OpenClaim := { program := "ytpkgnhcfmpbidaa", sum := "21000ef0487ab0e84ae6f5a13c87ca78854f28c34e7810f35884f5ed7a8efabe", func := "saccharum/saccharumlaw05.CaskNames", spec := "caskNames", unfollowed := true, recurses := true, plainKeys := false, apart := false, narrowed := true }
def CaskNamesUptoSaid : Prop := caskNamesUptoRow.holds Try.pinned (OpenSpec.upto caskNamesSpec)

/-- 'saccharumlaw05.CaskFirst', WHERE WHAT IT READS IS OF BULK AT MOST 1048576: true; the input reads as it did. -/
def caskFirstUptoRow : OpenClaim := { program := "ytpkgnhcfmpbidaa", sum := "21000ef0487ab0e84ae6f5a13c87ca78854f28c34e7810f35884f5ed7a8efabe", func := "saccharum/saccharumlaw05.CaskFirst", spec := "caskFirst", unfollowed := true, recurses := true, plainKeys := false, apart := false, narrowed := true }
def CaskFirstUptoSaid : Prop := caskFirstUptoRow.holds Try.pinned (OpenSpec.upto caskFirstSpec)

/-- 'saccharumlaw05.CaskLeft', WHERE WHAT IT READS IS OF BULK AT MOST 1048576: true; the input reads as it did. -/
def caskLeftUptoRow : OpenClaim := { program := "ytpkgnhcfmpbidaa", sum := "21000ef0487ab0e84ae6f5a13c87ca78854f28c34e7810f35884f5ed7a8efabe", func := "saccharum/saccharumlaw05.CaskLeft", spec := "caskLeft", unfollowed := true, recurses := true, plainKeys := false, apart := false, narrowed := true }
def CaskLeftUptoSaid : Prop := caskLeftUptoRow.holds Try.pinned (OpenSpec.upto caskLeftSpec)

end Rows
end Go.Proofs.Ytpkgnhcfmpbidaa
