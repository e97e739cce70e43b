/-
  No cell of these rows narrows 'for every input' (looked for: loops, veiled, ifaces, maps, wideKeys, modest, calm, conditions, laid).
  DERIVED. THE GIVEN ROWS OF THIS SEAT. 11 by the template 'for every input the law returns true; each argument reads behind the call as it read before'; 0 by the template 'total and deterministic' (their statements: YteelocfbbhchcaaTotals.lean).
  GIVEN WITH THE SEED: the statements are not yours to turn. If you find one false, say at which input.
  Laid BY PROGRAM, IN A SANDBOX (cutbox-rows.mjs): the forced cells as the released guide's own fill.sh prints them over the translation f5eb2c6fd04560fc… (all of the seat's roots in one cut). By AI agents, Wed Nov 11 2026. No macro, syntax, notation, axiom, sorry.
-/
import Derived.Test.YteelocfbbhchcaaChecked
import GoSem.Claim
import GoSem.ClaimJoined
import GoSem.ClaimMapViews
import Derived.JoinedTies
import Derived.KernelRfl
namespace Go.Proofs.Yteelocfbbhchcaa
/- THE CELL 'sum', in the pinned program and in every row, IS THE sha256 OF THE DUMP (.gsa) THAT YteelocfbbhchcaaProg.lean LOADS. Nothing in Lean hashes anything: it is a label: what it is worth is what the hold of that sum in a sandbox is worth. -/
noncomputable def Try.pinned : Pinned := { name := "yteelocfbbhchcaa", sum := "f5eb2c6fd04560fc86e3f5cd5ec78c116164931cde60c7c73c784a29792e1e22", checked := Try.checked }
namespace Rows
def none {H : Type} : Left H := { results := [], args := [] }

/-- 'saccharumlaw03.HeatPlays': WHATEVER THE INPUT: true; the input reads as it did. -/
def heatPlaysSpec : ChangeSpec := { name := "heatPlays", fn := fun _ => fun
  | [d1, d2, d3, d4] => { results := [.lit (.bool true)], args := [d1, d2, d3, d4] }
  | _ => none }
def heatPlaysRow : OpenClaim := { program := "yteelocfbbhchcaa", sum := "f5eb2c6fd04560fc86e3f5cd5ec78c116164931cde60c7c73c784a29792e1e22", func := "saccharum/saccharumlaw03.HeatPlays", spec := "heatPlays", unfollowed := true, recurses := true, plainKeys := false, apart := false }
def HeatPlaysSaid : Prop := heatPlaysRow.holds Try.pinned (OpenSpec.ofChange heatPlaysSpec)

/-- ITS FALSE NEIGHBOUR: 'it returns false'. Refute it at one input. -/
def heatPlaysWrong : ChangeSpec := { name := "heatPlays", fn := fun _ => fun
  | [d1, d2, d3, d4] => { results := [.lit (.bool false)], args := [d1, d2, d3, d4] }
  | _ => none }
def HeatPlaysWrongFalsely : Prop := heatPlaysRow.holds Try.pinned (OpenSpec.ofChange heatPlaysWrong)

/-- 'saccharumlaw03.HeatBounds': WHATEVER THE INPUT: true; the input reads as it did. -/
def heatBoundsSpec : ChangeSpec := { name := "heatBounds", fn := fun _ => fun
  | [d1, d2, d3] => { results := [.lit (.bool true)], args := [d1, d2, d3] }
  | _ => none }
def heatBoundsRow : OpenClaim := { program := "yteelocfbbhchcaa", sum := "f5eb2c6fd04560fc86e3f5cd5ec78c116164931cde60c7c73c784a29792e1e22", func := "saccharum/saccharumlaw03.HeatBounds", spec := "heatBounds", unfollowed := true, recurses := true, plainKeys := false, apart := false }
def HeatBoundsSaid : Prop := heatBoundsRow.holds Try.pinned (OpenSpec.ofChange heatBoundsSpec)

/-- ITS FALSE NEIGHBOUR: 'it returns false'. Refute it at one input. -/
def heatBoundsWrong : ChangeSpec := { name := "heatBounds", fn := fun _ => fun
  | [d1, d2, d3] => { results := [.lit (.bool false)], args := [d1, d2, d3] }
  | _ => none }
def HeatBoundsWrongFalsely : Prop := heatBoundsRow.holds Try.pinned (OpenSpec.ofChange heatBoundsWrong)

/-- 'saccharumlaw03.HeatMixes': WHATEVER THE INPUT: true; the input reads as it did. -/
def heatMixesSpec : ChangeSpec := { name := "heatMixes", fn := fun _ => fun
  | [d] => { results := [.lit (.bool true)], args := [d] }
  | _ => none }
def heatMixesRow : OpenClaim := { program := "yteelocfbbhchcaa", sum := "f5eb2c6fd04560fc86e3f5cd5ec78c116164931cde60c7c73c784a29792e1e22", func := "saccharum/saccharumlaw03.HeatMixes", spec := "heatMixes", unfollowed := true, recurses := true, plainKeys := false, apart := false }
def HeatMixesSaid : Prop := heatMixesRow.holds Try.pinned (OpenSpec.ofChange heatMixesSpec)

/-- ITS FALSE NEIGHBOUR: 'it returns false'. Refute it at one input. -/
def heatMixesWrong : ChangeSpec := { name := "heatMixes", fn := fun _ => fun
  | [d] => { results := [.lit (.bool false)], args := [d] }
  | _ => none }
def HeatMixesWrongFalsely : Prop := heatMixesRow.holds Try.pinned (OpenSpec.ofChange heatMixesWrong)

/-- 'saccharumlaw03.HeatWarmer': WHATEVER THE INPUT: true; the input reads as it did. -/
def heatWarmerSpec : ChangeSpec := { name := "heatWarmer", fn := fun _ => fun
  | [d1, d2, d3] => { results := [.lit (.bool true)], args := [d1, d2, d3] }
  | _ => none }
def heatWarmerRow : OpenClaim := { program := "yteelocfbbhchcaa", sum := "f5eb2c6fd04560fc86e3f5cd5ec78c116164931cde60c7c73c784a29792e1e22", func := "saccharum/saccharumlaw03.HeatWarmer", spec := "heatWarmer", unfollowed := true, recurses := true, plainKeys := false, apart := false }
def HeatWarmerSaid : Prop := heatWarmerRow.holds Try.pinned (OpenSpec.ofChange heatWarmerSpec)

/-- ITS FALSE NEIGHBOUR: 'it returns false'. Refute it at one input. -/
def heatWarmerWrong : ChangeSpec := { name := "heatWarmer", fn := fun _ => fun
  | [d1, d2, d3] => { results := [.lit (.bool false)], args := [d1, d2, d3] }
  | _ => none }
def HeatWarmerWrongFalsely : Prop := heatWarmerRow.holds Try.pinned (OpenSpec.ofChange heatWarmerWrong)

/-- 'saccharumlaw03.HeatMore': WHATEVER THE INPUT: true; the input reads as it did. -/
def heatMoreSpec : ChangeSpec := { name := "heatMore", fn := fun _ => fun
  | [d1, d2, d3] => { results := [.lit (.bool true)], args := [d1, d2, d3] }
  | _ => none }
def heatMoreRow : OpenClaim := { program := "yteelocfbbhchcaa", sum := "f5eb2c6fd04560fc86e3f5cd5ec78c116164931cde60c7c73c784a29792e1e22", func := "saccharum/saccharumlaw03.HeatMore", spec := "heatMore", unfollowed := true, recurses := true, plainKeys := false, apart := false }
def HeatMoreSaid : Prop := heatMoreRow.holds Try.pinned (OpenSpec.ofChange heatMoreSpec)

/-- ITS FALSE NEIGHBOUR: 'it returns false'. Refute it at one input. -/
def heatMoreWrong : ChangeSpec := { name := "heatMore", fn := fun _ => fun
  | [d1, d2, d3] => { results := [.lit (.bool false)], args := [d1, d2, d3] }
  | _ => none }
def HeatMoreWrongFalsely : Prop := heatMoreRow.holds Try.pinned (OpenSpec.ofChange heatMoreWrong)

/-- 'saccharumlaw03.HeatWider': WHATEVER THE INPUT: true; the input reads as it did. -/
def heatWiderSpec : ChangeSpec := { name := "heatWider", fn := fun _ => fun
  | [d1, d2, d3, d4] => { results := [.lit (.bool true)], args := [d1, d2, d3, d4] }
  | _ => none }
def heatWiderRow : OpenClaim := { program := "yteelocfbbhchcaa", sum := "f5eb2c6fd04560fc86e3f5cd5ec78c116164931cde60c7c73c784a29792e1e22", func := "saccharum/saccharumlaw03.HeatWider", spec := "heatWider", unfollowed := true, recurses := true, plainKeys := false, apart := false }
def HeatWiderSaid : Prop := heatWiderRow.holds Try.pinned (OpenSpec.ofChange heatWiderSpec)

/-- ITS FALSE NEIGHBOUR: 'it returns false'. Refute it at one input. -/
def heatWiderWrong : ChangeSpec := { name := "heatWider", fn := fun _ => fun
  | [d1, d2, d3, d4] => { results := [.lit (.bool false)], args := [d1, d2, d3, d4] }
  | _ => none }
def HeatWiderWrongFalsely : Prop := heatWiderRow.holds Try.pinned (OpenSpec.ofChange heatWiderWrong)

/-- 'saccharumlaw03.HeatHours': WHATEVER THE INPUT: true; the input reads as it did. -/
def heatHoursSpec : ChangeSpec := { name := "heatHours", fn := fun _ => fun
  | [d1, d2, d3, d4] => { results := [.lit (.bool true)], args := [d1, d2, d3, d4] }
  | _ => none }
def heatHoursRow : OpenClaim := { program := "yteelocfbbhchcaa", sum := "f5eb2c6fd04560fc86e3f5cd5ec78c116164931cde60c7c73c784a29792e1e22", func := "saccharum/saccharumlaw03.HeatHours", spec := "heatHours", unfollowed := true, recurses := true, plainKeys := false, apart := false }
def HeatHoursSaid : Prop := heatHoursRow.holds Try.pinned (OpenSpec.ofChange heatHoursSpec)

/-- ITS FALSE NEIGHBOUR: 'it returns false'. Refute it at one input. -/
def heatHoursWrong : ChangeSpec := { name := "heatHours", fn := fun _ => fun
  | [d1, d2, d3, d4] => { results := [.lit (.bool false)], args := [d1, d2, d3, d4] }
  | _ => none }
def HeatHoursWrongFalsely : Prop := heatHoursRow.holds Try.pinned (OpenSpec.ofChange heatHoursWrong)

/-- 'saccharumlaw03.HeatMixture': WHATEVER THE INPUT: true; the input reads as it did. -/
def heatMixtureSpec : ChangeSpec := { name := "heatMixture", fn := fun _ => fun
  | [d1, d2, d3, d4] => { results := [.lit (.bool true)], args := [d1, d2, d3, d4] }
  | _ => none }
def heatMixtureRow : OpenClaim := { program := "yteelocfbbhchcaa", sum := "f5eb2c6fd04560fc86e3f5cd5ec78c116164931cde60c7c73c784a29792e1e22", func := "saccharum/saccharumlaw03.HeatMixture", spec := "heatMixture", unfollowed := true, recurses := true, plainKeys := false, apart := false }
def HeatMixtureSaid : Prop := heatMixtureRow.holds Try.pinned (OpenSpec.ofChange heatMixtureSpec)

/-- ITS FALSE NEIGHBOUR: 'it returns false'. Refute it at one input. -/
def heatMixtureWrong : ChangeSpec := { name := "heatMixture", fn := fun _ => fun
  | [d1, d2, d3, d4] => { results := [.lit (.bool false)], args := [d1, d2, d3, d4] }
  | _ => none }
def HeatMixtureWrongFalsely : Prop := heatMixtureRow.holds Try.pinned (OpenSpec.ofChange heatMixtureWrong)

/-- 'saccharumlaw03.HeatTruth': WHATEVER THE INPUT: true; the input reads as it did. -/
def heatTruthSpec : ChangeSpec := { name := "heatTruth", fn := fun _ => fun
  | [d1, d2, d3] => { results := [.lit (.bool true)], args := [d1, d2, d3] }
  | _ => none }
def heatTruthRow : OpenClaim := { program := "yteelocfbbhchcaa", sum := "f5eb2c6fd04560fc86e3f5cd5ec78c116164931cde60c7c73c784a29792e1e22", func := "saccharum/saccharumlaw03.HeatTruth", spec := "heatTruth", unfollowed := true, recurses := true, plainKeys := false, apart := false }
def HeatTruthSaid : Prop := heatTruthRow.holds Try.pinned (OpenSpec.ofChange heatTruthSpec)

/-- ITS FALSE NEIGHBOUR: 'it returns false'. Refute it at one input. -/
def heatTruthWrong : ChangeSpec := { name := "heatTruth", fn := fun _ => fun
  | [d1, d2, d3] => { results := [.lit (.bool false)], args := [d1, d2, d3] }
  | _ => none }
def HeatTruthWrongFalsely : Prop := heatTruthRow.holds Try.pinned (OpenSpec.ofChange heatTruthWrong)

/-- 'saccharumlaw03.HeatNames': WHATEVER THE INPUT: true; the input reads as it did. -/
def heatNamesSpec : ChangeSpec := { name := "heatNames", fn := fun _ => fun
  | [] => { results := [.lit (.bool true)], args := [] }
  | _ => none }
def heatNamesRow : OpenClaim := { program := "yteelocfbbhchcaa", sum := "f5eb2c6fd04560fc86e3f5cd5ec78c116164931cde60c7c73c784a29792e1e22", func := "saccharum/saccharumlaw03.HeatNames", spec := "heatNames", unfollowed := true, recurses := true, plainKeys := false, apart := false }
def HeatNamesSaid : Prop := heatNamesRow.holds Try.pinned (OpenSpec.ofChange heatNamesSpec)

/-- ITS FALSE NEIGHBOUR: 'it returns false'. Refute it at one input. -/
def heatNamesWrong : ChangeSpec := { name := "heatNames", fn := fun _ => fun
  | [] => { results := [.lit (.bool false)], args := [] }
  | _ => none }
def HeatNamesWrongFalsely : Prop := heatNamesRow.holds Try.pinned (OpenSpec.ofChange heatNamesWrong)

/-- 'saccharumlaw03.HeatLeft': WHATEVER THE INPUT: true; the input reads as it did. -/
def heatLeftSpec : ChangeSpec := { name := "heatLeft", fn := fun _ => fun
  | [d1, d2, d3] => { results := [.lit (.bool true)], args := [d1, d2, d3] }
  | _ => none }
def heatLeftRow : OpenClaim := { program := "yteelocfbbhchcaa", sum := "f5eb2c6fd04560fc86e3f5cd5ec78c116164931cde60c7c73c784a29792e1e22", func := "saccharum/saccharumlaw03.HeatLeft", spec := "heatLeft", unfollowed := true, recurses := true, plainKeys := false, apart := false }
def HeatLeftSaid : Prop := heatLeftRow.holds Try.pinned (OpenSpec.ofChange heatLeftSpec)

/-- ITS FALSE NEIGHBOUR: 'it returns false'. Refute it at one input. -/
def heatLeftWrong : ChangeSpec := { name := "heatLeft", fn := fun _ => fun
  | [d1, d2, d3] => { results := [.lit (.bool false)], args := [d1, d2, d3] }
  | _ => none }
def HeatLeftWrongFalsely : Prop := heatLeftRow.holds Try.pinned (OpenSpec.ofChange heatLeftWrong)

/- THE SECOND FORM. 'bulk': how many values and letters a reading holds, each counted each time it is reached (what is shared counts as often as it is met; a slice's spare places count too). A statement '..UptoSaid' is the law's where the arguments, and the package variables that the reading takes, are together of bulk at most 1048576: NARROWER than '..Said'. Prove '..Said' where nothing that the law and all that it calls make is longer than what came in: it says more and counts as full. Else prove '..UptoSaid'. A law counts once. -/
mutual
def uptoBulk {H : Type} : DataW H → Nat
  | .lit (.string bytes) => bytes.length + 1
  | .lit _ => 1
  | .nil => 1
  | .ptr d => uptoBulk d + 1
  | .slice elems spare => uptoBulkAll elems + uptoBulkAll spare + 1
  | .agg parts => uptoBulkAll parts + 1
  | .iface _ d => uptoBulk d + 1
  | .map entries => uptoBulkEntries entries + 1
  | .held _ => 1
def uptoBulkAll {H : Type} : List (DataW H) → Nat
  | [] => 0
  | d :: r => uptoBulk d + uptoBulkAll r
def uptoBulkEntries {H : Type} : List (Lit × DataW H) → Nat
  | [] => 0
  | x :: r => uptoBulkEntry x + uptoBulkEntries r
def uptoBulkEntry {H : Type} : Lit × DataW H → Nat
  | (.string bytes, d) => bytes.length + uptoBulk d + 1
  | (_, d) => uptoBulk d + 1
 end
def uptoSmall : (H : Type) → List (DataW H) → Bool := fun _ ds => decide (uptoBulkAll ds ≤ 1048576)
def OpenSpec.upto (s : _root_.Go.ChangeSpec) : _root_.Go.OpenSpec := { _root_.Go.OpenSpec.ofChange s with cond := some uptoSmall }

/-- 'saccharumlaw03.HeatPlays', WHERE WHAT IT READS IS OF BULK AT MOST 1048576: true; the input reads as it did. -/
def heatPlaysUptoRow : OpenClaim := { program := "yteelocfbbhchcaa", sum := "f5eb2c6fd04560fc86e3f5cd5ec78c116164931cde60c7c73c784a29792e1e22", func := "saccharum/saccharumlaw03.HeatPlays", spec := "heatPlays", unfollowed := true, recurses := true, plainKeys := false, apart := false, narrowed := true }
def HeatPlaysUptoSaid : Prop := heatPlaysUptoRow.holds Try.pinned (OpenSpec.upto heatPlaysSpec)

/-- 'saccharumlaw03.HeatBounds', WHERE WHAT IT READS IS OF BULK AT MOST 1048576: true; the input reads as it did. -/
def heatBoundsUptoRow : OpenClaim := { program := "yteelocfbbhchcaa", sum := "f5eb2c6fd04560fc86e3f5cd5ec78c116164931cde60c7c73c784a29792e1e22", func := "saccharum/saccharumlaw03.HeatBounds", spec := "heatBounds", unfollowed := true, recurses := true, plainKeys := false, apart := false, narrowed := true }
def HeatBoundsUptoSaid : Prop := heatBoundsUptoRow.holds Try.pinned (OpenSpec.upto heatBoundsSpec)

/-- 'saccharumlaw03.HeatMixes', WHERE WHAT IT READS IS OF BULK AT MOST 1048576: true; the input reads as it did. -/
def heatMixesUptoRow : OpenClaim := { program := "yteelocfbbhchcaa", sum := "f5eb2c6fd04560fc86e3f5cd5ec78c116164931cde60c7c73c784a29792e1e22", func := "saccharum/saccharumlaw03.HeatMixes", spec := "heatMixes", unfollowed := true, recurses := true, plainKeys := false, apart := false, narrowed := true }
def HeatMixesUptoSaid : Prop := heatMixesUptoRow.holds Try.pinned (OpenSpec.upto heatMixesSpec)

/-- 'saccharumlaw03.HeatWarmer', WHERE WHAT IT READS IS OF BULK AT MOST 1048576: true; the input reads as it did. -/
def heatWarmerUptoRow : OpenClaim := { program := "yteelocfbbhchcaa", sum := "f5eb2c6fd04560fc86e3f5cd5ec78c116164931cde60c7c73c784a29792e1e22", func := "saccharum/saccharumlaw03.HeatWarmer", spec := "heatWarmer", unfollowed := true, recurses := true, plainKeys := false, apart := false, narrowed := true }
def HeatWarmerUptoSaid : Prop := heatWarmerUptoRow.holds Try.pinned (OpenSpec.upto heatWarmerSpec)

/-- 'saccharumlaw03.HeatMore', WHERE WHAT IT READS IS OF BULK AT MOST 1048576: true; the input reads as it did. -/
def heatMoreUptoRow : OpenClaim := { program := "yteelocfbbhchcaa", sum := "f5eb2c6fd04560fc86e3f5cd5ec78c116164931cde60c7c73c784a29792e1e22", func := "saccharum/saccharumlaw03.HeatMore", spec := "heatMore", unfollowed := true, recurses := true, plainKeys := false, apart := false, narrowed := true }
def HeatMoreUptoSaid : Prop := heatMoreUptoRow.holds Try.pinned (OpenSpec.upto heatMoreSpec)

/-- 'saccharumlaw03.HeatWider', WHERE WHAT IT READS IS OF BULK AT MOST 1048576: true; the input reads as it did. -/
def heatWiderUptoRow : OpenClaim := { program := "yteelocfbbhchcaa", sum := "f5eb2c6fd04560fc86e3f5cd5ec78c116164931cde60c7c73c784a29792e1e22", func := "saccharum/saccharumlaw03.HeatWider", spec := "heatWider", unfollowed := true, recurses := true, plainKeys := false, apart := false, narrowed := true }
def HeatWiderUptoSaid : Prop := heatWiderUptoRow.holds Try.pinned (OpenSpec.upto heatWiderSpec)

/-- 'saccharumlaw03.HeatHours', WHERE WHAT IT READS IS OF BULK AT MOST 1048576: true; the input reads as it did. -/
def heatHoursUptoRow : OpenClaim := { program := "yteelocfbbhchcaa", sum := "f5eb2c6fd04560fc86e3f5cd5ec78c116164931cde60c7c73c784a29792e1e22", func := "saccharum/saccharumlaw03.HeatHours", spec := "heatHours", unfollowed := true, recurses := true, plainKeys := false, apart := false, narrowed := true }
def HeatHoursUptoSaid : Prop := heatHoursUptoRow.holds Try.pinned (OpenSpec.upto heatHoursSpec)

/-- 'saccharumlaw03.HeatMixture', WHERE WHAT IT READS IS OF BULK AT MOST 1048576: true; the input reads as it did. -/
def heatMixtureUptoRow : OpenClaim := { program := "yteelocfbbhchcaa", sum := "f5eb2c6fd04560fc86e3f5cd5ec78c116164931cde60c7c73c784a29792e1e22", func := "saccharum/saccharumlaw03.HeatMixture", spec := "heatMixture", unfollowed := true, recurses := true, plainKeys := false, apart := false, narrowed := true }
def HeatMixtureUptoSaid : Prop := heatMixtureUptoRow.holds Try.pinned (OpenSpec.upto heatMixtureSpec)

/-- 'saccharumlaw03.HeatTruth', WHERE WHAT IT READS IS OF BULK AT MOST 1048576: true; the input reads as it did. -/
def heatTruthUptoRow : OpenClaim := { program := "yteelocfbbhchcaa", sum := "f5eb2c6fd04560fc86e3f5cd5ec78c116164931cde60c7c73c784a29792e1e22", func := "saccharum/saccharumlaw03.HeatTruth", spec := "heatTruth", unfollowed := true, recurses := true, plainKeys := false, apart := false, narrowed := true }
def HeatTruthUptoSaid : Prop := heatTruthUptoRow.holds Try.pinned (OpenSpec.upto heatTruthSpec)

/-- 'saccharumlaw03.HeatNames', WHERE WHAT IT READS IS OF BULK AT MOST 1048576: true; the input reads as it did. -/
def heatNamesUptoRow : OpenClaim := { program := "yteelocfbbhchcaa", sum := "f5eb2c6fd04560fc86e3f5cd5ec78c116164931cde60c7c73c784a29792e1e22", func := "saccharum/saccharumlaw03.HeatNames", spec := "heatNames", unfollowed := true, recurses := true, plainKeys := false, apart := false, narrowed := true }
def HeatNamesUptoSaid : Prop := heatNamesUptoRow.holds Try.pinned (OpenSpec.upto heatNamesSpec)

/-- 'saccharumlaw03.HeatLeft', WHERE WHAT IT READS IS OF BULK AT MOST 1048576: true; the input reads as it did. -/
def heatLeftUptoRow : OpenClaim := { program := "yteelocfbbhchcaa", sum := "f5eb2c6fd04560fc86e3f5cd5ec78c116164931cde60c7c73c784a29792e1e22", func := "saccharum/saccharumlaw03.HeatLeft", spec := "heatLeft", unfollowed := true, recurses := true, plainKeys := false, apart := false, narrowed := true }
def HeatLeftUptoSaid : Prop := heatLeftUptoRow.holds Try.pinned (OpenSpec.upto heatLeftSpec)

end Rows
end Go.Proofs.Yteelocfbbhchcaa
