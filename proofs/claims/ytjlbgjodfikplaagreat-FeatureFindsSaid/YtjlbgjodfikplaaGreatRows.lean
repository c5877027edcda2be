/-
  No cell of these rows narrows 'for every input' (looked for: loops, veiled, ifaces, maps, wideKeys, modest, calm, conditions, laid).
  DERIVED. THE GIVEN ROWS OF THIS SEAT. 14 by the template 'for every input the law returns true; each argument reads behind the call as it read before'; 0 by the template 'total and deterministic' (their statements: YtjlbgjodfikplaaGreatTotals.lean).
  GIVEN WITH THE SEED: the statements are not yours to turn. If you find one false, say at which input.
  Laid BY PROGRAM, IN A SANDBOX (cutbox-rows.mjs): the forced cells as the released guide's own fill.sh prints them over the translation 473e29cf5bb63339… (all of the seat's roots in one cut). By AI agents, Wed Nov 11 2026. No macro, syntax, notation, axiom, sorry.
-/
import Derived.Test.YtjlbgjodfikplaaGreatChecked
import GoSem.Claim
import GoSem.ClaimJoined
import GoSem.ClaimMapViews
import Derived.JoinedTies
import Derived.KernelRfl
namespace Go.Proofs.YtjlbgjodfikplaaGreat
/- THE CELL 'sum', in the pinned program and in every row, IS THE sha256 OF THE DUMP (.gsa) THAT YtjlbgjodfikplaaGreatProg.lean LOADS. Nothing in Lean hashes anything: it is a label: what it is worth is what the hold of that sum in a sandbox is worth. -/
noncomputable def Tryz.pinned : Pinned := { name := "ytjlbgjodfikplaagreat", sum := "473e29cf5bb63339f6ed28d97844ad8a8993711607a2b2f905c39e091b130965", checked := Tryz.checked }
namespace Rows
def none {H : Type} : Left H := { results := [], args := [] }

/-- 'mapsheetslaw46.SymbolChecks': WHATEVER THE INPUT: true; the input reads as it did. -/
def symbolChecksSpec : ChangeSpec := { name := "symbolChecks", fn := fun _ => fun
  | [d1, d2, d3] => { results := [.lit (.bool true)], args := [d1, d2, d3] }
  | _ => none }
def symbolChecksRow : OpenClaim := { program := "ytjlbgjodfikplaagreat", sum := "473e29cf5bb63339f6ed28d97844ad8a8993711607a2b2f905c39e091b130965", func := "mapsheets/mapsheetslaw46.SymbolChecks", spec := "symbolChecks", inPlace := ["internal/bytealg.IndexByteString", "internal/bytealg.IndexString"], unfollowed := true, recurses := true, named := ["internal/bytealg.MaxLen"], plainKeys := false, apart := false }
def SymbolChecksSaid : Prop := symbolChecksRow.holds Tryz.pinned (OpenSpec.ofChange symbolChecksSpec)

/-- ITS FALSE NEIGHBOUR: 'it returns false'. Refute it at one input. -/
def symbolChecksWrong : ChangeSpec := { name := "symbolChecks", fn := fun _ => fun
  | [d1, d2, d3] => { results := [.lit (.bool false)], args := [d1, d2, d3] }
  | _ => none }
def SymbolChecksWrongFalsely : Prop := symbolChecksRow.holds Tryz.pinned (OpenSpec.ofChange symbolChecksWrong)

/-- 'mapsheetslaw46.SymbolFits': WHATEVER THE INPUT: true; the input reads as it did. -/
def symbolFitsSpec : ChangeSpec := { name := "symbolFits", fn := fun _ => fun
  | [d1, d2] => { results := [.lit (.bool true)], args := [d1, d2] }
  | _ => none }
def symbolFitsRow : OpenClaim := { program := "ytjlbgjodfikplaagreat", sum := "473e29cf5bb63339f6ed28d97844ad8a8993711607a2b2f905c39e091b130965", func := "mapsheets/mapsheetslaw46.SymbolFits", spec := "symbolFits", inPlace := ["internal/bytealg.IndexByteString", "internal/bytealg.IndexString"], unfollowed := true, recurses := true, named := ["internal/bytealg.MaxLen"], plainKeys := false, apart := false }
def SymbolFitsSaid : Prop := symbolFitsRow.holds Tryz.pinned (OpenSpec.ofChange symbolFitsSpec)

/-- ITS FALSE NEIGHBOUR: 'it returns false'. Refute it at one input. -/
def symbolFitsWrong : ChangeSpec := { name := "symbolFits", fn := fun _ => fun
  | [d1, d2] => { results := [.lit (.bool false)], args := [d1, d2] }
  | _ => none }
def SymbolFitsWrongFalsely : Prop := symbolFitsRow.holds Tryz.pinned (OpenSpec.ofChange symbolFitsWrong)

/-- 'mapsheetslaw46.SymbolTaken': WHATEVER THE INPUT: true; the input reads as it did. -/
def symbolTakenSpec : ChangeSpec := { name := "symbolTaken", fn := fun _ => fun
  | [d1, d2, d3] => { results := [.lit (.bool true)], args := [d1, d2, d3] }
  | _ => none }
def symbolTakenRow : OpenClaim := { program := "ytjlbgjodfikplaagreat", sum := "473e29cf5bb63339f6ed28d97844ad8a8993711607a2b2f905c39e091b130965", func := "mapsheets/mapsheetslaw46.SymbolTaken", spec := "symbolTaken", inPlace := ["internal/bytealg.IndexByteString", "internal/bytealg.IndexString"], unfollowed := true, recurses := true, named := ["internal/bytealg.MaxLen"], plainKeys := false, apart := false }
def SymbolTakenSaid : Prop := symbolTakenRow.holds Tryz.pinned (OpenSpec.ofChange symbolTakenSpec)

/-- ITS FALSE NEIGHBOUR: 'it returns false'. Refute it at one input. -/
def symbolTakenWrong : ChangeSpec := { name := "symbolTaken", fn := fun _ => fun
  | [d1, d2, d3] => { results := [.lit (.bool false)], args := [d1, d2, d3] }
  | _ => none }
def SymbolTakenWrongFalsely : Prop := symbolTakenRow.holds Tryz.pinned (OpenSpec.ofChange symbolTakenWrong)

/-- 'mapsheetslaw46.SymbolGrows': WHATEVER THE INPUT: true; the input reads as it did. -/
def symbolGrowsSpec : ChangeSpec := { name := "symbolGrows", fn := fun _ => fun
  | [d1, d2, d3, d4] => { results := [.lit (.bool true)], args := [d1, d2, d3, d4] }
  | _ => none }
def symbolGrowsRow : OpenClaim := { program := "ytjlbgjodfikplaagreat", sum := "473e29cf5bb63339f6ed28d97844ad8a8993711607a2b2f905c39e091b130965", func := "mapsheets/mapsheetslaw46.SymbolGrows", spec := "symbolGrows", inPlace := ["internal/bytealg.IndexByteString", "internal/bytealg.IndexString"], unfollowed := true, recurses := true, named := ["internal/bytealg.MaxLen"], plainKeys := false, apart := false }
def SymbolGrowsSaid : Prop := symbolGrowsRow.holds Tryz.pinned (OpenSpec.ofChange symbolGrowsSpec)

/-- ITS FALSE NEIGHBOUR: 'it returns false'. Refute it at one input. -/
def symbolGrowsWrong : ChangeSpec := { name := "symbolGrows", fn := fun _ => fun
  | [d1, d2, d3, d4] => { results := [.lit (.bool false)], args := [d1, d2, d3, d4] }
  | _ => none }
def SymbolGrowsWrongFalsely : Prop := symbolGrowsRow.holds Tryz.pinned (OpenSpec.ofChange symbolGrowsWrong)

/-- 'mapsheetslaw46.SymbolChosen': WHATEVER THE INPUT: true; the input reads as it did. -/
def symbolChosenSpec : ChangeSpec := { name := "symbolChosen", fn := fun _ => fun
  | [d1, d2, d3] => { results := [.lit (.bool true)], args := [d1, d2, d3] }
  | _ => none }
def symbolChosenRow : OpenClaim := { program := "ytjlbgjodfikplaagreat", sum := "473e29cf5bb63339f6ed28d97844ad8a8993711607a2b2f905c39e091b130965", func := "mapsheets/mapsheetslaw46.SymbolChosen", spec := "symbolChosen", inPlace := ["internal/bytealg.IndexByteString", "internal/bytealg.IndexString"], unfollowed := true, recurses := true, named := ["internal/bytealg.MaxLen"], plainKeys := false, apart := false }
def SymbolChosenSaid : Prop := symbolChosenRow.holds Tryz.pinned (OpenSpec.ofChange symbolChosenSpec)

/-- ITS FALSE NEIGHBOUR: 'it returns false'. Refute it at one input. -/
def symbolChosenWrong : ChangeSpec := { name := "symbolChosen", fn := fun _ => fun
  | [d1, d2, d3] => { results := [.lit (.bool false)], args := [d1, d2, d3] }
  | _ => none }
def SymbolChosenWrongFalsely : Prop := symbolChosenRow.holds Tryz.pinned (OpenSpec.ofChange symbolChosenWrong)

/-- 'mapsheetslaw46.SymbolAround': WHATEVER THE INPUT: true; the input reads as it did. -/
def symbolAroundSpec : ChangeSpec := { name := "symbolAround", fn := fun _ => fun
  | [d1, d2, d3] => { results := [.lit (.bool true)], args := [d1, d2, d3] }
  | _ => none }
def symbolAroundRow : OpenClaim := { program := "ytjlbgjodfikplaagreat", sum := "473e29cf5bb63339f6ed28d97844ad8a8993711607a2b2f905c39e091b130965", func := "mapsheets/mapsheetslaw46.SymbolAround", spec := "symbolAround", inPlace := ["internal/bytealg.IndexByteString", "internal/bytealg.IndexString"], unfollowed := true, recurses := true, named := ["internal/bytealg.MaxLen"], plainKeys := false, apart := false }
def SymbolAroundSaid : Prop := symbolAroundRow.holds Tryz.pinned (OpenSpec.ofChange symbolAroundSpec)

/-- ITS FALSE NEIGHBOUR: 'it returns false'. Refute it at one input. -/
def symbolAroundWrong : ChangeSpec := { name := "symbolAround", fn := fun _ => fun
  | [d1, d2, d3] => { results := [.lit (.bool false)], args := [d1, d2, d3] }
  | _ => none }
def SymbolAroundWrongFalsely : Prop := symbolAroundRow.holds Tryz.pinned (OpenSpec.ofChange symbolAroundWrong)

/-- 'mapsheetslaw17.FeatureFinds': WHATEVER THE INPUT: true; the input reads as it did. -/
def featureFindsSpec : ChangeSpec := { name := "featureFinds", fn := fun _ => fun
  | [d1, d2, d3] => { results := [.lit (.bool true)], args := [d1, d2, d3] }
  | _ => none }
def featureFindsRow : OpenClaim := { program := "ytjlbgjodfikplaagreat", sum := "473e29cf5bb63339f6ed28d97844ad8a8993711607a2b2f905c39e091b130965", func := "mapsheets/mapsheetslaw17.FeatureFinds", spec := "featureFinds", inPlace := ["internal/bytealg.IndexByteString", "internal/bytealg.IndexString"], unfollowed := true, recurses := true, named := ["internal/bytealg.MaxLen"], plainKeys := false, apart := false }
def FeatureFindsSaid : Prop := featureFindsRow.holds Tryz.pinned (OpenSpec.ofChange featureFindsSpec)

/-- ITS FALSE NEIGHBOUR: 'it returns false'. Refute it at one input. -/
def featureFindsWrong : ChangeSpec := { name := "featureFinds", fn := fun _ => fun
  | [d1, d2, d3] => { results := [.lit (.bool false)], args := [d1, d2, d3] }
  | _ => none }
def FeatureFindsWrongFalsely : Prop := featureFindsRow.holds Tryz.pinned (OpenSpec.ofChange featureFindsWrong)

/-- 'mapsheetslaw17.FeatureChecks': WHATEVER THE INPUT: true; the input reads as it did. -/
def featureChecksSpec : ChangeSpec := { name := "featureChecks", fn := fun _ => fun
  | [d] => { results := [.lit (.bool true)], args := [d] }
  | _ => none }
def featureChecksRow : OpenClaim := { program := "ytjlbgjodfikplaagreat", sum := "473e29cf5bb63339f6ed28d97844ad8a8993711607a2b2f905c39e091b130965", func := "mapsheets/mapsheetslaw17.FeatureChecks", spec := "featureChecks", inPlace := ["internal/bytealg.IndexByteString", "internal/bytealg.IndexString"], unfollowed := true, recurses := true, named := ["internal/bytealg.MaxLen"], plainKeys := false, apart := false }
def FeatureChecksSaid : Prop := featureChecksRow.holds Tryz.pinned (OpenSpec.ofChange featureChecksSpec)

/-- ITS FALSE NEIGHBOUR: 'it returns false'. Refute it at one input. -/
def featureChecksWrong : ChangeSpec := { name := "featureChecks", fn := fun _ => fun
  | [d] => { results := [.lit (.bool false)], args := [d] }
  | _ => none }
def FeatureChecksWrongFalsely : Prop := featureChecksRow.holds Tryz.pinned (OpenSpec.ofChange featureChecksWrong)

/-- 'mapsheetslaw17.FeatureAreas': WHATEVER THE INPUT: true; the input reads as it did. -/
def featureAreasSpec : ChangeSpec := { name := "featureAreas", fn := fun _ => fun
  | [d1, d2, d3] => { results := [.lit (.bool true)], args := [d1, d2, d3] }
  | _ => none }
def featureAreasRow : OpenClaim := { program := "ytjlbgjodfikplaagreat", sum := "473e29cf5bb63339f6ed28d97844ad8a8993711607a2b2f905c39e091b130965", func := "mapsheets/mapsheetslaw17.FeatureAreas", spec := "featureAreas", inPlace := ["internal/bytealg.IndexByteString", "internal/bytealg.IndexString"], unfollowed := true, recurses := true, named := ["internal/bytealg.MaxLen"], plainKeys := false, apart := false }
def FeatureAreasSaid : Prop := featureAreasRow.holds Tryz.pinned (OpenSpec.ofChange featureAreasSpec)

/-- ITS FALSE NEIGHBOUR: 'it returns false'. Refute it at one input. -/
def featureAreasWrong : ChangeSpec := { name := "featureAreas", fn := fun _ => fun
  | [d1, d2, d3] => { results := [.lit (.bool false)], args := [d1, d2, d3] }
  | _ => none }
def FeatureAreasWrongFalsely : Prop := featureAreasRow.holds Tryz.pinned (OpenSpec.ofChange featureAreasWrong)

/-- 'mapsheetslaw17.FeatureUses': WHATEVER THE INPUT: true; the input reads as it did. -/
def featureUsesSpec : ChangeSpec := { name := "featureUses", fn := fun _ => fun
  | [d] => { results := [.lit (.bool true)], args := [d] }
  | _ => none }
def featureUsesRow : OpenClaim := { program := "ytjlbgjodfikplaagreat", sum := "473e29cf5bb63339f6ed28d97844ad8a8993711607a2b2f905c39e091b130965", func := "mapsheets/mapsheetslaw17.FeatureUses", spec := "featureUses", inPlace := ["internal/bytealg.IndexByteString", "internal/bytealg.IndexString"], unfollowed := true, recurses := true, named := ["internal/bytealg.MaxLen"], plainKeys := false, apart := false }
def FeatureUsesSaid : Prop := featureUsesRow.holds Tryz.pinned (OpenSpec.ofChange featureUsesSpec)

/-- ITS FALSE NEIGHBOUR: 'it returns false'. Refute it at one input. -/
def featureUsesWrong : ChangeSpec := { name := "featureUses", fn := fun _ => fun
  | [d] => { results := [.lit (.bool false)], args := [d] }
  | _ => none }
def FeatureUsesWrongFalsely : Prop := featureUsesRow.holds Tryz.pinned (OpenSpec.ofChange featureUsesWrong)

/-- 'mapsheetslaw17.FeatureSums': WHATEVER THE INPUT: true; the input reads as it did. -/
def featureSumsSpec : ChangeSpec := { name := "featureSums", fn := fun _ => fun
  | [d] => { results := [.lit (.bool true)], args := [d] }
  | _ => none }
def featureSumsRow : OpenClaim := { program := "ytjlbgjodfikplaagreat", sum := "473e29cf5bb63339f6ed28d97844ad8a8993711607a2b2f905c39e091b130965", func := "mapsheets/mapsheetslaw17.FeatureSums", spec := "featureSums", inPlace := ["internal/bytealg.IndexByteString", "internal/bytealg.IndexString"], unfollowed := true, recurses := true, named := ["internal/bytealg.MaxLen"], plainKeys := false, apart := false }
def FeatureSumsSaid : Prop := featureSumsRow.holds Tryz.pinned (OpenSpec.ofChange featureSumsSpec)

/-- ITS FALSE NEIGHBOUR: 'it returns false'. Refute it at one input. -/
def featureSumsWrong : ChangeSpec := { name := "featureSums", fn := fun _ => fun
  | [d] => { results := [.lit (.bool false)], args := [d] }
  | _ => none }
def FeatureSumsWrongFalsely : Prop := featureSumsRow.holds Tryz.pinned (OpenSpec.ofChange featureSumsWrong)

/-- 'mapsheetslaw17.FeatureBoxes': WHATEVER THE INPUT: true; the input reads as it did. -/
def featureBoxesSpec : ChangeSpec := { name := "featureBoxes", fn := fun _ => fun
  | [d] => { results := [.lit (.bool true)], args := [d] }
  | _ => none }
def featureBoxesRow : OpenClaim := { program := "ytjlbgjodfikplaagreat", sum := "473e29cf5bb63339f6ed28d97844ad8a8993711607a2b2f905c39e091b130965", func := "mapsheets/mapsheetslaw17.FeatureBoxes", spec := "featureBoxes", inPlace := ["internal/bytealg.IndexByteString", "internal/bytealg.IndexString"], unfollowed := true, recurses := true, named := ["internal/bytealg.MaxLen"], plainKeys := false, apart := false }
def FeatureBoxesSaid : Prop := featureBoxesRow.holds Tryz.pinned (OpenSpec.ofChange featureBoxesSpec)

/-- ITS FALSE NEIGHBOUR: 'it returns false'. Refute it at one input. -/
def featureBoxesWrong : ChangeSpec := { name := "featureBoxes", fn := fun _ => fun
  | [d] => { results := [.lit (.bool false)], args := [d] }
  | _ => none }
def FeatureBoxesWrongFalsely : Prop := featureBoxesRow.holds Tryz.pinned (OpenSpec.ofChange featureBoxesWrong)

/-- 'mapsheetslaw17.FeatureDrops': WHATEVER THE INPUT: true; the input reads as it did. -/
def featureDropsSpec : ChangeSpec := { name := "featureDrops", fn := fun _ => fun
  | [d1, d2, d3] => { results := [.lit (.bool true)], args := [d1, d2, d3] }
  | _ => none }
def featureDropsRow : OpenClaim := { program := "ytjlbgjodfikplaagreat", sum := "473e29cf5bb63339f6ed28d97844ad8a8993711607a2b2f905c39e091b130965", func := "mapsheets/mapsheetslaw17.FeatureDrops", spec := "featureDrops", inPlace := ["internal/bytealg.IndexByteString", "internal/bytealg.IndexString"], unfollowed := true, recurses := true, named := ["internal/bytealg.MaxLen"], plainKeys := false, apart := false }
def FeatureDropsSaid : Prop := featureDropsRow.holds Tryz.pinned (OpenSpec.ofChange featureDropsSpec)

/-- ITS FALSE NEIGHBOUR: 'it returns false'. Refute it at one input. -/
def featureDropsWrong : ChangeSpec := { name := "featureDrops", fn := fun _ => fun
  | [d1, d2, d3] => { results := [.lit (.bool false)], args := [d1, d2, d3] }
  | _ => none }
def FeatureDropsWrongFalsely : Prop := featureDropsRow.holds Tryz.pinned (OpenSpec.ofChange featureDropsWrong)

/-- 'mapsheetslaw17.FeatureJoins': WHATEVER THE INPUT: true; the input reads as it did. -/
def featureJoinsSpec : ChangeSpec := { name := "featureJoins", fn := fun _ => fun
  | [d1, d2, d3] => { results := [.lit (.bool true)], args := [d1, d2, d3] }
  | _ => none }
def featureJoinsRow : OpenClaim := { program := "ytjlbgjodfikplaagreat", sum := "473e29cf5bb63339f6ed28d97844ad8a8993711607a2b2f905c39e091b130965", func := "mapsheets/mapsheetslaw17.FeatureJoins", spec := "featureJoins", inPlace := ["internal/bytealg.IndexByteString", "internal/bytealg.IndexString"], unfollowed := true, recurses := true, named := ["internal/bytealg.MaxLen"], plainKeys := false, apart := false }
def FeatureJoinsSaid : Prop := featureJoinsRow.holds Tryz.pinned (OpenSpec.ofChange featureJoinsSpec)

/-- ITS FALSE NEIGHBOUR: 'it returns false'. Refute it at one input. -/
def featureJoinsWrong : ChangeSpec := { name := "featureJoins", fn := fun _ => fun
  | [d1, d2, d3] => { results := [.lit (.bool false)], args := [d1, d2, d3] }
  | _ => none }
def FeatureJoinsWrongFalsely : Prop := featureJoinsRow.holds Tryz.pinned (OpenSpec.ofChange featureJoinsWrong)

/- THE SECOND FORM. 'bulk': how many values and letters a reading holds, each counted each time it is reached (what is shared counts as often as it is met; a slice's spare places count too). A statement '..UptoSaid' is the law's where the arguments, and the package variables that the reading takes, are together of bulk at most 1048576: NARROWER than '..Said'. Prove '..Said' where nothing that the law and all that it calls make is longer than what came in: it says more and counts as full. Else prove '..UptoSaid'. A law counts once. -/
mutual
def uptoBulk {H : Type} : DataW H → Nat
  | .lit (.string bytes) => bytes.length + 1
  | .lit _ => 1
  | .nil => 1
  | .ptr d => uptoBulk d + 1
  | .slice elems spare => uptoBulkAll elems + uptoBulkAll spare + 1
  | .agg parts => uptoBulkAll parts + 1
  | .iface _ d => uptoBulk d + 1
  | .map entries => uptoBulkEntries entries + 1
  | .held _ => 1
def uptoBulkAll {H : Type} : List (DataW H) → Nat
  | [] => 0
  | d :: r => uptoBulk d + uptoBulkAll r
def uptoBulkEntries {H : Type} : List (Lit × DataW H) → Nat
  | [] => 0
  | x :: r => uptoBulkEntry x + uptoBulkEntries r
def uptoBulkEntry {H : Type} : Lit × DataW H → Nat
  | (.string bytes, d) => bytes.length + uptoBulk d + 1
  | (_, d) => uptoBulk d + 1
 end
def uptoSmall : (H : Type) → List (DataW H) → Bool := fun _ ds => decide (uptoBulkAll ds ≤ 1048576)
def OpenSpec.upto (s : _root_.Go.ChangeSpec) : _root_.Go.OpenSpec := { _root_.Go.OpenSpec.ofChange s with cond := some uptoSmall }

/-- 'mapsheetslaw46.SymbolChecks', WHERE WHAT IT READS IS OF BULK AT MOST 1048576: true; the input reads as it did. -/
def symbolChecksUptoRow : OpenClaim := { program := "ytjlbgjodfikplaagreat", sum := "473e29cf5bb63339f6ed28d97844ad8a8993711607a2b2f905c39e091b130965", func := "mapsheets/mapsheetslaw46.SymbolChecks", spec := "symbolChecks", inPlace := ["internal/bytealg.IndexByteString", "internal/bytealg.IndexString"], unfollowed := true, recurses := true, named := ["internal/bytealg.MaxLen"], plainKeys := false, apart := false, narrowed := true }
def SymbolChecksUptoSaid : Prop := symbolChecksUptoRow.holds Tryz.pinned (OpenSpec.upto symbolChecksSpec)

/-- 'mapsheetslaw46.SymbolFits', WHERE WHAT IT READS IS OF BULK AT MOST 1048576: true; the input reads as it did. -/
def symbolFitsUptoRow : OpenClaim := { program := "ytjlbgjodfikplaagreat", sum := "473e29cf5bb63339f6ed28d97844ad8a8993711607a2b2f905c39e091b130965", func := "mapsheets/mapsheetslaw46.SymbolFits", spec := "symbolFits", inPlace := ["internal/bytealg.IndexByteString", "internal/bytealg.IndexString"], unfollowed := true, recurses := true, named := ["internal/bytealg.MaxLen"], plainKeys := false, apart := false, narrowed := true }
def SymbolFitsUptoSaid : Prop := symbolFitsUptoRow.holds Tryz.pinned (OpenSpec.upto symbolFitsSpec)

/-- 'mapsheetslaw46.SymbolTaken', WHERE WHAT IT READS IS OF BULK AT MOST 1048576: true; the input reads as it did. -/
def symbolTakenUptoRow : OpenClaim := { program := "ytjlbgjodfikplaagreat", sum := "473e29cf5bb63339f6ed28d97844ad8a8993711607a2b2f905c39e091b130965", func := "mapsheets/mapsheetslaw46.SymbolTaken", spec := "symbolTaken", inPlace := ["internal/bytealg.IndexByteString", "internal/bytealg.IndexString"], unfollowed := true, recurses := true, named := ["internal/bytealg.MaxLen"], plainKeys := false, apart := false, narrowed := true }
def SymbolTakenUptoSaid : Prop := symbolTakenUptoRow.holds Tryz.pinned (OpenSpec.upto symbolTakenSpec)

/-- 'mapsheetslaw46.SymbolGrows', WHERE WHAT IT READS IS OF BULK AT MOST 1048576: true; the input reads as it did. -/
def symbolGrowsUptoRow : OpenClaim := { program := "ytjlbgjodfikplaagreat", sum := "473e29cf5bb63339f6ed28d97844ad8a8993711607a2b2f905c39e091b130965", func := "mapsheets/mapsheetslaw46.SymbolGrows", spec := "symbolGrows", inPlace := ["internal/bytealg.IndexByteString", "internal/bytealg.IndexString"], unfollowed := true, recurses := true, named := ["internal/bytealg.MaxLen"], plainKeys := false, apart := false, narrowed := true }
def SymbolGrowsUptoSaid : Prop := symbolGrowsUptoRow.holds Tryz.pinned (OpenSpec.upto symbolGrowsSpec)

/-- 'mapsheetslaw46.SymbolChosen', WHERE WHAT IT READS IS OF BULK AT MOST 1048576: true; the input reads as it did. -/
def symbolChosenUptoRow : OpenClaim := { program := "ytjlbgjodfikplaagreat", sum := "473e29cf5bb63339f6ed28d97844ad8a8993711607a2b2f905c39e091b130965", func := "mapsheets/mapsheetslaw46.SymbolChosen", spec := "symbolChosen", inPlace := ["internal/bytealg.IndexByteString", "internal/bytealg.IndexString"], unfollowed := true, recurses := true, named := ["internal/bytealg.MaxLen"], plainKeys := false, apart := false, narrowed := true }
def SymbolChosenUptoSaid : Prop := symbolChosenUptoRow.holds Tryz.pinned (OpenSpec.upto symbolChosenSpec)

/-- 'mapsheetslaw46.SymbolAround', WHERE WHAT IT READS IS OF BULK AT MOST 1048576: true; the input reads as it did. -/
def symbolAroundUptoRow : OpenClaim := { program := "ytjlbgjodfikplaagreat", sum := "473e29cf5bb63339f6ed28d97844ad8a8993711607a2b2f905c39e091b130965", func := "mapsheets/mapsheetslaw46.SymbolAround", spec := "symbolAround", inPlace := ["internal/bytealg.IndexByteString", "internal/bytealg.IndexString"], unfollowed := true, recurses := true, named := ["internal/bytealg.MaxLen"], plainKeys := false, apart := false, narrowed := true }
def SymbolAroundUptoSaid : Prop := symbolAroundUptoRow.holds Tryz.pinned (OpenSpec.upto symbolAroundSpec)

/-- 'mapsheetslaw17.FeatureFinds', WHERE WHAT IT READS IS OF BULK AT MOST 1048576: true; the input reads as it did. -/
def featureFindsUptoRow : OpenClaim := { program := "ytjlbgjodfikplaagreat", sum := "473e29cf5bb63339f6ed28d97844ad8a8993711607a2b2f905c39e091b130965", func := "mapsheets/mapsheetslaw17.FeatureFinds", spec := "featureFinds", inPlace := ["internal/bytealg.IndexByteString", "internal/bytealg.IndexString"], unfollowed := true, recurses := true, named := ["internal/bytealg.MaxLen"], plainKeys := false, apart := false, narrowed := true }
def FeatureFindsUptoSaid : Prop := featureFindsUptoRow.holds Tryz.pinned (OpenSpec.upto featureFindsSpec)

/-- 'mapsheetslaw17.FeatureChecks', WHERE WHAT IT READS IS OF BULK AT MOST 1048576: true; the input reads as it did. -/
def featureChecksUptoRow : OpenClaim := { program := "ytjlbgjodfikplaagreat", sum := "473e29cf5bb63339f6ed28d97844ad8a8993711607a2b2f905c39e091b130965", func := "mapsheets/mapsheetslaw17.FeatureChecks", spec := "featureChecks", inPlace := ["internal/bytealg.IndexByteString", "internal/bytealg.IndexString"], unfollowed := true, recurses := true, named := ["internal/bytealg.MaxLen"], plainKeys := false, apart := false, narrowed := true }
def FeatureChecksUptoSaid : Prop := featureChecksUptoRow.holds Tryz.pinned (OpenSpec.upto featureChecksSpec)

/-- 'mapsheetslaw17.FeatureAreas', WHERE WHAT IT READS IS OF BULK AT MOST 1048576: true; the input reads as it did. -/
def featureAreasUptoRow : OpenClaim := { program := "ytjlbgjodfikplaagreat", sum := "473e29cf5bb63339f6ed28d97844ad8a8993711607a2b2f905c39e091b130965", func := "mapsheets/mapsheetslaw17.FeatureAreas", spec := "featureAreas", inPlace := ["internal/bytealg.IndexByteString", "internal/bytealg.IndexString"], unfollowed := true, recurses := true, named := ["internal/bytealg.MaxLen"], plainKeys := false, apart := false, narrowed := true }
def FeatureAreasUptoSaid : Prop := featureAreasUptoRow.holds Tryz.pinned (OpenSpec.upto featureAreasSpec)

/-- 'mapsheetslaw17.FeatureUses', WHERE WHAT IT READS IS OF BULK AT MOST 1048576: true; the input reads as it did. -/
def featureUsesUptoRow : OpenClaim := { program := "ytjlbgjodfikplaagreat", sum := "473e29cf5bb63339f6ed28d97844ad8a8993711607a2b2f905c39e091b130965", func := "mapsheets/mapsheetslaw17.FeatureUses", spec := "featureUses", inPlace := ["internal/bytealg.IndexByteString", "internal/bytealg.IndexString"], unfollowed := true, recurses := true, named := ["internal/bytealg.MaxLen"], plainKeys := false, apart := false, narrowed := true }
def FeatureUsesUptoSaid : Prop := featureUsesUptoRow.holds Tryz.pinned (OpenSpec.upto featureUsesSpec)

/-- 'mapsheetslaw17.FeatureSums', WHERE WHAT IT READS IS OF BULK AT MOST 1048576: true; the input reads as it did. -/
def featureSumsUptoRow : OpenClaim := { program := "ytjlbgjodfikplaagreat", sum := "473e29cf5bb63339f6ed28d97844ad8a8993711607a2b2f905c39e091b130965", func := "mapsheets/mapsheetslaw17.FeatureSums", spec := "featureSums", inPlace := ["internal/bytealg.IndexByteString", "internal/bytealg.IndexString"], unfollowed := true, recurses := true, named := ["internal/bytealg.MaxLen"], plainKeys := false, apart := false, narrowed := true }
def FeatureSumsUptoSaid : Prop := featureSumsUptoRow.holds Tryz.pinned (OpenSpec.upto featureSumsSpec)

/-- 'mapsheetslaw17.FeatureBoxes', WHERE WHAT IT READS IS OF BULK AT MOST 1048576: true; the input reads as it did. -/
def featureBoxesUptoRow : OpenClaim := { program := "ytjlbgjodfikplaagreat", sum := "473e29cf5bb63339f6ed28d97844ad8a8993711607a2b2f905c39e091b130965", func := "mapsheets/mapsheetslaw17.FeatureBoxes", spec := "featureBoxes", inPlace := ["internal/bytealg.IndexByteString", "internal/bytealg.IndexString"], unfollowed := true, recurses := true, named := ["internal/bytealg.MaxLen"], plainKeys := false, apart := false, narrowed := true }
def FeatureBoxesUptoSaid : Prop := featureBoxesUptoRow.holds Tryz.pinned (OpenSpec.upto featureBoxesSpec)

/-- 'mapsheetslaw17.FeatureDrops', WHERE WHAT IT READS IS OF BULK AT MOST 1048576: true; the input reads as it did. -/
def featureDropsUptoRow : OpenClaim := { program := "ytjlbgjodfikplaagreat", sum := "473e29cf5bb63339f6ed28d97844ad8a8993711607a2b2f905c39e091b130965", func := "mapsheets/mapsheetslaw17.FeatureDrops", spec := "featureDrops", inPlace := ["internal/bytealg.IndexByteString", "internal/bytealg.IndexString"], unfollowed := true, recurses := true, named := ["internal/bytealg.MaxLen"], plainKeys := false, apart := false, narrowed := true }
def FeatureDropsUptoSaid : Prop := featureDropsUptoRow.holds Tryz.pinned (OpenSpec.upto featureDropsSpec)

/-- 'mapsheetslaw17.FeatureJoins', WHERE WHAT IT READS IS OF BULK AT MOST 1048576: true; the input reads as it did. -/
def featureJoinsUptoRow : OpenClaim := { program := "ytjlbgjodfikplaagreat", sum := "473e29cf5bb63339f6ed28d97844ad8a8993711607a2b2f905c39e091b130965", func := "mapsheets/mapsheetslaw17.FeatureJoins", spec := "featureJoins", inPlace := ["internal/bytealg.IndexByteString", "internal/bytealg.IndexString"], unfollowed := true, recurses := true, named := ["internal/bytealg.MaxLen"], plainKeys := false, apart := false, narrowed := true }
def FeatureJoinsUptoSaid : Prop := featureJoinsUptoRow.holds Tryz.pinned (OpenSpec.upto featureJoinsSpec)

end Rows
end Go.Proofs.YtjlbgjodfikplaaGreat
