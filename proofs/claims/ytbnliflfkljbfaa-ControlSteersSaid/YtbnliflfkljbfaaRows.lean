/-
  No cell of these rows narrows 'for every input' (looked for: loops, veiled, ifaces, maps, wideKeys, modest, calm, conditions, laid).
  DERIVED. THE GIVEN ROWS OF THIS SEAT. 6 by the template 'for every input the law returns true; each argument reads behind the call as it read before'; 0 by the template 'total and deterministic' (their statements: YtbnliflfkljbfaaTotals.lean).
  GIVEN WITH THE SEED: the statements are not yours to turn. If you find one false, say at which input.
  Laid BY PROGRAM, IN A SANDBOX (cutbox-rows.mjs): the forced cells as the released guide's own fill.sh prints them over the translation d144bc326d6b260b… (all of the seat's roots in one cut). By AI agents, Wed Nov 11 2026. No macro, syntax, notation, axiom, sorry.
-/
import Derived.Test.YtbnliflfkljbfaaChecked
import GoSem.Claim
import GoSem.ClaimJoined
import GoSem.ClaimMapViews
import Derived.JoinedTies
import Derived.KernelRfl
namespace Go.Proofs.Ytbnliflfkljbfaa
/- THE CELL 'sum', in the pinned program and in every row, IS THE sha256 OF THE DUMP (.gsa) THAT YtbnliflfkljbfaaProg.lean LOADS. Nothing in Lean hashes anything: it is a label: what it is worth is what the hold of that sum in a sandbox is worth. -/
noncomputable def Try.pinned : Pinned := { name := "ytbnliflfkljbfaa", sum := "d144bc326d6b260bcc36128eae04b2645bef498c02821969fe1a6f3197f794b5", checked := Try.checked }
namespace Rows
def none {H : Type} : Left H := { results := [], args := [] }

/-- 'windhoverlaw17.ControlLaws': WHATEVER THE INPUT: true; the input reads as it did. -/
def controlLawsSpec : ChangeSpec := { name := "controlLaws", fn := fun _ => fun
  | [d1, d2, d3] => { results := [.lit (.bool true)], args := [d1, d2, d3] }
  | _ => none }
def controlLawsRow : OpenClaim := { program := "ytbnliflfkljbfaa", sum := "d144bc326d6b260bcc36128eae04b2645bef498c02821969fe1a6f3197f794b5", func := "windhover/windhoverlaw17.ControlLaws", spec := "controlLaws", unfollowed := true, recurses := true, apart := false }
def ControlLawsSaid : Prop := controlLawsRow.holds Try.pinned (OpenSpec.ofChange controlLawsSpec)

/-- ITS FALSE NEIGHBOUR: 'it returns false'. Refute it at one input. -/
def controlLawsWrong : ChangeSpec := { name := "controlLaws", fn := fun _ => fun
  | [d1, d2, d3] => { results := [.lit (.bool false)], args := [d1, d2, d3] }
  | _ => none }
def ControlLawsWrongFalsely : Prop := controlLawsRow.holds Try.pinned (OpenSpec.ofChange controlLawsWrong)

/-- 'windhoverlaw17.ControlShapes': WHATEVER THE INPUT: true; the input reads as it did. -/
def controlShapesSpec : ChangeSpec := { name := "controlShapes", fn := fun _ => fun
  | [d] => { results := [.lit (.bool true)], args := [d] }
  | _ => none }
def controlShapesRow : OpenClaim := { program := "ytbnliflfkljbfaa", sum := "d144bc326d6b260bcc36128eae04b2645bef498c02821969fe1a6f3197f794b5", func := "windhover/windhoverlaw17.ControlShapes", spec := "controlShapes", unfollowed := true, recurses := true, apart := false }
def ControlShapesSaid : Prop := controlShapesRow.holds Try.pinned (OpenSpec.ofChange controlShapesSpec)

/-- ITS FALSE NEIGHBOUR: 'it returns false'. Refute it at one input. -/
def controlShapesWrong : ChangeSpec := { name := "controlShapes", fn := fun _ => fun
  | [d] => { results := [.lit (.bool false)], args := [d] }
  | _ => none }
def ControlShapesWrongFalsely : Prop := controlShapesRow.holds Try.pinned (OpenSpec.ofChange controlShapesWrong)

/-- 'windhoverlaw17.ControlTracks': WHATEVER THE INPUT: true; the input reads as it did. -/
def controlTracksSpec : ChangeSpec := { name := "controlTracks", fn := fun _ => fun
  | [d] => { results := [.lit (.bool true)], args := [d] }
  | _ => none }
def controlTracksRow : OpenClaim := { program := "ytbnliflfkljbfaa", sum := "d144bc326d6b260bcc36128eae04b2645bef498c02821969fe1a6f3197f794b5", func := "windhover/windhoverlaw17.ControlTracks", spec := "controlTracks", unfollowed := true, recurses := true, apart := false }
def ControlTracksSaid : Prop := controlTracksRow.holds Try.pinned (OpenSpec.ofChange controlTracksSpec)

/-- ITS FALSE NEIGHBOUR: 'it returns false'. Refute it at one input. -/
def controlTracksWrong : ChangeSpec := { name := "controlTracks", fn := fun _ => fun
  | [d] => { results := [.lit (.bool false)], args := [d] }
  | _ => none }
def ControlTracksWrongFalsely : Prop := controlTracksRow.holds Try.pinned (OpenSpec.ofChange controlTracksWrong)

/-- 'windhoverlaw17.ControlTurns': WHATEVER THE INPUT: true; the input reads as it did. -/
def controlTurnsSpec : ChangeSpec := { name := "controlTurns", fn := fun _ => fun
  | [d1, d2] => { results := [.lit (.bool true)], args := [d1, d2] }
  | _ => none }
def controlTurnsRow : OpenClaim := { program := "ytbnliflfkljbfaa", sum := "d144bc326d6b260bcc36128eae04b2645bef498c02821969fe1a6f3197f794b5", func := "windhover/windhoverlaw17.ControlTurns", spec := "controlTurns", unfollowed := true, recurses := true, apart := false }
def ControlTurnsSaid : Prop := controlTurnsRow.holds Try.pinned (OpenSpec.ofChange controlTurnsSpec)

/-- ITS FALSE NEIGHBOUR: 'it returns false'. Refute it at one input. -/
def controlTurnsWrong : ChangeSpec := { name := "controlTurns", fn := fun _ => fun
  | [d1, d2] => { results := [.lit (.bool false)], args := [d1, d2] }
  | _ => none }
def ControlTurnsWrongFalsely : Prop := controlTurnsRow.holds Try.pinned (OpenSpec.ofChange controlTurnsWrong)

/-- 'windhoverlaw17.ControlSteers': WHATEVER THE INPUT: true; the input reads as it did. -/
def controlSteersSpec : ChangeSpec := { name := "controlSteers", fn := fun _ => fun
  | [d1, d2] => { results := [.lit (.bool true)], args := [d1, d2] }
  | _ => none }
def controlSteersRow : OpenClaim := { program := "ytbnliflfkljbfaa", sum := "d144bc326d6b260bcc36128eae04b2645bef498c02821969fe1a6f3197f794b5", func := "windhover/windhoverlaw17.ControlSteers", spec := "controlSteers", unfollowed := true, recurses := true, apart := false }
def ControlSteersSaid : Prop := controlSteersRow.holds Try.pinned (OpenSpec.ofChange controlSteersSpec)

/-- ITS FALSE NEIGHBOUR: 'it returns false'. Refute it at one input. -/
def controlSteersWrong : ChangeSpec := { name := "controlSteers", fn := fun _ => fun
  | [d1, d2] => { results := [.lit (.bool false)], args := [d1, d2] }
  | _ => none }
def ControlSteersWrongFalsely : Prop := controlSteersRow.holds Try.pinned (OpenSpec.ofChange controlSteersWrong)

/-- 'windhoverlaw17.ControlNil': WHATEVER THE INPUT: true; the input reads as it did. -/
def controlNilSpec : ChangeSpec := { name := "controlNil", fn := fun _ => fun
  | [d] => { results := [.lit (.bool true)], args := [d] }
  | _ => none }
def controlNilRow : OpenClaim := { program := "ytbnliflfkljbfaa", sum := "d144bc326d6b260bcc36128eae04b2645bef498c02821969fe1a6f3197f794b5", func := "windhover/windhoverlaw17.ControlNil", spec := "controlNil", unfollowed := true, recurses := true, apart := false }
def ControlNilSaid : Prop := controlNilRow.holds Try.pinned (OpenSpec.ofChange controlNilSpec)

/-- ITS FALSE NEIGHBOUR: 'it returns false'. Refute it at one input. -/
def controlNilWrong : ChangeSpec := { name := "controlNil", fn := fun _ => fun
  | [d] => { results := [.lit (.bool false)], args := [d] }
  | _ => none }
def ControlNilWrongFalsely : Prop := controlNilRow.holds Try.pinned (OpenSpec.ofChange controlNilWrong)

/- THE SECOND FORM. 'bulk': how many values and letters a reading holds, each counted each time it is reached (what is shared counts as often as it is met; a slice's spare places count too). A statement '..UptoSaid' is the law's where the arguments, and the package variables that the reading takes, are together of bulk at most 1048576: NARROWER than '..Said'. Prove '..Said' where nothing that the law and all that it calls make is longer than what came in: it says more and counts as full. Else prove '..UptoSaid'. A law counts once. -/
mutual
def uptoBulk {H : Type} : DataW H → Nat
  | .lit (.string bytes) => bytes.length + 1
  | .lit _ => 1
  | .nil => 1
  | .ptr d => uptoBulk d + 1
  | .slice elems spare => uptoBulkAll elems + uptoBulkAll spare + 1
  | .agg parts => uptoBulkAll parts + 1
  | .iface _ d => uptoBulk d + 1
  | .map entries => uptoBulkEntries entries + 1
  | .held _ => 1
def uptoBulkAll {H : Type} : List (DataW H) → Nat
  | [] => 0
  | d :: r => uptoBulk d + uptoBulkAll r
def uptoBulkEntries {H : Type} : List (Lit × DataW H) → Nat
  | [] => 0
  | x :: r => uptoBulkEntry x + uptoBulkEntries r
def uptoBulkEntry {H : Type} : Lit × DataW H → Nat
  | (.string bytes, d) => bytes.length + uptoBulk d + 1
  | (_, d) => uptoBulk d + 1
 end
def uptoSmall : (H : Type) → List (DataW H) → Bool := fun _ ds => decide (uptoBulkAll ds ≤ 1048576)
def OpenSpec.upto (s : _root_.Go.ChangeSpec) : _root_.Go.OpenSpec := { _root_.Go.OpenSpec.ofChange s with cond := some uptoSmall }

/-- 'windhoverlaw17.ControlLaws', WHERE WHAT IT READS IS OF BULK AT MOST 1048576: true; the input reads as it did. -/
def controlLawsUptoRow : OpenClaim := { program := "ytbnliflfkljbfaa", sum := "d144bc326d6b260bcc36128eae04b2645bef498c02821969fe1a6f3197f794b5", func := "windhover/windhoverlaw17.ControlLaws", spec := "controlLaws", unfollowed := true, recurses := true, apart := false, narrowed := true }
def ControlLawsUptoSaid : Prop := controlLawsUptoRow.holds Try.pinned (OpenSpec.upto controlLawsSpec)

/-- 'windhoverlaw17.ControlShapes', WHERE WHAT IT READS IS OF BULK AT MOST 1048576: true; the input reads as it did. -/
def controlShapesUptoRow : OpenClaim := { program := "ytbnliflfkljbfaa", sum := "d144bc326d6b260bcc36128eae04b2645bef498c02821969fe1a6f3197f794b5", func := "windhover/windhoverlaw17.ControlShapes", spec := "controlShapes", unfollowed := true, recurses := true, apart := false, narrowed := true }
def ControlShapesUptoSaid : Prop := controlShapesUptoRow.holds Try.pinned (OpenSpec.upto controlShapesSpec)

/-- 'windhoverlaw17.ControlTracks', WHERE WHAT IT READS IS OF BULK AT MOST 1048576: true; the input reads as it did. -/
def controlTracksUptoRow : OpenClaim := { program := "ytbnliflfkljbfaa", sum := "d144bc326d6b260bcc36128eae04b2645bef498c02821969fe1a6f3197f794b5", func := "windhover/windhoverlaw17.ControlTracks", spec := "controlTracks", unfollowed := true, recurses := true, apart := false, narrowed := true }
def ControlTracksUptoSaid : Prop := controlTracksUptoRow.holds Try.pinned (OpenSpec.upto controlTracksSpec)

/-- 'windhoverlaw17.ControlTurns', WHERE WHAT IT READS IS OF BULK AT MOST 1048576: true; the input reads as it did. -/
def controlTurnsUptoRow : OpenClaim := { program := "ytbnliflfkljbfaa", sum := "d144bc326d6b260bcc36128eae04b2645bef498c02821969fe1a6f3197f794b5", func := "windhover/windhoverlaw17.ControlTurns", spec := "controlTurns", unfollowed := true, recurses := true, apart := false, narrowed := true }
def ControlTurnsUptoSaid : Prop := controlTurnsUptoRow.holds Try.pinned (OpenSpec.upto controlTurnsSpec)

/-- 'windhoverlaw17.ControlSteers', WHERE WHAT IT READS IS OF BULK AT MOST 1048576: true; the input reads as it did. -/
def controlSteersUptoRow : OpenClaim := { program := "ytbnliflfkljbfaa", sum := "d144bc326d6b260bcc36128eae04b2645bef498c02821969fe1a6f3197f794b5", func := "windhover/windhoverlaw17.ControlSteers", spec := "controlSteers", unfollowed := true, recurses := true, apart := false, narrowed := true }
def ControlSteersUptoSaid : Prop := controlSteersUptoRow.holds Try.pinned (OpenSpec.upto controlSteersSpec)

/-- 'windhoverlaw17.ControlNil', WHERE WHAT IT READS IS OF BULK AT MOST 1048576: true; the input reads as it did. -/
def controlNilUptoRow : OpenClaim := { program := "ytbnliflfkljbfaa", sum := "d144bc326d6b260bcc36128eae04b2645bef498c02821969fe1a6f3197f794b5", func := "windhover/windhoverlaw17.ControlNil", spec := "controlNil", unfollowed := true, recurses := true, apart := false, narrowed := true }
def ControlNilUptoSaid : Prop := controlNilUptoRow.holds Try.pinned (OpenSpec.upto controlNilSpec)

end Rows
end Go.Proofs.Ytbnliflfkljbfaa
