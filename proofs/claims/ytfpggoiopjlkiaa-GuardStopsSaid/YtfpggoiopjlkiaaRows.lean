/-
  No cell of these rows narrows 'for every input' (looked for: loops, veiled, ifaces, maps, wideKeys, modest, calm, conditions, laid).
  DERIVED. THE GIVEN ROWS OF THIS SEAT. 6 by the template 'for every input the law returns true; each argument reads behind the call as it read before'; 0 by the template 'total and deterministic' (their statements: YtfpggoiopjlkiaaTotals.lean).
  GIVEN WITH THE SEED: the statements are not yours to turn. If you find one false, say at which input.
  Laid BY PROGRAM, IN A SANDBOX (cutbox-rows.mjs): the forced cells as the released guide's own fill.sh prints them over the translation a18d5b690ab7bcbb… (all of the seat's roots in one cut). By AI agents, Wed Nov 11 2026. No macro, syntax, notation, axiom, sorry.
-/
import Derived.Test.YtfpggoiopjlkiaaChecked
import GoSem.Claim
import GoSem.ClaimJoined
import GoSem.ClaimMapViews
import Derived.JoinedTies
import Derived.KernelRfl
namespace Go.Proofs.Ytfpggoiopjlkiaa
/- THE CELL 'sum', in the pinned program and in every row, IS THE sha256 OF THE DUMP (.gsa) THAT YtfpggoiopjlkiaaProg.lean LOADS. Nothing in Lean hashes anything: it is a label: what it is worth is what the hold of that sum in a sandbox is worth. -/
noncomputable def Try.pinned : Pinned := { name := "ytfpggoiopjlkiaa", sum := "a18d5b690ab7bcbba89d8a797b1190ff07e351420c6b629a63f27cb1fdaa3dfd", checked := Try.checked }
namespace Rows
def none {H : Type} : Left H := { results := [], args := [] }

/-- 'windhoverlaw18.GuardStops': WHATEVER THE INPUT: true; the input reads as it did. -/
def guardStopsSpec : ChangeSpec := { name := "guardStops", fn := fun _ => fun
  | [d1, d2] => { results := [.lit (.bool true)], args := [d1, d2] }
  | _ => none }
def guardStopsRow : OpenClaim := { program := "ytfpggoiopjlkiaa", sum := "a18d5b690ab7bcbba89d8a797b1190ff07e351420c6b629a63f27cb1fdaa3dfd", func := "windhover/windhoverlaw18.GuardStops", spec := "guardStops", inPlace := ["math/bits.Add64"], unfollowed := true, recurses := true, apart := false }
def GuardStopsSaid : Prop := guardStopsRow.holds Try.pinned (OpenSpec.ofChange guardStopsSpec)

/-- ITS FALSE NEIGHBOUR: 'it returns false'. Refute it at one input. -/
def guardStopsWrong : ChangeSpec := { name := "guardStops", fn := fun _ => fun
  | [d1, d2] => { results := [.lit (.bool false)], args := [d1, d2] }
  | _ => none }
def GuardStopsWrongFalsely : Prop := guardStopsRow.holds Try.pinned (OpenSpec.ofChange guardStopsWrong)

/-- 'windhoverlaw18.GuardAdds': WHATEVER THE INPUT: true; the input reads as it did. -/
def guardAddsSpec : ChangeSpec := { name := "guardAdds", fn := fun _ => fun
  | [d1, d2] => { results := [.lit (.bool true)], args := [d1, d2] }
  | _ => none }
def guardAddsRow : OpenClaim := { program := "ytfpggoiopjlkiaa", sum := "a18d5b690ab7bcbba89d8a797b1190ff07e351420c6b629a63f27cb1fdaa3dfd", func := "windhover/windhoverlaw18.GuardAdds", spec := "guardAdds", inPlace := ["math/bits.Add64"], unfollowed := true, recurses := true, apart := false }
def GuardAddsSaid : Prop := guardAddsRow.holds Try.pinned (OpenSpec.ofChange guardAddsSpec)

/-- ITS FALSE NEIGHBOUR: 'it returns false'. Refute it at one input. -/
def guardAddsWrong : ChangeSpec := { name := "guardAdds", fn := fun _ => fun
  | [d1, d2] => { results := [.lit (.bool false)], args := [d1, d2] }
  | _ => none }
def GuardAddsWrongFalsely : Prop := guardAddsRow.holds Try.pinned (OpenSpec.ofChange guardAddsWrong)

/-- 'windhoverlaw18.GuardBrakes': WHATEVER THE INPUT: true; the input reads as it did. -/
def guardBrakesSpec : ChangeSpec := { name := "guardBrakes", fn := fun _ => fun
  | [d] => { results := [.lit (.bool true)], args := [d] }
  | _ => none }
def guardBrakesRow : OpenClaim := { program := "ytfpggoiopjlkiaa", sum := "a18d5b690ab7bcbba89d8a797b1190ff07e351420c6b629a63f27cb1fdaa3dfd", func := "windhover/windhoverlaw18.GuardBrakes", spec := "guardBrakes", inPlace := ["math/bits.Add64"], unfollowed := true, recurses := true, apart := false }
def GuardBrakesSaid : Prop := guardBrakesRow.holds Try.pinned (OpenSpec.ofChange guardBrakesSpec)

/-- ITS FALSE NEIGHBOUR: 'it returns false'. Refute it at one input. -/
def guardBrakesWrong : ChangeSpec := { name := "guardBrakes", fn := fun _ => fun
  | [d] => { results := [.lit (.bool false)], args := [d] }
  | _ => none }
def GuardBrakesWrongFalsely : Prop := guardBrakesRow.holds Try.pinned (OpenSpec.ofChange guardBrakesWrong)

/-- 'windhoverlaw18.GuardCalms': WHATEVER THE INPUT: true; the input reads as it did. -/
def guardCalmsSpec : ChangeSpec := { name := "guardCalms", fn := fun _ => fun
  | [d] => { results := [.lit (.bool true)], args := [d] }
  | _ => none }
def guardCalmsRow : OpenClaim := { program := "ytfpggoiopjlkiaa", sum := "a18d5b690ab7bcbba89d8a797b1190ff07e351420c6b629a63f27cb1fdaa3dfd", func := "windhover/windhoverlaw18.GuardCalms", spec := "guardCalms", inPlace := ["math/bits.Add64"], unfollowed := true, recurses := true, apart := false }
def GuardCalmsSaid : Prop := guardCalmsRow.holds Try.pinned (OpenSpec.ofChange guardCalmsSpec)

/-- ITS FALSE NEIGHBOUR: 'it returns false'. Refute it at one input. -/
def guardCalmsWrong : ChangeSpec := { name := "guardCalms", fn := fun _ => fun
  | [d] => { results := [.lit (.bool false)], args := [d] }
  | _ => none }
def GuardCalmsWrongFalsely : Prop := guardCalmsRow.holds Try.pinned (OpenSpec.ofChange guardCalmsWrong)

/-- 'windhoverlaw18.GuardAsks': WHATEVER THE INPUT: true; the input reads as it did. -/
def guardAsksSpec : ChangeSpec := { name := "guardAsks", fn := fun _ => fun
  | [d] => { results := [.lit (.bool true)], args := [d] }
  | _ => none }
def guardAsksRow : OpenClaim := { program := "ytfpggoiopjlkiaa", sum := "a18d5b690ab7bcbba89d8a797b1190ff07e351420c6b629a63f27cb1fdaa3dfd", func := "windhover/windhoverlaw18.GuardAsks", spec := "guardAsks", inPlace := ["math/bits.Add64"], unfollowed := true, recurses := true, apart := false }
def GuardAsksSaid : Prop := guardAsksRow.holds Try.pinned (OpenSpec.ofChange guardAsksSpec)

/-- ITS FALSE NEIGHBOUR: 'it returns false'. Refute it at one input. -/
def guardAsksWrong : ChangeSpec := { name := "guardAsks", fn := fun _ => fun
  | [d] => { results := [.lit (.bool false)], args := [d] }
  | _ => none }
def GuardAsksWrongFalsely : Prop := guardAsksRow.holds Try.pinned (OpenSpec.ofChange guardAsksWrong)

/-- 'windhoverlaw18.GuardNil': WHATEVER THE INPUT: true; the input reads as it did. -/
def guardNilSpec : ChangeSpec := { name := "guardNil", fn := fun _ => fun
  | [d] => { results := [.lit (.bool true)], args := [d] }
  | _ => none }
def guardNilRow : OpenClaim := { program := "ytfpggoiopjlkiaa", sum := "a18d5b690ab7bcbba89d8a797b1190ff07e351420c6b629a63f27cb1fdaa3dfd", func := "windhover/windhoverlaw18.GuardNil", spec := "guardNil", inPlace := ["math/bits.Add64"], unfollowed := true, recurses := true, apart := false }
def GuardNilSaid : Prop := guardNilRow.holds Try.pinned (OpenSpec.ofChange guardNilSpec)

/-- ITS FALSE NEIGHBOUR: 'it returns false'. Refute it at one input. -/
def guardNilWrong : ChangeSpec := { name := "guardNil", fn := fun _ => fun
  | [d] => { results := [.lit (.bool false)], args := [d] }
  | _ => none }
def GuardNilWrongFalsely : Prop := guardNilRow.holds Try.pinned (OpenSpec.ofChange guardNilWrong)

/- THE SECOND FORM. 'bulk': how many values and letters a reading holds, each counted each time it is reached (what is shared counts as often as it is met; a slice's spare places count too). A statement '..UptoSaid' is the law's where the arguments, and the package variables that the reading takes, are together of bulk at most 1048576: NARROWER than '..Said'. Prove '..Said' where nothing that the law and all that it calls make is longer than what came in: it says more and counts as full. Else prove '..UptoSaid'. A law counts once. -/
mutual
def uptoBulk {H : Type} : DataW H → Nat
  | .lit (.string bytes) => bytes.length + 1
  | .lit _ => 1
  | .nil => 1
  | .ptr d => uptoBulk d + 1
  | .slice elems spare => uptoBulkAll elems + uptoBulkAll spare + 1
  | .agg parts => uptoBulkAll parts + 1
  | .iface _ d => uptoBulk d + 1
  | .map entries => uptoBulkEntries entries + 1
  | .held _ => 1
def uptoBulkAll {H : Type} : List (DataW H) → Nat
  | [] => 0
  | d :: r => uptoBulk d + uptoBulkAll r
def uptoBulkEntries {H : Type} : List (Lit × DataW H) → Nat
  | [] => 0
  | x :: r => uptoBulkEntry x + uptoBulkEntries r
def uptoBulkEntry {H : Type} : Lit × DataW H → Nat
  | (.string bytes, d) => bytes.length + uptoBulk d + 1
  | (_, d) => uptoBulk d + 1
 end
def uptoSmall : (H : Type) → List (DataW H) → Bool := fun _ ds => decide (uptoBulkAll ds ≤ 1048576)
def OpenSpec.upto (s : _root_.Go.ChangeSpec) : _root_.Go.OpenSpec := { _root_.Go.OpenSpec.ofChange s with cond := some uptoSmall }

/-- 'windhoverlaw18.GuardStops', WHERE WHAT IT READS IS OF BULK AT MOST 1048576: true; the input reads as it did. -/
def guardStopsUptoRow : OpenClaim := { program := "ytfpggoiopjlkiaa", sum := "a18d5b690ab7bcbba89d8a797b1190ff07e351420c6b629a63f27cb1fdaa3dfd", func := "windhover/windhoverlaw18.GuardStops", spec := "guardStops", inPlace := ["math/bits.Add64"], unfollowed := true, recurses := true, apart := false, narrowed := true }
def GuardStopsUptoSaid : Prop := guardStopsUptoRow.holds Try.pinned (OpenSpec.upto guardStopsSpec)

/-- 'windhoverlaw18.GuardAdds', WHERE WHAT IT READS IS OF BULK AT MOST 1048576: true; the input reads as it did. -/
def guardAddsUptoRow : OpenClaim := { program := "ytfpggoiopjlkiaa", sum := "a18d5b690ab7bcbba89d8a797b1190ff07e351420c6b629a63f27cb1fdaa3dfd", func := "windhover/windhoverlaw18.GuardAdds", spec := "guardAdds", inPlace := ["math/bits.Add64"], unfollowed := true, recurses := true, apart := false, narrowed := true }
def GuardAddsUptoSaid : Prop := guardAddsUptoRow.holds Try.pinned (OpenSpec.upto guardAddsSpec)

/-- 'windhoverlaw18.GuardBrakes', WHERE WHAT IT READS IS OF BULK AT MOST 1048576: true; the input reads as it did. -/
def guardBrakesUptoRow : OpenClaim := { program := "ytfpggoiopjlkiaa", sum := "a18d5b690ab7bcbba89d8a797b1190ff07e351420c6b629a63f27cb1fdaa3dfd", func := "windhover/windhoverlaw18.GuardBrakes", spec := "guardBrakes", inPlace := ["math/bits.Add64"], unfollowed := true, recurses := true, apart := false, narrowed := true }
def GuardBrakesUptoSaid : Prop := guardBrakesUptoRow.holds Try.pinned (OpenSpec.upto guardBrakesSpec)

/-- 'windhoverlaw18.GuardCalms', WHERE WHAT IT READS IS OF BULK AT MOST 1048576: true; the input reads as it did. -/
def guardCalmsUptoRow : OpenClaim := { program := "ytfpggoiopjlkiaa", sum := "a18d5b690ab7bcbba89d8a797b1190ff07e351420c6b629a63f27cb1fdaa3dfd", func := "windhover/windhoverlaw18.GuardCalms", spec := "guardCalms", inPlace := ["math/bits.Add64"], unfollowed := true, recurses := true, apart := false, narrowed := true }
def GuardCalmsUptoSaid : Prop := guardCalmsUptoRow.holds Try.pinned (OpenSpec.upto guardCalmsSpec)

/-- 'windhoverlaw18.GuardAsks', WHERE WHAT IT READS IS OF BULK AT MOST 1048576: true; the input reads as it did. -/
def guardAsksUptoRow : OpenClaim := { program := "ytfpggoiopjlkiaa", sum := "a18d5b690ab7bcbba89d8a797b1190ff07e351420c6b629a63f27cb1fdaa3dfd", func := "windhover/windhoverlaw18.GuardAsks", spec := "guardAsks", inPlace := ["math/bits.Add64"], unfollowed := true, recurses := true, apart := false, narrowed := true }
def GuardAsksUptoSaid : Prop := guardAsksUptoRow.holds Try.pinned (OpenSpec.upto guardAsksSpec)

/-- 'windhoverlaw18.GuardNil', WHERE WHAT IT READS IS OF BULK AT MOST 1048576: true; the input reads as it did. -/
def guardNilUptoRow : OpenClaim := { program := "ytfpggoiopjlkiaa", sum := "a18d5b690ab7bcbba89d8a797b1190ff07e351420c6b629a63f27cb1fdaa3dfd", func := "windhover/windhoverlaw18.GuardNil", spec := "guardNil", inPlace := ["math/bits.Add64"], unfollowed := true, recurses := true, apart := false, narrowed := true }
def GuardNilUptoSaid : Prop := guardNilUptoRow.holds Try.pinned (OpenSpec.upto guardNilSpec)

end Rows
end Go.Proofs.Ytfpggoiopjlkiaa
