/-
  No cell of these rows narrows 'for every input' (looked for: loops, veiled, ifaces, maps, wideKeys, modest, calm, conditions, laid).
  DERIVED. THE GIVEN ROWS OF THIS SEAT. 3 by the template 'for every input the law returns true; each argument reads behind the call as it read before'; 0 by the template 'total and deterministic' (their statements: YtpfnonfehkiemaaTotals.lean).
  GIVEN WITH THE SEED: the statements are not yours to turn. If you find one false, say at which input.
  Laid BY PROGRAM, IN A SANDBOX (cutbox-rows.mjs): the forced cells as the released guide's own fill.sh prints them over the translation fd620df2b366cc4f… (all of the seat's roots in one cut). By AI agents, Wed Nov 11 2026. No macro, syntax, notation, axiom, sorry.
-/
import Derived.Test.YtpfnonfehkiemaaChecked
import GoSem.Claim
import GoSem.ClaimJoined
import GoSem.ClaimMapViews
import Derived.JoinedTies
import Derived.KernelRfl
namespace Go.Proofs.Ytpfnonfehkiemaa
/- THE CELL 'sum', in the pinned program and in every row, IS THE sha256 OF THE DUMP (.gsa) THAT YtpfnonfehkiemaaProg.lean LOADS. Nothing in Lean hashes anything: it is a label: what it is worth is what the hold of that sum in a sandbox is worth. -/
noncomputable def Try.pinned : Pinned := { name := "ytpfnonfehkiemaa", sum := "fd620df2b366cc4fa4294cf50e060e605fcb518972bc3043425066418b3b66f9", checked := Try.checked }
namespace Rows
def none {H : Type} : Left H := { results := [], args := [] }

/-- 'windhoverlaw13.EstHolds': WHATEVER THE INPUT: true; the input reads as it did. -/
def estHoldsSpec : ChangeSpec := { name := "estHolds", fn := fun _ => fun
  | [d] => { results := [.lit (.bool true)], args := [d] }
  | _ => none }
def estHoldsRow : OpenClaim := { program := "ytpfnonfehkiemaa", sum := "fd620df2b366cc4fa4294cf50e060e605fcb518972bc3043425066418b3b66f9", func := "windhover/windhoverlaw13.EstHolds", spec := "estHolds", apart := false }
def EstHoldsSaid : Prop := estHoldsRow.holds Try.pinned (OpenSpec.ofChange estHoldsSpec)

/-- ITS FALSE NEIGHBOUR: 'it returns false'. Refute it at one input. -/
def estHoldsWrong : ChangeSpec := { name := "estHolds", fn := fun _ => fun
  | [d] => { results := [.lit (.bool false)], args := [d] }
  | _ => none }
def EstHoldsWrongFalsely : Prop := estHoldsRow.holds Try.pinned (OpenSpec.ofChange estHoldsWrong)

/-- 'windhoverlaw13.EstTurns': WHATEVER THE INPUT: true; the input reads as it did. -/
def estTurnsSpec : ChangeSpec := { name := "estTurns", fn := fun _ => fun
  | [d1, d2, d3] => { results := [.lit (.bool true)], args := [d1, d2, d3] }
  | _ => none }
def estTurnsRow : OpenClaim := { program := "ytpfnonfehkiemaa", sum := "fd620df2b366cc4fa4294cf50e060e605fcb518972bc3043425066418b3b66f9", func := "windhover/windhoverlaw13.EstTurns", spec := "estTurns", apart := false }
def EstTurnsSaid : Prop := estTurnsRow.holds Try.pinned (OpenSpec.ofChange estTurnsSpec)

/-- ITS FALSE NEIGHBOUR: 'it returns false'. Refute it at one input. -/
def estTurnsWrong : ChangeSpec := { name := "estTurns", fn := fun _ => fun
  | [d1, d2, d3] => { results := [.lit (.bool false)], args := [d1, d2, d3] }
  | _ => none }
def EstTurnsWrongFalsely : Prop := estTurnsRow.holds Try.pinned (OpenSpec.ofChange estTurnsWrong)

/-- 'windhoverlaw13.EstNil': WHATEVER THE INPUT: true; the input reads as it did. -/
def estNilSpec : ChangeSpec := { name := "estNil", fn := fun _ => fun
  | [d] => { results := [.lit (.bool true)], args := [d] }
  | _ => none }
def estNilRow : OpenClaim := { program := "ytpfnonfehkiemaa", sum := "fd620df2b366cc4fa4294cf50e060e605fcb518972bc3043425066418b3b66f9", func := "windhover/windhoverlaw13.EstNil", spec := "estNil", apart := false }
def EstNilSaid : Prop := estNilRow.holds Try.pinned (OpenSpec.ofChange estNilSpec)

/-- ITS FALSE NEIGHBOUR: 'it returns false'. Refute it at one input. -/
def estNilWrong : ChangeSpec := { name := "estNil", fn := fun _ => fun
  | [d] => { results := [.lit (.bool false)], args := [d] }
  | _ => none }
def EstNilWrongFalsely : Prop := estNilRow.holds Try.pinned (OpenSpec.ofChange estNilWrong)

/- THE SECOND FORM. 'bulk': how many values and letters a reading holds, each counted each time it is reached (what is shared counts as often as it is met; a slice's spare places count too). A statement '..UptoSaid' is the law's where the arguments, and the package variables that the reading takes, are together of bulk at most 1048576: NARROWER than '..Said'. Prove '..Said' where nothing that the law and all that it calls make is longer than what came in: it says more and counts as full. Else prove '..UptoSaid'. A law counts once. -/
mutual
def uptoBulk {H : Type} : DataW H → Nat
  | .lit (.string bytes) => bytes.length + 1
  | .lit _ => 1
  | .nil => 1
  | .ptr d => uptoBulk d + 1
  | .slice elems spare => uptoBulkAll elems + uptoBulkAll spare + 1
  | .agg parts => uptoBulkAll parts + 1
  | .iface _ d => uptoBulk d + 1
  | .map entries => uptoBulkEntries entries + 1
  | .held _ => 1
def uptoBulkAll {H : Type} : List (DataW H) → Nat
  | [] => 0
  | d :: r => uptoBulk d + uptoBulkAll r
def uptoBulkEntries {H : Type} : List (Lit × DataW H) → Nat
  | [] => 0
  | x :: r => uptoBulkEntry x + uptoBulkEntries r
def uptoBulkEntry {H : Type} : Lit × DataW H → Nat
  | (.string bytes, d) => bytes.length + uptoBulk d + 1
  | (_, d) => uptoBulk d + 1
 end
def uptoSmall : (H : Type) → List (DataW H) → Bool := fun _ ds => decide (uptoBulkAll ds ≤ 1048576)
def OpenSpec.upto (s : _root_.Go.ChangeSpec) : _root_.Go.OpenSpec := { _root_.Go.OpenSpec.ofChange s with cond := some uptoSmall }

/-- 'windhoverlaw13.EstHolds', WHERE WHAT IT READS IS OF BULK AT MOST 1048576: true; the input reads as it did. -/
def estHoldsUptoRow : OpenClaim := { program := "ytpfnonfehkiemaa", sum := "fd620df2b366cc4fa4294cf50e060e605fcb518972bc3043425066418b3b66f9", func := "windhover/windhoverlaw13.EstHolds", spec := "estHolds", apart := false, narrowed := true }
def EstHoldsUptoSaid : Prop := estHoldsUptoRow.holds Try.pinned (OpenSpec.upto estHoldsSpec)

/-- 'windhoverlaw13.EstTurns', WHERE WHAT IT READS IS OF BULK AT MOST 1048576: true; the input reads as it did. -/
def estTurnsUptoRow : OpenClaim := { program := "ytpfnonfehkiemaa", sum := "fd620df2b366cc4fa4294cf50e060e605fcb518972bc3043425066418b3b66f9", func := "windhover/windhoverlaw13.EstTurns", spec := "estTurns", apart := false, narrowed := true }
def EstTurnsUptoSaid : Prop := estTurnsUptoRow.holds Try.pinned (OpenSpec.upto estTurnsSpec)

/-- 'windhoverlaw13.EstNil', WHERE WHAT IT READS IS OF BULK AT MOST 1048576: true; the input reads as it did. -/
def estNilUptoRow : OpenClaim := { program := "ytpfnonfehkiemaa", sum := "fd620df2b366cc4fa4294cf50e060e605fcb518972bc3043425066418b3b66f9", func := "windhover/windhoverlaw13.EstNil", spec := "estNil", apart := false, narrowed := true }
def EstNilUptoSaid : Prop := estNilUptoRow.holds Try.pinned (OpenSpec.upto estNilSpec)

end Rows
end Go.Proofs.Ytpfnonfehkiemaa
