/-
  No cell of these rows narrows 'for every input' (looked for: loops, veiled, ifaces, maps, wideKeys, modest, calm, conditions, laid).
  DERIVED. THE GIVEN ROWS OF THIS SEAT. 3 by the template 'for every input the law returns true; each argument reads behind the call as it read before'; 0 by the template 'total and deterministic' (their statements: YtbgggogkblkopaaTotals.lean).
  GIVEN WITH THE SEED: the statements are not yours to turn. If you find one false, say at which input.
  Laid BY PROGRAM, IN A SANDBOX (cutbox-rows.mjs): the forced cells as the released guide's own fill.sh prints them over the translation 65e0e7e07794e7b5… (all of the seat's roots in one cut). By AI agents, Wed Nov 11 2026. No macro, syntax, notation, axiom, sorry.
-/
import Derived.Test.YtbgggogkblkopaaChecked
import GoSem.Claim
import GoSem.ClaimJoined
import GoSem.ClaimMapViews
import Derived.JoinedTies
import Derived.KernelRfl
namespace Go.Proofs.Ytbgggogkblkopaa
/- THE CELL 'sum', in the pinned program and in every row, IS THE sha256 OF THE DUMP (.gsa) THAT YtbgggogkblkopaaProg.lean LOADS. Nothing in Lean hashes anything: it is a label: what it is worth is what the hold of that sum in a sandbox is worth. -/
noncomputable def Try.pinned : Pinned := { name := "ytbgggogkblkopaa", sum := "65e0e7e07794e7b5769321724e3dcd58f3e2ce38e8760501ae1194a338b73910", checked := Try.checked }
namespace Rows
def none {H : Type} : Left H := { results := [], args := [] }

/-- 'windhoverlaw23.WorldDrains': WHATEVER THE INPUT: true; the input reads as it did. -/
def worldDrainsSpec : ChangeSpec := { name := "worldDrains", fn := fun _ => fun
  | [d1, d2, d3] => { results := [.lit (.bool true)], args := [d1, d2, d3] }
  | _ => none }
def worldDrainsRow : OpenClaim := { program := "ytbgggogkblkopaa", sum := "65e0e7e07794e7b5769321724e3dcd58f3e2ce38e8760501ae1194a338b73910", func := "windhover/windhoverlaw23.WorldDrains", spec := "worldDrains", apart := false }
def WorldDrainsSaid : Prop := worldDrainsRow.holds Try.pinned (OpenSpec.ofChange worldDrainsSpec)

/-- ITS FALSE NEIGHBOUR: 'it returns false'. Refute it at one input. -/
def worldDrainsWrong : ChangeSpec := { name := "worldDrains", fn := fun _ => fun
  | [d1, d2, d3] => { results := [.lit (.bool false)], args := [d1, d2, d3] }
  | _ => none }
def WorldDrainsWrongFalsely : Prop := worldDrainsRow.holds Try.pinned (OpenSpec.ofChange worldDrainsWrong)

/-- 'windhoverlaw23.WorldSees': WHATEVER THE INPUT: true; the input reads as it did. -/
def worldSeesSpec : ChangeSpec := { name := "worldSees", fn := fun _ => fun
  | [d1, d2, d3] => { results := [.lit (.bool true)], args := [d1, d2, d3] }
  | _ => none }
def worldSeesRow : OpenClaim := { program := "ytbgggogkblkopaa", sum := "65e0e7e07794e7b5769321724e3dcd58f3e2ce38e8760501ae1194a338b73910", func := "windhover/windhoverlaw23.WorldSees", spec := "worldSees", apart := false }
def WorldSeesSaid : Prop := worldSeesRow.holds Try.pinned (OpenSpec.ofChange worldSeesSpec)

/-- ITS FALSE NEIGHBOUR: 'it returns false'. Refute it at one input. -/
def worldSeesWrong : ChangeSpec := { name := "worldSees", fn := fun _ => fun
  | [d1, d2, d3] => { results := [.lit (.bool false)], args := [d1, d2, d3] }
  | _ => none }
def WorldSeesWrongFalsely : Prop := worldSeesRow.holds Try.pinned (OpenSpec.ofChange worldSeesWrong)

/-- 'windhoverlaw23.WorldObeys': WHATEVER THE INPUT: true; the input reads as it did. -/
def worldObeysSpec : ChangeSpec := { name := "worldObeys", fn := fun _ => fun
  | [d1, d2, d3] => { results := [.lit (.bool true)], args := [d1, d2, d3] }
  | _ => none }
def worldObeysRow : OpenClaim := { program := "ytbgggogkblkopaa", sum := "65e0e7e07794e7b5769321724e3dcd58f3e2ce38e8760501ae1194a338b73910", func := "windhover/windhoverlaw23.WorldObeys", spec := "worldObeys", apart := false }
def WorldObeysSaid : Prop := worldObeysRow.holds Try.pinned (OpenSpec.ofChange worldObeysSpec)

/-- ITS FALSE NEIGHBOUR: 'it returns false'. Refute it at one input. -/
def worldObeysWrong : ChangeSpec := { name := "worldObeys", fn := fun _ => fun
  | [d1, d2, d3] => { results := [.lit (.bool false)], args := [d1, d2, d3] }
  | _ => none }
def WorldObeysWrongFalsely : Prop := worldObeysRow.holds Try.pinned (OpenSpec.ofChange worldObeysWrong)

/- THE SECOND FORM. 'bulk': how many values and letters a reading holds, each counted each time it is reached (what is shared counts as often as it is met; a slice's spare places count too). A statement '..UptoSaid' is the law's where the arguments, and the package variables that the reading takes, are together of bulk at most 1048576: NARROWER than '..Said'. Prove '..Said' where nothing that the law and all that it calls make is longer than what came in: it says more and counts as full. Else prove '..UptoSaid'. A law counts once. -/
mutual
def uptoBulk {H : Type} : DataW H → Nat
  | .lit (.string bytes) => bytes.length + 1
  | .lit _ => 1
  | .nil => 1
  | .ptr d => uptoBulk d + 1
  | .slice elems spare => uptoBulkAll elems + uptoBulkAll spare + 1
  | .agg parts => uptoBulkAll parts + 1
  | .iface _ d => uptoBulk d + 1
  | .map entries => uptoBulkEntries entries + 1
  | .held _ => 1
def uptoBulkAll {H : Type} : List (DataW H) → Nat
  | [] => 0
  | d :: r => uptoBulk d + uptoBulkAll r
def uptoBulkEntries {H : Type} : List (Lit × DataW H) → Nat
  | [] => 0
  | x :: r => uptoBulkEntry x + uptoBulkEntries r
def uptoBulkEntry {H : Type} : Lit × DataW H → Nat
  | (.string bytes, d) => bytes.length + uptoBulk d + 1
  | (_, d) => uptoBulk d + 1
 end
def uptoSmall : (H : Type) → List (DataW H) → Bool := fun _ ds => decide (uptoBulkAll ds ≤ 1048576)
def OpenSpec.upto (s : _root_.Go.ChangeSpec) : _root_.Go.OpenSpec := { _root_.Go.OpenSpec.ofChange s with cond := some uptoSmall }

/-- 'windhoverlaw23.WorldDrains', WHERE WHAT IT READS IS OF BULK AT MOST 1048576: true; the input reads as it did. -/
def worldDrainsUptoRow : OpenClaim := { program := "ytbgggogkblkopaa", sum := "65e0e7e07794e7b5769321724e3dcd58f3e2ce38e8760501ae1194a338b73910", func := "windhover/windhoverlaw23.WorldDrains", spec := "worldDrains", apart := false, narrowed := true }
def WorldDrainsUptoSaid : Prop := worldDrainsUptoRow.holds Try.pinned (OpenSpec.upto worldDrainsSpec)

/-- 'windhoverlaw23.WorldSees', WHERE WHAT IT READS IS OF BULK AT MOST 1048576: true; the input reads as it did. -/
def worldSeesUptoRow : OpenClaim := { program := "ytbgggogkblkopaa", sum := "65e0e7e07794e7b5769321724e3dcd58f3e2ce38e8760501ae1194a338b73910", func := "windhover/windhoverlaw23.WorldSees", spec := "worldSees", apart := false, narrowed := true }
def WorldSeesUptoSaid : Prop := worldSeesUptoRow.holds Try.pinned (OpenSpec.upto worldSeesSpec)

/-- 'windhoverlaw23.WorldObeys', WHERE WHAT IT READS IS OF BULK AT MOST 1048576: true; the input reads as it did. -/
def worldObeysUptoRow : OpenClaim := { program := "ytbgggogkblkopaa", sum := "65e0e7e07794e7b5769321724e3dcd58f3e2ce38e8760501ae1194a338b73910", func := "windhover/windhoverlaw23.WorldObeys", spec := "worldObeys", apart := false, narrowed := true }
def WorldObeysUptoSaid : Prop := worldObeysUptoRow.holds Try.pinned (OpenSpec.upto worldObeysSpec)

end Rows
end Go.Proofs.Ytbgggogkblkopaa
