/-
  No cell of these rows narrows 'for every input' (looked for: loops, veiled, ifaces, maps, wideKeys, modest, calm, conditions, laid).
  DERIVED. THE GIVEN ROWS OF THIS SEAT. 8 by the template 'for every input the law returns true; each argument reads behind the call as it read before'; 0 by the template 'total and deterministic' (their statements: YtplfcbbaanjdgaaTotals.lean).
  GIVEN WITH THE SEED: the statements are not yours to turn. If you find one false, say at which input.
  Laid BY PROGRAM, IN A SANDBOX (cutbox-rows.mjs): the forced cells as the released guide's own fill.sh prints them over the translation 0154f7a52dccf646… (all of the seat's roots in one cut). By AI agents, Wed Nov 11 2026. No macro, syntax, notation, axiom, sorry.
-/
import Derived.Test.YtplfcbbaanjdgaaChecked
import GoSem.Claim
import GoSem.ClaimJoined
import GoSem.ClaimMapViews
import Derived.JoinedTies
import Derived.KernelRfl
namespace Go.Proofs.Ytplfcbbaanjdgaa
/- THE CELL 'sum', in the pinned program and in every row, IS THE sha256 OF THE DUMP (.gsa) THAT YtplfcbbaanjdgaaProg.lean LOADS. Nothing in Lean hashes anything: it is a label: what it is worth is what the hold of that sum in a sandbox is worth. -/
noncomputable def Try.pinned : Pinned := { name := "ytplfcbbaanjdgaa", sum := "0154f7a52dccf646de79e76c2514a4a18b52fb13c1ed836310c7b4cf72d02dfe", checked := Try.checked }
namespace Rows
def none {H : Type} : Left H := { results := [], args := [] }

/-- 'windhoverlaw02.TrigSins': WHATEVER THE INPUT: true; the input reads as it did. -/
def trigSinsSpec : ChangeSpec := { name := "trigSins", fn := fun _ => fun
  | [d] => { results := [.lit (.bool true)], args := [d] }
  | _ => none }
def trigSinsRow : OpenClaim := { program := "ytplfcbbaanjdgaa", sum := "0154f7a52dccf646de79e76c2514a4a18b52fb13c1ed836310c7b4cf72d02dfe", func := "windhover/windhoverlaw02.TrigSins", spec := "trigSins", named := ["math/bits.divideError", "math/bits.overflowError"], apart := false }
def TrigSinsSaid : Prop := trigSinsRow.holds Try.pinned (OpenSpec.ofChange trigSinsSpec)

/-- ITS FALSE NEIGHBOUR: 'it returns false'. Refute it at one input. -/
def trigSinsWrong : ChangeSpec := { name := "trigSins", fn := fun _ => fun
  | [d] => { results := [.lit (.bool false)], args := [d] }
  | _ => none }
def TrigSinsWrongFalsely : Prop := trigSinsRow.holds Try.pinned (OpenSpec.ofChange trigSinsWrong)

/-- 'windhoverlaw02.TrigAtans': WHATEVER THE INPUT: true; the input reads as it did. -/
def trigAtansSpec : ChangeSpec := { name := "trigAtans", fn := fun _ => fun
  | [d1, d2] => { results := [.lit (.bool true)], args := [d1, d2] }
  | _ => none }
def trigAtansRow : OpenClaim := { program := "ytplfcbbaanjdgaa", sum := "0154f7a52dccf646de79e76c2514a4a18b52fb13c1ed836310c7b4cf72d02dfe", func := "windhover/windhoverlaw02.TrigAtans", spec := "trigAtans", named := ["math/bits.divideError", "math/bits.overflowError"], apart := false }
def TrigAtansSaid : Prop := trigAtansRow.holds Try.pinned (OpenSpec.ofChange trigAtansSpec)

/-- ITS FALSE NEIGHBOUR: 'it returns false'. Refute it at one input. -/
def trigAtansWrong : ChangeSpec := { name := "trigAtans", fn := fun _ => fun
  | [d1, d2] => { results := [.lit (.bool false)], args := [d1, d2] }
  | _ => none }
def TrigAtansWrongFalsely : Prop := trigAtansRow.holds Try.pinned (OpenSpec.ofChange trigAtansWrong)

/-- 'windhoverlaw02.TrigWays': WHATEVER THE INPUT: true; the input reads as it did. -/
def trigWaysSpec : ChangeSpec := { name := "trigWays", fn := fun _ => fun
  | [d1, d2] => { results := [.lit (.bool true)], args := [d1, d2] }
  | _ => none }
def trigWaysRow : OpenClaim := { program := "ytplfcbbaanjdgaa", sum := "0154f7a52dccf646de79e76c2514a4a18b52fb13c1ed836310c7b4cf72d02dfe", func := "windhover/windhoverlaw02.TrigWays", spec := "trigWays", named := ["math/bits.divideError", "math/bits.overflowError"], apart := false }
def TrigWaysSaid : Prop := trigWaysRow.holds Try.pinned (OpenSpec.ofChange trigWaysSpec)

/-- ITS FALSE NEIGHBOUR: 'it returns false'. Refute it at one input. -/
def trigWaysWrong : ChangeSpec := { name := "trigWays", fn := fun _ => fun
  | [d1, d2] => { results := [.lit (.bool false)], args := [d1, d2] }
  | _ => none }
def TrigWaysWrongFalsely : Prop := trigWaysRow.holds Try.pinned (OpenSpec.ofChange trigWaysWrong)

/-- 'windhoverlaw02.TrigMirrors': WHATEVER THE INPUT: true; the input reads as it did. -/
def trigMirrorsSpec : ChangeSpec := { name := "trigMirrors", fn := fun _ => fun
  | [d] => { results := [.lit (.bool true)], args := [d] }
  | _ => none }
def trigMirrorsRow : OpenClaim := { program := "ytplfcbbaanjdgaa", sum := "0154f7a52dccf646de79e76c2514a4a18b52fb13c1ed836310c7b4cf72d02dfe", func := "windhover/windhoverlaw02.TrigMirrors", spec := "trigMirrors", named := ["math/bits.divideError", "math/bits.overflowError"], apart := false }
def TrigMirrorsSaid : Prop := trigMirrorsRow.holds Try.pinned (OpenSpec.ofChange trigMirrorsSpec)

/-- ITS FALSE NEIGHBOUR: 'it returns false'. Refute it at one input. -/
def trigMirrorsWrong : ChangeSpec := { name := "trigMirrors", fn := fun _ => fun
  | [d] => { results := [.lit (.bool false)], args := [d] }
  | _ => none }
def TrigMirrorsWrongFalsely : Prop := trigMirrorsRow.holds Try.pinned (OpenSpec.ofChange trigMirrorsWrong)

/-- 'windhoverlaw02.TrigCircle': WHATEVER THE INPUT: true; the input reads as it did. -/
def trigCircleSpec : ChangeSpec := { name := "trigCircle", fn := fun _ => fun
  | [d] => { results := [.lit (.bool true)], args := [d] }
  | _ => none }
def trigCircleRow : OpenClaim := { program := "ytplfcbbaanjdgaa", sum := "0154f7a52dccf646de79e76c2514a4a18b52fb13c1ed836310c7b4cf72d02dfe", func := "windhover/windhoverlaw02.TrigCircle", spec := "trigCircle", named := ["math/bits.divideError", "math/bits.overflowError"], apart := false }
def TrigCircleSaid : Prop := trigCircleRow.holds Try.pinned (OpenSpec.ofChange trigCircleSpec)

/-- ITS FALSE NEIGHBOUR: 'it returns false'. Refute it at one input. -/
def trigCircleWrong : ChangeSpec := { name := "trigCircle", fn := fun _ => fun
  | [d] => { results := [.lit (.bool false)], args := [d] }
  | _ => none }
def TrigCircleWrongFalsely : Prop := trigCircleRow.holds Try.pinned (OpenSpec.ofChange trigCircleWrong)

/-- 'windhoverlaw02.TrigRises': WHATEVER THE INPUT: true; the input reads as it did. -/
def trigRisesSpec : ChangeSpec := { name := "trigRises", fn := fun _ => fun
  | [d1, d2] => { results := [.lit (.bool true)], args := [d1, d2] }
  | _ => none }
def trigRisesRow : OpenClaim := { program := "ytplfcbbaanjdgaa", sum := "0154f7a52dccf646de79e76c2514a4a18b52fb13c1ed836310c7b4cf72d02dfe", func := "windhover/windhoverlaw02.TrigRises", spec := "trigRises", named := ["math/bits.divideError", "math/bits.overflowError"], apart := false }
def TrigRisesSaid : Prop := trigRisesRow.holds Try.pinned (OpenSpec.ofChange trigRisesSpec)

/-- ITS FALSE NEIGHBOUR: 'it returns false'. Refute it at one input. -/
def trigRisesWrong : ChangeSpec := { name := "trigRises", fn := fun _ => fun
  | [d1, d2] => { results := [.lit (.bool false)], args := [d1, d2] }
  | _ => none }
def TrigRisesWrongFalsely : Prop := trigRisesRow.holds Try.pinned (OpenSpec.ofChange trigRisesWrong)

/-- 'windhoverlaw02.TrigBack': WHATEVER THE INPUT: true; the input reads as it did. -/
def trigBackSpec : ChangeSpec := { name := "trigBack", fn := fun _ => fun
  | [d1, d2] => { results := [.lit (.bool true)], args := [d1, d2] }
  | _ => none }
def trigBackRow : OpenClaim := { program := "ytplfcbbaanjdgaa", sum := "0154f7a52dccf646de79e76c2514a4a18b52fb13c1ed836310c7b4cf72d02dfe", func := "windhover/windhoverlaw02.TrigBack", spec := "trigBack", named := ["math/bits.divideError", "math/bits.overflowError"], apart := false }
def TrigBackSaid : Prop := trigBackRow.holds Try.pinned (OpenSpec.ofChange trigBackSpec)

/-- ITS FALSE NEIGHBOUR: 'it returns false'. Refute it at one input. -/
def trigBackWrong : ChangeSpec := { name := "trigBack", fn := fun _ => fun
  | [d1, d2] => { results := [.lit (.bool false)], args := [d1, d2] }
  | _ => none }
def TrigBackWrongFalsely : Prop := trigBackRow.holds Try.pinned (OpenSpec.ofChange trigBackWrong)

/-- 'windhoverlaw02.TrigThere': WHATEVER THE INPUT: true; the input reads as it did. -/
def trigThereSpec : ChangeSpec := { name := "trigThere", fn := fun _ => fun
  | [d1, d2] => { results := [.lit (.bool true)], args := [d1, d2] }
  | _ => none }
def trigThereRow : OpenClaim := { program := "ytplfcbbaanjdgaa", sum := "0154f7a52dccf646de79e76c2514a4a18b52fb13c1ed836310c7b4cf72d02dfe", func := "windhover/windhoverlaw02.TrigThere", spec := "trigThere", named := ["math/bits.divideError", "math/bits.overflowError"], apart := false }
def TrigThereSaid : Prop := trigThereRow.holds Try.pinned (OpenSpec.ofChange trigThereSpec)

/-- ITS FALSE NEIGHBOUR: 'it returns false'. Refute it at one input. -/
def trigThereWrong : ChangeSpec := { name := "trigThere", fn := fun _ => fun
  | [d1, d2] => { results := [.lit (.bool false)], args := [d1, d2] }
  | _ => none }
def TrigThereWrongFalsely : Prop := trigThereRow.holds Try.pinned (OpenSpec.ofChange trigThereWrong)

/- THE SECOND FORM. 'bulk': how many values and letters a reading holds, each counted each time it is reached (what is shared counts as often as it is met; a slice's spare places count too). A statement '..UptoSaid' is the law's where the arguments, and the package variables that the reading takes, are together of bulk at most 1048576: NARROWER than '..Said'. Prove '..Said' where nothing that the law and all that it calls make is longer than what came in: it says more and counts as full. Else prove '..UptoSaid'. A law counts once. -/
mutual
def uptoBulk {H : Type} : DataW H → Nat
  | .lit (.string bytes) => bytes.length + 1
  | .lit _ => 1
  | .nil => 1
  | .ptr d => uptoBulk d + 1
  | .slice elems spare => uptoBulkAll elems + uptoBulkAll spare + 1
  | .agg parts => uptoBulkAll parts + 1
  | .iface _ d => uptoBulk d + 1
  | .map entries => uptoBulkEntries entries + 1
  | .held _ => 1
def uptoBulkAll {H : Type} : List (DataW H) → Nat
  | [] => 0
  | d :: r => uptoBulk d + uptoBulkAll r
def uptoBulkEntries {H : Type} : List (Lit × DataW H) → Nat
  | [] => 0
  | x :: r => uptoBulkEntry x + uptoBulkEntries r
def uptoBulkEntry {H : Type} : Lit × DataW H → Nat
  | (.string bytes, d) => bytes.length + uptoBulk d + 1
  | (_, d) => uptoBulk d + 1
 end
def uptoSmall : (H : Type) → List (DataW H) → Bool := fun _ ds => decide (uptoBulkAll ds ≤ 1048576)
def OpenSpec.upto (s : _root_.Go.ChangeSpec) : _root_.Go.OpenSpec := { _root_.Go.OpenSpec.ofChange s with cond := some uptoSmall }

/-- 'windhoverlaw02.TrigSins', WHERE WHAT IT READS IS OF BULK AT MOST 1048576: true; the input reads as it did. -/
def trigSinsUptoRow : OpenClaim := { program := "ytplfcbbaanjdgaa", sum := "0154f7a52dccf646de79e76c2514a4a18b52fb13c1ed836310c7b4cf72d02dfe", func := "windhover/windhoverlaw02.TrigSins", spec := "trigSins", named := ["math/bits.divideError", "math/bits.overflowError"], apart := false, narrowed := true }
def TrigSinsUptoSaid : Prop := trigSinsUptoRow.holds Try.pinned (OpenSpec.upto trigSinsSpec)

/-- 'windhoverlaw02.TrigAtans', WHERE WHAT IT READS IS OF BULK AT MOST 1048576: true; the input reads as it did. -/
def trigAtansUptoRow : OpenClaim := { program := "ytplfcbbaanjdgaa", sum := "0154f7a52dccf646de79e76c2514a4a18b52fb13c1ed836310c7b4cf72d02dfe", func := "windhover/windhoverlaw02.TrigAtans", spec := "trigAtans", named := ["math/bits.divideError", "math/bits.overflowError"], apart := false, narrowed := true }
def TrigAtansUptoSaid : Prop := trigAtansUptoRow.holds Try.pinned (OpenSpec.upto trigAtansSpec)

/-- 'windhoverlaw02.TrigWays', WHERE WHAT IT READS IS OF BULK AT MOST 1048576: true; the input reads as it did. -/
def trigWaysUptoRow : OpenClaim := { program := "ytplfcbbaanjdgaa", sum := "0154f7a52dccf646de79e76c2514a4a18b52fb13c1ed836310c7b4cf72d02dfe", func := "windhover/windhoverlaw02.TrigWays", spec := "trigWays", named := ["math/bits.divideError", "math/bits.overflowError"], apart := false, narrowed := true }
def TrigWaysUptoSaid : Prop := trigWaysUptoRow.holds Try.pinned (OpenSpec.upto trigWaysSpec)

/-- 'windhoverlaw02.TrigMirrors', WHERE WHAT IT READS IS OF BULK AT MOST 1048576: true; the input reads as it did. -/
def trigMirrorsUptoRow : OpenClaim := { program := "ytplfcbbaanjdgaa", sum := "0154f7a52dccf646de79e76c2514a4a18b52fb13c1ed836310c7b4cf72d02dfe", func := "windhover/windhoverlaw02.TrigMirrors", spec := "trigMirrors", named := ["math/bits.divideError", "math/bits.overflowError"], apart := false, narrowed := true }
def TrigMirrorsUptoSaid : Prop := trigMirrorsUptoRow.holds Try.pinned (OpenSpec.upto trigMirrorsSpec)

/-- 'windhoverlaw02.TrigCircle', WHERE WHAT IT READS IS OF BULK AT MOST 1048576: true; the input reads as it did. -/
def trigCircleUptoRow : OpenClaim := { program := "ytplfcbbaanjdgaa", sum := "0154f7a52dccf646de79e76c2514a4a18b52fb13c1ed836310c7b4cf72d02dfe", func := "windhover/windhoverlaw02.TrigCircle", spec := "trigCircle", named := ["math/bits.divideError", "math/bits.overflowError"], apart := false, narrowed := true }
def TrigCircleUptoSaid : Prop := trigCircleUptoRow.holds Try.pinned (OpenSpec.upto trigCircleSpec)

/-- 'windhoverlaw02.TrigRises', WHERE WHAT IT READS IS OF BULK AT MOST 1048576: true; the input reads as it did. -/
def trigRisesUptoRow : OpenClaim := { program := "ytplfcbbaanjdgaa", sum := "0154f7a52dccf646de79e76c2514a4a18b52fb13c1ed836310c7b4cf72d02dfe", func := "windhover/windhoverlaw02.TrigRises", spec := "trigRises", named := ["math/bits.divideError", "math/bits.overflowError"], apart := false, narrowed := true }
def TrigRisesUptoSaid : Prop := trigRisesUptoRow.holds Try.pinned (OpenSpec.upto trigRisesSpec)

/-- 'windhoverlaw02.TrigBack', WHERE WHAT IT READS IS OF BULK AT MOST 1048576: true; the input reads as it did. -/
def trigBackUptoRow : OpenClaim := { program := "ytplfcbbaanjdgaa", sum := "0154f7a52dccf646de79e76c2514a4a18b52fb13c1ed836310c7b4cf72d02dfe", func := "windhover/windhoverlaw02.TrigBack", spec := "trigBack", named := ["math/bits.divideError", "math/bits.overflowError"], apart := false, narrowed := true }
def TrigBackUptoSaid : Prop := trigBackUptoRow.holds Try.pinned (OpenSpec.upto trigBackSpec)

/-- 'windhoverlaw02.TrigThere', WHERE WHAT IT READS IS OF BULK AT MOST 1048576: true; the input reads as it did. -/
def trigThereUptoRow : OpenClaim := { program := "ytplfcbbaanjdgaa", sum := "0154f7a52dccf646de79e76c2514a4a18b52fb13c1ed836310c7b4cf72d02dfe", func := "windhover/windhoverlaw02.TrigThere", spec := "trigThere", named := ["math/bits.divideError", "math/bits.overflowError"], apart := false, narrowed := true }
def TrigThereUptoSaid : Prop := trigThereUptoRow.holds Try.pinned (OpenSpec.upto trigThereSpec)

end Rows
end Go.Proofs.Ytplfcbbaanjdgaa
