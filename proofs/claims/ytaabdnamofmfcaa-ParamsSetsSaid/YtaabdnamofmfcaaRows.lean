/-
  No cell of these rows narrows 'for every input' (looked for: loops, veiled, ifaces, maps, wideKeys, modest, calm, conditions, laid).
  DERIVED. THE GIVEN ROWS OF THIS SEAT. 8 by the template 'for every input the law returns true; each argument reads behind the call as it read before'; 0 by the template 'total and deterministic' (their statements: YtaabdnamofmfcaaTotals.lean).
  GIVEN WITH THE SEED: the statements are not yours to turn. If you find one false, say at which input.
  Laid BY PROGRAM, IN A SANDBOX (cutbox-rows.mjs): the forced cells as the released guide's own fill.sh prints them over the translation 235ad10ceef5a194… (all of the seat's roots in one cut). By AI agents, Wed Nov 11 2026. No macro, syntax, notation, axiom, sorry.
-/
import Derived.Test.YtaabdnamofmfcaaChecked
import GoSem.Claim
import GoSem.ClaimJoined
import GoSem.ClaimMapViews
import Derived.JoinedTies
import Derived.KernelRfl
namespace Go.Proofs.Ytaabdnamofmfcaa
/- THE CELL 'sum', in the pinned program and in every row, IS THE sha256 OF THE DUMP (.gsa) THAT YtaabdnamofmfcaaProg.lean LOADS. Nothing in Lean hashes anything: it is a label: what it is worth is what the hold of that sum in a sandbox is worth. -/
noncomputable def Try.pinned : Pinned := { name := "ytaabdnamofmfcaa", sum := "235ad10ceef5a19484d2a271bcd714d7ea188d2b3ff9995c5b5a135e14fe0f67", checked := Try.checked }
namespace Rows
def none {H : Type} : Left H := { results := [], args := [] }

/-- 'windhoverlaw08.ParamsChecks': WHATEVER THE INPUT: true; the input reads as it did. -/
def paramsChecksSpec : ChangeSpec := { name := "paramsChecks", fn := fun _ => fun
  | [d] => { results := [.lit (.bool true)], args := [d] }
  | _ => none }
def paramsChecksRow : OpenClaim := { program := "ytaabdnamofmfcaa", sum := "235ad10ceef5a19484d2a271bcd714d7ea188d2b3ff9995c5b5a135e14fe0f67", func := "windhover/windhoverlaw08.ParamsChecks", spec := "paramsChecks", apart := false }
def ParamsChecksSaid : Prop := paramsChecksRow.holds Try.pinned (OpenSpec.ofChange paramsChecksSpec)

/-- ITS FALSE NEIGHBOUR: 'it returns false'. Refute it at one input. -/
def paramsChecksWrong : ChangeSpec := { name := "paramsChecks", fn := fun _ => fun
  | [d] => { results := [.lit (.bool false)], args := [d] }
  | _ => none }
def ParamsChecksWrongFalsely : Prop := paramsChecksRow.holds Try.pinned (OpenSpec.ofChange paramsChecksWrong)

/-- 'windhoverlaw08.ParamsMargins': WHATEVER THE INPUT: true; the input reads as it did. -/
def paramsMarginsSpec : ChangeSpec := { name := "paramsMargins", fn := fun _ => fun
  | [d] => { results := [.lit (.bool true)], args := [d] }
  | _ => none }
def paramsMarginsRow : OpenClaim := { program := "ytaabdnamofmfcaa", sum := "235ad10ceef5a19484d2a271bcd714d7ea188d2b3ff9995c5b5a135e14fe0f67", func := "windhover/windhoverlaw08.ParamsMargins", spec := "paramsMargins", apart := false }
def ParamsMarginsSaid : Prop := paramsMarginsRow.holds Try.pinned (OpenSpec.ofChange paramsMarginsSpec)

/-- ITS FALSE NEIGHBOUR: 'it returns false'. Refute it at one input. -/
def paramsMarginsWrong : ChangeSpec := { name := "paramsMargins", fn := fun _ => fun
  | [d] => { results := [.lit (.bool false)], args := [d] }
  | _ => none }
def ParamsMarginsWrongFalsely : Prop := paramsMarginsRow.holds Try.pinned (OpenSpec.ofChange paramsMarginsWrong)

/-- 'windhoverlaw08.ParamsRanges': WHATEVER THE INPUT: true; the input reads as it did. -/
def paramsRangesSpec : ChangeSpec := { name := "paramsRanges", fn := fun _ => fun
  | [d] => { results := [.lit (.bool true)], args := [d] }
  | _ => none }
def paramsRangesRow : OpenClaim := { program := "ytaabdnamofmfcaa", sum := "235ad10ceef5a19484d2a271bcd714d7ea188d2b3ff9995c5b5a135e14fe0f67", func := "windhover/windhoverlaw08.ParamsRanges", spec := "paramsRanges", apart := false }
def ParamsRangesSaid : Prop := paramsRangesRow.holds Try.pinned (OpenSpec.ofChange paramsRangesSpec)

/-- ITS FALSE NEIGHBOUR: 'it returns false'. Refute it at one input. -/
def paramsRangesWrong : ChangeSpec := { name := "paramsRanges", fn := fun _ => fun
  | [d] => { results := [.lit (.bool false)], args := [d] }
  | _ => none }
def ParamsRangesWrongFalsely : Prop := paramsRangesRow.holds Try.pinned (OpenSpec.ofChange paramsRangesWrong)

/-- 'windhoverlaw08.ParamsSets': WHATEVER THE INPUT: true; the input reads as it did. -/
def paramsSetsSpec : ChangeSpec := { name := "paramsSets", fn := fun _ => fun
  | [d1, d2, d3] => { results := [.lit (.bool true)], args := [d1, d2, d3] }
  | _ => none }
def paramsSetsRow : OpenClaim := { program := "ytaabdnamofmfcaa", sum := "235ad10ceef5a19484d2a271bcd714d7ea188d2b3ff9995c5b5a135e14fe0f67", func := "windhover/windhoverlaw08.ParamsSets", spec := "paramsSets", apart := false }
def ParamsSetsSaid : Prop := paramsSetsRow.holds Try.pinned (OpenSpec.ofChange paramsSetsSpec)

/-- ITS FALSE NEIGHBOUR: 'it returns false'. Refute it at one input. -/
def paramsSetsWrong : ChangeSpec := { name := "paramsSets", fn := fun _ => fun
  | [d1, d2, d3] => { results := [.lit (.bool false)], args := [d1, d2, d3] }
  | _ => none }
def ParamsSetsWrongFalsely : Prop := paramsSetsRow.holds Try.pinned (OpenSpec.ofChange paramsSetsWrong)

/-- 'windhoverlaw08.ParamsTimes': WHATEVER THE INPUT: true; the input reads as it did. -/
def paramsTimesSpec : ChangeSpec := { name := "paramsTimes", fn := fun _ => fun
  | [d1, d2, d3] => { results := [.lit (.bool true)], args := [d1, d2, d3] }
  | _ => none }
def paramsTimesRow : OpenClaim := { program := "ytaabdnamofmfcaa", sum := "235ad10ceef5a19484d2a271bcd714d7ea188d2b3ff9995c5b5a135e14fe0f67", func := "windhover/windhoverlaw08.ParamsTimes", spec := "paramsTimes", unfollowed := true, recurses := true, apart := false }
def ParamsTimesSaid : Prop := paramsTimesRow.holds Try.pinned (OpenSpec.ofChange paramsTimesSpec)

/-- ITS FALSE NEIGHBOUR: 'it returns false'. Refute it at one input. -/
def paramsTimesWrong : ChangeSpec := { name := "paramsTimes", fn := fun _ => fun
  | [d1, d2, d3] => { results := [.lit (.bool false)], args := [d1, d2, d3] }
  | _ => none }
def ParamsTimesWrongFalsely : Prop := paramsTimesRow.holds Try.pinned (OpenSpec.ofChange paramsTimesWrong)

/-- 'windhoverlaw08.ParamsRises': WHATEVER THE INPUT: true; the input reads as it did. -/
def paramsRisesSpec : ChangeSpec := { name := "paramsRises", fn := fun _ => fun
  | [d1, d2, d3] => { results := [.lit (.bool true)], args := [d1, d2, d3] }
  | _ => none }
def paramsRisesRow : OpenClaim := { program := "ytaabdnamofmfcaa", sum := "235ad10ceef5a19484d2a271bcd714d7ea188d2b3ff9995c5b5a135e14fe0f67", func := "windhover/windhoverlaw08.ParamsRises", spec := "paramsRises", unfollowed := true, recurses := true, apart := false }
def ParamsRisesSaid : Prop := paramsRisesRow.holds Try.pinned (OpenSpec.ofChange paramsRisesSpec)

/-- ITS FALSE NEIGHBOUR: 'it returns false'. Refute it at one input. -/
def paramsRisesWrong : ChangeSpec := { name := "paramsRises", fn := fun _ => fun
  | [d1, d2, d3] => { results := [.lit (.bool false)], args := [d1, d2, d3] }
  | _ => none }
def ParamsRisesWrongFalsely : Prop := paramsRisesRow.holds Try.pinned (OpenSpec.ofChange paramsRisesWrong)

/-- 'windhoverlaw08.ParamsBack': WHATEVER THE INPUT: true; the input reads as it did. -/
def paramsBackSpec : ChangeSpec := { name := "paramsBack", fn := fun _ => fun
  | [d] => { results := [.lit (.bool true)], args := [d] }
  | _ => none }
def paramsBackRow : OpenClaim := { program := "ytaabdnamofmfcaa", sum := "235ad10ceef5a19484d2a271bcd714d7ea188d2b3ff9995c5b5a135e14fe0f67", func := "windhover/windhoverlaw08.ParamsBack", spec := "paramsBack", apart := false }
def ParamsBackSaid : Prop := paramsBackRow.holds Try.pinned (OpenSpec.ofChange paramsBackSpec)

/-- ITS FALSE NEIGHBOUR: 'it returns false'. Refute it at one input. -/
def paramsBackWrong : ChangeSpec := { name := "paramsBack", fn := fun _ => fun
  | [d] => { results := [.lit (.bool false)], args := [d] }
  | _ => none }
def ParamsBackWrongFalsely : Prop := paramsBackRow.holds Try.pinned (OpenSpec.ofChange paramsBackWrong)

/-- 'windhoverlaw08.ParamsBytes': WHATEVER THE INPUT: true; the input reads as it did. -/
def paramsBytesSpec : ChangeSpec := { name := "paramsBytes", fn := fun _ => fun
  | [d] => { results := [.lit (.bool true)], args := [d] }
  | _ => none }
def paramsBytesRow : OpenClaim := { program := "ytaabdnamofmfcaa", sum := "235ad10ceef5a19484d2a271bcd714d7ea188d2b3ff9995c5b5a135e14fe0f67", func := "windhover/windhoverlaw08.ParamsBytes", spec := "paramsBytes", apart := false }
def ParamsBytesSaid : Prop := paramsBytesRow.holds Try.pinned (OpenSpec.ofChange paramsBytesSpec)

/-- ITS FALSE NEIGHBOUR: 'it returns false'. Refute it at one input. -/
def paramsBytesWrong : ChangeSpec := { name := "paramsBytes", fn := fun _ => fun
  | [d] => { results := [.lit (.bool false)], args := [d] }
  | _ => none }
def ParamsBytesWrongFalsely : Prop := paramsBytesRow.holds Try.pinned (OpenSpec.ofChange paramsBytesWrong)

/- THE SECOND FORM. 'bulk': how many values and letters a reading holds, each counted each time it is reached (what is shared counts as often as it is met; a slice's spare places count too). A statement '..UptoSaid' is the law's where the arguments, and the package variables that the reading takes, are together of bulk at most 1048576: NARROWER than '..Said'. Prove '..Said' where nothing that the law and all that it calls make is longer than what came in: it says more and counts as full. Else prove '..UptoSaid'. A law counts once. -/
mutual
def uptoBulk {H : Type} : DataW H → Nat
  | .lit (.string bytes) => bytes.length + 1
  | .lit _ => 1
  | .nil => 1
  | .ptr d => uptoBulk d + 1
  | .slice elems spare => uptoBulkAll elems + uptoBulkAll spare + 1
  | .agg parts => uptoBulkAll parts + 1
  | .iface _ d => uptoBulk d + 1
  | .map entries => uptoBulkEntries entries + 1
  | .held _ => 1
def uptoBulkAll {H : Type} : List (DataW H) → Nat
  | [] => 0
  | d :: r => uptoBulk d + uptoBulkAll r
def uptoBulkEntries {H : Type} : List (Lit × DataW H) → Nat
  | [] => 0
  | x :: r => uptoBulkEntry x + uptoBulkEntries r
def uptoBulkEntry {H : Type} : Lit × DataW H → Nat
  | (.string bytes, d) => bytes.length + uptoBulk d + 1
  | (_, d) => uptoBulk d + 1
 end
def uptoSmall : (H : Type) → List (DataW H) → Bool := fun _ ds => decide (uptoBulkAll ds ≤ 1048576)
def OpenSpec.upto (s : _root_.Go.ChangeSpec) : _root_.Go.OpenSpec := { _root_.Go.OpenSpec.ofChange s with cond := some uptoSmall }

/-- 'windhoverlaw08.ParamsChecks', WHERE WHAT IT READS IS OF BULK AT MOST 1048576: true; the input reads as it did. -/
def paramsChecksUptoRow : OpenClaim := { program := "ytaabdnamofmfcaa", sum := "235ad10ceef5a19484d2a271bcd714d7ea188d2b3ff9995c5b5a135e14fe0f67", func := "windhover/windhoverlaw08.ParamsChecks", spec := "paramsChecks", apart := false, narrowed := true }
def ParamsChecksUptoSaid : Prop := paramsChecksUptoRow.holds Try.pinned (OpenSpec.upto paramsChecksSpec)

/-- 'windhoverlaw08.ParamsMargins', WHERE WHAT IT READS IS OF BULK AT MOST 1048576: true; the input reads as it did. -/
def paramsMarginsUptoRow : OpenClaim := { program := "ytaabdnamofmfcaa", sum := "235ad10ceef5a19484d2a271bcd714d7ea188d2b3ff9995c5b5a135e14fe0f67", func := "windhover/windhoverlaw08.ParamsMargins", spec := "paramsMargins", apart := false, narrowed := true }
def ParamsMarginsUptoSaid : Prop := paramsMarginsUptoRow.holds Try.pinned (OpenSpec.upto paramsMarginsSpec)

/-- 'windhoverlaw08.ParamsRanges', WHERE WHAT IT READS IS OF BULK AT MOST 1048576: true; the input reads as it did. -/
def paramsRangesUptoRow : OpenClaim := { program := "ytaabdnamofmfcaa", sum := "235ad10ceef5a19484d2a271bcd714d7ea188d2b3ff9995c5b5a135e14fe0f67", func := "windhover/windhoverlaw08.ParamsRanges", spec := "paramsRanges", apart := false, narrowed := true }
def ParamsRangesUptoSaid : Prop := paramsRangesUptoRow.holds Try.pinned (OpenSpec.upto paramsRangesSpec)

/-- 'windhoverlaw08.ParamsSets', WHERE WHAT IT READS IS OF BULK AT MOST 1048576: true; the input reads as it did. -/
def paramsSetsUptoRow : OpenClaim := { program := "ytaabdnamofmfcaa", sum := "235ad10ceef5a19484d2a271bcd714d7ea188d2b3ff9995c5b5a135e14fe0f67", func := "windhover/windhoverlaw08.ParamsSets", spec := "paramsSets", apart := false, narrowed := true }
def ParamsSetsUptoSaid : Prop := paramsSetsUptoRow.holds Try.pinned (OpenSpec.upto paramsSetsSpec)

/-- 'windhoverlaw08.ParamsTimes', WHERE WHAT IT READS IS OF BULK AT MOST 1048576: true; the input reads as it did. -/
def paramsTimesUptoRow : OpenClaim := { program := "ytaabdnamofmfcaa", sum := "235ad10ceef5a19484d2a271bcd714d7ea188d2b3ff9995c5b5a135e14fe0f67", func := "windhover/windhoverlaw08.ParamsTimes", spec := "paramsTimes", unfollowed := true, recurses := true, apart := false, narrowed := true }
def ParamsTimesUptoSaid : Prop := paramsTimesUptoRow.holds Try.pinned (OpenSpec.upto paramsTimesSpec)

/-- 'windhoverlaw08.ParamsRises', WHERE WHAT IT READS IS OF BULK AT MOST 1048576: true; the input reads as it did. -/
def paramsRisesUptoRow : OpenClaim := { program := "ytaabdnamofmfcaa", sum := "235ad10ceef5a19484d2a271bcd714d7ea188d2b3ff9995c5b5a135e14fe0f67", func := "windhover/windhoverlaw08.ParamsRises", spec := "paramsRises", unfollowed := true, recurses := true, apart := false, narrowed := true }
def ParamsRisesUptoSaid : Prop := paramsRisesUptoRow.holds Try.pinned (OpenSpec.upto paramsRisesSpec)

/-- 'windhoverlaw08.ParamsBack', WHERE WHAT IT READS IS OF BULK AT MOST 1048576: true; the input reads as it did. -/
def paramsBackUptoRow : OpenClaim := { program := "ytaabdnamofmfcaa", sum := "235ad10ceef5a19484d2a271bcd714d7ea188d2b3ff9995c5b5a135e14fe0f67", func := "windhover/windhoverlaw08.ParamsBack", spec := "paramsBack", apart := false, narrowed := true }
def ParamsBackUptoSaid : Prop := paramsBackUptoRow.holds Try.pinned (OpenSpec.upto paramsBackSpec)

/-- 'windhoverlaw08.ParamsBytes', WHERE WHAT IT READS IS OF BULK AT MOST 1048576: true; the input reads as it did. -/
def paramsBytesUptoRow : OpenClaim := { program := "ytaabdnamofmfcaa", sum := "235ad10ceef5a19484d2a271bcd714d7ea188d2b3ff9995c5b5a135e14fe0f67", func := "windhover/windhoverlaw08.ParamsBytes", spec := "paramsBytes", apart := false, narrowed := true }
def ParamsBytesUptoSaid : Prop := paramsBytesUptoRow.holds Try.pinned (OpenSpec.upto paramsBytesSpec)

end Rows
end Go.Proofs.Ytaabdnamofmfcaa
