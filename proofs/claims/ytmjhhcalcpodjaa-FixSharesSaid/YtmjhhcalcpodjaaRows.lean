/-
  No cell of these rows narrows 'for every input' (looked for: loops, veiled, ifaces, maps, wideKeys, modest, calm, conditions, laid).
  DERIVED. THE GIVEN ROWS OF THIS SEAT. 7 by the template 'for every input the law returns true; each argument reads behind the call as it read before'; 0 by the template 'total and deterministic' (their statements: YtmjhhcalcpodjaaTotals.lean).
  GIVEN WITH THE SEED: the statements are not yours to turn. If you find one false, say at which input.
  Laid BY PROGRAM, IN A SANDBOX (cutbox-rows.mjs): the forced cells as the released guide's own fill.sh prints them over the translation 5a8db4e8b879f5b4… (all of the seat's roots in one cut). By AI agents, Wed Nov 11 2026. No macro, syntax, notation, axiom, sorry.
-/
import Derived.Test.YtmjhhcalcpodjaaChecked
import GoSem.Claim
import GoSem.ClaimJoined
import GoSem.ClaimMapViews
import Derived.JoinedTies
import Derived.KernelRfl
namespace Go.Proofs.Ytmjhhcalcpodjaa
/- THE CELL 'sum', in the pinned program and in every row, IS THE sha256 OF THE DUMP (.gsa) THAT YtmjhhcalcpodjaaProg.lean LOADS. Nothing in Lean hashes anything: it is a label: what it is worth is what the hold of that sum in a sandbox is worth. -/
noncomputable def Try.pinned : Pinned := { name := "ytmjhhcalcpodjaa", sum := "5a8db4e8b879f5b4f535e3757e944fe7a1dc9874b2f8b842f397a5d053122f98", checked := Try.checked }
namespace Rows
def none {H : Type} : Left H := { results := [], args := [] }

/-- 'windhoverlaw01.FixSums': WHATEVER THE INPUT: true; the input reads as it did. -/
def fixSumsSpec : ChangeSpec := { name := "fixSums", fn := fun _ => fun
  | [d1, d2] => { results := [.lit (.bool true)], args := [d1, d2] }
  | _ => none }
def fixSumsRow : OpenClaim := { program := "ytmjhhcalcpodjaa", sum := "5a8db4e8b879f5b4f535e3757e944fe7a1dc9874b2f8b842f397a5d053122f98", func := "windhover/windhoverlaw01.FixSums", spec := "fixSums", named := ["math/bits.divideError", "math/bits.overflowError"], apart := false }
def FixSumsSaid : Prop := fixSumsRow.holds Try.pinned (OpenSpec.ofChange fixSumsSpec)

/-- ITS FALSE NEIGHBOUR: 'it returns false'. Refute it at one input. -/
def fixSumsWrong : ChangeSpec := { name := "fixSums", fn := fun _ => fun
  | [d1, d2] => { results := [.lit (.bool false)], args := [d1, d2] }
  | _ => none }
def FixSumsWrongFalsely : Prop := fixSumsRow.holds Try.pinned (OpenSpec.ofChange fixSumsWrong)

/-- 'windhoverlaw01.FixClamps': WHATEVER THE INPUT: true; the input reads as it did. -/
def fixClampsSpec : ChangeSpec := { name := "fixClamps", fn := fun _ => fun
  | [d1, d2, d3] => { results := [.lit (.bool true)], args := [d1, d2, d3] }
  | _ => none }
def fixClampsRow : OpenClaim := { program := "ytmjhhcalcpodjaa", sum := "5a8db4e8b879f5b4f535e3757e944fe7a1dc9874b2f8b842f397a5d053122f98", func := "windhover/windhoverlaw01.FixClamps", spec := "fixClamps", named := ["math/bits.divideError", "math/bits.overflowError"], apart := false }
def FixClampsSaid : Prop := fixClampsRow.holds Try.pinned (OpenSpec.ofChange fixClampsSpec)

/-- ITS FALSE NEIGHBOUR: 'it returns false'. Refute it at one input. -/
def fixClampsWrong : ChangeSpec := { name := "fixClamps", fn := fun _ => fun
  | [d1, d2, d3] => { results := [.lit (.bool false)], args := [d1, d2, d3] }
  | _ => none }
def FixClampsWrongFalsely : Prop := fixClampsRow.holds Try.pinned (OpenSpec.ofChange fixClampsWrong)

/-- 'windhoverlaw01.FixRoots': WHATEVER THE INPUT: true; the input reads as it did. -/
def fixRootsSpec : ChangeSpec := { name := "fixRoots", fn := fun _ => fun
  | [d] => { results := [.lit (.bool true)], args := [d] }
  | _ => none }
def fixRootsRow : OpenClaim := { program := "ytmjhhcalcpodjaa", sum := "5a8db4e8b879f5b4f535e3757e944fe7a1dc9874b2f8b842f397a5d053122f98", func := "windhover/windhoverlaw01.FixRoots", spec := "fixRoots", named := ["math/bits.divideError", "math/bits.overflowError"], apart := false }
def FixRootsSaid : Prop := fixRootsRow.holds Try.pinned (OpenSpec.ofChange fixRootsSpec)

/-- ITS FALSE NEIGHBOUR: 'it returns false'. Refute it at one input. -/
def fixRootsWrong : ChangeSpec := { name := "fixRoots", fn := fun _ => fun
  | [d] => { results := [.lit (.bool false)], args := [d] }
  | _ => none }
def FixRootsWrongFalsely : Prop := fixRootsRow.holds Try.pinned (OpenSpec.ofChange fixRootsWrong)

/-- 'windhoverlaw01.FixShares': WHATEVER THE INPUT: true; the input reads as it did. -/
def fixSharesSpec : ChangeSpec := { name := "fixShares", fn := fun _ => fun
  | [d1, d2, d3] => { results := [.lit (.bool true)], args := [d1, d2, d3] }
  | _ => none }
def fixSharesRow : OpenClaim := { program := "ytmjhhcalcpodjaa", sum := "5a8db4e8b879f5b4f535e3757e944fe7a1dc9874b2f8b842f397a5d053122f98", func := "windhover/windhoverlaw01.FixShares", spec := "fixShares", named := ["math/bits.divideError", "math/bits.overflowError"], apart := false }
def FixSharesSaid : Prop := fixSharesRow.holds Try.pinned (OpenSpec.ofChange fixSharesSpec)

/-- ITS FALSE NEIGHBOUR: 'it returns false'. Refute it at one input. -/
def fixSharesWrong : ChangeSpec := { name := "fixShares", fn := fun _ => fun
  | [d1, d2, d3] => { results := [.lit (.bool false)], args := [d1, d2, d3] }
  | _ => none }
def FixSharesWrongFalsely : Prop := fixSharesRow.holds Try.pinned (OpenSpec.ofChange fixSharesWrong)

/-- 'windhoverlaw01.FixRounds': WHATEVER THE INPUT: true; the input reads as it did. -/
def fixRoundsSpec : ChangeSpec := { name := "fixRounds", fn := fun _ => fun
  | [d1, d2] => { results := [.lit (.bool true)], args := [d1, d2] }
  | _ => none }
def fixRoundsRow : OpenClaim := { program := "ytmjhhcalcpodjaa", sum := "5a8db4e8b879f5b4f535e3757e944fe7a1dc9874b2f8b842f397a5d053122f98", func := "windhover/windhoverlaw01.FixRounds", spec := "fixRounds", named := ["math/bits.divideError", "math/bits.overflowError"], apart := false }
def FixRoundsSaid : Prop := fixRoundsRow.holds Try.pinned (OpenSpec.ofChange fixRoundsSpec)

/-- ITS FALSE NEIGHBOUR: 'it returns false'. Refute it at one input. -/
def fixRoundsWrong : ChangeSpec := { name := "fixRounds", fn := fun _ => fun
  | [d1, d2] => { results := [.lit (.bool false)], args := [d1, d2] }
  | _ => none }
def FixRoundsWrongFalsely : Prop := fixRoundsRow.holds Try.pinned (OpenSpec.ofChange fixRoundsWrong)

/-- 'windhoverlaw01.FixSlews': WHATEVER THE INPUT: true; the input reads as it did. -/
def fixSlewsSpec : ChangeSpec := { name := "fixSlews", fn := fun _ => fun
  | [d1, d2, d3] => { results := [.lit (.bool true)], args := [d1, d2, d3] }
  | _ => none }
def fixSlewsRow : OpenClaim := { program := "ytmjhhcalcpodjaa", sum := "5a8db4e8b879f5b4f535e3757e944fe7a1dc9874b2f8b842f397a5d053122f98", func := "windhover/windhoverlaw01.FixSlews", spec := "fixSlews", named := ["math/bits.divideError", "math/bits.overflowError"], apart := false }
def FixSlewsSaid : Prop := fixSlewsRow.holds Try.pinned (OpenSpec.ofChange fixSlewsSpec)

/-- ITS FALSE NEIGHBOUR: 'it returns false'. Refute it at one input. -/
def fixSlewsWrong : ChangeSpec := { name := "fixSlews", fn := fun _ => fun
  | [d1, d2, d3] => { results := [.lit (.bool false)], args := [d1, d2, d3] }
  | _ => none }
def FixSlewsWrongFalsely : Prop := fixSlewsRow.holds Try.pinned (OpenSpec.ofChange fixSlewsWrong)

/-- 'windhoverlaw01.FixMiddles': WHATEVER THE INPUT: true; the input reads as it did. -/
def fixMiddlesSpec : ChangeSpec := { name := "fixMiddles", fn := fun _ => fun
  | [d1, d2] => { results := [.lit (.bool true)], args := [d1, d2] }
  | _ => none }
def fixMiddlesRow : OpenClaim := { program := "ytmjhhcalcpodjaa", sum := "5a8db4e8b879f5b4f535e3757e944fe7a1dc9874b2f8b842f397a5d053122f98", func := "windhover/windhoverlaw01.FixMiddles", spec := "fixMiddles", named := ["math/bits.divideError", "math/bits.overflowError"], apart := false }
def FixMiddlesSaid : Prop := fixMiddlesRow.holds Try.pinned (OpenSpec.ofChange fixMiddlesSpec)

/-- ITS FALSE NEIGHBOUR: 'it returns false'. Refute it at one input. -/
def fixMiddlesWrong : ChangeSpec := { name := "fixMiddles", fn := fun _ => fun
  | [d1, d2] => { results := [.lit (.bool false)], args := [d1, d2] }
  | _ => none }
def FixMiddlesWrongFalsely : Prop := fixMiddlesRow.holds Try.pinned (OpenSpec.ofChange fixMiddlesWrong)

/- THE SECOND FORM. 'bulk': how many values and letters a reading holds, each counted each time it is reached (what is shared counts as often as it is met; a slice's spare places count too). A statement '..UptoSaid' is the law's where the arguments, and the package variables that the reading takes, are together of bulk at most 1048576: NARROWER than '..Said'. Prove '..Said' where nothing that the law and all that it calls make is longer than what came in: it says more and counts as full. Else prove '..UptoSaid'. A law counts once. -/
mutual
def uptoBulk {H : Type} : DataW H → Nat
  | .lit (.string bytes) => bytes.length + 1
  | .lit _ => 1
  | .nil => 1
  | .ptr d => uptoBulk d + 1
  | .slice elems spare => uptoBulkAll elems + uptoBulkAll spare + 1
  | .agg parts => uptoBulkAll parts + 1
  | .iface _ d => uptoBulk d + 1
  | .map entries => uptoBulkEntries entries + 1
  | .held _ => 1
def uptoBulkAll {H : Type} : List (DataW H) → Nat
  | [] => 0
  | d :: r => uptoBulk d + uptoBulkAll r
def uptoBulkEntries {H : Type} : List (Lit × DataW H) → Nat
  | [] => 0
  | x :: r => uptoBulkEntry x + uptoBulkEntries r
def uptoBulkEntry {H : Type} : Lit × DataW H → Nat
  | (.string bytes, d) => bytes.length + uptoBulk d + 1
  | (_, d) => uptoBulk d + 1
 end
def uptoSmall : (H : Type) → List (DataW H) → Bool := fun _ ds => decide (uptoBulkAll ds ≤ 1048576)
def OpenSpec.upto (s : _root_.Go.ChangeSpec) : _root_.Go.OpenSpec := { _root_.Go.OpenSpec.ofChange s with cond := some uptoSmall }

/-- 'windhoverlaw01.FixSums', WHERE WHAT IT READS IS OF BULK AT MOST 1048576: true; the input reads as it did. -/
def fixSumsUptoRow : OpenClaim := { program := "ytmjhhcalcpodjaa", sum := "5a8db4e8b879f5b4f535e3757e944fe7a1dc9874b2f8b842f397a5d053122f98", func := "windhover/windhoverlaw01.FixSums", spec := "fixSums", named := ["math/bits.divideError", "math/bits.overflowError"], apart := false, narrowed := true }
def FixSumsUptoSaid : Prop := fixSumsUptoRow.holds Try.pinned (OpenSpec.upto fixSumsSpec)

/-- 'windhoverlaw01.FixClamps', WHERE WHAT IT READS IS OF BULK AT MOST 1048576: true; the input reads as it did. -/
def fixClampsUptoRow : OpenClaim := { program := "ytmjhhcalcpodjaa", sum := "5a8db4e8b879f5b4f535e3757e944fe7a1dc9874b2f8b842f397a5d053122f98", func := "windhover/windhoverlaw01.FixClamps", spec := "fixClamps", named := ["math/bits.divideError", "math/bits.overflowError"], apart := false, narrowed := true }
def FixClampsUptoSaid : Prop := fixClampsUptoRow.holds Try.pinned (OpenSpec.upto fixClampsSpec)

/-- 'windhoverlaw01.FixRoots', WHERE WHAT IT READS IS OF BULK AT MOST 1048576: true; the input reads as it did. -/
def fixRootsUptoRow : OpenClaim := { program := "ytmjhhcalcpodjaa", sum := "5a8db4e8b879f5b4f535e3757e944fe7a1dc9874b2f8b842f397a5d053122f98", func := "windhover/windhoverlaw01.FixRoots", spec := "fixRoots", named := ["math/bits.divideError", "math/bits.overflowError"], apart := false, narrowed := true }
def FixRootsUptoSaid : Prop := fixRootsUptoRow.holds Try.pinned (OpenSpec.upto fixRootsSpec)

/-- 'windhoverlaw01.FixShares', WHERE WHAT IT READS IS OF BULK AT MOST 1048576: true; the input reads as it did. -/
def fixSharesUptoRow : OpenClaim := { program := "ytmjhhcalcpodjaa", sum := "5a8db4e8b879f5b4f535e3757e944fe7a1dc9874b2f8b842f397a5d053122f98", func := "windhover/windhoverlaw01.FixShares", spec := "fixShares", named := ["math/bits.divideError", "math/bits.overflowError"], apart := false, narrowed := true }
def FixSharesUptoSaid : Prop := fixSharesUptoRow.holds Try.pinned (OpenSpec.upto fixSharesSpec)

/-- 'windhoverlaw01.FixRounds', WHERE WHAT IT READS IS OF BULK AT MOST 1048576: true; the input reads as it did. -/
def fixRoundsUptoRow : OpenClaim := { program := "ytmjhhcalcpodjaa", sum := "5a8db4e8b879f5b4f535e3757e944fe7a1dc9874b2f8b842f397a5d053122f98", func := "windhover/windhoverlaw01.FixRounds", spec := "fixRounds", named := ["math/bits.divideError", "math/bits.overflowError"], apart := false, narrowed := true }
def FixRoundsUptoSaid : Prop := fixRoundsUptoRow.holds Try.pinned (OpenSpec.upto fixRoundsSpec)

/-- 'windhoverlaw01.FixSlews', WHERE WHAT IT READS IS OF BULK AT MOST 1048576: true; the input reads as it did. -/
def fixSlewsUptoRow : OpenClaim := { program := "ytmjhhcalcpodjaa", sum := "5a8db4e8b879f5b4f535e3757e944fe7a1dc9874b2f8b842f397a5d053122f98", func := "windhover/windhoverlaw01.FixSlews", spec := "fixSlews", named := ["math/bits.divideError", "math/bits.overflowError"], apart := false, narrowed := true }
def FixSlewsUptoSaid : Prop := fixSlewsUptoRow.holds Try.pinned (OpenSpec.upto fixSlewsSpec)

/-- 'windhoverlaw01.FixMiddles', WHERE WHAT IT READS IS OF BULK AT MOST 1048576: true; the input reads as it did. -/
def fixMiddlesUptoRow : OpenClaim := { program := "ytmjhhcalcpodjaa", sum := "5a8db4e8b879f5b4f535e3757e944fe7a1dc9874b2f8b842f397a5d053122f98", func := "windhover/windhoverlaw01.FixMiddles", spec := "fixMiddles", named := ["math/bits.divideError", "math/bits.overflowError"], apart := false, narrowed := true }
def FixMiddlesUptoSaid : Prop := fixMiddlesUptoRow.holds Try.pinned (OpenSpec.upto fixMiddlesSpec)

end Rows
end Go.Proofs.Ytmjhhcalcpodjaa
