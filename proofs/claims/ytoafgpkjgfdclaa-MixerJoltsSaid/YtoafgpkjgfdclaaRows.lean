/-
  No cell of these rows narrows 'for every input' (looked for: loops, veiled, ifaces, maps, wideKeys, modest, calm, conditions, laid).
  DERIVED. THE GIVEN ROWS OF THIS SEAT. 4 by the template 'for every input the law returns true; each argument reads behind the call as it read before'; 0 by the template 'total and deterministic' (their statements: YtoafgpkjgfdclaaTotals.lean).
  GIVEN WITH THE SEED: the statements are not yours to turn. If you find one false, say at which input.
  Laid BY PROGRAM, IN A SANDBOX (cutbox-rows.mjs): the forced cells as the released guide's own fill.sh prints them over the translation f028bd5ad5d9aded… (all of the seat's roots in one cut). By AI agents, Wed Nov 11 2026. No macro, syntax, notation, axiom, sorry.
-/
import Derived.Test.YtoafgpkjgfdclaaChecked
import GoSem.Claim
import GoSem.ClaimJoined
import GoSem.ClaimMapViews
import Derived.JoinedTies
import Derived.KernelRfl
namespace Go.Proofs.Ytoafgpkjgfdclaa
/- THE CELL 'sum', in the pinned program and in every row, IS THE sha256 OF THE DUMP (.gsa) THAT YtoafgpkjgfdclaaProg.lean LOADS. Nothing in Lean hashes anything: it is a label: what it is worth is what the hold of that sum in a sandbox is worth. -/
noncomputable def Try.pinned : Pinned := { name := "ytoafgpkjgfdclaa", sum := "f028bd5ad5d9aded1fdac978ac463a53e824111ebf6bd368beafb4101f143074", checked := Try.checked }
namespace Rows
def none {H : Type} : Left H := { results := [], args := [] }

/-- 'windhoverlaw16.MixerMixes': WHATEVER THE INPUT: true; the input reads as it did. -/
def mixerMixesSpec : ChangeSpec := { name := "mixerMixes", fn := fun _ => fun
  | [d1, d2, d3] => { results := [.lit (.bool true)], args := [d1, d2, d3] }
  | _ => none }
def mixerMixesRow : OpenClaim := { program := "ytoafgpkjgfdclaa", sum := "f028bd5ad5d9aded1fdac978ac463a53e824111ebf6bd368beafb4101f143074", func := "windhover/windhoverlaw16.MixerMixes", spec := "mixerMixes", apart := false }
def MixerMixesSaid : Prop := mixerMixesRow.holds Try.pinned (OpenSpec.ofChange mixerMixesSpec)

/-- ITS FALSE NEIGHBOUR: 'it returns false'. Refute it at one input. -/
def mixerMixesWrong : ChangeSpec := { name := "mixerMixes", fn := fun _ => fun
  | [d1, d2, d3] => { results := [.lit (.bool false)], args := [d1, d2, d3] }
  | _ => none }
def MixerMixesWrongFalsely : Prop := mixerMixesRow.holds Try.pinned (OpenSpec.ofChange mixerMixesWrong)

/-- 'windhoverlaw16.MixerExact': WHATEVER THE INPUT: true; the input reads as it did. -/
def mixerExactSpec : ChangeSpec := { name := "mixerExact", fn := fun _ => fun
  | [d1, d2] => { results := [.lit (.bool true)], args := [d1, d2] }
  | _ => none }
def mixerExactRow : OpenClaim := { program := "ytoafgpkjgfdclaa", sum := "f028bd5ad5d9aded1fdac978ac463a53e824111ebf6bd368beafb4101f143074", func := "windhover/windhoverlaw16.MixerExact", spec := "mixerExact", apart := false }
def MixerExactSaid : Prop := mixerExactRow.holds Try.pinned (OpenSpec.ofChange mixerExactSpec)

/-- ITS FALSE NEIGHBOUR: 'it returns false'. Refute it at one input. -/
def mixerExactWrong : ChangeSpec := { name := "mixerExact", fn := fun _ => fun
  | [d1, d2] => { results := [.lit (.bool false)], args := [d1, d2] }
  | _ => none }
def MixerExactWrongFalsely : Prop := mixerExactRow.holds Try.pinned (OpenSpec.ofChange mixerExactWrong)

/-- 'windhoverlaw16.MixerJolts': WHATEVER THE INPUT: true; the input reads as it did. -/
def mixerJoltsSpec : ChangeSpec := { name := "mixerJolts", fn := fun _ => fun
  | [d1, d2] => { results := [.lit (.bool true)], args := [d1, d2] }
  | _ => none }
def mixerJoltsRow : OpenClaim := { program := "ytoafgpkjgfdclaa", sum := "f028bd5ad5d9aded1fdac978ac463a53e824111ebf6bd368beafb4101f143074", func := "windhover/windhoverlaw16.MixerJolts", spec := "mixerJolts", apart := false }
def MixerJoltsSaid : Prop := mixerJoltsRow.holds Try.pinned (OpenSpec.ofChange mixerJoltsSpec)

/-- ITS FALSE NEIGHBOUR: 'it returns false'. Refute it at one input. -/
def mixerJoltsWrong : ChangeSpec := { name := "mixerJolts", fn := fun _ => fun
  | [d1, d2] => { results := [.lit (.bool false)], args := [d1, d2] }
  | _ => none }
def MixerJoltsWrongFalsely : Prop := mixerJoltsRow.holds Try.pinned (OpenSpec.ofChange mixerJoltsWrong)

/-- 'windhoverlaw16.MixerLimits': WHATEVER THE INPUT: true; the input reads as it did. -/
def mixerLimitsSpec : ChangeSpec := { name := "mixerLimits", fn := fun _ => fun
  | [d] => { results := [.lit (.bool true)], args := [d] }
  | _ => none }
def mixerLimitsRow : OpenClaim := { program := "ytoafgpkjgfdclaa", sum := "f028bd5ad5d9aded1fdac978ac463a53e824111ebf6bd368beafb4101f143074", func := "windhover/windhoverlaw16.MixerLimits", spec := "mixerLimits", apart := false }
def MixerLimitsSaid : Prop := mixerLimitsRow.holds Try.pinned (OpenSpec.ofChange mixerLimitsSpec)

/-- ITS FALSE NEIGHBOUR: 'it returns false'. Refute it at one input. -/
def mixerLimitsWrong : ChangeSpec := { name := "mixerLimits", fn := fun _ => fun
  | [d] => { results := [.lit (.bool false)], args := [d] }
  | _ => none }
def MixerLimitsWrongFalsely : Prop := mixerLimitsRow.holds Try.pinned (OpenSpec.ofChange mixerLimitsWrong)

/- THE SECOND FORM. 'bulk': how many values and letters a reading holds, each counted each time it is reached (what is shared counts as often as it is met; a slice's spare places count too). A statement '..UptoSaid' is the law's where the arguments, and the package variables that the reading takes, are together of bulk at most 1048576: NARROWER than '..Said'. Prove '..Said' where nothing that the law and all that it calls make is longer than what came in: it says more and counts as full. Else prove '..UptoSaid'. A law counts once. -/
mutual
def uptoBulk {H : Type} : DataW H → Nat
  | .lit (.string bytes) => bytes.length + 1
  | .lit _ => 1
  | .nil => 1
  | .ptr d => uptoBulk d + 1
  | .slice elems spare => uptoBulkAll elems + uptoBulkAll spare + 1
  | .agg parts => uptoBulkAll parts + 1
  | .iface _ d => uptoBulk d + 1
  | .map entries => uptoBulkEntries entries + 1
  | .held _ => 1
def uptoBulkAll {H : Type} : List (DataW H) → Nat
  | [] => 0
  | d :: r => uptoBulk d + uptoBulkAll r
def uptoBulkEntries {H : Type} : List (Lit × DataW H) → Nat
  | [] => 0
  | x :: r => uptoBulkEntry x + uptoBulkEntries r
def uptoBulkEntry {H : Type} : Lit × DataW H → Nat
  | (.string bytes, d) => bytes.length + uptoBulk d + 1
  | (_, d) => uptoBulk d + 1
 end
def uptoSmall : (H : Type) → List (DataW H) → Bool := fun _ ds => decide (uptoBulkAll ds ≤ 1048576)
def OpenSpec.upto (s : _root_.Go.ChangeSpec) : _root_.Go.OpenSpec := { _root_.Go.OpenSpec.ofChange s with cond := some uptoSmall }

/-- 'windhoverlaw16.MixerMixes', WHERE WHAT IT READS IS OF BULK AT MOST 1048576: true; the input reads as it did. -/
def mixerMixesUptoRow : OpenClaim := { program := "ytoafgpkjgfdclaa", sum := "f028bd5ad5d9aded1fdac978ac463a53e824111ebf6bd368beafb4101f143074", func := "windhover/windhoverlaw16.MixerMixes", spec := "mixerMixes", apart := false, narrowed := true }
def MixerMixesUptoSaid : Prop := mixerMixesUptoRow.holds Try.pinned (OpenSpec.upto mixerMixesSpec)

/-- 'windhoverlaw16.MixerExact', WHERE WHAT IT READS IS OF BULK AT MOST 1048576: true; the input reads as it did. -/
def mixerExactUptoRow : OpenClaim := { program := "ytoafgpkjgfdclaa", sum := "f028bd5ad5d9aded1fdac978ac463a53e824111ebf6bd368beafb4101f143074", func := "windhover/windhoverlaw16.MixerExact", spec := "mixerExact", apart := false, narrowed := true }
def MixerExactUptoSaid : Prop := mixerExactUptoRow.holds Try.pinned (OpenSpec.upto mixerExactSpec)

/-- 'windhoverlaw16.MixerJolts', WHERE WHAT IT READS IS OF BULK AT MOST 1048576: true; the input reads as it did. -/
def mixerJoltsUptoRow : OpenClaim := { program := "ytoafgpkjgfdclaa", sum := "f028bd5ad5d9aded1fdac978ac463a53e824111ebf6bd368beafb4101f143074", func := "windhover/windhoverlaw16.MixerJolts", spec := "mixerJolts", apart := false, narrowed := true }
def MixerJoltsUptoSaid : Prop := mixerJoltsUptoRow.holds Try.pinned (OpenSpec.upto mixerJoltsSpec)

/-- 'windhoverlaw16.MixerLimits', WHERE WHAT IT READS IS OF BULK AT MOST 1048576: true; the input reads as it did. -/
def mixerLimitsUptoRow : OpenClaim := { program := "ytoafgpkjgfdclaa", sum := "f028bd5ad5d9aded1fdac978ac463a53e824111ebf6bd368beafb4101f143074", func := "windhover/windhoverlaw16.MixerLimits", spec := "mixerLimits", apart := false, narrowed := true }
def MixerLimitsUptoSaid : Prop := mixerLimitsUptoRow.holds Try.pinned (OpenSpec.upto mixerLimitsSpec)

end Rows
end Go.Proofs.Ytoafgpkjgfdclaa
