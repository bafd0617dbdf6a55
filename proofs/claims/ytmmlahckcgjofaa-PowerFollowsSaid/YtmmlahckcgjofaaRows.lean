/-
  No cell of these rows narrows 'for every input' (looked for: loops, veiled, ifaces, maps, wideKeys, modest, calm, conditions, laid).
  DERIVED. THE GIVEN ROWS OF THIS SEAT. 4 by the template 'for every input the law returns true; each argument reads behind the call as it read before'; 0 by the template 'total and deterministic' (their statements: YtmmlahckcgjofaaTotals.lean).
  GIVEN WITH THE SEED: the statements are not yours to turn. If you find one false, say at which input.
  Laid BY PROGRAM, IN A SANDBOX (cutbox-rows.mjs): the forced cells as the released guide's own fill.sh prints them over the translation fb6857d1f6adfc4d… (all of the seat's roots in one cut). By AI agents, Wed Nov 11 2026. No macro, syntax, notation, axiom, sorry.
-/
import Derived.Test.YtmmlahckcgjofaaChecked
import GoSem.Claim
import GoSem.ClaimJoined
import GoSem.ClaimMapViews
import Derived.JoinedTies
import Derived.KernelRfl
namespace Go.Proofs.Ytmmlahckcgjofaa
/- THE CELL 'sum', in the pinned program and in every row, IS THE sha256 OF THE DUMP (.gsa) THAT YtmmlahckcgjofaaProg.lean LOADS. Nothing in Lean hashes anything: it is a label: what it is worth is what the hold of that sum in a sandbox is worth. -/
noncomputable def Try.pinned : Pinned := { name := "ytmmlahckcgjofaa", sum := "fb6857d1f6adfc4db472fe70a476ae66e1f893f3558d3e388aa2898b6e230e56", checked := Try.checked }
namespace Rows
def none {H : Type} : Left H := { results := [], args := [] }

/-- 'windhoverlaw14.PowerFollows': WHATEVER THE INPUT: true; the input reads as it did. -/
def powerFollowsSpec : ChangeSpec := { name := "powerFollows", fn := fun _ => fun
  | [d1, d2, d3] => { results := [.lit (.bool true)], args := [d1, d2, d3] }
  | _ => none }
def powerFollowsRow : OpenClaim := { program := "ytmmlahckcgjofaa", sum := "fb6857d1f6adfc4db472fe70a476ae66e1f893f3558d3e388aa2898b6e230e56", func := "windhover/windhoverlaw14.PowerFollows", spec := "powerFollows", unfollowed := true, recurses := true, apart := false }
def PowerFollowsSaid : Prop := powerFollowsRow.holds Try.pinned (OpenSpec.ofChange powerFollowsSpec)

/-- ITS FALSE NEIGHBOUR: 'it returns false'. Refute it at one input. -/
def powerFollowsWrong : ChangeSpec := { name := "powerFollows", fn := fun _ => fun
  | [d1, d2, d3] => { results := [.lit (.bool false)], args := [d1, d2, d3] }
  | _ => none }
def PowerFollowsWrongFalsely : Prop := powerFollowsRow.holds Try.pinned (OpenSpec.ofChange powerFollowsWrong)

/-- 'windhoverlaw14.PowerHolds': WHATEVER THE INPUT: true; the input reads as it did. -/
def powerHoldsSpec : ChangeSpec := { name := "powerHolds", fn := fun _ => fun
  | [d1, d2, d3] => { results := [.lit (.bool true)], args := [d1, d2, d3] }
  | _ => none }
def powerHoldsRow : OpenClaim := { program := "ytmmlahckcgjofaa", sum := "fb6857d1f6adfc4db472fe70a476ae66e1f893f3558d3e388aa2898b6e230e56", func := "windhover/windhoverlaw14.PowerHolds", spec := "powerHolds", unfollowed := true, recurses := true, apart := false }
def PowerHoldsSaid : Prop := powerHoldsRow.holds Try.pinned (OpenSpec.ofChange powerHoldsSpec)

/-- ITS FALSE NEIGHBOUR: 'it returns false'. Refute it at one input. -/
def powerHoldsWrong : ChangeSpec := { name := "powerHolds", fn := fun _ => fun
  | [d1, d2, d3] => { results := [.lit (.bool false)], args := [d1, d2, d3] }
  | _ => none }
def PowerHoldsWrongFalsely : Prop := powerHoldsRow.holds Try.pinned (OpenSpec.ofChange powerHoldsWrong)

/-- 'windhoverlaw14.PowerRises': WHATEVER THE INPUT: true; the input reads as it did. -/
def powerRisesSpec : ChangeSpec := { name := "powerRises", fn := fun _ => fun
  | [d1, d2, d3] => { results := [.lit (.bool true)], args := [d1, d2, d3] }
  | _ => none }
def powerRisesRow : OpenClaim := { program := "ytmmlahckcgjofaa", sum := "fb6857d1f6adfc4db472fe70a476ae66e1f893f3558d3e388aa2898b6e230e56", func := "windhover/windhoverlaw14.PowerRises", spec := "powerRises", unfollowed := true, recurses := true, apart := false }
def PowerRisesSaid : Prop := powerRisesRow.holds Try.pinned (OpenSpec.ofChange powerRisesSpec)

/-- ITS FALSE NEIGHBOUR: 'it returns false'. Refute it at one input. -/
def powerRisesWrong : ChangeSpec := { name := "powerRises", fn := fun _ => fun
  | [d1, d2, d3] => { results := [.lit (.bool false)], args := [d1, d2, d3] }
  | _ => none }
def PowerRisesWrongFalsely : Prop := powerRisesRow.holds Try.pinned (OpenSpec.ofChange powerRisesWrong)

/-- 'windhoverlaw14.PowerNil': WHATEVER THE INPUT: true; the input reads as it did. -/
def powerNilSpec : ChangeSpec := { name := "powerNil", fn := fun _ => fun
  | [d] => { results := [.lit (.bool true)], args := [d] }
  | _ => none }
def powerNilRow : OpenClaim := { program := "ytmmlahckcgjofaa", sum := "fb6857d1f6adfc4db472fe70a476ae66e1f893f3558d3e388aa2898b6e230e56", func := "windhover/windhoverlaw14.PowerNil", spec := "powerNil", unfollowed := true, recurses := true, apart := false }
def PowerNilSaid : Prop := powerNilRow.holds Try.pinned (OpenSpec.ofChange powerNilSpec)

/-- ITS FALSE NEIGHBOUR: 'it returns false'. Refute it at one input. -/
def powerNilWrong : ChangeSpec := { name := "powerNil", fn := fun _ => fun
  | [d] => { results := [.lit (.bool false)], args := [d] }
  | _ => none }
def PowerNilWrongFalsely : Prop := powerNilRow.holds Try.pinned (OpenSpec.ofChange powerNilWrong)

/- THE SECOND FORM. 'bulk': how many values and letters a reading holds, each counted each time it is reached (what is shared counts as often as it is met; a slice's spare places count too). A statement '..UptoSaid' is the law's where the arguments, and the package variables that the reading takes, are together of bulk at most 1048576: NARROWER than '..Said'. Prove '..Said' where nothing that the law and all that it calls make is longer than what came in: it says more and counts as full. Else prove '..UptoSaid'. A law counts once. -/
mutual
def uptoBulk {H : Type} : DataW H → Nat
  | .lit (.string bytes) => bytes.length + 1
  | .lit _ => 1
  | .nil => 1
  | .ptr d => uptoBulk d + 1
  | .slice elems spare => uptoBulkAll elems + uptoBulkAll spare + 1
  | .agg parts => uptoBulkAll parts + 1
  | .iface _ d => uptoBulk d + 1
  | .map entries => uptoBulkEntries entries + 1
  | .held _ => 1
def uptoBulkAll {H : Type} : List (DataW H) → Nat
  | [] => 0
  | d :: r => uptoBulk d + uptoBulkAll r
def uptoBulkEntries {H : Type} : List (Lit × DataW H) → Nat
  | [] => 0
  | x :: r => uptoBulkEntry x + uptoBulkEntries r
def uptoBulkEntry {H : Type} : Lit × DataW H → Nat
  | (.string bytes, d) => bytes.length + uptoBulk d + 1
  | (_, d) => uptoBulk d + 1
 end
def uptoSmall : (H : Type) → List (DataW H) → Bool := fun _ ds => decide (uptoBulkAll ds ≤ 1048576)
def OpenSpec.upto (s : _root_.Go.ChangeSpec) : _root_.Go.OpenSpec := { _root_.Go.OpenSpec.ofChange s with cond := some uptoSmall }

/-- 'windhoverlaw14.PowerFollows', WHERE WHAT IT READS IS OF BULK AT MOST 1048576: true; the input reads as it did. -/
def powerFollowsUptoRow : OpenClaim := { program := "ytmmlahckcgjofaa", sum := "fb6857d1f6adfc4db472fe70a476ae66e1f893f3558d3e388aa2898b6e230e56", func := "windhover/windhoverlaw14.PowerFollows", spec := "powerFollows", unfollowed := true, recurses := true, apart := false, narrowed := true }
def PowerFollowsUptoSaid : Prop := powerFollowsUptoRow.holds Try.pinned (OpenSpec.upto powerFollowsSpec)

/-- 'windhoverlaw14.PowerHolds', WHERE WHAT IT READS IS OF BULK AT MOST 1048576: true; the input reads as it did. -/
def powerHoldsUptoRow : OpenClaim := { program := "ytmmlahckcgjofaa", sum := "fb6857d1f6adfc4db472fe70a476ae66e1f893f3558d3e388aa2898b6e230e56", func := "windhover/windhoverlaw14.PowerHolds", spec := "powerHolds", unfollowed := true, recurses := true, apart := false, narrowed := true }
def PowerHoldsUptoSaid : Prop := powerHoldsUptoRow.holds Try.pinned (OpenSpec.upto powerHoldsSpec)

/-- 'windhoverlaw14.PowerRises', WHERE WHAT IT READS IS OF BULK AT MOST 1048576: true; the input reads as it did. -/
def powerRisesUptoRow : OpenClaim := { program := "ytmmlahckcgjofaa", sum := "fb6857d1f6adfc4db472fe70a476ae66e1f893f3558d3e388aa2898b6e230e56", func := "windhover/windhoverlaw14.PowerRises", spec := "powerRises", unfollowed := true, recurses := true, apart := false, narrowed := true }
def PowerRisesUptoSaid : Prop := powerRisesUptoRow.holds Try.pinned (OpenSpec.upto powerRisesSpec)

/-- 'windhoverlaw14.PowerNil', WHERE WHAT IT READS IS OF BULK AT MOST 1048576: true; the input reads as it did. -/
def powerNilUptoRow : OpenClaim := { program := "ytmmlahckcgjofaa", sum := "fb6857d1f6adfc4db472fe70a476ae66e1f893f3558d3e388aa2898b6e230e56", func := "windhover/windhoverlaw14.PowerNil", spec := "powerNil", unfollowed := true, recurses := true, apart := false, narrowed := true }
def PowerNilUptoSaid : Prop := powerNilUptoRow.holds Try.pinned (OpenSpec.upto powerNilSpec)

end Rows
end Go.Proofs.Ytmmlahckcgjofaa
