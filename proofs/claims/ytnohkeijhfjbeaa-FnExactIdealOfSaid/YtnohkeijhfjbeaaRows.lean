/-
  No cell of these rows narrows 'for every input' (looked for: loops, veiled, ifaces, maps, wideKeys, modest, calm, conditions, laid).
  DERIVED. THE GIVEN ROWS OF THIS SEAT. 12 by the template 'for every input the law returns true; each argument reads behind the call as it read before'; 0 by the template 'total and deterministic' (their statements: YtnohkeijhfjbeaaTotals.lean).
  GIVEN WITH THE SEED: the statements are not yours to turn. If you find one false, say at which input.
  Laid BY PROGRAM, IN A SANDBOX (cutbox-rows.mjs): the forced cells as the released guide's own fill.sh prints them over the translation cfef3de3321c8192… (all of the seat's roots in one cut). By AI agents, Wed Nov 11 2026. No macro, syntax, notation, axiom, sorry.
-/
import Derived.Test.YtnohkeijhfjbeaaChecked
import GoSem.Claim
import GoSem.ClaimJoined
import GoSem.ClaimMapViews
import Derived.JoinedTies
import Derived.KernelRfl
namespace Go.Proofs.Ytnohkeijhfjbeaa
/- THE CELL 'sum', in the pinned program and in every row, IS THE sha256 OF THE DUMP (.gsa) THAT YtnohkeijhfjbeaaProg.lean LOADS. Nothing in Lean hashes anything: it is a label: what it is worth is what the hold of that sum in a sandbox is worth. -/
noncomputable def Try.pinned : Pinned := { name := "ytnohkeijhfjbeaa", sum := "cfef3de3321c8192d5881537a44ca98142b301f4732f84524731d93a1de4ab96", checked := Try.checked }
namespace Rows
def none {H : Type} : Left H := { results := [], args := [] }

/-- 'laws.FnExactSamePoset': WHATEVER THE INPUT: true; the input reads as it did. -/
def fnExactSamePosetSpec : ChangeSpec := { name := "fnExactSamePoset", fn := fun _ => fun
  | [d1, d2] => { results := [.lit (.bool true)], args := [d1, d2] }
  | _ => none }
def fnExactSamePosetRow : OpenClaim := { program := "ytnohkeijhfjbeaa", sum := "cfef3de3321c8192d5881537a44ca98142b301f4732f84524731d93a1de4ab96", func := "loop.example/g01005/laws.FnExactSamePoset", spec := "fnExactSamePoset", unfollowed := true, recurses := true, apart := false }
def FnExactSamePosetSaid : Prop := fnExactSamePosetRow.holds Try.pinned (OpenSpec.ofChange fnExactSamePosetSpec)

/-- ITS FALSE NEIGHBOUR: 'it returns false'. Refute it at one input. -/
def fnExactSamePosetWrong : ChangeSpec := { name := "fnExactSamePoset", fn := fun _ => fun
  | [d1, d2] => { results := [.lit (.bool false)], args := [d1, d2] }
  | _ => none }
def FnExactSamePosetWrongFalsely : Prop := fnExactSamePosetRow.holds Try.pinned (OpenSpec.ofChange fnExactSamePosetWrong)

/-- 'laws.FnExactPosetOf': WHATEVER THE INPUT: true; the input reads as it did. -/
def fnExactPosetOfSpec : ChangeSpec := { name := "fnExactPosetOf", fn := fun _ => fun
  | [d1, d2] => { results := [.lit (.bool true)], args := [d1, d2] }
  | _ => none }
def fnExactPosetOfRow : OpenClaim := { program := "ytnohkeijhfjbeaa", sum := "cfef3de3321c8192d5881537a44ca98142b301f4732f84524731d93a1de4ab96", func := "loop.example/g01005/laws.FnExactPosetOf", spec := "fnExactPosetOf", unfollowed := true, recurses := true, apart := false }
def FnExactPosetOfSaid : Prop := fnExactPosetOfRow.holds Try.pinned (OpenSpec.ofChange fnExactPosetOfSpec)

/-- ITS FALSE NEIGHBOUR: 'it returns false'. Refute it at one input. -/
def fnExactPosetOfWrong : ChangeSpec := { name := "fnExactPosetOf", fn := fun _ => fun
  | [d1, d2] => { results := [.lit (.bool false)], args := [d1, d2] }
  | _ => none }
def FnExactPosetOfWrongFalsely : Prop := fnExactPosetOfRow.holds Try.pinned (OpenSpec.ofChange fnExactPosetOfWrong)

/-- 'laws.FnExactValidPoset': WHATEVER THE INPUT: true; the input reads as it did. -/
def fnExactValidPosetSpec : ChangeSpec := { name := "fnExactValidPoset", fn := fun _ => fun
  | [d] => { results := [.lit (.bool true)], args := [d] }
  | _ => none }
def fnExactValidPosetRow : OpenClaim := { program := "ytnohkeijhfjbeaa", sum := "cfef3de3321c8192d5881537a44ca98142b301f4732f84524731d93a1de4ab96", func := "loop.example/g01005/laws.FnExactValidPoset", spec := "fnExactValidPoset", unfollowed := true, recurses := true, apart := false }
def FnExactValidPosetSaid : Prop := fnExactValidPosetRow.holds Try.pinned (OpenSpec.ofChange fnExactValidPosetSpec)

/-- ITS FALSE NEIGHBOUR: 'it returns false'. Refute it at one input. -/
def fnExactValidPosetWrong : ChangeSpec := { name := "fnExactValidPoset", fn := fun _ => fun
  | [d] => { results := [.lit (.bool false)], args := [d] }
  | _ => none }
def FnExactValidPosetWrongFalsely : Prop := fnExactValidPosetRow.holds Try.pinned (OpenSpec.ofChange fnExactValidPosetWrong)

/-- 'laws.FnExactIsBelow': WHATEVER THE INPUT: true; the input reads as it did. -/
def fnExactIsBelowSpec : ChangeSpec := { name := "fnExactIsBelow", fn := fun _ => fun
  | [d1, d2, d3] => { results := [.lit (.bool true)], args := [d1, d2, d3] }
  | _ => none }
def fnExactIsBelowRow : OpenClaim := { program := "ytnohkeijhfjbeaa", sum := "cfef3de3321c8192d5881537a44ca98142b301f4732f84524731d93a1de4ab96", func := "loop.example/g01005/laws.FnExactIsBelow", spec := "fnExactIsBelow", unfollowed := true, recurses := true, apart := false }
def FnExactIsBelowSaid : Prop := fnExactIsBelowRow.holds Try.pinned (OpenSpec.ofChange fnExactIsBelowSpec)

/-- ITS FALSE NEIGHBOUR: 'it returns false'. Refute it at one input. -/
def fnExactIsBelowWrong : ChangeSpec := { name := "fnExactIsBelow", fn := fun _ => fun
  | [d1, d2, d3] => { results := [.lit (.bool false)], args := [d1, d2, d3] }
  | _ => none }
def FnExactIsBelowWrongFalsely : Prop := fnExactIsBelowRow.holds Try.pinned (OpenSpec.ofChange fnExactIsBelowWrong)

/-- 'laws.FnExactMinimalOf': WHATEVER THE INPUT: true; the input reads as it did. -/
def fnExactMinimalOfSpec : ChangeSpec := { name := "fnExactMinimalOf", fn := fun _ => fun
  | [d] => { results := [.lit (.bool true)], args := [d] }
  | _ => none }
def fnExactMinimalOfRow : OpenClaim := { program := "ytnohkeijhfjbeaa", sum := "cfef3de3321c8192d5881537a44ca98142b301f4732f84524731d93a1de4ab96", func := "loop.example/g01005/laws.FnExactMinimalOf", spec := "fnExactMinimalOf", unfollowed := true, recurses := true, apart := false }
def FnExactMinimalOfSaid : Prop := fnExactMinimalOfRow.holds Try.pinned (OpenSpec.ofChange fnExactMinimalOfSpec)

/-- ITS FALSE NEIGHBOUR: 'it returns false'. Refute it at one input. -/
def fnExactMinimalOfWrong : ChangeSpec := { name := "fnExactMinimalOf", fn := fun _ => fun
  | [d] => { results := [.lit (.bool false)], args := [d] }
  | _ => none }
def FnExactMinimalOfWrongFalsely : Prop := fnExactMinimalOfRow.holds Try.pinned (OpenSpec.ofChange fnExactMinimalOfWrong)

/-- 'laws.FnExactCountExtensions': WHATEVER THE INPUT: true; the input reads as it did. -/
def fnExactCountExtensionsSpec : ChangeSpec := { name := "fnExactCountExtensions", fn := fun _ => fun
  | [d] => { results := [.lit (.bool true)], args := [d] }
  | _ => none }
def fnExactCountExtensionsRow : OpenClaim := { program := "ytnohkeijhfjbeaa", sum := "cfef3de3321c8192d5881537a44ca98142b301f4732f84524731d93a1de4ab96", func := "loop.example/g01005/laws.FnExactCountExtensions", spec := "fnExactCountExtensions", unfollowed := true, recurses := true, apart := false }
def FnExactCountExtensionsSaid : Prop := fnExactCountExtensionsRow.holds Try.pinned (OpenSpec.ofChange fnExactCountExtensionsSpec)

/-- ITS FALSE NEIGHBOUR: 'it returns false'. Refute it at one input. -/
def fnExactCountExtensionsWrong : ChangeSpec := { name := "fnExactCountExtensions", fn := fun _ => fun
  | [d] => { results := [.lit (.bool false)], args := [d] }
  | _ => none }
def FnExactCountExtensionsWrongFalsely : Prop := fnExactCountExtensionsRow.holds Try.pinned (OpenSpec.ofChange fnExactCountExtensionsWrong)

/-- 'laws.FnExactCountIdeals': WHATEVER THE INPUT: true; the input reads as it did. -/
def fnExactCountIdealsSpec : ChangeSpec := { name := "fnExactCountIdeals", fn := fun _ => fun
  | [d] => { results := [.lit (.bool true)], args := [d] }
  | _ => none }
def fnExactCountIdealsRow : OpenClaim := { program := "ytnohkeijhfjbeaa", sum := "cfef3de3321c8192d5881537a44ca98142b301f4732f84524731d93a1de4ab96", func := "loop.example/g01005/laws.FnExactCountIdeals", spec := "fnExactCountIdeals", unfollowed := true, recurses := true, apart := false }
def FnExactCountIdealsSaid : Prop := fnExactCountIdealsRow.holds Try.pinned (OpenSpec.ofChange fnExactCountIdealsSpec)

/-- ITS FALSE NEIGHBOUR: 'it returns false'. Refute it at one input. -/
def fnExactCountIdealsWrong : ChangeSpec := { name := "fnExactCountIdeals", fn := fun _ => fun
  | [d] => { results := [.lit (.bool false)], args := [d] }
  | _ => none }
def FnExactCountIdealsWrongFalsely : Prop := fnExactCountIdealsRow.holds Try.pinned (OpenSpec.ofChange fnExactCountIdealsWrong)

/-- 'laws.FnExactIdealOf': WHATEVER THE INPUT: true; the input reads as it did. -/
def fnExactIdealOfSpec : ChangeSpec := { name := "fnExactIdealOf", fn := fun _ => fun
  | [d1, d2] => { results := [.lit (.bool true)], args := [d1, d2] }
  | _ => none }
def fnExactIdealOfRow : OpenClaim := { program := "ytnohkeijhfjbeaa", sum := "cfef3de3321c8192d5881537a44ca98142b301f4732f84524731d93a1de4ab96", func := "loop.example/g01005/laws.FnExactIdealOf", spec := "fnExactIdealOf", unfollowed := true, recurses := true, apart := false }
def FnExactIdealOfSaid : Prop := fnExactIdealOfRow.holds Try.pinned (OpenSpec.ofChange fnExactIdealOfSpec)

/-- ITS FALSE NEIGHBOUR: 'it returns false'. Refute it at one input. -/
def fnExactIdealOfWrong : ChangeSpec := { name := "fnExactIdealOf", fn := fun _ => fun
  | [d1, d2] => { results := [.lit (.bool false)], args := [d1, d2] }
  | _ => none }
def FnExactIdealOfWrongFalsely : Prop := fnExactIdealOfRow.holds Try.pinned (OpenSpec.ofChange fnExactIdealOfWrong)

/-- 'laws.FnExactMoebiusOf': WHATEVER THE INPUT: true; the input reads as it did. -/
def fnExactMoebiusOfSpec : ChangeSpec := { name := "fnExactMoebiusOf", fn := fun _ => fun
  | [d1, d2, d3] => { results := [.lit (.bool true)], args := [d1, d2, d3] }
  | _ => none }
def fnExactMoebiusOfRow : OpenClaim := { program := "ytnohkeijhfjbeaa", sum := "cfef3de3321c8192d5881537a44ca98142b301f4732f84524731d93a1de4ab96", func := "loop.example/g01005/laws.FnExactMoebiusOf", spec := "fnExactMoebiusOf", unfollowed := true, recurses := true, apart := false }
def FnExactMoebiusOfSaid : Prop := fnExactMoebiusOfRow.holds Try.pinned (OpenSpec.ofChange fnExactMoebiusOfSpec)

/-- ITS FALSE NEIGHBOUR: 'it returns false'. Refute it at one input. -/
def fnExactMoebiusOfWrong : ChangeSpec := { name := "fnExactMoebiusOf", fn := fun _ => fun
  | [d1, d2, d3] => { results := [.lit (.bool false)], args := [d1, d2, d3] }
  | _ => none }
def FnExactMoebiusOfWrongFalsely : Prop := fnExactMoebiusOfRow.holds Try.pinned (OpenSpec.ofChange fnExactMoebiusOfWrong)

/-- 'laws.FnExactFirstExtension': WHATEVER THE INPUT: true; the input reads as it did. -/
def fnExactFirstExtensionSpec : ChangeSpec := { name := "fnExactFirstExtension", fn := fun _ => fun
  | [d] => { results := [.lit (.bool true)], args := [d] }
  | _ => none }
def fnExactFirstExtensionRow : OpenClaim := { program := "ytnohkeijhfjbeaa", sum := "cfef3de3321c8192d5881537a44ca98142b301f4732f84524731d93a1de4ab96", func := "loop.example/g01005/laws.FnExactFirstExtension", spec := "fnExactFirstExtension", unfollowed := true, recurses := true, apart := false }
def FnExactFirstExtensionSaid : Prop := fnExactFirstExtensionRow.holds Try.pinned (OpenSpec.ofChange fnExactFirstExtensionSpec)

/-- ITS FALSE NEIGHBOUR: 'it returns false'. Refute it at one input. -/
def fnExactFirstExtensionWrong : ChangeSpec := { name := "fnExactFirstExtension", fn := fun _ => fun
  | [d] => { results := [.lit (.bool false)], args := [d] }
  | _ => none }
def FnExactFirstExtensionWrongFalsely : Prop := fnExactFirstExtensionRow.holds Try.pinned (OpenSpec.ofChange fnExactFirstExtensionWrong)

/-- 'laws.FnExactHeightOf': WHATEVER THE INPUT: true; the input reads as it did. -/
def fnExactHeightOfSpec : ChangeSpec := { name := "fnExactHeightOf", fn := fun _ => fun
  | [d] => { results := [.lit (.bool true)], args := [d] }
  | _ => none }
def fnExactHeightOfRow : OpenClaim := { program := "ytnohkeijhfjbeaa", sum := "cfef3de3321c8192d5881537a44ca98142b301f4732f84524731d93a1de4ab96", func := "loop.example/g01005/laws.FnExactHeightOf", spec := "fnExactHeightOf", unfollowed := true, recurses := true, apart := false }
def FnExactHeightOfSaid : Prop := fnExactHeightOfRow.holds Try.pinned (OpenSpec.ofChange fnExactHeightOfSpec)

/-- ITS FALSE NEIGHBOUR: 'it returns false'. Refute it at one input. -/
def fnExactHeightOfWrong : ChangeSpec := { name := "fnExactHeightOf", fn := fun _ => fun
  | [d] => { results := [.lit (.bool false)], args := [d] }
  | _ => none }
def FnExactHeightOfWrongFalsely : Prop := fnExactHeightOfRow.holds Try.pinned (OpenSpec.ofChange fnExactHeightOfWrong)

/-- 'laws.FnExactWidthOf': WHATEVER THE INPUT: true; the input reads as it did. -/
def fnExactWidthOfSpec : ChangeSpec := { name := "fnExactWidthOf", fn := fun _ => fun
  | [d] => { results := [.lit (.bool true)], args := [d] }
  | _ => none }
def fnExactWidthOfRow : OpenClaim := { program := "ytnohkeijhfjbeaa", sum := "cfef3de3321c8192d5881537a44ca98142b301f4732f84524731d93a1de4ab96", func := "loop.example/g01005/laws.FnExactWidthOf", spec := "fnExactWidthOf", unfollowed := true, recurses := true, apart := false }
def FnExactWidthOfSaid : Prop := fnExactWidthOfRow.holds Try.pinned (OpenSpec.ofChange fnExactWidthOfSpec)

/-- ITS FALSE NEIGHBOUR: 'it returns false'. Refute it at one input. -/
def fnExactWidthOfWrong : ChangeSpec := { name := "fnExactWidthOf", fn := fun _ => fun
  | [d] => { results := [.lit (.bool false)], args := [d] }
  | _ => none }
def FnExactWidthOfWrongFalsely : Prop := fnExactWidthOfRow.holds Try.pinned (OpenSpec.ofChange fnExactWidthOfWrong)

/- THE SECOND FORM. 'bulk': how many values and letters a reading holds, each counted each time it is reached (what is shared counts as often as it is met; a slice's spare places count too). A statement '..UptoSaid' is the law's where the arguments, and the package variables that the reading takes, are together of bulk at most 1048576: NARROWER than '..Said'. Prove '..Said' where nothing that the law and all that it calls make is longer than what came in: it says more and counts as full. Else prove '..UptoSaid'. A law counts once. -/
mutual
def uptoBulk {H : Type} : DataW H → Nat
  | .lit (.string bytes) => bytes.length + 1
  | .lit _ => 1
  | .nil => 1
  | .ptr d => uptoBulk d + 1
  | .slice elems spare => uptoBulkAll elems + uptoBulkAll spare + 1
  | .agg parts => uptoBulkAll parts + 1
  | .iface _ d => uptoBulk d + 1
  | .map entries => uptoBulkEntries entries + 1
  | .held _ => 1
def uptoBulkAll {H : Type} : List (DataW H) → Nat
  | [] => 0
  | d :: r => uptoBulk d + uptoBulkAll r
def uptoBulkEntries {H : Type} : List (Lit × DataW H) → Nat
  | [] => 0
  | x :: r => uptoBulkEntry x + uptoBulkEntries r
def uptoBulkEntry {H : Type} : Lit × DataW H → Nat
  | (.string bytes, d) => bytes.length + uptoBulk d + 1
  | (_, d) => uptoBulk d + 1
 end
def uptoSmall : (H : Type) → List (DataW H) → Bool := fun _ ds => decide (uptoBulkAll ds ≤ 1048576)
def OpenSpec.upto (s : _root_.Go.ChangeSpec) : _root_.Go.OpenSpec := { _root_.Go.OpenSpec.ofChange s with cond := some uptoSmall }

/-- 'laws.FnExactSamePoset', WHERE WHAT IT READS IS OF BULK AT MOST 1048576: true; the input reads as it did. -/
def fnExactSamePosetUptoRow : OpenClaim := { program := "ytnohkeijhfjbeaa", sum := "cfef3de3321c8192d5881537a44ca98142b301f4732f84524731d93a1de4ab96", func := "loop.example/g01005/laws.FnExactSamePoset", spec := "fnExactSamePoset", unfollowed := true, recurses := true, apart := false, narrowed := true }
def FnExactSamePosetUptoSaid : Prop := fnExactSamePosetUptoRow.holds Try.pinned (OpenSpec.upto fnExactSamePosetSpec)

/-- 'laws.FnExactPosetOf', WHERE WHAT IT READS IS OF BULK AT MOST 1048576: true; the input reads as it did. -/
def fnExactPosetOfUptoRow : OpenClaim := { program := "ytnohkeijhfjbeaa", sum := "cfef3de3321c8192d5881537a44ca98142b301f4732f84524731d93a1de4ab96", func := "loop.example/g01005/laws.FnExactPosetOf", spec := "fnExactPosetOf", unfollowed := true, recurses := true, apart := false, narrowed := true }
def FnExactPosetOfUptoSaid : Prop := fnExactPosetOfUptoRow.holds Try.pinned (OpenSpec.upto fnExactPosetOfSpec)

/-- 'laws.FnExactValidPoset', WHERE WHAT IT READS IS OF BULK AT MOST 1048576: true; the input reads as it did. -/
def fnExactValidPosetUptoRow : OpenClaim := { program := "ytnohkeijhfjbeaa", sum := "cfef3de3321c8192d5881537a44ca98142b301f4732f84524731d93a1de4ab96", func := "loop.example/g01005/laws.FnExactValidPoset", spec := "fnExactValidPoset", unfollowed := true, recurses := true, apart := false, narrowed := true }
def FnExactValidPosetUptoSaid : Prop := fnExactValidPosetUptoRow.holds Try.pinned (OpenSpec.upto fnExactValidPosetSpec)

/-- 'laws.FnExactIsBelow', WHERE WHAT IT READS IS OF BULK AT MOST 1048576: true; the input reads as it did. -/
def fnExactIsBelowUptoRow : OpenClaim := { program := "ytnohkeijhfjbeaa", sum := "cfef3de3321c8192d5881537a44ca98142b301f4732f84524731d93a1de4ab96", func := "loop.example/g01005/laws.FnExactIsBelow", spec := "fnExactIsBelow", unfollowed := true, recurses := true, apart := false, narrowed := true }
def FnExactIsBelowUptoSaid : Prop := fnExactIsBelowUptoRow.holds Try.pinned (OpenSpec.upto fnExactIsBelowSpec)

/-- 'laws.FnExactMinimalOf', WHERE WHAT IT READS IS OF BULK AT MOST 1048576: true; the input reads as it did. -/
def fnExactMinimalOfUptoRow : OpenClaim := { program := "ytnohkeijhfjbeaa", sum := "cfef3de3321c8192d5881537a44ca98142b301f4732f84524731d93a1de4ab96", func := "loop.example/g01005/laws.FnExactMinimalOf", spec := "fnExactMinimalOf", unfollowed := true, recurses := true, apart := false, narrowed := true }
def FnExactMinimalOfUptoSaid : Prop := fnExactMinimalOfUptoRow.holds Try.pinned (OpenSpec.upto fnExactMinimalOfSpec)

/-- 'laws.FnExactCountExtensions', WHERE WHAT IT READS IS OF BULK AT MOST 1048576: true; the input reads as it did. -/
def fnExactCountExtensionsUptoRow : OpenClaim := { program := "ytnohkeijhfjbeaa", sum := "cfef3de3321c8192d5881537a44ca98142b301f4732f84524731d93a1de4ab96", func := "loop.example/g01005/laws.FnExactCountExtensions", spec := "fnExactCountExtensions", unfollowed := true, recurses := true, apart := false, narrowed := true }
def FnExactCountExtensionsUptoSaid : Prop := fnExactCountExtensionsUptoRow.holds Try.pinned (OpenSpec.upto fnExactCountExtensionsSpec)

/-- 'laws.FnExactCountIdeals', WHERE WHAT IT READS IS OF BULK AT MOST 1048576: true; the input reads as it did. -/
def fnExactCountIdealsUptoRow : OpenClaim := { program := "ytnohkeijhfjbeaa", sum := "cfef3de3321c8192d5881537a44ca98142b301f4732f84524731d93a1de4ab96", func := "loop.example/g01005/laws.FnExactCountIdeals", spec := "fnExactCountIdeals", unfollowed := true, recurses := true, apart := false, narrowed := true }
def FnExactCountIdealsUptoSaid : Prop := fnExactCountIdealsUptoRow.holds Try.pinned (OpenSpec.upto fnExactCountIdealsSpec)

/-- 'laws.FnExactIdealOf', WHERE WHAT IT READS IS OF BULK AT MOST 1048576: true; the input reads as it did. -/
def fnExactIdealOfUptoRow : OpenClaim := { program := "ytnohkeijhfjbeaa", sum := "cfef3de3321c8192d5881537a44ca98142b301f4732f84524731d93a1de4ab96", func := "loop.example/g01005/laws.FnExactIdealOf", spec := "fnExactIdealOf", unfollowed := true, recurses := true, apart := false, narrowed := true }
def FnExactIdealOfUptoSaid : Prop := fnExactIdealOfUptoRow.holds Try.pinned (OpenSpec.upto fnExactIdealOfSpec)

/-- 'laws.FnExactMoebiusOf', WHERE WHAT IT READS IS OF BULK AT MOST 1048576: true; the input reads as it did. -/
def fnExactMoebiusOfUptoRow : OpenClaim := { program := "ytnohkeijhfjbeaa", sum := "cfef3de3321c8192d5881537a44ca98142b301f4732f84524731d93a1de4ab96", func := "loop.example/g01005/laws.FnExactMoebiusOf", spec := "fnExactMoebiusOf", unfollowed := true, recurses := true, apart := false, narrowed := true }
def FnExactMoebiusOfUptoSaid : Prop := fnExactMoebiusOfUptoRow.holds Try.pinned (OpenSpec.upto fnExactMoebiusOfSpec)

/-- 'laws.FnExactFirstExtension', WHERE WHAT IT READS IS OF BULK AT MOST 1048576: true; the input reads as it did. -/
def fnExactFirstExtensionUptoRow : OpenClaim := { program := "ytnohkeijhfjbeaa", sum := "cfef3de3321c8192d5881537a44ca98142b301f4732f84524731d93a1de4ab96", func := "loop.example/g01005/laws.FnExactFirstExtension", spec := "fnExactFirstExtension", unfollowed := true, recurses := true, apart := false, narrowed := true }
def FnExactFirstExtensionUptoSaid : Prop := fnExactFirstExtensionUptoRow.holds Try.pinned (OpenSpec.upto fnExactFirstExtensionSpec)

/-- 'laws.FnExactHeightOf', WHERE WHAT IT READS IS OF BULK AT MOST 1048576: true; the input reads as it did. -/
def fnExactHeightOfUptoRow : OpenClaim := { program := "ytnohkeijhfjbeaa", sum := "cfef3de3321c8192d5881537a44ca98142b301f4732f84524731d93a1de4ab96", func := "loop.example/g01005/laws.FnExactHeightOf", spec := "fnExactHeightOf", unfollowed := true, recurses := true, apart := false, narrowed := true }
def FnExactHeightOfUptoSaid : Prop := fnExactHeightOfUptoRow.holds Try.pinned (OpenSpec.upto fnExactHeightOfSpec)

/-- 'laws.FnExactWidthOf', WHERE WHAT IT READS IS OF BULK AT MOST 1048576: true; the input reads as it did. -/
def fnExactWidthOfUptoRow : OpenClaim := { program := "ytnohkeijhfjbeaa", sum := "cfef3de3321c8192d5881537a44ca98142b301f4732f84524731d93a1de4ab96", func := "loop.example/g01005/laws.FnExactWidthOf", spec := "fnExactWidthOf", unfollowed := true, recurses := true, apart := false, narrowed := true }
def FnExactWidthOfUptoSaid : Prop := fnExactWidthOfUptoRow.holds Try.pinned (OpenSpec.upto fnExactWidthOfSpec)

end Rows
end Go.Proofs.Ytnohkeijhfjbeaa
