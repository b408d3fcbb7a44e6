/-
  No cell of these rows narrows 'for every input' (looked for: loops, veiled, ifaces, maps, wideKeys, modest, calm, conditions, laid).
  DERIVED. THE GIVEN ROWS OF THIS SEAT. 8 by the template 'for every input the law returns true; each argument reads behind the call as it read before'; 0 by the template 'total and deterministic' (their statements: YtabfflgoaalapaaTotals.lean).
  GIVEN WITH THE SEED: the statements are not yours to turn. If you find one false, say at which input.
  Laid BY PROGRAM, IN A SANDBOX (cutbox-rows.mjs): the forced cells as the released guide's own fill.sh prints them over the translation f9a084731efcd6f3… (all of the seat's roots in one cut). By AI agents, Wed Nov 11 2026. No macro, syntax, notation, axiom, sorry.
-/
import Derived.Test.YtabfflgoaalapaaChecked
import GoSem.Claim
import GoSem.ClaimJoined
import GoSem.ClaimMapViews
import Derived.JoinedTies
import Derived.KernelRfl
namespace Go.Proofs.Ytabfflgoaalapaa
/- THE CELL 'sum', in the pinned program and in every row, IS THE sha256 OF THE DUMP (.gsa) THAT YtabfflgoaalapaaProg.lean LOADS. Nothing in Lean hashes anything: it is a label: what it is worth is what the hold of that sum in a sandbox is worth. -/
noncomputable def Try.pinned : Pinned := { name := "ytabfflgoaalapaa", sum := "f9a084731efcd6f3db7a29b158661bc7affe8a5c84e3ea30c67cb5d77fc41492", checked := Try.checked }
namespace Rows
def none {H : Type} : Left H := { results := [], args := [] }

/-- 'laws.FnExactCoordinatesIn': WHATEVER THE INPUT: true; the input reads as it did. -/
def fnExactCoordinatesInSpec : ChangeSpec := { name := "fnExactCoordinatesIn", fn := fun _ => fun
  | [d1, d2] => { results := [.lit (.bool true)], args := [d1, d2] }
  | _ => none }
def fnExactCoordinatesInRow : OpenClaim := { program := "ytabfflgoaalapaa", sum := "f9a084731efcd6f3db7a29b158661bc7affe8a5c84e3ea30c67cb5d77fc41492", func := "loop.example/g01005/laws.FnExactCoordinatesIn", spec := "fnExactCoordinatesIn", unfollowed := true, recurses := true, apart := false }
def FnExactCoordinatesInSaid : Prop := fnExactCoordinatesInRow.holds Try.pinned (OpenSpec.ofChange fnExactCoordinatesInSpec)

/-- ITS FALSE NEIGHBOUR: 'it returns false'. Refute it at one input. -/
def fnExactCoordinatesInWrong : ChangeSpec := { name := "fnExactCoordinatesIn", fn := fun _ => fun
  | [d1, d2] => { results := [.lit (.bool false)], args := [d1, d2] }
  | _ => none }
def FnExactCoordinatesInWrongFalsely : Prop := fnExactCoordinatesInRow.holds Try.pinned (OpenSpec.ofChange fnExactCoordinatesInWrong)

/-- 'laws.FnExactSumSpaces': WHATEVER THE INPUT: true; the input reads as it did. -/
def fnExactSumSpacesSpec : ChangeSpec := { name := "fnExactSumSpaces", fn := fun _ => fun
  | [d1, d2] => { results := [.lit (.bool true)], args := [d1, d2] }
  | _ => none }
def fnExactSumSpacesRow : OpenClaim := { program := "ytabfflgoaalapaa", sum := "f9a084731efcd6f3db7a29b158661bc7affe8a5c84e3ea30c67cb5d77fc41492", func := "loop.example/g01005/laws.FnExactSumSpaces", spec := "fnExactSumSpaces", unfollowed := true, recurses := true, apart := false }
def FnExactSumSpacesSaid : Prop := fnExactSumSpacesRow.holds Try.pinned (OpenSpec.ofChange fnExactSumSpacesSpec)

/-- ITS FALSE NEIGHBOUR: 'it returns false'. Refute it at one input. -/
def fnExactSumSpacesWrong : ChangeSpec := { name := "fnExactSumSpaces", fn := fun _ => fun
  | [d1, d2] => { results := [.lit (.bool false)], args := [d1, d2] }
  | _ => none }
def FnExactSumSpacesWrongFalsely : Prop := fnExactSumSpacesRow.holds Try.pinned (OpenSpec.ofChange fnExactSumSpacesWrong)

/-- 'laws.FnExactQuotientOf': WHATEVER THE INPUT: true; the input reads as it did. -/
def fnExactQuotientOfSpec : ChangeSpec := { name := "fnExactQuotientOf", fn := fun _ => fun
  | [d1, d2] => { results := [.lit (.bool true)], args := [d1, d2] }
  | _ => none }
def fnExactQuotientOfRow : OpenClaim := { program := "ytabfflgoaalapaa", sum := "f9a084731efcd6f3db7a29b158661bc7affe8a5c84e3ea30c67cb5d77fc41492", func := "loop.example/g01005/laws.FnExactQuotientOf", spec := "fnExactQuotientOf", unfollowed := true, recurses := true, apart := false }
def FnExactQuotientOfSaid : Prop := fnExactQuotientOfRow.holds Try.pinned (OpenSpec.ofChange fnExactQuotientOfSpec)

/-- ITS FALSE NEIGHBOUR: 'it returns false'. Refute it at one input. -/
def fnExactQuotientOfWrong : ChangeSpec := { name := "fnExactQuotientOf", fn := fun _ => fun
  | [d1, d2] => { results := [.lit (.bool false)], args := [d1, d2] }
  | _ => none }
def FnExactQuotientOfWrongFalsely : Prop := fnExactQuotientOfRow.holds Try.pinned (OpenSpec.ofChange fnExactQuotientOfWrong)

/-- 'laws.FnExactComplementOf': WHATEVER THE INPUT: true; the input reads as it did. -/
def fnExactComplementOfSpec : ChangeSpec := { name := "fnExactComplementOf", fn := fun _ => fun
  | [d] => { results := [.lit (.bool true)], args := [d] }
  | _ => none }
def fnExactComplementOfRow : OpenClaim := { program := "ytabfflgoaalapaa", sum := "f9a084731efcd6f3db7a29b158661bc7affe8a5c84e3ea30c67cb5d77fc41492", func := "loop.example/g01005/laws.FnExactComplementOf", spec := "fnExactComplementOf", unfollowed := true, recurses := true, apart := false }
def FnExactComplementOfSaid : Prop := fnExactComplementOfRow.holds Try.pinned (OpenSpec.ofChange fnExactComplementOfSpec)

/-- ITS FALSE NEIGHBOUR: 'it returns false'. Refute it at one input. -/
def fnExactComplementOfWrong : ChangeSpec := { name := "fnExactComplementOf", fn := fun _ => fun
  | [d] => { results := [.lit (.bool false)], args := [d] }
  | _ => none }
def FnExactComplementOfWrongFalsely : Prop := fnExactComplementOfRow.holds Try.pinned (OpenSpec.ofChange fnExactComplementOfWrong)

/-- 'laws.FnCoordinates': WHATEVER THE INPUT: true; the input reads as it did. -/
def fnCoordinatesSpec : ChangeSpec := { name := "fnCoordinates", fn := fun _ => fun
  | [d1, d2] => { results := [.lit (.bool true)], args := [d1, d2] }
  | _ => none }
def fnCoordinatesRow : OpenClaim := { program := "ytabfflgoaalapaa", sum := "f9a084731efcd6f3db7a29b158661bc7affe8a5c84e3ea30c67cb5d77fc41492", func := "loop.example/g01005/laws.FnCoordinates", spec := "fnCoordinates", unfollowed := true, recurses := true, apart := false }
def FnCoordinatesSaid : Prop := fnCoordinatesRow.holds Try.pinned (OpenSpec.ofChange fnCoordinatesSpec)

/-- ITS FALSE NEIGHBOUR: 'it returns false'. Refute it at one input. -/
def fnCoordinatesWrong : ChangeSpec := { name := "fnCoordinates", fn := fun _ => fun
  | [d1, d2] => { results := [.lit (.bool false)], args := [d1, d2] }
  | _ => none }
def FnCoordinatesWrongFalsely : Prop := fnCoordinatesRow.holds Try.pinned (OpenSpec.ofChange fnCoordinatesWrong)

/-- 'laws.FnKernels': WHATEVER THE INPUT: true; the input reads as it did. -/
def fnKernelsSpec : ChangeSpec := { name := "fnKernels", fn := fun _ => fun
  | [d1, d2] => { results := [.lit (.bool true)], args := [d1, d2] }
  | _ => none }
def fnKernelsRow : OpenClaim := { program := "ytabfflgoaalapaa", sum := "f9a084731efcd6f3db7a29b158661bc7affe8a5c84e3ea30c67cb5d77fc41492", func := "loop.example/g01005/laws.FnKernels", spec := "fnKernels", unfollowed := true, recurses := true, apart := false }
def FnKernelsSaid : Prop := fnKernelsRow.holds Try.pinned (OpenSpec.ofChange fnKernelsSpec)

/-- ITS FALSE NEIGHBOUR: 'it returns false'. Refute it at one input. -/
def fnKernelsWrong : ChangeSpec := { name := "fnKernels", fn := fun _ => fun
  | [d1, d2] => { results := [.lit (.bool false)], args := [d1, d2] }
  | _ => none }
def FnKernelsWrongFalsely : Prop := fnKernelsRow.holds Try.pinned (OpenSpec.ofChange fnKernelsWrong)

/-- 'laws.FnExactOrthogonalOf': WHATEVER THE INPUT: true; the input reads as it did. -/
def fnExactOrthogonalOfSpec : ChangeSpec := { name := "fnExactOrthogonalOf", fn := fun _ => fun
  | [d] => { results := [.lit (.bool true)], args := [d] }
  | _ => none }
def fnExactOrthogonalOfRow : OpenClaim := { program := "ytabfflgoaalapaa", sum := "f9a084731efcd6f3db7a29b158661bc7affe8a5c84e3ea30c67cb5d77fc41492", func := "loop.example/g01005/laws.FnExactOrthogonalOf", spec := "fnExactOrthogonalOf", unfollowed := true, recurses := true, apart := false }
def FnExactOrthogonalOfSaid : Prop := fnExactOrthogonalOfRow.holds Try.pinned (OpenSpec.ofChange fnExactOrthogonalOfSpec)

/-- ITS FALSE NEIGHBOUR: 'it returns false'. Refute it at one input. -/
def fnExactOrthogonalOfWrong : ChangeSpec := { name := "fnExactOrthogonalOf", fn := fun _ => fun
  | [d] => { results := [.lit (.bool false)], args := [d] }
  | _ => none }
def FnExactOrthogonalOfWrongFalsely : Prop := fnExactOrthogonalOfRow.holds Try.pinned (OpenSpec.ofChange fnExactOrthogonalOfWrong)

/-- 'laws.FnExactMeetSpaces': WHATEVER THE INPUT: true; the input reads as it did. -/
def fnExactMeetSpacesSpec : ChangeSpec := { name := "fnExactMeetSpaces", fn := fun _ => fun
  | [d1, d2] => { results := [.lit (.bool true)], args := [d1, d2] }
  | _ => none }
def fnExactMeetSpacesRow : OpenClaim := { program := "ytabfflgoaalapaa", sum := "f9a084731efcd6f3db7a29b158661bc7affe8a5c84e3ea30c67cb5d77fc41492", func := "loop.example/g01005/laws.FnExactMeetSpaces", spec := "fnExactMeetSpaces", unfollowed := true, recurses := true, apart := false }
def FnExactMeetSpacesSaid : Prop := fnExactMeetSpacesRow.holds Try.pinned (OpenSpec.ofChange fnExactMeetSpacesSpec)

/-- ITS FALSE NEIGHBOUR: 'it returns false'. Refute it at one input. -/
def fnExactMeetSpacesWrong : ChangeSpec := { name := "fnExactMeetSpaces", fn := fun _ => fun
  | [d1, d2] => { results := [.lit (.bool false)], args := [d1, d2] }
  | _ => none }
def FnExactMeetSpacesWrongFalsely : Prop := fnExactMeetSpacesRow.holds Try.pinned (OpenSpec.ofChange fnExactMeetSpacesWrong)

/- THE SECOND FORM. 'bulk': how many values and letters a reading holds, each counted each time it is reached (what is shared counts as often as it is met; a slice's spare places count too). A statement '..UptoSaid' is the law's where the arguments, and the package variables that the reading takes, are together of bulk at most 1048576: NARROWER than '..Said'. Prove '..Said' where nothing that the law and all that it calls make is longer than what came in: it says more and counts as full. Else prove '..UptoSaid'. A law counts once. -/
mutual
def uptoBulk {H : Type} : DataW H → Nat
  | .lit (.string bytes) => bytes.length + 1
  | .lit _ => 1
  | .nil => 1
  | .ptr d => uptoBulk d + 1
  | .slice elems spare => uptoBulkAll elems + uptoBulkAll spare + 1
  | .agg parts => uptoBulkAll parts + 1
  | .iface _ d => uptoBulk d + 1
  | .map entries => uptoBulkEntries entries + 1
  | .held _ => 1
def uptoBulkAll {H : Type} : List (DataW H) → Nat
  | [] => 0
  | d :: r => uptoBulk d + uptoBulkAll r
def uptoBulkEntries {H : Type} : List (Lit × DataW H) → Nat
  | [] => 0
  | x :: r => uptoBulkEntry x + uptoBulkEntries r
def uptoBulkEntry {H : Type} : Lit × DataW H → Nat
  | (.string bytes, d) => bytes.length + uptoBulk d + 1
  | (_, d) => uptoBulk d + 1
 end
def uptoSmall : (H : Type) → List (DataW H) → Bool := fun _ ds => decide (uptoBulkAll ds ≤ 1048576)
def OpenSpec.upto (s : _root_.Go.ChangeSpec) : _root_.Go.OpenSpec := { _root_.Go.OpenSpec.ofChange s with cond := some uptoSmall }

/-- 'laws.FnExactCoordinatesIn', WHERE WHAT IT READS IS OF BULK AT MOST 1048576: true; the input reads as it did. -/
def fnExactCoordinatesInUptoRow : OpenClaim := { program := "ytabfflgoaalapaa", sum := "f9a084731efcd6f3db7a29b158661bc7affe8a5c84e3ea30c67cb5d77fc41492", func := "loop.example/g01005/laws.FnExactCoordinatesIn", spec := "fnExactCoordinatesIn", unfollowed := true, recurses := true, apart := false, narrowed := true }
def FnExactCoordinatesInUptoSaid : Prop := fnExactCoordinatesInUptoRow.holds Try.pinned (OpenSpec.upto fnExactCoordinatesInSpec)

/-- 'laws.FnExactSumSpaces', WHERE WHAT IT READS IS OF BULK AT MOST 1048576: true; the input reads as it did. -/
def fnExactSumSpacesUptoRow : OpenClaim := { program := "ytabfflgoaalapaa", sum := "f9a084731efcd6f3db7a29b158661bc7affe8a5c84e3ea30c67cb5d77fc41492", func := "loop.example/g01005/laws.FnExactSumSpaces", spec := "fnExactSumSpaces", unfollowed := true, recurses := true, apart := false, narrowed := true }
def FnExactSumSpacesUptoSaid : Prop := fnExactSumSpacesUptoRow.holds Try.pinned (OpenSpec.upto fnExactSumSpacesSpec)

/-- 'laws.FnExactQuotientOf', WHERE WHAT IT READS IS OF BULK AT MOST 1048576: true; the input reads as it did. -/
def fnExactQuotientOfUptoRow : OpenClaim := { program := "ytabfflgoaalapaa", sum := "f9a084731efcd6f3db7a29b158661bc7affe8a5c84e3ea30c67cb5d77fc41492", func := "loop.example/g01005/laws.FnExactQuotientOf", spec := "fnExactQuotientOf", unfollowed := true, recurses := true, apart := false, narrowed := true }
def FnExactQuotientOfUptoSaid : Prop := fnExactQuotientOfUptoRow.holds Try.pinned (OpenSpec.upto fnExactQuotientOfSpec)

/-- 'laws.FnExactComplementOf', WHERE WHAT IT READS IS OF BULK AT MOST 1048576: true; the input reads as it did. -/
def fnExactComplementOfUptoRow : OpenClaim := { program := "ytabfflgoaalapaa", sum := "f9a084731efcd6f3db7a29b158661bc7affe8a5c84e3ea30c67cb5d77fc41492", func := "loop.example/g01005/laws.FnExactComplementOf", spec := "fnExactComplementOf", unfollowed := true, recurses := true, apart := false, narrowed := true }
def FnExactComplementOfUptoSaid : Prop := fnExactComplementOfUptoRow.holds Try.pinned (OpenSpec.upto fnExactComplementOfSpec)

/-- 'laws.FnCoordinates', WHERE WHAT IT READS IS OF BULK AT MOST 1048576: true; the input reads as it did. -/
def fnCoordinatesUptoRow : OpenClaim := { program := "ytabfflgoaalapaa", sum := "f9a084731efcd6f3db7a29b158661bc7affe8a5c84e3ea30c67cb5d77fc41492", func := "loop.example/g01005/laws.FnCoordinates", spec := "fnCoordinates", unfollowed := true, recurses := true, apart := false, narrowed := true }
def FnCoordinatesUptoSaid : Prop := fnCoordinatesUptoRow.holds Try.pinned (OpenSpec.upto fnCoordinatesSpec)

/-- 'laws.FnKernels', WHERE WHAT IT READS IS OF BULK AT MOST 1048576: true; the input reads as it did. -/
def fnKernelsUptoRow : OpenClaim := { program := "ytabfflgoaalapaa", sum := "f9a084731efcd6f3db7a29b158661bc7affe8a5c84e3ea30c67cb5d77fc41492", func := "loop.example/g01005/laws.FnKernels", spec := "fnKernels", unfollowed := true, recurses := true, apart := false, narrowed := true }
def FnKernelsUptoSaid : Prop := fnKernelsUptoRow.holds Try.pinned (OpenSpec.upto fnKernelsSpec)

/-- 'laws.FnExactOrthogonalOf', WHERE WHAT IT READS IS OF BULK AT MOST 1048576: true; the input reads as it did. -/
def fnExactOrthogonalOfUptoRow : OpenClaim := { program := "ytabfflgoaalapaa", sum := "f9a084731efcd6f3db7a29b158661bc7affe8a5c84e3ea30c67cb5d77fc41492", func := "loop.example/g01005/laws.FnExactOrthogonalOf", spec := "fnExactOrthogonalOf", unfollowed := true, recurses := true, apart := false, narrowed := true }
def FnExactOrthogonalOfUptoSaid : Prop := fnExactOrthogonalOfUptoRow.holds Try.pinned (OpenSpec.upto fnExactOrthogonalOfSpec)

/-- 'laws.FnExactMeetSpaces', WHERE WHAT IT READS IS OF BULK AT MOST 1048576: true; the input reads as it did. -/
def fnExactMeetSpacesUptoRow : OpenClaim := { program := "ytabfflgoaalapaa", sum := "f9a084731efcd6f3db7a29b158661bc7affe8a5c84e3ea30c67cb5d77fc41492", func := "loop.example/g01005/laws.FnExactMeetSpaces", spec := "fnExactMeetSpaces", unfollowed := true, recurses := true, apart := false, narrowed := true }
def FnExactMeetSpacesUptoSaid : Prop := fnExactMeetSpacesUptoRow.holds Try.pinned (OpenSpec.upto fnExactMeetSpacesSpec)

end Rows
end Go.Proofs.Ytabfflgoaalapaa
