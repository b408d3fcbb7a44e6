/-
  No cell of these rows narrows 'for every input' (looked for: loops, veiled, ifaces, maps, wideKeys, modest, calm, conditions, laid).
  DERIVED. THE GIVEN ROWS OF THIS SEAT. 12 by the template 'for every input the law returns true; each argument reads behind the call as it read before'; 0 by the template 'total and deterministic' (their statements: YtabbkjgbdpcopaaTotals.lean).
  GIVEN WITH THE SEED: the statements are not yours to turn. If you find one false, say at which input.
  Laid BY PROGRAM, IN A SANDBOX (cutbox-rows.mjs): the forced cells as the released guide's own fill.sh prints them over the translation 9b8000e20b35bcfb… (all of the seat's roots in one cut). By AI agents, Wed Nov 11 2026. No macro, syntax, notation, axiom, sorry.
-/
import Derived.Test.YtabbkjgbdpcopaaChecked
import GoSem.Claim
import GoSem.ClaimJoined
import GoSem.ClaimMapViews
import Derived.JoinedTies
import Derived.KernelRfl
namespace Go.Proofs.Ytabbkjgbdpcopaa
/- THE CELL 'sum', in the pinned program and in every row, IS THE sha256 OF THE DUMP (.gsa) THAT YtabbkjgbdpcopaaProg.lean LOADS. Nothing in Lean hashes anything: it is a label: what it is worth is what the hold of that sum in a sandbox is worth. -/
noncomputable def Try.pinned : Pinned := { name := "ytabbkjgbdpcopaa", sum := "9b8000e20b35bcfb69d68b7a133f983b4a0346f5663ed440d752451dd5fbb680", checked := Try.checked }
namespace Rows
def none {H : Type} : Left H := { results := [], args := [] }

/-- 'laws.FnExactValidSimplex': WHATEVER THE INPUT: true; the input reads as it did. -/
def fnExactValidSimplexSpec : ChangeSpec := { name := "fnExactValidSimplex", fn := fun _ => fun
  | [d] => { results := [.lit (.bool true)], args := [d] }
  | _ => none }
def fnExactValidSimplexRow : OpenClaim := { program := "ytabbkjgbdpcopaa", sum := "9b8000e20b35bcfb69d68b7a133f983b4a0346f5663ed440d752451dd5fbb680", func := "loop.example/g01005/laws.FnExactValidSimplex", spec := "fnExactValidSimplex", unfollowed := true, recurses := true, apart := false }
def FnExactValidSimplexSaid : Prop := fnExactValidSimplexRow.holds Try.pinned (OpenSpec.ofChange fnExactValidSimplexSpec)

/-- ITS FALSE NEIGHBOUR: 'it returns false'. Refute it at one input. -/
def fnExactValidSimplexWrong : ChangeSpec := { name := "fnExactValidSimplex", fn := fun _ => fun
  | [d] => { results := [.lit (.bool false)], args := [d] }
  | _ => none }
def FnExactValidSimplexWrongFalsely : Prop := fnExactValidSimplexRow.holds Try.pinned (OpenSpec.ofChange fnExactValidSimplexWrong)

/-- 'laws.FnExactSameComplex': WHATEVER THE INPUT: true; the input reads as it did. -/
def fnExactSameComplexSpec : ChangeSpec := { name := "fnExactSameComplex", fn := fun _ => fun
  | [d1, d2] => { results := [.lit (.bool true)], args := [d1, d2] }
  | _ => none }
def fnExactSameComplexRow : OpenClaim := { program := "ytabbkjgbdpcopaa", sum := "9b8000e20b35bcfb69d68b7a133f983b4a0346f5663ed440d752451dd5fbb680", func := "loop.example/g01005/laws.FnExactSameComplex", spec := "fnExactSameComplex", unfollowed := true, recurses := true, apart := false }
def FnExactSameComplexSaid : Prop := fnExactSameComplexRow.holds Try.pinned (OpenSpec.ofChange fnExactSameComplexSpec)

/-- ITS FALSE NEIGHBOUR: 'it returns false'. Refute it at one input. -/
def fnExactSameComplexWrong : ChangeSpec := { name := "fnExactSameComplex", fn := fun _ => fun
  | [d1, d2] => { results := [.lit (.bool false)], args := [d1, d2] }
  | _ => none }
def FnExactSameComplexWrongFalsely : Prop := fnExactSameComplexRow.holds Try.pinned (OpenSpec.ofChange fnExactSameComplexWrong)

/-- 'laws.FnExactValidComplex': WHATEVER THE INPUT: true; the input reads as it did. -/
def fnExactValidComplexSpec : ChangeSpec := { name := "fnExactValidComplex", fn := fun _ => fun
  | [d] => { results := [.lit (.bool true)], args := [d] }
  | _ => none }
def fnExactValidComplexRow : OpenClaim := { program := "ytabbkjgbdpcopaa", sum := "9b8000e20b35bcfb69d68b7a133f983b4a0346f5663ed440d752451dd5fbb680", func := "loop.example/g01005/laws.FnExactValidComplex", spec := "fnExactValidComplex", unfollowed := true, recurses := true, apart := false }
def FnExactValidComplexSaid : Prop := fnExactValidComplexRow.holds Try.pinned (OpenSpec.ofChange fnExactValidComplexSpec)

/-- ITS FALSE NEIGHBOUR: 'it returns false'. Refute it at one input. -/
def fnExactValidComplexWrong : ChangeSpec := { name := "fnExactValidComplex", fn := fun _ => fun
  | [d] => { results := [.lit (.bool false)], args := [d] }
  | _ => none }
def FnExactValidComplexWrongFalsely : Prop := fnExactValidComplexRow.holds Try.pinned (OpenSpec.ofChange fnExactValidComplexWrong)

/-- 'laws.FnExactIndexOf': WHATEVER THE INPUT: true; the input reads as it did. -/
def fnExactIndexOfSpec : ChangeSpec := { name := "fnExactIndexOf", fn := fun _ => fun
  | [d1, d2] => { results := [.lit (.bool true)], args := [d1, d2] }
  | _ => none }
def fnExactIndexOfRow : OpenClaim := { program := "ytabbkjgbdpcopaa", sum := "9b8000e20b35bcfb69d68b7a133f983b4a0346f5663ed440d752451dd5fbb680", func := "loop.example/g01005/laws.FnExactIndexOf", spec := "fnExactIndexOf", unfollowed := true, recurses := true, apart := false }
def FnExactIndexOfSaid : Prop := fnExactIndexOfRow.holds Try.pinned (OpenSpec.ofChange fnExactIndexOfSpec)

/-- ITS FALSE NEIGHBOUR: 'it returns false'. Refute it at one input. -/
def fnExactIndexOfWrong : ChangeSpec := { name := "fnExactIndexOf", fn := fun _ => fun
  | [d1, d2] => { results := [.lit (.bool false)], args := [d1, d2] }
  | _ => none }
def FnExactIndexOfWrongFalsely : Prop := fnExactIndexOfRow.holds Try.pinned (OpenSpec.ofChange fnExactIndexOfWrong)

/-- 'laws.FnExactEulerNumber': WHATEVER THE INPUT: true; the input reads as it did. -/
def fnExactEulerNumberSpec : ChangeSpec := { name := "fnExactEulerNumber", fn := fun _ => fun
  | [d] => { results := [.lit (.bool true)], args := [d] }
  | _ => none }
def fnExactEulerNumberRow : OpenClaim := { program := "ytabbkjgbdpcopaa", sum := "9b8000e20b35bcfb69d68b7a133f983b4a0346f5663ed440d752451dd5fbb680", func := "loop.example/g01005/laws.FnExactEulerNumber", spec := "fnExactEulerNumber", unfollowed := true, recurses := true, apart := false }
def FnExactEulerNumberSaid : Prop := fnExactEulerNumberRow.holds Try.pinned (OpenSpec.ofChange fnExactEulerNumberSpec)

/-- ITS FALSE NEIGHBOUR: 'it returns false'. Refute it at one input. -/
def fnExactEulerNumberWrong : ChangeSpec := { name := "fnExactEulerNumber", fn := fun _ => fun
  | [d] => { results := [.lit (.bool false)], args := [d] }
  | _ => none }
def FnExactEulerNumberWrongFalsely : Prop := fnExactEulerNumberRow.holds Try.pinned (OpenSpec.ofChange fnExactEulerNumberWrong)

/-- 'laws.FnExactSimplicesOf': WHATEVER THE INPUT: true; the input reads as it did. -/
def fnExactSimplicesOfSpec : ChangeSpec := { name := "fnExactSimplicesOf", fn := fun _ => fun
  | [d1, d2] => { results := [.lit (.bool true)], args := [d1, d2] }
  | _ => none }
def fnExactSimplicesOfRow : OpenClaim := { program := "ytabbkjgbdpcopaa", sum := "9b8000e20b35bcfb69d68b7a133f983b4a0346f5663ed440d752451dd5fbb680", func := "loop.example/g01005/laws.FnExactSimplicesOf", spec := "fnExactSimplicesOf", unfollowed := true, recurses := true, apart := false }
def FnExactSimplicesOfSaid : Prop := fnExactSimplicesOfRow.holds Try.pinned (OpenSpec.ofChange fnExactSimplicesOfSpec)

/-- ITS FALSE NEIGHBOUR: 'it returns false'. Refute it at one input. -/
def fnExactSimplicesOfWrong : ChangeSpec := { name := "fnExactSimplicesOf", fn := fun _ => fun
  | [d1, d2] => { results := [.lit (.bool false)], args := [d1, d2] }
  | _ => none }
def FnExactSimplicesOfWrongFalsely : Prop := fnExactSimplicesOfRow.holds Try.pinned (OpenSpec.ofChange fnExactSimplicesOfWrong)

/-- 'laws.FnExactFacesOf': WHATEVER THE INPUT: true; the input reads as it did. -/
def fnExactFacesOfSpec : ChangeSpec := { name := "fnExactFacesOf", fn := fun _ => fun
  | [d1, d2] => { results := [.lit (.bool true)], args := [d1, d2] }
  | _ => none }
def fnExactFacesOfRow : OpenClaim := { program := "ytabbkjgbdpcopaa", sum := "9b8000e20b35bcfb69d68b7a133f983b4a0346f5663ed440d752451dd5fbb680", func := "loop.example/g01005/laws.FnExactFacesOf", spec := "fnExactFacesOf", unfollowed := true, recurses := true, apart := false }
def FnExactFacesOfSaid : Prop := fnExactFacesOfRow.holds Try.pinned (OpenSpec.ofChange fnExactFacesOfSpec)

/-- ITS FALSE NEIGHBOUR: 'it returns false'. Refute it at one input. -/
def fnExactFacesOfWrong : ChangeSpec := { name := "fnExactFacesOf", fn := fun _ => fun
  | [d1, d2] => { results := [.lit (.bool false)], args := [d1, d2] }
  | _ => none }
def FnExactFacesOfWrongFalsely : Prop := fnExactFacesOfRow.holds Try.pinned (OpenSpec.ofChange fnExactFacesOfWrong)

/-- 'laws.FnExactFacetsOf': WHATEVER THE INPUT: true; the input reads as it did. -/
def fnExactFacetsOfSpec : ChangeSpec := { name := "fnExactFacetsOf", fn := fun _ => fun
  | [d] => { results := [.lit (.bool true)], args := [d] }
  | _ => none }
def fnExactFacetsOfRow : OpenClaim := { program := "ytabbkjgbdpcopaa", sum := "9b8000e20b35bcfb69d68b7a133f983b4a0346f5663ed440d752451dd5fbb680", func := "loop.example/g01005/laws.FnExactFacetsOf", spec := "fnExactFacetsOf", unfollowed := true, recurses := true, apart := false }
def FnExactFacetsOfSaid : Prop := fnExactFacetsOfRow.holds Try.pinned (OpenSpec.ofChange fnExactFacetsOfSpec)

/-- ITS FALSE NEIGHBOUR: 'it returns false'. Refute it at one input. -/
def fnExactFacetsOfWrong : ChangeSpec := { name := "fnExactFacetsOf", fn := fun _ => fun
  | [d] => { results := [.lit (.bool false)], args := [d] }
  | _ => none }
def FnExactFacetsOfWrongFalsely : Prop := fnExactFacetsOfRow.holds Try.pinned (OpenSpec.ofChange fnExactFacetsOfWrong)

/-- 'laws.FnExactStarOf': WHATEVER THE INPUT: true; the input reads as it did. -/
def fnExactStarOfSpec : ChangeSpec := { name := "fnExactStarOf", fn := fun _ => fun
  | [d1, d2] => { results := [.lit (.bool true)], args := [d1, d2] }
  | _ => none }
def fnExactStarOfRow : OpenClaim := { program := "ytabbkjgbdpcopaa", sum := "9b8000e20b35bcfb69d68b7a133f983b4a0346f5663ed440d752451dd5fbb680", func := "loop.example/g01005/laws.FnExactStarOf", spec := "fnExactStarOf", unfollowed := true, recurses := true, apart := false }
def FnExactStarOfSaid : Prop := fnExactStarOfRow.holds Try.pinned (OpenSpec.ofChange fnExactStarOfSpec)

/-- ITS FALSE NEIGHBOUR: 'it returns false'. Refute it at one input. -/
def fnExactStarOfWrong : ChangeSpec := { name := "fnExactStarOf", fn := fun _ => fun
  | [d1, d2] => { results := [.lit (.bool false)], args := [d1, d2] }
  | _ => none }
def FnExactStarOfWrongFalsely : Prop := fnExactStarOfRow.holds Try.pinned (OpenSpec.ofChange fnExactStarOfWrong)

/-- 'laws.FnExactPartsOf': WHATEVER THE INPUT: true; the input reads as it did. -/
def fnExactPartsOfSpec : ChangeSpec := { name := "fnExactPartsOf", fn := fun _ => fun
  | [d] => { results := [.lit (.bool true)], args := [d] }
  | _ => none }
def fnExactPartsOfRow : OpenClaim := { program := "ytabbkjgbdpcopaa", sum := "9b8000e20b35bcfb69d68b7a133f983b4a0346f5663ed440d752451dd5fbb680", func := "loop.example/g01005/laws.FnExactPartsOf", spec := "fnExactPartsOf", unfollowed := true, recurses := true, apart := false }
def FnExactPartsOfSaid : Prop := fnExactPartsOfRow.holds Try.pinned (OpenSpec.ofChange fnExactPartsOfSpec)

/-- ITS FALSE NEIGHBOUR: 'it returns false'. Refute it at one input. -/
def fnExactPartsOfWrong : ChangeSpec := { name := "fnExactPartsOf", fn := fun _ => fun
  | [d] => { results := [.lit (.bool false)], args := [d] }
  | _ => none }
def FnExactPartsOfWrongFalsely : Prop := fnExactPartsOfRow.holds Try.pinned (OpenSpec.ofChange fnExactPartsOfWrong)

/-- 'laws.FnExactSkeletonOf': WHATEVER THE INPUT: true; the input reads as it did. -/
def fnExactSkeletonOfSpec : ChangeSpec := { name := "fnExactSkeletonOf", fn := fun _ => fun
  | [d1, d2] => { results := [.lit (.bool true)], args := [d1, d2] }
  | _ => none }
def fnExactSkeletonOfRow : OpenClaim := { program := "ytabbkjgbdpcopaa", sum := "9b8000e20b35bcfb69d68b7a133f983b4a0346f5663ed440d752451dd5fbb680", func := "loop.example/g01005/laws.FnExactSkeletonOf", spec := "fnExactSkeletonOf", unfollowed := true, recurses := true, apart := false }
def FnExactSkeletonOfSaid : Prop := fnExactSkeletonOfRow.holds Try.pinned (OpenSpec.ofChange fnExactSkeletonOfSpec)

/-- ITS FALSE NEIGHBOUR: 'it returns false'. Refute it at one input. -/
def fnExactSkeletonOfWrong : ChangeSpec := { name := "fnExactSkeletonOf", fn := fun _ => fun
  | [d1, d2] => { results := [.lit (.bool false)], args := [d1, d2] }
  | _ => none }
def FnExactSkeletonOfWrongFalsely : Prop := fnExactSkeletonOfRow.holds Try.pinned (OpenSpec.ofChange fnExactSkeletonOfWrong)

/-- 'laws.FnExactLinkOf': WHATEVER THE INPUT: true; the input reads as it did. -/
def fnExactLinkOfSpec : ChangeSpec := { name := "fnExactLinkOf", fn := fun _ => fun
  | [d1, d2] => { results := [.lit (.bool true)], args := [d1, d2] }
  | _ => none }
def fnExactLinkOfRow : OpenClaim := { program := "ytabbkjgbdpcopaa", sum := "9b8000e20b35bcfb69d68b7a133f983b4a0346f5663ed440d752451dd5fbb680", func := "loop.example/g01005/laws.FnExactLinkOf", spec := "fnExactLinkOf", unfollowed := true, recurses := true, apart := false }
def FnExactLinkOfSaid : Prop := fnExactLinkOfRow.holds Try.pinned (OpenSpec.ofChange fnExactLinkOfSpec)

/-- ITS FALSE NEIGHBOUR: 'it returns false'. Refute it at one input. -/
def fnExactLinkOfWrong : ChangeSpec := { name := "fnExactLinkOf", fn := fun _ => fun
  | [d1, d2] => { results := [.lit (.bool false)], args := [d1, d2] }
  | _ => none }
def FnExactLinkOfWrongFalsely : Prop := fnExactLinkOfRow.holds Try.pinned (OpenSpec.ofChange fnExactLinkOfWrong)

/- THE SECOND FORM. 'bulk': how many values and letters a reading holds, each counted each time it is reached (what is shared counts as often as it is met; a slice's spare places count too). A statement '..UptoSaid' is the law's where the arguments, and the package variables that the reading takes, are together of bulk at most 1048576: NARROWER than '..Said'. Prove '..Said' where nothing that the law and all that it calls make is longer than what came in: it says more and counts as full. Else prove '..UptoSaid'. A law counts once. -/
mutual
def uptoBulk {H : Type} : DataW H → Nat
  | .lit (.string bytes) => bytes.length + 1
  | .lit _ => 1
  | .nil => 1
  | .ptr d => uptoBulk d + 1
  | .slice elems spare => uptoBulkAll elems + uptoBulkAll spare + 1
  | .agg parts => uptoBulkAll parts + 1
  | .iface _ d => uptoBulk d + 1
  | .map entries => uptoBulkEntries entries + 1
  | .held _ => 1
def uptoBulkAll {H : Type} : List (DataW H) → Nat
  | [] => 0
  | d :: r => uptoBulk d + uptoBulkAll r
def uptoBulkEntries {H : Type} : List (Lit × DataW H) → Nat
  | [] => 0
  | x :: r => uptoBulkEntry x + uptoBulkEntries r
def uptoBulkEntry {H : Type} : Lit × DataW H → Nat
  | (.string bytes, d) => bytes.length + uptoBulk d + 1
  | (_, d) => uptoBulk d + 1
 end
def uptoSmall : (H : Type) → List (DataW H) → Bool := fun _ ds => decide (uptoBulkAll ds ≤ 1048576)
def OpenSpec.upto (s : _root_.Go.ChangeSpec) : _root_.Go.OpenSpec := { _root_.Go.OpenSpec.ofChange s with cond := some uptoSmall }

/-- 'laws.FnExactValidSimplex', WHERE WHAT IT READS IS OF BULK AT MOST 1048576: true; the input reads as it did. -/
def fnExactValidSimplexUptoRow : OpenClaim := { program := "ytabbkjgbdpcopaa", sum := "9b8000e20b35bcfb69d68b7a133f983b4a0346f5663ed440d752451dd5fbb680", func := "loop.example/g01005/laws.FnExactValidSimplex", spec := "fnExactValidSimplex", unfollowed := true, recurses := true, apart := false, narrowed := true }
def FnExactValidSimplexUptoSaid : Prop := fnExactValidSimplexUptoRow.holds Try.pinned (OpenSpec.upto fnExactValidSimplexSpec)

/-- 'laws.FnExactSameComplex', WHERE WHAT IT READS IS OF BULK AT MOST 1048576: true; the input reads as it did. -/
def fnExactSameComplexUptoRow : OpenClaim := { program := "ytabbkjgbdpcopaa", sum := "9b8000e20b35bcfb69d68b7a133f983b4a0346f5663ed440d752451dd5fbb680", func := "loop.example/g01005/laws.FnExactSameComplex", spec := "fnExactSameComplex", unfollowed := true, recurses := true, apart := false, narrowed := true }
def FnExactSameComplexUptoSaid : Prop := fnExactSameComplexUptoRow.holds Try.pinned (OpenSpec.upto fnExactSameComplexSpec)

/-- 'laws.FnExactValidComplex', WHERE WHAT IT READS IS OF BULK AT MOST 1048576: true; the input reads as it did. -/
def fnExactValidComplexUptoRow : OpenClaim := { program := "ytabbkjgbdpcopaa", sum := "9b8000e20b35bcfb69d68b7a133f983b4a0346f5663ed440d752451dd5fbb680", func := "loop.example/g01005/laws.FnExactValidComplex", spec := "fnExactValidComplex", unfollowed := true, recurses := true, apart := false, narrowed := true }
def FnExactValidComplexUptoSaid : Prop := fnExactValidComplexUptoRow.holds Try.pinned (OpenSpec.upto fnExactValidComplexSpec)

/-- 'laws.FnExactIndexOf', WHERE WHAT IT READS IS OF BULK AT MOST 1048576: true; the input reads as it did. -/
def fnExactIndexOfUptoRow : OpenClaim := { program := "ytabbkjgbdpcopaa", sum := "9b8000e20b35bcfb69d68b7a133f983b4a0346f5663ed440d752451dd5fbb680", func := "loop.example/g01005/laws.FnExactIndexOf", spec := "fnExactIndexOf", unfollowed := true, recurses := true, apart := false, narrowed := true }
def FnExactIndexOfUptoSaid : Prop := fnExactIndexOfUptoRow.holds Try.pinned (OpenSpec.upto fnExactIndexOfSpec)

/-- 'laws.FnExactEulerNumber', WHERE WHAT IT READS IS OF BULK AT MOST 1048576: true; the input reads as it did. -/
def fnExactEulerNumberUptoRow : OpenClaim := { program := "ytabbkjgbdpcopaa", sum := "9b8000e20b35bcfb69d68b7a133f983b4a0346f5663ed440d752451dd5fbb680", func := "loop.example/g01005/laws.FnExactEulerNumber", spec := "fnExactEulerNumber", unfollowed := true, recurses := true, apart := false, narrowed := true }
def FnExactEulerNumberUptoSaid : Prop := fnExactEulerNumberUptoRow.holds Try.pinned (OpenSpec.upto fnExactEulerNumberSpec)

/-- 'laws.FnExactSimplicesOf', WHERE WHAT IT READS IS OF BULK AT MOST 1048576: true; the input reads as it did. -/
def fnExactSimplicesOfUptoRow : OpenClaim := { program := "ytabbkjgbdpcopaa", sum := "9b8000e20b35bcfb69d68b7a133f983b4a0346f5663ed440d752451dd5fbb680", func := "loop.example/g01005/laws.FnExactSimplicesOf", spec := "fnExactSimplicesOf", unfollowed := true, recurses := true, apart := false, narrowed := true }
def FnExactSimplicesOfUptoSaid : Prop := fnExactSimplicesOfUptoRow.holds Try.pinned (OpenSpec.upto fnExactSimplicesOfSpec)

/-- 'laws.FnExactFacesOf', WHERE WHAT IT READS IS OF BULK AT MOST 1048576: true; the input reads as it did. -/
def fnExactFacesOfUptoRow : OpenClaim := { program := "ytabbkjgbdpcopaa", sum := "9b8000e20b35bcfb69d68b7a133f983b4a0346f5663ed440d752451dd5fbb680", func := "loop.example/g01005/laws.FnExactFacesOf", spec := "fnExactFacesOf", unfollowed := true, recurses := true, apart := false, narrowed := true }
def FnExactFacesOfUptoSaid : Prop := fnExactFacesOfUptoRow.holds Try.pinned (OpenSpec.upto fnExactFacesOfSpec)

/-- 'laws.FnExactFacetsOf', WHERE WHAT IT READS IS OF BULK AT MOST 1048576: true; the input reads as it did. -/
def fnExactFacetsOfUptoRow : OpenClaim := { program := "ytabbkjgbdpcopaa", sum := "9b8000e20b35bcfb69d68b7a133f983b4a0346f5663ed440d752451dd5fbb680", func := "loop.example/g01005/laws.FnExactFacetsOf", spec := "fnExactFacetsOf", unfollowed := true, recurses := true, apart := false, narrowed := true }
def FnExactFacetsOfUptoSaid : Prop := fnExactFacetsOfUptoRow.holds Try.pinned (OpenSpec.upto fnExactFacetsOfSpec)

/-- 'laws.FnExactStarOf', WHERE WHAT IT READS IS OF BULK AT MOST 1048576: true; the input reads as it did. -/
def fnExactStarOfUptoRow : OpenClaim := { program := "ytabbkjgbdpcopaa", sum := "9b8000e20b35bcfb69d68b7a133f983b4a0346f5663ed440d752451dd5fbb680", func := "loop.example/g01005/laws.FnExactStarOf", spec := "fnExactStarOf", unfollowed := true, recurses := true, apart := false, narrowed := true }
def FnExactStarOfUptoSaid : Prop := fnExactStarOfUptoRow.holds Try.pinned (OpenSpec.upto fnExactStarOfSpec)

/-- 'laws.FnExactPartsOf', WHERE WHAT IT READS IS OF BULK AT MOST 1048576: true; the input reads as it did. -/
def fnExactPartsOfUptoRow : OpenClaim := { program := "ytabbkjgbdpcopaa", sum := "9b8000e20b35bcfb69d68b7a133f983b4a0346f5663ed440d752451dd5fbb680", func := "loop.example/g01005/laws.FnExactPartsOf", spec := "fnExactPartsOf", unfollowed := true, recurses := true, apart := false, narrowed := true }
def FnExactPartsOfUptoSaid : Prop := fnExactPartsOfUptoRow.holds Try.pinned (OpenSpec.upto fnExactPartsOfSpec)

/-- 'laws.FnExactSkeletonOf', WHERE WHAT IT READS IS OF BULK AT MOST 1048576: true; the input reads as it did. -/
def fnExactSkeletonOfUptoRow : OpenClaim := { program := "ytabbkjgbdpcopaa", sum := "9b8000e20b35bcfb69d68b7a133f983b4a0346f5663ed440d752451dd5fbb680", func := "loop.example/g01005/laws.FnExactSkeletonOf", spec := "fnExactSkeletonOf", unfollowed := true, recurses := true, apart := false, narrowed := true }
def FnExactSkeletonOfUptoSaid : Prop := fnExactSkeletonOfUptoRow.holds Try.pinned (OpenSpec.upto fnExactSkeletonOfSpec)

/-- 'laws.FnExactLinkOf', WHERE WHAT IT READS IS OF BULK AT MOST 1048576: true; the input reads as it did. -/
def fnExactLinkOfUptoRow : OpenClaim := { program := "ytabbkjgbdpcopaa", sum := "9b8000e20b35bcfb69d68b7a133f983b4a0346f5663ed440d752451dd5fbb680", func := "loop.example/g01005/laws.FnExactLinkOf", spec := "fnExactLinkOf", unfollowed := true, recurses := true, apart := false, narrowed := true }
def FnExactLinkOfUptoSaid : Prop := fnExactLinkOfUptoRow.holds Try.pinned (OpenSpec.upto fnExactLinkOfSpec)

end Rows
end Go.Proofs.Ytabbkjgbdpcopaa
