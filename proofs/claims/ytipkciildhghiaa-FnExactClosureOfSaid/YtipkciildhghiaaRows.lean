/-
  No cell of these rows narrows 'for every input' (looked for: loops, veiled, ifaces, maps, wideKeys, modest, calm, conditions, laid).
  DERIVED. THE GIVEN ROWS OF THIS SEAT. 12 by the template 'for every input the law returns true; each argument reads behind the call as it read before'; 0 by the template 'total and deterministic' (their statements: YtipkciildhghiaaTotals.lean).
  GIVEN WITH THE SEED: the statements are not yours to turn. If you find one false, say at which input.
  Laid BY PROGRAM, IN A SANDBOX (cutbox-rows.mjs): the forced cells as the released guide's own fill.sh prints them over the translation 24ce31ea0147c8bb… (all of the seat's roots in one cut). By AI agents, Wed Nov 11 2026. No macro, syntax, notation, axiom, sorry.
-/
import Derived.Test.YtipkciildhghiaaChecked
import GoSem.Claim
import GoSem.ClaimJoined
import GoSem.ClaimMapViews
import Derived.JoinedTies
import Derived.KernelRfl
namespace Go.Proofs.Ytipkciildhghiaa
/- THE CELL 'sum', in the pinned program and in every row, IS THE sha256 OF THE DUMP (.gsa) THAT YtipkciildhghiaaProg.lean LOADS. Nothing in Lean hashes anything: it is a label: what it is worth is what the hold of that sum in a sandbox is worth. -/
noncomputable def Try.pinned : Pinned := { name := "ytipkciildhghiaa", sum := "24ce31ea0147c8bb5d71126d3f224dc2e7bcd2baf6370164eeb5bb024d17950e", checked := Try.checked }
namespace Rows
def none {H : Type} : Left H := { results := [], args := [] }

/-- 'laws.FnExactPartsOf': WHATEVER THE INPUT: true; the input reads as it did. -/
def fnExactPartsOfSpec : ChangeSpec := { name := "fnExactPartsOf", fn := fun _ => fun
  | [d] => { results := [.lit (.bool true)], args := [d] }
  | _ => none }
def fnExactPartsOfRow : OpenClaim := { program := "ytipkciildhghiaa", sum := "24ce31ea0147c8bb5d71126d3f224dc2e7bcd2baf6370164eeb5bb024d17950e", func := "loop.example/g01005/laws.FnExactPartsOf", spec := "fnExactPartsOf", unfollowed := true, recurses := true, apart := false }
def FnExactPartsOfSaid : Prop := fnExactPartsOfRow.holds Try.pinned (OpenSpec.ofChange fnExactPartsOfSpec)

/-- ITS FALSE NEIGHBOUR: 'it returns false'. Refute it at one input. -/
def fnExactPartsOfWrong : ChangeSpec := { name := "fnExactPartsOf", fn := fun _ => fun
  | [d] => { results := [.lit (.bool false)], args := [d] }
  | _ => none }
def FnExactPartsOfWrongFalsely : Prop := fnExactPartsOfRow.holds Try.pinned (OpenSpec.ofChange fnExactPartsOfWrong)

/-- 'laws.FnExactSkeletonOf': WHATEVER THE INPUT: true; the input reads as it did. -/
def fnExactSkeletonOfSpec : ChangeSpec := { name := "fnExactSkeletonOf", fn := fun _ => fun
  | [d1, d2] => { results := [.lit (.bool true)], args := [d1, d2] }
  | _ => none }
def fnExactSkeletonOfRow : OpenClaim := { program := "ytipkciildhghiaa", sum := "24ce31ea0147c8bb5d71126d3f224dc2e7bcd2baf6370164eeb5bb024d17950e", func := "loop.example/g01005/laws.FnExactSkeletonOf", spec := "fnExactSkeletonOf", unfollowed := true, recurses := true, apart := false }
def FnExactSkeletonOfSaid : Prop := fnExactSkeletonOfRow.holds Try.pinned (OpenSpec.ofChange fnExactSkeletonOfSpec)

/-- ITS FALSE NEIGHBOUR: 'it returns false'. Refute it at one input. -/
def fnExactSkeletonOfWrong : ChangeSpec := { name := "fnExactSkeletonOf", fn := fun _ => fun
  | [d1, d2] => { results := [.lit (.bool false)], args := [d1, d2] }
  | _ => none }
def FnExactSkeletonOfWrongFalsely : Prop := fnExactSkeletonOfRow.holds Try.pinned (OpenSpec.ofChange fnExactSkeletonOfWrong)

/-- 'laws.FnExactLinkOf': WHATEVER THE INPUT: true; the input reads as it did. -/
def fnExactLinkOfSpec : ChangeSpec := { name := "fnExactLinkOf", fn := fun _ => fun
  | [d1, d2] => { results := [.lit (.bool true)], args := [d1, d2] }
  | _ => none }
def fnExactLinkOfRow : OpenClaim := { program := "ytipkciildhghiaa", sum := "24ce31ea0147c8bb5d71126d3f224dc2e7bcd2baf6370164eeb5bb024d17950e", func := "loop.example/g01005/laws.FnExactLinkOf", spec := "fnExactLinkOf", unfollowed := true, recurses := true, apart := false }
def FnExactLinkOfSaid : Prop := fnExactLinkOfRow.holds Try.pinned (OpenSpec.ofChange fnExactLinkOfSpec)

/-- ITS FALSE NEIGHBOUR: 'it returns false'. Refute it at one input. -/
def fnExactLinkOfWrong : ChangeSpec := { name := "fnExactLinkOf", fn := fun _ => fun
  | [d1, d2] => { results := [.lit (.bool false)], args := [d1, d2] }
  | _ => none }
def FnExactLinkOfWrongFalsely : Prop := fnExactLinkOfRow.holds Try.pinned (OpenSpec.ofChange fnExactLinkOfWrong)

/-- 'laws.FnExactClosureOf': WHATEVER THE INPUT: true; the input reads as it did. -/
def fnExactClosureOfSpec : ChangeSpec := { name := "fnExactClosureOf", fn := fun _ => fun
  | [d] => { results := [.lit (.bool true)], args := [d] }
  | _ => none }
def fnExactClosureOfRow : OpenClaim := { program := "ytipkciildhghiaa", sum := "24ce31ea0147c8bb5d71126d3f224dc2e7bcd2baf6370164eeb5bb024d17950e", func := "loop.example/g01005/laws.FnExactClosureOf", spec := "fnExactClosureOf", unfollowed := true, recurses := true, apart := false }
def FnExactClosureOfSaid : Prop := fnExactClosureOfRow.holds Try.pinned (OpenSpec.ofChange fnExactClosureOfSpec)

/-- ITS FALSE NEIGHBOUR: 'it returns false'. Refute it at one input. -/
def fnExactClosureOfWrong : ChangeSpec := { name := "fnExactClosureOf", fn := fun _ => fun
  | [d] => { results := [.lit (.bool false)], args := [d] }
  | _ => none }
def FnExactClosureOfWrongFalsely : Prop := fnExactClosureOfRow.holds Try.pinned (OpenSpec.ofChange fnExactClosureOfWrong)

/-- 'laws.FnExactConeOf': WHATEVER THE INPUT: true; the input reads as it did. -/
def fnExactConeOfSpec : ChangeSpec := { name := "fnExactConeOf", fn := fun _ => fun
  | [d1, d2] => { results := [.lit (.bool true)], args := [d1, d2] }
  | _ => none }
def fnExactConeOfRow : OpenClaim := { program := "ytipkciildhghiaa", sum := "24ce31ea0147c8bb5d71126d3f224dc2e7bcd2baf6370164eeb5bb024d17950e", func := "loop.example/g01005/laws.FnExactConeOf", spec := "fnExactConeOf", unfollowed := true, recurses := true, apart := false }
def FnExactConeOfSaid : Prop := fnExactConeOfRow.holds Try.pinned (OpenSpec.ofChange fnExactConeOfSpec)

/-- ITS FALSE NEIGHBOUR: 'it returns false'. Refute it at one input. -/
def fnExactConeOfWrong : ChangeSpec := { name := "fnExactConeOf", fn := fun _ => fun
  | [d1, d2] => { results := [.lit (.bool false)], args := [d1, d2] }
  | _ => none }
def FnExactConeOfWrongFalsely : Prop := fnExactConeOfRow.holds Try.pinned (OpenSpec.ofChange fnExactConeOfWrong)

/-- 'laws.FnExactLoopChain': WHATEVER THE INPUT: true; the input reads as it did. -/
def fnExactLoopChainSpec : ChangeSpec := { name := "fnExactLoopChain", fn := fun _ => fun
  | [d1, d2, d3] => { results := [.lit (.bool true)], args := [d1, d2, d3] }
  | _ => none }
def fnExactLoopChainRow : OpenClaim := { program := "ytipkciildhghiaa", sum := "24ce31ea0147c8bb5d71126d3f224dc2e7bcd2baf6370164eeb5bb024d17950e", func := "loop.example/g01005/laws.FnExactLoopChain", spec := "fnExactLoopChain", unfollowed := true, recurses := true, apart := false }
def FnExactLoopChainSaid : Prop := fnExactLoopChainRow.holds Try.pinned (OpenSpec.ofChange fnExactLoopChainSpec)

/-- ITS FALSE NEIGHBOUR: 'it returns false'. Refute it at one input. -/
def fnExactLoopChainWrong : ChangeSpec := { name := "fnExactLoopChain", fn := fun _ => fun
  | [d1, d2, d3] => { results := [.lit (.bool false)], args := [d1, d2, d3] }
  | _ => none }
def FnExactLoopChainWrongFalsely : Prop := fnExactLoopChainRow.holds Try.pinned (OpenSpec.ofChange fnExactLoopChainWrong)

/-- 'laws.FnExactBoundaryMatrix': WHATEVER THE INPUT: true; the input reads as it did. -/
def fnExactBoundaryMatrixSpec : ChangeSpec := { name := "fnExactBoundaryMatrix", fn := fun _ => fun
  | [d1, d2, d3] => { results := [.lit (.bool true)], args := [d1, d2, d3] }
  | _ => none }
def fnExactBoundaryMatrixRow : OpenClaim := { program := "ytipkciildhghiaa", sum := "24ce31ea0147c8bb5d71126d3f224dc2e7bcd2baf6370164eeb5bb024d17950e", func := "loop.example/g01005/laws.FnExactBoundaryMatrix", spec := "fnExactBoundaryMatrix", unfollowed := true, recurses := true, apart := false }
def FnExactBoundaryMatrixSaid : Prop := fnExactBoundaryMatrixRow.holds Try.pinned (OpenSpec.ofChange fnExactBoundaryMatrixSpec)

/-- ITS FALSE NEIGHBOUR: 'it returns false'. Refute it at one input. -/
def fnExactBoundaryMatrixWrong : ChangeSpec := { name := "fnExactBoundaryMatrix", fn := fun _ => fun
  | [d1, d2, d3] => { results := [.lit (.bool false)], args := [d1, d2, d3] }
  | _ => none }
def FnExactBoundaryMatrixWrongFalsely : Prop := fnExactBoundaryMatrixRow.holds Try.pinned (OpenSpec.ofChange fnExactBoundaryMatrixWrong)

/-- 'laws.FnExactIsCycle': WHATEVER THE INPUT: true; the input reads as it did. -/
def fnExactIsCycleSpec : ChangeSpec := { name := "fnExactIsCycle", fn := fun _ => fun
  | [d1, d2, d3, d4] => { results := [.lit (.bool true)], args := [d1, d2, d3, d4] }
  | _ => none }
def fnExactIsCycleRow : OpenClaim := { program := "ytipkciildhghiaa", sum := "24ce31ea0147c8bb5d71126d3f224dc2e7bcd2baf6370164eeb5bb024d17950e", func := "loop.example/g01005/laws.FnExactIsCycle", spec := "fnExactIsCycle", unfollowed := true, recurses := true, apart := false }
def FnExactIsCycleSaid : Prop := fnExactIsCycleRow.holds Try.pinned (OpenSpec.ofChange fnExactIsCycleSpec)

/-- ITS FALSE NEIGHBOUR: 'it returns false'. Refute it at one input. -/
def fnExactIsCycleWrong : ChangeSpec := { name := "fnExactIsCycle", fn := fun _ => fun
  | [d1, d2, d3, d4] => { results := [.lit (.bool false)], args := [d1, d2, d3, d4] }
  | _ => none }
def FnExactIsCycleWrongFalsely : Prop := fnExactIsCycleRow.holds Try.pinned (OpenSpec.ofChange fnExactIsCycleWrong)

/-- 'laws.FnExactBoundaryOf': WHATEVER THE INPUT: true; the input reads as it did. -/
def fnExactBoundaryOfSpec : ChangeSpec := { name := "fnExactBoundaryOf", fn := fun _ => fun
  | [d1, d2, d3, d4] => { results := [.lit (.bool true)], args := [d1, d2, d3, d4] }
  | _ => none }
def fnExactBoundaryOfRow : OpenClaim := { program := "ytipkciildhghiaa", sum := "24ce31ea0147c8bb5d71126d3f224dc2e7bcd2baf6370164eeb5bb024d17950e", func := "loop.example/g01005/laws.FnExactBoundaryOf", spec := "fnExactBoundaryOf", unfollowed := true, recurses := true, apart := false }
def FnExactBoundaryOfSaid : Prop := fnExactBoundaryOfRow.holds Try.pinned (OpenSpec.ofChange fnExactBoundaryOfSpec)

/-- ITS FALSE NEIGHBOUR: 'it returns false'. Refute it at one input. -/
def fnExactBoundaryOfWrong : ChangeSpec := { name := "fnExactBoundaryOf", fn := fun _ => fun
  | [d1, d2, d3, d4] => { results := [.lit (.bool false)], args := [d1, d2, d3, d4] }
  | _ => none }
def FnExactBoundaryOfWrongFalsely : Prop := fnExactBoundaryOfRow.holds Try.pinned (OpenSpec.ofChange fnExactBoundaryOfWrong)

/-- 'laws.FnExactCycleBasis': WHATEVER THE INPUT: true; the input reads as it did. -/
def fnExactCycleBasisSpec : ChangeSpec := { name := "fnExactCycleBasis", fn := fun _ => fun
  | [d1, d2, d3] => { results := [.lit (.bool true)], args := [d1, d2, d3] }
  | _ => none }
def fnExactCycleBasisRow : OpenClaim := { program := "ytipkciildhghiaa", sum := "24ce31ea0147c8bb5d71126d3f224dc2e7bcd2baf6370164eeb5bb024d17950e", func := "loop.example/g01005/laws.FnExactCycleBasis", spec := "fnExactCycleBasis", unfollowed := true, recurses := true, apart := false }
def FnExactCycleBasisSaid : Prop := fnExactCycleBasisRow.holds Try.pinned (OpenSpec.ofChange fnExactCycleBasisSpec)

/-- ITS FALSE NEIGHBOUR: 'it returns false'. Refute it at one input. -/
def fnExactCycleBasisWrong : ChangeSpec := { name := "fnExactCycleBasis", fn := fun _ => fun
  | [d1, d2, d3] => { results := [.lit (.bool false)], args := [d1, d2, d3] }
  | _ => none }
def FnExactCycleBasisWrongFalsely : Prop := fnExactCycleBasisRow.holds Try.pinned (OpenSpec.ofChange fnExactCycleBasisWrong)

/-- 'laws.FnExactIsBoundary': WHATEVER THE INPUT: true; the input reads as it did. -/
def fnExactIsBoundarySpec : ChangeSpec := { name := "fnExactIsBoundary", fn := fun _ => fun
  | [d1, d2, d3, d4] => { results := [.lit (.bool true)], args := [d1, d2, d3, d4] }
  | _ => none }
def fnExactIsBoundaryRow : OpenClaim := { program := "ytipkciildhghiaa", sum := "24ce31ea0147c8bb5d71126d3f224dc2e7bcd2baf6370164eeb5bb024d17950e", func := "loop.example/g01005/laws.FnExactIsBoundary", spec := "fnExactIsBoundary", unfollowed := true, recurses := true, apart := false }
def FnExactIsBoundarySaid : Prop := fnExactIsBoundaryRow.holds Try.pinned (OpenSpec.ofChange fnExactIsBoundarySpec)

/-- ITS FALSE NEIGHBOUR: 'it returns false'. Refute it at one input. -/
def fnExactIsBoundaryWrong : ChangeSpec := { name := "fnExactIsBoundary", fn := fun _ => fun
  | [d1, d2, d3, d4] => { results := [.lit (.bool false)], args := [d1, d2, d3, d4] }
  | _ => none }
def FnExactIsBoundaryWrongFalsely : Prop := fnExactIsBoundaryRow.holds Try.pinned (OpenSpec.ofChange fnExactIsBoundaryWrong)

/-- 'laws.FnExactFillingOf': WHATEVER THE INPUT: true; the input reads as it did. -/
def fnExactFillingOfSpec : ChangeSpec := { name := "fnExactFillingOf", fn := fun _ => fun
  | [d1, d2, d3, d4] => { results := [.lit (.bool true)], args := [d1, d2, d3, d4] }
  | _ => none }
def fnExactFillingOfRow : OpenClaim := { program := "ytipkciildhghiaa", sum := "24ce31ea0147c8bb5d71126d3f224dc2e7bcd2baf6370164eeb5bb024d17950e", func := "loop.example/g01005/laws.FnExactFillingOf", spec := "fnExactFillingOf", unfollowed := true, recurses := true, apart := false }
def FnExactFillingOfSaid : Prop := fnExactFillingOfRow.holds Try.pinned (OpenSpec.ofChange fnExactFillingOfSpec)

/-- ITS FALSE NEIGHBOUR: 'it returns false'. Refute it at one input. -/
def fnExactFillingOfWrong : ChangeSpec := { name := "fnExactFillingOf", fn := fun _ => fun
  | [d1, d2, d3, d4] => { results := [.lit (.bool false)], args := [d1, d2, d3, d4] }
  | _ => none }
def FnExactFillingOfWrongFalsely : Prop := fnExactFillingOfRow.holds Try.pinned (OpenSpec.ofChange fnExactFillingOfWrong)

/- THE SECOND FORM. 'bulk': how many values and letters a reading holds, each counted each time it is reached (what is shared counts as often as it is met; a slice's spare places count too). A statement '..UptoSaid' is the law's where the arguments, and the package variables that the reading takes, are together of bulk at most 1048576: NARROWER than '..Said'. Prove '..Said' where nothing that the law and all that it calls make is longer than what came in: it says more and counts as full. Else prove '..UptoSaid'. A law counts once. -/
mutual
def uptoBulk {H : Type} : DataW H → Nat
  | .lit (.string bytes) => bytes.length + 1
  | .lit _ => 1
  | .nil => 1
  | .ptr d => uptoBulk d + 1
  | .slice elems spare => uptoBulkAll elems + uptoBulkAll spare + 1
  | .agg parts => uptoBulkAll parts + 1
  | .iface _ d => uptoBulk d + 1
  | .map entries => uptoBulkEntries entries + 1
  | .held _ => 1
def uptoBulkAll {H : Type} : List (DataW H) → Nat
  | [] => 0
  | d :: r => uptoBulk d + uptoBulkAll r
def uptoBulkEntries {H : Type} : List (Lit × DataW H) → Nat
  | [] => 0
  | x :: r => uptoBulkEntry x + uptoBulkEntries r
def uptoBulkEntry {H : Type} : Lit × DataW H → Nat
  | (.string bytes, d) => bytes.length + uptoBulk d + 1
  | (_, d) => uptoBulk d + 1
 end
def uptoSmall : (H : Type) → List (DataW H) → Bool := fun _ ds => decide (uptoBulkAll ds ≤ 1048576)
def OpenSpec.upto (s : _root_.Go.ChangeSpec) : _root_.Go.OpenSpec := { _root_.Go.OpenSpec.ofChange s with cond := some uptoSmall }

/-- 'laws.FnExactPartsOf', WHERE WHAT IT READS IS OF BULK AT MOST 1048576: true; the input reads as it did. -/
def fnExactPartsOfUptoRow : OpenClaim := { program := "ytipkciildhghiaa", sum := "24ce31ea0147c8bb5d71126d3f224dc2e7bcd2baf6370164eeb5bb024d17950e", func := "loop.example/g01005/laws.FnExactPartsOf", spec := "fnExactPartsOf", unfollowed := true, recurses := true, apart := false, narrowed := true }
def FnExactPartsOfUptoSaid : Prop := fnExactPartsOfUptoRow.holds Try.pinned (OpenSpec.upto fnExactPartsOfSpec)

/-- 'laws.FnExactSkeletonOf', WHERE WHAT IT READS IS OF BULK AT MOST 1048576: true; the input reads as it did. -/
def fnExactSkeletonOfUptoRow : OpenClaim := { program := "ytipkciildhghiaa", sum := "24ce31ea0147c8bb5d71126d3f224dc2e7bcd2baf6370164eeb5bb024d17950e", func := "loop.example/g01005/laws.FnExactSkeletonOf", spec := "fnExactSkeletonOf", unfollowed := true, recurses := true, apart := false, narrowed := true }
def FnExactSkeletonOfUptoSaid : Prop := fnExactSkeletonOfUptoRow.holds Try.pinned (OpenSpec.upto fnExactSkeletonOfSpec)

/-- 'laws.FnExactLinkOf', WHERE WHAT IT READS IS OF BULK AT MOST 1048576: true; the input reads as it did. -/
def fnExactLinkOfUptoRow : OpenClaim := { program := "ytipkciildhghiaa", sum := "24ce31ea0147c8bb5d71126d3f224dc2e7bcd2baf6370164eeb5bb024d17950e", func := "loop.example/g01005/laws.FnExactLinkOf", spec := "fnExactLinkOf", unfollowed := true, recurses := true, apart := false, narrowed := true }
def FnExactLinkOfUptoSaid : Prop := fnExactLinkOfUptoRow.holds Try.pinned (OpenSpec.upto fnExactLinkOfSpec)

/-- 'laws.FnExactClosureOf', WHERE WHAT IT READS IS OF BULK AT MOST 1048576: true; the input reads as it did. -/
def fnExactClosureOfUptoRow : OpenClaim := { program := "ytipkciildhghiaa", sum := "24ce31ea0147c8bb5d71126d3f224dc2e7bcd2baf6370164eeb5bb024d17950e", func := "loop.example/g01005/laws.FnExactClosureOf", spec := "fnExactClosureOf", unfollowed := true, recurses := true, apart := false, narrowed := true }
def FnExactClosureOfUptoSaid : Prop := fnExactClosureOfUptoRow.holds Try.pinned (OpenSpec.upto fnExactClosureOfSpec)

/-- 'laws.FnExactConeOf', WHERE WHAT IT READS IS OF BULK AT MOST 1048576: true; the input reads as it did. -/
def fnExactConeOfUptoRow : OpenClaim := { program := "ytipkciildhghiaa", sum := "24ce31ea0147c8bb5d71126d3f224dc2e7bcd2baf6370164eeb5bb024d17950e", func := "loop.example/g01005/laws.FnExactConeOf", spec := "fnExactConeOf", unfollowed := true, recurses := true, apart := false, narrowed := true }
def FnExactConeOfUptoSaid : Prop := fnExactConeOfUptoRow.holds Try.pinned (OpenSpec.upto fnExactConeOfSpec)

/-- 'laws.FnExactLoopChain', WHERE WHAT IT READS IS OF BULK AT MOST 1048576: true; the input reads as it did. -/
def fnExactLoopChainUptoRow : OpenClaim := { program := "ytipkciildhghiaa", sum := "24ce31ea0147c8bb5d71126d3f224dc2e7bcd2baf6370164eeb5bb024d17950e", func := "loop.example/g01005/laws.FnExactLoopChain", spec := "fnExactLoopChain", unfollowed := true, recurses := true, apart := false, narrowed := true }
def FnExactLoopChainUptoSaid : Prop := fnExactLoopChainUptoRow.holds Try.pinned (OpenSpec.upto fnExactLoopChainSpec)

/-- 'laws.FnExactBoundaryMatrix', WHERE WHAT IT READS IS OF BULK AT MOST 1048576: true; the input reads as it did. -/
def fnExactBoundaryMatrixUptoRow : OpenClaim := { program := "ytipkciildhghiaa", sum := "24ce31ea0147c8bb5d71126d3f224dc2e7bcd2baf6370164eeb5bb024d17950e", func := "loop.example/g01005/laws.FnExactBoundaryMatrix", spec := "fnExactBoundaryMatrix", unfollowed := true, recurses := true, apart := false, narrowed := true }
def FnExactBoundaryMatrixUptoSaid : Prop := fnExactBoundaryMatrixUptoRow.holds Try.pinned (OpenSpec.upto fnExactBoundaryMatrixSpec)

/-- 'laws.FnExactIsCycle', WHERE WHAT IT READS IS OF BULK AT MOST 1048576: true; the input reads as it did. -/
def fnExactIsCycleUptoRow : OpenClaim := { program := "ytipkciildhghiaa", sum := "24ce31ea0147c8bb5d71126d3f224dc2e7bcd2baf6370164eeb5bb024d17950e", func := "loop.example/g01005/laws.FnExactIsCycle", spec := "fnExactIsCycle", unfollowed := true, recurses := true, apart := false, narrowed := true }
def FnExactIsCycleUptoSaid : Prop := fnExactIsCycleUptoRow.holds Try.pinned (OpenSpec.upto fnExactIsCycleSpec)

/-- 'laws.FnExactBoundaryOf', WHERE WHAT IT READS IS OF BULK AT MOST 1048576: true; the input reads as it did. -/
def fnExactBoundaryOfUptoRow : OpenClaim := { program := "ytipkciildhghiaa", sum := "24ce31ea0147c8bb5d71126d3f224dc2e7bcd2baf6370164eeb5bb024d17950e", func := "loop.example/g01005/laws.FnExactBoundaryOf", spec := "fnExactBoundaryOf", unfollowed := true, recurses := true, apart := false, narrowed := true }
def FnExactBoundaryOfUptoSaid : Prop := fnExactBoundaryOfUptoRow.holds Try.pinned (OpenSpec.upto fnExactBoundaryOfSpec)

/-- 'laws.FnExactCycleBasis', WHERE WHAT IT READS IS OF BULK AT MOST 1048576: true; the input reads as it did. -/
def fnExactCycleBasisUptoRow : OpenClaim := { program := "ytipkciildhghiaa", sum := "24ce31ea0147c8bb5d71126d3f224dc2e7bcd2baf6370164eeb5bb024d17950e", func := "loop.example/g01005/laws.FnExactCycleBasis", spec := "fnExactCycleBasis", unfollowed := true, recurses := true, apart := false, narrowed := true }
def FnExactCycleBasisUptoSaid : Prop := fnExactCycleBasisUptoRow.holds Try.pinned (OpenSpec.upto fnExactCycleBasisSpec)

/-- 'laws.FnExactIsBoundary', WHERE WHAT IT READS IS OF BULK AT MOST 1048576: true; the input reads as it did. -/
def fnExactIsBoundaryUptoRow : OpenClaim := { program := "ytipkciildhghiaa", sum := "24ce31ea0147c8bb5d71126d3f224dc2e7bcd2baf6370164eeb5bb024d17950e", func := "loop.example/g01005/laws.FnExactIsBoundary", spec := "fnExactIsBoundary", unfollowed := true, recurses := true, apart := false, narrowed := true }
def FnExactIsBoundaryUptoSaid : Prop := fnExactIsBoundaryUptoRow.holds Try.pinned (OpenSpec.upto fnExactIsBoundarySpec)

/-- 'laws.FnExactFillingOf', WHERE WHAT IT READS IS OF BULK AT MOST 1048576: true; the input reads as it did. -/
def fnExactFillingOfUptoRow : OpenClaim := { program := "ytipkciildhghiaa", sum := "24ce31ea0147c8bb5d71126d3f224dc2e7bcd2baf6370164eeb5bb024d17950e", func := "loop.example/g01005/laws.FnExactFillingOf", spec := "fnExactFillingOf", unfollowed := true, recurses := true, apart := false, narrowed := true }
def FnExactFillingOfUptoSaid : Prop := fnExactFillingOfUptoRow.holds Try.pinned (OpenSpec.upto fnExactFillingOfSpec)

end Rows
end Go.Proofs.Ytipkciildhghiaa
