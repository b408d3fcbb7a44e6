/- Printed proofs of functions of the program and of the reference, by a program of this work over the kit's printer. -/
import Derived.Test.YtnohkeijhfjbeaaKGPBBGI0
import Derived.Test.YtnohkeijhfjbeaaKW0
/- More words of this work's own for the printed proofs. -/
namespace Go.Proofs.YtnohkeijhfjbeaaW.PrintWords.Kd
open Go.RowKit
section
variable {α : Type} {d : Kd α} {e base n B g t : Nat} {ok : Nat → Prop} {W w1 : World} {u v : Value} {xs : List α}
theorem S_typesT (h : S d e W base ok v xs) {t : Nat} {v' : Value} (hb : ∀ k, v'.ownBlock = some k → ∃ cells, W.heap[k]? = some (.cells cells t (0, 0))) (hv : v'.ownBlock = some g) (ht : ∀ q, q ∈ e :: d.E → q ≠ t) : S d e W base (fun k => ok k ∧ k ≠ g) v xs := by
  obtain ⟨_, h'⟩ := hb g hv; exact S_types h h' ht
theorem R_typesT (h : d.R e W base ok v xs) {t : Nat} {v' : Value} (hb : ∀ k, v'.ownBlock = some k → ∃ cells, W.heap[k]? = some (.cells cells t (0, 0))) (hv : v'.ownBlock = some g) (ht : ∀ q, q ∈ e :: d.E → q ≠ t) : d.R e W base (fun k => ok k ∧ k ≠ g) v xs := by
  obtain ⟨_, h'⟩ := hb g hv; exact R_types h h' ht
end
end Go.Proofs.YtnohkeijhfjbeaaW.PrintWords.Kd
