/- Printed proofs of functions of the program and of the reference, by a program of this work over the kit's printer. -/
import Derived.Test.YtipkciildhghiaaKIMPFPI0
import Derived.Test.YtipkciildhghiaaKKADJPN0
import Derived.Test.YtipkciildhghiaaKW0
/- spec.l05Put, as the printed proofs call it (for this claim, by hand). -/
set_option linter.unusedVariables false
set_option linter.unusedSimpArgs false
namespace Go.Proofs.Ytipkciildhghiaa.B
open Go.RowKit Go.Proofs.YtipkciildhghiaaW.PrintWords Go.Proofs.YtipkciildhghiaaW.PrintLast Go.Proofs.YtipkciildhghiaaW.PrintMore
open SimT
def spec_l05Put.f (C : List (List Int)) (s : List Int) : Option (List (List Int)) := if (decide (1 ≤ s.length) && decide (s.length ≤ 9)) && (decide (C.length + cntN s.length ≤ 1048576) && C.all (fun x => decide (x.length ≤ 1048576))) then some (putN s.length C s) else none
theorem spec_l05Put.calls (g : Nat) (v : Value) (C : List (List Int)) (A : Option Addr) (c : Nat) (s : List Int) (r : List (List Int)) (w0 w : World) (P : Nat → Prop) (hg : w.heap[g]? = some (.cells #[v] 29 (0, 0))) (hle : w0.heap.size ≤ g) (hS : Kd.S (Kd.slice 2 (Kd.int .i64)) 26 w w0.heap.size P v C) (hB : Below w0.heap.size w0 w) (hF : Kd.F (Kd.int .i64) w (fun k => k ≠ g) A s.length s) (hc : s.length ≤ c) (h : spec_l05Put.f C s = some r) :
    Calls Try.prog 68 #[.pointer (some ⟨g, 0, none⟩), .slice A s.length c] w fun e w' => e = .returned (.tuple #[]) ∧ ∃ v', w'.heap[g]? = some (.cells #[v'] 29 (0, 0)) ∧ Kd.S (Kd.slice 2 (Kd.int .i64)) 26 w' w0.heap.size (fun k => (P k ∧ k ≠ g) ∨ w.heap.size ≤ k) v' r ∧ Below w0.heap.size w0 w' ∧ Kept w w' (fun k => k = g) := by
  unfold spec_l05Put.f at h
  obtain ⟨hcond, rfl⟩ : ((decide (1 ≤ s.length) && decide (s.length ≤ 9)) && (decide (C.length + cntN s.length ≤ 1048576) && C.all (fun x => decide (x.length ≤ 1048576)))) = true ∧ putN s.length C s = r := by
    split at h
    · rename_i hc
      injection h with h
      exact ⟨hc, h⟩
    cases h
  simp only [Bool.and_eq_true, decide_eq_true_eq, List.all_eq_true] at hcond
  obtain ⟨⟨h1, h9⟩, hl, hr⟩ := hcond
  obtain ⟨n, hn⟩ : ∃ n, s.length = n + 1 := ⟨s.length - 1, by omega⟩
  have hgl : g < w.heap.size := (Array.getElem?_eq_some_iff.1 hg).1
  have hst : StC w0 w g (fun k => (P k ∧ k ≠ g) ∨ w.heap.size ≤ k) C := ⟨hle, ⟨v, hg, Kd.S_mono (Kd.S_types hS hg (by decide)) (fun _ hk => .inl hk)⟩, hB⟩
  refine (put_calls n (by omega) s C A c g _ w0 w (fun k hk => hk.elim (fun h => h.2) (fun h => by omega)) (fun k hk => .inr hk) hn (by rw [← hn]; exact hl) hr hst hF hc).mono (fun e w' h => ⟨h.1, ?_⟩)
  obtain ⟨v', h2, h3⟩ := h.2.1.out
  rw [← hn] at h3
  exact ⟨v', h2, h3, h.2.1.hb, h.2.2⟩
section
variable {α : Type} {d : Kd α} {e base g t : Nat} {ok : Nat → Prop} {w w1 : World} {u : Value} {xs : List α} {cells : Array Value}
theorem R_kp (h : d.R e w base ok u xs) (hb : w.heap[g]? = some (.cells cells t (0, 0))) (hk : Kept w w1 (fun k => k = g)) (ht : ∀ q, q ∈ e :: d.E → q ≠ t := by decide) : d.R e w1 base ok u xs :=
  Kd.R_mono (Kd.R_step (Kd.R_types h hb ht) (fun k hk' hlt => hk.2 k hlt hk'.2)) (fun _ hk => hk.1)
theorem S_kp (h : Kd.S d e w base ok u xs) (hb : w.heap[g]? = some (.cells cells t (0, 0))) (hk : Kept w w1 (fun k => k = g)) (ht : ∀ q, q ∈ e :: d.E → q ≠ t := by decide) : Kd.S d e w1 base ok u xs := by
  have h' := Kd.S_types h hb ht
  obtain ⟨f, hR⟩ := h'
  exact Kd.S_mono (show Kd.S d e w1 base _ u xs from ⟨f, Kd.R_step hR (fun k hk' hlt => hk.2 k hlt hk'.2)⟩) (fun _ hk => hk.1)
theorem blk_kp {g' : Nat} {o : Obj} (h : w.heap[g']? = some o) (hne : g' ≠ g) (hk : Kept w w1 (fun k => k = g)) : w1.heap[g']? = some o := by
  have hlt : g' < w.heap.size := (Array.getElem?_eq_some_iff.1 h).1
  rw [hk.2 g' hlt hne]; exact h
theorem F_own {c : Nat} {A : Option Addr} {s : List Int} (h : Kd.R (Kd.int .i64) e w base ok (.slice A s.length c) s) (hb : w.heap[g]? = some (.cells cells t (0, 0))) (ht : ∀ q, q ∈ [e] → q ≠ t := by decide) : Kd.F (Kd.int .i64) w (fun k => k ≠ g) A s.length s :=
  Kd.R_F (Kd.R_mono (Kd.R_types h hb ht) (fun _ hk => hk.2))
end
end Go.Proofs.Ytipkciildhghiaa.B
