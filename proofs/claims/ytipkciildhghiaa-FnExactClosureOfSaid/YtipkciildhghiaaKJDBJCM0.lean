/- Printed proofs of functions of the program and of the reference, by a program of this work over the kit's printer. -/
import Derived.Test.YtipkciildhghiaaKHCHFOP0
import Derived.Test.YtipkciildhghiaaKIMPFPI0
import Derived.Test.YtipkciildhghiaaKLABEGG0
import Derived.Test.YtipkciildhghiaaKW0
/- impl.inOrder: copied, sorted, nothing twice: what it returns (for this claim, by hand). -/
set_option linter.unusedVariables false
set_option linter.unusedSimpArgs false
namespace Go.Proofs.Ytipkciildhghiaa.B
open Go.RowKit Go.Proofs.YtipkciildhghiaaW.PrintWords Go.Proofs.YtipkciildhghiaaW.PrintLast Go.Proofs.YtipkciildhghiaaW.PrintMore
open Go.Sort (SWO grow)
open SimT
theorem lt_scmp (x y : List Int) : ltOf scmp x y = slt x y := by
  unfold ltOf
  rw [Bool.eq_iff_iff, decide_eq_true_eq]
  exact scmp_neg x y
theorem swo_scmp : SWO (ltOf scmp) where
  irrefl x := by rw [lt_scmp]; exact slt_irrefl x
  trans x y z h1 h2 := by rw [lt_scmp] at *; exact slt_trans h1 h2
  ntrans x y z h1 h2 := by
    rw [lt_scmp] at *
    cases h : slt x z with
    | false => rfl
    | true =>
      rcases slt_tri x y with h3 | h3 | h3
      · rw [h3] at h1; cases h1
      · subst h3; rw [h] at h2; cases h2
      have := slt_trans h3 h
      rw [this] at h2; cases h2
theorem tot_scmp (x y : List Int) (h1 : ltOf scmp x y = false) (h2 : ltOf scmp y x = false) : x = y := by
  rw [lt_scmp] at *
  rcases slt_tri x y with h3 | h3 | h3
  · rw [h3] at h1; cases h1
  · exact h3
  rw [h3] at h2; cases h2
def sortS (l : List (List Int)) : List (List Int) := l.mergeSort fun x y => !(slt y x)
theorem sortS_eq (l : List (List Int)) : (l.mergeSort fun x y => !(ltOf scmp) y x) = sortS l := by
  unfold sortS
  have : (fun x y : List Int => !(ltOf scmp) y x) = fun x y => !(slt y x) := by funext x y; rw [lt_scmp]
  rw [this]
theorem sort_simplices (u : Value) (l0 : List (List Int)) (w0 w : World) (hB : Below w0.heap.size w0 w) (ho0 : Kd.S (Kd.slice 2 (Kd.int .i64)) 26 w w0.heap.size (fun _ => True) u l0) (hs : l0.length ≤ 1048576) (hl : ∀ x ∈ l0, x.length ≤ 1048576) :
    Calls Try.prog 114 #[u, .func (.func 109) #[] #[]] w fun e w' => e = .returned (.tuple #[]) ∧ Kd.S (Kd.slice 2 (Kd.int .i64)) 26 w' w0.heap.size (fun _ => True) u (sortS l0) ∧ Below w0.heap.size w0 w' ∧ Kept w w' (fun _ => True) := by
  have eg : ∀ args w, (callFunc 109 args).run Try.prog w = .ok (.enter 109 args) w := enters_of Try.func109 (by kernel_rfl) rfl
  have h := sort_rows sortL 2 26 scmp 109 swo_scmp tot_scmp eg (fun W A A' c c' x y hC hc hC' hc' hx hy => by
    obtain ⟨K, hK⟩ := (compareS_ev x y (by omega) (by omega)).rounds
    exact (compareSimplices_grows K A c x A' c' y _ W hC hc hC' hc' hK).mono (fun _ _ h => ⟨h.1, h.2.out⟩)) (fun _ => True) u l0 w0 w hB ho0 (by omega) (fun x hx => by have := hl x hx; omega)
  rw [sortS_eq] at h
  exact h
def impl_inOrder.f (l0 : List (List Int)) : Option (List (List Int)) := if decide (l0.length ≤ 1048576) && l0.all (fun x => decide (x.length ≤ 1048576)) then some (dedup (sortS l0)) else none
set_option maxHeartbeats 4000000 in
set_option maxRecDepth 1000000 in
theorem impl_inOrder.calls (A0 : Option Addr) (c0 : Nat) (l0 : List (List Int)) (r : List (List Int)) (w : World) (hr0 : Kd.C (Kd.slice 2 (Kd.int .i64)) w A0 l0.length l0) (hc0 : l0.length ≤ c0) (h : impl_inOrder.f l0 = some r) :
    Calls Try.prog 64 #[.slice A0 l0.length c0] w fun e w' => ∃ v0_ : Value, e = .returned (.agg #[v0_]) ∧ Kd.S (Kd.slice 2 (Kd.int .i64)) 26 w' w.heap.size (fun _ => True) v0_ r ∧ Below w.heap.size w w' := by
  have hu29 := Try.underlying29
  unfold impl_inOrder.f at h
  obtain ⟨hcond, rfl⟩ : (decide (l0.length ≤ 1048576) && l0.all (fun x => decide (x.length ≤ 1048576))) = true ∧ dedup (sortS l0) = r := by
    split at h
    · rename_i hc
      injection h with h
      exact ⟨hc, h⟩
    cases h
  simp only [Bool.and_eq_true, decide_eq_true_eq, List.all_eq_true] at hcond
  obtain ⟨hsz, hrow⟩ := hcond
  have hperm : (sortS l0).Perm l0 := List.mergeSort_perm _ _
  have hlen : (sortS l0).length = l0.length := hperm.length_eq
  have hsrow : ∀ x ∈ sortS l0, x.length ≤ 1048576 := fun x hx => hrow x (hperm.mem_iff.1 hx)
  obtain ⟨K, hK⟩ := (copyListsC_ev l0 hsz hrow).rounds
  have HR0 := Zz.mk hr0
  have HC0 := Zz.mk hc0
  have HK := Zz.mk hK
  have HX := Zz.mk (And.intro hsz (And.intro hrow (And.intro trivial (And.intro hlen hsrow))))
  clear hr0 hc0 hK h hsz hrow hlen hsrow hperm
  have HB := Zz.mk (Below.refl w.heap.size w)
  go_enter Try.func64, Try.ntmps64
  go_wp2_with (first
    | ((with_reducible refine gate_dst (N := 2) rfl ?_); refine bx_ 2 #[.slice none 0 0] 29 ?_; intro gb hgb w3 hbox hb; have HB3 := Zz.mk (bT_ (B_ HB.out) hb); have BK3 := Zz.mk hbox; have GB3 := Zz.mk ((by rw [hgb]; exact (bS_ (B_ HB.out)) : w.heap.size ≤ gb)); clear hbox hb hgb))
  go_at_call 85
  refine (z85.calls K _ _ l0 l0 _ ?s1 HC0.out HK.out).mono ?_
  case s1 => exact Kd.C_below HR0.out (B_ HB3.out)
  rintro e w4 ⟨v4, rfl, hS4, hb4⟩
  have HS4 := Zz.mk hS4
  have HB4 := Zz.mk hb4
  clear hS4 hb4
  obtain ⟨A4, c4, e4⟩ := Kd.S_slice HS4.out
  subst e4
  go_wp2_with fail
  go_at_call 114
  refine (sort_simplices _ l0 w3 _ ?s1 ?s2 HX.out.1 HX.out.2.1).mono ?_
  case s1 => exact B_ HB4.out
  case s2 => refine SW_ ?_; exact HS4.out
  rintro e w5 ⟨rfl, hS5, hb5, _⟩
  rw [← HX.out.2.2.2.1] at hS5 ⊢
  have HS5 := Zz.mk hS5
  have HB5 := Zz.mk hb5
  have BK5 := Zz.mk ((hb5.block gb (Array.getElem?_eq_some_iff.1 BK3.out).1).trans BK3.out)
  clear hS5 hb5 HS4 HB4
  go_wp2_with fail
  go_at_call 115
  refine (compact_rows (fun _ => True) _ A4 c4 (sortS l0) w3 _ ?s0 rfl ?s1 (by rw [HX.out.2.2.2.1]; exact HX.out.1) HX.out.2.2.2.2).mono ?_
  case s0 => exact B_ HB5.out
  case s1 => refine SW_ ?_; exact HS5.out
  rintro e w6 ⟨v6, rfl, hS6, hb6, hk6⟩
  have hne := Kd.S_ne HS5.out BK5.out (by decide)
  have hlt5 : gb < w5.heap.size := (Array.getElem?_eq_some_iff.1 BK5.out).1
  have BK6 := Zz.mk ((hk6.2 gb hlt5 (fun h => hne h.symm)).trans BK5.out)
  have HS6 := Zz.mk hS6
  have HB6 := Zz.mk hb6
  clear hS6 hb6 hk6 hne hlt5
  obtain ⟨A6, c6, e6⟩ := Kd.S_slice HS6.out
  subst e6
  have hcell : w6.cell? ⟨gb, 0, none⟩ = some (.slice none 0 0) := (bC_ BK6.out 0).trans rfl
  have hfroz : w6.frozen? ⟨gb, 0, none⟩ = false := bF_ BK6.out 0
  go_wp2_with fail
  refine bodyPost_ret (results_cell_row rfl _ _ gb 29 #[.slice A6 (dedup (sortS l0)).length c6] (0, 0) _ rfl (by refine BW_ ?_; refine bP_ (cs := #[.slice none 0 0]) ?_ 0 _ rfl; refine BW_ ?_; exact BK6.out) Try.underlying29 rfl (by kernel_rfl)) rfl ?_
  refine ⟨_, F_, ?_, ?_⟩
  · refine SW_ ?_
    exact Kd.S_lower (Kd.S_mono (Kd.S_far (p := ⟨gb, 0, none⟩) (Kd.S_types HS6.out BK6.out (by decide)) (fun _ hk => hk.2) _) (fun _ _ => trivial)) HB3.out.size
  refine below_set ?_ GB3.out
  exact B_ (bT_ HB3.out HB6.out)
end Go.Proofs.Ytipkciildhghiaa.B
