/- Printed proofs of functions of the program and of the reference, by a program of this work over the kit's printer. -/
import Derived.Test.YtipkciildhghiaaKHGNPLP0
import Derived.Test.YtipkciildhghiaaKW0
/- A matrix's row, handed back as a part of the matrix's own cells: walked by hand. -/
set_option linter.unusedVariables false
set_option linter.unusedSimpArgs false
namespace Go.Proofs.Ytipkciildhghiaa.B
open Go.RowKit Go.Proofs.YtipkciildhghiaaW.PrintWords Go.Proofs.YtipkciildhghiaaW.PrintLast Go.Proofs.YtipkciildhghiaaW.PrintMore
def impl_Matrix_row.f (a0_0 : Int) (a0_1 : Int) (a0_2 : Int) (l0_3 : List Int) (a1 : Int) : Option (List Int) :=
  if (0 ≤ wrap64 (a1 * a0_2) ∧ wrap64 (a1 * a0_2) ≤ wrap64 (wrap64 (a1 + 1) * a0_2)) ∧ wrap64 (wrap64 (a1 + 1) * a0_2) ≤ (l0_3.length : Int) then some ((l0_3.take (wrap64 (wrap64 (a1 + 1) * a0_2)).toNat).drop (wrap64 (a1 * a0_2)).toNat) else none
set_option maxHeartbeats 4000000 in
theorem impl_Matrix_row.calls (a0_0 : Int) (a0_1 : Int) (a0_2 : Int) (P0_3_ : Nat → Prop) (A0_3 : Option Addr) (c0_3 : Nat) (l0_3 : List Int) (a1 : Int) (r : List Int) (w : World) (hs0_3 : Kd.V (Kd.int .i64) 2 w w.heap.size (fun k_ => P0_3_ k_) (.slice A0_3 l0_3.length c0_3) l0_3) (h : impl_Matrix_row.f a0_0 a0_1 a0_2 l0_3 a1 = some r) :
    Calls Try.prog 145 #[.agg #[.int .i64 a0_0, .int .i64 a0_1, .int .i64 a0_2, .slice A0_3 l0_3.length c0_3], .int .i64 a1] w fun e w' => ∃ v0_ : Value, e = .returned (v0_) ∧ Kd.V (Kd.int .i64) 2 w' w.heap.size (fun k_ => (P0_3_ k_ ∨ w.heap.size ≤ k_)) v0_ r ∧ Below w.heap.size w w' := by
  unfold impl_Matrix_row.f at h
  obtain ⟨⟨h0, h1⟩, h2⟩ := O1_ h
  obtain rfl := Option.some.inj (O2_ h)
  clear h
  obtain ⟨_, hc, hF⟩ := Kd.V_at hs0_3
  have hu59 := Try.underlying48
  generalize hlo : wrap64 (a1 * a0_2) = lo at h0 h1 ⊢
  generalize hhi : wrap64 (wrap64 (a1 + 1) * a0_2) = hi at h1 h2 ⊢
  have hlow : IntKind.i64.wrap (a1 * a0_2) = lo := (qA6 _).trans hlo
  have hhiw : IntKind.i64.wrap (wrap64 (a1 + 1) * a0_2) = hi := (qA6 _).trans hhi
  have HF := Zz.mk hF
  have HB := Zz.mk (Below.refl w.heap.size w)
  obtain ⟨i0, hi0, _, hsz0, _⟩ := info_parts qBj
  obtain ⟨A', hcut, hA', hC'⟩ := qDa (P := Try.prog) (Value.int .i64) 0 26 2 .i64 .i64 Try.underlying26 hi0 hsz0 A0_3 c0_3 l0_3 lo hi h0 h1 h2 hc
  have HV := Zz.mk (Kd.V_mk (d := Kd.int .i64) (e := 2) (W := w) (base := w.heap.size) hC' (Kd.F_imp hF (fun W hC => Kd.C_of_reads (h1 := fun _ => rfl) (hA' _ (Kd.reads_of_C hC)))))
  clear hs0_3 hF hA' hC' hi0 hsz0 HF
  have d0 := decide_eq_true h0
  have d1 := decide_eq_true h1
  go_enter Try.func145, Try.ntmps145
  go_wp2_with (first | ((with_reducible refine qAb (N := 2) rfl ?_); refine qAc ?hg (N := 2) ?hd (cs := #[.int .i64 a0_0, .int .i64 a0_1, .int .i64 a0_2, .slice A0_3 l0_3.length c0_3]) (t := 48) ?hr ?_; (case hd => rfl); (case hg => rfl); (case hr => first | (go_simp; done) | (go_simp; rfl)); intro gb101 hg w7 hbox hb; have n0_ := Zz.mk (bT_ (B_ HB.out) hb); have n1_ := Zz.mk (hbox); have HV2 := Zz.mk (Kd.V_below HV.out hb); clear HV; clear HB; have HB := n0_; have BK101 := n1_; clear n0_ n1_; clear hb hbox hg; obtain ⟨hcz8_0, hcz8_1, hcz8_2, hcz8_3⟩ := Z4_ BK101.out))
  go_ret
  have hlen : ((l0_3.take hi.toNat).drop lo.toNat).length = hi.toNat - lo.toNat := by
    rw [List.length_drop, List.length_take]; omega
  have hv := HV2.out
  rw [hlen] at hv
  exact ⟨_, rfl, Kd.V_mono hv (fun _ hk => .inl hk), HB.out⟩
end Go.Proofs.Ytipkciildhghiaa.B
