/- The law FnExactQuotientOf: for every input it returns true, and its arguments read as before. No condition. -/
import Derived.Test.YtkgajpngeglkmaaRows
import Derived.Test.YtkgajpngeglkmaaKEFECCD0
import Derived.Test.YtkgajpngeglkmaaPXQuotientOf0
import Derived.Test.YtkgajpngeglkmaaKW0
set_option linter.unusedVariables false
set_option linter.unusedSimpArgs false
namespace Go.Proofs.Ytkgajpngeglkmaa.fnExactQuotientOf
open Go.ChangeShapes Go.WideShapes Go.ChangeAt Go.RowKit Go.Deep Go.Joins Go.Proofs.Ytkgajpngeglkmaa.B Go.Proofs.YtkgajpngeglkmaaW.PrintWords
open Go.ChangeMaps (open_string shut_string)
set_option maxRecDepth 100000 in
theorem lifted (os : Os) (started : os.Started) (H : Type) (enc : TypeId × Value → H) :
    ReturnsInHanded {} Try.checked os 3 .any (Rows.fnExactQuotientOfSpec.pre6 enc Try.prog Try.f3 Rows.fnExactQuotientOfRow.domain false) (Rows.fnExactQuotientOfSpec.post enc Try.prog Try.f3 false true false false) := by
  refine returnsInHanded_of_change_sized (C := Try.checked) own started (by kernel_rfl) Try.func3
    (ChangeSpec.witness6 (enc := enc) (C := Try.checked) false ⟨#[], #[.agg #[.int .i64 0, .int .i64 0, .slice none 0 0], .agg #[.int .i64 0, .int .i64 0, .slice none 0 0]], []⟩ 8 (by kernel_rfl) (by kernel_rfl) (by kernel_rfl) (by kernel_rfl)) ?_
  intro W base args ds gs before hval0 hW hcnd hsz0 _
  have hsz : (DataW.weightsEach Try.prog (Try.f3.params.toList ++ Rows.fnExactQuotientOfSpec.plain.varTypes Try.prog) (ds ++ gs)).all (· ≤ reachBytes) = true := hsz0
  have hval : ∀ (j : Nat) t v, Try.f3.params[j]? = some t → args[j]? = some v → Value.okWide Try.prog W .any base t v := hval0
  have hW' := hW
  obtain ⟨p, q, hA0, hV, rfl, hfz, hnd⟩ := hW
  have hA : DataW.TrodAll enc Try.prog W 0 (fun _ => true) true Try.f3.params.toList args.toList ds p := hA0
  rw [Try.params3] at hA hval hsz
  obtain ⟨v0, vs0, d0, ds0, p0, q0, hargs, rfl, rfl, h0, r0⟩ := trodAll_cons hA
  obtain ⟨v1, vs1, d1, ds1, p1, q1, rfl, rfl, rfl, h1, r1⟩ := trodAll_cons r0
  obtain ⟨rfl, rfl, rfl⟩ := trodAll_nil r1
  obtain rfl : args = #[v0, v1] := by cases args; simp_all
  obtain ⟨rfl, rfl⟩ := trodVars_none hV
  have k0 := h0
  have lt0 : ∀ x ∈ p0, x.block < W.heap.size := by obtain ⟨m, hm⟩ := k0; exact DataW.trod_lt m _ _ _ hm
  obtain ⟨v0_0, v0_1, v0_2, y0_0, y0_1, y0_2, n0, rfl, rfl, rfl, h0_0, h0_1, h0_2⟩ := open_agg3 Try.underlying24 (by kernel_rfl) (by kernel_rfl) (hval 0 24 v0 rfl rfl) h0
  obtain ⟨a0_0, rfl, wa0_0⟩ := qCx Try.underlying2 h0_0
  obtain ⟨a0_1, rfl, wa0_1⟩ := qCx Try.underlying2 h0_1
  obtain ⟨Al0_2, l0_2, cl0_2, rfl, hrl0_2, hcl0_2, wl0_2⟩ := qEi Try.underlying22 Try.underlying40 Try.underlying2 (by kernel_rfl) (by kernel_rfl) h0_2
  have k1 := h1
  have lt1 : ∀ x ∈ p1, x.block < W.heap.size := by obtain ⟨m, hm⟩ := k1; exact DataW.trod_lt m _ _ _ hm
  obtain ⟨v1_0, v1_1, v1_2, y1_0, y1_1, y1_2, n1, rfl, rfl, rfl, h1_0, h1_1, h1_2⟩ := open_agg3 Try.underlying24 (by kernel_rfl) (by kernel_rfl) (hval 1 24 v1 rfl rfl) h1
  obtain ⟨a1_0, rfl, wa1_0⟩ := qCx Try.underlying2 h1_0
  obtain ⟨a1_1, rfl, wa1_1⟩ := qCx Try.underlying2 h1_1
  obtain ⟨Al1_2, l1_2, cl1_2, rfl, hrl1_2, hcl1_2, wl1_2⟩ := qEi Try.underlying22 Try.underlying40 Try.underlying2 (by kernel_rfl) (by kernel_rfl) h1_2
  clear hA0 hval0 hsz0 hsz
  obtain ⟨k, hk⟩ := qEg wa0_0 wa0_1 wl0_2 wa1_0 wa1_1 wl1_2
  refine (z3.calls k _ _ _ _ _ _ _ _ _ _ _ W hrl0_2 hcl0_2 hrl1_2 hcl1_2 hk rfl).mono fun e W' ⟨he, bel⟩ => ?_
  subst he
  exact ⟨_, rfl, _, _, _, [], _, [], hW', trodAll_mk1 (shut_bool Try.underlying4 _), (trodAll_cons_mk (Below.trod qIz (by kernel_rfl) (of_decide_eq_true (by kernel_rfl)) k0 bel lt0) (trodAll_cons_mk (Below.trod qIz (by kernel_rfl) (of_decide_eq_true (by kernel_rfl)) k1 bel lt1) trodAll_mk0)), rfl, bel.frame _, fun h => by cases h⟩
theorem over : Rows.fnExactQuotientOfRow.holds Try.pinned (OpenSpec.ofChange Rows.fnExactQuotientOfSpec) :=
  OpenClaim.holds_of_wide 3 Try.f3 rfl rfl rfl rfl rfl rfl rfl ⟨rfl, rfl, rfl, rfl, rfl⟩ rfl rfl rfl rfl rfl (by kernel_rfl) Try.func3 (by kernel_rfl)
    (of_decide_eq_true (by kernel_rfl)) (by unfold Func.isWrapper; first | (rw [if_pos (by decide +kernel)]; kernel_rfl) | (rw [if_neg (by decide +kernel)]; exact ⟨rfl, rfl⟩))
    (fun os started H enc _ => lifted os started H enc)
end Go.Proofs.Ytkgajpngeglkmaa.fnExactQuotientOf
namespace Go.Proofs.Ytkgajpngeglkmaa
/-- The row. -/
theorem fnExactQuotientOf_holds : Rows.FnExactQuotientOfSaid := fnExactQuotientOf.over
end Go.Proofs.Ytkgajpngeglkmaa
