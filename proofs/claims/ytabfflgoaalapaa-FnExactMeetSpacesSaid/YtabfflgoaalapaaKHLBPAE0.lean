/- Printed proofs of functions of the program and of the reference, by a program of this work over the kit's printer. -/
import Derived.Test.YtabfflgoaalapaaKCAMCIB0
import Derived.Test.YtabfflgoaalapaaKEGJFJO0
import Derived.Test.YtabfflgoaalapaaKENHNJJ0
import Derived.Test.YtabfflgoaalapaaKW0
import Derived.Lib.SliceRun
set_option maxHeartbeats 8000000
set_option maxRecDepth 100000
/- slices.Grow (of nil) of rows: walked by hand. -/
set_option linter.unusedVariables false
set_option linter.unusedSimpArgs false
namespace Go.Proofs.Ytabfflgoaalapaa.B
open Go.RowKit Go.Proofs.YtabfflgoaalapaaW.PrintWords Go.Proofs.YtabfflgoaalapaaW.PrintLast Go.Proofs.YtabfflgoaalapaaW.PrintMore
def slices_Grow_int64_int64_L.f (l0 : List (List Int)) (a1 : Int) : Option (List (List Int)) := if (l0 = [] ∧ 0 ≤ a1) ∧ a1 ≤ 5864062014805 then some [] else none
theorem slices_Grow_int64_int64_L.calls (A0 : Option Addr) (c0 : Nat) (l0 : List (List Int)) (a1 : Int) (r : List (List Int)) (w : World) (hr0 : Kd.C (Kd.slice 2 (Kd.int .i64)) w A0 l0.length l0) (hc0 : l0.length ≤ c0) (h : slices_Grow_int64_int64_L.f l0 a1 = some r) (hA : A0 = none := by rfl) (hC : c0 = 0 := by rfl) :
    Calls Try.prog 145 #[.slice A0 l0.length c0, .int .i64 a1] w fun e w' => ∃ v0_ : Value, e = .returned (v0_) ∧ Kd.S (Kd.slice 2 (Kd.int .i64)) 25 w' w.heap.size (fun _ => True) v0_ r ∧ Below w.heap.size w w' := by
  unfold slices_Grow_int64_int64_L.f at h
  have hc := O1_ h
  obtain rfl := Option.some.inj (O2_ h)
  obtain ⟨⟨rfl, h0⟩, hm⟩ := hc
  subst hA; subst hC
  clear h hr0 hc0
  have hw3 : wrap64 a1 = a1 := by unfold wrap64; omega
  have d0 : decide (a1 < 0) = false := decide_eq_false (by omega)
  by_cases hz : a1 = 0
  · subst hz
    clear hw3
    go_enter Try.func145, Try.ntmps145
    go_wp2
    go_ret
    exact ⟨_, rfl, Kd.S_nil _ _ _ _ _, Below.refl _ _⟩
  have d1 : decide (0 < wrap64 a1) = true := decide_eq_true (by omega)
  have HM := Zz.mk (show wrap64 a1 ≤ 5864062014805 by omega)
  have H0 := Zz.mk (show 0 ≤ wrap64 a1 by omega)
  clear hz hm h0 hw3
  go_enter Try.func145, Try.ntmps145
  go_wp2_with ((with_reducible refine qA0 (b := .append) (xs := #[.tmp 20, .tmp 21]) rfl ?_); at_builtin; refine Kd.S_append_zeros (Kd.slice 2 (Kd.int .i64)) (w0 := w) w.heap.size rfl (.tmp 20) (.tmp 21) 22 3 25 (.slice none 0 0) 24 rfl Try.underlying22 Try.underlying3 qB6 rfl (by decide) (by omega) (.slice none 0 0) ([] : List (List Int)) [] (wrap64 a1) (fun _ => True) rfl rfl ⟨_, rfl, Kd.R_nil _ _ _ _ _⟩ (fun _ _ => trivial) (Kd.S_nil _ _ _ _ _) H0.out (Below.refl _ _) (Nat.le_refl _) (by have := HM.out; have := H0.out; simp only [List.length_nil]; omega) ?_; intro v1 w1 ho hb hg hat; obtain ⟨A1, cc, rfl⟩ := Kd.S_slice ho; have HO := Zz.mk (Kd.S_take ho (Nat.zero_le _)); have HB := Zz.mk hb; clear ho hb hg hat)
  go_ret
  exact ⟨_, rfl, by simpa using HO.out, HB.out⟩
end Go.Proofs.Ytabfflgoaalapaa.B
namespace Go.Proofs.Ytabfflgoaalapaa.B
open Go.RowKit Go.Proofs.YtabfflgoaalapaaW.PrintWords Go.Proofs.YtabfflgoaalapaaW.PrintLast Go.Proofs.YtabfflgoaalapaaW.PrintMore
attribute [local go_sem] qAo qAm qAq qAp qAk qAj qAn qAl
set_option linter.unusedVariables false
set_option linter.unusedSimpArgs false
mutual
def z110.l0 : Nat → List (List (List Int)) → Int → List (List (List Int)) → Int → Int → Option ((List (List Int)))
 | 0, _, _, _, _, _ => none
 | k + 1, x0, x3, x9, x10, x11 => if x11 < x10 then (if 0 ≤ x11 then (if x11 < (x9.length : Int) then (if (wrap64 (x3 + ((qA3 x9 x11).length : Int))) < 0 then (none) else (z110.l0 k x0 (wrap64 (x3 + ((qA3 x9 x11).length : Int))) x9 x10 (wrap64 (x11 + 1)))) else (none)) else (none)) else ((slices_Grow_int64_int64_L.f ([] : List (List Int)) x3).bind fun t102 => (z110.l1 k t102 x0 (x0.length : Int) 0))
def z110.l1 : Nat → List (List Int) → List (List (List Int)) → Int → Int → Option ((List (List Int)))
 | 0, _, _, _, _ => none
 | k + 1, x6, x25, x26, x27 => if x27 < x26 then (if 0 ≤ x27 then (if x27 < (x25.length : Int) then (if x6.length + (qA3 x25 x27).length < 5864062014805 then (z110.l1 k (x6 ++ (qA3 x25 x27)) x25 x26 (wrap64 (x27 + 1))) else (none)) else (none)) else (none)) else (some x6)
end
def z110.f (k : Nat) (l0 : List (List (List Int))) : Option ((List (List Int))) := z110.l0 k l0 0 l0 (l0.length : Int) 0
theorem z110.calls (k : Nat) (P0_ : Nat → Prop) (A0 : Option Addr) (c0 : Nat) (l0 : List (List (List Int))) (r : List (List Int)) (w : World) (hs0 : Kd.V (Kd.slice 25 (Kd.slice 2 (Kd.int .i64))) 22 w w.heap.size (fun k_ => P0_ k_) (.slice A0 l0.length c0) l0) (h : z110.f k l0 = some r) :
  Calls Try.prog 110 #[.slice A0 l0.length c0] w fun e w' => ∃ v0_ : Value, e = .returned (v0_) ∧ Kd.N (Kd.slice 2 (Kd.int .i64)) 25 w' w.heap.size (fun k_ => (P0_ k_ ∨ w.heap.size ≤ k_)) v0_ r ∧ Below w.heap.size w w' := by
 have HO0 := Zz.mk (show Kd.V (Kd.slice 25 (Kd.slice 2 (Kd.int .i64))) 22 w w.heap.size (fun k_ => (P0_ k_ ∨ w.heap.size ≤ k_)) (.slice A0 l0.length c0) l0 from Kd.V_mono hs0 (fun k_ hk => .inl hk))
 have HB := Zz.mk (Below.refl w.heap.size w)
 have H : (z110.l0 k l0 0 l0 (l0.length : Int) 0) = some r := h
 clear h
 have H' := Zz.mk H
 clear H
 go_enter Try.func110, Try.ntmps110
 go_wp2
 go_loopg [3, 11] k (fun kq v3 v11 w' => ∃ (x3_1 : Int) (x11_1 : Int), v3 = .int .i64 x3_1 ∧ v11 = .int .i64 x11_1 ∧ Zz (z110.l0 kq l0 x3_1 l0 (l0.length : Int) x11_1 = some r) ∧ Zz (kq ≤ k) ∧ Zz (Kd.V (Kd.slice 25 (Kd.slice 2 (Kd.int .i64))) 22 w' w.heap.size (fun k_ => (P0_ k_ ∨ w.heap.size ≤ k_)) (.slice A0 l0.length c0) l0) ∧ Zz (Kd.V (Kd.slice 25 (Kd.slice 2 (Kd.int .i64))) 22 w' w.heap.size (fun k_ => (P0_ k_ ∨ w.heap.size ≤ k_)) (.slice A0 l0.length c0) l0) ∧ Zz (Below w.heap.size w w'))
 case atStart => exact ⟨(0), (0), E_, E_, H', ⟨Nat.le_refl _⟩, ⟨by refine VW_ ?_; exact HO0.out⟩, ⟨by refine VW_ ?_; exact HO0.out⟩, ⟨B_ HB.out⟩⟩
 case round =>
  clear H'
  obtain ⟨x3_1, x11_1, rfl, rfl, HA, HK1, HO_0, HO_9, HB⟩ := hrel
  cases gk with
  | zero => exact absurd HA.out (by simp [z110.l0])
  | succ k1 =>
   have H := HA.out
   clear HA
   simp only [z110.l0] at H
   by_cases c2 : x11_1 < (l0.length : Int)
   ·rw [if_pos c2] at H
    have c2b0 : decide (x11_1 < (l0.length : Int)) = true := decide_eq_true c2
    clear c2
    have c3b0 := O3_ H
    replace H := O2_ H
    have c4b0 := O3_ H
    replace H := O2_ H
    by_cases c5 : (wrap64 (x3_1 + ((qA3 l0 x11_1).length : Int))) < 0
    ·rw [if_pos c5] at H
     exact X_ H
    rw [if_neg c5] at H
    have c5b0 : decide ((wrap64 (x3_1 + ((qA3 l0 x11_1).length : Int))) < 0) = false := decide_eq_false c5
    clear c5
    have H' := Zz.mk H
    clear H
    have p101 : 0 ≤ (x11_1 : Int) := D_
    have q101 : x11_1 < (l0.length : Int) := D_
    obtain ⟨ad101, A101_0, c101_0, e101, hx101_0, hl101_0, hi101_0⟩ := qDf (Kd.V_reads' HO_9.out).2.2 x11_1 p101 q101
    cases e101
    obtain ⟨ce101, hce101, hMe101, hcc101⟩ := Kd.V_get HO_9.out [] x11_1 p101 (by first | exact q101 | exact D_ | (have e_ := (Kd.V_reads' HO_9.out).1; omega))
    obtain ⟨ua101_0, uc101_0, rfl, ul101_0, ge101_0⟩ := Kd.FK_slice_open hMe101
    have hv101_0 := hcc101 0 _ rfl
    rw [Nat.add_zero, show ((Kd.slice 25 (Kd.slice 2 (Kd.int .i64)))).sz = 1 from rfl, Nat.mul_one] at hv101_0
    replace hv101_0 := Option.some.inj (hv101_0.symm.trans hx101_0)
    injection hv101_0 with hva_ hvn_ hvc_
    rw [hva_] at ge101_0
    rw [hvc_] at ul101_0
    have HL101_0 := Zz.mk (show Kd.V (Kd.slice 2 (Kd.int .i64)) 25 _ w.heap.size _ _ (qA3 l0 x11_1) from Kd.V_mk ul101_0 ge101_0)
    clear hva_ hvn_ hvc_ ge101_0 ul101_0
    clear hcc101 hce101
    have HR101_0 := Zz.mk hi101_0
    have HC101_0 := Zz.mk hl101_0
    clear hi101_0 hl101_0
    replace p101 := eq_true p101
    replace q101 := eq_true q101
    go_wp2
    go_roundg k1
    case measure => exact Q1_ HK1
    case rel => exact ⟨(wrap64 (x3_1 + ((qA3 l0 x11_1).length : Int))), (wrap64 (x11_1 + 1)), E_, E_, H', ⟨Q1_ HK1⟩, ⟨by refine VW_ ?_; exact HO_0.out⟩, ⟨by refine VW_ ?_; exact HO_9.out⟩, ⟨B_ HB.out⟩⟩
   rw [if_neg c2] at H
   have c2b0 : decide (x11_1 < (l0.length : Int)) = false := decide_eq_false c2
   clear c2
   replace H := OZ_ H
   obtain ⟨t102, A6, H⟩ := H
   have H' := Zz.mk H
   clear H
   go_wp2_with (first | ((with_reducible refine gC_ (f := 145) rfl ?_); refine GL_ (some 24) rfl rfl Try.func145 #[.slice none 0 0, .int .i64 x3_1] rfl (h := ?_); (refine (slices_Grow_int64_int64_L.calls _ _ ([] : List (List Int)) x3_1 t102 _ ?side1 ?side2 A6.out).mono ?_); (case side1 => exact Kd.C_nil _ _); (case side2 => exact Nat.le_refl _); rintro e w7 ⟨v103, rfl, ho0, hb⟩; refine ⟨_, rfl, ?_⟩; replace HO_0 := Zz.mk (Kd.V_elder' (by refine VW_ ?_; exact HO_0.out) (by first | exact Kd.N_base ho0 | exact Kd.S_base ho0) hb); replace HO_9 := Zz.mk (Kd.V_elder' (by refine VW_ ?_; exact HO_9.out) (by first | exact Kd.N_base ho0 | exact Kd.S_base ho0) hb); have HO104 := Zz.mk (Kd.N_lower (Kd.N_mono (ok' := fun k_ => (P0_ k_ ∨ w.heap.size ≤ k_)) (Kd.S_N (Kd.S_bound ho0)) (fun k_ hk_ => (.inr (Nat.le_trans (bS_ (B_ HB.out)) hk_.2.1)))) (bS_ (B_ HB.out))); replace HB := Zz.mk (bT_ (B_ HB.out) hb); (try clear hb); (try clear ho0)))
   go_loopg [6, 27] k1 (fun kq v6 v27 w' => ∃ (x6_2 : List (List Int)) (x27_2 : Int), v27 = .int .i64 x27_2 ∧ Zz (z110.l1 kq x6_2 l0 (l0.length : Int) x27_2 = some r) ∧ Zz (kq ≤ k1) ∧ Zz (Kd.N (Kd.slice 2 (Kd.int .i64)) 25 w' w.heap.size (fun k_ => (P0_ k_ ∨ w.heap.size ≤ k_)) v6 x6_2) ∧ Zz (Kd.V (Kd.slice 25 (Kd.slice 2 (Kd.int .i64))) 22 w' w.heap.size (fun k_ => (P0_ k_ ∨ w.heap.size ≤ k_) ∧ some k_ ≠ (v6 : Value).ownBlock) (.slice A0 l0.length c0) l0) ∧ Zz (Below w.heap.size w w'))
   case atStart => exact ⟨(t102), (0), E_, H', ⟨Nat.le_refl _⟩, ⟨KN_ HO104.out⟩, ⟨by refine VW_ ?_; exact HO_0.out⟩, ⟨B_ HB.out⟩⟩
   case round =>
    clear H'
    (try clear c2);(try clear c2b0)
    obtain ⟨x6_2, x27_2, rfl, HA, HK2, HO_6, HO_25, HB⟩ := hrel
    cases gk with
    | zero => exact absurd HA.out (by simp [z110.l1])
    | succ k2 =>
     have H := HA.out
     clear HA
     simp only [z110.l1] at H
     by_cases c8 : x27_2 < (l0.length : Int)
     ·rw [if_pos c8] at H
      have c8b0 : decide (x27_2 < (l0.length : Int)) = true := decide_eq_true c8
      clear c8
      have c9b0 := O3_ H
      replace H := O2_ H
      have c10b0 := O3_ H
      replace H := O2_ H
      have c11 := O1_ H
      replace H := O2_ H
      have LMc11 := Zz.mk c11
      clear c11
      obtain ⟨y106, hy106⟩ : ∃ y_ : List (List Int), y_ = (x6_2 ++ (qA3 l0 x27_2)) := ⟨_, rfl⟩
      replace H : (z110.l1 k2 y106 l0 (l0.length : Int) (wrap64 (x27_2 + 1))) = some r := Y_ hy106 H
      have Ny106 := Zz.mk hy106
      clear hy106
      have H' := Zz.mk H
      clear H
      have p105 : 0 ≤ (x27_2 : Int) := D_
      have q105 : x27_2 < (l0.length : Int) := D_
      obtain ⟨ad105, A105_0, c105_0, e105, hx105_0, hl105_0, hi105_0⟩ := qDf (Kd.V_reads' HO_25.out).2.2 x27_2 p105 q105
      cases e105
      obtain ⟨ce105, hce105, hMe105, hcc105⟩ := Kd.V_get HO_25.out [] x27_2 p105 (by first | exact q105 | exact D_ | (have e_ := (Kd.V_reads' HO_25.out).1; omega))
      obtain ⟨ua105_0, uc105_0, rfl, ul105_0, ge105_0⟩ := Kd.FK_slice_open hMe105
      have hv105_0 := hcc105 0 _ rfl
      rw [Nat.add_zero, show ((Kd.slice 25 (Kd.slice 2 (Kd.int .i64)))).sz = 1 from rfl, Nat.mul_one] at hv105_0
      replace hv105_0 := Option.some.inj (hv105_0.symm.trans hx105_0)
      injection hv105_0 with hva_ hvn_ hvc_
      rw [hva_] at ge105_0
      rw [hvc_] at ul105_0
      have HL105_0 := Zz.mk (show Kd.V (Kd.slice 2 (Kd.int .i64)) 25 _ w.heap.size _ _ (qA3 l0 x27_2) from Kd.V_mk ul105_0 ge105_0)
      clear hva_ hvn_ hvc_ ge105_0 ul105_0
      clear hcc105 hce105
      have HR105_0 := Zz.mk hi105_0
      have HC105_0 := Zz.mk hl105_0
      clear hi105_0 hl105_0
      replace p105 := eq_true p105
      replace q105 := eq_true q105
      go_wp2_with (first | ((with_reducible refine qA0 (b := .append) (xs := #[.tmp 31, .tmp 32]) rfl ?_); at_builtin; refine Kd.N_append_rows (Kd.slice 2 (Kd.int .i64)) (w0 := w) w.heap.size rfl (.tmp 31) (.tmp 32) 22 25 (.slice none 0 0) 24 rfl Try.underlying22 qB6 rfl (by decide) (by omega) u6 x6_2 (qA3 l0 x27_2) _ _ _ (fun k_ => (P0_ k_ ∨ w.heap.size ≤ k_)) (fun k_ => ((fun k_ => (P0_ k_ ∨ w.heap.size ≤ k_))) k_ ∧ some k_ ≠ (u6 : Value).ownBlock) rfl rfl ?aO ?aR (fun _ hk => hk) ?aF ?aB ?aS ?aL ?_; (case aR => exact (by skip; exact Kd.V_F (Kd.V_mono (ok' := (fun k_ => ((fun k_ => (P0_ k_ ∨ w.heap.size ≤ k_))) k_ ∧ some k_ ≠ (u6 : Value).ownBlock)) (HL105_0.out) (fun k_ hk => ⟨hk.1, hk.2⟩)))); (case aB => exact (B_ HB.out)); (case aF => exact (fun k_ hk => (.inr (Nat.le_trans (bS_ (B_ HB.out)) hk)))); (case aO => exact (KN_ HO_6.out)); (case aS => exact (bS_ (B_ HB.out))); (case aL => have := LMc11.out; omega); intro v107 w12 ho hb hg hat; rw [← Ny106.out] at ho; replace HO_25 := Zz.mk (Kd.V_afterv (ok := (fun k_ => (P0_ k_ ∨ w.heap.size ≤ k_))) (by refine VW_ ?_; exact HO_25.out) hg hat); replace HL105_0 := Zz.mk (Kd.V_afterv (ok := (fun k_ => (P0_ k_ ∨ w.heap.size ≤ k_))) (by refine VW_ ?_; exact HL105_0.out) hg hat); replace HB := Zz.mk (hb); have HO108 := Zz.mk (ho); clear HO_6; clear ho hb hg hat))
      go_roundg k2
      case measure => exact Q2_ HK1 HK2
      case rel => exact ⟨(y106), (wrap64 (x27_2 + 1)), E_, H', ⟨Q2_ HK1 HK2⟩, ⟨KN_ HO108.out⟩, ⟨by refine VW_ ?_; exact HO_25.out⟩, ⟨B_ HB.out⟩⟩
     rw [if_neg c8] at H
     have c8b0 : decide (x27_2 < (l0.length : Int)) = false := decide_eq_false c8
     clear c8
     obtain rfl := OI_ H
     go_wp2
     go_ret
     exact ⟨_, F_, KN_ HO_6.out, B_ HB.out⟩
def z63.j0 : Nat → Bool → Int → Int → List (List Int) → Int → Int → List (List Int) → Option (Int)
 | 0, _, _, _, _, _, _, _ => none
 | k + 1, x5, x102000, x102001, x102002, x103000, x103001, x103002 => if x5 = true then (some 1) else (if x102000 = x103000 then (if x102001 = x103001 then (some 0) else (some 6)) else (some 6))
def z63.f (k : Nat) (a0_0 : Int) (a0_1 : Int) (l0_2 : List (List Int)) (a1_0 : Int) (a1_1 : Int) (l1_2 : List (List Int)) : Option (Int) := (z58.f k a0_0 a0_1 l0_2).bind fun t103 => (if t103 = true then ((z58.f k a1_0 a1_1 l1_2).bind fun t104 => (z63.j0 k (!t104) a0_0 a0_1 l0_2 a1_0 a1_1 l1_2)) else (z63.j0 k true a0_0 a0_1 l0_2 a1_0 a1_1 l1_2))
theorem z63.calls (k : Nat) (a0_0 : Int) (a0_1 : Int) (A0_2 : Option Addr) (c0_2 : Nat) (l0_2 : List (List Int)) (a1_0 : Int) (a1_1 : Int) (A1_2 : Option Addr) (c1_2 : Nat) (l1_2 : List (List Int)) (r : Int) (w : World) (hr0_2 : Kd.C (Kd.slice 2 (Kd.int .i64)) w A0_2 l0_2.length l0_2) (hc0_2 : l0_2.length ≤ c0_2) (hr1_2 : Kd.C (Kd.slice 2 (Kd.int .i64)) w A1_2 l1_2.length l1_2) (hc1_2 : l1_2.length ≤ c1_2) (h : z63.f k a0_0 a0_1 l0_2 a1_0 a1_1 l1_2 = some r) :
  Calls Try.prog 63 #[.agg #[.int .i64 a0_0, .int .i64 a0_1, .slice A0_2 l0_2.length c0_2], .agg #[.int .i64 a1_0, .int .i64 a1_1, .slice A1_2 l1_2.length c1_2]] w fun e w' => e = .returned (.int .i64 r) ∧ Below w.heap.size w w' := by
 have hu29 := Try.underlying29
 have HR0_2 := Zz.mk hr0_2
 have HC0_2 := Zz.mk hc0_2
 clear hr0_2 hc0_2
 have HR1_2 := Zz.mk hr1_2
 have HC1_2 := Zz.mk hc1_2
 clear hr1_2 hc1_2
 have HB := Zz.mk (Below.refl w.heap.size w)
 have H : ((z58.f k a0_0 a0_1 l0_2).bind fun t103 => (if t103 = true then ((z58.f k a1_0 a1_1 l1_2).bind fun t104 => (z63.j0 k (!t104) a0_0 a0_1 l0_2 a1_0 a1_1 l1_2)) else (z63.j0 k true a0_0 a0_1 l0_2 a1_0 a1_1 l1_2))) = some r := h
 clear h
 have HC3 := Zz.mk H
 clear H
 go_enter Try.func63, Try.ntmps63
 go_upto_region 1 with (first | ((with_reducible refine qAh (N := 2) rfl ?_); refine bx_ 2 #[.int .i64 a0_0, .int .i64 a0_1, .slice A0_2 l0_2.length c0_2] 29 ?_; intro gb101 hg w4 hbox hb; have BK101 := Zz.mk (hbox); have GW101 := Zz.mk ((gw_ hg (B_ HB.out))); have GE101 := GW101; replace HB := Zz.mk (bT_ (B_ HB.out) hb); clear hb hbox hg) | ((with_reducible refine qAh (N := 3) rfl ?_); refine bx_ 3 #[.int .i64 a1_0, .int .i64 a1_1, .slice A1_2 l1_2.length c1_2] 29 ?_; intro gb102 hg w5 hbox hb; have BK102 := Zz.mk (hbox); have GW102 := Zz.mk ((gw_ hg (B1_ HB.out GE101.out))); have GE102 := GW102; have NB101_102 := Zz.mk ((nb_ BK101.out hg)); have NB102_101 := Zz.mk NB101_102.out.symm; replace BK101 := Zz.mk (kb_ BK101.out hb); replace HB := Zz.mk (bT_ (B1_ HB.out GE101.out) hb); clear hb hbox hg))
 (try simp only [Act.put, List.setIfInBounds_toArray, List.set_cons_zero, List.set_cons_succ])
 go_cut [5] (fun v5 wc => ∃ (kq : Nat) (x5_2 : Bool), v5 = .bool x5_2 ∧ Zz (z63.j0 kq x5_2 a0_0 a0_1 l0_2 a1_0 a1_1 l1_2 = some r) ∧ Zz (kq ≤ k) ∧ Zz (wc.heap[gb101]? = some (.cells #[.int .i64 a0_0, .int .i64 a0_1, (.slice A0_2 l0_2.length c0_2)] 29 (0, 0))) ∧ Zz (wc.heap[gb102]? = some (.cells #[.int .i64 a1_0, .int .i64 a1_1, (.slice A1_2 l1_2.length c1_2)] 29 (0, 0))) ∧ Zz (Below w.heap.size w wc))
 case first =>
  have H := HC3.out
  clear HC3
  replace H := OZ_ H
  obtain ⟨t103, A6, H⟩ := H
  by_cases c7 : t103 = true
  ·subst c7
   replace H := T_ H
   replace H := OZ_ H
   obtain ⟨t104, A8, H⟩ := H
   have H' := Zz.mk H
   clear H
   have hnb9 := NB101_102.out
   have hnc9 := NB102_101.out
   obtain ⟨hcz10_0, hcz10_1, hcz10_2, hfz10_0, hfz10_1, hfz10_2⟩ := Z3f_ BK101.out
   go_wp2_with (first | ((with_reducible refine gC_ (f := 58) rfl ?_); refine GL_ (some 7) rfl rfl Try.func58 #[.agg #[.int .i64 a0_0, .int .i64 a0_1, .slice A0_2 l0_2.length c0_2]] rfl (h := ?_); (with_reducible refine (z58.calls k a0_0 a0_1 _ _ l0_2 true _ ?side1 ?side2 A6.out).mono ?_); (case side1 => exact KC_ (Kd.C_below HR0_2.out HB.out)); (case side2 => exact HC0_2.out); rintro e w11 ⟨rfl, hb⟩; refine ⟨_, rfl, ?_⟩; replace BK101 := Zz.mk (kb_ BK101.out hb); replace BK102 := Zz.mk (kb_ BK102.out hb); replace HB := Zz.mk (bT_ (B2_ HB.out GE101.out GE102.out) hb); (try clear hb); obtain ⟨hcz12_0, hcz12_1, hcz12_2, hfz12_0, hfz12_1, hfz12_2⟩ := Z3f_ BK102.out) | (go_at_call 58; (with_reducible refine (z58.calls k a1_0 a1_1 _ _ l1_2 t104 _ ?side1 ?side2 A8.out).mono ?_); (case side1 => exact KC_ (Kd.C_below HR1_2.out HB.out)); (case side2 => exact HC1_2.out); rintro e w13 ⟨rfl, hb⟩; replace BK101 := Zz.mk (kb_ BK101.out hb); replace BK102 := Zz.mk (kb_ BK102.out hb); replace HB := Zz.mk (bT_ (B2_ HB.out GE101.out GE102.out) hb); (try clear hb)))
   go_meet
   case rel => exact ⟨_, (!t104), E_, H', ⟨by first | omega | exact Nat.le_refl _⟩, ⟨KB_ BK101.out⟩, ⟨KB_ BK102.out⟩, ⟨B2_ HB.out GE101.out GE102.out⟩⟩
  replace c7 := Bool.eq_false_iff.mpr c7
  subst c7
  replace H := N_ H
  have H' := Zz.mk H
  clear H
  have hnb14 := NB101_102.out
  have hnc14 := NB102_101.out
  obtain ⟨hcz15_0, hcz15_1, hcz15_2, hfz15_0, hfz15_1, hfz15_2⟩ := Z3f_ BK101.out
  go_wp2_with (first | ((with_reducible refine gC_ (f := 58) rfl ?_); refine GL_ (some 7) rfl rfl Try.func58 #[.agg #[.int .i64 a0_0, .int .i64 a0_1, .slice A0_2 l0_2.length c0_2]] rfl (h := ?_); (with_reducible refine (z58.calls k a0_0 a0_1 _ _ l0_2 false _ ?side1 ?side2 A6.out).mono ?_); (case side1 => exact KC_ (Kd.C_below HR0_2.out HB.out)); (case side2 => exact HC0_2.out); rintro e w16 ⟨rfl, hb⟩; refine ⟨_, rfl, ?_⟩; replace BK101 := Zz.mk (kb_ BK101.out hb); replace BK102 := Zz.mk (kb_ BK102.out hb); replace HB := Zz.mk (bT_ (B2_ HB.out GE101.out GE102.out) hb); (try clear hb)))
  go_meet
  case rel => exact ⟨_, (true), E_, H', ⟨by first | omega | exact Nat.le_refl _⟩, ⟨KB_ BK101.out⟩, ⟨KB_ BK102.out⟩, ⟨B2_ HB.out GE101.out GE102.out⟩⟩
 case rest =>
  clear HC3
  obtain ⟨kq, x5_2, rfl, HA, HJ2, BK101, BK102, HB⟩ := hcut
  cases kq with
  | zero => exact absurd HA.out (by simp [z63.j0])
  | succ kj2 =>
   have H := HA.out
   clear HA
   simp only [z63.j0] at H
   by_cases c17 : x5_2 = true
   ·subst c17
    replace H := T_ H
    obtain rfl := OI_ H
    go_wp2
    go_ret
    exact ⟨F_, B2_ HB.out GE101.out GE102.out⟩
   replace c17 := Bool.eq_false_iff.mpr c17
   subst c17
   replace H := N_ H
   by_cases c18 : a0_0 = a1_0
   ·rw [if_pos c18] at H
    have c18b0 : (a0_0 == a1_0) = true := beq_iff_eq.mpr c18
    have c18b1 : (a0_0 != a1_0) = false := bne_eq_false_iff_eq.mpr c18
    clear c18
    by_cases c19 : a0_1 = a1_1
    ·rw [if_pos c19] at H
     have c19b0 : (a0_1 == a1_1) = true := beq_iff_eq.mpr c19
     have c19b1 : (a0_1 != a1_1) = false := bne_eq_false_iff_eq.mpr c19
     clear c19
     obtain rfl := OI_ H
     have hnb20 := NB101_102.out
     have hnc20 := NB102_101.out
     obtain ⟨hcz21_0, hcz21_1, hcz21_2, hfz21_0, hfz21_1, hfz21_2⟩ := Z3f_ BK101.out
     obtain ⟨hcz22_0, hcz22_1, hcz22_2, hfz22_0, hfz22_1, hfz22_2⟩ := Z3f_ BK102.out
     go_wp2
     go_ret
     exact ⟨F_, B2_ HB.out GE101.out GE102.out⟩
    rw [if_neg c19] at H
    have c19b0 : (a0_1 == a1_1) = false := beq_eq_false_iff_ne.mpr c19
    have c19b1 : (a0_1 != a1_1) = true := bne_iff_ne.mpr c19
    obtain rfl := OI_ H
    have hnb23 := NB101_102.out
    have hnc23 := NB102_101.out
    obtain ⟨hcz24_0, hcz24_1, hcz24_2, hfz24_0, hfz24_1, hfz24_2⟩ := Z3f_ BK101.out
    obtain ⟨hcz25_0, hcz25_1, hcz25_2, hfz25_0, hfz25_1, hfz25_2⟩ := Z3f_ BK102.out
    go_wp2
    go_ret
    exact ⟨F_, B2_ HB.out GE101.out GE102.out⟩
   rw [if_neg c18] at H
   have c18b0 : (a0_0 == a1_0) = false := beq_eq_false_iff_ne.mpr c18
   have c18b1 : (a0_0 != a1_0) = true := bne_iff_ne.mpr c18
   obtain rfl := OI_ H
   have hnb26 := NB101_102.out
   have hnc26 := NB102_101.out
   obtain ⟨hcz27_0, hcz27_1, hcz27_2, hfz27_0, hfz27_1, hfz27_2⟩ := Z3f_ BK101.out
   obtain ⟨hcz28_0, hcz28_1, hcz28_2, hfz28_0, hfz28_1, hfz28_2⟩ := Z3f_ BK102.out
   go_wp2
   go_ret
   exact ⟨F_, B2_ HB.out GE101.out GE102.out⟩
def z61.j0 : Nat → Bool → Int → Int → List (List Int) → Int → Int → List (List Int) → Option (Int)
 | 0, _, _, _, _, _, _, _ => none
 | k + 1, x12, x51000, x51001, x51002, x52000, x52001, x52002 => if x12 = true then (some 1) else (if x51000 = x52000 then (if x51001 = x52001 then (some 0) else (some 6)) else (some 6))
def z61.f (k : Nat) (a0_0 : Int) (a0_1 : Int) (l0_2 : List (List Int)) (a1_0 : Int) (a1_1 : Int) (l1_2 : List (List Int)) : Option (Int) := (z53.f k a0_0 a0_1 l0_2).bind fun t101 => (if t101 = true then ((z53.f k a1_0 a1_1 l1_2).bind fun t102 => (z61.j0 k (!t102) a0_0 a0_1 l0_2 a1_0 a1_1 l1_2)) else (z61.j0 k true a0_0 a0_1 l0_2 a1_0 a1_1 l1_2))
theorem z61.calls (k : Nat) (gp0 : Nat) (a0_0 : Int) (a0_1 : Int) (A0_2 : Option Addr) (c0_2 : Nat) (l0_2 : List (List Int)) (gp1 : Nat) (a1_0 : Int) (a1_1 : Int) (A1_2 : Option Addr) (c1_2 : Nat) (l1_2 : List (List Int)) (r : Int) (w : World) (hbp0 : w.heap[gp0]? = some (.cells #[.int .i64 a0_0, .int .i64 a0_1, .slice A0_2 l0_2.length c0_2] 29 (0, 0))) (hbp1 : w.heap[gp1]? = some (.cells #[.int .i64 a1_0, .int .i64 a1_1, .slice A1_2 l1_2.length c1_2] 29 (0, 0))) (hr0_2 : Kd.C (Kd.slice 2 (Kd.int .i64)) w A0_2 l0_2.length l0_2) (hc0_2 : l0_2.length ≤ c0_2) (hr1_2 : Kd.C (Kd.slice 2 (Kd.int .i64)) w A1_2 l1_2.length l1_2) (hc1_2 : l1_2.length ≤ c1_2) (h : z61.f k a0_0 a0_1 l0_2 a1_0 a1_1 l1_2 = some r) :
  Calls Try.prog 61 #[.pointer (some ⟨gp0, 0, none⟩), .pointer (some ⟨gp1, 0, none⟩)] w fun e w' => e = .returned (.int .i64 r) ∧ Below w.heap.size w w' := by
 have HR0_2 := Zz.mk hr0_2
 have HC0_2 := Zz.mk hc0_2
 clear hr0_2 hc0_2
 have HR1_2 := Zz.mk hr1_2
 have HC1_2 := Zz.mk hc1_2
 clear hr1_2 hc1_2
 have BK50 := Zz.mk hbp0
 clear hbp0
 have BK51 := Zz.mk hbp1
 clear hbp1
 have HB := Zz.mk (Below.refl w.heap.size w)
 have H : ((z53.f k a0_0 a0_1 l0_2).bind fun t101 => (if t101 = true then ((z53.f k a1_0 a1_1 l1_2).bind fun t102 => (z61.j0 k (!t102) a0_0 a0_1 l0_2 a1_0 a1_1 l1_2)) else (z61.j0 k true a0_0 a0_1 l0_2 a1_0 a1_1 l1_2))) = some r := h
 clear h
 have HC3 := Zz.mk H
 clear H
 go_enter Try.func61, Try.ntmps61
 go_upto_region 1 with (fail)
 repeat (go_quiet (fail); go_upto_region 1 with (fail))
 go_cut [12] (fun v12 wc => ∃ (kq : Nat) (x12_2 : Bool), v12 = .bool x12_2 ∧ Zz (z61.j0 kq x12_2 a0_0 a0_1 l0_2 a1_0 a1_1 l1_2 = some r) ∧ Zz (kq ≤ k) ∧ Zz (wc.heap[gp0]? = some (.cells #[.int .i64 a0_0, .int .i64 a0_1, (.slice A0_2 l0_2.length c0_2)] 29 (0, 0))) ∧ Zz (wc.heap[gp1]? = some (.cells #[.int .i64 a1_0, .int .i64 a1_1, (.slice A1_2 l1_2.length c1_2)] 29 (0, 0))) ∧ Zz (Below w.heap.size w wc))
 case first =>
  have H := HC3.out
  clear HC3
  replace H := OZ_ H
  obtain ⟨t101, A4, H⟩ := H
  by_cases c5 : t101 = true
  ·subst c5
   replace H := T_ H
   replace H := OZ_ H
   obtain ⟨t102, A6, H⟩ := H
   have H' := Zz.mk H
   clear H
   go_wp2_with (first | (go_at_call 53; (with_reducible refine (z53.calls k gp0 a0_0 a0_1 A0_2 c0_2 l0_2 true _ ?side1 ?side2 ?side3 A4.out).mono ?_); (case side1 => refine BW_ ?_; exact BK50.out); (case side2 => exact KC_ (Kd.C_below HR0_2.out HB.out)); (case side3 => exact HC0_2.out); rintro e w7 ⟨rfl, hb⟩; replace BK50 := Zz.mk (kb_ BK50.out hb); replace BK51 := Zz.mk (kb_ BK51.out hb); replace HB := Zz.mk (bT_ (B_ HB.out) hb); (try clear hb)) | (go_at_call 53; (with_reducible refine (z53.calls k gp1 a1_0 a1_1 A1_2 c1_2 l1_2 t102 _ ?side1 ?side2 ?side3 A6.out).mono ?_); (case side1 => refine BW_ ?_; exact BK51.out); (case side2 => exact KC_ (Kd.C_below HR1_2.out HB.out)); (case side3 => exact HC1_2.out); rintro e w8 ⟨rfl, hb⟩; replace BK50 := Zz.mk (kb_ BK50.out hb); replace BK51 := Zz.mk (kb_ BK51.out hb); replace HB := Zz.mk (bT_ (B_ HB.out) hb); (try clear hb)))
   repeat (go_quiet (first | (go_at_call 53; (with_reducible refine (z53.calls k gp0 a0_0 a0_1 A0_2 c0_2 l0_2 true _ ?side1 ?side2 ?side3 A4.out).mono ?_); (case side1 => refine BW_ ?_; exact BK50.out); (case side2 => exact KC_ (Kd.C_below HR0_2.out HB.out)); (case side3 => exact HC0_2.out); rintro e w7 ⟨rfl, hb⟩; replace BK50 := Zz.mk (kb_ BK50.out hb); replace BK51 := Zz.mk (kb_ BK51.out hb); replace HB := Zz.mk (bT_ (B_ HB.out) hb); (try clear hb)) | (go_at_call 53; (with_reducible refine (z53.calls k gp1 a1_0 a1_1 A1_2 c1_2 l1_2 t102 _ ?side1 ?side2 ?side3 A6.out).mono ?_); (case side1 => refine BW_ ?_; exact BK51.out); (case side2 => exact KC_ (Kd.C_below HR1_2.out HB.out)); (case side3 => exact HC1_2.out); rintro e w8 ⟨rfl, hb⟩; replace BK50 := Zz.mk (kb_ BK50.out hb); replace BK51 := Zz.mk (kb_ BK51.out hb); replace HB := Zz.mk (bT_ (B_ HB.out) hb); (try clear hb))); try go_wp2_with (first | (go_at_call 53; (with_reducible refine (z53.calls k gp0 a0_0 a0_1 A0_2 c0_2 l0_2 true _ ?side1 ?side2 ?side3 A4.out).mono ?_); (case side1 => refine BW_ ?_; exact BK50.out); (case side2 => exact KC_ (Kd.C_below HR0_2.out HB.out)); (case side3 => exact HC0_2.out); rintro e w7 ⟨rfl, hb⟩; replace BK50 := Zz.mk (kb_ BK50.out hb); replace BK51 := Zz.mk (kb_ BK51.out hb); replace HB := Zz.mk (bT_ (B_ HB.out) hb); (try clear hb)) | (go_at_call 53; (with_reducible refine (z53.calls k gp1 a1_0 a1_1 A1_2 c1_2 l1_2 t102 _ ?side1 ?side2 ?side3 A6.out).mono ?_); (case side1 => refine BW_ ?_; exact BK51.out); (case side2 => exact KC_ (Kd.C_below HR1_2.out HB.out)); (case side3 => exact HC1_2.out); rintro e w8 ⟨rfl, hb⟩; replace BK50 := Zz.mk (kb_ BK50.out hb); replace BK51 := Zz.mk (kb_ BK51.out hb); replace HB := Zz.mk (bT_ (B_ HB.out) hb); (try clear hb))))
   go_meet
   case rel => exact ⟨_, (!t102), E_, H', ⟨by first | omega | exact Nat.le_refl _⟩, ⟨KB_ BK50.out⟩, ⟨KB_ BK51.out⟩, ⟨B_ HB.out⟩⟩
  replace c5 := Bool.eq_false_iff.mpr c5
  subst c5
  replace H := N_ H
  have H' := Zz.mk H
  clear H
  go_wp2_with (first | (go_at_call 53; (with_reducible refine (z53.calls k gp0 a0_0 a0_1 A0_2 c0_2 l0_2 false _ ?side1 ?side2 ?side3 A4.out).mono ?_); (case side1 => refine BW_ ?_; exact BK50.out); (case side2 => exact KC_ (Kd.C_below HR0_2.out HB.out)); (case side3 => exact HC0_2.out); rintro e w9 ⟨rfl, hb⟩; replace BK50 := Zz.mk (kb_ BK50.out hb); replace BK51 := Zz.mk (kb_ BK51.out hb); replace HB := Zz.mk (bT_ (B_ HB.out) hb); (try clear hb)))
  repeat (go_quiet (first | (go_at_call 53; (with_reducible refine (z53.calls k gp0 a0_0 a0_1 A0_2 c0_2 l0_2 false _ ?side1 ?side2 ?side3 A4.out).mono ?_); (case side1 => refine BW_ ?_; exact BK50.out); (case side2 => exact KC_ (Kd.C_below HR0_2.out HB.out)); (case side3 => exact HC0_2.out); rintro e w9 ⟨rfl, hb⟩; replace BK50 := Zz.mk (kb_ BK50.out hb); replace BK51 := Zz.mk (kb_ BK51.out hb); replace HB := Zz.mk (bT_ (B_ HB.out) hb); (try clear hb))); try go_wp2_with (first | (go_at_call 53; (with_reducible refine (z53.calls k gp0 a0_0 a0_1 A0_2 c0_2 l0_2 false _ ?side1 ?side2 ?side3 A4.out).mono ?_); (case side1 => refine BW_ ?_; exact BK50.out); (case side2 => exact KC_ (Kd.C_below HR0_2.out HB.out)); (case side3 => exact HC0_2.out); rintro e w9 ⟨rfl, hb⟩; replace BK50 := Zz.mk (kb_ BK50.out hb); replace BK51 := Zz.mk (kb_ BK51.out hb); replace HB := Zz.mk (bT_ (B_ HB.out) hb); (try clear hb))))
  go_meet
  case rel => exact ⟨_, (true), E_, H', ⟨by first | omega | exact Nat.le_refl _⟩, ⟨KB_ BK50.out⟩, ⟨KB_ BK51.out⟩, ⟨B_ HB.out⟩⟩
 case rest =>
  clear HC3
  obtain ⟨kq, x12_2, rfl, HA, HJ2, BK50, BK51, HB⟩ := hcut
  cases kq with
  | zero => exact absurd HA.out (by simp [z61.j0])
  | succ kj2 =>
   have H := HA.out
   clear HA
   simp only [z61.j0] at H
   by_cases c10 : x12_2 = true
   ·subst c10
    replace H := T_ H
    obtain rfl := OI_ H
    go_wp2
    repeat (go_quiet (fail); try go_wp2)
    go_ret
    exact ⟨F_, B_ HB.out⟩
   replace c10 := Bool.eq_false_iff.mpr c10
   subst c10
   replace H := N_ H
   by_cases c11 : a0_0 = a1_0
   ·rw [if_pos c11] at H
    have c11b0 : (a0_0 == a1_0) = true := beq_iff_eq.mpr c11
    have c11b1 : (a0_0 != a1_0) = false := bne_eq_false_iff_eq.mpr c11
    clear c11
    by_cases c12 : a0_1 = a1_1
    ·rw [if_pos c12] at H
     have c12b0 : (a0_1 == a1_1) = true := beq_iff_eq.mpr c12
     have c12b1 : (a0_1 != a1_1) = false := bne_eq_false_iff_eq.mpr c12
     clear c12
     obtain rfl := OI_ H
     obtain ⟨hcz13_0, hcz13_1, hcz13_2, hfz13_0, hfz13_1, hfz13_2⟩ := Z3f_ BK50.out
     obtain ⟨hcz14_0, hcz14_1, hcz14_2, hfz14_0, hfz14_1, hfz14_2⟩ := Z3f_ BK51.out
     go_wp2
     repeat (go_quiet (fail); try go_wp2)
     go_ret
     exact ⟨F_, B_ HB.out⟩
    rw [if_neg c12] at H
    have c12b0 : (a0_1 == a1_1) = false := beq_eq_false_iff_ne.mpr c12
    have c12b1 : (a0_1 != a1_1) = true := bne_iff_ne.mpr c12
    obtain rfl := OI_ H
    obtain ⟨hcz15_0, hcz15_1, hcz15_2, hfz15_0, hfz15_1, hfz15_2⟩ := Z3f_ BK50.out
    obtain ⟨hcz16_0, hcz16_1, hcz16_2, hfz16_0, hfz16_1, hfz16_2⟩ := Z3f_ BK51.out
    go_wp2
    repeat (go_quiet (fail); try go_wp2)
    go_ret
    exact ⟨F_, B_ HB.out⟩
   rw [if_neg c11] at H
   have c11b0 : (a0_0 == a1_0) = false := beq_eq_false_iff_ne.mpr c11
   have c11b1 : (a0_0 != a1_0) = true := bne_iff_ne.mpr c11
   obtain rfl := OI_ H
   obtain ⟨hcz17_0, hcz17_1, hcz17_2, hfz17_0, hfz17_1, hfz17_2⟩ := Z3f_ BK50.out
   obtain ⟨hcz18_0, hcz18_1, hcz18_2, hfz18_0, hfz18_1, hfz18_2⟩ := Z3f_ BK51.out
   go_wp2
   repeat (go_quiet (fail); try go_wp2)
   go_ret
   exact ⟨F_, B_ HB.out⟩
end Go.Proofs.Ytabfflgoaalapaa.B
