/- Printed proofs of functions of the program and of the reference, by a program of this work over the kit's printer. -/
import Derived.Test.YtkgajpngeglkmaaKICBICJ0
import Derived.Test.YtkgajpngeglkmaaKKEPDLE0
import Derived.Test.YtkgajpngeglkmaaKLBBOAD0
import Derived.Test.YtkgajpngeglkmaaKW0
set_option maxHeartbeats 8000000
set_option maxRecDepth 100000
namespace Go.Proofs.Ytkgajpngeglkmaa.B
open Go.RowKit Go.Proofs.YtkgajpngeglkmaaW.PrintWords Go.Proofs.YtkgajpngeglkmaaW.PrintLast Go.Proofs.YtkgajpngeglkmaaW.PrintMore
attribute [local go_sem] qAh qAf qAn qAm qAc qAb qAg qAe
set_option linter.unusedVariables false
set_option linter.unusedSimpArgs false
def z45.f (k : Nat) (a0_0 : Int) (a0_1 : Int) (l0_2 : List (List Int)) (l1 : List Int) : Option (Bool) := (z62.f k a0_0 a0_1 l0_2 l1).bind fun bt102 => (some bt102.2)
theorem z45.calls (k : Nat) (a0_0 : Int) (a0_1 : Int) (A0_2 : Option Addr) (c0_2 : Nat) (l0_2 : List (List Int)) (A1 : Option Addr) (c1 : Nat) (l1 : List Int) (r : Bool) (w : World) (hr0_2 : Kd.C (Kd.slice 2 (Kd.int .i64)) w A0_2 l0_2.length l0_2) (hc0_2 : l0_2.length ≤ c0_2) (hr1 : Kd.C (Kd.int .i64) w A1 l1.length l1) (hc1 : l1.length ≤ c1) (h : z45.f k a0_0 a0_1 l0_2 l1 = some r) :
  Calls Try.prog 45 #[.agg #[.int .i64 a0_0, .int .i64 a0_1, .slice A0_2 l0_2.length c0_2], .slice A1 l1.length c1] w fun e w' => e = .returned (.bool r) ∧ Below w.heap.size w w' := by
 have hu28 := Try.underlying28
 have HR0_2 := Zz.mk hr0_2
 have HC0_2 := Zz.mk hc0_2
 clear hr0_2 hc0_2
 have HR1 := Zz.mk hr1
 have HC1 := Zz.mk hc1
 clear hr1 hc1
 have HB := Zz.mk (Below.refl w.heap.size w)
 have H : ((z62.f k a0_0 a0_1 l0_2 l1).bind fun bt102 => (some bt102.2)) = some r := h
 clear h
 replace H := OB_ H
 obtain ⟨⟨t102, t105⟩, A30, H⟩ := H
 try dsimp only at H
 have A3 := Zz.mk A30
 clear A30
 obtain rfl := OI_ H
 go_enter Try.func45, Try.ntmps45
 go_wp2_with (first | ((with_reducible refine qAi (N := 2) rfl ?_); refine bx_ 2 #[.int .i64 a0_0, .int .i64 a0_1, .slice A0_2 l0_2.length c0_2] 28 ?_; intro gb101 hg w4 hbox hb; have BK101 := Zz.mk (hbox); have GW101 := Zz.mk ((gw_ hg (B_ HB.out))); have GE101 := GW101; replace HB := Zz.mk (bT_ (B_ HB.out) hb); clear hb hbox hg; obtain ⟨hcz5_0, hcz5_1, hcz5_2, hfz5_0, hfz5_1, hfz5_2⟩ := Z3f_ BK101.out) | ((with_reducible refine gC_ (f := 62) rfl ?_); refine GL_ (some 10) rfl rfl Try.func62 #[.agg #[.int .i64 a0_0, .int .i64 a0_1, .slice A0_2 l0_2.length c0_2], .slice A1 l1.length c1] rfl (h := ?_); (with_reducible refine (z62.calls k a0_0 a0_1 _ _ l0_2 (fun k_ => k_ < w.heap.size) _ _ l1 t102 t105 _ ?side1 ?side2 ?side3 A3.out).mono ?_); (case side1 => exact KC_ (Kd.C_below HR0_2.out HB.out)); (case side2 => exact HC0_2.out); (case side3 => exact Kd.V_mk HC1.out (Kd.F_below (Kd.C_F (Kd.heap_int .i64) HR1.out) (B1_ HB.out GE101.out))); rintro e w6 ⟨v103, rfl, ho0, hb⟩; refine ⟨_, rfl, ?_⟩; have HO104 := Zz.mk (Kd.R_lower (Kd.R_mono (ok' := fun k_ => True) ho0 (fun _ hk_ => trivial)) (bS_ (B1_ HB.out GE101.out))); replace BK101 := Zz.mk (kb_ BK101.out hb); replace HB := Zz.mk (bT_ (B1_ HB.out GE101.out) hb); (try clear hb); (try clear ho0)))
 go_ret
 exact ⟨F_, B1_ HB.out GE101.out⟩
def z76.f (k : Nat) (a0 : Int) (a1 : Int) (l2 : List (List Int)) : Option (Int × Int × (List (List Int))) := (z92.f k l2).bind fun t102 => ((z113.f k t102 a1 a0).bind fun bt105 => (if 0 ≤ (bt105.1.length : Int) then (if (bt105.1.length : Int) ≤ (t102.length : Int) then ((z92.f k (bt105.2.2.take ((bt105.1.length : Int) : Int).toNat)).bind fun t114 => (some (a0, a1, t114))) else (none)) else (none)))
theorem z76.calls (k : Nat) (a0 : Int) (a1 : Int) (A2 : Option Addr) (c2 : Nat) (l2 : List (List Int)) (r1 : Int) (r2 : Int) (r3 : List (List Int)) (w : World) (hr2 : Kd.C (Kd.slice 2 (Kd.int .i64)) w A2 l2.length l2) (hc2 : l2.length ≤ c2) (h : z76.f k a0 a1 l2 = some (r1, r2, r3)) :
  Calls Try.prog 76 #[.int .i64 a0, .int .i64 a1, .slice A2 l2.length c2] w fun e w' => ∃ v2_ : Value, e = .returned (.agg #[.int .i64 r1, .int .i64 r2, v2_]) ∧ Kd.S (Kd.slice 2 (Kd.int .i64)) 40 w' w.heap.size (fun _ => True) v2_ r3 ∧ Below w.heap.size w w' := by
 have hu28 := Try.underlying28
 have HR2 := Zz.mk hr2
 have HC2 := Zz.mk hc2
 clear hr2 hc2
 have HB := Zz.mk (Below.refl w.heap.size w)
 have H : ((z92.f k l2).bind fun t102 => ((z113.f k t102 a1 a0).bind fun bt105 => (if 0 ≤ (bt105.1.length : Int) then (if (bt105.1.length : Int) ≤ (t102.length : Int) then ((z92.f k (bt105.2.2.take ((bt105.1.length : Int) : Int).toNat)).bind fun t114 => (some (a0, a1, t114))) else (none)) else (none)))) = some (r1, r2, r3) := h
 clear h
 replace H := OB_ H
 obtain ⟨t102, A40, H⟩ := H
 replace H : ((z113.f k t102 a1 a0).bind fun bt105 => (if 0 ≤ (bt105.1.length : Int) then (if (bt105.1.length : Int) ≤ (t102.length : Int) then ((z92.f k (bt105.2.2.take ((bt105.1.length : Int) : Int).toNat)).bind fun t114 => (some (a0, a1, t114))) else (none)) else (none))) = some (r1, r2, r3) := H
 have A4 := Zz.mk A40
 clear A40
 replace H := OB_ H
 obtain ⟨⟨t105, t108, t109⟩, A50, H⟩ := H
 replace H : (if 0 ≤ (t105.length : Int) then (if (t105.length : Int) ≤ (t102.length : Int) then ((z92.f k (t109.take ((t105.length : Int) : Int).toNat)).bind fun t114 => (some (a0, a1, t114))) else (none)) else (none)) = some (r1, r2, r3) := H
 have A5 := Zz.mk A50
 clear A50
 have c6 := O1_ H
 replace H := O2_ H
 have c6b0 := eq_true c6
 have c6b1 : decide (0 ≤ (t105.length : Int)) = true := decide_eq_true c6
 clear c6
 have c7 := O1_ H
 replace H := O2_ H
 have c7b0 := eq_true c7
 have c7b1 : decide ((t105.length : Int) ≤ (t102.length : Int)) = true := decide_eq_true c7
 clear c7
 obtain ⟨y110, hy110⟩ : ∃ y_ : List (List Int), y_ = (t109.take ((t105.length : Int) : Int).toNat) := ⟨_, rfl⟩
 replace H : ((z92.f k y110).bind fun t114 => (some (a0, a1, t114))) = some (r1, r2, r3) := Y_ hy110 H
 have Ny110 := Zz.mk hy110
 clear hy110
 replace H := OB_ H
 obtain ⟨t114, A80, H⟩ := H
 replace H : (some (a0, a1, t114)) = some (r1, r2, r3) := H
 have A8 := Zz.mk A80
 clear A80
 simp only [Option.some.injEq, Prod.mk.injEq] at H
 obtain ⟨rfl, rfl, rfl⟩ := H
 go_enter Try.func76, Try.ntmps76
 go_wp2_with (first | ((with_reducible refine qAi (N := 6) rfl ?_); refine bx_ 6 #[.int .i64 0, .int .i64 0, .slice none 0 0] 28 ?_; intro gb101 hg w9 hbox hb; have BK101 := Zz.mk (hbox); have GW101 := Zz.mk ((gw_ hg (B_ HB.out))); have GE101 := GW101; replace HB := Zz.mk (bT_ (B_ HB.out) hb); clear hb hbox hg) | ((with_reducible refine gC_ (f := 92) rfl ?_); refine GL_ (some 11) rfl rfl Try.func92 #[.slice A2 l2.length c2] rfl (h := ?_); (with_reducible refine (z92.calls k _ _ l2 t102 _ ?side1 ?side2 A4.out).mono ?_); (case side1 => exact KC_ (Kd.C_below HR2.out HB.out)); (case side2 => exact HC2.out); rintro e w10 ⟨v103, rfl, ho0, hb⟩; refine ⟨_, rfl, ?_⟩; have HO104 := Zz.mk (Kd.S_lower ho0 (bS_ (B1_ HB.out GE101.out))); replace BK101 := Zz.mk (kb_ BK101.out hb); replace HB := Zz.mk (bT_ (B1_ HB.out GE101.out) hb); (try clear hb); (try clear ho0); obtain ⟨Ao11, co11, eo11⟩ := Kd.S_slice HO104.out; subst eo11) | (go_at_call 113; (with_reducible refine (z113.calls k (fun k_ => True ∧ ∃ q_, q_ ∈ 40 :: ((Kd.slice 2 (Kd.int .i64))).E ∧ ∃ cs_, w10.heap[k_]? = some (.cells cs_ q_ (0, 0))) (.slice Ao11 t102.length co11) t102 a1 a0 t105 t108 t109 w _ ?side1 ?side2 A5.out).mono ?_); (case side1 => repeat (first | (with_reducible first | exact HB.out | apply qAu | apply qAr | apply qAj | refine qAp ?_ GE101.out) | exact HB.out)); (case side2 => exact Kd.S_N (Kd.S_pin (ok := fun k_ => True) (KS_ HO104.out))); rintro e w12 ⟨v106, rfl, ho0, hy0, hb, hkp⟩; have HO107 := Zz.mk (Kd.R_mono ho0 (fun k_ hk_ => trivial)); replace HO104 := Zz.mk (Kd.N_mono (ok' := fun k_ => k_ ≠ gb101) hy0 (fun k_ hk_ => fun e_ => Or.elim hk_ (fun hs_ => Kd.typed_ne (KB_ BK101.out) (by rw [← e_]; exact hs_.2) (by decide)) (fun hn_ => (Kd.freshB (g := gb101) (o := .cells #[.int .i64 0, .int .i64 0, .slice none 0 0] 28 (0, 0)) (KB_ BK101.out) k_ hn_) e_))); replace BK101 := Zz.mk (qBo (KB_ BK101.out) hkp (fun hs_ => Kd.typed_ne (KB_ BK101.out) hs_.2 (by decide))); replace HB := Zz.mk (hb); (try clear hb hkp hy0 ho0); obtain ⟨Ao13, co13, eo13⟩ := Kd.R_slice HO107.out; subst eo13; have hlx14 := (Kd.N_reads' HO104.out).1; have q14 : ((t105.length : Int) : Int) ≤ ((t102.length : Int) : Int) := D_; obtain ⟨i014, hi014, _, hsz14, _⟩ := info_parts qBs; have hroom14 : t102.length ≤ co11 := (Kd.N_reads' HO104.out).2.1; have hroomc14 : t109.length ≤ co11 := (by rw [← hlx14]; exact hroom14); have hC14 : Kd.C (Kd.slice 2 (Kd.int .i64)) _ Ao11 t109.length t109 := (Kd.N_reads' HO104.out).2.2; have hcut14 := cut_to (P := Try.prog) 22 40 .i64 Try.underlying22 hi014 Ao11 t102.length co11 (t105.length : Int) (D_) q14 hroom14; have hr14 := Kd.C_take (m := ((t105.length : Int) : Int).toNat) hC14 (by omega); have hy14 : y110.length = ((t105.length : Int) : Int).toNat := (by rw [Ny110.out, List.length_take]; omega); rw [← Ny110.out] at hr14; rw [← hy14] at hcut14; have HR113 := Zz.mk hr14; have HC113 := Zz.mk (show y110.length ≤ co11 from by omega); clear hr14 hC14 hroom14 hi014 hsz14 hroomc14; have KY14 := Zz.mk hy14; clear hy14; have KE14 := Zz.mk hlx14; have KL14 := Zz.mk (show ((t105.length : Int) : Int).toNat ≤ t109.length from by omega); clear hlx14; replace q14 := eq_true q14) | ((with_reducible refine gC_ (f := 92) rfl ?_); refine GL_ (some 25) rfl rfl Try.func92 #[.slice Ao11 y110.length co11] rfl (h := ?_); (with_reducible refine (z92.calls k _ _ y110 t114 _ ?side1 ?side2 A8.out).mono ?_); (case side1 => exact KC_ (KC_ HR113.out)); (case side2 => exact HC113.out); rintro e w15 ⟨v115, rfl, ho0, hb⟩; refine ⟨_, rfl, ?_⟩; have HO116 := Zz.mk (Kd.S_lower (Kd.S_new' (Kd.S_new' ho0 (Kd.N_lt (KN_ HO104.out))) (Kd.R_lt (KR_ HO107.out))) (bS_ (B1_ HB.out GE101.out))); replace HO104 := Zz.mk (Kd.N_elder' (KN_ HO104.out) (Kd.S_base ho0) hb); replace HO107 := Zz.mk (Kd.R_below (KR_ HO107.out) hb); replace BK101 := Zz.mk (kb_ BK101.out hb); replace HR113 := Zz.mk (Kd.C_below (KC_ HR113.out) hb); replace HB := Zz.mk (bT_ (B1_ HB.out GE101.out) hb); (try clear hb); (try clear ho0); obtain ⟨Ao16, co16, eo16⟩ := Kd.S_slice HO116.out; subst eo16; obtain ⟨hcz17_0, hcz17_1, hcz17_2, hfz17_0, hfz17_1, hfz17_2⟩ := Z3f_ BK101.out))
 refine bodyPost_ret (results_cell_row rfl _ _ gb101 28 #[.int .i64 a0, .int .i64 a1, .slice Ao16 t114.length co16] (0, 0) _ rfl (by refine BW_ ?_; refine bP_ (cs := #[.int .i64 a0, .int .i64 a1, .slice none 0 0]) ?_ 2 _ rfl; refine BW_ ?_; refine bP_ (cs := #[.int .i64 a0, .int .i64 0, .slice none 0 0]) ?_ 1 _ rfl; refine BW_ ?_; refine bP_ (cs := #[.int .i64 0, .int .i64 0, .slice none 0 0]) ?_ 0 _ rfl; refine BW_ ?_; exact BK101.out) Try.underlying28 rfl (by kernel_rfl)) rfl ?_
 exact ⟨_, F_, by refine SW_ ?_; exact Kd.S_mono (Kd.S_far (p := ⟨gb101, 2, none⟩) (Kd.S_far (p := ⟨gb101, 1, none⟩) (Kd.S_far (p := ⟨gb101, 0, none⟩) (Kd.S_types HO116.out BK101.out (by decide)) (fun _ hk => hk.2) (.int .i64 a0)) (fun _ hk => hk.2) (.int .i64 a1)) (fun _ hk => hk.2) (.slice Ao16 t114.length co16)) (fun _ hk => trivial), B1_ HB.out GE101.out⟩
end Go.Proofs.Ytkgajpngeglkmaa.B
