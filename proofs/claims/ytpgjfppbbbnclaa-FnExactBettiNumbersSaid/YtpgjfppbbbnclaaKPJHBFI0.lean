/- Printed proofs of functions of the program and of the reference, by a program of this work over the kit's printer. -/
import Derived.Test.YtpgjfppbbbnclaaKCKAIBJ0
import Derived.Test.YtpgjfppbbbnclaaKFPGFII0
import Derived.Test.YtpgjfppbbbnclaaKGPJMLH0
import Derived.Test.YtpgjfppbbbnclaaKJCOKFJ0
import Derived.Test.YtpgjfppbbbnclaaKLEKPEN0
import Derived.Test.YtpgjfppbbbnclaaKPCACJH0
import Derived.Test.YtpgjfppbbbnclaaKPHJBJF0
import Derived.Test.YtpgjfppbbbnclaaKW0
set_option maxHeartbeats 8000000
set_option maxRecDepth 100000
namespace Go.Proofs.Ytpgjfppbbbnclaa.B
open Go.RowKit Go.Proofs.YtpgjfppbbbnclaaW.PrintWords Go.Proofs.YtpgjfppbbbnclaaW.PrintLast Go.Proofs.YtpgjfppbbbnclaaW.PrintMore
attribute [local go_sem] qAh qAf qAl qAk qAc qAb qAg qAe
set_option linter.unusedVariables false
set_option linter.unusedSimpArgs false
def z68.l0 : Nat → List Int → List (List Int) → Int → Int → List (List Int) → Option (List Int)
 | 0, _, _, _, _, _ => none
 | k + 1, x5, x13, x14, x15, x102000 => if x15 < x14 then (if 0 ≤ x15 then (if x15 < (x13.length : Int) then ((z56.f k x102000 (rI_ x13 x15)).bind fun t107 => (if x5.length < 17592186044416 then (z68.l0 k (x5 ++ [t107]) x13 x14 (wrap64 (x15 + 1)) x102000) else (none))) else (none)) else (none)) else (some x5)
def z68.f (k : Nat) (l0_0 : List (List Int)) (a1 : Int) : Option (List Int) := if 0 ≤ a1 then (if a1 < (l0_0.length : Int) then ((z54.f k (rI_ l0_0 a1)).bind fun t103 => (z68.l0 k ([] : List Int) t103 (t103.length : Int) 0 l0_0)) else (none)) else (none)
theorem z68.calls (k : Nat) (A0_0 : Option Addr) (c0_0 : Nat) (l0_0 : List (List Int)) (a1 : Int) (r : List Int) (w : World) (hr0_0 : Kd.C (Kd.slice 2 (Kd.int .i64)) w A0_0 l0_0.length l0_0) (hc0_0 : l0_0.length ≤ c0_0) (h : z68.f k l0_0 a1 = some r) :
  Calls Try.prog 68 #[.agg #[.slice A0_0 l0_0.length c0_0], .int .i64 a1] w fun e w' => ∃ v0_ : Value, e = .returned (v0_) ∧ Kd.R (Kd.int .i64) 2 w' w.heap.size (fun _ => True) v0_ r ∧ Below w.heap.size w w' := by
 have hu29 := Try.underlying29
 have HR0_0 := Zz.mk hr0_0
 have HC0_0 := Zz.mk hc0_0
 clear hr0_0 hc0_0
 have HB := Zz.mk (Below.refl w.heap.size w)
 have H : (if 0 ≤ a1 then (if a1 < (l0_0.length : Int) then ((z54.f k (rI_ l0_0 a1)).bind fun t103 => (z68.l0 k ([] : List Int) t103 (t103.length : Int) 0 l0_0)) else (none)) else (none)) = some r := h
 clear h
 have c3b0 := O3_ H
 replace H := O2_ H
 have c4b0 := O3_ H
 replace H := O2_ H
 replace H := OZ_ H
 obtain ⟨t103, A5, H⟩ := H
 have H' := Zz.mk H
 clear H
 go_enter Try.func68, Try.ntmps68
 go_wp2_with (first | ((with_reducible refine qAm (N := 2) rfl ?_); refine bx_ 2 #[.slice A0_0 l0_0.length c0_0] 29 ?_; intro gb101 hg w6 hbox hb; have BK101 := Zz.mk (hbox); have GW101 := Zz.mk ((gw_ hg (B_ HB.out))); have GE101 := GW101; replace HB := Zz.mk (bT_ (B_ HB.out) hb); clear hb hbox hg; obtain ⟨hcz7_0, hfz7_0⟩ := Z1f_ BK101.out; have p102 : 0 ≤ (a1 : Int) := D_; have q102 : a1 < (l0_0.length : Int) := D_; obtain ⟨ad102, A102_0, c102_0, e102, hx102_0, hl102_0, hi102_0⟩ := qAp HR0_0.out a1 p102 q102; cases e102; replace hx102_0 := (HB.out.cell (World.block_lt_of_cell? w _ hx102_0)).trans hx102_0; have HR102_0 := Zz.mk hi102_0; have HC102_0 := Zz.mk hl102_0; clear hi102_0 hl102_0; replace p102 := eq_true p102; replace q102 := eq_true q102) | ((with_reducible refine gC_ (f := 54) rfl ?_); refine GL_ (some 13) rfl rfl Try.func54 #[.slice A102_0 (rI_ l0_0 a1).length c102_0] rfl (h := ?_); (with_reducible refine (z54.calls k (fun k_ => k_ < w.heap.size) _ _ (rI_ l0_0 a1) t103 _ ?side1 A5.out).mono ?_); (case side1 => exact Kd.V_mk HC102_0.out (Kd.F_below (Kd.C_F (Kd.heap_int .i64) HR102_0.out) (B1_ HB.out GE101.out))); rintro e w8 ⟨v104, rfl, ho0, hb⟩; refine ⟨_, rfl, ?_⟩; have HO105 := Zz.mk (Kd.N_lower (Kd.N_mono (ok' := fun k_ => k_ ≠ gb101) ho0 (fun k_ hk_ => Or.elim hk_ (fun hs_ => fun e_ => Nat.not_le.2 hs_ (by rw [e_]; exact GW101.out)) (fun hn_ => (Kd.freshB (g := gb101) (o := .cells #[.slice (some ad102) l0_0.length c0_0] 29 (0, 0)) (KB_ BK101.out) k_ hn_)))) (bS_ (B1_ HB.out GE101.out))); replace BK101 := Zz.mk (kb_ BK101.out hb); replace HB := Zz.mk (bT_ (B1_ HB.out GE101.out) hb); (try clear hb); (try clear ho0); obtain ⟨Ao9, co9, eo9⟩ := Kd.N_slice HO105.out; subst eo9))
 go_loopg [5, 15] k (fun kq v5 v15 w' => ∃ (x5_1 : List Int) (x15_1 : Int), v15 = .int .i64 x15_1 ∧ Zz (z68.l0 kq x5_1 t103 (t103.length : Int) x15_1 l0_0 = some r) ∧ Zz (kq ≤ k) ∧ Zz (Kd.R (Kd.int .i64) 2 w' w.heap.size (fun _ => True) v5 x5_1) ∧ Zz (Kd.N (Kd.slice 2 (Kd.int .i64)) 26 w' w.heap.size (fun k_ => some k_ ≠ (v5 : Value).ownBlock ∧ k_ ≠ gb101) (.slice Ao9 t103.length co9) t103) ∧ Zz (w'.heap[gb101]? = some (.cells #[(.slice (some ad102) l0_0.length c0_0)] 29 (0, 0))) ∧ Zz (Below w.heap.size w w'))
 case atStart => exact ⟨(([] : List Int)), (0), E_, H', ⟨Nat.le_refl _⟩, ⟨by first | exact Kd.R_nil _ _ _ _ _ | exact Kd.N_nil _ _ _ _ _ | exact Kd.V_nil _ _ _ _ _ | exact Kd.Q_nil _ _ _ _ _ | exact Kd.S_nil _ _ _ _ _⟩, ⟨by refine NW_ ?_; exact Kd.N_mono HO105.out (fun _ hk => ⟨(by simp [Value.ownBlock]), hk⟩)⟩, ⟨KB_ BK101.out⟩, ⟨B1_ HB.out GE101.out⟩⟩
 case round =>
  clear H'
  (try clear c3b0);(try clear c4b0);(try clear hcz7_0);(try clear hfz7_0);(try clear hx102_0);(try clear p102);(try clear q102)
  obtain ⟨x5_1, x15_1, rfl, HA, HK1, HO_5, HO_13, BK101, HB⟩ := hrel
  cases gk with
  | zero => exact absurd HA.out (by simp [z68.l0])
  | succ k1 =>
   have H := HA.out
   clear HA
   simp only [z68.l0] at H
   by_cases c10 : x15_1 < (t103.length : Int)
   ·rw [if_pos c10] at H
    have c10b0 : decide (x15_1 < (t103.length : Int)) = true := decide_eq_true c10
    clear c10
    have c11b0 := O3_ H
    replace H := O2_ H
    have c12b0 := O3_ H
    replace H := O2_ H
    replace H := OZ_ H
    obtain ⟨t107, A13, H⟩ := H
    have c14 := O1_ H
    replace H := O2_ H
    have LMc14 := Zz.mk c14
    clear c14
    obtain ⟨y108, hy108⟩ : ∃ y_ : List Int, y_ = (x5_1 ++ [t107]) := ⟨_, rfl⟩
    replace H : (z68.l0 k1 y108 t103 (t103.length : Int) (wrap64 (x15_1 + 1)) l0_0) = some r := Y_ hy108 H
    have Ny108 := Zz.mk hy108
    clear hy108
    have H' := Zz.mk H
    clear H
    have p106 : 0 ≤ (x15_1 : Int) := D_
    have q106 : x15_1 < (t103.length : Int) := D_
    obtain ⟨ad106, A106_0, c106_0, e106, hx106_0, hl106_0, hi106_0⟩ := qAp (Kd.N_reads' HO_13.out).2.2 x15_1 p106 q106
    cases e106
    obtain ⟨ce106, hce106, hMe106, hcc106⟩ := Kd.N_get HO_13.out [] x15_1 p106 (by first | exact q106 | exact D_ | (have e_ := (Kd.N_reads' HO_13.out).1; omega))
    obtain ⟨ua106_0, uc106_0, rfl, ul106_0, ge106_0⟩ := Kd.FK_slice_open hMe106
    have hv106_0 := hcc106 0 _ rfl
    rw [Nat.add_zero, show ((Kd.slice 2 (Kd.int .i64))).sz = 1 from rfl, Nat.mul_one] at hv106_0
    replace hv106_0 := Option.some.inj (hv106_0.symm.trans hx106_0)
    injection hv106_0 with hva_ hvn_ hvc_
    rw [hva_] at ge106_0
    rw [hvc_] at ul106_0
    have HL106_0 := Zz.mk (show Kd.V (Kd.int .i64) 2 _ w.heap.size _ _ (rI_ t103 x15_1) from Kd.V_mk ul106_0 ge106_0)
    clear hva_ hvn_ hvc_ ge106_0 ul106_0
    clear hcc106 hce106
    have HR106_0 := Zz.mk hi106_0
    have HC106_0 := Zz.mk hl106_0
    clear hi106_0 hl106_0
    replace p106 := eq_true p106
    replace q106 := eq_true q106
    obtain ⟨hcz15_0, hfz15_0⟩ := Z1f_ BK101.out
    go_wp2_with (first | ((with_reducible refine gC_ (f := 56) rfl ?_); refine GL_ (some 22) rfl rfl Try.func56 #[.agg #[.slice (some ad102) l0_0.length c0_0], .slice A106_0 (rI_ t103 x15_1).length c106_0] rfl (h := ?_); (with_reducible refine (z56.calls k1 _ _ l0_0 _ _ (rI_ t103 x15_1) t107 _ ?side1 ?side2 ?side3 ?side4 A13.out).mono ?_); (case side1 => exact KC_ (Kd.C_below HR0_0.out HB.out)); (case side2 => exact HC0_0.out); (case side3 => exact KC_ (KC_ HR106_0.out)); (case side4 => exact HC106_0.out); rintro e w16 ⟨rfl, hb⟩; refine ⟨_, rfl, ?_⟩; replace HO_5 := Zz.mk (Kd.R_below (KR_ HO_5.out) hb); replace HO_13 := Zz.mk (Kd.N_below (KN_ HO_13.out) hb); replace HL106_0 := Zz.mk (Kd.V_below (by refine VW_ ?_; exact HL106_0.out) hb); replace BK101 := Zz.mk (kb_ BK101.out hb); replace HR106_0 := Zz.mk (Kd.C_below (KC_ HR106_0.out) hb); replace HB := Zz.mk (bT_ (B1_ HB.out GE101.out) hb); (try clear hb)) | ((with_reducible refine qAv (b := .append) (xs := #[.tmp 19, .tmp 23]) rfl ?_); at_builtin; refine Kd.R_append (Kd.int .i64) (w0 := w) w.heap.size rfl (.tmp 19) (.tmp 23) 26 2 (.int .i64 0) 8 rfl Try.underlying26 qB9 rfl (by decide) (by omega) u5 x5_1 t107 [.int .i64 t107] (fun _ => True) (fun _ => False) rfl rfl ?aP (fun _ hk => hk.elim) ?aF ?aO ?aB ?aS ?aL ?_; (case aP => exact rfl); (case aB => exact (B1_ HB.out GE101.out)); (case aF => exact (fun _ _ => trivial)); (case aO => exact (KR_ HO_5.out)); (case aS => exact (bS_ (B1_ HB.out GE101.out))); (case aL => have := LMc14.out; omega); intro v109 w17 ho hb hg hat; rw [← Ny108.out] at ho; replace HO_13 := Zz.mk (Kd.N_afterv (ok := (fun k_ => k_ ≠ gb101)) (by refine NW_ ?_; exact Kd.N_mono HO_13.out (fun _ hk => ⟨hk.2, hk.1⟩)) hg hat); replace BK101 := Zz.mk (qAy (g := gb101) (o := .cells #[.slice (some ad102) l0_0.length c0_0] 29 (0, 0)) (KB_ BK101.out) hg (Kd.R_ne HO_5.out BK101.out (by decide))); replace HL106_0 := Zz.mk (Kd.V_afterv (ok := (fun k_ => some k_ ≠ (.slice (some ad106) t103.length co9 : Value).ownBlock ∧ k_ ≠ gb101)) (by refine VW_ ?_; exact Kd.V_mono HL106_0.out (fun _ hk => ⟨⟨hk.2, hk.1.2⟩, hk.1.1⟩)) hg hat); replace HB := Zz.mk (hb); have HO110 := Zz.mk (ho); clear HO_5; clear ho hb hg hat))
    go_roundg k1
    case measure => exact Q1_ HK1
    case rel => exact ⟨(y108), (wrap64 (x15_1 + 1)), E_, H', ⟨Q1_ HK1⟩, ⟨KR_ HO110.out⟩, ⟨by refine NW_ ?_; exact Kd.N_mono HO_13.out (fun _ hk => ⟨hk.2, hk.1⟩)⟩, ⟨KB_ BK101.out⟩, ⟨B1_ HB.out GE101.out⟩⟩
   rw [if_neg c10] at H
   have c10b0 : decide (x15_1 < (t103.length : Int)) = false := decide_eq_false c10
   clear c10
   obtain rfl := OI_ H
   go_wp2
   go_ret
   exact ⟨_, F_, KR_ HO_5.out, B1_ HB.out GE101.out⟩
def z67.f (k : Nat) (a0 : Int) (a1 : Int) (a2 : Int) : Option (Int × Int × Int × List Int) := (z125.f k a0 a1 a2).bind fun bt102 => (some (bt102.1, bt102.2.1, bt102.2.2.1, bt102.2.2.2))
theorem z67.calls (k : Nat) (a0 : Int) (a1 : Int) (a2 : Int) (r1 : Int) (r2 : Int) (r3 : Int) (r4 : List Int) (w : World) (h : z67.f k a0 a1 a2 = some (r1, r2, r3, r4)) :
  Calls Try.prog 67 #[.int .i64 a0, .int .i64 a1, .int .i64 a2] w fun e w' => ∃ v3_ : Value, e = .returned (.agg #[.int .i64 r1, .int .i64 r2, .int .i64 r3, v3_]) ∧ Kd.R (Kd.int .i64) 2 w' w.heap.size (fun _ => True) v3_ r4 ∧ Below w.heap.size w w' := by
 have hu51 := Try.underlying51
 have HB := Zz.mk (Below.refl w.heap.size w)
 have H : ((z125.f k a0 a1 a2).bind fun bt102 => (some (bt102.1, bt102.2.1, bt102.2.2.1, bt102.2.2.2))) = some (r1, r2, r3, r4) := h
 clear h
 replace H := OB_ H
 obtain ⟨⟨t102, t103, t104, t105⟩, A40, H⟩ := H
 replace H : (some (t102, t103, t104, t105)) = some (r1, r2, r3, r4) := H
 have A4 := Zz.mk A40
 clear A40
 simp only [Option.some.injEq, Prod.mk.injEq] at H
 obtain ⟨rfl, rfl, rfl, rfl⟩ := H
 go_enter Try.func67, Try.ntmps67
 go_wp2_with (first | ((with_reducible refine qAm (N := 6) rfl ?_); refine bx_ 6 #[.int .i64 0, .int .i64 0, .int .i64 0, .slice none 0 0] 51 ?_; intro gb101 hg w5 hbox hb; have BK101 := Zz.mk (hbox); have GW101 := Zz.mk ((gw_ hg (B_ HB.out))); have GE101 := GW101; replace HB := Zz.mk (bT_ (B_ HB.out) hb); clear hb hbox hg) | ((with_reducible refine gC_ (f := 90) rfl ?_); refine GL_ (some 10) rfl rfl Try.func90 #[.int .i64 a0, .int .i64 a1, .int .i64 a2, .func (.func 91) #[] #[]] rfl (h := ?_); (with_reducible refine (z125.calls k a0 a1 a2  t102 t103 t104 t105 _ A4.out).mono ?_); rintro e w6 ⟨v106, rfl, ho0, hb⟩; refine ⟨_, rfl, ?_⟩; have HO107 := Zz.mk (Kd.R_lower ho0 (bS_ (B1_ HB.out GE101.out))); replace BK101 := Zz.mk (kb_ BK101.out hb); replace HB := Zz.mk (bT_ (B1_ HB.out GE101.out) hb); (try clear hb); (try clear ho0); obtain ⟨hcz7_0, hcz7_1, hcz7_2, hcz7_3, hfz7_0, hfz7_1, hfz7_2, hfz7_3⟩ := Z4f_ BK101.out; obtain ⟨Ao8, co8, eo8⟩ := Kd.R_slice HO107.out; subst eo8))
 refine bodyPost_ret (results_cell_row rfl _ _ gb101 51 #[.int .i64 t102, .int .i64 t103, .int .i64 t104, .slice Ao8 t105.length co8] (0, 0) _ rfl (by refine BW_ ?_; refine bP_ (cs := #[.int .i64 t102, .int .i64 t103, .int .i64 t104, .slice none 0 0]) ?_ 3 _ rfl; refine BW_ ?_; refine bP_ (cs := #[.int .i64 t102, .int .i64 t103, .int .i64 0, .slice none 0 0]) ?_ 2 _ rfl; refine BW_ ?_; refine bP_ (cs := #[.int .i64 t102, .int .i64 0, .int .i64 0, .slice none 0 0]) ?_ 1 _ rfl; refine BW_ ?_; refine bP_ (cs := #[.int .i64 0, .int .i64 0, .int .i64 0, .slice none 0 0]) ?_ 0 _ rfl; refine BW_ ?_; exact BK101.out) Try.underlying51 rfl (by kernel_rfl)) rfl ?_
 exact ⟨_, F_, by refine RW_ ?_; exact Kd.R_mono (Kd.R_far (p := ⟨gb101, 3, none⟩) (Kd.R_far (p := ⟨gb101, 2, none⟩) (Kd.R_far (p := ⟨gb101, 1, none⟩) (Kd.R_far (p := ⟨gb101, 0, none⟩) (Kd.R_types HO107.out BK101.out (by decide)) (fun _ hk => hk.2) (.int .i64 t102)) (fun _ hk => hk.2) (.int .i64 t103)) (fun _ hk => hk.2) (.int .i64 t104)) (fun _ hk => hk.2) (.slice Ao8 t105.length co8)) (fun _ hk => trivial), B1_ HB.out GE101.out⟩
def z85.f (k : Nat) (a0_0 : Int) (a0_1 : Int) (a0_2 : Int) (l0_3 : List Int) : Option (Int × Int × Int × List Int) := (z126.f k a0_0 a0_2 a0_1 a0_0 a0_1 a0_2 l0_3).bind fun bt103 => (some (bt103.1, bt103.2.1, bt103.2.2.1, bt103.2.2.2))
theorem z85.calls (k : Nat) (a0_0 : Int) (a0_1 : Int) (a0_2 : Int) (A0_3 : Option Addr) (c0_3 : Nat) (l0_3 : List Int) (r1 : Int) (r2 : Int) (r3 : Int) (r4 : List Int) (w : World) (hr0_3 : Kd.C (Kd.int .i64) w A0_3 l0_3.length l0_3) (hc0_3 : l0_3.length ≤ c0_3) (h : z85.f k a0_0 a0_1 a0_2 l0_3 = some (r1, r2, r3, r4)) :
  Calls Try.prog 85 #[.agg #[.int .i64 a0_0, .int .i64 a0_1, .int .i64 a0_2, .slice A0_3 l0_3.length c0_3]] w fun e w' => ∃ v3_ : Value, e = .returned (.agg #[.int .i64 r1, .int .i64 r2, .int .i64 r3, v3_]) ∧ Kd.R (Kd.int .i64) 2 w' w.heap.size (fun _ => True) v3_ r4 ∧ Below w.heap.size w w' := by
 have hu51 := Try.underlying51
 have HR0_3 := Zz.mk hr0_3
 have HC0_3 := Zz.mk hc0_3
 clear hr0_3 hc0_3
 have HB := Zz.mk (Below.refl w.heap.size w)
 have H : ((z126.f k a0_0 a0_2 a0_1 a0_0 a0_1 a0_2 l0_3).bind fun bt103 => (some (bt103.1, bt103.2.1, bt103.2.2.1, bt103.2.2.2))) = some (r1, r2, r3, r4) := h
 clear h
 replace H := OB_ H
 obtain ⟨⟨t103, t104, t105, t106⟩, A20, H⟩ := H
 replace H : (some (t103, t104, t105, t106)) = some (r1, r2, r3, r4) := H
 have A2 := Zz.mk A20
 clear A20
 simp only [Option.some.injEq, Prod.mk.injEq] at H
 obtain ⟨rfl, rfl, rfl, rfl⟩ := H
 go_enter Try.func85, Try.ntmps85
 go_wp2_with (first | ((with_reducible refine qAm (N := 1) rfl ?_); refine bx_ 1 #[.int .i64 a0_0, .int .i64 a0_1, .int .i64 a0_2, .slice A0_3 l0_3.length c0_3] 51 ?_; intro gb101 hg w3 hbox hb; have BK101 := Zz.mk (hbox); have GW101 := Zz.mk ((gw_ hg (B_ HB.out))); have GE101 := GW101; replace HB := Zz.mk (bT_ (B_ HB.out) hb); clear hb hbox hg) | ((with_reducible refine qAm (N := 2) rfl ?_); refine bx_ 2 #[.int .i64 0, .int .i64 0, .int .i64 0, .slice none 0 0] 51 ?_; intro gb102 hg w4 hbox hb; have BK102 := Zz.mk (hbox); have GW102 := Zz.mk ((gw_ hg (B1_ HB.out GE101.out))); have GE102 := GW102; have NB101_102 := Zz.mk ((nb_ BK101.out hg)); have NB102_101 := Zz.mk NB101_102.out.symm; replace BK101 := Zz.mk (kb_ BK101.out hb); replace HB := Zz.mk (bT_ (B1_ HB.out GE101.out) hb); clear hb hbox hg; have hnb5 := NB101_102.out; have hnc5 := NB102_101.out; obtain ⟨hcz6_0, hcz6_1, hcz6_2, hcz6_3, hfz6_0, hfz6_1, hfz6_2, hfz6_3⟩ := Z4f_ BK101.out) | ((with_reducible refine gC_ (f := 90) rfl ?_); refine GL_ (some 10) rfl rfl Try.func90 #[.int .i64 a0_0, .int .i64 a0_2, .int .i64 a0_1, .func (.func 98) #[] #[.pointer (some ⟨gb101, 0, none⟩)]] rfl (h := ?_); (with_reducible refine (z126.calls k a0_0 a0_2 a0_1 gb101 a0_0 a0_1 a0_2 A0_3 c0_3 l0_3 t103 t104 t105 t106 _ ?side1 ?side2 ?side3 A2.out).mono ?_); (case side1 => refine BW_ ?_; exact BK101.out); (case side2 => exact KC_ (Kd.C_below HR0_3.out HB.out)); (case side3 => exact HC0_3.out); rintro e w7 ⟨v107, rfl, ho0, hb⟩; refine ⟨_, rfl, ?_⟩; have HO108 := Zz.mk (Kd.R_lower ho0 (bS_ (B2_ HB.out GE101.out GE102.out))); replace BK101 := Zz.mk (kb_ BK101.out hb); replace BK102 := Zz.mk (kb_ BK102.out hb); replace HB := Zz.mk (bT_ (B2_ HB.out GE101.out GE102.out) hb); (try clear hb); (try clear ho0); obtain ⟨hcz8_0, hcz8_1, hcz8_2, hcz8_3, hfz8_0, hfz8_1, hfz8_2, hfz8_3⟩ := Z4f_ BK102.out; obtain ⟨Ao9, co9, eo9⟩ := Kd.R_slice HO108.out; subst eo9))
 refine bodyPost_ret (results_cell_row rfl _ _ gb102 51 #[.int .i64 t103, .int .i64 t104, .int .i64 t105, .slice Ao9 t106.length co9] (0, 0) _ rfl (by refine BW_ ?_; refine bP_ (cs := #[.int .i64 t103, .int .i64 t104, .int .i64 t105, .slice none 0 0]) ?_ 3 _ rfl; refine BW_ ?_; refine bP_ (cs := #[.int .i64 t103, .int .i64 t104, .int .i64 0, .slice none 0 0]) ?_ 2 _ rfl; refine BW_ ?_; refine bP_ (cs := #[.int .i64 t103, .int .i64 0, .int .i64 0, .slice none 0 0]) ?_ 1 _ rfl; refine BW_ ?_; refine bP_ (cs := #[.int .i64 0, .int .i64 0, .int .i64 0, .slice none 0 0]) ?_ 0 _ rfl; refine BW_ ?_; exact BK102.out) Try.underlying51 rfl (by kernel_rfl)) rfl ?_
 exact ⟨_, F_, by refine RW_ ?_; exact Kd.R_mono (Kd.R_far (p := ⟨gb102, 3, none⟩) (Kd.R_far (p := ⟨gb102, 2, none⟩) (Kd.R_far (p := ⟨gb102, 1, none⟩) (Kd.R_far (p := ⟨gb102, 0, none⟩) (Kd.R_types HO108.out BK102.out (by decide)) (fun _ hk => hk.2) (.int .i64 t103)) (fun _ hk => hk.2) (.int .i64 t104)) (fun _ hk => hk.2) (.int .i64 t105)) (fun _ hk => hk.2) (.slice Ao9 t106.length co9)) (fun _ hk => trivial), B2_ HB.out GE101.out GE102.out⟩
def z62.f (k : Nat) (a0_0 : Int) (a0_1 : Int) (a0_2 : Int) (l0_3 : List Int) : Option ((List (List Int))) := (z85.f k a0_0 a0_1 a0_2 l0_3).bind fun bt102 => ((z63.f k bt102.1 bt102.2.1 bt102.2.2.1 bt102.2.2.2).bind fun t108 => (some t108))
theorem z62.calls (k : Nat) (a0_0 : Int) (a0_1 : Int) (a0_2 : Int) (A0_3 : Option Addr) (c0_3 : Nat) (l0_3 : List Int) (r : List (List Int)) (w : World) (hr0_3 : Kd.C (Kd.int .i64) w A0_3 l0_3.length l0_3) (hc0_3 : l0_3.length ≤ c0_3) (h : z62.f k a0_0 a0_1 a0_2 l0_3 = some r) :
  Calls Try.prog 62 #[.agg #[.int .i64 a0_0, .int .i64 a0_1, .int .i64 a0_2, .slice A0_3 l0_3.length c0_3]] w fun e w' => ∃ v0_ : Value, e = .returned (v0_) ∧ Kd.S (Kd.slice 2 (Kd.int .i64)) 26 w' w.heap.size (fun _ => True) v0_ r ∧ Below w.heap.size w w' := by
 have hu51 := Try.underlying51
 have HR0_3 := Zz.mk hr0_3
 have HC0_3 := Zz.mk hc0_3
 clear hr0_3 hc0_3
 have HB := Zz.mk (Below.refl w.heap.size w)
 have H : ((z85.f k a0_0 a0_1 a0_2 l0_3).bind fun bt102 => ((z63.f k bt102.1 bt102.2.1 bt102.2.2.1 bt102.2.2.2).bind fun t108 => (some t108))) = some r := h
 clear h
 replace H := OB_ H
 obtain ⟨⟨t102, t103, t104, t105⟩, A20, H⟩ := H
 try dsimp only at H
 have A2 := Zz.mk A20
 clear A20
 replace H := OZ_ H
 obtain ⟨t108, A3, H⟩ := H
 obtain rfl := OI_ H
 go_enter Try.func62, Try.ntmps62
 go_wp2_with (first | ((with_reducible refine qAm (N := 1) rfl ?_); refine bx_ 1 #[.int .i64 a0_0, .int .i64 a0_1, .int .i64 a0_2, .slice A0_3 l0_3.length c0_3] 51 ?_; intro gb101 hg w4 hbox hb; have BK101 := Zz.mk (hbox); have GW101 := Zz.mk ((gw_ hg (B_ HB.out))); have GE101 := GW101; replace HB := Zz.mk (bT_ (B_ HB.out) hb); clear hb hbox hg; obtain ⟨hcz5_0, hcz5_1, hcz5_2, hcz5_3, hfz5_0, hfz5_1, hfz5_2, hfz5_3⟩ := Z4f_ BK101.out) | ((with_reducible refine gC_ (f := 85) rfl ?_); refine GL_ (some 4) rfl rfl Try.func85 #[.agg #[.int .i64 a0_0, .int .i64 a0_1, .int .i64 a0_2, .slice A0_3 l0_3.length c0_3]] rfl (h := ?_); (with_reducible refine (z85.calls k a0_0 a0_1 a0_2 _ _ l0_3 t102 t103 t104 t105 _ ?side1 ?side2 A2.out).mono ?_); (case side1 => exact KC_ (Kd.C_below HR0_3.out HB.out)); (case side2 => exact HC0_3.out); rintro e w6 ⟨v106, rfl, ho0, hb⟩; refine ⟨_, rfl, ?_⟩; have HO107 := Zz.mk (Kd.R_lower ho0 (bS_ (B1_ HB.out GE101.out))); replace BK101 := Zz.mk (kb_ BK101.out hb); replace HB := Zz.mk (bT_ (B1_ HB.out GE101.out) hb); (try clear hb); (try clear ho0); obtain ⟨Ao7, co7, eo7⟩ := Kd.R_slice HO107.out; subst eo7) | ((with_reducible refine gC_ (f := 63) rfl ?_); refine GL_ (some 5) rfl rfl Try.func63 #[.agg #[.int .i64 t102, .int .i64 t103, .int .i64 t104, .slice Ao7 t105.length co7]] rfl (h := ?_); (with_reducible refine (z63.calls k t102 t103 t104 _ _ t105 t108 _ ?side1 ?side2 A3.out).mono ?_); (case side1 => exact KC_ (Kd.R_reads' HO107.out).2.2); (case side2 => exact (Kd.R_reads' HO107.out).2.1); rintro e w8 ⟨v109, rfl, ho0, hb⟩; refine ⟨_, rfl, ?_⟩; have HO110 := Zz.mk (Kd.S_lower (Kd.S_new' ho0 (Kd.R_lt (KR_ HO107.out))) (bS_ (B1_ HB.out GE101.out))); replace HO107 := Zz.mk (Kd.R_below (KR_ HO107.out) hb); replace BK101 := Zz.mk (kb_ BK101.out hb); replace HB := Zz.mk (bT_ (B1_ HB.out GE101.out) hb); (try clear hb); (try clear ho0)))
 go_ret
 exact ⟨_, F_, by refine SW_ ?_; exact Kd.S_mono HO110.out (fun _ hk => trivial), B1_ HB.out GE101.out⟩
def z60.f (k : Nat) (a0 : Int) (a1 : Int) (l2 : List (List Int)) : Option (Int × Int × (List (List Int))) := (z61.f k l2).bind fun t102 => ((z64.f k t102 a1 a0).bind fun bt105 => (if 0 ≤ (bt105.1.length : Int) then (if (bt105.1.length : Int) ≤ (t102.length : Int) then ((z61.f k (bt105.2.2.take ((bt105.1.length : Int) : Int).toNat)).bind fun t114 => (some (a0, a1, t114))) else (none)) else (none)))
theorem z60.calls (k : Nat) (a0 : Int) (a1 : Int) (A2 : Option Addr) (c2 : Nat) (l2 : List (List Int)) (r1 : Int) (r2 : Int) (r3 : List (List Int)) (w : World) (hr2 : Kd.C (Kd.slice 2 (Kd.int .i64)) w A2 l2.length l2) (hc2 : l2.length ≤ c2) (h : z60.f k a0 a1 l2 = some (r1, r2, r3)) :
  Calls Try.prog 60 #[.int .i64 a0, .int .i64 a1, .slice A2 l2.length c2] w fun e w' => ∃ v2_ : Value, e = .returned (.agg #[.int .i64 r1, .int .i64 r2, v2_]) ∧ Kd.S (Kd.slice 2 (Kd.int .i64)) 26 w' w.heap.size (fun _ => True) v2_ r3 ∧ Below w.heap.size w w' := by
 have hu60 := Try.underlying60
 have HR2 := Zz.mk hr2
 have HC2 := Zz.mk hc2
 clear hr2 hc2
 have HB := Zz.mk (Below.refl w.heap.size w)
 have H : ((z61.f k l2).bind fun t102 => ((z64.f k t102 a1 a0).bind fun bt105 => (if 0 ≤ (bt105.1.length : Int) then (if (bt105.1.length : Int) ≤ (t102.length : Int) then ((z61.f k (bt105.2.2.take ((bt105.1.length : Int) : Int).toNat)).bind fun t114 => (some (a0, a1, t114))) else (none)) else (none)))) = some (r1, r2, r3) := h
 clear h
 replace H := OB_ H
 obtain ⟨t102, A40, H⟩ := H
 replace H : ((z64.f k t102 a1 a0).bind fun bt105 => (if 0 ≤ (bt105.1.length : Int) then (if (bt105.1.length : Int) ≤ (t102.length : Int) then ((z61.f k (bt105.2.2.take ((bt105.1.length : Int) : Int).toNat)).bind fun t114 => (some (a0, a1, t114))) else (none)) else (none))) = some (r1, r2, r3) := H
 have A4 := Zz.mk A40
 clear A40
 replace H := OB_ H
 obtain ⟨⟨t105, t108, t109⟩, A50, H⟩ := H
 replace H : (if 0 ≤ (t105.length : Int) then (if (t105.length : Int) ≤ (t102.length : Int) then ((z61.f k (t109.take ((t105.length : Int) : Int).toNat)).bind fun t114 => (some (a0, a1, t114))) else (none)) else (none)) = some (r1, r2, r3) := H
 have A5 := Zz.mk A50
 clear A50
 have c6 := O1_ H
 replace H := O2_ H
 have c6b0 := eq_true c6
 have c6b1 : decide (0 ≤ (t105.length : Int)) = true := decide_eq_true c6
 clear c6
 have c7 := O1_ H
 replace H := O2_ H
 have c7b0 := eq_true c7
 have c7b1 : decide ((t105.length : Int) ≤ (t102.length : Int)) = true := decide_eq_true c7
 clear c7
 obtain ⟨y110, hy110⟩ : ∃ y_ : List (List Int), y_ = (t109.take ((t105.length : Int) : Int).toNat) := ⟨_, rfl⟩
 replace H : ((z61.f k y110).bind fun t114 => (some (a0, a1, t114))) = some (r1, r2, r3) := Y_ hy110 H
 have Ny110 := Zz.mk hy110
 clear hy110
 replace H := OB_ H
 obtain ⟨t114, A80, H⟩ := H
 replace H : (some (a0, a1, t114)) = some (r1, r2, r3) := H
 have A8 := Zz.mk A80
 clear A80
 simp only [Option.some.injEq, Prod.mk.injEq] at H
 obtain ⟨rfl, rfl, rfl⟩ := H
 go_enter Try.func60, Try.ntmps60
 go_wp2_with (first | ((with_reducible refine qAm (N := 6) rfl ?_); refine bx_ 6 #[.int .i64 0, .int .i64 0, .slice none 0 0] 60 ?_; intro gb101 hg w9 hbox hb; have BK101 := Zz.mk (hbox); have GW101 := Zz.mk ((gw_ hg (B_ HB.out))); have GE101 := GW101; replace HB := Zz.mk (bT_ (B_ HB.out) hb); clear hb hbox hg) | ((with_reducible refine gC_ (f := 61) rfl ?_); refine GL_ (some 11) rfl rfl Try.func61 #[.slice A2 l2.length c2] rfl (h := ?_); (with_reducible refine (z61.calls k _ _ l2 t102 _ ?side1 ?side2 A4.out).mono ?_); (case side1 => exact KC_ (Kd.C_below HR2.out HB.out)); (case side2 => exact HC2.out); rintro e w10 ⟨v103, rfl, ho0, hb⟩; refine ⟨_, rfl, ?_⟩; have HO104 := Zz.mk (Kd.S_lower ho0 (bS_ (B1_ HB.out GE101.out))); replace BK101 := Zz.mk (kb_ BK101.out hb); replace HB := Zz.mk (bT_ (B1_ HB.out GE101.out) hb); (try clear hb); (try clear ho0); obtain ⟨Ao11, co11, eo11⟩ := Kd.S_slice HO104.out; subst eo11) | (go_at_call 64; (with_reducible refine (z64.calls k (fun k_ => True ∧ ∃ q_, q_ ∈ 26 :: ((Kd.slice 2 (Kd.int .i64))).E ∧ ∃ cs_, w10.heap[k_]? = some (.cells cs_ q_ (0, 0))) (.slice Ao11 t102.length co11) t102 a1 a0 t105 t108 t109 w _ ?side1 ?side2 A5.out).mono ?_); (case side1 => repeat (first | (with_reducible first | exact HB.out | apply qAx | apply qAt | apply qAq | refine qAz ?_ GE101.out) | exact HB.out)); (case side2 => exact Kd.S_N (Kd.S_pin (ok := fun k_ => True) (KS_ HO104.out))); rintro e w12 ⟨v106, rfl, ho0, hy0, hb, hkp⟩; have HO107 := Zz.mk (Kd.R_mono ho0 (fun k_ hk_ => trivial)); replace HO104 := Zz.mk (Kd.N_mono (ok' := fun k_ => k_ ≠ gb101) hy0 (fun k_ hk_ => fun e_ => Or.elim hk_ (fun hs_ => Kd.typed_ne (KB_ BK101.out) (by rw [← e_]; exact hs_.2) (by decide)) (fun hn_ => (Kd.freshB (g := gb101) (o := .cells #[.int .i64 0, .int .i64 0, .slice none 0 0] 60 (0, 0)) (KB_ BK101.out) k_ hn_) e_))); replace BK101 := Zz.mk (qDw (KB_ BK101.out) hkp (fun hs_ => Kd.typed_ne (KB_ BK101.out) hs_.2 (by decide))); replace HB := Zz.mk (hb); (try clear hb hkp hy0 ho0); obtain ⟨Ao13, co13, eo13⟩ := Kd.R_slice HO107.out; subst eo13; have hlx14 := (Kd.N_reads' HO104.out).1; have q14 : ((t105.length : Int) : Int) ≤ ((t102.length : Int) : Int) := D_; obtain ⟨i014, hi014, _, hsz14, _⟩ := info_parts qDm; have hroom14 : t102.length ≤ co11 := (Kd.N_reads' HO104.out).2.1; have hroomc14 : t109.length ≤ co11 := (by rw [← hlx14]; exact hroom14); have hC14 : Kd.C (Kd.slice 2 (Kd.int .i64)) _ Ao11 t109.length t109 := (Kd.N_reads' HO104.out).2.2; have hcut14 := qMk (P := Try.prog) 22 26 .i64 Try.underlying22 hi014 Ao11 t102.length co11 (t105.length : Int) (D_) q14 hroom14; have hr14 := Kd.C_take (m := ((t105.length : Int) : Int).toNat) hC14 (by omega); have hy14 : y110.length = ((t105.length : Int) : Int).toNat := (by rw [Ny110.out, List.length_take]; omega); rw [← Ny110.out] at hr14; rw [← hy14] at hcut14; have HR113 := Zz.mk hr14; have HC113 := Zz.mk (show y110.length ≤ co11 from by omega); clear hr14 hC14 hroom14 hi014 hsz14 hroomc14; have KY14 := Zz.mk hy14; clear hy14; have KE14 := Zz.mk hlx14; have KL14 := Zz.mk (show ((t105.length : Int) : Int).toNat ≤ t109.length from by omega); clear hlx14; replace q14 := eq_true q14) | ((with_reducible refine gC_ (f := 61) rfl ?_); refine GL_ (some 25) rfl rfl Try.func61 #[.slice Ao11 y110.length co11] rfl (h := ?_); (with_reducible refine (z61.calls k _ _ y110 t114 _ ?side1 ?side2 A8.out).mono ?_); (case side1 => exact KC_ (KC_ HR113.out)); (case side2 => exact HC113.out); rintro e w15 ⟨v115, rfl, ho0, hb⟩; refine ⟨_, rfl, ?_⟩; have HO116 := Zz.mk (Kd.S_lower (Kd.S_new' (Kd.S_new' ho0 (Kd.N_lt (KN_ HO104.out))) (Kd.R_lt (KR_ HO107.out))) (bS_ (B1_ HB.out GE101.out))); replace HO104 := Zz.mk (Kd.N_elder' (KN_ HO104.out) (Kd.S_base ho0) hb); replace HO107 := Zz.mk (Kd.R_below (KR_ HO107.out) hb); replace BK101 := Zz.mk (kb_ BK101.out hb); replace HR113 := Zz.mk (Kd.C_below (KC_ HR113.out) hb); replace HB := Zz.mk (bT_ (B1_ HB.out GE101.out) hb); (try clear hb); (try clear ho0); obtain ⟨Ao16, co16, eo16⟩ := Kd.S_slice HO116.out; subst eo16; obtain ⟨hcz17_0, hcz17_1, hcz17_2, hfz17_0, hfz17_1, hfz17_2⟩ := Z3f_ BK101.out))
 refine bodyPost_ret (results_cell_row rfl _ _ gb101 60 #[.int .i64 a0, .int .i64 a1, .slice Ao16 t114.length co16] (0, 0) _ rfl (by refine BW_ ?_; refine bP_ (cs := #[.int .i64 a0, .int .i64 a1, .slice none 0 0]) ?_ 2 _ rfl; refine BW_ ?_; refine bP_ (cs := #[.int .i64 a0, .int .i64 0, .slice none 0 0]) ?_ 1 _ rfl; refine BW_ ?_; refine bP_ (cs := #[.int .i64 0, .int .i64 0, .slice none 0 0]) ?_ 0 _ rfl; refine BW_ ?_; exact BK101.out) Try.underlying60 rfl (by kernel_rfl)) rfl ?_
 exact ⟨_, F_, by refine SW_ ?_; exact Kd.S_mono (Kd.S_far (p := ⟨gb101, 2, none⟩) (Kd.S_far (p := ⟨gb101, 1, none⟩) (Kd.S_far (p := ⟨gb101, 0, none⟩) (Kd.S_types HO116.out BK101.out (by decide)) (fun _ hk => hk.2) (.int .i64 a0)) (fun _ hk => hk.2) (.int .i64 a1)) (fun _ hk => hk.2) (.slice Ao16 t114.length co16)) (fun _ hk => trivial), B1_ HB.out GE101.out⟩
def z59.f (k : Nat) (a0_0 : Int) (a0_1 : Int) (l0_2 : List (List Int)) (l1 : List Int) : Option (Bool) := (z83.f k a0_0 a0_1 l0_2 l1).bind fun bt102 => (some bt102.2)
theorem z59.calls (k : Nat) (a0_0 : Int) (a0_1 : Int) (A0_2 : Option Addr) (c0_2 : Nat) (l0_2 : List (List Int)) (A1 : Option Addr) (c1 : Nat) (l1 : List Int) (r : Bool) (w : World) (hr0_2 : Kd.C (Kd.slice 2 (Kd.int .i64)) w A0_2 l0_2.length l0_2) (hc0_2 : l0_2.length ≤ c0_2) (hr1 : Kd.C (Kd.int .i64) w A1 l1.length l1) (hc1 : l1.length ≤ c1) (h : z59.f k a0_0 a0_1 l0_2 l1 = some r) :
  Calls Try.prog 59 #[.agg #[.int .i64 a0_0, .int .i64 a0_1, .slice A0_2 l0_2.length c0_2], .slice A1 l1.length c1] w fun e w' => e = .returned (.bool r) ∧ Below w.heap.size w w' := by
 have hu60 := Try.underlying60
 have HR0_2 := Zz.mk hr0_2
 have HC0_2 := Zz.mk hc0_2
 clear hr0_2 hc0_2
 have HR1 := Zz.mk hr1
 have HC1 := Zz.mk hc1
 clear hr1 hc1
 have HB := Zz.mk (Below.refl w.heap.size w)
 have H : ((z83.f k a0_0 a0_1 l0_2 l1).bind fun bt102 => (some bt102.2)) = some r := h
 clear h
 replace H := OB_ H
 obtain ⟨⟨t102, t105⟩, A30, H⟩ := H
 try dsimp only at H
 have A3 := Zz.mk A30
 clear A30
 obtain rfl := OI_ H
 go_enter Try.func59, Try.ntmps59
 go_wp2_with (first | ((with_reducible refine qAm (N := 2) rfl ?_); refine bx_ 2 #[.int .i64 a0_0, .int .i64 a0_1, .slice A0_2 l0_2.length c0_2] 60 ?_; intro gb101 hg w4 hbox hb; have BK101 := Zz.mk (hbox); have GW101 := Zz.mk ((gw_ hg (B_ HB.out))); have GE101 := GW101; replace HB := Zz.mk (bT_ (B_ HB.out) hb); clear hb hbox hg; obtain ⟨hcz5_0, hcz5_1, hcz5_2, hfz5_0, hfz5_1, hfz5_2⟩ := Z3f_ BK101.out) | ((with_reducible refine gC_ (f := 83) rfl ?_); refine GL_ (some 10) rfl rfl Try.func83 #[.agg #[.int .i64 a0_0, .int .i64 a0_1, .slice A0_2 l0_2.length c0_2], .slice A1 l1.length c1] rfl (h := ?_); (with_reducible refine (z83.calls k a0_0 a0_1 _ _ l0_2 (fun k_ => k_ < w.heap.size) _ _ l1 t102 t105 _ ?side1 ?side2 ?side3 A3.out).mono ?_); (case side1 => exact KC_ (Kd.C_below HR0_2.out HB.out)); (case side2 => exact HC0_2.out); (case side3 => exact Kd.V_mk HC1.out (Kd.F_below (Kd.C_F (Kd.heap_int .i64) HR1.out) (B1_ HB.out GE101.out))); rintro e w6 ⟨v103, rfl, ho0, hb⟩; refine ⟨_, rfl, ?_⟩; have HO104 := Zz.mk (Kd.R_lower (Kd.R_mono (ok' := fun k_ => True) ho0 (fun _ hk_ => trivial)) (bS_ (B1_ HB.out GE101.out))); replace BK101 := Zz.mk (kb_ BK101.out hb); replace HB := Zz.mk (bT_ (B1_ HB.out GE101.out) hb); (try clear hb); (try clear ho0)))
 go_ret
 exact ⟨F_, B1_ HB.out GE101.out⟩
def z33.f (k : Nat) (a0_0 : Int) (a0_1 : Int) (a0_2 : Int) (l0_3 : List Int) : Option (Int) := (z50.f k a0_0 a0_1 a0_2 l0_3).bind fun bt101 => (some (bt101.2.2.2.2.1.length : Int))
theorem z33.calls (k : Nat) (gp0 : Nat) (a0_0 : Int) (a0_1 : Int) (a0_2 : Int) (A0_3 : Option Addr) (c0_3 : Nat) (l0_3 : List Int) (r : Int) (w : World) (hbp0 : w.heap[gp0]? = some (.cells #[.int .i64 a0_0, .int .i64 a0_1, .int .i64 a0_2, .slice A0_3 l0_3.length c0_3] 51 (0, 0))) (hr0_3 : Kd.C (Kd.int .i64) w A0_3 l0_3.length l0_3) (hc0_3 : l0_3.length ≤ c0_3) (h : z33.f k a0_0 a0_1 a0_2 l0_3 = some r) :
  Calls Try.prog 33 #[.pointer (some ⟨gp0, 0, none⟩)] w fun e w' => e = .returned (.int .i64 r) ∧ Below w.heap.size w w' := by
 have hu51 := Try.underlying51
 have HR0_3 := Zz.mk hr0_3
 have HC0_3 := Zz.mk hc0_3
 clear hr0_3 hc0_3
 have BK50 := Zz.mk hbp0
 clear hbp0
 have HB := Zz.mk (Below.refl w.heap.size w)
 have H : ((z50.f k a0_0 a0_1 a0_2 l0_3).bind fun bt101 => (some (bt101.2.2.2.2.1.length : Int))) = some r := h
 clear h
 replace H := OB_ H
 obtain ⟨⟨t101, t102, t103, t104, t107, t110⟩, A20, H⟩ := H
 try dsimp only at H
 have A2 := Zz.mk A20
 clear A20
 obtain rfl := OI_ H
 go_enter Try.func33, Try.ntmps33
 go_wp2_with (first | ((with_reducible refine gC_ (f := 50) rfl ?_); refine GL_ (some 8) rfl rfl Try.func50 #[.pointer (some ⟨gp0, 0, none⟩)] rfl (h := ?_); (with_reducible refine (z50.calls k gp0 a0_0 a0_1 a0_2 A0_3 c0_3 l0_3 t101 t102 t103 t104 t107 t110 _ ?side1 ?side2 ?side3 A2.out).mono ?_); (case side1 => refine BW_ ?_; exact BK50.out); (case side2 => exact KC_ HR0_3.out); (case side3 => exact HC0_3.out); rintro e w3 ⟨v105, v108, rfl, ho0, ho1, hb⟩; refine ⟨_, rfl, ?_⟩; have HO106 := Zz.mk (Kd.R_lower ho0 (bS_ (B_ HB.out))); have HO109 := Zz.mk (Kd.R_lower ho1 (bS_ (B_ HB.out))); replace BK50 := Zz.mk (kb_ BK50.out hb); replace HB := Zz.mk (bT_ (B_ HB.out) hb); (try clear hb); (try clear ho0); (try clear ho1)) | ((with_reducible refine qAm (N := 3) rfl ?_); refine bx_ 3 #[.int .i64 0, .int .i64 0, .int .i64 0, .slice none 0 0] 51 ?_; intro gb111 hg w4 hbox hb; have BK111 := Zz.mk (hbox); have GW111 := Zz.mk ((gw_ hg (B_ HB.out))); have GE111 := GW111; have NB50_111 := Zz.mk ((nb_ BK50.out hg)); have NB111_50 := Zz.mk NB50_111.out.symm; replace HO106 := Zz.mk (Kd.R_below (KR_ HO106.out) hb); replace HO109 := Zz.mk (Kd.R_below (KR_ HO109.out) hb); replace BK50 := Zz.mk (kb_ BK50.out hb); replace HB := Zz.mk (bT_ (B_ HB.out) hb); clear hb hbox hg; have hnb5 := NB111_50.out; have hnc5 := NB50_111.out; obtain ⟨hcz6_0, hcz6_1, hcz6_2, hcz6_3, hfz6_0, hfz6_1, hfz6_2, hfz6_3⟩ := Z4f_ BK111.out; obtain ⟨Ao7, co7, eo7⟩ := Kd.R_slice HO106.out; subst eo7; obtain ⟨Ao8, co8, eo8⟩ := Kd.R_slice HO109.out; subst eo8))
 go_ret
 exact ⟨F_, B1_ HB.out GE111.out⟩
end Go.Proofs.Ytpgjfppbbbnclaa.B
