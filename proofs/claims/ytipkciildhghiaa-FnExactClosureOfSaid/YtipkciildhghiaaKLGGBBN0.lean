/- Printed proofs of functions of the program and of the reference, by a program of this work over the kit's printer. -/
import Derived.Test.YtipkciildhghiaaKAKNFHM0
import Derived.Test.YtipkciildhghiaaKBHGPMJ0
import Derived.Test.YtipkciildhghiaaKHCHFOP0
import Derived.Test.YtipkciildhghiaaKIMPFPI0
import Derived.Test.YtipkciildhghiaaKJDBJCM0
import Derived.Test.YtipkciildhghiaaKW0
set_option maxHeartbeats 8000000
set_option maxRecDepth 100000
namespace Go.Proofs.Ytipkciildhghiaa.B
open Go.RowKit Go.Proofs.YtipkciildhghiaaW.PrintWords Go.Proofs.YtipkciildhghiaaW.PrintLast Go.Proofs.YtipkciildhghiaaW.PrintMore
attribute [local go_sem] max2_int min2_int max_two min_two max_three min_three max_four min_four
set_option linter.unusedVariables false
set_option linter.unusedSimpArgs false
def z78.l0 : Nat → List (List Int) → Int → Option ((List (List Int)))
 | 0, _, _ => none
 | k + 1, x3, x4 => if x4 < (x3.length : Int) then (if 0 ≤ x4 then ((z110.f k (rI_ x3 x4)).bind fun t106 => (if x3.length + t106.length < 5864062014805 then (z78.l0 k (x3 ++ t106) (wrap64 (x4 + 1))) else (none))) else (none)) else ((impl_inOrder.f x3).bind fun t112 => (some t112))
def z78.f (k : Nat) (l0 : List (List Int)) : Option ((List (List Int))) := (z85.f k l0).bind fun t102 => (z78.l0 k t102 0)
theorem z78.calls (k : Nat) (A0 : Option Addr) (c0 : Nat) (l0 : List (List Int)) (r : List (List Int)) (w : World) (hr0 : Kd.C (Kd.slice 2 (Kd.int .i64)) w A0 l0.length l0) (hc0 : l0.length ≤ c0) (h : z78.f k l0 = some r) :
  Calls Try.prog 78 #[.slice A0 l0.length c0] w fun e w' => ∃ v0_ : Value, e = .returned (.agg #[v0_]) ∧ Kd.S (Kd.slice 2 (Kd.int .i64)) 26 w' w.heap.size (fun _ => True) v0_ r ∧ Below w.heap.size w w' := by
 have hu29 := Try.underlying29
 have HR0 := Zz.mk hr0
 have HC0 := Zz.mk hc0
 clear hr0 hc0
 have HB := Zz.mk (Below.refl w.heap.size w)
 have H : ((z85.f k l0).bind fun t102 => (z78.l0 k t102 0)) = some r := h
 clear h
 replace H := OZ_ H
 obtain ⟨t102, A2, H⟩ := H
 have H' := Zz.mk H
 clear H
 go_enter Try.func78, Try.ntmps78
 go_wp2_with (first | ((with_reducible refine gate_dst (N := 2) rfl ?_); refine bx_ 2 #[.slice none 0 0] 29 ?_; intro gb101 hg w3 hbox hb; have BK101 := Zz.mk (hbox); have GW101 := Zz.mk ((gw_ hg (B_ HB.out))); have GE101 := GW101; replace HB := Zz.mk (bT_ (B_ HB.out) hb); clear hb hbox hg) | ((with_reducible refine gC_ (f := 85) rfl ?_); refine GL_ (some 6) rfl rfl Try.func85 #[.slice A0 l0.length c0] rfl (h := ?_); (with_reducible refine (z85.calls k _ _ l0 t102 _ ?side1 ?side2 A2.out).mono ?_); (case side1 => exact KC_ (Kd.C_below HR0.out HB.out)); (case side2 => exact HC0.out); rintro e w4 ⟨v103, rfl, ho0, hb⟩; refine ⟨_, rfl, ?_⟩; have HO104 := Zz.mk (Kd.N_lower (Kd.N_mono (ok' := fun k_ => k_ ≠ gb101) (Kd.S_N (Kd.S_bound ho0)) (fun k_ hk_ => (Kd.freshB (g := gb101) (o := .cells #[.slice none 0 0] 29 (0, 0)) (KB_ BK101.out) k_ hk_.2.1))) (bS_ (B1_ HB.out GE101.out))); replace BK101 := Zz.mk (kb_ BK101.out hb); replace HB := Zz.mk (bT_ (B1_ HB.out GE101.out) hb); (try clear hb); (try clear ho0)))
 go_loopg [3, 4] k (fun kq v3 v4 w' => ∃ (x3_1 : List (List Int)) (x4_1 : Int), v4 = .int .i64 x4_1 ∧ Zz (z78.l0 kq x3_1 x4_1 = some r) ∧ Zz (kq ≤ k) ∧ Zz (Kd.N (Kd.slice 2 (Kd.int .i64)) 26 w' w.heap.size (fun k_ => k_ ≠ gb101) v3 x3_1) ∧ Zz (w'.heap[gb101]? = some (.cells #[(.slice none 0 0)] 29 (0, 0))) ∧ Zz (Below w.heap.size w w'))
 case atStart => exact ⟨(t102), (0), E_, H', ⟨Nat.le_refl _⟩, ⟨KN_ HO104.out⟩, ⟨KB_ BK101.out⟩, ⟨B1_ HB.out GE101.out⟩⟩
 case round =>
  clear H'
  obtain ⟨x3_1, x4_1, rfl, HA, HK1, HO_3, BK101, HB⟩ := hrel
  cases gk with
  | zero => exact absurd HA.out (by simp [z78.l0])
  | succ k1 =>
   have H := HA.out
   clear HA
   simp only [z78.l0] at H
   by_cases c5 : x4_1 < (x3_1.length : Int)
   ·rw [if_pos c5] at H
    have c5b0 : decide (x4_1 < (x3_1.length : Int)) = true := decide_eq_true c5
    clear c5
    have c6b0 := O3_ H
    replace H := O2_ H
    replace H := OZ_ H
    obtain ⟨t106, A7, H⟩ := H
    have c8 := O1_ H
    replace H := O2_ H
    have LMc8 := Zz.mk c8
    clear c8
    obtain ⟨y109, hy109⟩ : ∃ y_ : List (List Int), y_ = (x3_1 ++ t106) := ⟨_, rfl⟩
    replace H : (z78.l0 k1 y109 (wrap64 (x4_1 + 1))) = some r := Y_ hy109 H
    have Ny109 := Zz.mk hy109
    clear hy109
    have H' := Zz.mk H
    clear H
    obtain ⟨Ao9, co9, eo9⟩ := Kd.N_slice HO_3.out
    subst eo9
    have p105 : 0 ≤ (x4_1 : Int) := D_
    have q105 : x4_1 < (x3_1.length : Int) := D_
    obtain ⟨ad105, A105_0, c105_0, e105, hx105_0, hl105_0, hi105_0⟩ := at_ListInt (Kd.N_reads' HO_3.out).2.2 x4_1 p105 q105
    cases e105
    obtain ⟨ce105, hce105, hMe105, hcc105⟩ := Kd.N_get HO_3.out [] x4_1 p105 (by first | exact q105 | exact D_ | (have e_ := (Kd.N_reads' HO_3.out).1; omega))
    obtain ⟨ua105_0, uc105_0, rfl, ul105_0, ge105_0⟩ := Kd.FK_slice_open hMe105
    have hv105_0 := hcc105 0 _ rfl
    rw [Nat.add_zero, show ((Kd.slice 2 (Kd.int .i64))).sz = 1 from rfl, Nat.mul_one] at hv105_0
    replace hv105_0 := Option.some.inj (hv105_0.symm.trans hx105_0)
    injection hv105_0 with hva_ hvn_ hvc_
    rw [hva_] at ge105_0
    rw [hvc_] at ul105_0
    have HL105_0 := Zz.mk (show Kd.V (Kd.int .i64) 2 _ w.heap.size _ _ (rI_ x3_1 x4_1) from Kd.V_mk ul105_0 ge105_0)
    clear hva_ hvn_ hvc_ ge105_0 ul105_0
    clear hcc105 hce105
    have HR105_0 := Zz.mk hi105_0
    have HC105_0 := Zz.mk hl105_0
    clear hi105_0 hl105_0
    replace p105 := eq_true p105
    replace q105 := eq_true q105
    go_wp2_with (first | ((with_reducible refine gC_ (f := 110) rfl ?_); refine GL_ (some 18) rfl rfl Try.func110 #[.slice A105_0 (rI_ x3_1 x4_1).length c105_0] rfl (h := ?_); (with_reducible refine (z110.calls k1 (fun k_ => (k_ ≠ gb101 ∧ some k_ ≠ (.slice (some ad105) x3_1.length co9 : Value).ownBlock)) _ _ (rI_ x3_1 x4_1) t106 _ ?side1 A7.out).mono ?_); (case side1 => exact HL105_0.out); rintro e w10 ⟨v107, rfl, ho0, hb⟩; refine ⟨_, rfl, ?_⟩; have HO108 := Zz.mk (Kd.N_lower (Kd.N_mono (ok' := fun k_ => some k_ ≠ (.slice (some ad105) x3_1.length co9 : Value).ownBlock ∧ k_ ≠ gb101) ho0 (fun k_ hk_ => ⟨Or.elim hk_ (fun hs_ => hs_.2) (fun hn_ => (Kd.fresh' (Kd.N_lt (KN_ HO_3.out)) k_ hn_)), Or.elim hk_ (fun hs_ => hs_.1) (fun hn_ => (Kd.freshB (g := gb101) (o := .cells #[.slice none 0 0] 29 (0, 0)) (KB_ BK101.out) k_ hn_))⟩)) (bS_ (B1_ HB.out GE101.out))); replace HO_3 := Zz.mk (Kd.N_elder' (KN_ HO_3.out) (Kd.N_base ho0) hb); replace HL105_0 := Zz.mk (Kd.V_elder' (by refine VW_ ?_; exact HL105_0.out) (Kd.N_base ho0) hb); replace BK101 := Zz.mk (kb_ BK101.out hb); replace HR105_0 := Zz.mk (Kd.C_below (KC_ HR105_0.out) hb); replace HB := Zz.mk (bT_ (B1_ HB.out GE101.out) hb); (try clear hb); (try clear ho0); obtain ⟨Ao12, co12, eo12⟩ := Kd.N_slice HO108.out; subst eo12) | ((with_reducible refine gate_builtin (b := .append) (xs := #[.tmp 13, .tmp 18]) rfl ?_); at_builtin; refine Kd.N_append_rows (Kd.slice 2 (Kd.int .i64)) (w0 := w) w.heap.size rfl (.tmp 13) (.tmp 18) 22 26 (.slice none 0 0) 24 rfl Try.underlying22 info26 rfl (by decide) (by omega) (.slice (some ad105) x3_1.length co9) x3_1 t106 _ _ _ (fun k_ => k_ ≠ gb101) (fun k_ => ((fun k_ => k_ ≠ gb101)) k_ ∧ some k_ ≠ (.slice (some ad105) x3_1.length co9 : Value).ownBlock) rfl rfl ?aO ?aR (fun _ hk => hk) ?aF ?aB ?aS ?aL ?_; (case aR => exact (by skip; exact Kd.N_F (Kd.N_mono (ok' := (fun k_ => ((fun k_ => k_ ≠ gb101)) k_ ∧ some k_ ≠ (.slice (some ad105) x3_1.length co9 : Value).ownBlock)) (HO108.out) (fun k_ hk => ⟨hk.2, hk.1⟩)))); (case aB => exact (B1_ HB.out GE101.out)); (case aF => exact (fun k_ hk => Kd.freshB (g := gb101) (o := .cells #[.slice none 0 0] 29 (0, 0)) (KB_ BK101.out) k_ hk)); (case aO => exact (by refine NW_ ?_; exact Kd.N_mono HO_3.out (fun _ hk => hk.1))); (case aS => exact (bS_ (B1_ HB.out GE101.out))); (case aL => have := LMc8.out; omega); intro v110 w11 ho hb hg hat; rw [← Ny109.out] at ho; replace BK101 := Zz.mk (blk_grown (g := gb101) (o := .cells #[.slice none 0 0] 29 (0, 0)) (KB_ BK101.out) hg (Kd.N_ne HO_3.out BK101.out (by decide))); replace HL105_0 := Zz.mk (Kd.V_afterv (ok := (fun k_ => some k_ ≠ (.slice Ao12 t106.length co12 : Value).ownBlock ∧ k_ ≠ gb101)) (by refine VW_ ?_; exact Kd.V_mono HL105_0.out (fun _ hk => ⟨⟨hk.2, hk.1.1⟩, hk.1.2⟩)) hg hat); replace HO108 := Zz.mk (Kd.N_afterv (ok := (fun k_ => k_ ≠ gb101)) (by refine NW_ ?_; exact Kd.N_mono HO108.out (fun _ hk => ⟨hk.2, hk.1⟩)) hg hat); replace HB := Zz.mk (hb); have HO111 := Zz.mk (ho); clear HO_3; clear ho hb hg hat))
    go_roundg k1
    case measure => exact Q1_ HK1
    case rel => exact ⟨(y109), (wrap64 (x4_1 + 1)), E_, H', ⟨Q1_ HK1⟩, ⟨KN_ HO111.out⟩, ⟨KB_ BK101.out⟩, ⟨B1_ HB.out GE101.out⟩⟩
   rw [if_neg c5] at H
   have c5b0 : decide (x4_1 < (x3_1.length : Int)) = false := decide_eq_false c5
   clear c5
   replace H := OZ_ H
   obtain ⟨t112, A13, H⟩ := H
   obtain rfl := OI_ H
   obtain ⟨Ao14, co14, eo14⟩ := Kd.N_slice HO_3.out
   subst eo14
   go_wp2_with (first | ((with_reducible refine gC_ (f := 64) rfl ?_); refine GL_ (some 21) rfl rfl Try.func64 #[.slice Ao14 x3_1.length co14] rfl (h := ?_); (with_reducible refine (impl_inOrder.calls _ _ x3_1 t112 _ ?side1 ?side2 A13.out).mono ?_); (case side1 => exact KC_ (Kd.N_reads' HO_3.out).2.2); (case side2 => exact (Kd.N_reads' HO_3.out).2.1); rintro e w15 ⟨v113, rfl, ho0, hb⟩; refine ⟨_, rfl, ?_⟩; have HO114 := Zz.mk (Kd.S_lower (Kd.S_new' ho0 (Kd.N_lt (KN_ HO_3.out))) (bS_ (B1_ HB.out GE101.out))); replace HO_3 := Zz.mk (Kd.N_elder' (KN_ HO_3.out) (Kd.S_base ho0) hb); replace BK101 := Zz.mk (kb_ BK101.out hb); replace HB := Zz.mk (bT_ (B1_ HB.out GE101.out) hb); (try clear hb); (try clear ho0); obtain ⟨Ao16, co16, eo16⟩ := Kd.S_slice HO114.out; subst eo16; obtain ⟨hcz17_0, hfz17_0⟩ := Z1f_ BK101.out))
   refine bodyPost_ret (results_cell_row rfl _ _ gb101 29 #[.slice Ao16 t112.length co16] (0, 0) _ rfl (by refine BW_ ?_; refine bP_ (cs := #[.slice none 0 0]) ?_ 0 _ rfl; refine BW_ ?_; exact BK101.out) Try.underlying29 rfl (by kernel_rfl)) rfl ?_
   exact ⟨_, F_, by refine SW_ ?_; exact Kd.S_mono (Kd.S_far (p := ⟨gb101, 0, none⟩) (Kd.S_types HO114.out BK101.out (by decide)) (fun _ hk => hk.2) (.slice Ao16 t112.length co16)) (fun _ hk => trivial), B1_ HB.out GE101.out⟩
def z76.f (k : Nat) (l0 : List Int) : Option (Bool) := (z77.f k l0).bind fun t101 => (some (!t101))
theorem z76.calls (k : Nat) (A0 : Option Addr) (c0 : Nat) (l0 : List Int) (r : Bool) (w : World) (hr0 : Kd.C (Kd.int .i64) w A0 l0.length l0) (hc0 : l0.length ≤ c0) (h : z76.f k l0 = some r) :
  Calls Try.prog 76 #[.slice A0 l0.length c0] w fun e w' => e = .returned (.bool r) ∧ Below w.heap.size w w' := by
 have HR0 := Zz.mk hr0
 have HC0 := Zz.mk hc0
 clear hr0 hc0
 have HB := Zz.mk (Below.refl w.heap.size w)
 have H : ((z77.f k l0).bind fun t101 => (some (!t101))) = some r := h
 clear h
 replace H := OZ_ H
 obtain ⟨t101, A2, H⟩ := H
 obtain rfl := OI_ H
 go_enter Try.func76, Try.ntmps76
 go_wp2_with (first | ((with_reducible refine gC_ (f := 77) rfl ?_); refine GL_ (some 4) rfl rfl Try.func77 #[.slice A0 l0.length c0] rfl (h := ?_); (with_reducible refine (z77.calls k _ _ l0 t101 _ ?side1 ?side2 A2.out).mono ?_); (case side1 => exact KC_ HR0.out); (case side2 => exact HC0.out); rintro e w3 ⟨rfl, hb⟩; refine ⟨_, rfl, ?_⟩; replace HB := Zz.mk (bT_ (B_ HB.out) hb); (try clear hb)))
 go_ret
 exact ⟨F_, B_ HB.out⟩
def z235.l0 : Nat → List (List Int) → Int → Int → Option (Int)
 | 0, _, _, _ => none
 | k + 1, x0, x7, x8 => if x8 < x7 then (if 0 ≤ x8 then (if x8 < (x0.length : Int) then ((z76.f k (rI_ x0 x8)).bind fun t102 => (if t102 = true then (some x8) else (z235.l0 k x0 x7 (wrap64 (x8 + 1))))) else (none)) else (none)) else (some (-1))
def z235.f (k : Nat) (l0 : List (List Int))  : Option (Int) := z235.l0 k l0 (l0.length : Int) 0
theorem z235.calls (k : Nat) (A0 : Option Addr) (c0 : Nat) (l0 : List (List Int))  (r : Int) (w : World) (hr0 : Kd.C (Kd.slice 2 (Kd.int .i64)) w A0 l0.length l0) (hc0 : l0.length ≤ c0) (h : z235.f k l0 = some r) :
  Calls Try.prog 124 #[.slice A0 l0.length c0, .func (.func 76) #[] #[]] w fun e w' => e = .returned (.int .i64 r) ∧ Below w.heap.size w w' := by
 have HR0 := Zz.mk hr0
 have HC0 := Zz.mk hc0
 clear hr0 hc0
 have HB := Zz.mk (Below.refl w.heap.size w)
 have H : (z235.l0 k l0 (l0.length : Int) 0) = some r := h
 clear h
 have H' := Zz.mk H
 clear H
 go_enter Try.func124, Try.ntmps124
 go_wp2
 go_loopg [8] k (fun kq v8 w' => ∃ (x8_1 : Int), v8 = .int .i64 x8_1 ∧ Zz (z235.l0 kq l0 (l0.length : Int) x8_1 = some r) ∧ Zz (kq ≤ k) ∧ Zz (Below w.heap.size w w'))
 case atStart => exact ⟨(0), E_, H', ⟨Nat.le_refl _⟩, ⟨B_ HB.out⟩⟩
 case round =>
  clear H'
  obtain ⟨x8_1, rfl, HA, HK1, HB⟩ := hrel
  cases gk with
  | zero => exact absurd HA.out (by simp [z235.l0])
  | succ k1 =>
   have H := HA.out
   clear HA
   simp only [z235.l0] at H
   by_cases c3 : x8_1 < (l0.length : Int)
   ·rw [if_pos c3] at H
    have c3b0 : decide (x8_1 < (l0.length : Int)) = true := decide_eq_true c3
    clear c3
    have c4b0 := O3_ H
    replace H := O2_ H
    have c5b0 := O3_ H
    replace H := O2_ H
    replace H := OZ_ H
    obtain ⟨t102, A6, H⟩ := H
    by_cases c7 : t102 = true
    ·subst c7
     replace H := T_ H
     obtain rfl := OI_ H
     have p101 : 0 ≤ (x8_1 : Int) := D_
     have q101 : x8_1 < (l0.length : Int) := D_
     obtain ⟨ad101, A101_0, c101_0, e101, hx101_0, hl101_0, hi101_0⟩ := at_ListInt HR0.out x8_1 p101 q101
     cases e101
     replace hx101_0 := (HB.out.cell (World.block_lt_of_cell? w _ hx101_0)).trans hx101_0
     have HR101_0 := Zz.mk hi101_0
     have HC101_0 := Zz.mk hl101_0
     clear hi101_0 hl101_0
     replace p101 := eq_true p101
     replace q101 := eq_true q101
     go_wp2_with (first | (go_at_call 76; (with_reducible refine (z76.calls k1 _ _ (rI_ l0 x8_1) true _ ?side1 ?side2 A6.out).mono ?_); (case side1 => exact KC_ (Kd.C_below HR101_0.out HB.out)); (case side2 => exact HC101_0.out); rintro e w8 ⟨rfl, hb⟩; replace HB := Zz.mk (bT_ (B_ HB.out) hb); (try clear hb)))
     go_ret
     exact ⟨F_, B_ HB.out⟩
    replace c7 := Bool.eq_false_iff.mpr c7
    subst c7
    replace H := N_ H
    have H' := Zz.mk H
    clear H
    have p101 : 0 ≤ (x8_1 : Int) := D_
    have q101 : x8_1 < (l0.length : Int) := D_
    obtain ⟨ad101, A101_0, c101_0, e101, hx101_0, hl101_0, hi101_0⟩ := at_ListInt HR0.out x8_1 p101 q101
    cases e101
    replace hx101_0 := (HB.out.cell (World.block_lt_of_cell? w _ hx101_0)).trans hx101_0
    have HR101_0 := Zz.mk hi101_0
    have HC101_0 := Zz.mk hl101_0
    clear hi101_0 hl101_0
    replace p101 := eq_true p101
    replace q101 := eq_true q101
    go_wp2_with (first | (go_at_call 76; (with_reducible refine (z76.calls k1 _ _ (rI_ l0 x8_1) false _ ?side1 ?side2 A6.out).mono ?_); (case side1 => exact KC_ (Kd.C_below HR101_0.out HB.out)); (case side2 => exact HC101_0.out); rintro e w9 ⟨rfl, hb⟩; replace HB := Zz.mk (bT_ (B_ HB.out) hb); (try clear hb)))
    go_roundg k1
    case measure => exact Q1_ HK1
    case rel => exact ⟨(wrap64 (x8_1 + 1)), E_, H', ⟨Q1_ HK1⟩, ⟨B_ HB.out⟩⟩
   rw [if_neg c3] at H
   have c3b0 : decide (x8_1 < (l0.length : Int)) = false := decide_eq_false c3
   clear c3
   obtain rfl := OI_ H
   go_wp2
   go_ret
   exact ⟨F_, B_ HB.out⟩
def z234.f (k : Nat) (l0 : List (List Int))  : Option (Bool) := (z235.f k l0).bind fun t101 => (some (decide (t101 ≥ 0)))
theorem z234.calls (k : Nat) (A0 : Option Addr) (c0 : Nat) (l0 : List (List Int))  (r : Bool) (w : World) (hr0 : Kd.C (Kd.slice 2 (Kd.int .i64)) w A0 l0.length l0) (hc0 : l0.length ≤ c0) (h : z234.f k l0 = some r) :
  Calls Try.prog 75 #[.slice A0 l0.length c0, .func (.func 76) #[] #[]] w fun e w' => e = .returned (.bool r) ∧ Below w.heap.size w w' := by
 have HR0 := Zz.mk hr0
 have HC0 := Zz.mk hc0
 clear hr0 hc0
 have HB := Zz.mk (Below.refl w.heap.size w)
 have H : ((z235.f k l0).bind fun t101 => (some (decide (t101 ≥ 0)))) = some r := h
 clear h
 replace H := OZ_ H
 obtain ⟨t101, A3, H⟩ := H
 obtain rfl := OI_ H
 go_enter Try.func75, Try.ntmps75
 go_wp2_with (first | ((with_reducible refine gC_ (f := 124) rfl ?_); refine GL_ (some 7) rfl rfl Try.func124 #[.slice A0 l0.length c0, .func (.func 76) #[] #[]] rfl (h := ?_); (with_reducible refine (z235.calls k _ _ l0  t101 _ ?side1 ?side2 A3.out).mono ?_); (case side1 => exact KC_ HR0.out); (case side2 => exact HC0.out); rintro e w4 ⟨rfl, hb⟩; refine ⟨_, rfl, ?_⟩; replace HB := Zz.mk (bT_ (B_ HB.out) hb); (try clear hb)))
 go_ret
 exact ⟨F_, B_ HB.out⟩
def z32.f (k : Nat) (l0 : List (List Int)) : Option ((List (List Int)) × Int) := (z234.f k l0).bind fun t102 => (if t102 = true then (some (([] : List (List Int)), 1)) else (if (l0.length : Int) > 48 then (some (([] : List (List Int)), 5)) else ((z78.f k l0).bind fun t103 => (if (t103.length : Int) > 48 then (some (([] : List (List Int)), 5)) else (some (t103, 0))))))
theorem z32.calls (k : Nat) (A0 : Option Addr) (c0 : Nat) (l0 : List (List Int)) (r1 : List (List Int)) (r2 : Int) (w : World) (hr0 : Kd.C (Kd.slice 2 (Kd.int .i64)) w A0 l0.length l0) (hc0 : l0.length ≤ c0) (h : z32.f k l0 = some (r1, r2)) :
  Calls Try.prog 32 #[.slice A0 l0.length c0] w fun e w' => ∃ v0_ : Value, e = .returned (.tuple #[.agg #[v0_], .int .i64 r2]) ∧ Kd.S (Kd.slice 2 (Kd.int .i64)) 26 w' w.heap.size (fun _ => True) v0_ r1 ∧ Below w.heap.size w w' := by
 have hu29 := Try.underlying29
 have HR0 := Zz.mk hr0
 have HC0 := Zz.mk hc0
 clear hr0 hc0
 have HB := Zz.mk (Below.refl w.heap.size w)
 have H : ((z234.f k l0).bind fun t102 => (if t102 = true then (some (([] : List (List Int)), 1)) else (if (l0.length : Int) > 48 then (some (([] : List (List Int)), 5)) else ((z78.f k l0).bind fun t103 => (if (t103.length : Int) > 48 then (some (([] : List (List Int)), 5)) else (some (t103, 0))))))) = some (r1, r2) := h
 clear h
 replace H := OB_ H
 obtain ⟨t102, A20, H⟩ := H
 replace H : (if t102 = true then (some (([] : List (List Int)), 1)) else (if (l0.length : Int) > 48 then (some (([] : List (List Int)), 5)) else ((z78.f k l0).bind fun t103 => (if (t103.length : Int) > 48 then (some (([] : List (List Int)), 5)) else (some (t103, 0)))))) = some (r1, r2) := H
 have A2 := Zz.mk A20
 clear A20
 by_cases c3 : t102 = true
 ·subst c3
  have H1 : (some (([] : List (List Int)), 1)) = some (r1, r2) := by rw [if_pos rfl] at H; exact H
  clear H
  have H := H1
  clear H1
  simp only [Option.some.injEq, Prod.mk.injEq] at H
  obtain ⟨rfl, rfl⟩ := H
  go_enter Try.func32, Try.ntmps32
  go_wp2_with (first | ((with_reducible refine gate_dst (N := 2) rfl ?_); refine bx_ 2 #[.slice none 0 0] 29 ?_; intro gb101 hg w4 hbox hb; have BK101 := Zz.mk (hbox); have GW101 := Zz.mk ((gw_ hg (B_ HB.out))); have GE101 := GW101; replace HB := Zz.mk (bT_ (B_ HB.out) hb); clear hb hbox hg) | ((with_reducible refine gC_ (f := 75) rfl ?_); refine GL_ (some 6) rfl rfl Try.func75 #[.slice A0 l0.length c0, .func (.func 76) #[] #[]] rfl (h := ?_); (with_reducible refine (z234.calls k _ _ l0  true _ ?side1 ?side2 A2.out).mono ?_); (case side1 => exact KC_ (Kd.C_below HR0.out HB.out)); (case side2 => exact HC0.out); rintro e w5 ⟨rfl, hb⟩; refine ⟨_, rfl, ?_⟩; replace BK101 := Zz.mk (kb_ BK101.out hb); replace HB := Zz.mk (bT_ (B1_ HB.out GE101.out) hb); (try clear hb); obtain ⟨hcz6_0, hfz6_0⟩ := Z1f_ BK101.out))
  refine bodyPost_ret (results_ct rfl _ _ gb101 29 #[.slice none 0 0] (0, 0) _ rfl (by refine BW_ ?_; refine bP_ (cs := #[.slice none 0 0]) ?_ 0 _ rfl; refine BW_ ?_; exact BK101.out) Try.underlying29 rfl (by kernel_rfl)) rfl ?_
  exact ⟨_, F_, by first | exact Kd.S_nil _ _ _ _ _ | exact Kd.N_nil _ _ _ _ _ | exact Kd.V_nil _ _ _ _ _ | exact Kd.Q_nil _ _ _ _ _ | exact Kd.R_nil _ _ _ _ _, B1_ HB.out GE101.out⟩
 replace c3 := Bool.eq_false_iff.mpr c3
 subst c3
 have H1 : (if (l0.length : Int) > 48 then (some (([] : List (List Int)), 5)) else ((z78.f k l0).bind fun t103 => (if (t103.length : Int) > 48 then (some (([] : List (List Int)), 5)) else (some (t103, 0))))) = some (r1, r2) := by rw [if_neg (show ¬ (false = true) by decide)] at H; exact H
 clear H
 have H := H1
 clear H1
 by_cases c7 : (l0.length : Int) > 48
 ·rw [if_pos c7] at H
  have c7b0 : decide (48 < (l0.length : Int)) = true := decide_eq_true c7
  have c7b1 : decide (48 < l0.length) = true := decide_eq_true (by omega)
  clear c7
  simp only [Option.some.injEq, Prod.mk.injEq] at H
  obtain ⟨rfl, rfl⟩ := H
  go_enter Try.func32, Try.ntmps32
  go_wp2_with (first | ((with_reducible refine gate_dst (N := 2) rfl ?_); refine bx_ 2 #[.slice none 0 0] 29 ?_; intro gb101 hg w8 hbox hb; have BK101 := Zz.mk (hbox); have GW101 := Zz.mk ((gw_ hg (B_ HB.out))); have GE101 := GW101; replace HB := Zz.mk (bT_ (B_ HB.out) hb); clear hb hbox hg) | ((with_reducible refine gC_ (f := 75) rfl ?_); refine GL_ (some 6) rfl rfl Try.func75 #[.slice A0 l0.length c0, .func (.func 76) #[] #[]] rfl (h := ?_); (with_reducible refine (z234.calls k _ _ l0  false _ ?side1 ?side2 A2.out).mono ?_); (case side1 => exact KC_ (Kd.C_below HR0.out HB.out)); (case side2 => exact HC0.out); rintro e w9 ⟨rfl, hb⟩; refine ⟨_, rfl, ?_⟩; replace BK101 := Zz.mk (kb_ BK101.out hb); replace HB := Zz.mk (bT_ (B1_ HB.out GE101.out) hb); (try clear hb); obtain ⟨hcz10_0, hfz10_0⟩ := Z1f_ BK101.out))
  refine bodyPost_ret (results_ct rfl _ _ gb101 29 #[.slice none 0 0] (0, 0) _ rfl (by refine BW_ ?_; refine bP_ (cs := #[.slice none 0 0]) ?_ 0 _ rfl; refine BW_ ?_; exact BK101.out) Try.underlying29 rfl (by kernel_rfl)) rfl ?_
  exact ⟨_, F_, by first | exact Kd.S_nil _ _ _ _ _ | exact Kd.N_nil _ _ _ _ _ | exact Kd.V_nil _ _ _ _ _ | exact Kd.Q_nil _ _ _ _ _ | exact Kd.R_nil _ _ _ _ _, B1_ HB.out GE101.out⟩
 rw [if_neg c7] at H
 have c7b0 : decide (48 < (l0.length : Int)) = false := decide_eq_false c7
 have c7b1 : decide (48 < l0.length) = false := decide_eq_false (by omega)
 clear c7
 replace H := OB_ H
 obtain ⟨t103, A110, H⟩ := H
 replace H : (if (t103.length : Int) > 48 then (some (([] : List (List Int)), 5)) else (some (t103, 0))) = some (r1, r2) := H
 have A11 := Zz.mk A110
 clear A110
 by_cases c12 : (t103.length : Int) > 48
 ·rw [if_pos c12] at H
  have c12b0 : decide (48 < (t103.length : Int)) = true := decide_eq_true c12
  have c12b1 : decide (48 < t103.length) = true := decide_eq_true (by omega)
  clear c12
  simp only [Option.some.injEq, Prod.mk.injEq] at H
  obtain ⟨rfl, rfl⟩ := H
  go_enter Try.func32, Try.ntmps32
  go_wp2_with (first | ((with_reducible refine gate_dst (N := 2) rfl ?_); refine bx_ 2 #[.slice none 0 0] 29 ?_; intro gb101 hg w13 hbox hb; have BK101 := Zz.mk (hbox); have GW101 := Zz.mk ((gw_ hg (B_ HB.out))); have GE101 := GW101; replace HB := Zz.mk (bT_ (B_ HB.out) hb); clear hb hbox hg) | ((with_reducible refine gC_ (f := 75) rfl ?_); refine GL_ (some 6) rfl rfl Try.func75 #[.slice A0 l0.length c0, .func (.func 76) #[] #[]] rfl (h := ?_); (with_reducible refine (z234.calls k _ _ l0  false _ ?side1 ?side2 A2.out).mono ?_); (case side1 => exact KC_ (Kd.C_below HR0.out HB.out)); (case side2 => exact HC0.out); rintro e w14 ⟨rfl, hb⟩; refine ⟨_, rfl, ?_⟩; replace BK101 := Zz.mk (kb_ BK101.out hb); replace HB := Zz.mk (bT_ (B1_ HB.out GE101.out) hb); (try clear hb)) | ((with_reducible refine gC_ (f := 78) rfl ?_); refine GL_ (some 13) rfl rfl Try.func78 #[.slice A0 l0.length c0] rfl (h := ?_); (with_reducible refine (z78.calls k _ _ l0 t103 _ ?side1 ?side2 A11.out).mono ?_); (case side1 => exact KC_ (Kd.C_below HR0.out HB.out)); (case side2 => exact HC0.out); rintro e w15 ⟨v104, rfl, ho0, hb⟩; refine ⟨_, rfl, ?_⟩; have HO105 := Zz.mk (Kd.S_lower ho0 (bS_ (B1_ HB.out GE101.out))); replace BK101 := Zz.mk (kb_ BK101.out hb); replace HB := Zz.mk (bT_ (B1_ HB.out GE101.out) hb); (try clear hb); (try clear ho0)) | ((with_reducible refine gate_dst (N := 4) rfl ?_); refine bx_ 4 #[.slice none 0 0] 29 ?_; intro gb106 hg w16 hbox hb; have BK106 := Zz.mk (hbox); have GW106 := Zz.mk ((gw_ hg (B1_ HB.out GE101.out))); have GE106 := GW106; have NB101_106 := Zz.mk ((nb_ BK101.out hg)); have NB106_101 := Zz.mk NB101_106.out.symm; replace HO105 := Zz.mk (Kd.S_below (KS_ HO105.out) hb); replace BK101 := Zz.mk (kb_ BK101.out hb); replace HB := Zz.mk (bT_ (B1_ HB.out GE101.out) hb); clear hb hbox hg; obtain ⟨Ao17, co17, eo17⟩ := Kd.S_slice HO105.out; subst eo17; have hnb18 := NB106_101.out; have hnc18 := NB101_106.out; obtain ⟨hcz19_0, hfz19_0⟩ := Z1f_ BK106.out; obtain ⟨hcz20_0, hfz20_0⟩ := Z1f_ BK101.out))
  refine bodyPost_ret (results_ct rfl _ _ gb101 29 #[.slice none 0 0] (0, 0) _ rfl (by refine BW_ ?_; refine bP_ (cs := #[.slice none 0 0]) ?_ 0 _ rfl; refine BW_ ?_; refine bR_ ?_ NB101_106.out _; refine BW_ ?_; exact BK101.out) Try.underlying29 rfl (by kernel_rfl)) rfl ?_
  exact ⟨_, F_, by first | exact Kd.S_nil _ _ _ _ _ | exact Kd.N_nil _ _ _ _ _ | exact Kd.V_nil _ _ _ _ _ | exact Kd.Q_nil _ _ _ _ _ | exact Kd.R_nil _ _ _ _ _, B2_ HB.out GE101.out GE106.out⟩
 rw [if_neg c12] at H
 have c12b0 : decide (48 < (t103.length : Int)) = false := decide_eq_false c12
 have c12b1 : decide (48 < t103.length) = false := decide_eq_false (by omega)
 clear c12
 simp only [Option.some.injEq, Prod.mk.injEq] at H
 obtain ⟨rfl, rfl⟩ := H
 go_enter Try.func32, Try.ntmps32
 go_wp2_with (first | ((with_reducible refine gate_dst (N := 2) rfl ?_); refine bx_ 2 #[.slice none 0 0] 29 ?_; intro gb101 hg w21 hbox hb; have BK101 := Zz.mk (hbox); have GW101 := Zz.mk ((gw_ hg (B_ HB.out))); have GE101 := GW101; replace HB := Zz.mk (bT_ (B_ HB.out) hb); clear hb hbox hg) | ((with_reducible refine gC_ (f := 75) rfl ?_); refine GL_ (some 6) rfl rfl Try.func75 #[.slice A0 l0.length c0, .func (.func 76) #[] #[]] rfl (h := ?_); (with_reducible refine (z234.calls k _ _ l0  false _ ?side1 ?side2 A2.out).mono ?_); (case side1 => exact KC_ (Kd.C_below HR0.out HB.out)); (case side2 => exact HC0.out); rintro e w22 ⟨rfl, hb⟩; refine ⟨_, rfl, ?_⟩; replace BK101 := Zz.mk (kb_ BK101.out hb); replace HB := Zz.mk (bT_ (B1_ HB.out GE101.out) hb); (try clear hb)) | ((with_reducible refine gC_ (f := 78) rfl ?_); refine GL_ (some 13) rfl rfl Try.func78 #[.slice A0 l0.length c0] rfl (h := ?_); (with_reducible refine (z78.calls k _ _ l0 t103 _ ?side1 ?side2 A11.out).mono ?_); (case side1 => exact KC_ (Kd.C_below HR0.out HB.out)); (case side2 => exact HC0.out); rintro e w23 ⟨v104, rfl, ho0, hb⟩; refine ⟨_, rfl, ?_⟩; have HO105 := Zz.mk (Kd.S_lower ho0 (bS_ (B1_ HB.out GE101.out))); replace BK101 := Zz.mk (kb_ BK101.out hb); replace HB := Zz.mk (bT_ (B1_ HB.out GE101.out) hb); (try clear hb); (try clear ho0)) | ((with_reducible refine gate_dst (N := 4) rfl ?_); refine bx_ 4 #[.slice none 0 0] 29 ?_; intro gb106 hg w24 hbox hb; have BK106 := Zz.mk (hbox); have GW106 := Zz.mk ((gw_ hg (B1_ HB.out GE101.out))); have GE106 := GW106; have NB101_106 := Zz.mk ((nb_ BK101.out hg)); have NB106_101 := Zz.mk NB101_106.out.symm; replace HO105 := Zz.mk (Kd.S_below (KS_ HO105.out) hb); replace BK101 := Zz.mk (kb_ BK101.out hb); replace HB := Zz.mk (bT_ (B1_ HB.out GE101.out) hb); clear hb hbox hg; obtain ⟨Ao25, co25, eo25⟩ := Kd.S_slice HO105.out; subst eo25; have hnb26 := NB106_101.out; have hnc26 := NB101_106.out; obtain ⟨hcz27_0, hfz27_0⟩ := Z1f_ BK106.out; obtain ⟨hcz28_0, hfz28_0⟩ := Z1f_ BK101.out))
 refine bodyPost_ret (results_ct rfl _ _ gb101 29 #[.slice Ao25 t103.length co25] (0, 0) _ rfl (by refine BW_ ?_; refine bP_ (cs := #[.slice none 0 0]) ?_ 0 _ rfl; refine BW_ ?_; refine bR_ ?_ NB101_106.out _; refine BW_ ?_; exact BK101.out) Try.underlying29 rfl (by kernel_rfl)) rfl ?_
 exact ⟨_, F_, by refine SW_ ?_; exact Kd.S_mono (Kd.S_far (p := ⟨gb101, 0, none⟩) (Kd.S_far (p := ⟨gb106, 0, none⟩) (Kd.S_types (Kd.S_types HO105.out BK106.out (by decide)) BK101.out (by decide)) (fun _ hk => hk.1.2) (.slice Ao25 t103.length co25)) (fun _ hk => hk.2) (.slice Ao25 t103.length co25)) (fun _ hk => trivial), B2_ HB.out GE101.out GE106.out⟩
def z74.l0 : Nat → List (List Int) → Int → List (List Int) → Option ((List (List Int)))
 | 0, _, _, _ => none
 | k + 1, x0, x4, x106000 => if x4 < (x0.length : Int) then (if 0 ≤ x4 then ((spec_l05Put.f x106000 (rI_ x0 x4)).bind fun t107 => (z74.l0 k x0 (wrap64 (x4 + 1)) t107)) else (none)) else (some x106000)
def z74.f (k : Nat) (l0 : List (List Int)) : Option ((List (List Int))) := z74.l0 k l0 0 (([] : List (List Int)))
theorem z74.calls (k : Nat) (A0 : Option Addr) (c0 : Nat) (l0 : List (List Int)) (r : List (List Int)) (w : World) (hr0 : Kd.C (Kd.slice 2 (Kd.int .i64)) w A0 l0.length l0) (hc0 : l0.length ≤ c0) (h : z74.f k l0 = some r) :
  Calls Try.prog 74 #[.slice A0 l0.length c0] w fun e w' => ∃ v0_ : Value, e = .returned (.agg #[v0_]) ∧ Kd.S (Kd.slice 2 (Kd.int .i64)) 26 w' w.heap.size (fun _ => True) v0_ r ∧ Below w.heap.size w w' := by
 have hu29 := Try.underlying29
 have HR0 := Zz.mk hr0
 have HC0 := Zz.mk hc0
 clear hr0 hc0
 have HB := Zz.mk (Below.refl w.heap.size w)
 have H : (z74.l0 k l0 0 (([] : List (List Int)))) = some r := h
 clear h
 obtain ⟨y102, hy102⟩ : ∃ y_ : List (List Int), y_ = (([] : List (List Int))) := ⟨_, rfl⟩
 replace H : (z74.l0 k l0 0 y102) = some r := Y_ hy102 H
 have Ny102 := Zz.mk hy102
 clear hy102
 have H' := Zz.mk H
 clear H
 go_enter Try.func74, Try.ntmps74
 go_wp2_with (first | ((with_reducible refine gate_dst (N := 2) rfl ?_); refine bx_ 2 #[.slice none 0 0] 29 ?_; intro gb101 hg w2 hbox hb; have BK101 := Zz.mk (hbox); have GW101 := Zz.mk ((gw_ hg (B_ HB.out))); have GE101 := GW101; replace HB := Zz.mk (bT_ (B_ HB.out) hb); clear hb hbox hg) | ((with_reducible refine gate_dst (N := 5) rfl ?_); refine Kd.S_lit (Kd.slice 2 (Kd.int .i64)) _ 26 ?hg (N := 5) ?hd (xs := ([] : List (List Int))) (inner := []) (ok := fun _ => True) (okp := fun _ => True) ?hr ?hp (fun _ hk => hk) trivial (Below.refl _ _) (Nat.le_refl _) (by simp) ?_; (case hd => rfl); (case hg => rfl); (case hr => first | (go_simp; done) | (go_simp; rfl)); (case hp => exact (Reps.none _ _)); intro v103 w3 ho4 hb hg_ hnew_; clear hg_ hnew_; (first | rw [← Ny102.out] at ho4 | (simp only [Int.reduceToNat] at ho4; rw [← Ny102.out] at ho4)); have HO104 := Zz.mk (Kd.S_lower ho4 (bS_ (B1_ HB.out GE101.out))); replace BK101 := Zz.mk (kb_ BK101.out hb); replace HB := Zz.mk (bT_ (B1_ HB.out GE101.out) hb); clear hb ho4; obtain ⟨Ao5, co5, eo5⟩ := Kd.S_slice HO104.out; subst eo5) | ((with_reducible refine gate_dst (N := 3) rfl ?_); refine bx_ 3 #[.slice none 0 0] 29 ?_; intro gb105 hg w6 hbox hb; have BK105 := Zz.mk (hbox); have GW105 := Zz.mk ((gw_ hg (B1_ HB.out GE101.out))); have GE105 := GW105; have NB101_105 := Zz.mk ((nb_ BK101.out hg)); have NB105_101 := Zz.mk NB101_105.out.symm; replace HO104 := Zz.mk (Kd.S_below (KS_ HO104.out) hb); replace BK101 := Zz.mk (kb_ BK101.out hb); replace HB := Zz.mk (bT_ (B1_ HB.out GE101.out) hb); clear hb hbox hg; have hnb7 := NB105_101.out; have hnc7 := NB101_105.out; obtain ⟨hcz8_0, hfz8_0⟩ := Z1f_ BK105.out))
 go_loopg [4] k (fun kq v4 w' => ∃ (x4_1 : Int) (x106000_1 : List (List Int)) (u106000 : Value), v4 = .int .i64 x4_1 ∧ Zz (z74.l0 kq l0 x4_1 x106000_1 = some r) ∧ Zz (kq ≤ k) ∧ Zz (Kd.S (Kd.slice 2 (Kd.int .i64)) 26 w' w.heap.size (fun _ => True) u106000 x106000_1) ∧ Zz (w'.heap[gb101]? = some (.cells #[(.slice none 0 0)] 29 (0, 0))) ∧ Zz (w'.heap[gb105]? = some (.cells #[u106000] 29 (0, 0))) ∧ Zz (Below w.heap.size w w'))
 case atStart => exact ⟨(0), (y102), (.slice Ao5 y102.length co5), E_, H', ⟨Nat.le_refl _⟩, ⟨by refine SW_ ?_; exact Kd.S_mono (Kd.S_far (p := ⟨gb105, 0, none⟩) (Kd.S_types HO104.out BK105.out (by decide)) (fun _ hk => hk.2) (.slice Ao5 y102.length co5)) (fun _ hk => trivial)⟩, ⟨by refine BW_ ?_; refine bR_ ?_ NB101_105.out _; refine BW_ ?_; exact BK101.out⟩, ⟨by refine BW_ ?_; refine bP_ (cs := #[.slice none 0 0]) ?_ 0 _ rfl; refine BW_ ?_; exact BK105.out⟩, ⟨B2_ HB.out GE101.out GE105.out⟩⟩
 case round =>
  clear H'
  (try clear hcz8_0);(try clear hfz8_0)
  obtain ⟨x4_1, x106000_1, u106000, rfl, HA, HK1, HO_106000, BK101, BK105, HB⟩ := hrel
  cases gk with
  | zero => exact absurd HA.out (by simp [z74.l0])
  | succ k1 =>
   have H := HA.out
   clear HA
   simp only [z74.l0] at H
   by_cases c9 : x4_1 < (l0.length : Int)
   ·rw [if_pos c9] at H
    have c9b0 : decide (x4_1 < (l0.length : Int)) = true := decide_eq_true c9
    clear c9
    have c10b0 := O3_ H
    replace H := O2_ H
    replace H := OZ_ H
    obtain ⟨t107, A11, H⟩ := H
    have H' := Zz.mk H
    clear H
    have p106 : 0 ≤ (x4_1 : Int) := D_
    have q106 : x4_1 < (l0.length : Int) := D_
    obtain ⟨ad106, A106_0, c106_0, e106, hx106_0, hl106_0, hi106_0⟩ := at_ListInt HR0.out x4_1 p106 q106
    cases e106
    replace hx106_0 := (HB.out.cell (World.block_lt_of_cell? w _ hx106_0)).trans hx106_0
    have HR106_0 := Zz.mk hi106_0
    have HC106_0 := Zz.mk hl106_0
    clear hi106_0 hl106_0
    replace p106 := eq_true p106
    replace q106 := eq_true q106
    obtain ⟨Ao12, co12, eo12⟩ := Kd.S_slice HO_106000.out
    subst eo12
    go_wp2_with (first | (go_at_call 68; (with_reducible refine (spec_l05Put.calls gb105 (.slice Ao12 x106000_1.length co12) x106000_1 A106_0 c106_0 (rI_ l0 x4_1) t107 w _ (fun k_ => True) ?side1 ?side2 ?side3 ?side4 ?side5 ?side6 A11.out).mono ?_); (case side1 => exact (KB_ BK105.out)); (case side2 => exact GW105.out); (case side3 => exact (KS_ HO_106000.out)); (case side4 => exact (B2_ HB.out GE101.out GE105.out)); (case side5 => exact Kd.F_mono (Kd.F_below (Kd.C_F (Kd.heap_int .i64) HR106_0.out) (B2_ HB.out GE101.out GE105.out)) (fun k_ hk_ => Nat.ne_of_lt (Nat.lt_of_lt_of_le hk_ GW105.out))); (case side6 => exact HC106_0.out); rintro e w13 ⟨rfl, v108, hg_, hy0, hb, hkp⟩; have HO109 := Zz.mk (Kd.S_mono (ok' := fun k_ => k_ ≠ gb105) hy0 (fun k_ hk_ => Or.elim hk_ (fun hs_ => hs_.2) (fun hn_ => Kd.freshB (g := gb105) (o := .cells #[.slice Ao12 x106000_1.length co12] 29 (0, 0)) (KB_ BK105.out) k_ hn_))); replace BK101 := Zz.mk (blk_kp (KB_ BK101.out) NB101_105.out hkp); replace BK105 := Zz.mk (hg_); replace HB := Zz.mk (hb); (try clear hb hkp hy0 hg_ HO_106000)))
    go_roundg k1
    case measure => exact Q1_ HK1
    case rel => exact ⟨(wrap64 (x4_1 + 1)), (t107), (v108), E_, H', ⟨Q1_ HK1⟩, ⟨by refine SW_ ?_; exact Kd.S_mono HO109.out (fun _ hk => trivial)⟩, ⟨KB_ BK101.out⟩, ⟨KB_ BK105.out⟩, ⟨B2_ HB.out GE101.out GE105.out⟩⟩
   rw [if_neg c9] at H
   have c9b0 : decide (x4_1 < (l0.length : Int)) = false := decide_eq_false c9
   clear c9
   obtain rfl := OI_ H
   have hnb14 := NB105_101.out
   have hnc14 := NB101_105.out
   obtain ⟨hcz15_0, hfz15_0⟩ := Z1f_ BK105.out
   obtain ⟨Ao16, co16, eo16⟩ := Kd.S_slice HO_106000.out
   subst eo16
   obtain ⟨hcz17_0, hfz17_0⟩ := Z1f_ BK101.out
   go_wp2
   refine bodyPost_ret (results_cell_row rfl _ _ gb101 29 #[.slice Ao16 x106000_1.length co16] (0, 0) _ rfl (by refine BW_ ?_; refine bP_ (cs := #[.slice none 0 0]) ?_ 0 _ rfl; refine BW_ ?_; exact BK101.out) Try.underlying29 rfl (by kernel_rfl)) rfl ?_
   exact ⟨_, F_, by refine SW_ ?_; exact Kd.S_mono (Kd.S_far (p := ⟨gb101, 0, none⟩) (Kd.S_types HO_106000.out BK101.out (by decide)) (fun _ hk => hk.2) (.slice Ao16 x106000_1.length co16)) (fun _ hk => trivial), B2_ HB.out GE101.out GE105.out⟩
def z30.l0 : Nat → List (List Int) → Int → Option ((List (List Int)) × Int)
 | 0, _, _ => none
 | k + 1, x0, x4 => if x4 < (x0.length : Int) then (if 0 ≤ x4 then ((z73.f k (rI_ x0 x4)).bind fun t103 => (if t103 = true then (z30.l0 k x0 (wrap64 (x4 + 1))) else (some (([] : List (List Int)), 1)))) else (none)) else (if (x0.length : Int) > 48 then (some (([] : List (List Int)), 5)) else ((z74.f k x0).bind fun t104 => (if (t104.length : Int) > 48 then (some (([] : List (List Int)), 5)) else (some (t104, 0)))))
def z30.f (k : Nat) (l0 : List (List Int)) : Option ((List (List Int)) × Int) := z30.l0 k l0 0
theorem z30.calls (k : Nat) (A0 : Option Addr) (c0 : Nat) (l0 : List (List Int)) (r1 : List (List Int)) (r2 : Int) (w : World) (hr0 : Kd.C (Kd.slice 2 (Kd.int .i64)) w A0 l0.length l0) (hc0 : l0.length ≤ c0) (h : z30.f k l0 = some (r1, r2)) :
  Calls Try.prog 30 #[.slice A0 l0.length c0] w fun e w' => ∃ v0_ : Value, e = .returned (.tuple #[.agg #[v0_], .int .i64 r2]) ∧ Kd.S (Kd.slice 2 (Kd.int .i64)) 26 w' w.heap.size (fun _ => True) v0_ r1 ∧ Below w.heap.size w w' := by
 have hu29 := Try.underlying29
 have HR0 := Zz.mk hr0
 have HC0 := Zz.mk hc0
 clear hr0 hc0
 have HB := Zz.mk (Below.refl w.heap.size w)
 have H : (z30.l0 k l0 0) = some (r1, r2) := h
 clear h
 have H' := Zz.mk H
 clear H
 go_enter Try.func30, Try.ntmps30
 go_wp2_with (first | ((with_reducible refine gate_dst (N := 2) rfl ?_); refine bx_ 2 #[.slice none 0 0] 29 ?_; intro gb101 hg w2 hbox hb; have BK101 := Zz.mk (hbox); have GW101 := Zz.mk ((gw_ hg (B_ HB.out))); have GE101 := GW101; replace HB := Zz.mk (bT_ (B_ HB.out) hb); clear hb hbox hg))
 go_loopg [4] k (fun kq v4 w' => ∃ (x4_1 : Int), v4 = .int .i64 x4_1 ∧ Zz (z30.l0 kq l0 x4_1 = some (r1, r2)) ∧ Zz (kq ≤ k) ∧ Zz (w'.heap[gb101]? = some (.cells #[(.slice none 0 0)] 29 (0, 0))) ∧ Zz (Below w.heap.size w w'))
 case atStart => exact ⟨(0), E_, H', ⟨Nat.le_refl _⟩, ⟨KB_ BK101.out⟩, ⟨B1_ HB.out GE101.out⟩⟩
 case round =>
  clear H'
  obtain ⟨x4_1, rfl, HA, HK1, BK101, HB⟩ := hrel
  cases gk with
  | zero => exact absurd HA.out (by simp [z30.l0])
  | succ k1 =>
   have H := HA.out
   clear HA
   simp only [z30.l0] at H
   by_cases c3 : x4_1 < (l0.length : Int)
   ·rw [if_pos c3] at H
    have c3b0 : decide (x4_1 < (l0.length : Int)) = true := decide_eq_true c3
    clear c3
    have c4b0 := O3_ H
    replace H := O2_ H
    replace H := OB_ H
    obtain ⟨t103, A50, H⟩ := H
    replace H : (if t103 = true then (z30.l0 k1 l0 (wrap64 (x4_1 + 1))) else (some (([] : List (List Int)), 1))) = some (r1, r2) := H
    have A5 := Zz.mk A50
    clear A50
    by_cases c6 : t103 = true
    ·subst c6
     have H1 : (z30.l0 k1 l0 (wrap64 (x4_1 + 1))) = some (r1, r2) := by rw [if_pos rfl] at H; exact H
     clear H
     have H := H1
     clear H1
     have H' := Zz.mk H
     clear H
     have p102 : 0 ≤ (x4_1 : Int) := D_
     have q102 : x4_1 < (l0.length : Int) := D_
     obtain ⟨ad102, A102_0, c102_0, e102, hx102_0, hl102_0, hi102_0⟩ := at_ListInt HR0.out x4_1 p102 q102
     cases e102
     replace hx102_0 := (HB.out.cell (World.block_lt_of_cell? w _ hx102_0)).trans hx102_0
     have HR102_0 := Zz.mk hi102_0
     have HC102_0 := Zz.mk hl102_0
     clear hi102_0 hl102_0
     replace p102 := eq_true p102
     replace q102 := eq_true q102
     go_wp2_with (first | ((with_reducible refine gC_ (f := 73) rfl ?_); refine GL_ (some 16) rfl rfl Try.func73 #[.slice A102_0 (rI_ l0 x4_1).length c102_0] rfl (h := ?_); (with_reducible refine (z73.calls k1 _ _ (rI_ l0 x4_1) true _ ?side1 ?side2 A5.out).mono ?_); (case side1 => exact KC_ (Kd.C_below HR102_0.out HB.out)); (case side2 => exact HC102_0.out); rintro e w' ⟨rfl, ⟨nd, rfl⟩⟩; refine ⟨_, rfl, ?_⟩))
     go_roundg k1
     case measure => exact Q1_ HK1
     case rel => exact ⟨(wrap64 (x4_1 + 1)), E_, H', ⟨Q1_ HK1⟩, ⟨KB_ BK101.out⟩, ⟨B1_ HB.out GE101.out⟩⟩
    replace c6 := Bool.eq_false_iff.mpr c6
    subst c6
    have H1 : (some (([] : List (List Int)), 1)) = some (r1, r2) := by rw [if_neg (show ¬ (false = true) by decide)] at H; exact H
    clear H
    have H := H1
    clear H1
    simp only [Option.some.injEq, Prod.mk.injEq] at H
    obtain ⟨rfl, rfl⟩ := H
    have p102 : 0 ≤ (x4_1 : Int) := D_
    have q102 : x4_1 < (l0.length : Int) := D_
    obtain ⟨ad102, A102_0, c102_0, e102, hx102_0, hl102_0, hi102_0⟩ := at_ListInt HR0.out x4_1 p102 q102
    cases e102
    replace hx102_0 := (HB.out.cell (World.block_lt_of_cell? w _ hx102_0)).trans hx102_0
    have HR102_0 := Zz.mk hi102_0
    have HC102_0 := Zz.mk hl102_0
    clear hi102_0 hl102_0
    replace p102 := eq_true p102
    replace q102 := eq_true q102
    go_wp2_with (first | ((with_reducible refine gC_ (f := 73) rfl ?_); refine GL_ (some 16) rfl rfl Try.func73 #[.slice A102_0 (rI_ l0 x4_1).length c102_0] rfl (h := ?_); (with_reducible refine (z73.calls k1 _ _ (rI_ l0 x4_1) false _ ?side1 ?side2 A5.out).mono ?_); (case side1 => exact KC_ (Kd.C_below HR102_0.out HB.out)); (case side2 => exact HC102_0.out); rintro e w' ⟨rfl, ⟨nd, rfl⟩⟩; refine ⟨_, rfl, ?_⟩; (try (rw [drewN_self wr]; generalize hq_ : World.drewN wr _ = wr; replace BK101 : Zz (wr.heap[gb101]? = some (.cells #[.slice none 0 0] 29 (0, 0))) := ⟨by rw [← hq_]; exact (KB_ BK101.out)⟩; replace HB : Zz (Below w.heap.size w wr) := ⟨by rw [← hq_]; exact (B1_ HB.out GE101.out)⟩; (try clear hq_))); obtain ⟨hcz7_0, hfz7_0⟩ := Z1f_ BK101.out))
    refine bodyPost_ret (results_ct rfl _ _ gb101 29 #[.slice none 0 0] (0, 0) _ rfl (by refine BW_ ?_; refine bP_ (cs := #[.slice none 0 0]) ?_ 0 _ rfl; refine BW_ ?_; exact BK101.out) Try.underlying29 rfl (by kernel_rfl)) rfl ?_
    exact ⟨_, F_, by first | exact Kd.S_nil _ _ _ _ _ | exact Kd.N_nil _ _ _ _ _ | exact Kd.V_nil _ _ _ _ _ | exact Kd.Q_nil _ _ _ _ _ | exact Kd.R_nil _ _ _ _ _, B1_ HB.out GE101.out⟩
   rw [if_neg c3] at H
   have c3b0 : decide (x4_1 < (l0.length : Int)) = false := decide_eq_false c3
   clear c3
   by_cases c8 : (l0.length : Int) > 48
   ·rw [if_pos c8] at H
    have c8b0 : decide (48 < (l0.length : Int)) = true := decide_eq_true c8
    have c8b1 : decide (48 < l0.length) = true := decide_eq_true (by omega)
    clear c8
    simp only [Option.some.injEq, Prod.mk.injEq] at H
    obtain ⟨rfl, rfl⟩ := H
    obtain ⟨hcz9_0, hfz9_0⟩ := Z1f_ BK101.out
    go_wp2
    refine bodyPost_ret (results_ct rfl _ _ gb101 29 #[.slice none 0 0] (0, 0) _ rfl (by refine BW_ ?_; refine bP_ (cs := #[.slice none 0 0]) ?_ 0 _ rfl; refine BW_ ?_; exact BK101.out) Try.underlying29 rfl (by kernel_rfl)) rfl ?_
    exact ⟨_, F_, by first | exact Kd.S_nil _ _ _ _ _ | exact Kd.N_nil _ _ _ _ _ | exact Kd.V_nil _ _ _ _ _ | exact Kd.Q_nil _ _ _ _ _ | exact Kd.R_nil _ _ _ _ _, B1_ HB.out GE101.out⟩
   rw [if_neg c8] at H
   have c8b0 : decide (48 < (l0.length : Int)) = false := decide_eq_false c8
   have c8b1 : decide (48 < l0.length) = false := decide_eq_false (by omega)
   clear c8
   replace H := OB_ H
   obtain ⟨t104, A100, H⟩ := H
   replace H : (if (t104.length : Int) > 48 then (some (([] : List (List Int)), 5)) else (some (t104, 0))) = some (r1, r2) := H
   have A10 := Zz.mk A100
   clear A100
   by_cases c11 : (t104.length : Int) > 48
   ·rw [if_pos c11] at H
    have c11b0 : decide (48 < (t104.length : Int)) = true := decide_eq_true c11
    have c11b1 : decide (48 < t104.length) = true := decide_eq_true (by omega)
    clear c11
    simp only [Option.some.injEq, Prod.mk.injEq] at H
    obtain ⟨rfl, rfl⟩ := H
    go_wp2_with (first | ((with_reducible refine gC_ (f := 74) rfl ?_); refine GL_ (some 24) rfl rfl Try.func74 #[.slice A0 l0.length c0] rfl (h := ?_); (with_reducible refine (z74.calls k1 _ _ l0 t104 _ ?side1 ?side2 A10.out).mono ?_); (case side1 => exact KC_ (Kd.C_below HR0.out HB.out)); (case side2 => exact HC0.out); rintro e w12 ⟨v105, rfl, ho0, hb⟩; refine ⟨_, rfl, ?_⟩; have HO106 := Zz.mk (Kd.S_lower ho0 (bS_ (B1_ HB.out GE101.out))); replace BK101 := Zz.mk (kb_ BK101.out hb); replace HB := Zz.mk (bT_ (B1_ HB.out GE101.out) hb); (try clear hb); (try clear ho0)) | ((with_reducible refine gate_dst (N := 5) rfl ?_); refine bx_ 5 #[.slice none 0 0] 29 ?_; intro gb107 hg w13 hbox hb; have BK107 := Zz.mk (hbox); have GW107 := Zz.mk ((gw_ hg (B1_ HB.out GE101.out))); have GE107 := GW107; have NB101_107 := Zz.mk ((nb_ BK101.out hg)); have NB107_101 := Zz.mk NB101_107.out.symm; replace HO106 := Zz.mk (Kd.S_below (KS_ HO106.out) hb); replace BK101 := Zz.mk (kb_ BK101.out hb); replace HB := Zz.mk (bT_ (B1_ HB.out GE101.out) hb); clear hb hbox hg; obtain ⟨Ao14, co14, eo14⟩ := Kd.S_slice HO106.out; subst eo14; have hnb15 := NB107_101.out; have hnc15 := NB101_107.out; obtain ⟨hcz16_0, hfz16_0⟩ := Z1f_ BK107.out; obtain ⟨hcz17_0, hfz17_0⟩ := Z1f_ BK101.out))
    refine bodyPost_ret (results_ct rfl _ _ gb101 29 #[.slice none 0 0] (0, 0) _ rfl (by refine BW_ ?_; refine bP_ (cs := #[.slice none 0 0]) ?_ 0 _ rfl; refine BW_ ?_; refine bR_ ?_ NB101_107.out _; refine BW_ ?_; exact BK101.out) Try.underlying29 rfl (by kernel_rfl)) rfl ?_
    exact ⟨_, F_, by first | exact Kd.S_nil _ _ _ _ _ | exact Kd.N_nil _ _ _ _ _ | exact Kd.V_nil _ _ _ _ _ | exact Kd.Q_nil _ _ _ _ _ | exact Kd.R_nil _ _ _ _ _, B2_ HB.out GE101.out GE107.out⟩
   rw [if_neg c11] at H
   have c11b0 : decide (48 < (t104.length : Int)) = false := decide_eq_false c11
   have c11b1 : decide (48 < t104.length) = false := decide_eq_false (by omega)
   clear c11
   simp only [Option.some.injEq, Prod.mk.injEq] at H
   obtain ⟨rfl, rfl⟩ := H
   go_wp2_with (first | ((with_reducible refine gC_ (f := 74) rfl ?_); refine GL_ (some 24) rfl rfl Try.func74 #[.slice A0 l0.length c0] rfl (h := ?_); (with_reducible refine (z74.calls k1 _ _ l0 t104 _ ?side1 ?side2 A10.out).mono ?_); (case side1 => exact KC_ (Kd.C_below HR0.out HB.out)); (case side2 => exact HC0.out); rintro e w18 ⟨v105, rfl, ho0, hb⟩; refine ⟨_, rfl, ?_⟩; have HO106 := Zz.mk (Kd.S_lower ho0 (bS_ (B1_ HB.out GE101.out))); replace BK101 := Zz.mk (kb_ BK101.out hb); replace HB := Zz.mk (bT_ (B1_ HB.out GE101.out) hb); (try clear hb); (try clear ho0)) | ((with_reducible refine gate_dst (N := 5) rfl ?_); refine bx_ 5 #[.slice none 0 0] 29 ?_; intro gb107 hg w19 hbox hb; have BK107 := Zz.mk (hbox); have GW107 := Zz.mk ((gw_ hg (B1_ HB.out GE101.out))); have GE107 := GW107; have NB101_107 := Zz.mk ((nb_ BK101.out hg)); have NB107_101 := Zz.mk NB101_107.out.symm; replace HO106 := Zz.mk (Kd.S_below (KS_ HO106.out) hb); replace BK101 := Zz.mk (kb_ BK101.out hb); replace HB := Zz.mk (bT_ (B1_ HB.out GE101.out) hb); clear hb hbox hg; obtain ⟨Ao20, co20, eo20⟩ := Kd.S_slice HO106.out; subst eo20; have hnb21 := NB107_101.out; have hnc21 := NB101_107.out; obtain ⟨hcz22_0, hfz22_0⟩ := Z1f_ BK107.out; obtain ⟨hcz23_0, hfz23_0⟩ := Z1f_ BK101.out))
   refine bodyPost_ret (results_ct rfl _ _ gb101 29 #[.slice Ao20 t104.length co20] (0, 0) _ rfl (by refine BW_ ?_; refine bP_ (cs := #[.slice none 0 0]) ?_ 0 _ rfl; refine BW_ ?_; refine bR_ ?_ NB101_107.out _; refine BW_ ?_; exact BK101.out) Try.underlying29 rfl (by kernel_rfl)) rfl ?_
   exact ⟨_, F_, by refine SW_ ?_; exact Kd.S_mono (Kd.S_far (p := ⟨gb101, 0, none⟩) (Kd.S_far (p := ⟨gb107, 0, none⟩) (Kd.S_types (Kd.S_types HO106.out BK107.out (by decide)) BK101.out (by decide)) (fun _ hk => hk.1.2) (.slice Ao20 t104.length co20)) (fun _ hk => hk.2) (.slice Ao20 t104.length co20)) (fun _ hk => trivial), B2_ HB.out GE101.out GE107.out⟩
end Go.Proofs.Ytipkciildhghiaa.B
