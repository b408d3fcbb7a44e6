/- Printed proofs of functions of the program and of the reference, by a program of this work over the kit's printer. -/
import Derived.Test.YtipkciildhghiaaKHGNPLP0
import Derived.Test.YtipkciildhghiaaKLGJNDK0
import Derived.Test.YtipkciildhghiaaKLKPPDI0
import Derived.Test.YtipkciildhghiaaKNNGFGH0
import Derived.Test.YtipkciildhghiaaKW0
namespace Go.Proofs.Ytipkciildhghiaa.B
open Go.RowKit Go.Proofs.YtipkciildhghiaaW.PrintWords Go.Proofs.YtipkciildhghiaaW.PrintLast Go.Proofs.YtipkciildhghiaaW.PrintMore
attribute [local go_sem] max2_int min2_int max_two min_two max_three min_three max_four min_four
set_option linter.unusedVariables false
set_option linter.unusedSimpArgs false
def z12.f (k : Nat) (l0_0 : List (List Int)) (a1 : Int) (a2 : Int) : Option (Bool) := (z15.f k l0_0 1048576).bind fun t102 => (if t102 < 0 then (some true) else ((z17.f k l0_0).bind fun t103 => ((z49.f k t103 a1 a2).bind fun bt106 => ((z17.f k l0_0).bind fun t110 => ((z50.f k t110 a1 a2).bind fun bt114 => ((z33.f k bt114.1 bt106.1).bind fun t118 => (if t118 = true then (if bt114.2 = bt106.2 then ((z17.f k l0_0).bind fun t119 => ((z20.f k t110 t119).bind fun t122 => (if t122 = true then ((laws_markComplex.f t110 1).bind fun bt123 => (if bt123.1 < 0 then (some false) else ((z33.f k bt114.1 bt106.1).bind fun t125 => (if t125 = true then ((laws_markInt64SS.f bt114.1 1).bind fun bt126 => ((z51.f k bt126.2 1).bind fun t128 => (if t128 < 0 then (some false) else (if t128 = bt126.1 then ((z17.f k l0_0).bind fun t129 => ((z50.f k t129 a1 a2).bind fun bt132 => ((z33.f k bt132.1 bt106.1).bind fun t136 => (if t136 = true then (if bt132.2 = bt106.2 then ((z51.f k bt126.2 1).bind fun t137 => (if t137 < 0 then (some false) else (if t137 = bt126.1 then (some true) else (some false)))) else (some false)) else (some false))))) else (some false))))) else (some false))))) else (some false)))) else (some false)) else (some false))))))))
set_option maxHeartbeats 8000000 in
set_option maxRecDepth 100000 in
theorem z12.calls (k : Nat) (A0_0 : Option Addr) (c0_0 : Nat) (l0_0 : List (List Int)) (a1 : Int) (a2 : Int) (r : Bool) (w : World) (hr0_0 : Kd.C (Kd.slice 2 (Kd.int .i64)) w A0_0 l0_0.length l0_0) (hc0_0 : l0_0.length ≤ c0_0) (h : z12.f k l0_0 a1 a2 = some r) (ht_ : r = true) :
  Calls Try.prog 12 #[.agg #[.slice A0_0 l0_0.length c0_0], .int .i64 a1, .int .i64 a2] w fun e w' => e = .returned (.bool r) ∧ Below w.heap.size w w' := by
 have hu24 := Try.underlying24
 have hu29 := Try.underlying29
 have HR0_0 := Zz.mk hr0_0
 have HC0_0 := Zz.mk hc0_0
 clear hr0_0 hc0_0
 have HB := Zz.mk (Below.refl w.heap.size w)
 have H : ((z15.f k l0_0 1048576).bind fun t102 => (if t102 < 0 then (some true) else ((z17.f k l0_0).bind fun t103 => ((z49.f k t103 a1 a2).bind fun bt106 => ((z17.f k l0_0).bind fun t110 => ((z50.f k t110 a1 a2).bind fun bt114 => ((z33.f k bt114.1 bt106.1).bind fun t118 => (if t118 = true then (if bt114.2 = bt106.2 then ((z17.f k l0_0).bind fun t119 => ((z20.f k t110 t119).bind fun t122 => (if t122 = true then ((laws_markComplex.f t110 1).bind fun bt123 => (if bt123.1 < 0 then (some false) else ((z33.f k bt114.1 bt106.1).bind fun t125 => (if t125 = true then ((laws_markInt64SS.f bt114.1 1).bind fun bt126 => ((z51.f k bt126.2 1).bind fun t128 => (if t128 < 0 then (some false) else (if t128 = bt126.1 then ((z17.f k l0_0).bind fun t129 => ((z50.f k t129 a1 a2).bind fun bt132 => ((z33.f k bt132.1 bt106.1).bind fun t136 => (if t136 = true then (if bt132.2 = bt106.2 then ((z51.f k bt126.2 1).bind fun t137 => (if t137 < 0 then (some false) else (if t137 = bt126.1 then (some true) else (some false)))) else (some false)) else (some false))))) else (some false))))) else (some false))))) else (some false)))) else (some false)) else (some false))))))))) = some r := h
 clear h
 replace H := OZ_ H
 obtain ⟨t102, A4, H⟩ := H
 by_cases c5 : t102 < 0
 ·rw [if_pos c5] at H
  have c5b0 : decide (t102 < 0) = true := decide_eq_true c5
  clear c5
  obtain rfl := OI_ H
  go_enter Try.func12, Try.ntmps12
  go_wp2_with (first | ((with_reducible refine gate_dst (N := 3) rfl ?_); refine box_event ?hg (N := 3) ?hd (cs := #[.slice A0_0 l0_0.length c0_0]) (t := 24) ?hr ?_; (case hd => rfl); (case hg => rfl); (case hr => first | (go_simp; done) | (go_simp; rfl)); intro gb101 hg w6 hbox hb; have BK101 := Zz.mk (hbox); have GW101 := Zz.mk ((by rw [hg]; exact (bS_ (B_ HB.out)) : w.heap.size ≤ gb101)); have GE101 := GW101; replace HB := Zz.mk (bT_ (B_ HB.out) hb); clear hb hbox hg; obtain ⟨hcz7_0, hfz7_0⟩ := Z1f_ BK101.out) | ((with_reducible refine gC_ (f := 15) rfl ?_); refine GL_ (some 20) rfl rfl Try.func15 #[.agg #[.slice A0_0 l0_0.length c0_0], .int .i64 1048576] rfl (h := ?_); (with_reducible refine (z15.calls k _ _ l0_0 1048576 t102 _ ?side1 ?side2 A4.out).mono ?_); (case side1 => exact KC_ (Kd.C_below HR0_0.out HB.out)); (case side2 => exact HC0_0.out); rintro e w8 ⟨rfl, hb⟩; refine ⟨_, rfl, ?_⟩; replace BK101 := Zz.mk (bB_ (g := gb101) (o := .cells #[.slice A0_0 l0_0.length c0_0] 24 (0, 0)) (KB_ BK101.out) hb); replace HB := Zz.mk (bT_ (B1_ HB.out GE101.out) hb); (try clear hb); (try clear hb2); (try clear hk); (try clear hi)))
  go_ret
  exact ⟨F_, B1_ HB.out GE101.out⟩
 rw [if_neg c5] at H
 have c5b0 : decide (t102 < 0) = false := decide_eq_false c5
 clear c5
 replace H := OZ_ H
 obtain ⟨t103, A9, H⟩ := H
 replace H := OB_ H
 obtain ⟨⟨t106, t109⟩, A100, H⟩ := H
 try dsimp only at H
 have A10 := Zz.mk A100
 clear A100
 replace H := OZ_ H
 obtain ⟨t110, A11, H⟩ := H
 replace H := OB_ H
 obtain ⟨⟨t114, t117⟩, A120, H⟩ := H
 try dsimp only at H
 have A12 := Zz.mk A120
 clear A120
 replace H := OZ_ H
 obtain ⟨t118, A13, H⟩ := H
 by_cases c14 : t118 = true
 ·subst c14
  replace H := T_ H
  by_cases c15 : t117 = t109
  ·rw [if_pos c15] at H
   have c15b0 : (t117 == t109) = true := beq_iff_eq.mpr c15
   have c15b1 : (t117 != t109) = false := bne_eq_false_iff_eq.mpr c15
   clear c15
   replace H := OZ_ H
   obtain ⟨t119, A16, H⟩ := H
   replace H := OZ_ H
   obtain ⟨t122, A17, H⟩ := H
   by_cases c18 : t122 = true
   ·subst c18
    replace H := T_ H
    replace H := OB_ H
    obtain ⟨⟨t123, t124⟩, A190, H⟩ := H
    try dsimp only at H
    have A19 := Zz.mk A190
    clear A190
    by_cases c20 : t123 < 0
    ·rw [if_pos c20] at H
     have c20b0 : decide (t123 < 0) = true := decide_eq_true c20
     clear c20
     exact absurd (H.trans (congrArg some ht_)) (by simp)
    rw [if_neg c20] at H
    have c20b0 : decide (t123 < 0) = false := decide_eq_false c20
    clear c20
    replace H := OZ_ H
    obtain ⟨t125, A21, H⟩ := H
    by_cases c22 : t125 = true
    ·subst c22
     replace H := T_ H
     replace H := OB_ H
     obtain ⟨⟨t126, t127⟩, A230, H⟩ := H
     try dsimp only at H
     have A23 := Zz.mk A230
     clear A230
     replace H := OZ_ H
     obtain ⟨t128, A24, H⟩ := H
     by_cases c25 : t128 < 0
     ·rw [if_pos c25] at H
      have c25b0 : decide (t128 < 0) = true := decide_eq_true c25
      clear c25
      exact absurd (H.trans (congrArg some ht_)) (by simp)
     rw [if_neg c25] at H
     have c25b0 : decide (t128 < 0) = false := decide_eq_false c25
     clear c25
     by_cases c26 : t128 = t126
     ·rw [if_pos c26] at H
      have c26b0 : (t128 == t126) = true := beq_iff_eq.mpr c26
      have c26b1 : (t128 != t126) = false := bne_eq_false_iff_eq.mpr c26
      clear c26
      replace H := OZ_ H
      obtain ⟨t129, A27, H⟩ := H
      replace H := OB_ H
      obtain ⟨⟨t132, t135⟩, A280, H⟩ := H
      try dsimp only at H
      have A28 := Zz.mk A280
      clear A280
      replace H := OZ_ H
      obtain ⟨t136, A29, H⟩ := H
      by_cases c30 : t136 = true
      ·subst c30
       replace H := T_ H
       by_cases c31 : t135 = t109
       ·rw [if_pos c31] at H
        have c31b0 : (t135 == t109) = true := beq_iff_eq.mpr c31
        have c31b1 : (t135 != t109) = false := bne_eq_false_iff_eq.mpr c31
        clear c31
        replace H := OZ_ H
        obtain ⟨t137, A32, H⟩ := H
        by_cases c33 : t137 < 0
        ·rw [if_pos c33] at H
         have c33b0 : decide (t137 < 0) = true := decide_eq_true c33
         clear c33
         exact absurd (H.trans (congrArg some ht_)) (by simp)
        rw [if_neg c33] at H
        have c33b0 : decide (t137 < 0) = false := decide_eq_false c33
        clear c33
        by_cases c34 : t137 = t126
        ·rw [if_pos c34] at H
         have c34b0 : (t137 == t126) = true := beq_iff_eq.mpr c34
         have c34b1 : (t137 != t126) = false := bne_eq_false_iff_eq.mpr c34
         clear c34
         obtain rfl := OI_ H
         go_enter Try.func12, Try.ntmps12
         try go_wp2_with (first | ((with_reducible refine gate_dst (N := 3) rfl ?_); refine box_event ?hg (N := 3) ?hd (cs := #[.slice A0_0 l0_0.length c0_0]) (t := 24) ?hr ?_; (case hd => rfl); (case hg => rfl); (case hr => first | (go_simp; done) | (go_simp; rfl)); intro gb101 hg w35 hbox hb; have BK101 := Zz.mk (hbox); have GW101 := Zz.mk ((by rw [hg]; exact (bS_ (B_ HB.out)) : w.heap.size ≤ gb101)); have GE101 := GW101; replace HB := Zz.mk (bT_ (B_ HB.out) hb); clear hb hbox hg; obtain ⟨hcz36_0, hfz36_0⟩ := Z1f_ BK101.out) | ((with_reducible refine gC_ (f := 15) rfl ?_); refine GL_ (some 20) rfl rfl Try.func15 #[.agg #[.slice A0_0 l0_0.length c0_0], .int .i64 1048576] rfl (h := ?_); (with_reducible refine (z15.calls k _ _ l0_0 1048576 t102 _ ?side1 ?side2 A4.out).mono ?_); (case side1 => exact KC_ (Kd.C_below HR0_0.out HB.out)); (case side2 => exact HC0_0.out); rintro e w37 ⟨rfl, hb⟩; refine ⟨_, rfl, ?_⟩; replace BK101 := Zz.mk (bB_ (g := gb101) (o := .cells #[.slice A0_0 l0_0.length c0_0] 24 (0, 0)) (KB_ BK101.out) hb); replace HB := Zz.mk (bT_ (B1_ HB.out GE101.out) hb); (try clear hb); (try clear hb2); (try clear hk); (try clear hi); obtain ⟨hcz38_0, hfz38_0⟩ := Z1f_ BK101.out) | ((with_reducible refine gC_ (f := 17) rfl ?_); refine GL_ (some 25) rfl rfl Try.func17 #[.agg #[.slice A0_0 l0_0.length c0_0]] rfl (h := ?_); (with_reducible refine (z17.calls k _ _ l0_0 t103 _ ?side1 ?side2 A9.out).mono ?_); (case side1 => exact KC_ (Kd.C_below HR0_0.out HB.out)); (case side2 => exact HC0_0.out); rintro e w39 ⟨v104, rfl, ho0, hb⟩; refine ⟨_, rfl, ?_⟩; obtain ⟨nan40, hnan40⟩ := Kd.size_letter hb; have HO105 := Zz.mk (Kd.S_lower (Kd.S_geN ho0 hnan40) (bS_ (B1_ HB.out GE101.out))); replace BK101 := Zz.mk (bB_ (g := gb101) (o := .cells #[.slice A0_0 l0_0.length c0_0] 24 (0, 0)) (KB_ BK101.out) hb); replace HB := Zz.mk (bT_ (B1_ HB.out GE101.out) hb); (try clear hb); (try clear hb2); (try clear hk); (try clear hi); (try clear ho0); obtain ⟨Ao41, co41, eo41⟩ := Kd.S_slice HO105.out; subst eo41) | ((with_reducible refine gC_ (f := 49) rfl ?_); refine GL_ (some 28) rfl rfl Try.func49 #[.agg #[.slice Ao41 t103.length co41], .int .i64 a1, .int .i64 a2] rfl (h := ?_); (with_reducible refine (z49.calls k _ _ t103 a1 a2 t106 t109 _ ?side1 ?side2 A10.out).mono ?_); (case side1 => exact KC_ (Kd.S_reads' HO105.out).2.2); (case side2 => exact (Kd.S_reads' HO105.out).2.1); rintro e w42 ⟨v107, rfl, ho0, hb⟩; refine ⟨_, rfl, ?_⟩; obtain ⟨nan43, hnan43⟩ := Kd.size_letter hb; have HO108 := Zz.mk (Kd.S_lower (Kd.S_geN (Kd.S_new' ho0 (Kd.S_lt (KS_ HO105.out))) hnan43) (bS_ (B1_ HB.out GE101.out))); replace HO105 := Zz.mk (Kd.S_told (Kd.S_oldN (KS_ HO105.out) hb hnan43) (Kd.S_baseN ho0 hnan43)); replace BK101 := Zz.mk (bB_ (g := gb101) (o := .cells #[.slice A0_0 l0_0.length c0_0] 24 (0, 0)) (KB_ BK101.out) hb); replace HB := Zz.mk (bT_ (B1_ HB.out GE101.out) hb); (try clear hb); (try clear hb2); (try clear hk); (try clear hi); (try clear ho0); obtain ⟨hcz44_0, hfz44_0⟩ := Z1f_ BK101.out) | ((with_reducible refine gC_ (f := 17) rfl ?_); refine GL_ (some 32) rfl rfl Try.func17 #[.agg #[.slice A0_0 l0_0.length c0_0]] rfl (h := ?_); (with_reducible refine (z17.calls k _ _ l0_0 t110 _ ?side1 ?side2 A11.out).mono ?_); (case side1 => exact KC_ (Kd.C_below HR0_0.out HB.out)); (case side2 => exact HC0_0.out); rintro e w45 ⟨v111, rfl, ho0, hb⟩; refine ⟨_, rfl, ?_⟩; obtain ⟨nan46, hnan46⟩ := Kd.size_letter hb; have HO112 := Zz.mk (Kd.S_lower (Kd.S_geN (Kd.S_new' (Kd.S_new' ho0 (Kd.S_lt (KS_ HO105.out))) (Kd.S_lt (KS_ HO108.out))) hnan46) (bS_ (B1_ HB.out GE101.out))); replace HO105 := Zz.mk (Kd.S_told (Kd.S_oldN (KS_ HO105.out) hb hnan46) (Kd.S_baseN ho0 hnan46)); replace HO108 := Zz.mk (Kd.S_told (Kd.S_oldN (KS_ HO108.out) hb hnan46) (Kd.S_baseN ho0 hnan46)); replace BK101 := Zz.mk (bB_ (g := gb101) (o := .cells #[.slice A0_0 l0_0.length c0_0] 24 (0, 0)) (KB_ BK101.out) hb); replace HB := Zz.mk (bT_ (B1_ HB.out GE101.out) hb); (try clear hb); (try clear hb2); (try clear hk); (try clear hi); (try clear ho0)) | ((with_reducible refine gate_dst (N := 10) rfl ?_); refine box_event ?hg (N := 10) ?hd (cs := #[.slice none 0 0]) (t := 29) ?hr ?_; (case hd => rfl); (case hg => rfl); (case hr => first | (go_simp; done) | (go_simp; rfl)); intro gb113 hg w47 hbox hb; have BK113 := Zz.mk (hbox); have GW113 := Zz.mk ((by rw [hg]; exact (bS_ (B1_ HB.out GE101.out)) : w.heap.size ≤ gb113)); have GE113 := GW113; have NB101_113 := Zz.mk ((by rw [hg]; exact Nat.ne_of_lt (blk_lt (g := gb101) (o := .cells #[.slice A0_0 l0_0.length c0_0] 24 (0, 0)) (KB_ BK101.out)) : gb101 ≠ gb113)); have NB113_101 := Zz.mk NB101_113.out.symm; replace HO105 := Zz.mk (Kd.S_below (KS_ HO105.out) hb); replace HO108 := Zz.mk (Kd.S_below (KS_ HO108.out) hb); replace HO112 := Zz.mk (Kd.S_below (KS_ HO112.out) hb); replace BK101 := Zz.mk (bB_ (g := gb101) (o := .cells #[.slice A0_0 l0_0.length c0_0] 24 (0, 0)) (KB_ BK101.out) hb); replace HB := Zz.mk (bT_ (B1_ HB.out GE101.out) hb); clear hb hbox hg; obtain ⟨Ao48, co48, eo48⟩ := Kd.S_slice HO112.out; subst eo48; have hnb49 := NB113_101.out; have hnc49 := NB101_113.out; obtain ⟨hcz50_0, hfz50_0⟩ := Z1f_ BK113.out) | ((with_reducible refine gC_ (f := 50) rfl ?_); refine GL_ (some 37) rfl rfl Try.func50 #[.agg #[.slice Ao48 t110.length co48], .int .i64 a1, .int .i64 a2] rfl (h := ?_); (with_reducible refine (z50.calls k _ _ t110 a1 a2 t114 t117 _ ?side1 ?side2 A12.out).mono ?_); (case side1 => refine (Kd.S_reads' (e := 26) (base := w.heap.size) (ok := fun k_ => (((True ∧ some k_ ≠ (.slice Ao41 t103.length co41 : Value).ownBlock) ∧ some k_ ≠ (v107 : Value).ownBlock) ∧ nan46 ≤ k_)) (n := t110.length) (c := co48) ?_).2.2; exact (by refine SW_ ?_; exact (Kd.S_mono (Kd.S_far (p := ⟨gb113, 0, none⟩) (Kd.S_types HO112.out BK113.out (by decide)) (fun _ hk => hk.2) (.slice Ao48 t110.length co48)) (fun _ h_ => h_.1)))); (case side2 => exact (Kd.S_reads' HO112.out).2.1); rintro e w51 ⟨v115, rfl, ho0, hb⟩; refine ⟨_, rfl, ?_⟩; obtain ⟨nan52, hnan52⟩ := Kd.size_letter hb; have HO116 := Zz.mk (Kd.S_lower (Kd.S_geN (Kd.S_new' (Kd.S_new' (Kd.S_new' ho0 (Kd.S_lt (by refine SW_ ?_; exact (Kd.S_mono (Kd.S_far (p := ⟨gb113, 0, none⟩) (Kd.S_types HO105.out BK113.out (by decide)) (fun _ hk => hk.2) (.slice Ao48 t110.length co48)) (fun _ h_ => h_.1))))) (Kd.S_lt (by refine SW_ ?_; exact (Kd.S_mono (Kd.S_far (p := ⟨gb113, 0, none⟩) (Kd.S_types HO108.out BK113.out (by decide)) (fun _ hk => hk.2) (.slice Ao48 t110.length co48)) (fun _ h_ => h_.1))))) (Kd.S_lt (by refine SW_ ?_; exact (Kd.S_mono (Kd.S_far (p := ⟨gb113, 0, none⟩) (Kd.S_types HO112.out BK113.out (by decide)) (fun _ hk => hk.2) (.slice Ao48 t110.length co48)) (fun _ h_ => h_.1))))) hnan52) (bS_ (B2_ HB.out GE101.out GE113.out))); replace HO105 := Zz.mk (Kd.S_told (Kd.S_oldN (by refine SW_ ?_; exact (Kd.S_mono (Kd.S_far (p := ⟨gb113, 0, none⟩) (Kd.S_types HO105.out BK113.out (by decide)) (fun _ hk => hk.2) (.slice Ao48 t110.length co48)) (fun _ h_ => h_.1))) hb hnan52) (Kd.S_baseN ho0 hnan52)); replace HO108 := Zz.mk (Kd.S_told (Kd.S_oldN (by refine SW_ ?_; exact (Kd.S_mono (Kd.S_far (p := ⟨gb113, 0, none⟩) (Kd.S_types HO108.out BK113.out (by decide)) (fun _ hk => hk.2) (.slice Ao48 t110.length co48)) (fun _ h_ => h_.1))) hb hnan52) (Kd.S_baseN ho0 hnan52)); replace HO112 := Zz.mk (Kd.S_told (Kd.S_oldN (by refine SW_ ?_; exact (Kd.S_mono (Kd.S_far (p := ⟨gb113, 0, none⟩) (Kd.S_types HO112.out BK113.out (by decide)) (fun _ hk => hk.2) (.slice Ao48 t110.length co48)) (fun _ h_ => h_.1))) hb hnan52) (Kd.S_baseN ho0 hnan52)); replace BK101 := Zz.mk (bB_ (g := gb101) (o := .cells #[.slice A0_0 l0_0.length c0_0] 24 (0, 0)) (by refine BW_ ?_; refine bR_ ?_ NB101_113.out _; refine BW_ ?_; exact BK101.out) hb); replace BK113 := Zz.mk (bB_ (g := gb113) (o := .cells #[.slice Ao48 t110.length co48] 29 (0, 0)) (by refine BW_ ?_; refine bP_ (cs := #[.slice none 0 0]) ?_ 0 _ rfl; refine BW_ ?_; exact BK113.out) hb); replace HB := Zz.mk (bT_ (B2_ HB.out GE101.out GE113.out) hb); (try clear hb); (try clear hb2); (try clear hk); (try clear hi); (try clear ho0); obtain ⟨Ao53, co53, eo53⟩ := Kd.S_slice HO116.out; subst eo53; obtain ⟨Ao54, co54, eo54⟩ := Kd.S_slice HO108.out; subst eo54) | ((with_reducible refine gC_ (f := 33) rfl ?_); refine GL_ (some 42) rfl rfl Try.func33 #[.slice Ao53 t114.length co53, .slice Ao54 t106.length co54] rfl (h := ?_); (with_reducible refine (z33.calls k _ _ t114 _ _ t106 true _ ?side1 ?side2 ?side3 ?side4 A13.out).mono ?_); (case side1 => exact KC_ (Kd.S_reads' HO116.out).2.2); (case side2 => exact (Kd.S_reads' HO116.out).2.1); (case side3 => exact KC_ (Kd.S_reads' HO108.out).2.2); (case side4 => exact (Kd.S_reads' HO108.out).2.1); rintro e w' ⟨rfl, ⟨nd, rfl⟩⟩; refine ⟨_, rfl, ?_⟩))
         (try (rw [drewN_self w51]; generalize hq_ : World.drewN w51 _ = w51; replace HO105 : Zz (Kd.S (Kd.slice 2 (Kd.int .i64)) 26 w51 w.heap.size (fun k_ => some k_ ≠ (.slice Ao54 t106.length co54 : Value).ownBlock ∧ some k_ ≠ (.slice Ao48 t110.length co48 : Value).ownBlock ∧ some k_ ≠ (.slice Ao53 t114.length co53 : Value).ownBlock ∧ nan40 ≤ k_ ∧ k_ < nan43 ∧ k_ < nan46 ∧ k_ < nan52) (.slice Ao41 t103.length co41) t103) := ⟨by rw [← hq_]; exact (by refine SW_ ?_; exact Kd.S_mono HO105.out (fun _ hk => ⟨hk.1.1.1.1.1.2, ⟨hk.1.1.1.2, ⟨hk.1.2, ⟨hk.1.1.1.1.1.1.2, ⟨hk.1.1.1.1.2, ⟨hk.1.1.2, hk.2⟩⟩⟩⟩⟩⟩))⟩; replace HO108 : Zz (Kd.S (Kd.slice 2 (Kd.int .i64)) 26 w51 w.heap.size (fun k_ => some k_ ≠ (.slice Ao41 t103.length co41 : Value).ownBlock ∧ some k_ ≠ (.slice Ao48 t110.length co48 : Value).ownBlock ∧ some k_ ≠ (.slice Ao53 t114.length co53 : Value).ownBlock ∧ nan43 ≤ k_ ∧ k_ < nan46 ∧ k_ < nan52) (.slice Ao54 t106.length co54) t106) := ⟨by rw [← hq_]; exact (by refine SW_ ?_; exact Kd.S_mono HO108.out (fun _ hk => ⟨hk.1.1.1.1.1.2, ⟨hk.1.1.1.2, ⟨hk.1.2, ⟨hk.1.1.1.1.2, ⟨hk.1.1.2, hk.2⟩⟩⟩⟩⟩))⟩; replace HO112 : Zz (Kd.S (Kd.slice 2 (Kd.int .i64)) 26 w51 w.heap.size (fun k_ => some k_ ≠ (.slice Ao41 t103.length co41 : Value).ownBlock ∧ some k_ ≠ (.slice Ao54 t106.length co54 : Value).ownBlock ∧ some k_ ≠ (.slice Ao53 t114.length co53 : Value).ownBlock ∧ nan46 ≤ k_ ∧ k_ < nan52) (.slice Ao48 t110.length co48) t110) := ⟨by rw [← hq_]; exact (by refine SW_ ?_; exact Kd.S_mono HO112.out (fun _ hk => ⟨hk.1.1.1.1.2, ⟨hk.1.1.1.2, ⟨hk.1.2, ⟨hk.1.1.2, hk.2⟩⟩⟩⟩))⟩; replace HO116 : Zz (Kd.S (Kd.slice 2 (Kd.int .i64)) 26 w51 w.heap.size (fun k_ => some k_ ≠ (.slice Ao41 t103.length co41 : Value).ownBlock ∧ some k_ ≠ (.slice Ao54 t106.length co54 : Value).ownBlock ∧ some k_ ≠ (.slice Ao48 t110.length co48 : Value).ownBlock ∧ nan52 ≤ k_) (.slice Ao53 t114.length co53) t114) := ⟨by rw [← hq_]; exact (by refine SW_ ?_; exact Kd.S_mono HO116.out (fun _ hk => ⟨hk.1.1.1.2, ⟨hk.1.1.2, ⟨hk.1.2, hk.2⟩⟩⟩))⟩; replace BK101 : Zz (w51.heap[gb101]? = some (.cells #[.slice A0_0 l0_0.length c0_0] 24 (0, 0))) := ⟨by rw [← hq_]; exact (KB_ BK101.out)⟩; replace BK113 : Zz (w51.heap[gb113]? = some (.cells #[.slice Ao48 t110.length co48] 29 (0, 0))) := ⟨by rw [← hq_]; exact (KB_ BK113.out)⟩; replace HB : Zz (Below w.heap.size w w51) := ⟨by rw [← hq_]; exact (B2_ HB.out GE101.out GE113.out)⟩; (try clear hq_)))
         replace HO105 := Zz.mk (Kd.S_drew HO105.out)
         replace HO108 := Zz.mk (Kd.S_drew HO108.out)
         replace HO112 := Zz.mk (Kd.S_drew HO112.out)
         replace HO116 := Zz.mk (Kd.S_drew HO116.out)
         replace BK101 := Zz.mk (bD_ BK101.out)
         replace BK113 := Zz.mk (bD_ BK113.out)
         replace HB := Zz.mk (below_drew1 HB.out)
         refine start_ (n := 5) (S := fun w' => w'.cell? ⟨gb113, 0, none⟩ = some (.slice Ao48 t110.length co48) ∧ w'.cell? ⟨gb101, 0, none⟩ = some (.slice A0_0 l0_0.length c0_0)) (ds := []) #[false, false, false, false, false] (by kernel_rfl) rfl rfl ⟨(bC_ BK113.out 0).trans rfl, (bC_ BK101.out 0).trans rfl⟩ (fun hHeld => ?_)
         generalize w51.drew = w55 at HO105 HO108 HO112 HO116 BK101 BK113 HB hHeld ⊢
         refine take_ (i := 0) (N := some 49) (v := ?_) (a' := ?_) #[true, false, false, false, false] rfl rfl (by kernel_rfl) (fun _ _ _ h => h) (Or.inl ⟨by rfl, ?_⟩) hHeld ?_ ?_
         rotate_left
         ·rintro w' ⟨s0, s1⟩
          go_simp
          with_reducible rfl
         rotate_left
         ·simp only [Act.put, List.setIfInBounds_toArray, List.set_cons_zero, List.set_cons_succ, i64_w, i32_w]
          rfl
         refine take_ (i := 1) (N := some 50) (v := ?_) (a' := ?_) #[true, true, false, false, false] rfl rfl (by kernel_rfl) (fun _ _ _ h => h) (Or.inl ⟨by rfl, ?_⟩) hHeld ?_ ?_
         rotate_left
         ·rintro w' ⟨s0, s1⟩
          go_simp
          with_reducible rfl
         rotate_left
         ·simp only [Act.put, List.setIfInBounds_toArray, List.set_cons_zero, List.set_cons_succ, i64_w, i32_w]
          rfl
         refine one_ (i := 2) (N := some 51) #[true, true, true, false, false] rfl rfl (by kernel_rfl) (by decide) (fun K hK => ?_)
         refine GO_ Try.func17 #[.agg #[.slice A0_0 l0_0.length c0_0]] (h := ?_)
         with_reducible refine (z17.calls k _ _ l0_0 t119 _ ?side1 ?side2 A16.out).mono ?_
         (case side1 => exact KC_ (Kd.C_below HR0_0.out HB.out))
         (case side2 => exact HC0_0.out)
         rintro e w56 ⟨v120, rfl, ho0, hb⟩
         refine ⟨_, rfl, ?_⟩
         obtain ⟨nan57, hnan57⟩ := Kd.size_letter hb
         have HO121 := Zz.mk (Kd.S_lower (Kd.S_geN (Kd.S_new' (Kd.S_new' (Kd.S_new' (Kd.S_new' ho0 (Kd.S_lt (KS_ HO105.out))) (Kd.S_lt (KS_ HO108.out))) (Kd.S_lt (KS_ HO112.out))) (Kd.S_lt (KS_ HO116.out))) hnan57) (bS_ (B2_ HB.out GE101.out GE113.out)))
         replace HO105 := Zz.mk (Kd.S_told (Kd.S_oldN (KS_ HO105.out) hb hnan57) (Kd.S_baseN ho0 hnan57))
         replace HO108 := Zz.mk (Kd.S_told (Kd.S_oldN (KS_ HO108.out) hb hnan57) (Kd.S_baseN ho0 hnan57))
         replace HO112 := Zz.mk (Kd.S_told (Kd.S_oldN (KS_ HO112.out) hb hnan57) (Kd.S_baseN ho0 hnan57))
         replace HO116 := Zz.mk (Kd.S_told (Kd.S_oldN (KS_ HO116.out) hb hnan57) (Kd.S_baseN ho0 hnan57))
         replace BK101 := Zz.mk (bB_ (g := gb101) (o := .cells #[.slice A0_0 l0_0.length c0_0] 24 (0, 0)) (KB_ BK101.out) hb)
         replace BK113 := Zz.mk (bB_ (g := gb113) (o := .cells #[.slice Ao48 t110.length co48] 29 (0, 0)) (KB_ BK113.out) hb)
         replace HB := Zz.mk (bT_ (B2_ HB.out GE101.out GE113.out) hb)
         (try clear hb);(try clear hb2);(try clear hk);(try clear hi);(try clear ho0)
         obtain ⟨Ao58, co58, eo58⟩ := Kd.S_slice HO121.out
         (first | subst eo58 | (injection eo58 with f1_ f2_ f3_; have f4_ := f1_.symm; have f5_ := f3_.symm; clear f1_ f2_ f3_; subst f4_; subst f5_))
         refine hK.out _ _ ⟨(bC_ BK113.out 0).trans rfl, (bC_ BK101.out 0).trans rfl⟩ (fun hHeld => ?_)
         clear hK K
         refine NM_ (N := (some 51)) (h := ?_)
         refine one_ (i := 3) (N := some 52) #[true, true, true, true, false] rfl rfl (by kernel_rfl) (by decide) (fun K hK => ?_)
         refine GO_ Try.func20 #[.agg #[.slice Ao48 t110.length co48], .agg #[.slice Ao58 t119.length co58]] (h := ?_)
         with_reducible refine (z20.calls k _ _ t110 _ _ t119 true _ ?side1 ?side2 ?side3 ?side4 A17.out).mono ?_
         (case side1 => exact KC_ (Kd.S_reads' HO112.out).2.2)
         (case side2 => exact (Kd.S_reads' HO112.out).2.1)
         (case side3 => exact KC_ (Kd.S_reads' HO121.out).2.2)
         (case side4 => exact (Kd.S_reads' HO121.out).2.1)
         rintro e w59 ⟨rfl, hb⟩
         refine ⟨_, rfl, ?_⟩
         replace HO105 := Zz.mk (Kd.S_below (KS_ HO105.out) hb)
         replace HO108 := Zz.mk (Kd.S_below (KS_ HO108.out) hb)
         replace HO112 := Zz.mk (Kd.S_below (KS_ HO112.out) hb)
         replace HO116 := Zz.mk (Kd.S_below (KS_ HO116.out) hb)
         replace HO121 := Zz.mk (Kd.S_below (KS_ HO121.out) hb)
         replace BK101 := Zz.mk (bB_ (g := gb101) (o := .cells #[.slice A0_0 l0_0.length c0_0] 24 (0, 0)) (KB_ BK101.out) hb)
         replace BK113 := Zz.mk (bB_ (g := gb113) (o := .cells #[.slice Ao48 t110.length co48] 29 (0, 0)) (KB_ BK113.out) hb)
         replace HB := Zz.mk (bT_ (B2_ HB.out GE101.out GE113.out) hb)
         (try clear hb);(try clear hb2);(try clear hk);(try clear hi)
         refine hK.out _ _ ⟨(bC_ BK113.out 0).trans rfl, (bC_ BK101.out 0).trans rfl⟩ (fun hHeld => ?_)
         clear hK K
         refine NM_ (N := (some 52)) (h := ?_)
         refine pure_ (i := 4) (N := some 53) (v := ?_) (a' := ?_) #[true, true, true, true, true] rfl rfl (by kernel_rfl) (fun _ _ _ h => h) (Or.inl ⟨by rfl, ?_⟩) ?_ ?_
         rotate_left
         ·intro w'
          go_simp
          with_reducible rfl
         rotate_left
         ·simp only [Act.put, List.setIfInBounds_toArray, List.set_cons_zero, List.set_cons_succ, i64_w, i32_w]
          rfl
         refine done_ (by kernel_rfl) ?_
         obtain ⟨hcz60_0, hfz60_0⟩ := Z1f_ BK113.out
         try go_wp2_with (first | (go_at_call 21; (with_reducible refine (laws_markComplex.calls (fun k_ => (((some k_ ≠ (.slice Ao41 t103.length co41 : Value).ownBlock ∧ (some k_ ≠ (.slice Ao54 t106.length co54 : Value).ownBlock ∧ (some k_ ≠ (.slice Ao53 t114.length co53 : Value).ownBlock ∧ (nan46 ≤ k_ ∧ k_ < nan52)))) ∧ some k_ ≠ (.slice Ao58 t119.length co58 : Value).ownBlock) ∧ k_ < nan57) ∧ ∃ q_, q_ ∈ 26 :: ((Kd.slice 2 (Kd.int .i64))).E ∧ ∃ cs_, w59.heap[k_]? = some (.cells cs_ q_ (0, 0))) (.slice Ao48 t110.length co48) t110 1 t123 t124 w _ ?side1 ?side2 A19.out).mono ?_); (case side1 => repeat (first | (with_reducible first | exact HB.out | apply below_alloc | apply pw_below_drewN | apply below_drew1 | refine below_set ?_ GE101.out | refine below_set ?_ GE113.out) | exact HB.out)); (case side2 => exact Kd.S_pin (ok := fun k_ => (((some k_ ≠ (.slice Ao41 t103.length co41 : Value).ownBlock ∧ (some k_ ≠ (.slice Ao54 t106.length co54 : Value).ownBlock ∧ (some k_ ≠ (.slice Ao53 t114.length co53 : Value).ownBlock ∧ (nan46 ≤ k_ ∧ k_ < nan52)))) ∧ some k_ ≠ (.slice Ao58 t119.length co58 : Value).ownBlock) ∧ k_ < nan57)) (KS_ HO112.out)); rintro e w61 ⟨rfl, hy0, hb, hkp⟩; replace BK101 := Zz.mk (blk_kept (KB_ BK101.out) hkp (fun hs_ => Kd.typed_ne (KB_ BK101.out) hs_.2 (by decide))); replace HO105 := Zz.mk (Kd.S_mono (Kd.S_keptB (ok := fun k_ => (((some k_ ≠ (.slice Ao54 t106.length co54 : Value).ownBlock ∧ (some k_ ≠ (.slice Ao48 t110.length co48 : Value).ownBlock ∧ (some k_ ≠ (.slice Ao53 t114.length co53 : Value).ownBlock ∧ (nan40 ≤ k_ ∧ (k_ < nan43 ∧ (k_ < nan46 ∧ k_ < nan52)))))) ∧ some k_ ≠ (.slice Ao58 t119.length co58 : Value).ownBlock) ∧ k_ < nan57)) (KS_ HO105.out) hkp (fun k_ hk_ hs_ => absurd hs_.1.1.1.2.2.2.1 (Nat.not_le.2 hk_.1.1.2.2.2.2.2.1))) (fun k_ hk_ => hk_.1)); replace HO108 := Zz.mk (Kd.S_mono (Kd.S_keptB (ok := fun k_ => (((some k_ ≠ (.slice Ao41 t103.length co41 : Value).ownBlock ∧ (some k_ ≠ (.slice Ao48 t110.length co48 : Value).ownBlock ∧ (some k_ ≠ (.slice Ao53 t114.length co53 : Value).ownBlock ∧ (nan43 ≤ k_ ∧ (k_ < nan46 ∧ k_ < nan52))))) ∧ some k_ ≠ (.slice Ao58 t119.length co58 : Value).ownBlock) ∧ k_ < nan57)) (KS_ HO108.out) hkp (fun k_ hk_ hs_ => absurd hs_.1.1.1.2.2.2.1 (Nat.not_le.2 hk_.1.1.2.2.2.2.1))) (fun k_ hk_ => hk_.1)); replace HO112 := Zz.mk (Kd.S_mono hy0 (fun k_ hk_ => hk_.1)); replace BK113 := Zz.mk (blk_kept (KB_ BK113.out) hkp (fun hs_ => Kd.typed_ne (KB_ BK113.out) hs_.2 (by decide))); replace HO116 := Zz.mk (Kd.S_mono (Kd.S_keptB (ok := fun k_ => (((some k_ ≠ (.slice Ao41 t103.length co41 : Value).ownBlock ∧ (some k_ ≠ (.slice Ao54 t106.length co54 : Value).ownBlock ∧ (some k_ ≠ (.slice Ao48 t110.length co48 : Value).ownBlock ∧ nan52 ≤ k_))) ∧ some k_ ≠ (.slice Ao58 t119.length co58 : Value).ownBlock) ∧ k_ < nan57)) (KS_ HO116.out) hkp (fun k_ hk_ hs_ => absurd hk_.1.1.2.2.2 (Nat.not_le.2 hs_.1.1.1.2.2.2.2))) (fun k_ hk_ => hk_.1)); replace HO121 := Zz.mk (Kd.S_mono (Kd.S_keptB (ok := fun k_ => (((((True ∧ some k_ ≠ (.slice Ao41 t103.length co41 : Value).ownBlock) ∧ some k_ ≠ (.slice Ao54 t106.length co54 : Value).ownBlock) ∧ some k_ ≠ (.slice Ao48 t110.length co48 : Value).ownBlock) ∧ some k_ ≠ (.slice Ao53 t114.length co53 : Value).ownBlock) ∧ nan57 ≤ k_)) (KS_ HO121.out) hkp (fun k_ hk_ hs_ => absurd hk_.2 (Nat.not_le.2 hs_.1.2))) (fun k_ hk_ => hk_.1)); replace HB := Zz.mk (hb); (try clear hb hkp hy0)) | (go_at_call 33; (with_reducible refine (z33.calls k _ _ t114 _ _ t106 true _ ?side1 ?side2 ?side3 ?side4 A21.out).mono ?_); (case side1 => exact KC_ (Kd.S_reads' HO116.out).2.2); (case side2 => exact (Kd.S_reads' HO116.out).2.1); (case side3 => exact KC_ (Kd.S_reads' HO108.out).2.2); (case side4 => exact (Kd.S_reads' HO108.out).2.1); rintro e w' ⟨rfl, ⟨nd, rfl⟩⟩) | (go_at_call 34; (with_reducible refine (laws_markInt64SS.calls (fun k_ => (((some k_ ≠ (.slice Ao41 t103.length co41 : Value).ownBlock ∧ (some k_ ≠ (.slice Ao54 t106.length co54 : Value).ownBlock ∧ (some k_ ≠ (.slice Ao48 t110.length co48 : Value).ownBlock ∧ nan52 ≤ k_))) ∧ some k_ ≠ (.slice Ao58 t119.length co58 : Value).ownBlock) ∧ k_ < nan57) ∧ ∃ q_, q_ ∈ 26 :: ((Kd.slice 2 (Kd.int .i64))).E ∧ ∃ cs_, w61.heap[k_]? = some (.cells cs_ q_ (0, 0))) (.slice Ao53 t114.length co53) t114 1 t126 t127 w _ ?side1 ?side2 A23.out).mono ?_); (case side1 => repeat (first | (with_reducible first | exact HB.out | apply below_alloc | apply pw_below_drewN | apply below_drew1 | refine below_set ?_ GE101.out | refine below_set ?_ GE113.out) | exact HB.out)); (case side2 => exact Kd.S_pin (ok := fun k_ => (((some k_ ≠ (.slice Ao41 t103.length co41 : Value).ownBlock ∧ (some k_ ≠ (.slice Ao54 t106.length co54 : Value).ownBlock ∧ (some k_ ≠ (.slice Ao48 t110.length co48 : Value).ownBlock ∧ nan52 ≤ k_))) ∧ some k_ ≠ (.slice Ao58 t119.length co58 : Value).ownBlock) ∧ k_ < nan57)) (KS_ HO116.out)); rintro e w62 ⟨rfl, hy0, hb, hkp⟩; replace BK101 := Zz.mk (blk_kept (KB_ BK101.out) hkp (fun hs_ => Kd.typed_ne (KB_ BK101.out) hs_.2 (by decide))); replace HO105 := Zz.mk (Kd.S_mono (Kd.S_keptB (ok := fun k_ => (((some k_ ≠ (.slice Ao54 t106.length co54 : Value).ownBlock ∧ (some k_ ≠ (.slice Ao48 t110.length co48 : Value).ownBlock ∧ (some k_ ≠ (.slice Ao53 t114.length co53 : Value).ownBlock ∧ (nan40 ≤ k_ ∧ (k_ < nan43 ∧ (k_ < nan46 ∧ k_ < nan52)))))) ∧ some k_ ≠ (.slice Ao58 t119.length co58 : Value).ownBlock) ∧ k_ < nan57)) (KS_ HO105.out) hkp (fun k_ hk_ hs_ => absurd hs_.1.1.1.2.2.2 (Nat.not_le.2 hk_.1.1.2.2.2.2.2.2))) (fun k_ hk_ => hk_.1)); replace HO108 := Zz.mk (Kd.S_mono (Kd.S_keptB (ok := fun k_ => (((some k_ ≠ (.slice Ao41 t103.length co41 : Value).ownBlock ∧ (some k_ ≠ (.slice Ao48 t110.length co48 : Value).ownBlock ∧ (some k_ ≠ (.slice Ao53 t114.length co53 : Value).ownBlock ∧ (nan43 ≤ k_ ∧ (k_ < nan46 ∧ k_ < nan52))))) ∧ some k_ ≠ (.slice Ao58 t119.length co58 : Value).ownBlock) ∧ k_ < nan57)) (KS_ HO108.out) hkp (fun k_ hk_ hs_ => absurd hs_.1.1.1.2.2.2 (Nat.not_le.2 hk_.1.1.2.2.2.2.2))) (fun k_ hk_ => hk_.1)); replace HO112 := Zz.mk (Kd.S_mono (Kd.S_keptB (ok := fun k_ => (((some k_ ≠ (.slice Ao41 t103.length co41 : Value).ownBlock ∧ (some k_ ≠ (.slice Ao54 t106.length co54 : Value).ownBlock ∧ (some k_ ≠ (.slice Ao53 t114.length co53 : Value).ownBlock ∧ (nan46 ≤ k_ ∧ k_ < nan52)))) ∧ some k_ ≠ (.slice Ao58 t119.length co58 : Value).ownBlock) ∧ k_ < nan57)) (KS_ HO112.out) hkp (fun k_ hk_ hs_ => absurd hs_.1.1.1.2.2.2 (Nat.not_le.2 hk_.1.1.2.2.2.2))) (fun k_ hk_ => hk_.1)); replace BK113 := Zz.mk (blk_kept (KB_ BK113.out) hkp (fun hs_ => Kd.typed_ne (KB_ BK113.out) hs_.2 (by decide))); replace HO116 := Zz.mk (Kd.S_mono hy0 (fun k_ hk_ => hk_.1)); replace HO121 := Zz.mk (Kd.S_mono (Kd.S_keptB (ok := fun k_ => (((((True ∧ some k_ ≠ (.slice Ao41 t103.length co41 : Value).ownBlock) ∧ some k_ ≠ (.slice Ao54 t106.length co54 : Value).ownBlock) ∧ some k_ ≠ (.slice Ao48 t110.length co48 : Value).ownBlock) ∧ some k_ ≠ (.slice Ao53 t114.length co53 : Value).ownBlock) ∧ nan57 ≤ k_)) (KS_ HO121.out) hkp (fun k_ hk_ hs_ => absurd hk_.2 (Nat.not_le.2 hs_.1.2))) (fun k_ hk_ => hk_.1)); replace HB := Zz.mk (hb); (try clear hb hkp hy0)) | ((with_reducible refine gC_ (f := 51) rfl ?_); refine goesL_ (some 75) rfl rfl Try.func51 (by kernel_rfl) rfl #[.slice Ao53 t127.length co53, .int .i64 1] rfl (by (try simp only [List.map_toArray, List.map_cons, List.map_nil]); first | done | (rw [show t127.length = t114.length from (Kd.S_reads' HO116.out).1.symm] <;> rfl) | rfl | (simp only [List.length_drop, List.length_take]; rfl)) ?_; (with_reducible refine (z51.calls k _ _ t127 1 t128 _ ?side1 ?side2 A24.out).mono ?_); (case side1 => exact KC_ (Kd.S_reads' HO116.out).2.2); (case side2 => rw [show t127.length = t114.length from (Kd.S_reads' HO116.out).1.symm]; exact (Kd.S_reads' HO116.out).2.1); rintro e w' ⟨rfl, ⟨nd, rfl⟩⟩; refine ⟨_, rfl, ?_⟩; obtain ⟨hcz63_0, hfz63_0⟩ := Z1f_ BK101.out) | ((with_reducible refine gC_ (f := 17) rfl ?_); refine GL_ (some 83) rfl rfl Try.func17 #[.agg #[.slice A0_0 l0_0.length c0_0]] rfl (h := ?_); (with_reducible refine (z17.calls k _ _ l0_0 t129 _ ?side1 ?side2 A27.out).mono ?_); (case side1 => repeat (first | exact (Kd.C_below HR0_0.out (B2_ HB.out GE101.out GE113.out)) | (with_reducible refine Kd.C_alloc ?_ _) | (with_reducible refine Kd.C_drewN ?_ _) | (with_reducible refine Kd.C_drew ?_))); (case side2 => exact HC0_0.out); rintro e w64 ⟨v130, rfl, ho0, hb⟩; refine ⟨_, rfl, ?_⟩; obtain ⟨nan65, hnan65⟩ := Kd.size_letter hb; have HO131 := Zz.mk (Kd.S_lower (Kd.S_geN (Kd.S_new' (Kd.S_new' (Kd.S_new' (Kd.S_new' (Kd.S_new' ho0 (Kd.S_lt (KS_ HO105.out))) (Kd.S_lt (KS_ HO108.out))) (Kd.S_lt (KS_ HO112.out))) (Kd.S_lt (KS_ HO116.out))) (Kd.S_lt (KS_ HO121.out))) hnan65) (bS_ (B2_ HB.out GE101.out GE113.out))); replace HO105 := Zz.mk (Kd.S_told (Kd.S_oldN (KS_ HO105.out) hb hnan65) (Kd.S_baseN ho0 hnan65)); replace HO108 := Zz.mk (Kd.S_told (Kd.S_oldN (KS_ HO108.out) hb hnan65) (Kd.S_baseN ho0 hnan65)); replace HO112 := Zz.mk (Kd.S_told (Kd.S_oldN (KS_ HO112.out) hb hnan65) (Kd.S_baseN ho0 hnan65)); replace HO116 := Zz.mk (Kd.S_told (Kd.S_oldN (KS_ HO116.out) hb hnan65) (Kd.S_baseN ho0 hnan65)); replace HO121 := Zz.mk (Kd.S_told (Kd.S_oldN (KS_ HO121.out) hb hnan65) (Kd.S_baseN ho0 hnan65)); replace BK101 := Zz.mk (bB_ (g := gb101) (o := .cells #[.slice A0_0 l0_0.length c0_0] 24 (0, 0)) (KB_ BK101.out) hb); replace BK113 := Zz.mk (bB_ (g := gb113) (o := .cells #[.slice Ao48 t110.length co48] 29 (0, 0)) (KB_ BK113.out) hb); replace HB := Zz.mk (bT_ (B2_ HB.out GE101.out GE113.out) hb); (try clear hb); (try clear hb2); (try clear hk); (try clear hi); (try clear ho0); obtain ⟨Ao66, co66, eo66⟩ := Kd.S_slice HO131.out; subst eo66) | ((with_reducible refine gC_ (f := 50) rfl ?_); refine GL_ (some 86) rfl rfl Try.func50 #[.agg #[.slice Ao66 t129.length co66], .int .i64 a1, .int .i64 a2] rfl (h := ?_); (with_reducible refine (z50.calls k _ _ t129 a1 a2 t132 t135 _ ?side1 ?side2 A28.out).mono ?_); (case side1 => exact KC_ (Kd.S_reads' HO131.out).2.2); (case side2 => exact (Kd.S_reads' HO131.out).2.1); rintro e w67 ⟨v133, rfl, ho0, hb⟩; refine ⟨_, rfl, ?_⟩; obtain ⟨nan68, hnan68⟩ := Kd.size_letter hb; have HO134 := Zz.mk (Kd.S_lower (Kd.S_geN (Kd.S_new' (Kd.S_new' (Kd.S_new' (Kd.S_new' (Kd.S_new' (Kd.S_new' ho0 (Kd.S_lt (KS_ HO105.out))) (Kd.S_lt (KS_ HO108.out))) (Kd.S_lt (KS_ HO112.out))) (Kd.S_lt (KS_ HO116.out))) (Kd.S_lt (KS_ HO121.out))) (Kd.S_lt (KS_ HO131.out))) hnan68) (bS_ (B2_ HB.out GE101.out GE113.out))); replace HO105 := Zz.mk (Kd.S_told (Kd.S_oldN (KS_ HO105.out) hb hnan68) (Kd.S_baseN ho0 hnan68)); replace HO108 := Zz.mk (Kd.S_told (Kd.S_oldN (KS_ HO108.out) hb hnan68) (Kd.S_baseN ho0 hnan68)); replace HO112 := Zz.mk (Kd.S_told (Kd.S_oldN (KS_ HO112.out) hb hnan68) (Kd.S_baseN ho0 hnan68)); replace HO116 := Zz.mk (Kd.S_told (Kd.S_oldN (KS_ HO116.out) hb hnan68) (Kd.S_baseN ho0 hnan68)); replace HO121 := Zz.mk (Kd.S_told (Kd.S_oldN (KS_ HO121.out) hb hnan68) (Kd.S_baseN ho0 hnan68)); replace HO131 := Zz.mk (Kd.S_told (Kd.S_oldN (KS_ HO131.out) hb hnan68) (Kd.S_baseN ho0 hnan68)); replace BK101 := Zz.mk (bB_ (g := gb101) (o := .cells #[.slice A0_0 l0_0.length c0_0] 24 (0, 0)) (KB_ BK101.out) hb); replace BK113 := Zz.mk (bB_ (g := gb113) (o := .cells #[.slice Ao48 t110.length co48] 29 (0, 0)) (KB_ BK113.out) hb); replace HB := Zz.mk (bT_ (B2_ HB.out GE101.out GE113.out) hb); (try clear hb); (try clear hb2); (try clear hk); (try clear hi); (try clear ho0); obtain ⟨Ao69, co69, eo69⟩ := Kd.S_slice HO134.out; subst eo69) | ((with_reducible refine gC_ (f := 33) rfl ?_); refine GL_ (some 91) rfl rfl Try.func33 #[.slice Ao69 t132.length co69, .slice Ao54 t106.length co54] rfl (h := ?_); (with_reducible refine (z33.calls k _ _ t132 _ _ t106 true _ ?side1 ?side2 ?side3 ?side4 A29.out).mono ?_); (case side1 => exact KC_ (Kd.S_reads' HO134.out).2.2); (case side2 => exact (Kd.S_reads' HO134.out).2.1); (case side3 => exact KC_ (Kd.S_reads' HO108.out).2.2); (case side4 => exact (Kd.S_reads' HO108.out).2.1); rintro e w' ⟨rfl, ⟨nd, rfl⟩⟩; refine ⟨_, rfl, ?_⟩) | ((with_reducible refine gC_ (f := 51) rfl ?_); refine goesL_ (some 100) rfl rfl Try.func51 (by kernel_rfl) rfl #[.slice Ao53 t127.length co53, .int .i64 1] rfl (by (try simp only [List.map_toArray, List.map_cons, List.map_nil]); first | done | (rw [show t127.length = t114.length from (Kd.S_reads' HO116.out).1.symm] <;> rfl) | rfl | (simp only [List.length_drop, List.length_take]; rfl)) ?_; (with_reducible refine (z51.calls k _ _ t127 1 t137 _ ?side1 ?side2 A32.out).mono ?_); (case side1 => exact KC_ (Kd.S_reads' HO116.out).2.2); (case side2 => rw [show t127.length = t114.length from (Kd.S_reads' HO116.out).1.symm]; exact (Kd.S_reads' HO116.out).2.1); rintro e w' ⟨rfl, ⟨nd, rfl⟩⟩; refine ⟨_, rfl, ?_⟩))
         go_ret
         exact ⟨F_, B2_ HB.out GE101.out GE113.out⟩
        rw [if_neg c34] at H
        have c34b0 : (t137 == t126) = false := beq_eq_false_iff_ne.mpr c34
        have c34b1 : (t137 != t126) = true := bne_iff_ne.mpr c34
        exact absurd (H.trans (congrArg some ht_)) (by simp)
       rw [if_neg c31] at H
       have c31b0 : (t135 == t109) = false := beq_eq_false_iff_ne.mpr c31
       have c31b1 : (t135 != t109) = true := bne_iff_ne.mpr c31
       exact absurd (H.trans (congrArg some ht_)) (by simp)
      replace c30 := Bool.eq_false_iff.mpr c30
      subst c30
      replace H := N_ H
      exact absurd (H.trans (congrArg some ht_)) (by simp)
     rw [if_neg c26] at H
     have c26b0 : (t128 == t126) = false := beq_eq_false_iff_ne.mpr c26
     have c26b1 : (t128 != t126) = true := bne_iff_ne.mpr c26
     exact absurd (H.trans (congrArg some ht_)) (by simp)
    replace c22 := Bool.eq_false_iff.mpr c22
    subst c22
    replace H := N_ H
    exact absurd (H.trans (congrArg some ht_)) (by simp)
   replace c18 := Bool.eq_false_iff.mpr c18
   subst c18
   replace H := N_ H
   exact absurd (H.trans (congrArg some ht_)) (by simp)
  rw [if_neg c15] at H
  have c15b0 : (t117 == t109) = false := beq_eq_false_iff_ne.mpr c15
  have c15b1 : (t117 != t109) = true := bne_iff_ne.mpr c15
  exact absurd (H.trans (congrArg some ht_)) (by simp)
 replace c14 := Bool.eq_false_iff.mpr c14
 subst c14
 replace H := N_ H
 exact absurd (H.trans (congrArg some ht_)) (by simp)
end Go.Proofs.Ytipkciildhghiaa.B
