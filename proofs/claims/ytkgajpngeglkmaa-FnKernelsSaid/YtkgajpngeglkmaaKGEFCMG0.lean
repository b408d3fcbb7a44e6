/- Printed proofs of functions of the program and of the reference, by a program of this work over the kit's printer. -/
import Derived.Test.YtkgajpngeglkmaaKLBBOAD0
import Derived.Test.YtkgajpngeglkmaaKLPPPPL0
import Derived.Test.YtkgajpngeglkmaaKMFOOHB0
import Derived.Test.YtkgajpngeglkmaaKMGFADP0
import Derived.Test.YtkgajpngeglkmaaKONCMDO0
import Derived.Test.YtkgajpngeglkmaaKW0
namespace Go.Proofs.Ytkgajpngeglkmaa.B
open Go.RowKit Go.Proofs.YtkgajpngeglkmaaW.PrintWords Go.Proofs.YtkgajpngeglkmaaW.PrintLast Go.Proofs.YtkgajpngeglkmaaW.PrintMore
attribute [local go_sem] qAr qAp qAv qAu qAm qAl qAq qAo
set_option linter.unusedVariables false
set_option linter.unusedSimpArgs false
mutual
def z6.j0 : Nat → List Int → List Int → Bool → Option (Bool)
 | 0, _, _, _ => none
 | k + 1, x0, x1, x24 => if x24 = true then (some true) else ((z30.f k x0).bind fun bt103 => ((z31.f k bt103.1 bt103.2.1 bt103.2.2.1 bt103.2.2.2).bind fun bt110 => ((z32.f k bt103.1 bt103.2.1 bt103.2.2.1 bt103.2.2.2).bind fun bt114 => (if bt110.2 = 0 then ((z33.f k bt103.1 bt103.2.1 bt103.2.2.1 bt103.2.2.2).bind fun bt121 => (if bt114.2.2.2 = 0 then (if bt121.2 = 0 then (if (wrap64 ((bt110.1.length : Int) + bt121.1)) = bt103.2.2.1 then ((z29.f k bt114.1 bt114.2.1 bt114.2.2.1).bind fun t123 => (if t123 = true then (if (bt114.2.2.1.length : Int) = bt121.1 then (z6.j1 k x1 bt110.1 (bt114.2.1 != bt103.2.1) bt103.1 bt103.2.1 bt103.2.2.1 bt103.2.2.2 bt114.1 bt114.2.1 bt114.2.2.1) else (z6.j1 k x1 bt110.1 true bt103.1 bt103.2.1 bt103.2.2.1 bt103.2.2.2 bt114.1 bt114.2.1 bt114.2.2.1)) else (z6.j1 k x1 bt110.1 true bt103.1 bt103.2.1 bt103.2.2.1 bt103.2.2.2 bt114.1 bt114.2.1 bt114.2.2.1))) else (z6.j1 k x1 bt110.1 true bt103.1 bt103.2.1 bt103.2.2.1 bt103.2.2.2 bt114.1 bt114.2.1 bt114.2.2.1)) else (z6.j1 k x1 bt110.1 true bt103.1 bt103.2.1 bt103.2.2.1 bt103.2.2.2 bt114.1 bt114.2.1 bt114.2.2.1)) else (z6.j1 k x1 bt110.1 true bt103.1 bt103.2.1 bt103.2.2.1 bt103.2.2.2 bt114.1 bt114.2.1 bt114.2.2.1))) else (if bt114.2.2.2 = bt110.2 then (some ((bt110.1.length : Int) == 0)) else (some false))))))
def z6.j1 : Nat → List Int → List (List Int) → Bool → Int → Int → Int → List Int → Int → Int → List (List Int) → Option (Bool)
 | 0, _, _, _, _, _, _, _, _, _, _ => none
 | k + 1, x1, x6, x85, x110000, x110001, x110002, x110003, x121000, x121001, x121002 => if x85 = true then (some false) else (z6.l0 k x1 x6 0 x110000 x110001 x110002 x110003 x121000 x121001 x121002)
def z6.l0 : Nat → List Int → List (List Int) → Int → Int → Int → Int → List Int → Int → Int → List (List Int) → Option (Bool)
 | 0, _, _, _, _, _, _, _, _, _, _ => none
 | k + 1, x1, x6, x12, x110000, x110001, x110002, x110003, x121000, x121001, x121002 => if x12 < (x6.length : Int) then (if 0 ≤ x12 then ((z34.f k x110000 x110001 x110002 x110003 (rI_ x6 x12)).bind fun bt125 => (if bt125.2 = 0 then ((z35.f k bt125.1).bind fun t129 => (if t129 = true then ((z35.f k (rI_ x6 x12)).bind fun t131 => (if t131 = true then (some false) else (z6.l0 k x1 x6 (wrap64 (x12 + 1)) x110000 x110001 x110002 x110003 x121000 x121001 x121002))) else (some false))) else (some false))) else (none)) else (z6.l1 k x1 (([] : List Int)) 0 x110000 x110001 x110002 x110003 x121000 x121001 x121002)
def z6.l1 : Nat → List Int → List Int → Int → Int → Int → Int → List Int → Int → Int → List (List Int) → Option (Bool)
 | 0, _, _, _, _, _, _, _, _, _, _ => none
 | k + 1, x1, x15, x16, x110000, x110001, x110002, x110003, x121000, x121001, x121002 => if x16 < x110002 then ((z36.f x1 x16 x110000).bind fun t135 => (if x15.length < 17592186044416 then (z6.l1 k x1 (x15 ++ [t135]) (wrap64 (x16 + 1)) x110000 x110001 x110002 x110003 x121000 x121001 x121002) else (none))) else ((z34.f k x110000 x110001 x110002 x110003 x15).bind fun bt139 => (if bt139.2 = 0 then ((z22.f k x121000 x121001 x121002 bt139.1).bind fun t143 => (some t143)) else (some false)))
end
def z6.f (k : Nat) (l0 : List Int) (l1 : List Int) : Option (Bool) := (z19.f l0).bind fun t101 => (if t101 = true then (z6.j0 k l0 l1 true) else ((z19.f l1).bind fun t102 => (z6.j0 k l0 l1 t102)))
def z6.T14 : Bool × List (List Nat × List Nat) := (true, [([], []), ([], []), ([], []), ([1, 2], [1, 2]), ([3], [3]), ([0, 4], [0, 4]), ([5], [5]), ([6], [6]), ([6], [6]), ([7, 5, 0, 1, 2, 3, 4, 5, 6, 7], [7]), ([8, 9, 0, 1, 2, 3, 4, 5, 6, 7, 8, 9], [8])])
def z6.B14 : List Nat := [0, 0, 0, 6, 14, 31, 63, 127, 127, 255, 1023]
theorem z6.tab14 : rtab .any (qCc Try.f6 14) = z6.T14 := by kernel_rfl
theorem z6.bits14 : qBa z6.T14.2 z6.B14 = true := by kernel_rfl
set_option maxHeartbeats 8000000 in
set_option maxRecDepth 100000 in
theorem z6.calls (k : Nat) (A0 : Option Addr) (c0 : Nat) (l0 : List Int) (A1 : Option Addr) (c1 : Nat) (l1 : List Int) (r : Bool) (w : World) (hr0 : Kd.C (Kd.int .u8) w A0 l0.length l0) (hc0 : l0.length ≤ c0) (hr1 : Kd.C (Kd.int .u8) w A1 l1.length l1) (hc1 : l1.length ≤ c1) (h : z6.f k l0 l1 = some r) (ht_ : r = true) :
  Calls Try.prog 6 #[.slice A0 l0.length c0, .slice A1 l1.length c1] w fun e w' => e = .returned (.bool r) ∧ Below w.heap.size w w' := by
 have hu55 := Try.underlying55
 have hu28 := Try.underlying28
 have HR0 := Zz.mk hr0
 have HC0 := Zz.mk hc0
 clear hr0 hc0
 have HR1 := Zz.mk hr1
 have HC1 := Zz.mk hc1
 clear hr1 hc1
 have HB := Zz.mk (Below.refl w.heap.size w)
 have H : ((z19.f l0).bind fun t101 => (if t101 = true then (z6.j0 k l0 l1 true) else ((z19.f l1).bind fun t102 => (z6.j0 k l0 l1 t102)))) = some r := h
 clear h
 have HC3 := Zz.mk H
 clear H
 go_enter Try.func6, Try.ntmps6
 go_upto_region 1 with (fail)
 go_cut [24] (fun v24 wc => ∃ (kq : Nat) (x24_2 : Bool), v24 = .bool x24_2 ∧ Zz (z6.j0 kq l0 l1 x24_2 = some r) ∧ Zz (kq ≤ k) ∧ Zz (Below w.heap.size w wc))
 case first =>
  have H := HC3.out
  clear HC3
  replace H := OZ_ H
  obtain ⟨t101, A4, H⟩ := H
  by_cases c5 : t101 = true
  ·subst c5
   replace H := T_ H
   have H' := Zz.mk H
   clear H
   go_wp2_with (first | ((with_reducible refine gC_ (f := 19) rfl ?_); refine GL_ (some 20) rfl rfl Try.func19 #[.slice A0 l0.length c0] rfl (h := ?_); (with_reducible refine (z19.calls _ _ l0 true _ ?side1 ?side2 A4.out).mono ?_); (case side1 => exact KC_ (Kd.C_below HR0.out HB.out)); (case side2 => exact HC0.out); rintro e w' ⟨rfl, ⟨nd, rfl⟩⟩; refine ⟨_, rfl, ?_⟩))
   go_meet
   case rel => exact ⟨_, (true), E_, H', ⟨by first | omega | exact Nat.le_refl _⟩, ⟨B_ HB.out⟩⟩
  replace c5 := Bool.eq_false_iff.mpr c5
  subst c5
  replace H := N_ H
  replace H := OZ_ H
  obtain ⟨t102, A6, H⟩ := H
  have H' := Zz.mk H
  clear H
  go_wp2_with (first | ((with_reducible refine gC_ (f := 19) rfl ?_); refine GL_ (some 20) rfl rfl Try.func19 #[.slice A0 l0.length c0] rfl (h := ?_); (with_reducible refine (z19.calls _ _ l0 false _ ?side1 ?side2 A4.out).mono ?_); (case side1 => exact KC_ (Kd.C_below HR0.out HB.out)); (case side2 => exact HC0.out); rintro e w' ⟨rfl, ⟨nd, rfl⟩⟩; refine ⟨_, rfl, ?_⟩) | (go_at_call 19; (with_reducible refine (z19.calls _ _ l1 t102 _ ?side1 ?side2 A6.out).mono ?_); (case side1 => repeat (first | exact (Kd.C_below HR1.out (B_ HB.out)) | (with_reducible refine Kd.C_alloc ?_ _) | (with_reducible refine Kd.C_drewN ?_ _) | (with_reducible refine Kd.C_drew ?_))); (case side2 => exact HC1.out); rintro e w' ⟨rfl, ⟨nd, rfl⟩⟩))
  go_meet
  case rel => exact ⟨_, (t102), E_, H', ⟨by first | omega | exact Nat.le_refl _⟩, ⟨B_ HB.out⟩⟩
 case rest =>
  clear HC3
  (try clear c1)
  obtain ⟨kq, x24_2, rfl, HA, HJ2, HB⟩ := hcut
  cases kq with
  | zero => exact absurd HA.out (by simp [z6.j0])
  | succ kj2 =>
   have H := HA.out
   clear HA
   simp only [z6.j0] at H
   by_cases c7 : x24_2 = true
   ·subst c7
    replace H := T_ H
    obtain rfl := OI_ H
    go_wp2
    go_ret
    exact ⟨F_, B_ HB.out⟩
   replace c7 := Bool.eq_false_iff.mpr c7
   subst c7
   replace H := N_ H
   replace H := OB_ H
   obtain ⟨⟨t103, t104, t105, t106⟩, A80, H⟩ := H
   try dsimp only at H
   have A8 := Zz.mk A80
   clear A80
   replace H := OB_ H
   obtain ⟨⟨t110, t113⟩, A90, H⟩ := H
   try dsimp only at H
   have A9 := Zz.mk A90
   clear A90
   replace H := OB_ H
   obtain ⟨⟨t114, t115, t116, t119⟩, A100, H⟩ := H
   try dsimp only at H
   have A10 := Zz.mk A100
   clear A100
   by_cases c11 : t113 = 0
   ·rw [if_pos c11] at H
    have c11b0 : (t113 == 0) = true := beq_iff_eq.mpr c11
    have c11b1 : (t113 != 0) = false := bne_eq_false_iff_eq.mpr c11
    clear c11
    replace H := OB_ H
    obtain ⟨⟨t121, t122⟩, A120, H⟩ := H
    try dsimp only at H
    have A12 := Zz.mk A120
    clear A120
    have HC13 := Zz.mk H
    clear H
    go_upto_region 9 with (first | ((with_reducible refine gC_ (f := 30) rfl ?_); refine GL_ (some 26) rfl rfl Try.func30 #[.slice A0 l0.length c0] rfl (h := ?_); (with_reducible refine (z30.calls kj2 _ _ l0 t103 t104 t105 t106 _ ?side1 ?side2 A8.out).mono ?_); (case side1 => exact KC_ (Kd.C_below HR0.out HB.out)); (case side2 => exact HC0.out); rintro e w14 ⟨v107, rfl, ho0, hb⟩; refine ⟨_, rfl, ?_⟩; obtain ⟨nan15, hnan15⟩ := Kd.size_letter hb; have HO108 := Zz.mk (Kd.R_lower (Kd.R_geN ho0 hnan15) (bS_ (B_ HB.out))); replace HB := Zz.mk (bT_ (B_ HB.out) hb); (try clear hb); (try clear ho0)) | ((with_reducible refine qAn (N := 5) rfl ?_); (try (refine qCa (by rfl) ?_; dsimp only)); refine bx_ 5 #[.int .i64 0, .int .i64 0, .int .i64 0, .slice none 0 0] 55 ?_; intro gb109 hg w16 hbox hb; have BK109 := Zz.mk (hbox); have GW109 := Zz.mk ((gw_ hg (B_ HB.out))); have GE109 := GW109; replace HO108 := Zz.mk (Kd.R_below (KR_ HO108.out) hb); replace HB := Zz.mk (bT_ (B_ HB.out) hb); clear hb hbox hg; obtain ⟨hcz17_0, hcz17_1, hcz17_2, hcz17_3, hfz17_0, hfz17_1, hfz17_2, hfz17_3⟩ := Z4f_ BK109.out; obtain ⟨Ao18, co18, eo18⟩ := Kd.R_slice HO108.out; subst eo18) | ((with_reducible refine gC_ (f := 31) rfl ?_); refine GL_ (some 29) rfl rfl Try.func31 #[.agg #[.int .i64 t103, .int .i64 t104, .int .i64 t105, .slice Ao18 t106.length co18]] rfl (h := ?_); (with_reducible refine (z31.calls kj2 t103 t104 t105 _ _ t106 t110 t113 _ ?side1 ?side2 A9.out).mono ?_); (case side1 => refine (Kd.R_reads' (e := 2) (base := w.heap.size) (ok := fun k_ => (True ∧ nan15 ≤ k_)) (n := t106.length) (c := co18) ?_).2.2; exact (by refine RW_ ?_; exact (Kd.R_mono (Kd.R_far (p := ⟨gb109, 3, none⟩) (Kd.R_far (p := ⟨gb109, 2, none⟩) (Kd.R_far (p := ⟨gb109, 1, none⟩) (Kd.R_far (p := ⟨gb109, 0, none⟩) (Kd.R_types HO108.out BK109.out (by decide)) (fun _ hk => hk.2) (.int .i64 t103)) (fun _ hk => hk.2) (.int .i64 t104)) (fun _ hk => hk.2) (.int .i64 t105)) (fun _ hk => hk.2) (.slice Ao18 t106.length co18)) (fun _ h_ => h_.1)))); (case side2 => exact (Kd.R_reads' HO108.out).2.1); rintro e w19 ⟨v111, rfl, ho0, hb⟩; refine ⟨_, rfl, ?_⟩; obtain ⟨nan20, hnan20⟩ := Kd.size_letter hb; have HO112 := Zz.mk (Kd.S_lower (Kd.S_geN (Kd.S_new' ho0 (Kd.R_lt (by refine RW_ ?_; exact (Kd.R_mono (Kd.R_far (p := ⟨gb109, 3, none⟩) (Kd.R_far (p := ⟨gb109, 2, none⟩) (Kd.R_far (p := ⟨gb109, 1, none⟩) (Kd.R_far (p := ⟨gb109, 0, none⟩) (Kd.R_types HO108.out BK109.out (by decide)) (fun _ hk => hk.2) (.int .i64 t103)) (fun _ hk => hk.2) (.int .i64 t104)) (fun _ hk => hk.2) (.int .i64 t105)) (fun _ hk => hk.2) (.slice Ao18 t106.length co18)) (fun _ h_ => h_.1))))) hnan20) (bS_ (B1_ HB.out GE109.out))); replace HO108 := Zz.mk (Kd.R_oldN (by refine RW_ ?_; exact (Kd.R_mono (Kd.R_far (p := ⟨gb109, 3, none⟩) (Kd.R_far (p := ⟨gb109, 2, none⟩) (Kd.R_far (p := ⟨gb109, 1, none⟩) (Kd.R_far (p := ⟨gb109, 0, none⟩) (Kd.R_types HO108.out BK109.out (by decide)) (fun _ hk => hk.2) (.int .i64 t103)) (fun _ hk => hk.2) (.int .i64 t104)) (fun _ hk => hk.2) (.int .i64 t105)) (fun _ hk => hk.2) (.slice Ao18 t106.length co18)) (fun _ h_ => h_.1))) hb hnan20); replace BK109 := Zz.mk (bB_ (g := gb109) (o := .cells #[.int .i64 t103, .int .i64 t104, .int .i64 t105, .slice Ao18 t106.length co18] 55 (0, 0)) (by refine BW_ ?_; refine bP_ (cs := #[.int .i64 t103, .int .i64 t104, .int .i64 t105, .slice none 0 0]) ?_ 3 _ rfl; refine BW_ ?_; refine bP_ (cs := #[.int .i64 t103, .int .i64 t104, .int .i64 0, .slice none 0 0]) ?_ 2 _ rfl; refine BW_ ?_; refine bP_ (cs := #[.int .i64 t103, .int .i64 0, .int .i64 0, .slice none 0 0]) ?_ 1 _ rfl; refine BW_ ?_; refine bP_ (cs := #[.int .i64 0, .int .i64 0, .int .i64 0, .slice none 0 0]) ?_ 0 _ rfl; refine BW_ ?_; exact BK109.out) hb); replace HB := Zz.mk (bT_ (B1_ HB.out GE109.out) hb); (try clear hb); (try clear ho0); obtain ⟨hcz21_0, hcz21_1, hcz21_2, hcz21_3, hfz21_0, hfz21_1, hfz21_2, hfz21_3⟩ := Z4f_ BK109.out) | ((with_reducible refine gC_ (f := 32) rfl ?_); refine GL_ (some 34) rfl rfl Try.func32 #[.agg #[.int .i64 t103, .int .i64 t104, .int .i64 t105, .slice Ao18 t106.length co18]] rfl (h := ?_); (with_reducible refine (z32.calls kj2 t103 t104 t105 _ _ t106 t114 t115 t116 t119 _ ?side1 ?side2 A10.out).mono ?_); (case side1 => exact KC_ (Kd.R_reads' HO108.out).2.2); (case side2 => exact (Kd.R_reads' HO108.out).2.1); rintro e w22 ⟨v117, rfl, ho0, hb⟩; refine ⟨_, rfl, ?_⟩; obtain ⟨nan23, hnan23⟩ := Kd.size_letter hb; have HO118 := Zz.mk (Kd.S_lower (Kd.S_geN (Kd.S_new' (Kd.S_new' ho0 (Kd.R_lt (KR_ HO108.out))) (Kd.S_lt (KS_ HO112.out))) hnan23) (bS_ (B1_ HB.out GE109.out))); replace HO108 := Zz.mk (Kd.R_oldN (KR_ HO108.out) hb hnan23); replace HO112 := Zz.mk (tl_ HO112.out hb hnan23 ho0); replace BK109 := Zz.mk (kb_ BK109.out hb); replace HB := Zz.mk (bT_ (B1_ HB.out GE109.out) hb); (try clear hb); (try clear ho0)) | ((with_reducible refine qAn (N := 8) rfl ?_); (try (refine qCa (by rfl) ?_; dsimp only)); refine bx_ 8 #[.int .i64 0, .int .i64 0, .slice none 0 0] 28 ?_; intro gb120 hg w24 hbox hb; have BK120 := Zz.mk (hbox); have GW120 := Zz.mk ((gw_ hg (B1_ HB.out GE109.out))); have GE120 := GW120; have NB109_120 := Zz.mk ((nb_ BK109.out hg)); have NB120_109 := Zz.mk NB109_120.out.symm; replace HO108 := Zz.mk (Kd.R_below (KR_ HO108.out) hb); replace HO112 := Zz.mk (Kd.S_below (KS_ HO112.out) hb); replace HO118 := Zz.mk (Kd.S_below (KS_ HO118.out) hb); replace BK109 := Zz.mk (kb_ BK109.out hb); replace HB := Zz.mk (bT_ (B1_ HB.out GE109.out) hb); clear hb hbox hg; have hnb25 := NB120_109.out; have hnc25 := NB109_120.out; obtain ⟨hcz26_0, hcz26_1, hcz26_2, hfz26_0, hfz26_1, hfz26_2⟩ := Z3f_ BK120.out; obtain ⟨Ao27, co27, eo27⟩ := Kd.S_slice HO118.out; subst eo27; obtain ⟨hcz28_0, hcz28_1, hcz28_2, hcz28_3, hfz28_0, hfz28_1, hfz28_2, hfz28_3⟩ := Z4f_ BK109.out) | ((with_reducible refine gC_ (f := 33) rfl ?_); refine GL_ (some 49) rfl rfl Try.func33 #[.agg #[.int .i64 t103, .int .i64 t104, .int .i64 t105, .slice Ao18 t106.length co18]] rfl (h := ?_); (with_reducible refine (z33.calls kj2 t103 t104 t105 _ _ t106 t121 t122 _ ?side1 ?side2 A12.out).mono ?_); (case side1 => refine (Kd.R_reads' (e := 2) (base := w.heap.size) (ok := fun k_ => (((True ∧ nan15 ≤ k_) ∧ k_ < nan20) ∧ k_ < nan23)) (n := t106.length) (c := co18) ?_).2.2; exact (by refine RW_ ?_; exact (Kd.R_mono (Kd.R_far (p := ⟨gb120, 2, none⟩) (Kd.R_far (p := ⟨gb120, 1, none⟩) (Kd.R_far (p := ⟨gb120, 0, none⟩) (Kd.R_types HO108.out BK120.out (by decide)) (fun _ hk => hk.2) (.int .i64 t114)) (fun _ hk => hk.2) (.int .i64 t115)) (fun _ hk => hk.2) (.slice Ao27 t116.length co27)) (fun _ h_ => h_.1)))); (case side2 => exact (Kd.R_reads' HO108.out).2.1); rintro e w29 ⟨rfl, hb⟩; refine ⟨_, rfl, ?_⟩; replace HO108 := Zz.mk (Kd.R_below (by refine RW_ ?_; exact (Kd.R_mono (Kd.R_far (p := ⟨gb120, 2, none⟩) (Kd.R_far (p := ⟨gb120, 1, none⟩) (Kd.R_far (p := ⟨gb120, 0, none⟩) (Kd.R_types HO108.out BK120.out (by decide)) (fun _ hk => hk.2) (.int .i64 t114)) (fun _ hk => hk.2) (.int .i64 t115)) (fun _ hk => hk.2) (.slice Ao27 t116.length co27)) (fun _ h_ => h_.1))) hb); replace HO112 := Zz.mk (Kd.S_below (by refine SW_ ?_; exact (S3_ HO112.out BK120.out (.int .i64 t114) (.int .i64 t115) (.slice Ao27 t116.length co27))) hb); replace HO118 := Zz.mk (Kd.S_below (by refine SW_ ?_; exact (S3_ HO118.out BK120.out (.int .i64 t114) (.int .i64 t115) (.slice Ao27 t116.length co27))) hb); replace BK109 := Zz.mk (bB_ (g := gb109) (o := .cells #[.int .i64 t103, .int .i64 t104, .int .i64 t105, .slice Ao18 t106.length co18] 55 (0, 0)) (by refine BW_ ?_; refine bR_ ?_ NB109_120.out _; refine BW_ ?_; refine bR_ ?_ NB109_120.out _; refine BW_ ?_; refine bR_ ?_ NB109_120.out _; refine BW_ ?_; exact BK109.out) hb); replace BK120 := Zz.mk (bB_ (g := gb120) (o := .cells #[.int .i64 t114, .int .i64 t115, .slice Ao27 t116.length co27] 28 (0, 0)) (by refine BW_ ?_; refine bP_ (cs := #[.int .i64 t114, .int .i64 t115, .slice none 0 0]) ?_ 2 _ rfl; refine BW_ ?_; refine bP_ (cs := #[.int .i64 t114, .int .i64 0, .slice none 0 0]) ?_ 1 _ rfl; refine BW_ ?_; refine bP_ (cs := #[.int .i64 0, .int .i64 0, .slice none 0 0]) ?_ 0 _ rfl; refine BW_ ?_; exact BK120.out) hb); replace HB := Zz.mk (bT_ (B2_ HB.out GE109.out GE120.out) hb); (try clear hb)))
    (try simp only [Act.put, List.setIfInBounds_toArray, List.set_cons_zero, List.set_cons_succ])
    go_cut [85] (fun v85 wc => ∃ (kq : Nat) (x85_12 : Bool), v85 = .bool x85_12 ∧ Zz (z6.j1 kq l1 t110 x85_12 t103 t104 t105 t106 t114 t115 t116 = some r) ∧ Zz (kq ≤ kj2) ∧ Zz (Kd.S (Kd.slice 2 (Kd.int .i64)) 40 wc w.heap.size (fun k_ => some k_ ≠ ((.slice Ao18 t106.length co18) : Value).ownBlock ∧ some k_ ≠ ((.slice Ao27 t116.length co27) : Value).ownBlock) v111 t110) ∧ Zz (Kd.R (Kd.int .i64) 2 wc w.heap.size (fun _ => True) (.slice Ao18 t106.length co18) t106) ∧ Zz (Kd.S (Kd.slice 2 (Kd.int .i64)) 40 wc w.heap.size (fun k_ => some k_ ≠ (v111 : Value).ownBlock ∧ some k_ ≠ ((.slice Ao18 t106.length co18) : Value).ownBlock) (.slice Ao27 t116.length co27) t116) ∧ Zz (wc.heap[gb109]? = some (.cells #[.int .i64 t103, .int .i64 t104, .int .i64 t105, (.slice Ao18 t106.length co18)] 55 (0, 0))) ∧ Zz (wc.heap[gb120]? = some (.cells #[.int .i64 t114, .int .i64 t115, (.slice Ao27 t116.length co27)] 28 (0, 0))) ∧ Zz (Below w.heap.size w wc))
    case first =>
     have H := HC13.out
     clear HC13
     by_cases c30 : t119 = 0
     ·rw [if_pos c30] at H
      have c30b0 : (t119 == 0) = true := beq_iff_eq.mpr c30
      have c30b1 : (t119 != 0) = false := bne_eq_false_iff_eq.mpr c30
      clear c30
      (first | rw [c30b0] | (simp only [qBn, qB8]; rw [c30b0]) | skip)
      by_cases c31 : t122 = 0
      ·rw [if_pos c31] at H
       have c31b0 : (t122 == 0) = true := beq_iff_eq.mpr c31
       have c31b1 : (t122 != 0) = false := bne_eq_false_iff_eq.mpr c31
       clear c31
       by_cases c32 : (wrap64 ((t110.length : Int) + t121)) = t105
       ·rw [if_pos c32] at H
        have c32b0 : ((wrap64 ((t110.length : Int) + t121)) == t105) = true := beq_iff_eq.mpr c32
        have c32b1 : ((wrap64 ((t110.length : Int) + t121)) != t105) = false := bne_eq_false_iff_eq.mpr c32
        clear c32
        replace H := OZ_ H
        obtain ⟨t123, A33, H⟩ := H
        by_cases c34 : t123 = true
        ·subst c34
         replace H := T_ H
         by_cases c35 : (t116.length : Int) = t121
         ·rw [if_pos c35] at H
          have c35b0 : ((t116.length : Int) == t121) = true := beq_iff_eq.mpr c35
          have c35b1 : ((t116.length : Int) != t121) = false := bne_eq_false_iff_eq.mpr c35
          clear c35
          have H' := Zz.mk H
          clear H
          obtain ⟨Ao36, co36, eo36⟩ := Kd.S_slice HO112.out
          subst eo36
          have hnb37 := NB109_120.out
          have hnc37 := NB120_109.out
          obtain ⟨hcz38_0, hcz38_1, hcz38_2, hcz38_3, hfz38_0, hfz38_1, hfz38_2, hfz38_3⟩ := Z4f_ BK109.out
          obtain ⟨hcz39_0, hcz39_1, hcz39_2, hfz39_0, hfz39_1, hfz39_2⟩ := Z3f_ BK120.out
          go_wp2_with (first | (go_at_call 29; (with_reducible refine (z29.calls kj2 t114 t115 _ _ t116 true _ ?side1 ?side2 A33.out).mono ?_); (case side1 => exact KC_ (Kd.S_reads' HO118.out).2.2); (case side2 => exact (Kd.S_reads' HO118.out).2.1); rintro e w40 ⟨rfl, hb⟩; replace HO108 := Zz.mk (Kd.R_below (KR_ HO108.out) hb); replace HO112 := Zz.mk (Kd.S_below (KS_ HO112.out) hb); replace HO118 := Zz.mk (Kd.S_below (KS_ HO118.out) hb); replace BK109 := Zz.mk (kb_ BK109.out hb); replace BK120 := Zz.mk (kb_ BK120.out hb); replace HB := Zz.mk (bT_ (B2_ HB.out GE109.out GE120.out) hb); (try clear hb); obtain ⟨hcz41_0, hcz41_1, hcz41_2, hfz41_0, hfz41_1, hfz41_2⟩ := Z3f_ BK120.out; obtain ⟨hcz42_0, hcz42_1, hcz42_2, hcz42_3, hfz42_0, hfz42_1, hfz42_2, hfz42_3⟩ := Z4f_ BK109.out))
          go_meet
          case rel => exact ⟨_, ((t115 != t104)), E_, H', ⟨by have := HJ2.out; first | omega | exact Nat.le_refl _⟩, ⟨by refine SW_ ?_; exact Kd.S_mono HO112.out (fun _ hk => ⟨hk.1.1.1.2, hk.1.2⟩)⟩, ⟨by refine RW_ ?_; exact Kd.R_mono HO108.out (fun _ hk => trivial)⟩, ⟨by refine SW_ ?_; exact Kd.S_mono HO118.out (fun _ hk => ⟨hk.1.2, hk.1.1.2⟩)⟩, ⟨KB_ BK109.out⟩, ⟨KB_ BK120.out⟩, ⟨B2_ HB.out GE109.out GE120.out⟩⟩
         rw [if_neg c35] at H
         have c35b0 : ((t116.length : Int) == t121) = false := beq_eq_false_iff_ne.mpr c35
         have c35b1 : ((t116.length : Int) != t121) = true := bne_iff_ne.mpr c35
         have H' := Zz.mk H
         clear H
         obtain ⟨Ao43, co43, eo43⟩ := Kd.S_slice HO112.out
         subst eo43
         have hnb44 := NB109_120.out
         have hnc44 := NB120_109.out
         obtain ⟨hcz45_0, hcz45_1, hcz45_2, hcz45_3, hfz45_0, hfz45_1, hfz45_2, hfz45_3⟩ := Z4f_ BK109.out
         obtain ⟨hcz46_0, hcz46_1, hcz46_2, hfz46_0, hfz46_1, hfz46_2⟩ := Z3f_ BK120.out
         go_wp2_with (first | (go_at_call 29; (with_reducible refine (z29.calls kj2 t114 t115 _ _ t116 true _ ?side1 ?side2 A33.out).mono ?_); (case side1 => exact KC_ (Kd.S_reads' HO118.out).2.2); (case side2 => exact (Kd.S_reads' HO118.out).2.1); rintro e w47 ⟨rfl, hb⟩; replace HO108 := Zz.mk (Kd.R_below (KR_ HO108.out) hb); replace HO112 := Zz.mk (Kd.S_below (KS_ HO112.out) hb); replace HO118 := Zz.mk (Kd.S_below (KS_ HO118.out) hb); replace BK109 := Zz.mk (kb_ BK109.out hb); replace BK120 := Zz.mk (kb_ BK120.out hb); replace HB := Zz.mk (bT_ (B2_ HB.out GE109.out GE120.out) hb); (try clear hb); obtain ⟨hcz48_0, hcz48_1, hcz48_2, hfz48_0, hfz48_1, hfz48_2⟩ := Z3f_ BK120.out))
         go_meet
         case rel => exact ⟨_, (true), E_, H', ⟨by have := HJ2.out; first | omega | exact Nat.le_refl _⟩, ⟨by refine SW_ ?_; exact Kd.S_mono HO112.out (fun _ hk => ⟨hk.1.1.1.2, hk.1.2⟩)⟩, ⟨by refine RW_ ?_; exact Kd.R_mono HO108.out (fun _ hk => trivial)⟩, ⟨by refine SW_ ?_; exact Kd.S_mono HO118.out (fun _ hk => ⟨hk.1.2, hk.1.1.2⟩)⟩, ⟨KB_ BK109.out⟩, ⟨KB_ BK120.out⟩, ⟨B2_ HB.out GE109.out GE120.out⟩⟩
        replace c34 := Bool.eq_false_iff.mpr c34
        subst c34
        replace H := N_ H
        have H' := Zz.mk H
        clear H
        obtain ⟨Ao49, co49, eo49⟩ := Kd.S_slice HO112.out
        subst eo49
        have hnb50 := NB109_120.out
        have hnc50 := NB120_109.out
        obtain ⟨hcz51_0, hcz51_1, hcz51_2, hcz51_3, hfz51_0, hfz51_1, hfz51_2, hfz51_3⟩ := Z4f_ BK109.out
        obtain ⟨hcz52_0, hcz52_1, hcz52_2, hfz52_0, hfz52_1, hfz52_2⟩ := Z3f_ BK120.out
        go_wp2_with (first | (go_at_call 29; (with_reducible refine (z29.calls kj2 t114 t115 _ _ t116 false _ ?side1 ?side2 A33.out).mono ?_); (case side1 => exact KC_ (Kd.S_reads' HO118.out).2.2); (case side2 => exact (Kd.S_reads' HO118.out).2.1); rintro e w53 ⟨rfl, hb⟩; replace HO108 := Zz.mk (Kd.R_below (KR_ HO108.out) hb); replace HO112 := Zz.mk (Kd.S_below (KS_ HO112.out) hb); replace HO118 := Zz.mk (Kd.S_below (KS_ HO118.out) hb); replace BK109 := Zz.mk (kb_ BK109.out hb); replace BK120 := Zz.mk (kb_ BK120.out hb); replace HB := Zz.mk (bT_ (B2_ HB.out GE109.out GE120.out) hb); (try clear hb)))
        go_meet
        case rel => exact ⟨_, (true), E_, H', ⟨by have := HJ2.out; first | omega | exact Nat.le_refl _⟩, ⟨by refine SW_ ?_; exact Kd.S_mono HO112.out (fun _ hk => ⟨hk.1.1.1.2, hk.1.2⟩)⟩, ⟨by refine RW_ ?_; exact Kd.R_mono HO108.out (fun _ hk => trivial)⟩, ⟨by refine SW_ ?_; exact Kd.S_mono HO118.out (fun _ hk => ⟨hk.1.2, hk.1.1.2⟩)⟩, ⟨KB_ BK109.out⟩, ⟨KB_ BK120.out⟩, ⟨B2_ HB.out GE109.out GE120.out⟩⟩
       rw [if_neg c32] at H
       have c32b0 : ((wrap64 ((t110.length : Int) + t121)) == t105) = false := beq_eq_false_iff_ne.mpr c32
       have c32b1 : ((wrap64 ((t110.length : Int) + t121)) != t105) = true := bne_iff_ne.mpr c32
       have H' := Zz.mk H
       clear H
       obtain ⟨Ao54, co54, eo54⟩ := Kd.S_slice HO112.out
       subst eo54
       have hnb55 := NB109_120.out
       have hnc55 := NB120_109.out
       obtain ⟨hcz56_0, hcz56_1, hcz56_2, hcz56_3, hfz56_0, hfz56_1, hfz56_2, hfz56_3⟩ := Z4f_ BK109.out
       go_wp2
       go_meet
       case rel => exact ⟨_, (true), E_, H', ⟨by have := HJ2.out; first | omega | exact Nat.le_refl _⟩, ⟨by refine SW_ ?_; exact Kd.S_mono HO112.out (fun _ hk => ⟨hk.1.1.1.2, hk.1.2⟩)⟩, ⟨by refine RW_ ?_; exact Kd.R_mono HO108.out (fun _ hk => trivial)⟩, ⟨by refine SW_ ?_; exact Kd.S_mono HO118.out (fun _ hk => ⟨hk.1.2, hk.1.1.2⟩)⟩, ⟨KB_ BK109.out⟩, ⟨KB_ BK120.out⟩, ⟨B2_ HB.out GE109.out GE120.out⟩⟩
      rw [if_neg c31] at H
      have c31b0 : (t122 == 0) = false := beq_eq_false_iff_ne.mpr c31
      have c31b1 : (t122 != 0) = true := bne_iff_ne.mpr c31
      have H' := Zz.mk H
      clear H
      go_wp2
      go_meet
      case rel => exact ⟨_, (true), E_, H', ⟨by have := HJ2.out; first | omega | exact Nat.le_refl _⟩, ⟨by refine SW_ ?_; exact Kd.S_mono HO112.out (fun _ hk => ⟨hk.1.1.1.2, hk.1.2⟩)⟩, ⟨by refine RW_ ?_; exact Kd.R_mono HO108.out (fun _ hk => trivial)⟩, ⟨by refine SW_ ?_; exact Kd.S_mono HO118.out (fun _ hk => ⟨hk.1.2, hk.1.1.2⟩)⟩, ⟨KB_ BK109.out⟩, ⟨KB_ BK120.out⟩, ⟨B2_ HB.out GE109.out GE120.out⟩⟩
     rw [if_neg c30] at H
     have c30b0 : (t119 == 0) = false := beq_eq_false_iff_ne.mpr c30
     have c30b1 : (t119 != 0) = true := bne_iff_ne.mpr c30
     (first | rw [c30b0] | (simp only [qBn, qB8]; rw [c30b0]) | skip)
     have H' := Zz.mk H
     clear H
     go_wp2
     go_meet
     case rel => exact ⟨_, (true), E_, H', ⟨by have := HJ2.out; first | omega | exact Nat.le_refl _⟩, ⟨by refine SW_ ?_; exact Kd.S_mono HO112.out (fun _ hk => ⟨hk.1.1.1.2, hk.1.2⟩)⟩, ⟨by refine RW_ ?_; exact Kd.R_mono HO108.out (fun _ hk => trivial)⟩, ⟨by refine SW_ ?_; exact Kd.S_mono HO118.out (fun _ hk => ⟨hk.1.2, hk.1.1.2⟩)⟩, ⟨KB_ BK109.out⟩, ⟨KB_ BK120.out⟩, ⟨B2_ HB.out GE109.out GE120.out⟩⟩
    case rest =>
     clear HC13
     (try clear c1);(try clear c7);(try clear c11);(try clear c11b0);(try clear c11b1);(try clear hcz17_0);(try clear hcz17_1);(try clear hcz17_2);(try clear hcz17_3);(try clear hcz21_0);(try clear hcz21_1);(try clear hcz21_2);(try clear hcz21_3);(try clear hcz26_0);(try clear hcz26_1);(try clear hcz26_2);(try clear hcz28_0);(try clear hcz28_1);(try clear hcz28_2);(try clear hcz28_3)
     (try clear hfz17_0);(try clear hfz17_1);(try clear hfz17_2);(try clear hfz17_3);(try clear hfz21_0);(try clear hfz21_1);(try clear hfz21_2);(try clear hfz21_3);(try clear hfz26_0);(try clear hfz26_1);(try clear hfz26_2);(try clear hfz28_0);(try clear hfz28_1);(try clear hfz28_2);(try clear hfz28_3)
     obtain ⟨kq, x85_12, rfl, HA, HJ12, HO_6, HO_110003, HO_121002, BK109, BK120, HB⟩ := hcut
     cases kq with
     | zero => exact absurd HA.out (by simp [z6.j1])
     | succ kj12 =>
      have H := HA.out
      clear HA
      simp only [z6.j1] at H
      by_cases c57 : x85_12 = true
      ·subst c57
       replace H := T_ H
       exact absurd (H.trans (congrArg some ht_)) (by simp)
      replace c57 := Bool.eq_false_iff.mpr c57
      subst c57
      replace H := N_ H
      have H' := Zz.mk H
      clear H
      go_wp2
      go_loopg [12] kj12 (fun kq v12 w' => ∃ (x12_3 : Int), v12 = .int .i64 x12_3 ∧ Zz (z6.l0 kq l1 t110 x12_3 t103 t104 t105 t106 t114 t115 t116 = some r) ∧ Zz (kq ≤ kj12) ∧ Zz (Kd.S (Kd.slice 2 (Kd.int .i64)) 40 w' w.heap.size (fun k_ => some k_ ≠ ((.slice Ao18 t106.length co18) : Value).ownBlock ∧ some k_ ≠ ((.slice Ao27 t116.length co27) : Value).ownBlock) v111 t110) ∧ Zz (Kd.R (Kd.int .i64) 2 w' w.heap.size (fun _ => True) (.slice Ao18 t106.length co18) t106) ∧ Zz (Kd.S (Kd.slice 2 (Kd.int .i64)) 40 w' w.heap.size (fun k_ => some k_ ≠ (v111 : Value).ownBlock ∧ some k_ ≠ ((.slice Ao18 t106.length co18) : Value).ownBlock) (.slice Ao27 t116.length co27) t116) ∧ Zz (w'.heap[gb109]? = some (.cells #[.int .i64 t103, .int .i64 t104, .int .i64 t105, (.slice Ao18 t106.length co18)] 55 (0, 0))) ∧ Zz (w'.heap[gb120]? = some (.cells #[.int .i64 t114, .int .i64 t115, (.slice Ao27 t116.length co27)] 28 (0, 0))) ∧ Zz (Below w.heap.size w w'))
      case atStart => exact ⟨(0), E_, H', ⟨Nat.le_refl _⟩, ⟨KS_ HO_6.out⟩, ⟨KR_ HO_110003.out⟩, ⟨KS_ HO_121002.out⟩, ⟨KB_ BK109.out⟩, ⟨KB_ BK120.out⟩, ⟨B2_ HB.out GE109.out GE120.out⟩⟩
      case round =>
       clear H'
       (try clear c1);(try clear c7);(try clear c11);(try clear c11b0);(try clear c11b1);(try clear c57);(try clear hcz17_0);(try clear hcz17_1);(try clear hcz17_2);(try clear hcz17_3);(try clear hcz21_0);(try clear hcz21_1);(try clear hcz21_2);(try clear hcz21_3);(try clear hcz26_0);(try clear hcz26_1);(try clear hcz26_2);(try clear hcz28_0);(try clear hcz28_1);(try clear hcz28_2);(try clear hcz28_3)
       (try clear hfz17_0);(try clear hfz17_1);(try clear hfz17_2);(try clear hfz17_3);(try clear hfz21_0);(try clear hfz21_1);(try clear hfz21_2);(try clear hfz21_3);(try clear hfz26_0);(try clear hfz26_1);(try clear hfz26_2);(try clear hfz28_0);(try clear hfz28_1);(try clear hfz28_2);(try clear hfz28_3)
       obtain ⟨x12_3, rfl, HA, HK3, HO_6, HO_110003, HO_121002, BK109, BK120, HB⟩ := hrel
       cases gk with
       | zero => exact absurd HA.out (by simp [z6.l0])
       | succ k3 =>
        have H := HA.out
        clear HA
        simp only [z6.l0] at H
        by_cases c58 : x12_3 < (t110.length : Int)
        ·rw [if_pos c58] at H
         have c58b0 : decide (x12_3 < (t110.length : Int)) = true := decide_eq_true c58
         clear c58
         have c59b0 := O3_ H
         replace H := O2_ H
         replace H := OB_ H
         obtain ⟨⟨t125, t128⟩, A600, H⟩ := H
         try dsimp only at H
         have A60 := Zz.mk A600
         clear A600
         by_cases c61 : t128 = 0
         ·rw [if_pos c61] at H
          have c61b0 : (t128 == 0) = true := beq_iff_eq.mpr c61
          have c61b1 : (t128 != 0) = false := bne_eq_false_iff_eq.mpr c61
          clear c61
          replace H := OZ_ H
          obtain ⟨t129, A62, H⟩ := H
          by_cases c63 : t129 = true
          ·subst c63
           replace H := T_ H
           replace H := OZ_ H
           obtain ⟨t131, A64, H⟩ := H
           by_cases c65 : t131 = true
           ·subst c65
            replace H := T_ H
            exact absurd (H.trans (congrArg some ht_)) (by simp)
           replace c65 := Bool.eq_false_iff.mpr c65
           subst c65
           replace H := N_ H
           have H' := Zz.mk H
           clear H
           obtain ⟨Ao66, co66, eo66⟩ := Kd.S_slice HO_6.out
           subst eo66
           try go_wp2
           replace HO_6 := Zz.mk (Kd.S_drew HO_6.out)
           replace HO_110003 := Zz.mk (Kd.R_drew HO_110003.out)
           replace HO_121002 := Zz.mk (Kd.S_drew HO_121002.out)
           replace BK109 := Zz.mk (bD_ BK109.out)
           replace BK120 := Zz.mk (bD_ BK120.out)
           replace HB := Zz.mk (qAe HB.out)
           have p124 : 0 ≤ (x12_3 : Int) := D_
           have q124 : x12_3 < (t110.length : Int) := D_
           obtain ⟨ad124, A124_0, c124_0, e124, hx124_0, hl124_0, hi124_0⟩ := qA2 (Kd.S_reads' HO_6.out).2.2 x12_3 p124 q124
           cases e124
           obtain ⟨ce124, hce124, hMe124, hcc124⟩ := Kd.S_get HO_6.out [] x12_3 p124 (by first | exact q124 | exact D_ | (have e_ := (Kd.S_reads' HO_6.out).1; omega))
           obtain ⟨ve124_0, rfl, ge124_0⟩ := hMe124
           have hv124_0 := hcc124 0 _ rfl
           rw [Nat.add_zero, show ((Kd.slice 2 (Kd.int .i64))).sz = 1 from rfl, Nat.mul_one] at hv124_0
           replace hv124_0 := Option.some.inj (hv124_0.symm.trans hx124_0)
           rw [hv124_0] at ge124_0
           have HL124_0 := Zz.mk (show Kd.R (Kd.int .i64) 2 _ _ _ _ (rI_ t110 x12_3) from ge124_0)
           clear hv124_0 ge124_0
           clear hcc124 hce124
           have HR124_0 := Zz.mk hi124_0
           have HC124_0 := Zz.mk hl124_0
           clear hi124_0 hl124_0
           replace p124 := eq_true p124
           replace q124 := eq_true q124
           refine qBd (n := 11) (S := fun w' => w'.cell? ⟨gb109, 0, none⟩ = some (.int .i64 t103) ∧ w'.cell? ⟨gb109, 1, none⟩ = some (.int .i64 t104) ∧ w'.cell? ⟨gb109, 2, none⟩ = some (.int .i64 t105) ∧ w'.cell? ⟨gb109, 3, none⟩ = some (.slice Ao18 t106.length co18) ∧ w'.cell? (ad124.add (x12_3).toNat) = some (.slice A124_0 (rI_ t110 x12_3).length c124_0)) (ds := []) (tb_ 11 0) (by kernel_rfl) rfl rfl ⟨(bC_ BK109.out 0).trans rfl, (bC_ BK109.out 1).trans rfl, (bC_ BK109.out 2).trans rfl, (bC_ BK109.out 3).trans rfl, hx124_0⟩ (fun hHeld => ?_); refine qA1 z6.tab14 z6.bits14 (fun HT_ HW_ => ?_)
           generalize wr.drew = w67 at HO_6 HO_110003 HO_121002 BK109 BK120 HB HL124_0 HR124_0 hx124_0 hHeld ⊢
           refine PX_ 1 94 (tb_ 11 2) HT_ rfl rfl ?_
           refine PX_ 2 95 (tb_ 11 6) HT_ rfl rfl ?_
           refine PX_ 3 96 (tb_ 11 14) HT_ rfl rfl ?_
           refine TV_ (i := 0) (N := some 93) (tb_ 11 15) HT_ HW_ rfl rfl hHeld (by rintro w' ⟨s0, s1, s2, s3, s4⟩; go_simp; with_reducible rfl) (h := ?_)
           refine TV_ (i := 4) (N := some 97) (tb_ 11 31) HT_ HW_ rfl rfl hHeld (by rintro w' ⟨s0, s1, s2, s3, s4⟩; go_simp; with_reducible rfl) (h := ?_)
           refine one_ (i := 5) (N := some 98) (tb_ 11 63) rfl rfl (qA0 HT_.out (by kernel_rfl)) (by decide) (fun K hK => ?_)
           refine GO_ Try.func34 #[.agg #[.int .i64 t103, .int .i64 t104, .int .i64 t105, .slice Ao18 t106.length co18], .slice A124_0 (rI_ t110 x12_3).length c124_0] (h := ?_)
           with_reducible refine (z34.calls k3 t103 t104 t105 _ _ t106 _ _ (rI_ t110 x12_3) t125 t128 _ ?side1 ?side2 ?side3 ?side4 A60.out).mono ?_
           (case side1 => exact KC_ (Kd.R_reads' HO_110003.out).2.2)
           (case side2 => exact (Kd.R_reads' HO_110003.out).2.1)
           (case side3 => exact KC_ (KC_ HR124_0.out))
           (case side4 => exact HC124_0.out)
           rintro e w68 ⟨v126, rfl, ho0, hb⟩
           have HS4_ := (hb.cell (World.block_lt_of_cell? _ _ (hHeld.2.2.2.2))).trans (hHeld.2.2.2.2)
           refine ⟨_, rfl, ?_⟩
           obtain ⟨nan69, hnan69⟩ := Kd.size_letter hb
           have HO127 := Zz.mk (Kd.R_lower (Kd.R_geN (Kd.R_new' (Kd.R_new' ho0 (Kd.R_lt (KR_ HO_110003.out))) (Kd.R_lt (KR_ HL124_0.out))) hnan69) (bS_ (B2_ HB.out GE109.out GE120.out)))
           replace HO_6 := Zz.mk (Kd.S_told (Kd.S_oldN (KS_ HO_6.out) hb hnan69) (Kd.R_baseN ho0 hnan69))
           replace HO_110003 := Zz.mk (Kd.R_told (Kd.R_oldN (KR_ HO_110003.out) hb hnan69) (Kd.R_baseN ho0 hnan69))
           replace HO_121002 := Zz.mk (Kd.S_told (Kd.S_oldN (KS_ HO_121002.out) hb hnan69) (Kd.R_baseN ho0 hnan69))
           replace HL124_0 := Zz.mk (Kd.R_told (Kd.R_oldN (KR_ HL124_0.out) hb hnan69) (Kd.R_baseN ho0 hnan69))
           replace BK109 := Zz.mk (kb_ BK109.out hb)
           replace BK120 := Zz.mk (kb_ BK120.out hb)
           replace HR124_0 := Zz.mk (Kd.C_below (KC_ HR124_0.out) hb)
           replace HB := Zz.mk (bT_ (B2_ HB.out GE109.out GE120.out) hb)
           (try clear hb);(try clear hk);(try clear ho0)
           refine hK.out _ _ ⟨(bC_ BK109.out 0).trans rfl, (bC_ BK109.out 1).trans rfl, (bC_ BK109.out 2).trans rfl, (bC_ BK109.out 3).trans rfl, HS4_⟩ (fun hHeld => ?_)
           clear hK K
           refine NM_ (N := (some 98)) (h := ?_)
           refine PX_ 6 92 (tb_ 11 127) HT_ rfl rfl ?_
           refine PX_ 7 99 (tb_ 11 255) HT_ rfl rfl ?_
           refine PX_ 8 100 (tb_ 11 511) HT_ rfl rfl ?_
           refine PX_ 9 13 (tb_ 11 1023) HT_ rfl rfl ?_
           refine PX_ 10 14 (tb_ 11 2047) HT_ rfl rfl ?_
           refine qBq (qA5 HT_.out (by kernel_rfl)) ?_
           obtain ⟨Ao70, co70, eo70⟩ := Kd.R_slice HO127.out
           subst eo70
           try go_wp2_with (first | (go_at_call 35; (with_reducible refine (z35.calls k3 _ _ t125 true _ ?side1 ?side2 A62.out).mono ?_); (case side1 => exact KC_ (Kd.R_reads' HO127.out).2.2); (case side2 => exact (Kd.R_reads' HO127.out).2.1); rintro e w' ⟨rfl, ⟨nd, rfl⟩⟩; have p130 : 0 ≤ (x12_3 : Int) := D_; have q130 : x12_3 < (t110.length : Int) := D_; obtain ⟨ad130, A130_0, c130_0, e130, hx130_0, hl130_0, hi130_0⟩ := qA2 (Kd.S_reads' HO_6.out).2.2 x12_3 p130 q130; obtain rfl : ad124 = ad130 := (by injection e130); obtain ⟨ce130, hce130, hMe130, hcc130⟩ := Kd.S_get HO_6.out [] x12_3 p130 (by first | exact q130 | exact D_ | (have e_ := (Kd.S_reads' HO_6.out).1; omega)); obtain ⟨ve130_0, rfl, ge130_0⟩ := hMe130; have hv130_0 := hcc130 0 _ rfl; rw [Nat.add_zero, show ((Kd.slice 2 (Kd.int .i64))).sz = 1 from rfl, Nat.mul_one] at hv130_0; replace hv130_0 := Option.some.inj (hv130_0.symm.trans hx130_0); rw [hv130_0] at ge130_0; have HL130_0 := Zz.mk (show Kd.R (Kd.int .i64) 2 _ _ _ _ (rI_ t110 x12_3) from ge130_0); clear hv130_0 ge130_0; clear hcc130 hce130; have HR130_0 := Zz.mk hi130_0; have HC130_0 := Zz.mk hl130_0; clear hi130_0 hl130_0; replace p130 := eq_true p130; replace q130 := eq_true q130) | (go_at_call 35; (with_reducible refine (z35.calls k3 _ _ (rI_ t110 x12_3) false _ ?side1 ?side2 A64.out).mono ?_); (case side1 => exact KC_ HR124_0.out); (case side2 => exact HC124_0.out); rintro e w' ⟨rfl, ⟨nd, rfl⟩⟩))
           go_roundg k3
           case measure => have := HJ2.out; have := HJ12.out; have := HK3.out; omega
           case rel => exact ⟨(wrap64 (x12_3 + 1)), E_, H', ⟨by have := HJ2.out; have := HJ12.out; have := HK3.out; omega⟩, ⟨by refine SW_ ?_; exact Kd.S_mono HO_6.out (fun _ hk => ⟨hk.1.1.1, hk.1.1.2⟩)⟩, ⟨by refine RW_ ?_; exact Kd.R_mono HO_110003.out (fun _ hk => trivial)⟩, ⟨by refine SW_ ?_; exact Kd.S_mono HO_121002.out (fun _ hk => ⟨hk.1.1.1, hk.1.1.2⟩)⟩, ⟨KB_ BK109.out⟩, ⟨KB_ BK120.out⟩, ⟨B2_ HB.out GE109.out GE120.out⟩⟩
          replace c63 := Bool.eq_false_iff.mpr c63
          subst c63
          replace H := N_ H
          exact absurd (H.trans (congrArg some ht_)) (by simp)
         rw [if_neg c61] at H
         have c61b0 : (t128 == 0) = false := beq_eq_false_iff_ne.mpr c61
         have c61b1 : (t128 != 0) = true := bne_iff_ne.mpr c61
         exact absurd (H.trans (congrArg some ht_)) (by simp)
        rw [if_neg c58] at H
        have c58b0 : decide (x12_3 < (t110.length : Int)) = false := decide_eq_false c58
        clear c58
        obtain ⟨y132, hy132⟩ : ∃ y_ : List Int, y_ = (([] : List Int)) := ⟨_, rfl⟩
        replace H : (z6.l1 k3 l1 y132 0 t103 t104 t105 t106 t114 t115 t116) = some r := Y_ hy132 H
        have Ny132 := Zz.mk hy132
        clear hy132
        have H' := Zz.mk H
        clear H
        obtain ⟨Ao71, co71, eo71⟩ := Kd.S_slice HO_6.out
        subst eo71
        go_wp2_with (first | ((with_reducible refine qAn (N := 115) rfl ?_); (try (refine qCa (by rfl) ?_; dsimp only)); refine Kd.R_lit (Kd.int .i64) _ 2 ?hg (N := 115) ?hd (xs := ([] : List Int)) (inner := []) (ok := fun _ => True) (okp := fun _ => True) ?hr ?hp (fun _ hk => hk) trivial (Below.refl _ _) (Nat.le_refl _) (by simp) ?_; (case hd => rfl); (case hg => rfl); (case hr => first | (go_simp; done) | (go_simp; rfl)); (case hp => exact (Reps.none _ _)); intro v133 w72 ho73 hb hg_ hnew_; clear hg_ hnew_; (first | rw [← Ny132.out] at ho73 | (simp only [Int.reduceToNat] at ho73; rw [← Ny132.out] at ho73)); obtain ⟨nan74, hnan74⟩ := Kd.size_letter hb; have HO134 := Zz.mk (Kd.R_lower (Kd.R_geN (Kd.R_new' ho73 (Kd.R_lt (KR_ HO_110003.out))) hnan74) (bS_ (B2_ HB.out GE109.out GE120.out))); replace HO_6 := Zz.mk (Kd.S_told (Kd.S_oldN (KS_ HO_6.out) hb hnan74) (Kd.R_baseN ho73 hnan74)); replace HO_110003 := Zz.mk (Kd.R_told (Kd.R_oldN (KR_ HO_110003.out) hb hnan74) (Kd.R_baseN ho73 hnan74)); replace HO_121002 := Zz.mk (Kd.S_told (Kd.S_oldN (KS_ HO_121002.out) hb hnan74) (Kd.R_baseN ho73 hnan74)); replace BK109 := Zz.mk (kb_ BK109.out hb); replace BK120 := Zz.mk (kb_ BK120.out hb); replace HB := Zz.mk (bT_ (B2_ HB.out GE109.out GE120.out) hb); clear hb ho73))
        go_loopg [15, 16] k3 (fun kq v15 v16 w' => ∃ (x15_4 : List Int) (x16_4 : Int), v16 = .int .i64 x16_4 ∧ Zz (z6.l1 kq l1 x15_4 x16_4 t103 t104 t105 t106 t114 t115 t116 = some r) ∧ Zz (kq ≤ k3) ∧ Zz (Kd.R (Kd.int .i64) 2 w' w.heap.size (fun k_ => some k_ ≠ ((.slice Ao18 t106.length co18) : Value).ownBlock) v15 x15_4) ∧ Zz (Kd.R (Kd.int .i64) 2 w' w.heap.size (fun k_ => some k_ ≠ (v15 : Value).ownBlock) (.slice Ao18 t106.length co18) t106) ∧ Zz (Kd.S (Kd.slice 2 (Kd.int .i64)) 40 w' w.heap.size (fun k_ => some k_ ≠ (v15 : Value).ownBlock ∧ some k_ ≠ ((.slice Ao18 t106.length co18) : Value).ownBlock) (.slice Ao27 t116.length co27) t116) ∧ Zz (w'.heap[gb109]? = some (.cells #[.int .i64 t103, .int .i64 t104, .int .i64 t105, (.slice Ao18 t106.length co18)] 55 (0, 0))) ∧ Zz (w'.heap[gb120]? = some (.cells #[.int .i64 t114, .int .i64 t115, (.slice Ao27 t116.length co27)] 28 (0, 0))) ∧ Zz (Below w.heap.size w w'))
        case atStart => exact ⟨(y132), (0), E_, H', ⟨Nat.le_refl _⟩, ⟨by refine RW_ ?_; exact Kd.R_mono HO134.out (fun _ hk => hk.1.2)⟩, ⟨by refine RW_ ?_; exact Kd.R_mono HO_110003.out (fun _ hk => hk.1.2)⟩, ⟨by refine SW_ ?_; exact Kd.S_mono HO_121002.out (fun _ hk => ⟨hk.1.2, hk.1.1.2⟩)⟩, ⟨KB_ BK109.out⟩, ⟨KB_ BK120.out⟩, ⟨B2_ HB.out GE109.out GE120.out⟩⟩
        case round =>
         clear H'
         (try clear c1);(try clear c7);(try clear c11);(try clear c11b0);(try clear c11b1);(try clear c57);(try clear c58);(try clear c58b0);(try clear hcz17_0)
         (try clear hcz17_1);(try clear hcz17_2);(try clear hcz17_3);(try clear hcz21_0);(try clear hcz21_1);(try clear hcz21_2);(try clear hcz21_3);(try clear hcz26_0);(try clear hcz26_1);(try clear hcz26_2);(try clear hcz28_0);(try clear hcz28_1);(try clear hcz28_2);(try clear hcz28_3)
         (try clear hfz17_0);(try clear hfz17_1);(try clear hfz17_2);(try clear hfz17_3);(try clear hfz21_0);(try clear hfz21_1);(try clear hfz21_2);(try clear hfz21_3);(try clear hfz26_0);(try clear hfz26_1);(try clear hfz26_2);(try clear hfz28_0);(try clear hfz28_1);(try clear hfz28_2);(try clear hfz28_3)
         obtain ⟨x15_4, x16_4, rfl, HA, HK4, HO_15, HO_110003, HO_121002, BK109, BK120, HB⟩ := hrel
         cases gk with
         | zero => exact absurd HA.out (by simp [z6.l1])
         | succ k4 =>
          have H := HA.out
          clear HA
          simp only [z6.l1] at H
          by_cases c75 : x16_4 < t105
          ·rw [if_pos c75] at H
           have c75b0 : decide (x16_4 < t105) = true := decide_eq_true c75
           clear c75
           replace H := OZ_ H
           obtain ⟨t135, A76, H⟩ := H
           have c77 := O1_ H
           replace H := O2_ H
           have LMc77 := Zz.mk c77
           clear c77
           obtain ⟨y136, hy136⟩ : ∃ y_ : List Int, y_ = (x15_4 ++ [t135]) := ⟨_, rfl⟩
           replace H : (z6.l1 k4 l1 y136 (wrap64 (x16_4 + 1)) t103 t104 t105 t106 t114 t115 t116) = some r := Y_ hy136 H
           have Ny136 := Zz.mk hy136
           clear hy136
           have H' := Zz.mk H
           clear H
           have hnb78 := NB109_120.out
           have hnc78 := NB120_109.out
           obtain ⟨hcz79_0, hcz79_1, hcz79_2, hcz79_3, hfz79_0, hfz79_1, hfz79_2, hfz79_3⟩ := Z4f_ BK109.out
           go_wp2_with (first | ((with_reducible refine gC_ (f := 36) rfl ?_); refine GL_ (some 127) rfl rfl Try.func36 #[.slice A1 l1.length c1, .int .i64 x16_4, .int .i64 t103] rfl (h := ?_); (with_reducible refine (z36.calls _ _ l1 x16_4 t103 t135 _ ?side1 ?side2 A76.out).mono ?_); (case side1 => exact KC_ (Kd.C_below HR1.out HB.out)); (case side2 => exact HC1.out); rintro e w' ⟨rfl, ⟨nd, rfl⟩⟩; refine ⟨_, rfl, ?_⟩) | ((with_reducible refine qA7 (b := .append) (xs := #[.tmp 122, .tmp 128]) rfl ?_); (try (refine qCa (by rfl) ?_; dsimp only)); at_builtin; refine Kd.R_append (Kd.int .i64) (w0 := w) w.heap.size rfl (.tmp 122) (.tmp 128) 40 2 (.int .i64 0) 8 rfl Try.underlying40 qCh rfl (by decide) (by omega) u15 x15_4 t135 [.int .i64 t135] (fun k_ => some k_ ≠ (.slice Ao18 t106.length co18 : Value).ownBlock) (fun _ => False) rfl rfl ?aP (fun _ hk => hk.elim) ?aF ?aO ?aB ?aS ?aL ?_; (case aP => exact rfl); (case aB => exact (B2_ HB.out GE109.out GE120.out)); (case aF => exact (fun k_ hk => Kd.fresh' (Kd.R_lt (KR_ HO_110003.out)) k_ hk)); (case aO => exact (KR_ HO_15.out)); (case aS => exact (bS_ (B2_ HB.out GE109.out GE120.out))); (case aL => have := LMc77.out; omega); intro v137 w80 ho hb hg hat; rw [← Ny136.out] at ho; replace HO_110003 := Zz.mk (Kd.R_after (ok := (fun _ => True)) (by refine RW_ ?_; exact Kd.R_mono HO_110003.out (fun _ hk => ⟨trivial, hk⟩)) hg hat); replace HO_121002 := Zz.mk (Kd.S_after (ok := (fun k_ => some k_ ≠ (.slice Ao18 t106.length co18 : Value).ownBlock)) (by refine SW_ ?_; exact Kd.S_mono HO_121002.out (fun _ hk => ⟨hk.2, hk.1⟩)) hg hat); replace BK109 := Zz.mk (qA3 (g := gb109) (o := .cells #[.int .i64 t103, .int .i64 t104, .int .i64 t105, .slice Ao18 t106.length co18] 55 (0, 0)) (KB_ BK109.out) hg (Kd.R_ne HO_15.out BK109.out (by decide))); replace BK120 := Zz.mk (qA3 (g := gb120) (o := .cells #[.int .i64 t114, .int .i64 t115, .slice Ao27 t116.length co27] 28 (0, 0)) (KB_ BK120.out) hg (Kd.R_ne HO_15.out BK120.out (by decide))); replace HB := Zz.mk (hb); have HO138 := Zz.mk (ho); clear HO_15; clear ho hb hg hat))
           go_roundg k4
           case measure => have := HJ2.out; have := HJ12.out; have := HK3.out; have := HK4.out; omega
           case rel => exact ⟨(y136), (wrap64 (x16_4 + 1)), E_, H', ⟨by have := HJ2.out; have := HJ12.out; have := HK3.out; have := HK4.out; omega⟩, ⟨KR_ HO138.out⟩, ⟨by refine RW_ ?_; exact Kd.R_mono HO_110003.out (fun _ hk => hk.2)⟩, ⟨by refine SW_ ?_; exact Kd.S_mono HO_121002.out (fun _ hk => ⟨hk.2, hk.1⟩)⟩, ⟨KB_ BK109.out⟩, ⟨KB_ BK120.out⟩, ⟨B2_ HB.out GE109.out GE120.out⟩⟩
          rw [if_neg c75] at H
          have c75b0 : decide (x16_4 < t105) = false := decide_eq_false c75
          clear c75
          replace H := OB_ H
          obtain ⟨⟨t139, t142⟩, A810, H⟩ := H
          try dsimp only at H
          have A81 := Zz.mk A810
          clear A810
          by_cases c82 : t142 = 0
          ·rw [if_pos c82] at H
           have c82b0 : (t142 == 0) = true := beq_iff_eq.mpr c82
           have c82b1 : (t142 != 0) = false := bne_eq_false_iff_eq.mpr c82
           clear c82
           replace H := OZ_ H
           obtain ⟨t143, A83, H⟩ := H
           obtain rfl := OI_ H
           have hnb84 := NB109_120.out
           have hnc84 := NB120_109.out
           obtain ⟨hcz85_0, hcz85_1, hcz85_2, hcz85_3, hfz85_0, hfz85_1, hfz85_2, hfz85_3⟩ := Z4f_ BK109.out
           obtain ⟨Ao86, co86, eo86⟩ := Kd.R_slice HO_15.out
           subst eo86
           go_wp2_with (first | ((with_reducible refine gC_ (f := 34) rfl ?_); refine GL_ (some 133) rfl rfl Try.func34 #[.agg #[.int .i64 t103, .int .i64 t104, .int .i64 t105, .slice Ao18 t106.length co18], .slice Ao86 x15_4.length co86] rfl (h := ?_); (with_reducible refine (z34.calls k4 t103 t104 t105 _ _ t106 _ _ x15_4 t139 t142 _ ?side1 ?side2 ?side3 ?side4 A81.out).mono ?_); (case side1 => exact KC_ (Kd.R_reads' HO_110003.out).2.2); (case side2 => exact (Kd.R_reads' HO_110003.out).2.1); (case side3 => exact KC_ (Kd.R_reads' HO_15.out).2.2); (case side4 => exact (Kd.R_reads' HO_15.out).2.1); rintro e w87 ⟨v140, rfl, ho0, hb⟩; refine ⟨_, rfl, ?_⟩; obtain ⟨nan88, hnan88⟩ := Kd.size_letter hb; have HO141 := Zz.mk (Kd.R_lower (Kd.R_geN (Kd.R_new' (Kd.R_new' ho0 (Kd.R_lt (KR_ HO_15.out))) (Kd.R_lt (KR_ HO_110003.out))) hnan88) (bS_ (B2_ HB.out GE109.out GE120.out))); replace HO_15 := Zz.mk (Kd.R_told (Kd.R_oldN (KR_ HO_15.out) hb hnan88) (Kd.R_baseN ho0 hnan88)); replace HO_110003 := Zz.mk (Kd.R_told (Kd.R_oldN (KR_ HO_110003.out) hb hnan88) (Kd.R_baseN ho0 hnan88)); replace HO_121002 := Zz.mk (Kd.S_told (Kd.S_oldN (KS_ HO_121002.out) hb hnan88) (Kd.R_baseN ho0 hnan88)); replace BK109 := Zz.mk (kb_ BK109.out hb); replace BK120 := Zz.mk (kb_ BK120.out hb); replace HB := Zz.mk (bT_ (B2_ HB.out GE109.out GE120.out) hb); (try clear hb); (try clear ho0); obtain ⟨hcz89_0, hcz89_1, hcz89_2, hfz89_0, hfz89_1, hfz89_2⟩ := Z3f_ BK120.out; obtain ⟨Ao90, co90, eo90⟩ := Kd.R_slice HO141.out; subst eo90) | (go_at_call 22; (with_reducible refine (z22.calls k4 t114 t115 _ _ t116 _ _ t139 t143 _ ?side1 ?side2 ?side3 ?side4 A83.out).mono ?_); (case side1 => exact KC_ (Kd.S_reads' HO_121002.out).2.2); (case side2 => exact (Kd.S_reads' HO_121002.out).2.1); (case side3 => exact KC_ (Kd.R_reads' HO141.out).2.2); (case side4 => exact (Kd.R_reads' HO141.out).2.1); rintro e w91 ⟨rfl, hb⟩; replace HO_15 := Zz.mk (Kd.R_below (KR_ HO_15.out) hb); replace HO_110003 := Zz.mk (Kd.R_below (KR_ HO_110003.out) hb); replace HO_121002 := Zz.mk (Kd.S_below (KS_ HO_121002.out) hb); replace HO141 := Zz.mk (Kd.R_below (KR_ HO141.out) hb); replace BK109 := Zz.mk (kb_ BK109.out hb); replace BK120 := Zz.mk (kb_ BK120.out hb); replace HB := Zz.mk (bT_ (B2_ HB.out GE109.out GE120.out) hb); (try clear hb)))
           go_ret
           exact ⟨F_, B2_ HB.out GE109.out GE120.out⟩
          rw [if_neg c82] at H
          have c82b0 : (t142 == 0) = false := beq_eq_false_iff_ne.mpr c82
          have c82b1 : (t142 != 0) = true := bne_iff_ne.mpr c82
          exact absurd (H.trans (congrArg some ht_)) (by simp)
   rw [if_neg c11] at H
   have c11b0 : (t113 == 0) = false := beq_eq_false_iff_ne.mpr c11
   have c11b1 : (t113 != 0) = true := bne_iff_ne.mpr c11
   by_cases c92 : t119 = t113
   ·rw [if_pos c92] at H
    have c92b0 : (t119 == t113) = true := beq_iff_eq.mpr c92
    have c92b1 : (t119 != t113) = false := bne_eq_false_iff_eq.mpr c92
    clear c92
    obtain rfl := OI_ H
    go_wp2_with (first | ((with_reducible refine gC_ (f := 30) rfl ?_); refine GL_ (some 26) rfl rfl Try.func30 #[.slice A0 l0.length c0] rfl (h := ?_); (with_reducible refine (z30.calls kj2 _ _ l0 t103 t104 t105 t106 _ ?side1 ?side2 A8.out).mono ?_); (case side1 => exact KC_ (Kd.C_below HR0.out HB.out)); (case side2 => exact HC0.out); rintro e w93 ⟨v107, rfl, ho0, hb⟩; refine ⟨_, rfl, ?_⟩; obtain ⟨nan94, hnan94⟩ := Kd.size_letter hb; have HO108 := Zz.mk (Kd.R_lower (Kd.R_geN ho0 hnan94) (bS_ (B_ HB.out))); replace HB := Zz.mk (bT_ (B_ HB.out) hb); (try clear hb); (try clear ho0)) | ((with_reducible refine qAn (N := 5) rfl ?_); (try (refine qCa (by rfl) ?_; dsimp only)); refine bx_ 5 #[.int .i64 0, .int .i64 0, .int .i64 0, .slice none 0 0] 55 ?_; intro gb109 hg w95 hbox hb; have BK109 := Zz.mk (hbox); have GW109 := Zz.mk ((gw_ hg (B_ HB.out))); have GE109 := GW109; replace HO108 := Zz.mk (Kd.R_below (KR_ HO108.out) hb); replace HB := Zz.mk (bT_ (B_ HB.out) hb); clear hb hbox hg; obtain ⟨hcz96_0, hcz96_1, hcz96_2, hcz96_3, hfz96_0, hfz96_1, hfz96_2, hfz96_3⟩ := Z4f_ BK109.out; obtain ⟨Ao97, co97, eo97⟩ := Kd.R_slice HO108.out; subst eo97) | ((with_reducible refine gC_ (f := 31) rfl ?_); refine GL_ (some 29) rfl rfl Try.func31 #[.agg #[.int .i64 t103, .int .i64 t104, .int .i64 t105, .slice Ao97 t106.length co97]] rfl (h := ?_); (with_reducible refine (z31.calls kj2 t103 t104 t105 _ _ t106 t110 t113 _ ?side1 ?side2 A9.out).mono ?_); (case side1 => refine (Kd.R_reads' (e := 2) (base := w.heap.size) (ok := fun k_ => (True ∧ nan94 ≤ k_)) (n := t106.length) (c := co97) ?_).2.2; exact (by refine RW_ ?_; exact (Kd.R_mono (Kd.R_far (p := ⟨gb109, 3, none⟩) (Kd.R_far (p := ⟨gb109, 2, none⟩) (Kd.R_far (p := ⟨gb109, 1, none⟩) (Kd.R_far (p := ⟨gb109, 0, none⟩) (Kd.R_types HO108.out BK109.out (by decide)) (fun _ hk => hk.2) (.int .i64 t103)) (fun _ hk => hk.2) (.int .i64 t104)) (fun _ hk => hk.2) (.int .i64 t105)) (fun _ hk => hk.2) (.slice Ao97 t106.length co97)) (fun _ h_ => h_.1)))); (case side2 => exact (Kd.R_reads' HO108.out).2.1); rintro e w98 ⟨v111, rfl, ho0, hb⟩; refine ⟨_, rfl, ?_⟩; obtain ⟨nan99, hnan99⟩ := Kd.size_letter hb; have HO112 := Zz.mk (Kd.S_lower (Kd.S_geN (Kd.S_new' ho0 (Kd.R_lt (by refine RW_ ?_; exact (Kd.R_mono (Kd.R_far (p := ⟨gb109, 3, none⟩) (Kd.R_far (p := ⟨gb109, 2, none⟩) (Kd.R_far (p := ⟨gb109, 1, none⟩) (Kd.R_far (p := ⟨gb109, 0, none⟩) (Kd.R_types HO108.out BK109.out (by decide)) (fun _ hk => hk.2) (.int .i64 t103)) (fun _ hk => hk.2) (.int .i64 t104)) (fun _ hk => hk.2) (.int .i64 t105)) (fun _ hk => hk.2) (.slice Ao97 t106.length co97)) (fun _ h_ => h_.1))))) hnan99) (bS_ (B1_ HB.out GE109.out))); replace HO108 := Zz.mk (Kd.R_oldN (by refine RW_ ?_; exact (Kd.R_mono (Kd.R_far (p := ⟨gb109, 3, none⟩) (Kd.R_far (p := ⟨gb109, 2, none⟩) (Kd.R_far (p := ⟨gb109, 1, none⟩) (Kd.R_far (p := ⟨gb109, 0, none⟩) (Kd.R_types HO108.out BK109.out (by decide)) (fun _ hk => hk.2) (.int .i64 t103)) (fun _ hk => hk.2) (.int .i64 t104)) (fun _ hk => hk.2) (.int .i64 t105)) (fun _ hk => hk.2) (.slice Ao97 t106.length co97)) (fun _ h_ => h_.1))) hb hnan99); replace BK109 := Zz.mk (bB_ (g := gb109) (o := .cells #[.int .i64 t103, .int .i64 t104, .int .i64 t105, .slice Ao97 t106.length co97] 55 (0, 0)) (by refine BW_ ?_; refine bP_ (cs := #[.int .i64 t103, .int .i64 t104, .int .i64 t105, .slice none 0 0]) ?_ 3 _ rfl; refine BW_ ?_; refine bP_ (cs := #[.int .i64 t103, .int .i64 t104, .int .i64 0, .slice none 0 0]) ?_ 2 _ rfl; refine BW_ ?_; refine bP_ (cs := #[.int .i64 t103, .int .i64 0, .int .i64 0, .slice none 0 0]) ?_ 1 _ rfl; refine BW_ ?_; refine bP_ (cs := #[.int .i64 0, .int .i64 0, .int .i64 0, .slice none 0 0]) ?_ 0 _ rfl; refine BW_ ?_; exact BK109.out) hb); replace HB := Zz.mk (bT_ (B1_ HB.out GE109.out) hb); (try clear hb); (try clear ho0); obtain ⟨hcz100_0, hcz100_1, hcz100_2, hcz100_3, hfz100_0, hfz100_1, hfz100_2, hfz100_3⟩ := Z4f_ BK109.out) | ((with_reducible refine gC_ (f := 32) rfl ?_); refine GL_ (some 34) rfl rfl Try.func32 #[.agg #[.int .i64 t103, .int .i64 t104, .int .i64 t105, .slice Ao97 t106.length co97]] rfl (h := ?_); (with_reducible refine (z32.calls kj2 t103 t104 t105 _ _ t106 t114 t115 t116 t119 _ ?side1 ?side2 A10.out).mono ?_); (case side1 => exact KC_ (Kd.R_reads' HO108.out).2.2); (case side2 => exact (Kd.R_reads' HO108.out).2.1); rintro e w101 ⟨v117, rfl, ho0, hb⟩; refine ⟨_, rfl, ?_⟩; obtain ⟨nan102, hnan102⟩ := Kd.size_letter hb; have HO118 := Zz.mk (Kd.S_lower (Kd.S_geN (Kd.S_new' (Kd.S_new' ho0 (Kd.R_lt (KR_ HO108.out))) (Kd.S_lt (KS_ HO112.out))) hnan102) (bS_ (B1_ HB.out GE109.out))); replace HO108 := Zz.mk (Kd.R_oldN (KR_ HO108.out) hb hnan102); replace HO112 := Zz.mk (tl_ HO112.out hb hnan102 ho0); replace BK109 := Zz.mk (kb_ BK109.out hb); replace HB := Zz.mk (bT_ (B1_ HB.out GE109.out) hb); (try clear hb); (try clear ho0)) | ((with_reducible refine qAn (N := 8) rfl ?_); (try (refine qCa (by rfl) ?_; dsimp only)); refine bx_ 8 #[.int .i64 0, .int .i64 0, .slice none 0 0] 28 ?_; intro gb120 hg w103 hbox hb; have BK120 := Zz.mk (hbox); have GW120 := Zz.mk ((gw_ hg (B1_ HB.out GE109.out))); have GE120 := GW120; have NB109_120 := Zz.mk ((nb_ BK109.out hg)); have NB120_109 := Zz.mk NB109_120.out.symm; replace HO108 := Zz.mk (Kd.R_below (KR_ HO108.out) hb); replace HO112 := Zz.mk (Kd.S_below (KS_ HO112.out) hb); replace HO118 := Zz.mk (Kd.S_below (KS_ HO118.out) hb); replace BK109 := Zz.mk (kb_ BK109.out hb); replace HB := Zz.mk (bT_ (B1_ HB.out GE109.out) hb); clear hb hbox hg; have hnb104 := NB120_109.out; have hnc104 := NB109_120.out; obtain ⟨hcz105_0, hcz105_1, hcz105_2, hfz105_0, hfz105_1, hfz105_2⟩ := Z3f_ BK120.out; obtain ⟨Ao106, co106, eo106⟩ := Kd.S_slice HO118.out; subst eo106; obtain ⟨Ao107, co107, eo107⟩ := Kd.S_slice HO112.out; subst eo107))
    go_ret
    exact ⟨F_, B2_ HB.out GE109.out GE120.out⟩
   rw [if_neg c92] at H
   have c92b0 : (t119 == t113) = false := beq_eq_false_iff_ne.mpr c92
   have c92b1 : (t119 != t113) = true := bne_iff_ne.mpr c92
   exact absurd (H.trans (congrArg some ht_)) (by simp)
end Go.Proofs.Ytkgajpngeglkmaa.B
