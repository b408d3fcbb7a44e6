/- Printed proofs of functions of the program and of the reference, by a program of this work over the kit's printer. -/
import Derived.Test.YtpgjfppbbbnclaaKLCMJEL0
import Derived.Test.YtpgjfppbbbnclaaKLEKPEN0
import Derived.Test.YtpgjfppbbbnclaaKLEKPEN1
import Derived.Test.YtpgjfppbbbnclaaKW0
namespace Go.Proofs.Ytpgjfppbbbnclaa.B
open Go.RowKit Go.Proofs.YtpgjfppbbbnclaaW.PrintWords Go.Proofs.YtpgjfppbbbnclaaW.PrintLast Go.Proofs.YtpgjfppbbbnclaaW.PrintMore
attribute [local go_sem] qAh qAf qAl qAk qAc qAb qAg qAe
set_option linter.unusedVariables false
set_option linter.unusedSimpArgs false
def z16.j0 : Nat → Int → Bool → List (List Int) → Option (Int)
 | 0, _, _, _ => none
 | k + 1, x1, x14, x51000 => if x14 = true then (some 1) else ((z30.f x1).bind fun t103 => (if t103 = true then ((z31.f k x51000 x1).bind fun t104 => (if (t104.length : Int) > 32 then (some 5) else ((z31.f k x51000 (wrap64 (x1 - 1))).bind fun t107 => (if (t107.length : Int) > 32 then (some 5) else ((z31.f k x51000 (wrap64 (x1 + 1))).bind fun t110 => (if (t110.length : Int) > 32 then (some 5) else (some 0))))))) else (some 2)))
def z16.f (k : Nat) (l0_0 : List (List Int)) (a1 : Int) (a2 : Int) : Option (Int) := (z14.f k l0_0).bind fun t101 => (if t101 = true then ((z15.f k a2).bind fun t102 => (z16.j0 k a1 (!t102) l0_0)) else (z16.j0 k a1 true l0_0))
set_option maxHeartbeats 8000000 in
set_option maxRecDepth 100000 in
theorem z16.calls (k : Nat) (gp0 : Nat) (A0_0 : Option Addr) (c0_0 : Nat) (l0_0 : List (List Int)) (a1 : Int) (a2 : Int) (r : Int) (w : World) (hbp0 : w.heap[gp0]? = some (.cells #[.slice A0_0 l0_0.length c0_0] 29 (0, 0))) (hr0_0 : Kd.C (Kd.slice 2 (Kd.int .i64)) w A0_0 l0_0.length l0_0) (hc0_0 : l0_0.length ≤ c0_0) (h : z16.f k l0_0 a1 a2 = some r) :
  Calls Try.prog 16 #[.pointer (some ⟨gp0, 0, none⟩), .int .i64 a1, .int .i64 a2] w fun e w' => e = .returned (.int .i64 r) ∧ Below w.heap.size w w' := by
 have HR0_0 := Zz.mk hr0_0
 have HC0_0 := Zz.mk hc0_0
 clear hr0_0 hc0_0
 have BK50 := Zz.mk hbp0
 clear hbp0
 have HB := Zz.mk (Below.refl w.heap.size w)
 have H : ((z14.f k l0_0).bind fun t101 => (if t101 = true then ((z15.f k a2).bind fun t102 => (z16.j0 k a1 (!t102) l0_0)) else (z16.j0 k a1 true l0_0))) = some r := h
 clear h
 have HC4 := Zz.mk H
 clear H
 go_enter Try.func16, Try.ntmps16
 go_upto_region 1 with (fail)
 go_cut [14] (fun v14 wc => ∃ (kq : Nat) (x14_3 : Bool), v14 = .bool x14_3 ∧ Zz (z16.j0 kq a1 x14_3 l0_0 = some r) ∧ Zz (kq ≤ k) ∧ Zz (wc.heap[gp0]? = some (.cells #[(.slice A0_0 l0_0.length c0_0)] 29 (0, 0))) ∧ Zz (Below w.heap.size w wc))
 case first =>
  have H := HC4.out
  clear HC4
  replace H := OZ_ H
  obtain ⟨t101, A5, H⟩ := H
  by_cases c6 : t101 = true
  ·subst c6
   replace H := T_ H
   replace H := OZ_ H
   obtain ⟨t102, A7, H⟩ := H
   have H' := Zz.mk H
   clear H
   go_wp2_with (first | ((with_reducible refine gC_ (f := 14) rfl ?_); refine GL_ (some 8) rfl rfl Try.func14 #[.pointer (some ⟨gp0, 0, none⟩)] rfl (h := ?_); (with_reducible refine (z14.calls k gp0 A0_0 c0_0 l0_0 true _ ?side1 ?side2 ?side3 A5.out).mono ?_); (case side1 => refine BW_ ?_; exact BK50.out); (case side2 => exact KC_ (Kd.C_below HR0_0.out HB.out)); (case side3 => exact HC0_0.out); rintro e w8 ⟨rfl, hb⟩; refine ⟨_, rfl, ?_⟩; replace BK50 := Zz.mk (kb_ BK50.out hb); replace HB := Zz.mk (bT_ (B_ HB.out) hb); (try clear hb)) | (go_at_call 15; (with_reducible refine (z15.calls k a2 t102 _ A7.out).mono ?_); rintro e w' ⟨rfl, ⟨nd, rfl⟩⟩))
   go_meet
   case rel => exact ⟨_, (!t102), E_, H', ⟨by first | omega | exact Nat.le_refl _⟩, ⟨KB_ BK50.out⟩, ⟨B_ HB.out⟩⟩
  replace c6 := Bool.eq_false_iff.mpr c6
  subst c6
  replace H := N_ H
  have H' := Zz.mk H
  clear H
  go_wp2_with (first | ((with_reducible refine gC_ (f := 14) rfl ?_); refine GL_ (some 8) rfl rfl Try.func14 #[.pointer (some ⟨gp0, 0, none⟩)] rfl (h := ?_); (with_reducible refine (z14.calls k gp0 A0_0 c0_0 l0_0 false _ ?side1 ?side2 ?side3 A5.out).mono ?_); (case side1 => refine BW_ ?_; exact BK50.out); (case side2 => exact KC_ (Kd.C_below HR0_0.out HB.out)); (case side3 => exact HC0_0.out); rintro e w9 ⟨rfl, hb⟩; refine ⟨_, rfl, ?_⟩; replace BK50 := Zz.mk (kb_ BK50.out hb); replace HB := Zz.mk (bT_ (B_ HB.out) hb); (try clear hb)))
  go_meet
  case rel => exact ⟨_, (true), E_, H', ⟨by first | omega | exact Nat.le_refl _⟩, ⟨KB_ BK50.out⟩, ⟨B_ HB.out⟩⟩
 case rest =>
  clear HC4
  obtain ⟨kq, x14_3, rfl, HA, HJ3, BK50, HB⟩ := hcut
  cases kq with
  | zero => exact absurd HA.out (by simp [z16.j0])
  | succ kj3 =>
   have H := HA.out
   clear HA
   simp only [z16.j0] at H
   by_cases c10 : x14_3 = true
   ·subst c10
    replace H := T_ H
    obtain rfl := OI_ H
    go_wp2
    go_ret
    exact ⟨F_, B_ HB.out⟩
   replace c10 := Bool.eq_false_iff.mpr c10
   subst c10
   replace H := N_ H
   replace H := OZ_ H
   obtain ⟨t103, A11, H⟩ := H
   by_cases c12 : t103 = true
   ·subst c12
    replace H := T_ H
    replace H := OZ_ H
    obtain ⟨t104, A13, H⟩ := H
    by_cases c14 : (t104.length : Int) > 32
    ·rw [if_pos c14] at H
     have c14b0 : decide (32 < (t104.length : Int)) = true := decide_eq_true c14
     have c14b1 : decide (32 < t104.length) = true := decide_eq_true (by omega)
     clear c14
     obtain rfl := OI_ H
     go_wp2_with (first | ((with_reducible refine gC_ (f := 30) rfl ?_); refine GL_ (some 16) rfl rfl Try.func30 #[.int .i64 a1] rfl (h := ?_); (with_reducible refine (z30.calls a1 true _ A11.out).mono ?_); rintro e w' ⟨rfl, ⟨nd, rfl⟩⟩; refine ⟨_, rfl, ?_⟩) | ((with_reducible refine gC_ (f := 31) rfl ?_); refine GL_ (some 20) rfl rfl Try.func31 #[.pointer (some ⟨gp0, 0, none⟩), .int .i64 a1] rfl (h := ?_); (with_reducible refine (z31.calls kj3 gp0 A0_0 c0_0 l0_0 a1 t104 _ ?side1 ?side2 ?side3 A13.out).mono ?_); (case side1 => refine BW_ ?_; exact BK50.out); (case side2 => repeat (first | exact (Kd.C_below HR0_0.out (B_ HB.out)) | (with_reducible refine Kd.C_alloc ?_ _) | (with_reducible refine Kd.C_drewN ?_ _) | (with_reducible refine Kd.C_drew ?_))); (case side3 => exact HC0_0.out); rintro e w15 ⟨v105, rfl, ho0, hb⟩; refine ⟨_, rfl, ?_⟩; have HO106 := Zz.mk (Kd.R_lower ho0 (bS_ (B_ HB.out))); replace BK50 := Zz.mk (kb_ BK50.out hb); replace HB := Zz.mk (bT_ (B_ HB.out) hb); (try clear hb); (try clear ho0); obtain ⟨Ao16, co16, eo16⟩ := Kd.R_slice HO106.out; subst eo16))
     go_ret
     exact ⟨F_, B_ HB.out⟩
    rw [if_neg c14] at H
    have c14b0 : decide (32 < (t104.length : Int)) = false := decide_eq_false c14
    have c14b1 : decide (32 < t104.length) = false := decide_eq_false (by omega)
    clear c14
    replace H := OZ_ H
    obtain ⟨t107, A17, H⟩ := H
    by_cases c18 : (t107.length : Int) > 32
    ·rw [if_pos c18] at H
     have c18b0 : decide (32 < (t107.length : Int)) = true := decide_eq_true c18
     have c18b1 : decide (32 < t107.length) = true := decide_eq_true (by omega)
     clear c18
     obtain rfl := OI_ H
     go_wp2_with (first | ((with_reducible refine gC_ (f := 30) rfl ?_); refine GL_ (some 16) rfl rfl Try.func30 #[.int .i64 a1] rfl (h := ?_); (with_reducible refine (z30.calls a1 true _ A11.out).mono ?_); rintro e w' ⟨rfl, ⟨nd, rfl⟩⟩; refine ⟨_, rfl, ?_⟩) | ((with_reducible refine gC_ (f := 31) rfl ?_); refine GL_ (some 20) rfl rfl Try.func31 #[.pointer (some ⟨gp0, 0, none⟩), .int .i64 a1] rfl (h := ?_); (with_reducible refine (z31.calls kj3 gp0 A0_0 c0_0 l0_0 a1 t104 _ ?side1 ?side2 ?side3 A13.out).mono ?_); (case side1 => refine BW_ ?_; exact BK50.out); (case side2 => repeat (first | exact (Kd.C_below HR0_0.out (B_ HB.out)) | (with_reducible refine Kd.C_alloc ?_ _) | (with_reducible refine Kd.C_drewN ?_ _) | (with_reducible refine Kd.C_drew ?_))); (case side3 => exact HC0_0.out); rintro e w19 ⟨v105, rfl, ho0, hb⟩; refine ⟨_, rfl, ?_⟩; have HO106 := Zz.mk (Kd.R_lower ho0 (bS_ (B_ HB.out))); replace BK50 := Zz.mk (kb_ BK50.out hb); replace HB := Zz.mk (bT_ (B_ HB.out) hb); (try clear hb); (try clear ho0); obtain ⟨Ao20, co20, eo20⟩ := Kd.R_slice HO106.out; subst eo20) | (go_at_call 31; (with_reducible refine (z31.calls kj3 gp0 A0_0 c0_0 l0_0 (wrap64 (a1 - 1)) t107 _ ?side1 ?side2 ?side3 A17.out).mono ?_); (case side1 => refine BW_ ?_; exact BK50.out); (case side2 => exact KC_ (Kd.C_below HR0_0.out HB.out)); (case side3 => exact HC0_0.out); rintro e w21 ⟨v108, rfl, ho0, hb⟩; have HO109 := Zz.mk (Kd.R_lower (Kd.R_new' ho0 (Kd.R_lt (KR_ HO106.out))) (bS_ (B_ HB.out))); replace HO106 := Zz.mk (Kd.R_elder' (KR_ HO106.out) (Kd.R_base ho0) hb); replace BK50 := Zz.mk (kb_ BK50.out hb); replace HB := Zz.mk (bT_ (B_ HB.out) hb); (try clear hb); (try clear ho0); obtain ⟨Ao22, co22, eo22⟩ := Kd.R_slice HO109.out; subst eo22))
     go_ret
     exact ⟨F_, B_ HB.out⟩
    rw [if_neg c18] at H
    have c18b0 : decide (32 < (t107.length : Int)) = false := decide_eq_false c18
    have c18b1 : decide (32 < t107.length) = false := decide_eq_false (by omega)
    clear c18
    replace H := OZ_ H
    obtain ⟨t110, A23, H⟩ := H
    by_cases c24 : (t110.length : Int) > 32
    ·rw [if_pos c24] at H
     have c24b0 : decide (32 < (t110.length : Int)) = true := decide_eq_true c24
     have c24b1 : decide (32 < t110.length) = true := decide_eq_true (by omega)
     clear c24
     obtain rfl := OI_ H
     go_wp2_with (first | ((with_reducible refine gC_ (f := 30) rfl ?_); refine GL_ (some 16) rfl rfl Try.func30 #[.int .i64 a1] rfl (h := ?_); (with_reducible refine (z30.calls a1 true _ A11.out).mono ?_); rintro e w' ⟨rfl, ⟨nd, rfl⟩⟩; refine ⟨_, rfl, ?_⟩) | ((with_reducible refine gC_ (f := 31) rfl ?_); refine GL_ (some 20) rfl rfl Try.func31 #[.pointer (some ⟨gp0, 0, none⟩), .int .i64 a1] rfl (h := ?_); (with_reducible refine (z31.calls kj3 gp0 A0_0 c0_0 l0_0 a1 t104 _ ?side1 ?side2 ?side3 A13.out).mono ?_); (case side1 => refine BW_ ?_; exact BK50.out); (case side2 => repeat (first | exact (Kd.C_below HR0_0.out (B_ HB.out)) | (with_reducible refine Kd.C_alloc ?_ _) | (with_reducible refine Kd.C_drewN ?_ _) | (with_reducible refine Kd.C_drew ?_))); (case side3 => exact HC0_0.out); rintro e w25 ⟨v105, rfl, ho0, hb⟩; refine ⟨_, rfl, ?_⟩; have HO106 := Zz.mk (Kd.R_lower ho0 (bS_ (B_ HB.out))); replace BK50 := Zz.mk (kb_ BK50.out hb); replace HB := Zz.mk (bT_ (B_ HB.out) hb); (try clear hb); (try clear ho0); obtain ⟨Ao26, co26, eo26⟩ := Kd.R_slice HO106.out; subst eo26) | (go_at_call 31; (with_reducible refine (z31.calls kj3 gp0 A0_0 c0_0 l0_0 (wrap64 (a1 - 1)) t107 _ ?side1 ?side2 ?side3 A17.out).mono ?_); (case side1 => refine BW_ ?_; exact BK50.out); (case side2 => exact KC_ (Kd.C_below HR0_0.out HB.out)); (case side3 => exact HC0_0.out); rintro e w27 ⟨v108, rfl, ho0, hb⟩; have HO109 := Zz.mk (Kd.R_lower (Kd.R_new' ho0 (Kd.R_lt (KR_ HO106.out))) (bS_ (B_ HB.out))); replace HO106 := Zz.mk (Kd.R_elder' (KR_ HO106.out) (Kd.R_base ho0) hb); replace BK50 := Zz.mk (kb_ BK50.out hb); replace HB := Zz.mk (bT_ (B_ HB.out) hb); (try clear hb); (try clear ho0); obtain ⟨Ao28, co28, eo28⟩ := Kd.R_slice HO109.out; subst eo28) | (go_at_call 31; (with_reducible refine (z31.calls kj3 gp0 A0_0 c0_0 l0_0 (wrap64 (a1 + 1)) t110 _ ?side1 ?side2 ?side3 A23.out).mono ?_); (case side1 => refine BW_ ?_; exact BK50.out); (case side2 => exact KC_ (Kd.C_below HR0_0.out HB.out)); (case side3 => exact HC0_0.out); rintro e w29 ⟨v111, rfl, ho0, hb⟩; have HO112 := Zz.mk (Kd.R_lower (Kd.R_new' (Kd.R_new' ho0 (Kd.R_lt (KR_ HO106.out))) (Kd.R_lt (KR_ HO109.out))) (bS_ (B_ HB.out))); replace HO106 := Zz.mk (Kd.R_elder' (KR_ HO106.out) (Kd.R_base ho0) hb); replace HO109 := Zz.mk (Kd.R_elder' (KR_ HO109.out) (Kd.R_base ho0) hb); replace BK50 := Zz.mk (kb_ BK50.out hb); replace HB := Zz.mk (bT_ (B_ HB.out) hb); (try clear hb); (try clear ho0); obtain ⟨Ao30, co30, eo30⟩ := Kd.R_slice HO112.out; subst eo30))
     go_ret
     exact ⟨F_, B_ HB.out⟩
    rw [if_neg c24] at H
    have c24b0 : decide (32 < (t110.length : Int)) = false := decide_eq_false c24
    have c24b1 : decide (32 < t110.length) = false := decide_eq_false (by omega)
    clear c24
    obtain rfl := OI_ H
    go_wp2_with (first | ((with_reducible refine gC_ (f := 30) rfl ?_); refine GL_ (some 16) rfl rfl Try.func30 #[.int .i64 a1] rfl (h := ?_); (with_reducible refine (z30.calls a1 true _ A11.out).mono ?_); rintro e w' ⟨rfl, ⟨nd, rfl⟩⟩; refine ⟨_, rfl, ?_⟩) | ((with_reducible refine gC_ (f := 31) rfl ?_); refine GL_ (some 20) rfl rfl Try.func31 #[.pointer (some ⟨gp0, 0, none⟩), .int .i64 a1] rfl (h := ?_); (with_reducible refine (z31.calls kj3 gp0 A0_0 c0_0 l0_0 a1 t104 _ ?side1 ?side2 ?side3 A13.out).mono ?_); (case side1 => refine BW_ ?_; exact BK50.out); (case side2 => repeat (first | exact (Kd.C_below HR0_0.out (B_ HB.out)) | (with_reducible refine Kd.C_alloc ?_ _) | (with_reducible refine Kd.C_drewN ?_ _) | (with_reducible refine Kd.C_drew ?_))); (case side3 => exact HC0_0.out); rintro e w31 ⟨v105, rfl, ho0, hb⟩; refine ⟨_, rfl, ?_⟩; have HO106 := Zz.mk (Kd.R_lower ho0 (bS_ (B_ HB.out))); replace BK50 := Zz.mk (kb_ BK50.out hb); replace HB := Zz.mk (bT_ (B_ HB.out) hb); (try clear hb); (try clear ho0); obtain ⟨Ao32, co32, eo32⟩ := Kd.R_slice HO106.out; subst eo32) | (go_at_call 31; (with_reducible refine (z31.calls kj3 gp0 A0_0 c0_0 l0_0 (wrap64 (a1 - 1)) t107 _ ?side1 ?side2 ?side3 A17.out).mono ?_); (case side1 => refine BW_ ?_; exact BK50.out); (case side2 => exact KC_ (Kd.C_below HR0_0.out HB.out)); (case side3 => exact HC0_0.out); rintro e w33 ⟨v108, rfl, ho0, hb⟩; have HO109 := Zz.mk (Kd.R_lower (Kd.R_new' ho0 (Kd.R_lt (KR_ HO106.out))) (bS_ (B_ HB.out))); replace HO106 := Zz.mk (Kd.R_elder' (KR_ HO106.out) (Kd.R_base ho0) hb); replace BK50 := Zz.mk (kb_ BK50.out hb); replace HB := Zz.mk (bT_ (B_ HB.out) hb); (try clear hb); (try clear ho0); obtain ⟨Ao34, co34, eo34⟩ := Kd.R_slice HO109.out; subst eo34) | (go_at_call 31; (with_reducible refine (z31.calls kj3 gp0 A0_0 c0_0 l0_0 (wrap64 (a1 + 1)) t110 _ ?side1 ?side2 ?side3 A23.out).mono ?_); (case side1 => refine BW_ ?_; exact BK50.out); (case side2 => exact KC_ (Kd.C_below HR0_0.out HB.out)); (case side3 => exact HC0_0.out); rintro e w35 ⟨v111, rfl, ho0, hb⟩; have HO112 := Zz.mk (Kd.R_lower (Kd.R_new' (Kd.R_new' ho0 (Kd.R_lt (KR_ HO106.out))) (Kd.R_lt (KR_ HO109.out))) (bS_ (B_ HB.out))); replace HO106 := Zz.mk (Kd.R_elder' (KR_ HO106.out) (Kd.R_base ho0) hb); replace HO109 := Zz.mk (Kd.R_elder' (KR_ HO109.out) (Kd.R_base ho0) hb); replace BK50 := Zz.mk (kb_ BK50.out hb); replace HB := Zz.mk (bT_ (B_ HB.out) hb); (try clear hb); (try clear ho0); obtain ⟨Ao36, co36, eo36⟩ := Kd.R_slice HO112.out; subst eo36))
    go_ret
    exact ⟨F_, B_ HB.out⟩
   replace c12 := Bool.eq_false_iff.mpr c12
   subst c12
   replace H := N_ H
   obtain rfl := OI_ H
   go_wp2_with (first | ((with_reducible refine gC_ (f := 30) rfl ?_); refine GL_ (some 16) rfl rfl Try.func30 #[.int .i64 a1] rfl (h := ?_); (with_reducible refine (z30.calls a1 false _ A11.out).mono ?_); rintro e w' ⟨rfl, ⟨nd, rfl⟩⟩; refine ⟨_, rfl, ?_⟩))
   go_ret
   exact ⟨F_, B_ HB.out⟩
end Go.Proofs.Ytpgjfppbbbnclaa.B
