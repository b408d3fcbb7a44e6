/- Printed proofs of functions of the program and of the reference, by a program of this work over the kit's printer. -/
import Derived.Test.YtabfflgoaalapaaKDIAAHC0
import Derived.Test.YtabfflgoaalapaaKENHNJJ0
import Derived.Test.YtabfflgoaalapaaKFMJCKG0
import Derived.Test.YtabfflgoaalapaaKHLBPAE0
import Derived.Test.YtabfflgoaalapaaKW0
namespace Go.Proofs.Ytabfflgoaalapaa.B
open Go.RowKit Go.Proofs.YtabfflgoaalapaaW.PrintWords Go.Proofs.YtabfflgoaalapaaW.PrintLast Go.Proofs.YtabfflgoaalapaaW.PrintMore
attribute [local go_sem] qAo qAm qAq qAp qAk qAj qAn qAl
set_option linter.unusedVariables false
set_option linter.unusedSimpArgs false
def z50.f (k : Nat) (a0_0 : Int) (a0_1 : Int) (l0_2 : List (List Int)) (a1_0 : Int) (a1_1 : Int) (l1_2 : List (List Int)) : Option (Int × Int × (List (List Int)) × Int) := (z61.f k a0_0 a0_1 l0_2 a1_0 a1_1 l1_2).bind fun t104 => (if t104 = 0 then ((z99.f k a0_0 a0_1 l0_2).bind fun bt105 => ((z99.f k a1_0 a1_1 l1_2).bind fun bt111 => ((some (([] : List (List Int)) : List (List Int))).bind fun y117 => (if y117.length + bt105.2.2.length < 5864062014805 then ((some (y117 ++ bt105.2.2 : List (List Int))).bind fun y120 => (if y120.length + bt111.2.2.length < 5864062014805 then ((z62.f k a0_0 a0_1 (y120 ++ bt111.2.2)).bind fun bt126 => ((z99.f k bt126.1 bt126.2.1 bt126.2.2).bind fun bt132 => (some (bt132.1, bt132.2.1, bt132.2.2, 0)))) else (none))) else (none))))) else (some (0, 0, ([] : List (List Int)), t104)))
def z50.T6 : Bool × List (List Nat × List Nat) := (true, [([], []), ([0], [0]), ([], []), ([2], [2]), ([], []), ([], []), ([5], [5]), ([4, 6], [4, 6]), ([], []), ([8], [8]), ([7, 9, 7], [7, 9]), ([1, 3, 10, 10], [1, 3, 10]), ([], []), ([12, 11, 11, 0, 1, 2, 3, 4, 5, 6, 7, 8, 9, 10, 11, 12], [11, 12])])
def z50.B6 : List Nat := [0, 1, 0, 4, 0, 0, 32, 112, 0, 256, 1008, 2047, 0, 8191]
theorem z50.tab6 : rtab .any (qBt Try.f50 6) = z50.T6 := by kernel_rfl
theorem z50.bits6 : qA4 z50.T6.2 z50.B6 = true := by kernel_rfl
set_option maxHeartbeats 8000000 in
set_option maxRecDepth 100000 in
theorem z50.calls (k : Nat) (a0_0 : Int) (a0_1 : Int) (A0_2 : Option Addr) (c0_2 : Nat) (l0_2 : List (List Int)) (a1_0 : Int) (a1_1 : Int) (A1_2 : Option Addr) (c1_2 : Nat) (l1_2 : List (List Int)) (r1 : Int) (r2 : Int) (r3 : List (List Int)) (r4 : Int) (w : World) (hr0_2 : Kd.C (Kd.slice 2 (Kd.int .i64)) w A0_2 l0_2.length l0_2) (hc0_2 : l0_2.length ≤ c0_2) (hr1_2 : Kd.C (Kd.slice 2 (Kd.int .i64)) w A1_2 l1_2.length l1_2) (hc1_2 : l1_2.length ≤ c1_2) (h : z50.f k a0_0 a0_1 l0_2 a1_0 a1_1 l1_2 = some (r1, r2, r3, r4)) :
  Calls Try.prog 50 #[.agg #[.int .i64 a0_0, .int .i64 a0_1, .slice A0_2 l0_2.length c0_2], .agg #[.int .i64 a1_0, .int .i64 a1_1, .slice A1_2 l1_2.length c1_2]] w fun e w' => ∃ v2_ : Value, e = .returned (.tuple #[.agg #[.int .i64 r1, .int .i64 r2, v2_], .int .i64 r4]) ∧ Kd.S (Kd.slice 2 (Kd.int .i64)) 25 w' w.heap.size (fun _ => True) v2_ r3 ∧ Below w.heap.size w w' := by
 have hu29 := Try.underlying29
 have HR0_2 := Zz.mk hr0_2
 have HC0_2 := Zz.mk hc0_2
 clear hr0_2 hc0_2
 have HR1_2 := Zz.mk hr1_2
 have HC1_2 := Zz.mk hc1_2
 clear hr1_2 hc1_2
 have HB := Zz.mk (Below.refl w.heap.size w)
 have H : ((z61.f k a0_0 a0_1 l0_2 a1_0 a1_1 l1_2).bind fun t104 => (if t104 = 0 then ((z99.f k a0_0 a0_1 l0_2).bind fun bt105 => ((z99.f k a1_0 a1_1 l1_2).bind fun bt111 => ((some (([] : List (List Int)) : List (List Int))).bind fun y117 => (if y117.length + bt105.2.2.length < 5864062014805 then ((some (y117 ++ bt105.2.2 : List (List Int))).bind fun y120 => (if y120.length + bt111.2.2.length < 5864062014805 then ((z62.f k a0_0 a0_1 (y120 ++ bt111.2.2)).bind fun bt126 => ((z99.f k bt126.1 bt126.2.1 bt126.2.2).bind fun bt132 => (some (bt132.1, bt132.2.1, bt132.2.2, 0)))) else (none))) else (none))))) else (some (0, 0, ([] : List (List Int)), t104)))) = some (r1, r2, r3, r4) := h
 clear h
 replace H := OB_ H
 obtain ⟨t104, A30, H⟩ := H
 replace H : (if t104 = 0 then ((z99.f k a0_0 a0_1 l0_2).bind fun bt105 => ((z99.f k a1_0 a1_1 l1_2).bind fun bt111 => ((some (([] : List (List Int)) : List (List Int))).bind fun y117 => (if y117.length + bt105.2.2.length < 5864062014805 then ((some (y117 ++ bt105.2.2 : List (List Int))).bind fun y120 => (if y120.length + bt111.2.2.length < 5864062014805 then ((z62.f k a0_0 a0_1 (y120 ++ bt111.2.2)).bind fun bt126 => ((z99.f k bt126.1 bt126.2.1 bt126.2.2).bind fun bt132 => (some (bt132.1, bt132.2.1, bt132.2.2, 0)))) else (none))) else (none))))) else (some (0, 0, ([] : List (List Int)), t104))) = some (r1, r2, r3, r4) := H
 have A3 := Zz.mk A30
 clear A30
 by_cases c4 : t104 = 0
 ·rw [if_pos c4] at H
  have c4b0 : (t104 == 0) = true := beq_iff_eq.mpr c4
  have c4b1 : (t104 != 0) = false := bne_eq_false_iff_eq.mpr c4
  clear c4
  replace H := OB_ H
  obtain ⟨⟨t105, t106, t107⟩, A50, H⟩ := H
  replace H : ((z99.f k a1_0 a1_1 l1_2).bind fun bt111 => ((some (([] : List (List Int)) : List (List Int))).bind fun y117 => (if y117.length + t107.length < 5864062014805 then ((some (y117 ++ t107 : List (List Int))).bind fun y120 => (if y120.length + bt111.2.2.length < 5864062014805 then ((z62.f k a0_0 a0_1 (y120 ++ bt111.2.2)).bind fun bt126 => ((z99.f k bt126.1 bt126.2.1 bt126.2.2).bind fun bt132 => (some (bt132.1, bt132.2.1, bt132.2.2, 0)))) else (none))) else (none)))) = some (r1, r2, r3, r4) := H
  have A5 := Zz.mk A50
  clear A50
  replace H := OB_ H
  obtain ⟨⟨t111, t112, t113⟩, A60, H⟩ := H
  replace H : ((some (([] : List (List Int)) : List (List Int))).bind fun y117 => (if y117.length + t107.length < 5864062014805 then ((some (y117 ++ t107 : List (List Int))).bind fun y120 => (if y120.length + t113.length < 5864062014805 then ((z62.f k a0_0 a0_1 (y120 ++ t113)).bind fun bt126 => ((z99.f k bt126.1 bt126.2.1 bt126.2.2).bind fun bt132 => (some (bt132.1, bt132.2.1, bt132.2.2, 0)))) else (none))) else (none))) = some (r1, r2, r3, r4) := H
  have A6 := Zz.mk A60
  clear A60
  obtain ⟨y117, hy117⟩ : ∃ y_ : List (List Int), y_ = (([] : List (List Int))) := ⟨_, rfl⟩
  replace H : (if y117.length + t107.length < 5864062014805 then ((some (y117 ++ t107 : List (List Int))).bind fun y120 => (if y120.length + t113.length < 5864062014805 then ((z62.f k a0_0 a0_1 (y120 ++ t113)).bind fun bt126 => ((z99.f k bt126.1 bt126.2.1 bt126.2.2).bind fun bt132 => (some (bt132.1, bt132.2.1, bt132.2.2, 0)))) else (none))) else (none)) = some (r1, r2, r3, r4) := Y_ hy117 H
  have Ny117 := Zz.mk hy117
  clear hy117
  have c7 := O1_ H
  replace H := O2_ H
  have LMc7 := Zz.mk c7
  clear c7
  obtain ⟨y120, hy120⟩ : ∃ y_ : List (List Int), y_ = (y117 ++ t107) := ⟨_, rfl⟩
  replace H : (if y120.length + t113.length < 5864062014805 then ((z62.f k a0_0 a0_1 (y120 ++ t113)).bind fun bt126 => ((z99.f k bt126.1 bt126.2.1 bt126.2.2).bind fun bt132 => (some (bt132.1, bt132.2.1, bt132.2.2, 0)))) else (none)) = some (r1, r2, r3, r4) := Y_ hy120 H
  have Ny120 := Zz.mk hy120
  clear hy120
  have c8 := O1_ H
  replace H := O2_ H
  have LMc8 := Zz.mk c8
  clear c8
  obtain ⟨y123, hy123⟩ : ∃ y_ : List (List Int), y_ = (y120 ++ t113) := ⟨_, rfl⟩
  replace H : ((z62.f k a0_0 a0_1 y123).bind fun bt126 => ((z99.f k bt126.1 bt126.2.1 bt126.2.2).bind fun bt132 => (some (bt132.1, bt132.2.1, bt132.2.2, 0)))) = some (r1, r2, r3, r4) := Y_ hy123 H
  have Ny123 := Zz.mk hy123
  clear hy123
  replace H := OB_ H
  obtain ⟨⟨t126, t127, t128⟩, A90, H⟩ := H
  replace H : ((z99.f k t126 t127 t128).bind fun bt132 => (some (bt132.1, bt132.2.1, bt132.2.2, 0))) = some (r1, r2, r3, r4) := H
  have A9 := Zz.mk A90
  clear A90
  replace H := OB_ H
  obtain ⟨⟨t132, t133, t134⟩, A100, H⟩ := H
  replace H : (some (t132, t133, t134, 0)) = some (r1, r2, r3, r4) := H
  have A10 := Zz.mk A100
  clear A100
  simp only [Option.some.injEq, Prod.mk.injEq] at H
  obtain ⟨rfl, rfl, rfl, rfl⟩ := H
  go_enter Try.func50, Try.ntmps50
  try go_wp2_with (first | ((with_reducible refine qAh (N := 2) rfl ?_); refine bx_ 2 #[.int .i64 a0_0, .int .i64 a0_1, .slice A0_2 l0_2.length c0_2] 29 ?_; intro gb101 hg w11 hbox hb; have BK101 := Zz.mk (hbox); have GW101 := Zz.mk ((gw_ hg (B_ HB.out))); have GE101 := GW101; replace HB := Zz.mk (bT_ (B_ HB.out) hb); clear hb hbox hg) | ((with_reducible refine qAh (N := 3) rfl ?_); refine bx_ 3 #[.int .i64 a1_0, .int .i64 a1_1, .slice A1_2 l1_2.length c1_2] 29 ?_; intro gb102 hg w12 hbox hb; have BK102 := Zz.mk (hbox); have GW102 := Zz.mk ((gw_ hg (B1_ HB.out GE101.out))); have GE102 := GW102; have NB101_102 := Zz.mk ((nb_ BK101.out hg)); have NB102_101 := Zz.mk NB101_102.out.symm; replace BK101 := Zz.mk (kb_ BK101.out hb); replace HB := Zz.mk (bT_ (B1_ HB.out GE101.out) hb); clear hb hbox hg) | ((with_reducible refine qAh (N := 4) rfl ?_); refine bx_ 4 #[.int .i64 0, .int .i64 0, .slice none 0 0] 29 ?_; intro gb103 hg w13 hbox hb; have BK103 := Zz.mk (hbox); have GW103 := Zz.mk ((gw_ hg (B2_ HB.out GE101.out GE102.out))); have GE103 := GW103; have NB101_103 := Zz.mk ((nb_ BK101.out hg)); have NB103_101 := Zz.mk NB101_103.out.symm; have NB102_103 := Zz.mk ((nb_ BK102.out hg)); have NB103_102 := Zz.mk NB102_103.out.symm; replace BK101 := Zz.mk (kb_ BK101.out hb); replace BK102 := Zz.mk (kb_ BK102.out hb); replace HB := Zz.mk (bT_ (B2_ HB.out GE101.out GE102.out) hb); clear hb hbox hg) | ((with_reducible refine gC_ (f := 61) rfl ?_); refine GL_ (some 10) rfl rfl Try.func61 #[.pointer (some ⟨gb101, 0, none⟩), .pointer (some ⟨gb102, 0, none⟩)] rfl (h := ?_); (with_reducible refine (z61.calls k gb101 a0_0 a0_1 A0_2 c0_2 l0_2 gb102 a1_0 a1_1 A1_2 c1_2 l1_2 t104 _ ?side1 ?side2 ?side3 ?side4 ?side5 ?side6 A3.out).mono ?_); (case side1 => refine BW_ ?_; exact BK101.out); (case side2 => refine BW_ ?_; exact BK102.out); (case side3 => exact KC_ (Kd.C_below HR0_2.out HB.out)); (case side4 => exact HC0_2.out); (case side5 => exact KC_ (Kd.C_below HR1_2.out HB.out)); (case side6 => exact HC1_2.out); rintro e w14 ⟨rfl, hb⟩; refine ⟨_, rfl, ?_⟩; replace BK101 := Zz.mk (kb_ BK101.out hb); replace BK102 := Zz.mk (kb_ BK102.out hb); replace BK103 := Zz.mk (kb_ BK103.out hb); replace HB := Zz.mk (bT_ (B3_ HB.out GE101.out GE102.out GE103.out) hb); (try clear hb)) | ((with_reducible refine gC_ (f := 99) rfl ?_); refine GL_ (some 15) rfl rfl Try.func99 #[.pointer (some ⟨gb101, 0, none⟩)] rfl (h := ?_); (with_reducible refine (z99.calls k gb101 a0_0 a0_1 A0_2 c0_2 l0_2 t105 t106 t107 _ ?side1 ?side2 ?side3 A5.out).mono ?_); (case side1 => refine BW_ ?_; exact BK101.out); (case side2 => exact KC_ (Kd.C_below HR0_2.out HB.out)); (case side3 => exact HC0_2.out); rintro e w15 ⟨v108, rfl, ho0, hb⟩; refine ⟨_, rfl, ?_⟩; have HO109 := Zz.mk (Kd.S_lower ho0 (bS_ (B3_ HB.out GE101.out GE102.out GE103.out))); replace BK101 := Zz.mk (kb_ BK101.out hb); replace BK102 := Zz.mk (kb_ BK102.out hb); replace BK103 := Zz.mk (kb_ BK103.out hb); replace HB := Zz.mk (bT_ (B3_ HB.out GE101.out GE102.out GE103.out) hb); (try clear hb); (try clear ho0)) | ((with_reducible refine qAh (N := 7) rfl ?_); refine bx_ 7 #[.int .i64 0, .int .i64 0, .slice none 0 0] 29 ?_; intro gb110 hg w16 hbox hb; have BK110 := Zz.mk (hbox); have GW110 := Zz.mk ((gw_ hg (B3_ HB.out GE101.out GE102.out GE103.out))); have GE110 := GW110; have NB101_110 := Zz.mk ((nb_ BK101.out hg)); have NB110_101 := Zz.mk NB101_110.out.symm; have NB102_110 := Zz.mk ((nb_ BK102.out hg)); have NB110_102 := Zz.mk NB102_110.out.symm; have NB103_110 := Zz.mk ((nb_ BK103.out hg)); have NB110_103 := Zz.mk NB103_110.out.symm; replace HO109 := Zz.mk (Kd.S_below (KS_ HO109.out) hb); replace BK101 := Zz.mk (kb_ BK101.out hb); replace BK102 := Zz.mk (kb_ BK102.out hb); replace BK103 := Zz.mk (kb_ BK103.out hb); replace HB := Zz.mk (bT_ (B3_ HB.out GE101.out GE102.out GE103.out) hb); clear hb hbox hg; have hnb17 := NB110_101.out; have hnc17 := NB101_110.out; have hnb18 := NB110_102.out; have hnc18 := NB102_110.out; have hnb19 := NB110_103.out; have hnc19 := NB103_110.out; obtain ⟨hcz20_0, hcz20_1, hcz20_2, hfz20_0, hfz20_1, hfz20_2⟩ := Z3f_ BK110.out; obtain ⟨Ao21, co21, eo21⟩ := Kd.S_slice HO109.out; subst eo21) | ((with_reducible refine gC_ (f := 99) rfl ?_); refine GL_ (some 16) rfl rfl Try.func99 #[.pointer (some ⟨gb102, 0, none⟩)] rfl (h := ?_); (with_reducible refine (z99.calls k gb102 a1_0 a1_1 A1_2 c1_2 l1_2 t111 t112 t113 _ ?side1 ?side2 ?side3 A6.out).mono ?_); (case side1 => refine BW_ ?_; refine bR_ ?_ NB102_110.out _; refine BW_ ?_; refine bR_ ?_ NB102_110.out _; refine BW_ ?_; refine bR_ ?_ NB102_110.out _; refine BW_ ?_; exact BK102.out); (case side2 => exact Kd.C_below HR1_2.out (Bw4_ HB.out GE101.out GE102.out GE103.out GE110.out)); (case side3 => exact HC1_2.out); rintro e w22 ⟨v114, rfl, ho0, hb⟩; refine ⟨_, rfl, ?_⟩; have HO115 := Zz.mk (Kd.S_lower (Kd.S_new' ho0 (Kd.S_lt (by refine SW_ ?_; exact (S3_ HO109.out BK110.out (.int .i64 t105) (.int .i64 t106) (.slice Ao21 t107.length co21))))) (bS_ (Bw4_ HB.out GE101.out GE102.out GE103.out GE110.out))); replace HO109 := Zz.mk (Kd.S_elder' (by refine SW_ ?_; exact (S3_ HO109.out BK110.out (.int .i64 t105) (.int .i64 t106) (.slice Ao21 t107.length co21))) (Kd.S_base ho0) hb); replace BK101 := Zz.mk (bB_ (g := gb101) (o := .cells #[.int .i64 a0_0, .int .i64 a0_1, .slice A0_2 l0_2.length c0_2] 29 (0, 0)) (by refine BW_ ?_; refine bR_ ?_ NB101_110.out _; refine BW_ ?_; refine bR_ ?_ NB101_110.out _; refine BW_ ?_; refine bR_ ?_ NB101_110.out _; refine BW_ ?_; exact BK101.out) hb); replace BK102 := Zz.mk (bB_ (g := gb102) (o := .cells #[.int .i64 a1_0, .int .i64 a1_1, .slice A1_2 l1_2.length c1_2] 29 (0, 0)) (by refine BW_ ?_; refine bR_ ?_ NB102_110.out _; refine BW_ ?_; refine bR_ ?_ NB102_110.out _; refine BW_ ?_; refine bR_ ?_ NB102_110.out _; refine BW_ ?_; exact BK102.out) hb); replace BK103 := Zz.mk (bB_ (g := gb103) (o := .cells #[.int .i64 0, .int .i64 0, .slice none 0 0] 29 (0, 0)) (by refine BW_ ?_; refine bR_ ?_ NB103_110.out _; refine BW_ ?_; refine bR_ ?_ NB103_110.out _; refine BW_ ?_; refine bR_ ?_ NB103_110.out _; refine BW_ ?_; exact BK103.out) hb); replace BK110 := Zz.mk (bB_ (g := gb110) (o := .cells #[.int .i64 t105, .int .i64 t106, .slice Ao21 t107.length co21] 29 (0, 0)) (by refine BW_ ?_; refine bP_ (cs := #[.int .i64 t105, .int .i64 t106, .slice none 0 0]) ?_ 2 _ rfl; refine BW_ ?_; refine bP_ (cs := #[.int .i64 t105, .int .i64 0, .slice none 0 0]) ?_ 1 _ rfl; refine BW_ ?_; refine bP_ (cs := #[.int .i64 0, .int .i64 0, .slice none 0 0]) ?_ 0 _ rfl; refine BW_ ?_; exact BK110.out) hb); replace HB := Zz.mk (bT_ (Bw4_ HB.out GE101.out GE102.out GE103.out GE110.out) hb); (try clear hb); (try clear ho0)) | ((with_reducible refine qAh (N := 8) rfl ?_); refine bx_ 8 #[.int .i64 0, .int .i64 0, .slice none 0 0] 29 ?_; intro gb116 hg w23 hbox hb; have BK116 := Zz.mk (hbox); have GW116 := Zz.mk ((gw_ hg (Bw4_ HB.out GE101.out GE102.out GE103.out GE110.out))); have GE116 := GW116; have NB101_116 := Zz.mk ((nb_ BK101.out hg)); have NB116_101 := Zz.mk NB101_116.out.symm; have NB102_116 := Zz.mk ((nb_ BK102.out hg)); have NB116_102 := Zz.mk NB102_116.out.symm; have NB103_116 := Zz.mk ((nb_ BK103.out hg)); have NB116_103 := Zz.mk NB103_116.out.symm; have NB110_116 := Zz.mk ((nb_ BK110.out hg)); have NB116_110 := Zz.mk NB110_116.out.symm; replace HO109 := Zz.mk (Kd.S_below (KS_ HO109.out) hb); replace HO115 := Zz.mk (Kd.S_below (KS_ HO115.out) hb); replace BK101 := Zz.mk (kb_ BK101.out hb); replace BK102 := Zz.mk (kb_ BK102.out hb); replace BK103 := Zz.mk (kb_ BK103.out hb); replace BK110 := Zz.mk (kb_ BK110.out hb); replace HB := Zz.mk (bT_ (Bw4_ HB.out GE101.out GE102.out GE103.out GE110.out) hb); clear hb hbox hg; have hnb24 := NB116_101.out; have hnc24 := NB101_116.out; have hnb25 := NB116_102.out; have hnc25 := NB102_116.out; have hnb26 := NB116_103.out; have hnc26 := NB103_116.out; have hnb27 := NB116_110.out; have hnc27 := NB110_116.out; obtain ⟨hcz28_0, hcz28_1, hcz28_2, hfz28_0, hfz28_1, hfz28_2⟩ := Z3f_ BK116.out; obtain ⟨Ao29, co29, eo29⟩ := Kd.S_slice HO115.out; subst eo29))
  have n0_ : Zz (Kd.S (Kd.slice 2 (Kd.int .i64)) 25 (((w23.setCell ⟨gb116, 0, none⟩ (.int .i64 t111)).setCell ⟨gb116, 1, none⟩ (.int .i64 t112)).setCell ⟨gb116, 2, none⟩ (.slice Ao29 t113.length co29)) w.heap.size (fun k_ => some k_ ≠ (.slice Ao29 t113.length co29 : Value).ownBlock) (.slice Ao21 t107.length co21) t107) := ⟨by refine SW_ ?_; exact Kd.S_mono (Kd.S_far (p := ⟨gb116, 2, none⟩) (Kd.S_far (p := ⟨gb116, 1, none⟩) (Kd.S_far (p := ⟨gb116, 0, none⟩) (Kd.S_types HO109.out BK116.out (by decide)) (fun _ hk => hk.2) (.int .i64 t111)) (fun _ hk => hk.2) (.int .i64 t112)) (fun _ hk => hk.2) (.slice Ao29 t113.length co29)) (fun _ hk => hk.1.2)⟩
  have n1_ : Zz (Kd.S (Kd.slice 2 (Kd.int .i64)) 25 (((w23.setCell ⟨gb116, 0, none⟩ (.int .i64 t111)).setCell ⟨gb116, 1, none⟩ (.int .i64 t112)).setCell ⟨gb116, 2, none⟩ (.slice Ao29 t113.length co29)) w.heap.size (fun k_ => some k_ ≠ (.slice Ao21 t107.length co21 : Value).ownBlock) (.slice Ao29 t113.length co29) t113) := ⟨by refine SW_ ?_; exact Kd.S_mono (Kd.S_far (p := ⟨gb116, 2, none⟩) (Kd.S_far (p := ⟨gb116, 1, none⟩) (Kd.S_far (p := ⟨gb116, 0, none⟩) (Kd.S_types HO115.out BK116.out (by decide)) (fun _ hk => hk.2) (.int .i64 t111)) (fun _ hk => hk.2) (.int .i64 t112)) (fun _ hk => hk.2) (.slice Ao29 t113.length co29)) (fun _ hk => hk.1.2)⟩
  have n2_ : Zz ((((w23.setCell ⟨gb116, 0, none⟩ (.int .i64 t111)).setCell ⟨gb116, 1, none⟩ (.int .i64 t112)).setCell ⟨gb116, 2, none⟩ (.slice Ao29 t113.length co29)).heap[gb101]? = some (.cells #[.int .i64 a0_0, .int .i64 a0_1, .slice A0_2 l0_2.length c0_2] 29 (0, 0))) := ⟨by refine BW_ ?_; refine bR_ ?_ NB101_116.out _; refine BW_ ?_; refine bR_ ?_ NB101_116.out _; refine BW_ ?_; refine bR_ ?_ NB101_116.out _; refine BW_ ?_; exact BK101.out⟩
  have n3_ : Zz ((((w23.setCell ⟨gb116, 0, none⟩ (.int .i64 t111)).setCell ⟨gb116, 1, none⟩ (.int .i64 t112)).setCell ⟨gb116, 2, none⟩ (.slice Ao29 t113.length co29)).heap[gb102]? = some (.cells #[.int .i64 a1_0, .int .i64 a1_1, .slice A1_2 l1_2.length c1_2] 29 (0, 0))) := ⟨by refine BW_ ?_; refine bR_ ?_ NB102_116.out _; refine BW_ ?_; refine bR_ ?_ NB102_116.out _; refine BW_ ?_; refine bR_ ?_ NB102_116.out _; refine BW_ ?_; exact BK102.out⟩
  have n4_ : Zz ((((w23.setCell ⟨gb116, 0, none⟩ (.int .i64 t111)).setCell ⟨gb116, 1, none⟩ (.int .i64 t112)).setCell ⟨gb116, 2, none⟩ (.slice Ao29 t113.length co29)).heap[gb103]? = some (.cells #[.int .i64 0, .int .i64 0, .slice none 0 0] 29 (0, 0))) := ⟨by refine BW_ ?_; refine bR_ ?_ NB103_116.out _; refine BW_ ?_; refine bR_ ?_ NB103_116.out _; refine BW_ ?_; refine bR_ ?_ NB103_116.out _; refine BW_ ?_; exact BK103.out⟩
  have n5_ : Zz ((((w23.setCell ⟨gb116, 0, none⟩ (.int .i64 t111)).setCell ⟨gb116, 1, none⟩ (.int .i64 t112)).setCell ⟨gb116, 2, none⟩ (.slice Ao29 t113.length co29)).heap[gb110]? = some (.cells #[.int .i64 t105, .int .i64 t106, .slice Ao21 t107.length co21] 29 (0, 0))) := ⟨by refine BW_ ?_; refine bR_ ?_ NB110_116.out _; refine BW_ ?_; refine bR_ ?_ NB110_116.out _; refine BW_ ?_; refine bR_ ?_ NB110_116.out _; refine BW_ ?_; exact BK110.out⟩
  have n6_ : Zz ((((w23.setCell ⟨gb116, 0, none⟩ (.int .i64 t111)).setCell ⟨gb116, 1, none⟩ (.int .i64 t112)).setCell ⟨gb116, 2, none⟩ (.slice Ao29 t113.length co29)).heap[gb116]? = some (.cells #[.int .i64 t111, .int .i64 t112, .slice Ao29 t113.length co29] 29 (0, 0))) := ⟨by refine BW_ ?_; refine bP_ (cs := #[.int .i64 t111, .int .i64 t112, .slice none 0 0]) ?_ 2 _ rfl; refine BW_ ?_; refine bP_ (cs := #[.int .i64 t111, .int .i64 0, .slice none 0 0]) ?_ 1 _ rfl; refine BW_ ?_; refine bP_ (cs := #[.int .i64 0, .int .i64 0, .slice none 0 0]) ?_ 0 _ rfl; refine BW_ ?_; exact BK116.out⟩
  have n7_ : Zz (Below w.heap.size w (((w23.setCell ⟨gb116, 0, none⟩ (.int .i64 t111)).setCell ⟨gb116, 1, none⟩ (.int .i64 t112)).setCell ⟨gb116, 2, none⟩ (.slice Ao29 t113.length co29))) := ⟨by repeat (first | (with_reducible first | exact HB.out | apply qAg | apply qAd | apply qAc | refine qAb ?_ GE101.out | refine qAb ?_ GE102.out | refine qAb ?_ GE103.out | refine qAb ?_ GE110.out | refine qAb ?_ GE116.out) | exact HB.out)⟩
  (try clear HO109);(try clear HO115);(try clear BK101);(try clear BK102);(try clear BK103);(try clear BK110);(try clear BK116);(try clear HB)
  generalize (((w23.setCell ⟨gb116, 0, none⟩ (.int .i64 t111)).setCell ⟨gb116, 1, none⟩ (.int .i64 t112)).setCell ⟨gb116, 2, none⟩ (.slice Ao29 t113.length co29)) = w30 at n0_ n1_ n2_ n3_ n4_ n5_ n6_ n7_ ⊢
  have HO109 := n0_
  have HO115 := n1_
  have BK101 := n2_
  have BK102 := n3_
  have BK103 := n4_
  have BK110 := n5_
  have BK116 := n6_
  have HB := n7_
  clear n0_ n1_ n2_ n3_ n4_ n5_ n6_ n7_
  replace HO109 := Zz.mk (Kd.S_drew HO109.out)
  replace HO115 := Zz.mk (Kd.S_drew HO115.out)
  replace BK101 := Zz.mk (bD_ BK101.out)
  replace BK102 := Zz.mk (bD_ BK102.out)
  replace BK103 := Zz.mk (bD_ BK103.out)
  replace BK110 := Zz.mk (bD_ BK110.out)
  replace BK116 := Zz.mk (bD_ BK116.out)
  replace HB := Zz.mk (qAc HB.out)
  refine qA5 (n := 14) (S := fun w' => w'.cell? ⟨gb101, 0, none⟩ = some (.int .i64 a0_0) ∧ w'.cell? ⟨gb101, 1, none⟩ = some (.int .i64 a0_1) ∧ w'.cell? ⟨gb101, 2, none⟩ = some (.slice A0_2 l0_2.length c0_2) ∧ w'.cell? ⟨gb110, 0, none⟩ = some (.int .i64 t105) ∧ w'.cell? ⟨gb110, 1, none⟩ = some (.int .i64 t106) ∧ w'.cell? ⟨gb110, 2, none⟩ = some (.slice Ao21 t107.length co21) ∧ w'.cell? ⟨gb116, 0, none⟩ = some (.int .i64 t111) ∧ w'.cell? ⟨gb116, 1, none⟩ = some (.int .i64 t112) ∧ w'.cell? ⟨gb116, 2, none⟩ = some (.slice Ao29 t113.length co29)) (ds := []) (tb_ 14 0) (by kernel_rfl) rfl rfl (Z3a_ BK101.out (Z3a_ BK110.out (Z3_ BK116.out))) (fun hHeld => ?_); refine qAw z50.tab6 z50.bits6 (fun HT_ HW_ => ?_)
  generalize w30.drew = w31 at HO109 HO115 BK101 BK102 BK103 BK110 BK116 HB hHeld ⊢
  refine PX_ 0 17 (tb_ 14 1) HT_ rfl rfl ?_
  refine PX_ 2 19 (tb_ 14 5) HT_ rfl rfl ?_
  refine PX_ 5 22 (tb_ 14 37) HT_ rfl rfl ?_
  refine PX_ 8 25 (tb_ 14 293) HT_ rfl rfl ?_
  refine TV_ (i := 1) (N := some 18) (tb_ 14 295) HT_ HW_ rfl rfl hHeld (by rintro w' ⟨s0, s1, s2, s3, s4, s5, s6, s7, s8⟩; go_simp; with_reducible rfl) (h := ?_)
  refine TV_ (i := 3) (N := some 20) (tb_ 14 303) HT_ HW_ rfl rfl hHeld (by rintro w' ⟨s0, s1, s2, s3, s4, s5, s6, s7, s8⟩; go_simp; with_reducible rfl) (h := ?_)
  refine TV_ (i := 6) (N := some 23) (tb_ 14 367) HT_ HW_ rfl rfl hHeld (by rintro w' ⟨s0, s1, s2, s3, s4, s5, s6, s7, s8⟩; go_simp; with_reducible rfl) (h := ?_)
  refine TV_ (i := 9) (N := some 26) (tb_ 14 879) HT_ HW_ rfl rfl hHeld (by rintro w' ⟨s0, s1, s2, s3, s4, s5, s6, s7, s8⟩; go_simp; with_reducible rfl) (h := ?_)
  refine qDa (σ := Value × Value × Value × Value × Nat) 1 (tb_ 14 8191) (fun s_ => [(21, s_.1), (24, s_.2.1), (27, s_.2.2.1), (28, .agg #[.int .i64 t126, .int .i64 t127, s_.2.2.2.1]), (9, .pointer (some ⟨s_.2.2.2.2, 0, none⟩))]) (fun s_ w' => (w'.cell? ⟨gb101, 0, none⟩ = some (.int .i64 a0_0) ∧ w'.cell? ⟨gb101, 1, none⟩ = some (.int .i64 a0_1) ∧ w'.cell? ⟨gb101, 2, none⟩ = some (.slice A0_2 l0_2.length c0_2) ∧ w'.cell? ⟨gb110, 0, none⟩ = some (.int .i64 t105) ∧ w'.cell? ⟨gb110, 1, none⟩ = some (.int .i64 t106) ∧ w'.cell? ⟨gb110, 2, none⟩ = some (.slice Ao21 t107.length co21) ∧ w'.cell? ⟨gb116, 0, none⟩ = some (.int .i64 t111) ∧ w'.cell? ⟨gb116, 1, none⟩ = some (.int .i64 t112) ∧ w'.cell? ⟨gb116, 2, none⟩ = some (.slice Ao29 t113.length co29)) ∧ (Kd.S (Kd.slice 2 (Kd.int .i64)) 25 w' w.heap.size (fun k_ => some k_ ≠ (.slice Ao29 t113.length co29 : Value).ownBlock ∧ some k_ ≠ (s_.2.2.1 : Value).ownBlock ∧ some k_ ≠ (s_.2.2.2.1 : Value).ownBlock) (.slice Ao21 t107.length co21) t107) ∧ (Kd.S (Kd.slice 2 (Kd.int .i64)) 25 w' w.heap.size (fun k_ => some k_ ≠ (.slice Ao21 t107.length co21 : Value).ownBlock ∧ some k_ ≠ (s_.2.2.1 : Value).ownBlock ∧ some k_ ≠ (s_.2.2.2.1 : Value).ownBlock) (.slice Ao29 t113.length co29) t113) ∧ (Kd.N (Kd.slice 2 (Kd.int .i64)) 25 w' w.heap.size (fun k_ => some k_ ≠ (s_.2.2.2.1 : Value).ownBlock ∧ k_ ≠ gb101 ∧ k_ ≠ gb102 ∧ k_ ≠ gb103 ∧ k_ ≠ gb110 ∧ k_ ≠ gb116 ∧ k_ ≠ s_.2.2.2.2) s_.2.2.1 y123) ∧ (Kd.S (Kd.slice 2 (Kd.int .i64)) 25 w' w.heap.size (fun k_ => some k_ ≠ (.slice Ao21 t107.length co21 : Value).ownBlock ∧ some k_ ≠ (.slice Ao29 t113.length co29 : Value).ownBlock ∧ some k_ ≠ (s_.2.2.1 : Value).ownBlock) s_.2.2.2.1 t128) ∧ (w'.heap[gb101]? = some (.cells #[.int .i64 a0_0, .int .i64 a0_1, .slice A0_2 l0_2.length c0_2] 29 (0, 0))) ∧ (w'.heap[gb102]? = some (.cells #[.int .i64 a1_0, .int .i64 a1_1, .slice A1_2 l1_2.length c1_2] 29 (0, 0))) ∧ (w'.heap[gb103]? = some (.cells #[.int .i64 0, .int .i64 0, .slice none 0 0] 29 (0, 0))) ∧ (w'.heap[gb110]? = some (.cells #[.int .i64 t105, .int .i64 t106, .slice Ao21 t107.length co21] 29 (0, 0))) ∧ (w'.heap[gb116]? = some (.cells #[.int .i64 t111, .int .i64 t112, .slice Ao29 t113.length co29] 29 (0, 0))) ∧ (w'.heap[s_.2.2.2.2]? = some (.cells #[.int .i64 0, .int .i64 0, .slice none 0 0] 29 (0, 0))) ∧ (w.heap.size ≤ s_.2.2.2.2) ∧ (w.heap.size ≤ s_.2.2.2.2) ∧ (gb101 ≠ s_.2.2.2.2) ∧ (s_.2.2.2.2 ≠ gb101) ∧ (gb102 ≠ s_.2.2.2.2) ∧ (s_.2.2.2.2 ≠ gb102) ∧ (gb103 ≠ s_.2.2.2.2) ∧ (s_.2.2.2.2 ≠ gb103) ∧ (gb110 ≠ s_.2.2.2.2) ∧ (s_.2.2.2.2 ≠ gb110) ∧ (gb116 ≠ s_.2.2.2.2) ∧ (s_.2.2.2.2 ≠ gb116) ∧ (Below w.heap.size w w')) ?_ ?_
  rotate_left
  ·intro hJ4_7_10_11_12
   refine qDa (σ := Value × Value × Value × Value) 2 (tb_ 14 4095) (fun s_ => [(21, s_.1), (24, s_.2.1), (27, s_.2.2.1), (28, .agg #[.int .i64 t126, .int .i64 t127, s_.2.2.2])]) (fun s_ w' => (w'.cell? ⟨gb101, 0, none⟩ = some (.int .i64 a0_0) ∧ w'.cell? ⟨gb101, 1, none⟩ = some (.int .i64 a0_1) ∧ w'.cell? ⟨gb101, 2, none⟩ = some (.slice A0_2 l0_2.length c0_2) ∧ w'.cell? ⟨gb110, 0, none⟩ = some (.int .i64 t105) ∧ w'.cell? ⟨gb110, 1, none⟩ = some (.int .i64 t106) ∧ w'.cell? ⟨gb110, 2, none⟩ = some (.slice Ao21 t107.length co21) ∧ w'.cell? ⟨gb116, 0, none⟩ = some (.int .i64 t111) ∧ w'.cell? ⟨gb116, 1, none⟩ = some (.int .i64 t112) ∧ w'.cell? ⟨gb116, 2, none⟩ = some (.slice Ao29 t113.length co29)) ∧ (Kd.S (Kd.slice 2 (Kd.int .i64)) 25 w' w.heap.size (fun k_ => some k_ ≠ (.slice Ao29 t113.length co29 : Value).ownBlock ∧ some k_ ≠ (s_.2.2.1 : Value).ownBlock ∧ some k_ ≠ (s_.2.2.2 : Value).ownBlock) (.slice Ao21 t107.length co21) t107) ∧ (Kd.S (Kd.slice 2 (Kd.int .i64)) 25 w' w.heap.size (fun k_ => some k_ ≠ (.slice Ao21 t107.length co21 : Value).ownBlock ∧ some k_ ≠ (s_.2.2.1 : Value).ownBlock ∧ some k_ ≠ (s_.2.2.2 : Value).ownBlock) (.slice Ao29 t113.length co29) t113) ∧ (Kd.N (Kd.slice 2 (Kd.int .i64)) 25 w' w.heap.size (fun k_ => some k_ ≠ (s_.2.2.2 : Value).ownBlock ∧ k_ ≠ gb101 ∧ k_ ≠ gb102 ∧ k_ ≠ gb103 ∧ k_ ≠ gb110 ∧ k_ ≠ gb116) s_.2.2.1 y123) ∧ (Kd.S (Kd.slice 2 (Kd.int .i64)) 25 w' w.heap.size (fun k_ => some k_ ≠ (.slice Ao21 t107.length co21 : Value).ownBlock ∧ some k_ ≠ (.slice Ao29 t113.length co29 : Value).ownBlock ∧ some k_ ≠ (s_.2.2.1 : Value).ownBlock) s_.2.2.2 t128) ∧ (w'.heap[gb101]? = some (.cells #[.int .i64 a0_0, .int .i64 a0_1, .slice A0_2 l0_2.length c0_2] 29 (0, 0))) ∧ (w'.heap[gb102]? = some (.cells #[.int .i64 a1_0, .int .i64 a1_1, .slice A1_2 l1_2.length c1_2] 29 (0, 0))) ∧ (w'.heap[gb103]? = some (.cells #[.int .i64 0, .int .i64 0, .slice none 0 0] 29 (0, 0))) ∧ (w'.heap[gb110]? = some (.cells #[.int .i64 t105, .int .i64 t106, .slice Ao21 t107.length co21] 29 (0, 0))) ∧ (w'.heap[gb116]? = some (.cells #[.int .i64 t111, .int .i64 t112, .slice Ao29 t113.length co29] 29 (0, 0))) ∧ (Below w.heap.size w w')) ?_ ?_
   rotate_left
   ·intro hJ4_7_10_11
    refine qDa (σ := Value × Value × Value × Nat) 2 (tb_ 14 6143) (fun s_ => [(21, s_.1), (24, s_.2.1), (27, s_.2.2.1), (9, .pointer (some ⟨s_.2.2.2, 0, none⟩))]) (fun s_ w' => (w'.cell? ⟨gb101, 0, none⟩ = some (.int .i64 a0_0) ∧ w'.cell? ⟨gb101, 1, none⟩ = some (.int .i64 a0_1) ∧ w'.cell? ⟨gb101, 2, none⟩ = some (.slice A0_2 l0_2.length c0_2) ∧ w'.cell? ⟨gb110, 0, none⟩ = some (.int .i64 t105) ∧ w'.cell? ⟨gb110, 1, none⟩ = some (.int .i64 t106) ∧ w'.cell? ⟨gb110, 2, none⟩ = some (.slice Ao21 t107.length co21) ∧ w'.cell? ⟨gb116, 0, none⟩ = some (.int .i64 t111) ∧ w'.cell? ⟨gb116, 1, none⟩ = some (.int .i64 t112) ∧ w'.cell? ⟨gb116, 2, none⟩ = some (.slice Ao29 t113.length co29)) ∧ (Kd.S (Kd.slice 2 (Kd.int .i64)) 25 w' w.heap.size (fun k_ => some k_ ≠ (.slice Ao29 t113.length co29 : Value).ownBlock ∧ some k_ ≠ (s_.2.2.1 : Value).ownBlock) (.slice Ao21 t107.length co21) t107) ∧ (Kd.S (Kd.slice 2 (Kd.int .i64)) 25 w' w.heap.size (fun k_ => some k_ ≠ (.slice Ao21 t107.length co21 : Value).ownBlock ∧ some k_ ≠ (s_.2.2.1 : Value).ownBlock) (.slice Ao29 t113.length co29) t113) ∧ (Kd.N (Kd.slice 2 (Kd.int .i64)) 25 w' w.heap.size (fun k_ => k_ ≠ gb101 ∧ k_ ≠ gb102 ∧ k_ ≠ gb103 ∧ k_ ≠ gb110 ∧ k_ ≠ gb116 ∧ k_ ≠ s_.2.2.2) s_.2.2.1 y123) ∧ (w'.heap[gb101]? = some (.cells #[.int .i64 a0_0, .int .i64 a0_1, .slice A0_2 l0_2.length c0_2] 29 (0, 0))) ∧ (w'.heap[gb102]? = some (.cells #[.int .i64 a1_0, .int .i64 a1_1, .slice A1_2 l1_2.length c1_2] 29 (0, 0))) ∧ (w'.heap[gb103]? = some (.cells #[.int .i64 0, .int .i64 0, .slice none 0 0] 29 (0, 0))) ∧ (w'.heap[gb110]? = some (.cells #[.int .i64 t105, .int .i64 t106, .slice Ao21 t107.length co21] 29 (0, 0))) ∧ (w'.heap[gb116]? = some (.cells #[.int .i64 t111, .int .i64 t112, .slice Ao29 t113.length co29] 29 (0, 0))) ∧ (w'.heap[s_.2.2.2]? = some (.cells #[.int .i64 0, .int .i64 0, .slice none 0 0] 29 (0, 0))) ∧ (w.heap.size ≤ s_.2.2.2) ∧ (w.heap.size ≤ s_.2.2.2) ∧ (gb101 ≠ s_.2.2.2) ∧ (s_.2.2.2 ≠ gb101) ∧ (gb102 ≠ s_.2.2.2) ∧ (s_.2.2.2 ≠ gb102) ∧ (gb103 ≠ s_.2.2.2) ∧ (s_.2.2.2 ≠ gb103) ∧ (gb110 ≠ s_.2.2.2) ∧ (s_.2.2.2 ≠ gb110) ∧ (gb116 ≠ s_.2.2.2) ∧ (s_.2.2.2 ≠ gb116) ∧ (Below w.heap.size w w')) ?_ ?_
    rotate_left
    ·intro hJ4_7_10_12
     refine qDa (σ := Value × Value × Value) 3 (tb_ 14 2047) (fun s_ => [(21, s_.1), (24, s_.2.1), (27, s_.2.2)]) (fun s_ w' => (w'.cell? ⟨gb101, 0, none⟩ = some (.int .i64 a0_0) ∧ w'.cell? ⟨gb101, 1, none⟩ = some (.int .i64 a0_1) ∧ w'.cell? ⟨gb101, 2, none⟩ = some (.slice A0_2 l0_2.length c0_2) ∧ w'.cell? ⟨gb110, 0, none⟩ = some (.int .i64 t105) ∧ w'.cell? ⟨gb110, 1, none⟩ = some (.int .i64 t106) ∧ w'.cell? ⟨gb110, 2, none⟩ = some (.slice Ao21 t107.length co21) ∧ w'.cell? ⟨gb116, 0, none⟩ = some (.int .i64 t111) ∧ w'.cell? ⟨gb116, 1, none⟩ = some (.int .i64 t112) ∧ w'.cell? ⟨gb116, 2, none⟩ = some (.slice Ao29 t113.length co29)) ∧ (Kd.S (Kd.slice 2 (Kd.int .i64)) 25 w' w.heap.size (fun k_ => some k_ ≠ (.slice Ao29 t113.length co29 : Value).ownBlock ∧ some k_ ≠ (s_.2.2 : Value).ownBlock) (.slice Ao21 t107.length co21) t107) ∧ (Kd.S (Kd.slice 2 (Kd.int .i64)) 25 w' w.heap.size (fun k_ => some k_ ≠ (.slice Ao21 t107.length co21 : Value).ownBlock ∧ some k_ ≠ (s_.2.2 : Value).ownBlock) (.slice Ao29 t113.length co29) t113) ∧ (Kd.N (Kd.slice 2 (Kd.int .i64)) 25 w' w.heap.size (fun k_ => k_ ≠ gb101 ∧ k_ ≠ gb102 ∧ k_ ≠ gb103 ∧ k_ ≠ gb110 ∧ k_ ≠ gb116) s_.2.2 y123) ∧ (w'.heap[gb101]? = some (.cells #[.int .i64 a0_0, .int .i64 a0_1, .slice A0_2 l0_2.length c0_2] 29 (0, 0))) ∧ (w'.heap[gb102]? = some (.cells #[.int .i64 a1_0, .int .i64 a1_1, .slice A1_2 l1_2.length c1_2] 29 (0, 0))) ∧ (w'.heap[gb103]? = some (.cells #[.int .i64 0, .int .i64 0, .slice none 0 0] 29 (0, 0))) ∧ (w'.heap[gb110]? = some (.cells #[.int .i64 t105, .int .i64 t106, .slice Ao21 t107.length co21] 29 (0, 0))) ∧ (w'.heap[gb116]? = some (.cells #[.int .i64 t111, .int .i64 t112, .slice Ao29 t113.length co29] 29 (0, 0))) ∧ (Below w.heap.size w w')) ?_ ?_
     rotate_left
     ·intro hJ4_7_10
      refine qDa (σ := Value × Value × Nat) 3 (tb_ 14 5119) (fun s_ => [(21, s_.1), (24, s_.2.1), (9, .pointer (some ⟨s_.2.2, 0, none⟩))]) (fun s_ w' => (w'.cell? ⟨gb101, 0, none⟩ = some (.int .i64 a0_0) ∧ w'.cell? ⟨gb101, 1, none⟩ = some (.int .i64 a0_1) ∧ w'.cell? ⟨gb101, 2, none⟩ = some (.slice A0_2 l0_2.length c0_2) ∧ w'.cell? ⟨gb110, 0, none⟩ = some (.int .i64 t105) ∧ w'.cell? ⟨gb110, 1, none⟩ = some (.int .i64 t106) ∧ w'.cell? ⟨gb110, 2, none⟩ = some (.slice Ao21 t107.length co21) ∧ w'.cell? ⟨gb116, 0, none⟩ = some (.int .i64 t111) ∧ w'.cell? ⟨gb116, 1, none⟩ = some (.int .i64 t112) ∧ w'.cell? ⟨gb116, 2, none⟩ = some (.slice Ao29 t113.length co29)) ∧ (Kd.S (Kd.slice 2 (Kd.int .i64)) 25 w' w.heap.size (fun k_ => some k_ ≠ (.slice Ao29 t113.length co29 : Value).ownBlock ∧ some k_ ≠ (s_.2.1 : Value).ownBlock) (.slice Ao21 t107.length co21) t107) ∧ (Kd.S (Kd.slice 2 (Kd.int .i64)) 25 w' w.heap.size (fun k_ => some k_ ≠ (.slice Ao21 t107.length co21 : Value).ownBlock ∧ some k_ ≠ (s_.2.1 : Value).ownBlock) (.slice Ao29 t113.length co29) t113) ∧ (Kd.N (Kd.slice 2 (Kd.int .i64)) 25 w' w.heap.size (fun k_ => some k_ ≠ (.slice Ao29 t113.length co29 : Value).ownBlock ∧ k_ ≠ gb101 ∧ k_ ≠ gb102 ∧ k_ ≠ gb103 ∧ k_ ≠ gb110 ∧ k_ ≠ gb116 ∧ k_ ≠ s_.2.2) s_.2.1 y120) ∧ (w'.heap[gb101]? = some (.cells #[.int .i64 a0_0, .int .i64 a0_1, .slice A0_2 l0_2.length c0_2] 29 (0, 0))) ∧ (w'.heap[gb102]? = some (.cells #[.int .i64 a1_0, .int .i64 a1_1, .slice A1_2 l1_2.length c1_2] 29 (0, 0))) ∧ (w'.heap[gb103]? = some (.cells #[.int .i64 0, .int .i64 0, .slice none 0 0] 29 (0, 0))) ∧ (w'.heap[gb110]? = some (.cells #[.int .i64 t105, .int .i64 t106, .slice Ao21 t107.length co21] 29 (0, 0))) ∧ (w'.heap[gb116]? = some (.cells #[.int .i64 t111, .int .i64 t112, .slice Ao29 t113.length co29] 29 (0, 0))) ∧ (w'.heap[s_.2.2]? = some (.cells #[.int .i64 0, .int .i64 0, .slice none 0 0] 29 (0, 0))) ∧ (w.heap.size ≤ s_.2.2) ∧ (w.heap.size ≤ s_.2.2) ∧ (gb101 ≠ s_.2.2) ∧ (s_.2.2 ≠ gb101) ∧ (gb102 ≠ s_.2.2) ∧ (s_.2.2 ≠ gb102) ∧ (gb103 ≠ s_.2.2) ∧ (s_.2.2 ≠ gb103) ∧ (gb110 ≠ s_.2.2) ∧ (s_.2.2 ≠ gb110) ∧ (gb116 ≠ s_.2.2) ∧ (s_.2.2 ≠ gb116) ∧ (Below w.heap.size w w')) ?_ ?_
      rotate_left
      ·intro hJ4_7_12
       refine qDa (σ := Value × Value) 4 (tb_ 14 1023) (fun s_ => [(21, s_.1), (24, s_.2)]) (fun s_ w' => (w'.cell? ⟨gb101, 0, none⟩ = some (.int .i64 a0_0) ∧ w'.cell? ⟨gb101, 1, none⟩ = some (.int .i64 a0_1) ∧ w'.cell? ⟨gb101, 2, none⟩ = some (.slice A0_2 l0_2.length c0_2) ∧ w'.cell? ⟨gb110, 0, none⟩ = some (.int .i64 t105) ∧ w'.cell? ⟨gb110, 1, none⟩ = some (.int .i64 t106) ∧ w'.cell? ⟨gb110, 2, none⟩ = some (.slice Ao21 t107.length co21) ∧ w'.cell? ⟨gb116, 0, none⟩ = some (.int .i64 t111) ∧ w'.cell? ⟨gb116, 1, none⟩ = some (.int .i64 t112) ∧ w'.cell? ⟨gb116, 2, none⟩ = some (.slice Ao29 t113.length co29)) ∧ (Kd.S (Kd.slice 2 (Kd.int .i64)) 25 w' w.heap.size (fun k_ => some k_ ≠ (.slice Ao29 t113.length co29 : Value).ownBlock ∧ some k_ ≠ (s_.2 : Value).ownBlock) (.slice Ao21 t107.length co21) t107) ∧ (Kd.S (Kd.slice 2 (Kd.int .i64)) 25 w' w.heap.size (fun k_ => some k_ ≠ (.slice Ao21 t107.length co21 : Value).ownBlock ∧ some k_ ≠ (s_.2 : Value).ownBlock) (.slice Ao29 t113.length co29) t113) ∧ (Kd.N (Kd.slice 2 (Kd.int .i64)) 25 w' w.heap.size (fun k_ => some k_ ≠ (.slice Ao29 t113.length co29 : Value).ownBlock ∧ k_ ≠ gb101 ∧ k_ ≠ gb102 ∧ k_ ≠ gb103 ∧ k_ ≠ gb110 ∧ k_ ≠ gb116) s_.2 y120) ∧ (w'.heap[gb101]? = some (.cells #[.int .i64 a0_0, .int .i64 a0_1, .slice A0_2 l0_2.length c0_2] 29 (0, 0))) ∧ (w'.heap[gb102]? = some (.cells #[.int .i64 a1_0, .int .i64 a1_1, .slice A1_2 l1_2.length c1_2] 29 (0, 0))) ∧ (w'.heap[gb103]? = some (.cells #[.int .i64 0, .int .i64 0, .slice none 0 0] 29 (0, 0))) ∧ (w'.heap[gb110]? = some (.cells #[.int .i64 t105, .int .i64 t106, .slice Ao21 t107.length co21] 29 (0, 0))) ∧ (w'.heap[gb116]? = some (.cells #[.int .i64 t111, .int .i64 t112, .slice Ao29 t113.length co29] 29 (0, 0))) ∧ (Below w.heap.size w w')) ?_ ?_
       rotate_left
       ·intro hJ4_7
        refine qDa (σ := Value × Nat) 4 (tb_ 14 4991) (fun s_ => [(21, s_.1), (9, .pointer (some ⟨s_.2, 0, none⟩))]) (fun s_ w' => (w'.cell? ⟨gb101, 0, none⟩ = some (.int .i64 a0_0) ∧ w'.cell? ⟨gb101, 1, none⟩ = some (.int .i64 a0_1) ∧ w'.cell? ⟨gb101, 2, none⟩ = some (.slice A0_2 l0_2.length c0_2) ∧ w'.cell? ⟨gb110, 0, none⟩ = some (.int .i64 t105) ∧ w'.cell? ⟨gb110, 1, none⟩ = some (.int .i64 t106) ∧ w'.cell? ⟨gb110, 2, none⟩ = some (.slice Ao21 t107.length co21) ∧ w'.cell? ⟨gb116, 0, none⟩ = some (.int .i64 t111) ∧ w'.cell? ⟨gb116, 1, none⟩ = some (.int .i64 t112) ∧ w'.cell? ⟨gb116, 2, none⟩ = some (.slice Ao29 t113.length co29)) ∧ (Kd.S (Kd.slice 2 (Kd.int .i64)) 25 w' w.heap.size (fun k_ => some k_ ≠ (.slice Ao29 t113.length co29 : Value).ownBlock ∧ some k_ ≠ (s_.1 : Value).ownBlock) (.slice Ao21 t107.length co21) t107) ∧ (Kd.S (Kd.slice 2 (Kd.int .i64)) 25 w' w.heap.size (fun k_ => some k_ ≠ (.slice Ao21 t107.length co21 : Value).ownBlock ∧ some k_ ≠ (s_.1 : Value).ownBlock) (.slice Ao29 t113.length co29) t113) ∧ (Kd.N (Kd.slice 2 (Kd.int .i64)) 25 w' w.heap.size (fun k_ => some k_ ≠ (.slice Ao21 t107.length co21 : Value).ownBlock ∧ some k_ ≠ (.slice Ao29 t113.length co29 : Value).ownBlock ∧ k_ ≠ gb101 ∧ k_ ≠ gb102 ∧ k_ ≠ gb103 ∧ k_ ≠ gb110 ∧ k_ ≠ gb116 ∧ k_ ≠ s_.2) s_.1 y117) ∧ (w'.heap[gb101]? = some (.cells #[.int .i64 a0_0, .int .i64 a0_1, .slice A0_2 l0_2.length c0_2] 29 (0, 0))) ∧ (w'.heap[gb102]? = some (.cells #[.int .i64 a1_0, .int .i64 a1_1, .slice A1_2 l1_2.length c1_2] 29 (0, 0))) ∧ (w'.heap[gb103]? = some (.cells #[.int .i64 0, .int .i64 0, .slice none 0 0] 29 (0, 0))) ∧ (w'.heap[gb110]? = some (.cells #[.int .i64 t105, .int .i64 t106, .slice Ao21 t107.length co21] 29 (0, 0))) ∧ (w'.heap[gb116]? = some (.cells #[.int .i64 t111, .int .i64 t112, .slice Ao29 t113.length co29] 29 (0, 0))) ∧ (w'.heap[s_.2]? = some (.cells #[.int .i64 0, .int .i64 0, .slice none 0 0] 29 (0, 0))) ∧ (w.heap.size ≤ s_.2) ∧ (w.heap.size ≤ s_.2) ∧ (gb101 ≠ s_.2) ∧ (s_.2 ≠ gb101) ∧ (gb102 ≠ s_.2) ∧ (s_.2 ≠ gb102) ∧ (gb103 ≠ s_.2) ∧ (s_.2 ≠ gb103) ∧ (gb110 ≠ s_.2) ∧ (s_.2 ≠ gb110) ∧ (gb116 ≠ s_.2) ∧ (s_.2 ≠ gb116) ∧ (Below w.heap.size w w')) ?_ ?_
        rotate_left
        ·intro hJ4_12
         refine qDa (σ := Value) 5 (tb_ 14 895) (fun s_ => [(21, s_)]) (fun s_ w' => (w'.cell? ⟨gb101, 0, none⟩ = some (.int .i64 a0_0) ∧ w'.cell? ⟨gb101, 1, none⟩ = some (.int .i64 a0_1) ∧ w'.cell? ⟨gb101, 2, none⟩ = some (.slice A0_2 l0_2.length c0_2) ∧ w'.cell? ⟨gb110, 0, none⟩ = some (.int .i64 t105) ∧ w'.cell? ⟨gb110, 1, none⟩ = some (.int .i64 t106) ∧ w'.cell? ⟨gb110, 2, none⟩ = some (.slice Ao21 t107.length co21) ∧ w'.cell? ⟨gb116, 0, none⟩ = some (.int .i64 t111) ∧ w'.cell? ⟨gb116, 1, none⟩ = some (.int .i64 t112) ∧ w'.cell? ⟨gb116, 2, none⟩ = some (.slice Ao29 t113.length co29)) ∧ (Kd.S (Kd.slice 2 (Kd.int .i64)) 25 w' w.heap.size (fun k_ => some k_ ≠ (.slice Ao29 t113.length co29 : Value).ownBlock ∧ some k_ ≠ (s_ : Value).ownBlock) (.slice Ao21 t107.length co21) t107) ∧ (Kd.S (Kd.slice 2 (Kd.int .i64)) 25 w' w.heap.size (fun k_ => some k_ ≠ (.slice Ao21 t107.length co21 : Value).ownBlock ∧ some k_ ≠ (s_ : Value).ownBlock) (.slice Ao29 t113.length co29) t113) ∧ (Kd.N (Kd.slice 2 (Kd.int .i64)) 25 w' w.heap.size (fun k_ => some k_ ≠ (.slice Ao21 t107.length co21 : Value).ownBlock ∧ some k_ ≠ (.slice Ao29 t113.length co29 : Value).ownBlock ∧ k_ ≠ gb101 ∧ k_ ≠ gb102 ∧ k_ ≠ gb103 ∧ k_ ≠ gb110 ∧ k_ ≠ gb116) s_ y117) ∧ (w'.heap[gb101]? = some (.cells #[.int .i64 a0_0, .int .i64 a0_1, .slice A0_2 l0_2.length c0_2] 29 (0, 0))) ∧ (w'.heap[gb102]? = some (.cells #[.int .i64 a1_0, .int .i64 a1_1, .slice A1_2 l1_2.length c1_2] 29 (0, 0))) ∧ (w'.heap[gb103]? = some (.cells #[.int .i64 0, .int .i64 0, .slice none 0 0] 29 (0, 0))) ∧ (w'.heap[gb110]? = some (.cells #[.int .i64 t105, .int .i64 t106, .slice Ao21 t107.length co21] 29 (0, 0))) ∧ (w'.heap[gb116]? = some (.cells #[.int .i64 t111, .int .i64 t112, .slice Ao29 t113.length co29] 29 (0, 0))) ∧ (Below w.heap.size w w')) ?_ ?_
         rotate_left
         ·intro hJ4
          refine qDa (σ := Nat) 5 (tb_ 14 4975) (fun s_ => [(9, .pointer (some ⟨s_, 0, none⟩))]) (fun s_ w' => (w'.cell? ⟨gb101, 0, none⟩ = some (.int .i64 a0_0) ∧ w'.cell? ⟨gb101, 1, none⟩ = some (.int .i64 a0_1) ∧ w'.cell? ⟨gb101, 2, none⟩ = some (.slice A0_2 l0_2.length c0_2) ∧ w'.cell? ⟨gb110, 0, none⟩ = some (.int .i64 t105) ∧ w'.cell? ⟨gb110, 1, none⟩ = some (.int .i64 t106) ∧ w'.cell? ⟨gb110, 2, none⟩ = some (.slice Ao21 t107.length co21) ∧ w'.cell? ⟨gb116, 0, none⟩ = some (.int .i64 t111) ∧ w'.cell? ⟨gb116, 1, none⟩ = some (.int .i64 t112) ∧ w'.cell? ⟨gb116, 2, none⟩ = some (.slice Ao29 t113.length co29)) ∧ (Kd.S (Kd.slice 2 (Kd.int .i64)) 25 w' w.heap.size (fun k_ => some k_ ≠ (.slice Ao29 t113.length co29 : Value).ownBlock) (.slice Ao21 t107.length co21) t107) ∧ (Kd.S (Kd.slice 2 (Kd.int .i64)) 25 w' w.heap.size (fun k_ => some k_ ≠ (.slice Ao21 t107.length co21 : Value).ownBlock) (.slice Ao29 t113.length co29) t113) ∧ (w'.heap[gb101]? = some (.cells #[.int .i64 a0_0, .int .i64 a0_1, .slice A0_2 l0_2.length c0_2] 29 (0, 0))) ∧ (w'.heap[gb102]? = some (.cells #[.int .i64 a1_0, .int .i64 a1_1, .slice A1_2 l1_2.length c1_2] 29 (0, 0))) ∧ (w'.heap[gb103]? = some (.cells #[.int .i64 0, .int .i64 0, .slice none 0 0] 29 (0, 0))) ∧ (w'.heap[gb110]? = some (.cells #[.int .i64 t105, .int .i64 t106, .slice Ao21 t107.length co21] 29 (0, 0))) ∧ (w'.heap[gb116]? = some (.cells #[.int .i64 t111, .int .i64 t112, .slice Ao29 t113.length co29] 29 (0, 0))) ∧ (w'.heap[s_]? = some (.cells #[.int .i64 0, .int .i64 0, .slice none 0 0] 29 (0, 0))) ∧ (w.heap.size ≤ s_) ∧ (w.heap.size ≤ s_) ∧ (gb101 ≠ s_) ∧ (s_ ≠ gb101) ∧ (gb102 ≠ s_) ∧ (s_ ≠ gb102) ∧ (gb103 ≠ s_) ∧ (s_ ≠ gb103) ∧ (gb110 ≠ s_) ∧ (s_ ≠ gb110) ∧ (gb116 ≠ s_) ∧ (s_ ≠ gb116) ∧ (Below w.heap.size w w')) ?_ ?_
          rotate_left
          ·intro hJ12
           refine two_ (i := 4) (j := 12) (Ni := some 21) (Nj := some 9) (tb_ 14 895) (tb_ 14 4975) rfl rfl rfl rfl (qB3 HT_.out (by kernel_rfl)) (by decide) (by decide) (fun K hK => ?_) (fun K hK => ?_)
           ·skip
            refine Kd.N_lit_step (Kd.slice 2 (Kd.int .i64)) _ 25 ?hg (N' := 21) ?hd (xs := ([] : List (List Int))) (inner := []) (ok := (fun k_ => some k_ ≠ (.slice Ao21 t107.length co21 : Value).ownBlock ∧ some k_ ≠ (.slice Ao29 t113.length co29 : Value).ownBlock ∧ k_ ≠ gb101 ∧ k_ ≠ gb102 ∧ k_ ≠ gb103 ∧ k_ ≠ gb110 ∧ k_ ≠ gb116)) (okp := (fun k_ => some k_ ≠ (.slice Ao21 t107.length co21 : Value).ownBlock ∧ some k_ ≠ (.slice Ao29 t113.length co29 : Value).ownBlock ∧ k_ ≠ gb101 ∧ k_ ≠ gb102 ∧ k_ ≠ gb103 ∧ k_ ≠ gb110 ∧ k_ ≠ gb116)) ?hr ?hp (fun _ hk => hk) ((show ∀ k_, w31.heap.size ≤ k_ → (fun k_ => some k_ ≠ (.slice Ao21 t107.length co21 : Value).ownBlock ∧ some k_ ≠ (.slice Ao29 t113.length co29 : Value).ownBlock ∧ k_ ≠ gb101 ∧ k_ ≠ gb102 ∧ k_ ≠ gb103 ∧ k_ ≠ gb110 ∧ k_ ≠ gb116) k_ from fun k_ hk => ⟨Kd.fresh' (Kd.S_lt (KS_ HO109.out)) k_ hk, Kd.fresh' (Kd.S_lt (KS_ HO115.out)) k_ hk, Kd.freshB (g := gb101) (o := .cells #[.int .i64 a0_0, .int .i64 a0_1, .slice A0_2 l0_2.length c0_2] 29 (0, 0)) (KB_ BK101.out) k_ hk, Kd.freshB (g := gb102) (o := .cells #[.int .i64 a1_0, .int .i64 a1_1, .slice A1_2 l1_2.length c1_2] 29 (0, 0)) (KB_ BK102.out) k_ hk, Kd.freshB (g := gb103) (o := .cells #[.int .i64 0, .int .i64 0, .slice none 0 0] 29 (0, 0)) (KB_ BK103.out) k_ hk, Kd.freshB (g := gb110) (o := .cells #[.int .i64 t105, .int .i64 t106, .slice Ao21 t107.length co21] 29 (0, 0)) (KB_ BK110.out) k_ hk, Kd.freshB (g := gb116) (o := .cells #[.int .i64 t111, .int .i64 t112, .slice Ao29 t113.length co29] 29 (0, 0)) (KB_ BK116.out) k_ hk⟩) _ (Nat.le_refl _)) (Below.refl _ _) (Nat.le_refl _) (by simp) ?_; (case hd => rfl); (case hg => rfl); (case hr => first | (go_simp; done) | (go_simp; rfl)); (case hp => exact (Reps.none _ _))
            intro v118 w32 ho33 hb hg_ hnew_
            clear hg_ hnew_
            (first | rw [← Ny117.out] at ho33 | (simp only [Int.reduceToNat] at ho33; rw [← Ny117.out] at ho33))
            replace HO109 := Zz.mk (Kd.S_elder' (KS_ HO109.out) (Kd.N_base ho33) hb)
            replace HO115 := Zz.mk (Kd.S_elder' (KS_ HO115.out) (Kd.N_base ho33) hb)
            have HO119 := Zz.mk (Kd.N_lower ho33 (bS_ (Bw5_ HB.out GE101.out GE102.out GE103.out GE110.out GE116.out)))
            replace BK101 := Zz.mk (kb_ BK101.out hb)
            replace BK102 := Zz.mk (kb_ BK102.out hb)
            replace BK103 := Zz.mk (kb_ BK103.out hb)
            replace BK110 := Zz.mk (kb_ BK110.out hb)
            replace BK116 := Zz.mk (kb_ BK116.out hb)
            replace HB := Zz.mk (bT_ (Bw5_ HB.out GE101.out GE102.out GE103.out GE110.out GE116.out) hb)
            clear hb ho33
            refine hK.out _ _ (Z3a_ BK101.out (Z3a_ BK110.out (Z3_ BK116.out))) (fun hHeld => ?_)
            clear hK K
            refine NM_ (N := (some 21)) (h := ?_)
            exact qBf (by first | (simp only [qA1, Act.put, List.setIfInBounds_toArray, List.set_cons_zero, List.set_cons_succ]; done) | (simp only [qA1, Act.put, List.setIfInBounds_toArray, List.set_cons_zero, List.set_cons_succ]; rfl)) (hJ4 (v118) _ ⟨hHeld, (KS_ HO109.out), (KS_ HO115.out), (KN_ HO119.out), (KB_ BK101.out), (KB_ BK102.out), (KB_ BK103.out), (KB_ BK110.out), (KB_ BK116.out), (Bw5_ HB.out GE101.out GE102.out GE103.out GE110.out GE116.out)⟩)
           skip
           refine by_ 9 #[.int .i64 0, .int .i64 0, .slice none 0 0] 29 ?_
           intro gb131 hg w32 hbox hb
           have BK131 := Zz.mk (hbox)
           have GW131 := Zz.mk ((gw_ hg (Bw5_ HB.out GE101.out GE102.out GE103.out GE110.out GE116.out)))
           have GE131 := GW131
           have NB101_131 := Zz.mk ((nb_ BK101.out hg))
           have NB131_101 := Zz.mk NB101_131.out.symm
           have NB102_131 := Zz.mk ((nb_ BK102.out hg))
           have NB131_102 := Zz.mk NB102_131.out.symm
           have NB103_131 := Zz.mk ((nb_ BK103.out hg))
           have NB131_103 := Zz.mk NB103_131.out.symm
           have NB110_131 := Zz.mk ((nb_ BK110.out hg))
           have NB131_110 := Zz.mk NB110_131.out.symm
           have NB116_131 := Zz.mk ((nb_ BK116.out hg))
           have NB131_116 := Zz.mk NB116_131.out.symm
           replace HO109 := Zz.mk (Kd.S_below (KS_ HO109.out) hb)
           replace HO115 := Zz.mk (Kd.S_below (KS_ HO115.out) hb)
           replace BK101 := Zz.mk (kb_ BK101.out hb)
           replace BK102 := Zz.mk (kb_ BK102.out hb)
           replace BK103 := Zz.mk (kb_ BK103.out hb)
           replace BK110 := Zz.mk (kb_ BK110.out hb)
           replace BK116 := Zz.mk (kb_ BK116.out hb)
           replace HB := Zz.mk (bT_ (Bw5_ HB.out GE101.out GE102.out GE103.out GE110.out GE116.out) hb)
           clear hb hbox hg
           refine hK.out _ _ (Z3a_ BK101.out (Z3a_ BK110.out (Z3_ BK116.out))) (fun hHeld => ?_)
           clear hK K
           refine NM_ (N := (some 9)) (h := ?_)
           exact qBf (by first | (simp only [qA1, Act.put, List.setIfInBounds_toArray, List.set_cons_zero, List.set_cons_succ]; done) | (simp only [qA1, Act.put, List.setIfInBounds_toArray, List.set_cons_zero, List.set_cons_succ]; rfl)) (hJ12 (gb131) _ ⟨hHeld, (KS_ HO109.out), (KS_ HO115.out), (KB_ BK101.out), (KB_ BK102.out), (KB_ BK103.out), (KB_ BK110.out), (KB_ BK116.out), (KB_ BK131.out), GW131.out, GE131.out, NB101_131.out, NB131_101.out, NB102_131.out, NB131_102.out, NB103_131.out, NB131_103.out, NB110_131.out, NB131_110.out, NB116_131.out, NB131_116.out, (Bw6_ HB.out GE101.out GE102.out GE103.out GE110.out GE116.out GE131.out)⟩)
          skip
          rintro gb131 w33 ⟨hS_, h0_, h1_, h2_, h3_, h4_, h5_, h6_, h7_, h8_, h9_, h10_, h11_, h12_, h13_, h14_, h15_, h16_, h17_, h18_, h19_, h20_⟩
          have BK131 : Zz (w33.heap[gb131]? = some (.cells #[.int .i64 0, .int .i64 0, .slice none 0 0] 29 (0, 0))) := ⟨h7_⟩
          have GW131 : Zz (w.heap.size ≤ gb131) := ⟨h8_⟩
          have GE131 : Zz (w.heap.size ≤ gb131) := ⟨h9_⟩
          have NB101_131 : Zz (gb101 ≠ gb131) := ⟨h10_⟩
          have NB131_101 : Zz (gb131 ≠ gb101) := ⟨h11_⟩
          have NB102_131 : Zz (gb102 ≠ gb131) := ⟨h12_⟩
          have NB131_102 : Zz (gb131 ≠ gb102) := ⟨h13_⟩
          have NB103_131 : Zz (gb103 ≠ gb131) := ⟨h14_⟩
          have NB131_103 : Zz (gb131 ≠ gb103) := ⟨h15_⟩
          have NB110_131 : Zz (gb110 ≠ gb131) := ⟨h16_⟩
          have NB131_110 : Zz (gb131 ≠ gb110) := ⟨h17_⟩
          have NB116_131 : Zz (gb116 ≠ gb131) := ⟨h18_⟩
          have NB131_116 : Zz (gb131 ≠ gb116) := ⟨h19_⟩
          replace HO109 : Zz (Kd.S (Kd.slice 2 (Kd.int .i64)) 25 w33 w.heap.size (fun k_ => some k_ ≠ (.slice Ao29 t113.length co29 : Value).ownBlock) (.slice Ao21 t107.length co21) t107) := ⟨h0_⟩
          replace HO115 : Zz (Kd.S (Kd.slice 2 (Kd.int .i64)) 25 w33 w.heap.size (fun k_ => some k_ ≠ (.slice Ao21 t107.length co21 : Value).ownBlock) (.slice Ao29 t113.length co29) t113) := ⟨h1_⟩
          replace BK101 : Zz (w33.heap[gb101]? = some (.cells #[.int .i64 a0_0, .int .i64 a0_1, .slice A0_2 l0_2.length c0_2] 29 (0, 0))) := ⟨h2_⟩
          replace BK102 : Zz (w33.heap[gb102]? = some (.cells #[.int .i64 a1_0, .int .i64 a1_1, .slice A1_2 l1_2.length c1_2] 29 (0, 0))) := ⟨h3_⟩
          replace BK103 : Zz (w33.heap[gb103]? = some (.cells #[.int .i64 0, .int .i64 0, .slice none 0 0] 29 (0, 0))) := ⟨h4_⟩
          replace BK110 : Zz (w33.heap[gb110]? = some (.cells #[.int .i64 t105, .int .i64 t106, .slice Ao21 t107.length co21] 29 (0, 0))) := ⟨h5_⟩
          replace BK116 : Zz (w33.heap[gb116]? = some (.cells #[.int .i64 t111, .int .i64 t112, .slice Ao29 t113.length co29] 29 (0, 0))) := ⟨h6_⟩
          replace HB : Zz (Below w.heap.size w w33) := ⟨h20_⟩
          (try clear h0_)
          (try clear h1_)
          (try clear h2_)
          (try clear h3_)
          (try clear h4_)
          (try clear h5_)
          (try clear h6_)
          (try clear h7_)
          (try clear h8_)
          (try clear h9_)
          (try clear h10_)
          (try clear h11_)
          (try clear h12_)
          (try clear h13_)
          (try clear h14_)
          (try clear h15_)
          (try clear h16_)
          (try clear h17_)
          (try clear h18_)
          (try clear h19_)
          (try clear h20_)
          have hHeld : w33.cell? ⟨gb101, 0, none⟩ = some (.int .i64 a0_0) ∧ w33.cell? ⟨gb101, 1, none⟩ = some (.int .i64 a0_1) ∧ w33.cell? ⟨gb101, 2, none⟩ = some (.slice A0_2 l0_2.length c0_2) ∧ w33.cell? ⟨gb110, 0, none⟩ = some (.int .i64 t105) ∧ w33.cell? ⟨gb110, 1, none⟩ = some (.int .i64 t106) ∧ w33.cell? ⟨gb110, 2, none⟩ = some (.slice Ao21 t107.length co21) ∧ w33.cell? ⟨gb116, 0, none⟩ = some (.int .i64 t111) ∧ w33.cell? ⟨gb116, 1, none⟩ = some (.int .i64 t112) ∧ w33.cell? ⟨gb116, 2, none⟩ = some (.slice Ao29 t113.length co29) := hS_
          refine qBf (a' := ?_) ?_ ?_
          rotate_left
          ·simp only [qA1, Act.put, List.setIfInBounds_toArray, List.set_cons_zero, List.set_cons_succ]
           rfl
          refine one_ (i := 4) (N := some 21) (tb_ 14 4991) rfl rfl (qAr HT_.out (by kernel_rfl)) (by decide) (fun K hK => ?_)
          refine Kd.N_lit_step (Kd.slice 2 (Kd.int .i64)) _ 25 ?hg (N' := 21) ?hd (xs := ([] : List (List Int))) (inner := []) (ok := (fun k_ => some k_ ≠ (.slice Ao21 t107.length co21 : Value).ownBlock ∧ some k_ ≠ (.slice Ao29 t113.length co29 : Value).ownBlock ∧ k_ ≠ gb101 ∧ k_ ≠ gb102 ∧ k_ ≠ gb103 ∧ k_ ≠ gb110 ∧ k_ ≠ gb116 ∧ k_ ≠ gb131)) (okp := (fun k_ => some k_ ≠ (.slice Ao21 t107.length co21 : Value).ownBlock ∧ some k_ ≠ (.slice Ao29 t113.length co29 : Value).ownBlock ∧ k_ ≠ gb101 ∧ k_ ≠ gb102 ∧ k_ ≠ gb103 ∧ k_ ≠ gb110 ∧ k_ ≠ gb116 ∧ k_ ≠ gb131)) ?hr ?hp (fun _ hk => hk) ((show ∀ k_, w33.heap.size ≤ k_ → (fun k_ => some k_ ≠ (.slice Ao21 t107.length co21 : Value).ownBlock ∧ some k_ ≠ (.slice Ao29 t113.length co29 : Value).ownBlock ∧ k_ ≠ gb101 ∧ k_ ≠ gb102 ∧ k_ ≠ gb103 ∧ k_ ≠ gb110 ∧ k_ ≠ gb116 ∧ k_ ≠ gb131) k_ from fun k_ hk => ⟨Kd.fresh' (Kd.S_lt (KS_ HO109.out)) k_ hk, Kd.fresh' (Kd.S_lt (KS_ HO115.out)) k_ hk, Kd.freshB (g := gb101) (o := .cells #[.int .i64 a0_0, .int .i64 a0_1, .slice A0_2 l0_2.length c0_2] 29 (0, 0)) (KB_ BK101.out) k_ hk, Kd.freshB (g := gb102) (o := .cells #[.int .i64 a1_0, .int .i64 a1_1, .slice A1_2 l1_2.length c1_2] 29 (0, 0)) (KB_ BK102.out) k_ hk, Kd.freshB (g := gb103) (o := .cells #[.int .i64 0, .int .i64 0, .slice none 0 0] 29 (0, 0)) (KB_ BK103.out) k_ hk, Kd.freshB (g := gb110) (o := .cells #[.int .i64 t105, .int .i64 t106, .slice Ao21 t107.length co21] 29 (0, 0)) (KB_ BK110.out) k_ hk, Kd.freshB (g := gb116) (o := .cells #[.int .i64 t111, .int .i64 t112, .slice Ao29 t113.length co29] 29 (0, 0)) (KB_ BK116.out) k_ hk, Kd.freshB (g := gb131) (o := .cells #[.int .i64 0, .int .i64 0, .slice none 0 0] 29 (0, 0)) (KB_ BK131.out) k_ hk⟩) _ (Nat.le_refl _)) (Below.refl _ _) (Nat.le_refl _) (by simp) ?_; (case hd => rfl); (case hg => rfl); (case hr => first | (go_simp; done) | (go_simp; rfl)); (case hp => exact (Reps.none _ _))
          intro v118 w34 ho35 hb hg_ hnew_
          clear hg_ hnew_
          (first | rw [← Ny117.out] at ho35 | (simp only [Int.reduceToNat] at ho35; rw [← Ny117.out] at ho35))
          replace HO109 := Zz.mk (Kd.S_elder' (KS_ HO109.out) (Kd.N_base ho35) hb)
          replace HO115 := Zz.mk (Kd.S_elder' (KS_ HO115.out) (Kd.N_base ho35) hb)
          have HO119 := Zz.mk (Kd.N_lower ho35 (bS_ (Bw6_ HB.out GE101.out GE102.out GE103.out GE110.out GE116.out GE131.out)))
          replace BK101 := Zz.mk (kb_ BK101.out hb)
          replace BK102 := Zz.mk (kb_ BK102.out hb)
          replace BK103 := Zz.mk (kb_ BK103.out hb)
          replace BK110 := Zz.mk (kb_ BK110.out hb)
          replace BK116 := Zz.mk (kb_ BK116.out hb)
          replace BK131 := Zz.mk (kb_ BK131.out hb)
          replace HB := Zz.mk (bT_ (Bw6_ HB.out GE101.out GE102.out GE103.out GE110.out GE116.out GE131.out) hb)
          clear hb ho35
          refine hK.out _ _ (Z3a_ BK101.out (Z3a_ BK110.out (Z3_ BK116.out))) (fun hHeld => ?_)
          clear hK K
          refine NM_ (N := (some 21)) (h := ?_)
          exact qBf (by first | (simp only [qA1, Act.put, List.setIfInBounds_toArray, List.set_cons_zero, List.set_cons_succ]; done) | (simp only [qA1, Act.put, List.setIfInBounds_toArray, List.set_cons_zero, List.set_cons_succ]; rfl)) (hJ4_12 (v118, gb131) _ ⟨hHeld, (KS_ HO109.out), (KS_ HO115.out), (KN_ HO119.out), (KB_ BK101.out), (KB_ BK102.out), (KB_ BK103.out), (KB_ BK110.out), (KB_ BK116.out), (KB_ BK131.out), GW131.out, GE131.out, NB101_131.out, NB131_101.out, NB102_131.out, NB131_102.out, NB103_131.out, NB131_103.out, NB110_131.out, NB131_110.out, NB116_131.out, NB131_116.out, (Bw6_ HB.out GE101.out GE102.out GE103.out GE110.out GE116.out GE131.out)⟩)
         skip
         rintro v118 w34 ⟨hS_, h0_, h1_, h2_, h3_, h4_, h5_, h6_, h7_, h8_⟩
         have HO119 : Zz (Kd.N (Kd.slice 2 (Kd.int .i64)) 25 w34 w.heap.size (fun k_ => some k_ ≠ (.slice Ao21 t107.length co21 : Value).ownBlock ∧ some k_ ≠ (.slice Ao29 t113.length co29 : Value).ownBlock ∧ k_ ≠ gb101 ∧ k_ ≠ gb102 ∧ k_ ≠ gb103 ∧ k_ ≠ gb110 ∧ k_ ≠ gb116) v118 y117) := ⟨h2_⟩
         replace HO109 : Zz (Kd.S (Kd.slice 2 (Kd.int .i64)) 25 w34 w.heap.size (fun k_ => some k_ ≠ (.slice Ao29 t113.length co29 : Value).ownBlock ∧ some k_ ≠ (v118 : Value).ownBlock) (.slice Ao21 t107.length co21) t107) := ⟨h0_⟩
         replace HO115 : Zz (Kd.S (Kd.slice 2 (Kd.int .i64)) 25 w34 w.heap.size (fun k_ => some k_ ≠ (.slice Ao21 t107.length co21 : Value).ownBlock ∧ some k_ ≠ (v118 : Value).ownBlock) (.slice Ao29 t113.length co29) t113) := ⟨h1_⟩
         replace BK101 : Zz (w34.heap[gb101]? = some (.cells #[.int .i64 a0_0, .int .i64 a0_1, .slice A0_2 l0_2.length c0_2] 29 (0, 0))) := ⟨h3_⟩
         replace BK102 : Zz (w34.heap[gb102]? = some (.cells #[.int .i64 a1_0, .int .i64 a1_1, .slice A1_2 l1_2.length c1_2] 29 (0, 0))) := ⟨h4_⟩
         replace BK103 : Zz (w34.heap[gb103]? = some (.cells #[.int .i64 0, .int .i64 0, .slice none 0 0] 29 (0, 0))) := ⟨h5_⟩
         replace BK110 : Zz (w34.heap[gb110]? = some (.cells #[.int .i64 t105, .int .i64 t106, .slice Ao21 t107.length co21] 29 (0, 0))) := ⟨h6_⟩
         replace BK116 : Zz (w34.heap[gb116]? = some (.cells #[.int .i64 t111, .int .i64 t112, .slice Ao29 t113.length co29] 29 (0, 0))) := ⟨h7_⟩
         replace HB : Zz (Below w.heap.size w w34) := ⟨h8_⟩
         (try clear h0_)
         (try clear h1_)
         (try clear h2_)
         (try clear h3_)
         (try clear h4_)
         (try clear h5_)
         (try clear h6_)
         (try clear h7_)
         (try clear h8_)
         have hHeld : w34.cell? ⟨gb101, 0, none⟩ = some (.int .i64 a0_0) ∧ w34.cell? ⟨gb101, 1, none⟩ = some (.int .i64 a0_1) ∧ w34.cell? ⟨gb101, 2, none⟩ = some (.slice A0_2 l0_2.length c0_2) ∧ w34.cell? ⟨gb110, 0, none⟩ = some (.int .i64 t105) ∧ w34.cell? ⟨gb110, 1, none⟩ = some (.int .i64 t106) ∧ w34.cell? ⟨gb110, 2, none⟩ = some (.slice Ao21 t107.length co21) ∧ w34.cell? ⟨gb116, 0, none⟩ = some (.int .i64 t111) ∧ w34.cell? ⟨gb116, 1, none⟩ = some (.int .i64 t112) ∧ w34.cell? ⟨gb116, 2, none⟩ = some (.slice Ao29 t113.length co29) := hS_
         refine qBf (a' := ?_) ?_ ?_
         rotate_left
         ·simp only [qA1, Act.put, List.setIfInBounds_toArray, List.set_cons_zero, List.set_cons_succ]
          rfl
         refine two_ (i := 7) (j := 12) (Ni := some 24) (Nj := some 9) (tb_ 14 1023) (tb_ 14 4991) rfl rfl rfl rfl (qB3 HT_.out (by kernel_rfl)) (by decide) (by decide) (fun K hK => ?_) (fun K hK => ?_)
         ·skip
          refine Kd.N_append_rows_step (Kd.slice 2 (Kd.int .i64)) (w0 := w) w.heap.size (by rfl) (.tmp 21) (.tmp 23) 22 25 (.slice none 0 0) 24 rfl Try.underlying22 qB6 rfl (by decide) (by omega) v118 y117 t107 _ _ _ (fun k_ => some k_ ≠ (.slice Ao29 t113.length co29 : Value).ownBlock ∧ k_ ≠ gb101 ∧ k_ ≠ gb102 ∧ k_ ≠ gb103 ∧ k_ ≠ gb110 ∧ k_ ≠ gb116) (fun k_ => ((fun k_ => some k_ ≠ (.slice Ao29 t113.length co29 : Value).ownBlock ∧ k_ ≠ gb101 ∧ k_ ≠ gb102 ∧ k_ ≠ gb103 ∧ k_ ≠ gb110 ∧ k_ ≠ gb116)) k_ ∧ some k_ ≠ (v118 : Value).ownBlock) rfl rfl ?aO ?aR (fun _ hk => hk) ?aF ?aB ?aS ?aL ?_
          (case aR => exact (by skip; exact Kd.S_F (Kd.S_mono (ok' := (fun k_ => ((fun k_ => some k_ ≠ (.slice Ao29 t113.length co29 : Value).ownBlock ∧ k_ ≠ gb101 ∧ k_ ≠ gb102 ∧ k_ ≠ gb103 ∧ k_ ≠ gb110 ∧ k_ ≠ gb116)) k_ ∧ some k_ ≠ (v118 : Value).ownBlock)) (Kd.S_types (Kd.S_types (Kd.S_types (Kd.S_types (Kd.S_types (HO109.out) BK101.out (by decide)) BK102.out (by decide)) BK103.out (by decide)) BK110.out (by decide)) BK116.out (by decide)) (fun k_ hk => ⟨⟨hk.1.1.1.1.1.1, ⟨hk.1.1.1.1.2, ⟨hk.1.1.1.2, ⟨hk.1.1.2, ⟨hk.1.2, hk.2⟩⟩⟩⟩⟩, hk.1.1.1.1.1.2⟩))))
          (case aB => exact (Bw5_ HB.out GE101.out GE102.out GE103.out GE110.out GE116.out))
          (case aF => exact (fun k_ hk => ⟨Kd.fresh' (Kd.S_lt (KS_ HO115.out)) k_ hk, Kd.freshB (g := gb101) (o := .cells #[.int .i64 a0_0, .int .i64 a0_1, .slice A0_2 l0_2.length c0_2] 29 (0, 0)) (KB_ BK101.out) k_ hk, Kd.freshB (g := gb102) (o := .cells #[.int .i64 a1_0, .int .i64 a1_1, .slice A1_2 l1_2.length c1_2] 29 (0, 0)) (KB_ BK102.out) k_ hk, Kd.freshB (g := gb103) (o := .cells #[.int .i64 0, .int .i64 0, .slice none 0 0] 29 (0, 0)) (KB_ BK103.out) k_ hk, Kd.freshB (g := gb110) (o := .cells #[.int .i64 t105, .int .i64 t106, .slice Ao21 t107.length co21] 29 (0, 0)) (KB_ BK110.out) k_ hk, Kd.freshB (g := gb116) (o := .cells #[.int .i64 t111, .int .i64 t112, .slice Ao29 t113.length co29] 29 (0, 0)) (KB_ BK116.out) k_ hk⟩))
          (case aO => exact (by refine NW_ ?_; exact Kd.N_mono HO119.out (fun _ hk => pj_ hk)))
          (case aS => exact (bS_ (Bw5_ HB.out GE101.out GE102.out GE103.out GE110.out GE116.out)))
          (case aL => have := LMc7.out; omega)
          intro v121 w35 ho hb hg hat
          rw [← Ny120.out] at ho
          replace BK101 := Zz.mk (qAt (g := gb101) (o := .cells #[.int .i64 a0_0, .int .i64 a0_1, .slice A0_2 l0_2.length c0_2] 29 (0, 0)) (KB_ BK101.out) hg (Kd.N_ne HO119.out BK101.out (by decide)))
          replace BK102 := Zz.mk (qAt (g := gb102) (o := .cells #[.int .i64 a1_0, .int .i64 a1_1, .slice A1_2 l1_2.length c1_2] 29 (0, 0)) (KB_ BK102.out) hg (Kd.N_ne HO119.out BK102.out (by decide)))
          replace BK103 := Zz.mk (qAt (g := gb103) (o := .cells #[.int .i64 0, .int .i64 0, .slice none 0 0] 29 (0, 0)) (KB_ BK103.out) hg (Kd.N_ne HO119.out BK103.out (by decide)))
          replace HO109 := Zz.mk (Kd.S_after (ok := (fun k_ => some k_ ≠ (.slice Ao29 t113.length co29 : Value).ownBlock)) (KS_ HO109.out) hg hat)
          replace BK110 := Zz.mk (qAt (g := gb110) (o := .cells #[.int .i64 t105, .int .i64 t106, .slice Ao21 t107.length co21] 29 (0, 0)) (KB_ BK110.out) hg (Kd.N_ne HO119.out BK110.out (by decide)))
          replace HO115 := Zz.mk (Kd.S_after (ok := (fun k_ => some k_ ≠ (.slice Ao21 t107.length co21 : Value).ownBlock)) (KS_ HO115.out) hg hat)
          replace BK116 := Zz.mk (qAt (g := gb116) (o := .cells #[.int .i64 t111, .int .i64 t112, .slice Ao29 t113.length co29] 29 (0, 0)) (KB_ BK116.out) hg (Kd.N_ne HO119.out BK116.out (by decide)))
          replace HB := Zz.mk (hb)
          have HO122 := Zz.mk (ho)
          clear HO119
          clear ho hb hg hat
          refine hK.out _ _ (Z3a_ BK101.out (Z3a_ BK110.out (Z3_ BK116.out))) (fun hHeld => ?_)
          clear hK K
          refine NM_ (N := (some 24)) (h := ?_)
          exact qBf (by first | (simp only [qA1, Act.put, List.setIfInBounds_toArray, List.set_cons_zero, List.set_cons_succ]; done) | (simp only [qA1, Act.put, List.setIfInBounds_toArray, List.set_cons_zero, List.set_cons_succ]; rfl)) (hJ4_7 (v118, v121) _ ⟨hHeld, (KS_ HO109.out), (KS_ HO115.out), (KN_ HO122.out), (KB_ BK101.out), (KB_ BK102.out), (KB_ BK103.out), (KB_ BK110.out), (KB_ BK116.out), (Bw5_ HB.out GE101.out GE102.out GE103.out GE110.out GE116.out)⟩)
         skip
         refine by_ 9 #[.int .i64 0, .int .i64 0, .slice none 0 0] 29 ?_
         intro gb131 hg w35 hbox hb
         have BK131 := Zz.mk (hbox)
         have GW131 := Zz.mk ((gw_ hg (Bw5_ HB.out GE101.out GE102.out GE103.out GE110.out GE116.out)))
         have GE131 := GW131
         have NB101_131 := Zz.mk ((nb_ BK101.out hg))
         have NB131_101 := Zz.mk NB101_131.out.symm
         have NB102_131 := Zz.mk ((nb_ BK102.out hg))
         have NB131_102 := Zz.mk NB102_131.out.symm
         have NB103_131 := Zz.mk ((nb_ BK103.out hg))
         have NB131_103 := Zz.mk NB103_131.out.symm
         have NB110_131 := Zz.mk ((nb_ BK110.out hg))
         have NB131_110 := Zz.mk NB110_131.out.symm
         have NB116_131 := Zz.mk ((nb_ BK116.out hg))
         have NB131_116 := Zz.mk NB116_131.out.symm
         replace HO109 := Zz.mk (Kd.S_below (KS_ HO109.out) hb)
         replace HO115 := Zz.mk (Kd.S_below (KS_ HO115.out) hb)
         replace HO119 := Zz.mk (Kd.N_below (Kd.N_elderB (KN_ HO119.out) gb131 (Nat.le_of_eq hg.symm)) hb)
         replace BK101 := Zz.mk (kb_ BK101.out hb)
         replace BK102 := Zz.mk (kb_ BK102.out hb)
         replace BK103 := Zz.mk (kb_ BK103.out hb)
         replace BK110 := Zz.mk (kb_ BK110.out hb)
         replace BK116 := Zz.mk (kb_ BK116.out hb)
         replace HB := Zz.mk (bT_ (Bw5_ HB.out GE101.out GE102.out GE103.out GE110.out GE116.out) hb)
         clear hb hbox hg
         refine hK.out _ _ (Z3a_ BK101.out (Z3a_ BK110.out (Z3_ BK116.out))) (fun hHeld => ?_)
         clear hK K
         refine NM_ (N := (some 9)) (h := ?_)
         exact qBf (by first | (simp only [qA1, Act.put, List.setIfInBounds_toArray, List.set_cons_zero, List.set_cons_succ]; done) | (simp only [qA1, Act.put, List.setIfInBounds_toArray, List.set_cons_zero, List.set_cons_succ]; rfl)) (hJ4_12 (v118, gb131) _ ⟨hHeld, (KS_ HO109.out), (KS_ HO115.out), (by refine NW_ ?_; exact Kd.N_mono HO119.out (fun _ hk => pj_ hk)), (KB_ BK101.out), (KB_ BK102.out), (KB_ BK103.out), (KB_ BK110.out), (KB_ BK116.out), (KB_ BK131.out), GW131.out, GE131.out, NB101_131.out, NB131_101.out, NB102_131.out, NB131_102.out, NB103_131.out, NB131_103.out, NB110_131.out, NB131_110.out, NB116_131.out, NB131_116.out, (Bw6_ HB.out GE101.out GE102.out GE103.out GE110.out GE116.out GE131.out)⟩)
        skip
        rintro ⟨v118, gb131⟩ w35 ⟨hS_, h0_, h1_, h2_, h3_, h4_, h5_, h6_, h7_, h8_, h9_, h10_, h11_, h12_, h13_, h14_, h15_, h16_, h17_, h18_, h19_, h20_, h21_⟩
        have HO119 : Zz (Kd.N (Kd.slice 2 (Kd.int .i64)) 25 w35 w.heap.size (fun k_ => some k_ ≠ (.slice Ao21 t107.length co21 : Value).ownBlock ∧ some k_ ≠ (.slice Ao29 t113.length co29 : Value).ownBlock ∧ k_ ≠ gb101 ∧ k_ ≠ gb102 ∧ k_ ≠ gb103 ∧ k_ ≠ gb110 ∧ k_ ≠ gb116 ∧ k_ ≠ gb131) v118 y117) := ⟨h2_⟩
        have BK131 : Zz (w35.heap[gb131]? = some (.cells #[.int .i64 0, .int .i64 0, .slice none 0 0] 29 (0, 0))) := ⟨h8_⟩
        have GW131 : Zz (w.heap.size ≤ gb131) := ⟨h9_⟩
        have GE131 : Zz (w.heap.size ≤ gb131) := ⟨h10_⟩
        have NB101_131 : Zz (gb101 ≠ gb131) := ⟨h11_⟩
        have NB131_101 : Zz (gb131 ≠ gb101) := ⟨h12_⟩
        have NB102_131 : Zz (gb102 ≠ gb131) := ⟨h13_⟩
        have NB131_102 : Zz (gb131 ≠ gb102) := ⟨h14_⟩
        have NB103_131 : Zz (gb103 ≠ gb131) := ⟨h15_⟩
        have NB131_103 : Zz (gb131 ≠ gb103) := ⟨h16_⟩
        have NB110_131 : Zz (gb110 ≠ gb131) := ⟨h17_⟩
        have NB131_110 : Zz (gb131 ≠ gb110) := ⟨h18_⟩
        have NB116_131 : Zz (gb116 ≠ gb131) := ⟨h19_⟩
        have NB131_116 : Zz (gb131 ≠ gb116) := ⟨h20_⟩
        replace HO109 : Zz (Kd.S (Kd.slice 2 (Kd.int .i64)) 25 w35 w.heap.size (fun k_ => some k_ ≠ (.slice Ao29 t113.length co29 : Value).ownBlock ∧ some k_ ≠ (v118 : Value).ownBlock) (.slice Ao21 t107.length co21) t107) := ⟨h0_⟩
        replace HO115 : Zz (Kd.S (Kd.slice 2 (Kd.int .i64)) 25 w35 w.heap.size (fun k_ => some k_ ≠ (.slice Ao21 t107.length co21 : Value).ownBlock ∧ some k_ ≠ (v118 : Value).ownBlock) (.slice Ao29 t113.length co29) t113) := ⟨h1_⟩
        replace BK101 : Zz (w35.heap[gb101]? = some (.cells #[.int .i64 a0_0, .int .i64 a0_1, .slice A0_2 l0_2.length c0_2] 29 (0, 0))) := ⟨h3_⟩
        replace BK102 : Zz (w35.heap[gb102]? = some (.cells #[.int .i64 a1_0, .int .i64 a1_1, .slice A1_2 l1_2.length c1_2] 29 (0, 0))) := ⟨h4_⟩
        replace BK103 : Zz (w35.heap[gb103]? = some (.cells #[.int .i64 0, .int .i64 0, .slice none 0 0] 29 (0, 0))) := ⟨h5_⟩
        replace BK110 : Zz (w35.heap[gb110]? = some (.cells #[.int .i64 t105, .int .i64 t106, .slice Ao21 t107.length co21] 29 (0, 0))) := ⟨h6_⟩
        replace BK116 : Zz (w35.heap[gb116]? = some (.cells #[.int .i64 t111, .int .i64 t112, .slice Ao29 t113.length co29] 29 (0, 0))) := ⟨h7_⟩
        replace HB : Zz (Below w.heap.size w w35) := ⟨h21_⟩
        (try clear h0_)
        (try clear h1_)
        (try clear h2_)
        (try clear h3_)
        (try clear h4_)
        (try clear h5_)
        (try clear h6_)
        (try clear h7_)
        (try clear h8_)
        (try clear h9_)
        (try clear h10_)
        (try clear h11_)
        (try clear h12_)
        (try clear h13_)
        (try clear h14_)
        (try clear h15_)
        (try clear h16_)
        (try clear h17_)
        (try clear h18_)
        (try clear h19_)
        (try clear h20_)
        (try clear h21_)
        have hHeld : w35.cell? ⟨gb101, 0, none⟩ = some (.int .i64 a0_0) ∧ w35.cell? ⟨gb101, 1, none⟩ = some (.int .i64 a0_1) ∧ w35.cell? ⟨gb101, 2, none⟩ = some (.slice A0_2 l0_2.length c0_2) ∧ w35.cell? ⟨gb110, 0, none⟩ = some (.int .i64 t105) ∧ w35.cell? ⟨gb110, 1, none⟩ = some (.int .i64 t106) ∧ w35.cell? ⟨gb110, 2, none⟩ = some (.slice Ao21 t107.length co21) ∧ w35.cell? ⟨gb116, 0, none⟩ = some (.int .i64 t111) ∧ w35.cell? ⟨gb116, 1, none⟩ = some (.int .i64 t112) ∧ w35.cell? ⟨gb116, 2, none⟩ = some (.slice Ao29 t113.length co29) := hS_
        refine qBf (a' := ?_) ?_ ?_
        rotate_left
        ·simp only [qA1, Act.put, List.setIfInBounds_toArray, List.set_cons_zero, List.set_cons_succ]
         rfl
        refine one_ (i := 7) (N := some 24) (tb_ 14 5119) rfl rfl (qAr HT_.out (by kernel_rfl)) (by decide) (fun K hK => ?_)
        refine Kd.N_append_rows_step (Kd.slice 2 (Kd.int .i64)) (w0 := w) w.heap.size (by rfl) (.tmp 21) (.tmp 23) 22 25 (.slice none 0 0) 24 rfl Try.underlying22 qB6 rfl (by decide) (by omega) v118 y117 t107 _ _ _ (fun k_ => some k_ ≠ (.slice Ao29 t113.length co29 : Value).ownBlock ∧ k_ ≠ gb101 ∧ k_ ≠ gb102 ∧ k_ ≠ gb103 ∧ k_ ≠ gb110 ∧ k_ ≠ gb116 ∧ k_ ≠ gb131) (fun k_ => ((fun k_ => some k_ ≠ (.slice Ao29 t113.length co29 : Value).ownBlock ∧ k_ ≠ gb101 ∧ k_ ≠ gb102 ∧ k_ ≠ gb103 ∧ k_ ≠ gb110 ∧ k_ ≠ gb116 ∧ k_ ≠ gb131)) k_ ∧ some k_ ≠ (v118 : Value).ownBlock) rfl rfl ?aO ?aR (fun _ hk => hk) ?aF ?aB ?aS ?aL ?_
        (case aR => exact (by skip; exact Kd.S_F (Kd.S_mono (ok' := (fun k_ => ((fun k_ => some k_ ≠ (.slice Ao29 t113.length co29 : Value).ownBlock ∧ k_ ≠ gb101 ∧ k_ ≠ gb102 ∧ k_ ≠ gb103 ∧ k_ ≠ gb110 ∧ k_ ≠ gb116 ∧ k_ ≠ gb131)) k_ ∧ some k_ ≠ (v118 : Value).ownBlock)) (Kd.S_types (Kd.S_types (Kd.S_types (Kd.S_types (Kd.S_types (Kd.S_types (HO109.out) BK101.out (by decide)) BK102.out (by decide)) BK103.out (by decide)) BK110.out (by decide)) BK116.out (by decide)) BK131.out (by decide)) (fun k_ hk => ⟨⟨hk.1.1.1.1.1.1.1, ⟨hk.1.1.1.1.1.2, ⟨hk.1.1.1.1.2, ⟨hk.1.1.1.2, ⟨hk.1.1.2, ⟨hk.1.2, hk.2⟩⟩⟩⟩⟩⟩, hk.1.1.1.1.1.1.2⟩))))
        (case aB => exact (Bw6_ HB.out GE101.out GE102.out GE103.out GE110.out GE116.out GE131.out))
        (case aF => exact (fun k_ hk => ⟨Kd.fresh' (Kd.S_lt (KS_ HO115.out)) k_ hk, Kd.freshB (g := gb101) (o := .cells #[.int .i64 a0_0, .int .i64 a0_1, .slice A0_2 l0_2.length c0_2] 29 (0, 0)) (KB_ BK101.out) k_ hk, Kd.freshB (g := gb102) (o := .cells #[.int .i64 a1_0, .int .i64 a1_1, .slice A1_2 l1_2.length c1_2] 29 (0, 0)) (KB_ BK102.out) k_ hk, Kd.freshB (g := gb103) (o := .cells #[.int .i64 0, .int .i64 0, .slice none 0 0] 29 (0, 0)) (KB_ BK103.out) k_ hk, Kd.freshB (g := gb110) (o := .cells #[.int .i64 t105, .int .i64 t106, .slice Ao21 t107.length co21] 29 (0, 0)) (KB_ BK110.out) k_ hk, Kd.freshB (g := gb116) (o := .cells #[.int .i64 t111, .int .i64 t112, .slice Ao29 t113.length co29] 29 (0, 0)) (KB_ BK116.out) k_ hk, Kd.freshB (g := gb131) (o := .cells #[.int .i64 0, .int .i64 0, .slice none 0 0] 29 (0, 0)) (KB_ BK131.out) k_ hk⟩))
        (case aO => exact (by refine NW_ ?_; exact Kd.N_mono HO119.out (fun _ hk => pj_ hk)))
        (case aS => exact (bS_ (Bw6_ HB.out GE101.out GE102.out GE103.out GE110.out GE116.out GE131.out)))
        (case aL => have := LMc7.out; omega)
        intro v121 w36 ho hb hg hat
        rw [← Ny120.out] at ho
        replace BK101 := Zz.mk (qAt (g := gb101) (o := .cells #[.int .i64 a0_0, .int .i64 a0_1, .slice A0_2 l0_2.length c0_2] 29 (0, 0)) (KB_ BK101.out) hg (Kd.N_ne HO119.out BK101.out (by decide)))
        replace BK102 := Zz.mk (qAt (g := gb102) (o := .cells #[.int .i64 a1_0, .int .i64 a1_1, .slice A1_2 l1_2.length c1_2] 29 (0, 0)) (KB_ BK102.out) hg (Kd.N_ne HO119.out BK102.out (by decide)))
        replace BK103 := Zz.mk (qAt (g := gb103) (o := .cells #[.int .i64 0, .int .i64 0, .slice none 0 0] 29 (0, 0)) (KB_ BK103.out) hg (Kd.N_ne HO119.out BK103.out (by decide)))
        replace HO109 := Zz.mk (Kd.S_after (ok := (fun k_ => some k_ ≠ (.slice Ao29 t113.length co29 : Value).ownBlock)) (KS_ HO109.out) hg hat)
        replace BK110 := Zz.mk (qAt (g := gb110) (o := .cells #[.int .i64 t105, .int .i64 t106, .slice Ao21 t107.length co21] 29 (0, 0)) (KB_ BK110.out) hg (Kd.N_ne HO119.out BK110.out (by decide)))
        replace HO115 := Zz.mk (Kd.S_after (ok := (fun k_ => some k_ ≠ (.slice Ao21 t107.length co21 : Value).ownBlock)) (KS_ HO115.out) hg hat)
        replace BK116 := Zz.mk (qAt (g := gb116) (o := .cells #[.int .i64 t111, .int .i64 t112, .slice Ao29 t113.length co29] 29 (0, 0)) (KB_ BK116.out) hg (Kd.N_ne HO119.out BK116.out (by decide)))
        replace BK131 := Zz.mk (qAt (g := gb131) (o := .cells #[.int .i64 0, .int .i64 0, .slice none 0 0] 29 (0, 0)) (KB_ BK131.out) hg (Kd.N_ne HO119.out BK131.out (by decide)))
        replace HB := Zz.mk (hb)
        have HO122 := Zz.mk (ho)
        clear HO119
        clear ho hb hg hat
        refine hK.out _ _ (Z3a_ BK101.out (Z3a_ BK110.out (Z3_ BK116.out))) (fun hHeld => ?_)
        clear hK K
        refine NM_ (N := (some 24)) (h := ?_)
        exact qBf (by first | (simp only [qA1, Act.put, List.setIfInBounds_toArray, List.set_cons_zero, List.set_cons_succ]; done) | (simp only [qA1, Act.put, List.setIfInBounds_toArray, List.set_cons_zero, List.set_cons_succ]; rfl)) (hJ4_7_12 (v118, v121, gb131) _ ⟨hHeld, (KS_ HO109.out), (KS_ HO115.out), (KN_ HO122.out), (KB_ BK101.out), (KB_ BK102.out), (KB_ BK103.out), (KB_ BK110.out), (KB_ BK116.out), (KB_ BK131.out), GW131.out, GE131.out, NB101_131.out, NB131_101.out, NB102_131.out, NB131_102.out, NB103_131.out, NB131_103.out, NB110_131.out, NB131_110.out, NB116_131.out, NB131_116.out, (Bw6_ HB.out GE101.out GE102.out GE103.out GE110.out GE116.out GE131.out)⟩)
       skip
       rintro ⟨v118, v121⟩ w35 ⟨hS_, h0_, h1_, h2_, h3_, h4_, h5_, h6_, h7_, h8_⟩
       have HO122 : Zz (Kd.N (Kd.slice 2 (Kd.int .i64)) 25 w35 w.heap.size (fun k_ => some k_ ≠ (.slice Ao29 t113.length co29 : Value).ownBlock ∧ k_ ≠ gb101 ∧ k_ ≠ gb102 ∧ k_ ≠ gb103 ∧ k_ ≠ gb110 ∧ k_ ≠ gb116) v121 y120) := ⟨h2_⟩
       replace HO109 : Zz (Kd.S (Kd.slice 2 (Kd.int .i64)) 25 w35 w.heap.size (fun k_ => some k_ ≠ (.slice Ao29 t113.length co29 : Value).ownBlock ∧ some k_ ≠ (v121 : Value).ownBlock) (.slice Ao21 t107.length co21) t107) := ⟨h0_⟩
       replace HO115 : Zz (Kd.S (Kd.slice 2 (Kd.int .i64)) 25 w35 w.heap.size (fun k_ => some k_ ≠ (.slice Ao21 t107.length co21 : Value).ownBlock ∧ some k_ ≠ (v121 : Value).ownBlock) (.slice Ao29 t113.length co29) t113) := ⟨h1_⟩
       replace BK101 : Zz (w35.heap[gb101]? = some (.cells #[.int .i64 a0_0, .int .i64 a0_1, .slice A0_2 l0_2.length c0_2] 29 (0, 0))) := ⟨h3_⟩
       replace BK102 : Zz (w35.heap[gb102]? = some (.cells #[.int .i64 a1_0, .int .i64 a1_1, .slice A1_2 l1_2.length c1_2] 29 (0, 0))) := ⟨h4_⟩
       replace BK103 : Zz (w35.heap[gb103]? = some (.cells #[.int .i64 0, .int .i64 0, .slice none 0 0] 29 (0, 0))) := ⟨h5_⟩
       replace BK110 : Zz (w35.heap[gb110]? = some (.cells #[.int .i64 t105, .int .i64 t106, .slice Ao21 t107.length co21] 29 (0, 0))) := ⟨h6_⟩
       replace BK116 : Zz (w35.heap[gb116]? = some (.cells #[.int .i64 t111, .int .i64 t112, .slice Ao29 t113.length co29] 29 (0, 0))) := ⟨h7_⟩
       replace HB : Zz (Below w.heap.size w w35) := ⟨h8_⟩
       (try clear h0_)
       (try clear h1_)
       (try clear h2_)
       (try clear h3_)
       (try clear h4_)
       (try clear h5_)
       (try clear h6_)
       (try clear h7_)
       (try clear h8_)
       have hHeld : w35.cell? ⟨gb101, 0, none⟩ = some (.int .i64 a0_0) ∧ w35.cell? ⟨gb101, 1, none⟩ = some (.int .i64 a0_1) ∧ w35.cell? ⟨gb101, 2, none⟩ = some (.slice A0_2 l0_2.length c0_2) ∧ w35.cell? ⟨gb110, 0, none⟩ = some (.int .i64 t105) ∧ w35.cell? ⟨gb110, 1, none⟩ = some (.int .i64 t106) ∧ w35.cell? ⟨gb110, 2, none⟩ = some (.slice Ao21 t107.length co21) ∧ w35.cell? ⟨gb116, 0, none⟩ = some (.int .i64 t111) ∧ w35.cell? ⟨gb116, 1, none⟩ = some (.int .i64 t112) ∧ w35.cell? ⟨gb116, 2, none⟩ = some (.slice Ao29 t113.length co29) := hS_
       refine qBf (a' := ?_) ?_ ?_
       rotate_left
       ·simp only [qA1, Act.put, List.setIfInBounds_toArray, List.set_cons_zero, List.set_cons_succ]
        rfl
       refine two_ (i := 10) (j := 12) (Ni := some 27) (Nj := some 9) (tb_ 14 2047) (tb_ 14 5119) rfl rfl rfl rfl (qB3 HT_.out (by kernel_rfl)) (by decide) (by decide) (fun K hK => ?_) (fun K hK => ?_)
       ·skip
        refine Kd.N_append_rows_step (Kd.slice 2 (Kd.int .i64)) (w0 := w) w.heap.size (by rfl) (.tmp 24) (.tmp 26) 22 25 (.slice none 0 0) 24 rfl Try.underlying22 qB6 rfl (by decide) (by omega) v121 y120 t113 _ _ _ (fun k_ => k_ ≠ gb101 ∧ k_ ≠ gb102 ∧ k_ ≠ gb103 ∧ k_ ≠ gb110 ∧ k_ ≠ gb116) (fun k_ => ((fun k_ => k_ ≠ gb101 ∧ k_ ≠ gb102 ∧ k_ ≠ gb103 ∧ k_ ≠ gb110 ∧ k_ ≠ gb116)) k_ ∧ some k_ ≠ (v121 : Value).ownBlock) rfl rfl ?aO ?aR (fun _ hk => hk) ?aF ?aB ?aS ?aL ?_
        (case aR => exact (by skip; exact Kd.S_F (Kd.S_mono (ok' := (fun k_ => ((fun k_ => k_ ≠ gb101 ∧ k_ ≠ gb102 ∧ k_ ≠ gb103 ∧ k_ ≠ gb110 ∧ k_ ≠ gb116)) k_ ∧ some k_ ≠ (v121 : Value).ownBlock)) (Kd.S_types (Kd.S_types (Kd.S_types (Kd.S_types (Kd.S_types (HO115.out) BK101.out (by decide)) BK102.out (by decide)) BK103.out (by decide)) BK110.out (by decide)) BK116.out (by decide)) (fun k_ hk => ⟨⟨hk.1.1.1.1.2, ⟨hk.1.1.1.2, ⟨hk.1.1.2, ⟨hk.1.2, hk.2⟩⟩⟩⟩, hk.1.1.1.1.1.2⟩))))
        (case aB => exact (Bw5_ HB.out GE101.out GE102.out GE103.out GE110.out GE116.out))
        (case aF => exact (fun k_ hk => ⟨Kd.freshB (g := gb101) (o := .cells #[.int .i64 a0_0, .int .i64 a0_1, .slice A0_2 l0_2.length c0_2] 29 (0, 0)) (KB_ BK101.out) k_ hk, Kd.freshB (g := gb102) (o := .cells #[.int .i64 a1_0, .int .i64 a1_1, .slice A1_2 l1_2.length c1_2] 29 (0, 0)) (KB_ BK102.out) k_ hk, Kd.freshB (g := gb103) (o := .cells #[.int .i64 0, .int .i64 0, .slice none 0 0] 29 (0, 0)) (KB_ BK103.out) k_ hk, Kd.freshB (g := gb110) (o := .cells #[.int .i64 t105, .int .i64 t106, .slice Ao21 t107.length co21] 29 (0, 0)) (KB_ BK110.out) k_ hk, Kd.freshB (g := gb116) (o := .cells #[.int .i64 t111, .int .i64 t112, .slice Ao29 t113.length co29] 29 (0, 0)) (KB_ BK116.out) k_ hk⟩))
        (case aO => exact (by refine NW_ ?_; exact Kd.N_mono HO122.out (fun _ hk => pj_ hk)))
        (case aS => exact (bS_ (Bw5_ HB.out GE101.out GE102.out GE103.out GE110.out GE116.out)))
        (case aL => have := LMc8.out; omega)
        intro v124 w36 ho hb hg hat
        rw [← Ny123.out] at ho
        replace BK101 := Zz.mk (qAt (g := gb101) (o := .cells #[.int .i64 a0_0, .int .i64 a0_1, .slice A0_2 l0_2.length c0_2] 29 (0, 0)) (KB_ BK101.out) hg (Kd.N_ne HO122.out BK101.out (by decide)))
        replace BK102 := Zz.mk (qAt (g := gb102) (o := .cells #[.int .i64 a1_0, .int .i64 a1_1, .slice A1_2 l1_2.length c1_2] 29 (0, 0)) (KB_ BK102.out) hg (Kd.N_ne HO122.out BK102.out (by decide)))
        replace BK103 := Zz.mk (qAt (g := gb103) (o := .cells #[.int .i64 0, .int .i64 0, .slice none 0 0] 29 (0, 0)) (KB_ BK103.out) hg (Kd.N_ne HO122.out BK103.out (by decide)))
        replace HO109 := Zz.mk (Kd.S_after (ok := (fun k_ => some k_ ≠ (.slice Ao29 t113.length co29 : Value).ownBlock)) (KS_ HO109.out) hg hat)
        replace BK110 := Zz.mk (qAt (g := gb110) (o := .cells #[.int .i64 t105, .int .i64 t106, .slice Ao21 t107.length co21] 29 (0, 0)) (KB_ BK110.out) hg (Kd.N_ne HO122.out BK110.out (by decide)))
        replace HO115 := Zz.mk (Kd.S_after (ok := (fun k_ => some k_ ≠ (.slice Ao21 t107.length co21 : Value).ownBlock)) (KS_ HO115.out) hg hat)
        replace BK116 := Zz.mk (qAt (g := gb116) (o := .cells #[.int .i64 t111, .int .i64 t112, .slice Ao29 t113.length co29] 29 (0, 0)) (KB_ BK116.out) hg (Kd.N_ne HO122.out BK116.out (by decide)))
        replace HB := Zz.mk (hb)
        have HO125 := Zz.mk (ho)
        clear HO122
        clear ho hb hg hat
        refine hK.out _ _ (Z3a_ BK101.out (Z3a_ BK110.out (Z3_ BK116.out))) (fun hHeld => ?_)
        clear hK K
        refine NM_ (N := (some 27)) (h := ?_)
        exact qBf (by first | (simp only [qA1, Act.put, List.setIfInBounds_toArray, List.set_cons_zero, List.set_cons_succ]; done) | (simp only [qA1, Act.put, List.setIfInBounds_toArray, List.set_cons_zero, List.set_cons_succ]; rfl)) (hJ4_7_10 (v118, v121, v124) _ ⟨hHeld, (KS_ HO109.out), (KS_ HO115.out), (KN_ HO125.out), (KB_ BK101.out), (KB_ BK102.out), (KB_ BK103.out), (KB_ BK110.out), (KB_ BK116.out), (Bw5_ HB.out GE101.out GE102.out GE103.out GE110.out GE116.out)⟩)
       skip
       refine by_ 9 #[.int .i64 0, .int .i64 0, .slice none 0 0] 29 ?_
       intro gb131 hg w36 hbox hb
       have BK131 := Zz.mk (hbox)
       have GW131 := Zz.mk ((gw_ hg (Bw5_ HB.out GE101.out GE102.out GE103.out GE110.out GE116.out)))
       have GE131 := GW131
       have NB101_131 := Zz.mk ((nb_ BK101.out hg))
       have NB131_101 := Zz.mk NB101_131.out.symm
       have NB102_131 := Zz.mk ((nb_ BK102.out hg))
       have NB131_102 := Zz.mk NB102_131.out.symm
       have NB103_131 := Zz.mk ((nb_ BK103.out hg))
       have NB131_103 := Zz.mk NB103_131.out.symm
       have NB110_131 := Zz.mk ((nb_ BK110.out hg))
       have NB131_110 := Zz.mk NB110_131.out.symm
       have NB116_131 := Zz.mk ((nb_ BK116.out hg))
       have NB131_116 := Zz.mk NB116_131.out.symm
       replace HO109 := Zz.mk (Kd.S_below (KS_ HO109.out) hb)
       replace HO115 := Zz.mk (Kd.S_below (KS_ HO115.out) hb)
       replace HO122 := Zz.mk (Kd.N_below (Kd.N_elderB (KN_ HO122.out) gb131 (Nat.le_of_eq hg.symm)) hb)
       replace BK101 := Zz.mk (kb_ BK101.out hb)
       replace BK102 := Zz.mk (kb_ BK102.out hb)
       replace BK103 := Zz.mk (kb_ BK103.out hb)
       replace BK110 := Zz.mk (kb_ BK110.out hb)
       replace BK116 := Zz.mk (kb_ BK116.out hb)
       replace HB := Zz.mk (bT_ (Bw5_ HB.out GE101.out GE102.out GE103.out GE110.out GE116.out) hb)
       clear hb hbox hg
       refine hK.out _ _ (Z3a_ BK101.out (Z3a_ BK110.out (Z3_ BK116.out))) (fun hHeld => ?_)
       clear hK K
       refine NM_ (N := (some 9)) (h := ?_)
       exact qBf (by first | (simp only [qA1, Act.put, List.setIfInBounds_toArray, List.set_cons_zero, List.set_cons_succ]; done) | (simp only [qA1, Act.put, List.setIfInBounds_toArray, List.set_cons_zero, List.set_cons_succ]; rfl)) (hJ4_7_12 (v118, v121, gb131) _ ⟨hHeld, (KS_ HO109.out), (KS_ HO115.out), (by refine NW_ ?_; exact Kd.N_mono HO122.out (fun _ hk => pj_ hk)), (KB_ BK101.out), (KB_ BK102.out), (KB_ BK103.out), (KB_ BK110.out), (KB_ BK116.out), (KB_ BK131.out), GW131.out, GE131.out, NB101_131.out, NB131_101.out, NB102_131.out, NB131_102.out, NB103_131.out, NB131_103.out, NB110_131.out, NB131_110.out, NB116_131.out, NB131_116.out, (Bw6_ HB.out GE101.out GE102.out GE103.out GE110.out GE116.out GE131.out)⟩)
      skip
      rintro ⟨v118, v121, gb131⟩ w36 ⟨hS_, h0_, h1_, h2_, h3_, h4_, h5_, h6_, h7_, h8_, h9_, h10_, h11_, h12_, h13_, h14_, h15_, h16_, h17_, h18_, h19_, h20_, h21_⟩
      have HO122 : Zz (Kd.N (Kd.slice 2 (Kd.int .i64)) 25 w36 w.heap.size (fun k_ => some k_ ≠ (.slice Ao29 t113.length co29 : Value).ownBlock ∧ k_ ≠ gb101 ∧ k_ ≠ gb102 ∧ k_ ≠ gb103 ∧ k_ ≠ gb110 ∧ k_ ≠ gb116 ∧ k_ ≠ gb131) v121 y120) := ⟨h2_⟩
      have BK131 : Zz (w36.heap[gb131]? = some (.cells #[.int .i64 0, .int .i64 0, .slice none 0 0] 29 (0, 0))) := ⟨h8_⟩
      have GW131 : Zz (w.heap.size ≤ gb131) := ⟨h9_⟩
      have GE131 : Zz (w.heap.size ≤ gb131) := ⟨h10_⟩
      have NB101_131 : Zz (gb101 ≠ gb131) := ⟨h11_⟩
      have NB131_101 : Zz (gb131 ≠ gb101) := ⟨h12_⟩
      have NB102_131 : Zz (gb102 ≠ gb131) := ⟨h13_⟩
      have NB131_102 : Zz (gb131 ≠ gb102) := ⟨h14_⟩
      have NB103_131 : Zz (gb103 ≠ gb131) := ⟨h15_⟩
      have NB131_103 : Zz (gb131 ≠ gb103) := ⟨h16_⟩
      have NB110_131 : Zz (gb110 ≠ gb131) := ⟨h17_⟩
      have NB131_110 : Zz (gb131 ≠ gb110) := ⟨h18_⟩
      have NB116_131 : Zz (gb116 ≠ gb131) := ⟨h19_⟩
      have NB131_116 : Zz (gb131 ≠ gb116) := ⟨h20_⟩
      replace HO109 : Zz (Kd.S (Kd.slice 2 (Kd.int .i64)) 25 w36 w.heap.size (fun k_ => some k_ ≠ (.slice Ao29 t113.length co29 : Value).ownBlock ∧ some k_ ≠ (v121 : Value).ownBlock) (.slice Ao21 t107.length co21) t107) := ⟨h0_⟩
      replace HO115 : Zz (Kd.S (Kd.slice 2 (Kd.int .i64)) 25 w36 w.heap.size (fun k_ => some k_ ≠ (.slice Ao21 t107.length co21 : Value).ownBlock ∧ some k_ ≠ (v121 : Value).ownBlock) (.slice Ao29 t113.length co29) t113) := ⟨h1_⟩
      replace BK101 : Zz (w36.heap[gb101]? = some (.cells #[.int .i64 a0_0, .int .i64 a0_1, .slice A0_2 l0_2.length c0_2] 29 (0, 0))) := ⟨h3_⟩
      replace BK102 : Zz (w36.heap[gb102]? = some (.cells #[.int .i64 a1_0, .int .i64 a1_1, .slice A1_2 l1_2.length c1_2] 29 (0, 0))) := ⟨h4_⟩
      replace BK103 : Zz (w36.heap[gb103]? = some (.cells #[.int .i64 0, .int .i64 0, .slice none 0 0] 29 (0, 0))) := ⟨h5_⟩
      replace BK110 : Zz (w36.heap[gb110]? = some (.cells #[.int .i64 t105, .int .i64 t106, .slice Ao21 t107.length co21] 29 (0, 0))) := ⟨h6_⟩
      replace BK116 : Zz (w36.heap[gb116]? = some (.cells #[.int .i64 t111, .int .i64 t112, .slice Ao29 t113.length co29] 29 (0, 0))) := ⟨h7_⟩
      replace HB : Zz (Below w.heap.size w w36) := ⟨h21_⟩
      (try clear h0_)
      (try clear h1_)
      (try clear h2_)
      (try clear h3_)
      (try clear h4_)
      (try clear h5_)
      (try clear h6_)
      (try clear h7_)
      (try clear h8_)
      (try clear h9_)
      (try clear h10_)
      (try clear h11_)
      (try clear h12_)
      (try clear h13_)
      (try clear h14_)
      (try clear h15_)
      (try clear h16_)
      (try clear h17_)
      (try clear h18_)
      (try clear h19_)
      (try clear h20_)
      (try clear h21_)
      have hHeld : w36.cell? ⟨gb101, 0, none⟩ = some (.int .i64 a0_0) ∧ w36.cell? ⟨gb101, 1, none⟩ = some (.int .i64 a0_1) ∧ w36.cell? ⟨gb101, 2, none⟩ = some (.slice A0_2 l0_2.length c0_2) ∧ w36.cell? ⟨gb110, 0, none⟩ = some (.int .i64 t105) ∧ w36.cell? ⟨gb110, 1, none⟩ = some (.int .i64 t106) ∧ w36.cell? ⟨gb110, 2, none⟩ = some (.slice Ao21 t107.length co21) ∧ w36.cell? ⟨gb116, 0, none⟩ = some (.int .i64 t111) ∧ w36.cell? ⟨gb116, 1, none⟩ = some (.int .i64 t112) ∧ w36.cell? ⟨gb116, 2, none⟩ = some (.slice Ao29 t113.length co29) := hS_
      refine qBf (a' := ?_) ?_ ?_
      rotate_left
      ·simp only [qA1, Act.put, List.setIfInBounds_toArray, List.set_cons_zero, List.set_cons_succ]
       rfl
      refine one_ (i := 10) (N := some 27) (tb_ 14 6143) rfl rfl (qAr HT_.out (by kernel_rfl)) (by decide) (fun K hK => ?_)
      refine Kd.N_append_rows_step (Kd.slice 2 (Kd.int .i64)) (w0 := w) w.heap.size (by rfl) (.tmp 24) (.tmp 26) 22 25 (.slice none 0 0) 24 rfl Try.underlying22 qB6 rfl (by decide) (by omega) v121 y120 t113 _ _ _ (fun k_ => k_ ≠ gb101 ∧ k_ ≠ gb102 ∧ k_ ≠ gb103 ∧ k_ ≠ gb110 ∧ k_ ≠ gb116 ∧ k_ ≠ gb131) (fun k_ => ((fun k_ => k_ ≠ gb101 ∧ k_ ≠ gb102 ∧ k_ ≠ gb103 ∧ k_ ≠ gb110 ∧ k_ ≠ gb116 ∧ k_ ≠ gb131)) k_ ∧ some k_ ≠ (v121 : Value).ownBlock) rfl rfl ?aO ?aR (fun _ hk => hk) ?aF ?aB ?aS ?aL ?_
      (case aR => exact (by skip; exact Kd.S_F (Kd.S_mono (ok' := (fun k_ => ((fun k_ => k_ ≠ gb101 ∧ k_ ≠ gb102 ∧ k_ ≠ gb103 ∧ k_ ≠ gb110 ∧ k_ ≠ gb116 ∧ k_ ≠ gb131)) k_ ∧ some k_ ≠ (v121 : Value).ownBlock)) (Kd.S_types (Kd.S_types (Kd.S_types (Kd.S_types (Kd.S_types (Kd.S_types (HO115.out) BK101.out (by decide)) BK102.out (by decide)) BK103.out (by decide)) BK110.out (by decide)) BK116.out (by decide)) BK131.out (by decide)) (fun k_ hk => ⟨⟨hk.1.1.1.1.1.2, ⟨hk.1.1.1.1.2, ⟨hk.1.1.1.2, ⟨hk.1.1.2, ⟨hk.1.2, hk.2⟩⟩⟩⟩⟩, hk.1.1.1.1.1.1.2⟩))))
      (case aB => exact (Bw6_ HB.out GE101.out GE102.out GE103.out GE110.out GE116.out GE131.out))
      (case aF => exact (fun k_ hk => ⟨Kd.freshB (g := gb101) (o := .cells #[.int .i64 a0_0, .int .i64 a0_1, .slice A0_2 l0_2.length c0_2] 29 (0, 0)) (KB_ BK101.out) k_ hk, Kd.freshB (g := gb102) (o := .cells #[.int .i64 a1_0, .int .i64 a1_1, .slice A1_2 l1_2.length c1_2] 29 (0, 0)) (KB_ BK102.out) k_ hk, Kd.freshB (g := gb103) (o := .cells #[.int .i64 0, .int .i64 0, .slice none 0 0] 29 (0, 0)) (KB_ BK103.out) k_ hk, Kd.freshB (g := gb110) (o := .cells #[.int .i64 t105, .int .i64 t106, .slice Ao21 t107.length co21] 29 (0, 0)) (KB_ BK110.out) k_ hk, Kd.freshB (g := gb116) (o := .cells #[.int .i64 t111, .int .i64 t112, .slice Ao29 t113.length co29] 29 (0, 0)) (KB_ BK116.out) k_ hk, Kd.freshB (g := gb131) (o := .cells #[.int .i64 0, .int .i64 0, .slice none 0 0] 29 (0, 0)) (KB_ BK131.out) k_ hk⟩))
      (case aO => exact (by refine NW_ ?_; exact Kd.N_mono HO122.out (fun _ hk => pj_ hk)))
      (case aS => exact (bS_ (Bw6_ HB.out GE101.out GE102.out GE103.out GE110.out GE116.out GE131.out)))
      (case aL => have := LMc8.out; omega)
      intro v124 w37 ho hb hg hat
      rw [← Ny123.out] at ho
      replace BK101 := Zz.mk (qAt (g := gb101) (o := .cells #[.int .i64 a0_0, .int .i64 a0_1, .slice A0_2 l0_2.length c0_2] 29 (0, 0)) (KB_ BK101.out) hg (Kd.N_ne HO122.out BK101.out (by decide)))
      replace BK102 := Zz.mk (qAt (g := gb102) (o := .cells #[.int .i64 a1_0, .int .i64 a1_1, .slice A1_2 l1_2.length c1_2] 29 (0, 0)) (KB_ BK102.out) hg (Kd.N_ne HO122.out BK102.out (by decide)))
      replace BK103 := Zz.mk (qAt (g := gb103) (o := .cells #[.int .i64 0, .int .i64 0, .slice none 0 0] 29 (0, 0)) (KB_ BK103.out) hg (Kd.N_ne HO122.out BK103.out (by decide)))
      replace HO109 := Zz.mk (Kd.S_after (ok := (fun k_ => some k_ ≠ (.slice Ao29 t113.length co29 : Value).ownBlock)) (KS_ HO109.out) hg hat)
      replace BK110 := Zz.mk (qAt (g := gb110) (o := .cells #[.int .i64 t105, .int .i64 t106, .slice Ao21 t107.length co21] 29 (0, 0)) (KB_ BK110.out) hg (Kd.N_ne HO122.out BK110.out (by decide)))
      replace HO115 := Zz.mk (Kd.S_after (ok := (fun k_ => some k_ ≠ (.slice Ao21 t107.length co21 : Value).ownBlock)) (KS_ HO115.out) hg hat)
      replace BK116 := Zz.mk (qAt (g := gb116) (o := .cells #[.int .i64 t111, .int .i64 t112, .slice Ao29 t113.length co29] 29 (0, 0)) (KB_ BK116.out) hg (Kd.N_ne HO122.out BK116.out (by decide)))
      replace BK131 := Zz.mk (qAt (g := gb131) (o := .cells #[.int .i64 0, .int .i64 0, .slice none 0 0] 29 (0, 0)) (KB_ BK131.out) hg (Kd.N_ne HO122.out BK131.out (by decide)))
      replace HB := Zz.mk (hb)
      have HO125 := Zz.mk (ho)
      clear HO122
      clear ho hb hg hat
      refine hK.out _ _ (Z3a_ BK101.out (Z3a_ BK110.out (Z3_ BK116.out))) (fun hHeld => ?_)
      clear hK K
      refine NM_ (N := (some 27)) (h := ?_)
      exact qBf (by first | (simp only [qA1, Act.put, List.setIfInBounds_toArray, List.set_cons_zero, List.set_cons_succ]; done) | (simp only [qA1, Act.put, List.setIfInBounds_toArray, List.set_cons_zero, List.set_cons_succ]; rfl)) (hJ4_7_10_12 (v118, v121, v124, gb131) _ ⟨hHeld, (KS_ HO109.out), (KS_ HO115.out), (KN_ HO125.out), (KB_ BK101.out), (KB_ BK102.out), (KB_ BK103.out), (KB_ BK110.out), (KB_ BK116.out), (KB_ BK131.out), GW131.out, GE131.out, NB101_131.out, NB131_101.out, NB102_131.out, NB131_102.out, NB103_131.out, NB131_103.out, NB110_131.out, NB131_110.out, NB116_131.out, NB131_116.out, (Bw6_ HB.out GE101.out GE102.out GE103.out GE110.out GE116.out GE131.out)⟩)
     skip
     rintro ⟨v118, v121, v124⟩ w36 ⟨hS_, h0_, h1_, h2_, h3_, h4_, h5_, h6_, h7_, h8_⟩
     have HO125 : Zz (Kd.N (Kd.slice 2 (Kd.int .i64)) 25 w36 w.heap.size (fun k_ => k_ ≠ gb101 ∧ k_ ≠ gb102 ∧ k_ ≠ gb103 ∧ k_ ≠ gb110 ∧ k_ ≠ gb116) v124 y123) := ⟨h2_⟩
     replace HO109 : Zz (Kd.S (Kd.slice 2 (Kd.int .i64)) 25 w36 w.heap.size (fun k_ => some k_ ≠ (.slice Ao29 t113.length co29 : Value).ownBlock ∧ some k_ ≠ (v124 : Value).ownBlock) (.slice Ao21 t107.length co21) t107) := ⟨h0_⟩
     replace HO115 : Zz (Kd.S (Kd.slice 2 (Kd.int .i64)) 25 w36 w.heap.size (fun k_ => some k_ ≠ (.slice Ao21 t107.length co21 : Value).ownBlock ∧ some k_ ≠ (v124 : Value).ownBlock) (.slice Ao29 t113.length co29) t113) := ⟨h1_⟩
     replace BK101 : Zz (w36.heap[gb101]? = some (.cells #[.int .i64 a0_0, .int .i64 a0_1, .slice A0_2 l0_2.length c0_2] 29 (0, 0))) := ⟨h3_⟩
     replace BK102 : Zz (w36.heap[gb102]? = some (.cells #[.int .i64 a1_0, .int .i64 a1_1, .slice A1_2 l1_2.length c1_2] 29 (0, 0))) := ⟨h4_⟩
     replace BK103 : Zz (w36.heap[gb103]? = some (.cells #[.int .i64 0, .int .i64 0, .slice none 0 0] 29 (0, 0))) := ⟨h5_⟩
     replace BK110 : Zz (w36.heap[gb110]? = some (.cells #[.int .i64 t105, .int .i64 t106, .slice Ao21 t107.length co21] 29 (0, 0))) := ⟨h6_⟩
     replace BK116 : Zz (w36.heap[gb116]? = some (.cells #[.int .i64 t111, .int .i64 t112, .slice Ao29 t113.length co29] 29 (0, 0))) := ⟨h7_⟩
     replace HB : Zz (Below w.heap.size w w36) := ⟨h8_⟩
     (try clear h0_)
     (try clear h1_)
     (try clear h2_)
     (try clear h3_)
     (try clear h4_)
     (try clear h5_)
     (try clear h6_)
     (try clear h7_)
     (try clear h8_)
     have hHeld : w36.cell? ⟨gb101, 0, none⟩ = some (.int .i64 a0_0) ∧ w36.cell? ⟨gb101, 1, none⟩ = some (.int .i64 a0_1) ∧ w36.cell? ⟨gb101, 2, none⟩ = some (.slice A0_2 l0_2.length c0_2) ∧ w36.cell? ⟨gb110, 0, none⟩ = some (.int .i64 t105) ∧ w36.cell? ⟨gb110, 1, none⟩ = some (.int .i64 t106) ∧ w36.cell? ⟨gb110, 2, none⟩ = some (.slice Ao21 t107.length co21) ∧ w36.cell? ⟨gb116, 0, none⟩ = some (.int .i64 t111) ∧ w36.cell? ⟨gb116, 1, none⟩ = some (.int .i64 t112) ∧ w36.cell? ⟨gb116, 2, none⟩ = some (.slice Ao29 t113.length co29) := hS_
     obtain ⟨Ao37, co37, eo37⟩ := Kd.N_slice HO125.out
     (first | subst eo37 | obtain ⟨rfl, rfl⟩ := sl_ eo37)
     refine qBf (a' := ?_) ?_ ?_
     rotate_left
     ·simp only [qA1, Act.put, List.setIfInBounds_toArray, List.set_cons_zero, List.set_cons_succ]
      rfl
     refine two_ (i := 11) (j := 12) (Ni := some 28) (Nj := some 9) (tb_ 14 4095) (tb_ 14 6143) rfl rfl rfl rfl (qB3 HT_.out (by kernel_rfl)) (by decide) (by decide) (fun K hK => ?_) (fun K hK => ?_)
     ·skip
      refine GO_ Try.func62 #[.int .i64 a0_0, .int .i64 a0_1, .slice Ao37 y123.length co37] (h := ?_)
      with_reducible refine (z62.calls k a0_0 a0_1 _ _ y123 t126 t127 t128 _ ?side1 ?side2 A9.out).mono ?_
      (case side1 => exact KC_ (Kd.N_reads' HO125.out).2.2)
      (case side2 => exact (Kd.N_reads' HO125.out).2.1)
      rintro e w38 ⟨v129, rfl, ho0, hb⟩
      refine ⟨_, rfl, ?_⟩
      have HO130 := Zz.mk (Kd.S_lower (Kd.S_new' (Kd.S_new' (Kd.S_new' ho0 (Kd.S_lt (KS_ HO109.out))) (Kd.S_lt (KS_ HO115.out))) (Kd.N_lt (KN_ HO125.out))) (bS_ (Bw5_ HB.out GE101.out GE102.out GE103.out GE110.out GE116.out)))
      replace HO109 := Zz.mk (Kd.S_elder' (KS_ HO109.out) (Kd.S_base ho0) hb)
      replace HO115 := Zz.mk (Kd.S_elder' (KS_ HO115.out) (Kd.S_base ho0) hb)
      replace HO125 := Zz.mk (Kd.N_elder' (KN_ HO125.out) (Kd.S_base ho0) hb)
      replace BK101 := Zz.mk (kb_ BK101.out hb)
      replace BK102 := Zz.mk (kb_ BK102.out hb)
      replace BK103 := Zz.mk (kb_ BK103.out hb)
      replace BK110 := Zz.mk (kb_ BK110.out hb)
      replace BK116 := Zz.mk (kb_ BK116.out hb)
      replace HB := Zz.mk (bT_ (Bw5_ HB.out GE101.out GE102.out GE103.out GE110.out GE116.out) hb)
      (try clear hb);(try clear hk);(try clear ho0)
      refine hK.out _ _ (Z3a_ BK101.out (Z3a_ BK110.out (Z3_ BK116.out))) (fun hHeld => ?_)
      clear hK K
      refine NM_ (N := (some 28)) (h := ?_)
      exact qBf (by first | (simp only [qA1, Act.put, List.setIfInBounds_toArray, List.set_cons_zero, List.set_cons_succ]; done) | (simp only [qA1, Act.put, List.setIfInBounds_toArray, List.set_cons_zero, List.set_cons_succ]; rfl)) (hJ4_7_10_11 (v118, v121, .slice Ao37 y123.length co37, v129) _ ⟨hHeld, (by refine SW_ ?_; exact Kd.S_mono HO109.out (fun _ hk => ⟨hk.1.1, ⟨hk.1.2, hk.2⟩⟩)), (by refine SW_ ?_; exact Kd.S_mono HO115.out (fun _ hk => ⟨hk.1.1, ⟨hk.1.2, hk.2⟩⟩)), (by refine NW_ ?_; exact Kd.N_mono HO125.out (fun _ hk => pj_ hk)), (by refine SW_ ?_; exact Kd.S_mono HO130.out (fun _ hk => ⟨hk.1.1.2, ⟨hk.1.2, hk.2⟩⟩)), (KB_ BK101.out), (KB_ BK102.out), (KB_ BK103.out), (KB_ BK110.out), (KB_ BK116.out), (Bw5_ HB.out GE101.out GE102.out GE103.out GE110.out GE116.out)⟩)
     skip
     refine by_ 9 #[.int .i64 0, .int .i64 0, .slice none 0 0] 29 ?_
     intro gb131 hg w37 hbox hb
     have BK131 := Zz.mk (hbox)
     have GW131 := Zz.mk ((gw_ hg (Bw5_ HB.out GE101.out GE102.out GE103.out GE110.out GE116.out)))
     have GE131 := GW131
     have NB101_131 := Zz.mk ((nb_ BK101.out hg))
     have NB131_101 := Zz.mk NB101_131.out.symm
     have NB102_131 := Zz.mk ((nb_ BK102.out hg))
     have NB131_102 := Zz.mk NB102_131.out.symm
     have NB103_131 := Zz.mk ((nb_ BK103.out hg))
     have NB131_103 := Zz.mk NB103_131.out.symm
     have NB110_131 := Zz.mk ((nb_ BK110.out hg))
     have NB131_110 := Zz.mk NB110_131.out.symm
     have NB116_131 := Zz.mk ((nb_ BK116.out hg))
     have NB131_116 := Zz.mk NB116_131.out.symm
     replace HO109 := Zz.mk (Kd.S_below (KS_ HO109.out) hb)
     replace HO115 := Zz.mk (Kd.S_below (KS_ HO115.out) hb)
     replace HO125 := Zz.mk (Kd.N_below (Kd.N_elderB (KN_ HO125.out) gb131 (Nat.le_of_eq hg.symm)) hb)
     replace BK101 := Zz.mk (kb_ BK101.out hb)
     replace BK102 := Zz.mk (kb_ BK102.out hb)
     replace BK103 := Zz.mk (kb_ BK103.out hb)
     replace BK110 := Zz.mk (kb_ BK110.out hb)
     replace BK116 := Zz.mk (kb_ BK116.out hb)
     replace HB := Zz.mk (bT_ (Bw5_ HB.out GE101.out GE102.out GE103.out GE110.out GE116.out) hb)
     clear hb hbox hg
     refine hK.out _ _ (Z3a_ BK101.out (Z3a_ BK110.out (Z3_ BK116.out))) (fun hHeld => ?_)
     clear hK K
     refine NM_ (N := (some 9)) (h := ?_)
     exact qBf (by first | (simp only [qA1, Act.put, List.setIfInBounds_toArray, List.set_cons_zero, List.set_cons_succ]; done) | (simp only [qA1, Act.put, List.setIfInBounds_toArray, List.set_cons_zero, List.set_cons_succ]; rfl)) (hJ4_7_10_12 (v118, v121, .slice Ao37 y123.length co37, gb131) _ ⟨hHeld, (KS_ HO109.out), (KS_ HO115.out), (by refine NW_ ?_; exact Kd.N_mono HO125.out (fun _ hk => pj_ hk)), (KB_ BK101.out), (KB_ BK102.out), (KB_ BK103.out), (KB_ BK110.out), (KB_ BK116.out), (KB_ BK131.out), GW131.out, GE131.out, NB101_131.out, NB131_101.out, NB102_131.out, NB131_102.out, NB103_131.out, NB131_103.out, NB110_131.out, NB131_110.out, NB116_131.out, NB131_116.out, (Bw6_ HB.out GE101.out GE102.out GE103.out GE110.out GE116.out GE131.out)⟩)
    skip
    rintro ⟨v118, v121, v124, gb131⟩ w37 ⟨hS_, h0_, h1_, h2_, h3_, h4_, h5_, h6_, h7_, h8_, h9_, h10_, h11_, h12_, h13_, h14_, h15_, h16_, h17_, h18_, h19_, h20_, h21_⟩
    have HO125 : Zz (Kd.N (Kd.slice 2 (Kd.int .i64)) 25 w37 w.heap.size (fun k_ => k_ ≠ gb101 ∧ k_ ≠ gb102 ∧ k_ ≠ gb103 ∧ k_ ≠ gb110 ∧ k_ ≠ gb116 ∧ k_ ≠ gb131) v124 y123) := ⟨h2_⟩
    have BK131 : Zz (w37.heap[gb131]? = some (.cells #[.int .i64 0, .int .i64 0, .slice none 0 0] 29 (0, 0))) := ⟨h8_⟩
    have GW131 : Zz (w.heap.size ≤ gb131) := ⟨h9_⟩
    have GE131 : Zz (w.heap.size ≤ gb131) := ⟨h10_⟩
    have NB101_131 : Zz (gb101 ≠ gb131) := ⟨h11_⟩
    have NB131_101 : Zz (gb131 ≠ gb101) := ⟨h12_⟩
    have NB102_131 : Zz (gb102 ≠ gb131) := ⟨h13_⟩
    have NB131_102 : Zz (gb131 ≠ gb102) := ⟨h14_⟩
    have NB103_131 : Zz (gb103 ≠ gb131) := ⟨h15_⟩
    have NB131_103 : Zz (gb131 ≠ gb103) := ⟨h16_⟩
    have NB110_131 : Zz (gb110 ≠ gb131) := ⟨h17_⟩
    have NB131_110 : Zz (gb131 ≠ gb110) := ⟨h18_⟩
    have NB116_131 : Zz (gb116 ≠ gb131) := ⟨h19_⟩
    have NB131_116 : Zz (gb131 ≠ gb116) := ⟨h20_⟩
    replace HO109 : Zz (Kd.S (Kd.slice 2 (Kd.int .i64)) 25 w37 w.heap.size (fun k_ => some k_ ≠ (.slice Ao29 t113.length co29 : Value).ownBlock ∧ some k_ ≠ (v124 : Value).ownBlock) (.slice Ao21 t107.length co21) t107) := ⟨h0_⟩
    replace HO115 : Zz (Kd.S (Kd.slice 2 (Kd.int .i64)) 25 w37 w.heap.size (fun k_ => some k_ ≠ (.slice Ao21 t107.length co21 : Value).ownBlock ∧ some k_ ≠ (v124 : Value).ownBlock) (.slice Ao29 t113.length co29) t113) := ⟨h1_⟩
    replace BK101 : Zz (w37.heap[gb101]? = some (.cells #[.int .i64 a0_0, .int .i64 a0_1, .slice A0_2 l0_2.length c0_2] 29 (0, 0))) := ⟨h3_⟩
    replace BK102 : Zz (w37.heap[gb102]? = some (.cells #[.int .i64 a1_0, .int .i64 a1_1, .slice A1_2 l1_2.length c1_2] 29 (0, 0))) := ⟨h4_⟩
    replace BK103 : Zz (w37.heap[gb103]? = some (.cells #[.int .i64 0, .int .i64 0, .slice none 0 0] 29 (0, 0))) := ⟨h5_⟩
    replace BK110 : Zz (w37.heap[gb110]? = some (.cells #[.int .i64 t105, .int .i64 t106, .slice Ao21 t107.length co21] 29 (0, 0))) := ⟨h6_⟩
    replace BK116 : Zz (w37.heap[gb116]? = some (.cells #[.int .i64 t111, .int .i64 t112, .slice Ao29 t113.length co29] 29 (0, 0))) := ⟨h7_⟩
    replace HB : Zz (Below w.heap.size w w37) := ⟨h21_⟩
    (try clear h0_)
    (try clear h1_)
    (try clear h2_)
    (try clear h3_)
    (try clear h4_)
    (try clear h5_)
    (try clear h6_)
    (try clear h7_)
    (try clear h8_)
    (try clear h9_)
    (try clear h10_)
    (try clear h11_)
    (try clear h12_)
    (try clear h13_)
    (try clear h14_)
    (try clear h15_)
    (try clear h16_)
    (try clear h17_)
    (try clear h18_)
    (try clear h19_)
    (try clear h20_)
    (try clear h21_)
    have hHeld : w37.cell? ⟨gb101, 0, none⟩ = some (.int .i64 a0_0) ∧ w37.cell? ⟨gb101, 1, none⟩ = some (.int .i64 a0_1) ∧ w37.cell? ⟨gb101, 2, none⟩ = some (.slice A0_2 l0_2.length c0_2) ∧ w37.cell? ⟨gb110, 0, none⟩ = some (.int .i64 t105) ∧ w37.cell? ⟨gb110, 1, none⟩ = some (.int .i64 t106) ∧ w37.cell? ⟨gb110, 2, none⟩ = some (.slice Ao21 t107.length co21) ∧ w37.cell? ⟨gb116, 0, none⟩ = some (.int .i64 t111) ∧ w37.cell? ⟨gb116, 1, none⟩ = some (.int .i64 t112) ∧ w37.cell? ⟨gb116, 2, none⟩ = some (.slice Ao29 t113.length co29) := hS_
    obtain ⟨Ao38, co38, eo38⟩ := Kd.N_slice HO125.out
    (first | subst eo38 | obtain ⟨rfl, rfl⟩ := sl_ eo38)
    refine qBf (a' := ?_) ?_ ?_
    rotate_left
    ·simp only [qA1, Act.put, List.setIfInBounds_toArray, List.set_cons_zero, List.set_cons_succ]
     rfl
    refine one_ (i := 11) (N := some 28) (tb_ 14 8191) rfl rfl (qAr HT_.out (by kernel_rfl)) (by decide) (fun K hK => ?_)
    refine GO_ Try.func62 #[.int .i64 a0_0, .int .i64 a0_1, .slice Ao38 y123.length co38] (h := ?_)
    with_reducible refine (z62.calls k a0_0 a0_1 _ _ y123 t126 t127 t128 _ ?side1 ?side2 A9.out).mono ?_
    (case side1 => exact KC_ (Kd.N_reads' HO125.out).2.2)
    (case side2 => exact (Kd.N_reads' HO125.out).2.1)
    rintro e w39 ⟨v129, rfl, ho0, hb⟩
    refine ⟨_, rfl, ?_⟩
    have HO130 := Zz.mk (Kd.S_lower (Kd.S_new' (Kd.S_new' (Kd.S_new' ho0 (Kd.S_lt (KS_ HO109.out))) (Kd.S_lt (KS_ HO115.out))) (Kd.N_lt (KN_ HO125.out))) (bS_ (Bw6_ HB.out GE101.out GE102.out GE103.out GE110.out GE116.out GE131.out)))
    replace HO109 := Zz.mk (Kd.S_elder' (KS_ HO109.out) (Kd.S_base ho0) hb)
    replace HO115 := Zz.mk (Kd.S_elder' (KS_ HO115.out) (Kd.S_base ho0) hb)
    replace HO125 := Zz.mk (Kd.N_elder' (KN_ HO125.out) (Kd.S_base ho0) hb)
    replace BK101 := Zz.mk (kb_ BK101.out hb)
    replace BK102 := Zz.mk (kb_ BK102.out hb)
    replace BK103 := Zz.mk (kb_ BK103.out hb)
    replace BK110 := Zz.mk (kb_ BK110.out hb)
    replace BK116 := Zz.mk (kb_ BK116.out hb)
    replace BK131 := Zz.mk (kb_ BK131.out hb)
    replace HB := Zz.mk (bT_ (Bw6_ HB.out GE101.out GE102.out GE103.out GE110.out GE116.out GE131.out) hb)
    (try clear hb);(try clear hk);(try clear ho0)
    refine hK.out _ _ (Z3a_ BK101.out (Z3a_ BK110.out (Z3_ BK116.out))) (fun hHeld => ?_)
    clear hK K
    refine NM_ (N := (some 28)) (h := ?_)
    exact qBf (by first | (simp only [qA1, Act.put, List.setIfInBounds_toArray, List.set_cons_zero, List.set_cons_succ]; done) | (simp only [qA1, Act.put, List.setIfInBounds_toArray, List.set_cons_zero, List.set_cons_succ]; rfl)) (hJ4_7_10_11_12 (v118, v121, .slice Ao38 y123.length co38, v129, gb131) _ ⟨hHeld, (by refine SW_ ?_; exact Kd.S_mono HO109.out (fun _ hk => ⟨hk.1.1, ⟨hk.1.2, hk.2⟩⟩)), (by refine SW_ ?_; exact Kd.S_mono HO115.out (fun _ hk => ⟨hk.1.1, ⟨hk.1.2, hk.2⟩⟩)), (by refine NW_ ?_; exact Kd.N_mono HO125.out (fun _ hk => pj_ hk)), (by refine SW_ ?_; exact Kd.S_mono HO130.out (fun _ hk => ⟨hk.1.1.2, ⟨hk.1.2, hk.2⟩⟩)), (KB_ BK101.out), (KB_ BK102.out), (KB_ BK103.out), (KB_ BK110.out), (KB_ BK116.out), (KB_ BK131.out), GW131.out, GE131.out, NB101_131.out, NB131_101.out, NB102_131.out, NB131_102.out, NB103_131.out, NB131_103.out, NB110_131.out, NB131_110.out, NB116_131.out, NB131_116.out, (Bw6_ HB.out GE101.out GE102.out GE103.out GE110.out GE116.out GE131.out)⟩)
   skip
   rintro ⟨v118, v121, v124, v129⟩ w38 ⟨hS_, h0_, h1_, h2_, h3_, h4_, h5_, h6_, h7_, h8_, h9_⟩
   have HO125 : Zz (Kd.N (Kd.slice 2 (Kd.int .i64)) 25 w38 w.heap.size (fun k_ => some k_ ≠ (v129 : Value).ownBlock ∧ k_ ≠ gb101 ∧ k_ ≠ gb102 ∧ k_ ≠ gb103 ∧ k_ ≠ gb110 ∧ k_ ≠ gb116) v124 y123) := ⟨h2_⟩
   have HO130 : Zz (Kd.S (Kd.slice 2 (Kd.int .i64)) 25 w38 w.heap.size (fun k_ => some k_ ≠ (.slice Ao21 t107.length co21 : Value).ownBlock ∧ some k_ ≠ (.slice Ao29 t113.length co29 : Value).ownBlock ∧ some k_ ≠ (v124 : Value).ownBlock) v129 t128) := ⟨h3_⟩
   replace HO109 : Zz (Kd.S (Kd.slice 2 (Kd.int .i64)) 25 w38 w.heap.size (fun k_ => some k_ ≠ (.slice Ao29 t113.length co29 : Value).ownBlock ∧ some k_ ≠ (v124 : Value).ownBlock ∧ some k_ ≠ (v129 : Value).ownBlock) (.slice Ao21 t107.length co21) t107) := ⟨h0_⟩
   replace HO115 : Zz (Kd.S (Kd.slice 2 (Kd.int .i64)) 25 w38 w.heap.size (fun k_ => some k_ ≠ (.slice Ao21 t107.length co21 : Value).ownBlock ∧ some k_ ≠ (v124 : Value).ownBlock ∧ some k_ ≠ (v129 : Value).ownBlock) (.slice Ao29 t113.length co29) t113) := ⟨h1_⟩
   replace BK101 : Zz (w38.heap[gb101]? = some (.cells #[.int .i64 a0_0, .int .i64 a0_1, .slice A0_2 l0_2.length c0_2] 29 (0, 0))) := ⟨h4_⟩
   replace BK102 : Zz (w38.heap[gb102]? = some (.cells #[.int .i64 a1_0, .int .i64 a1_1, .slice A1_2 l1_2.length c1_2] 29 (0, 0))) := ⟨h5_⟩
   replace BK103 : Zz (w38.heap[gb103]? = some (.cells #[.int .i64 0, .int .i64 0, .slice none 0 0] 29 (0, 0))) := ⟨h6_⟩
   replace BK110 : Zz (w38.heap[gb110]? = some (.cells #[.int .i64 t105, .int .i64 t106, .slice Ao21 t107.length co21] 29 (0, 0))) := ⟨h7_⟩
   replace BK116 : Zz (w38.heap[gb116]? = some (.cells #[.int .i64 t111, .int .i64 t112, .slice Ao29 t113.length co29] 29 (0, 0))) := ⟨h8_⟩
   replace HB : Zz (Below w.heap.size w w38) := ⟨h9_⟩
   (try clear h0_)
   (try clear h1_)
   (try clear h2_)
   (try clear h3_)
   (try clear h4_)
   (try clear h5_)
   (try clear h6_)
   (try clear h7_)
   (try clear h8_)
   (try clear h9_)
   have hHeld : w38.cell? ⟨gb101, 0, none⟩ = some (.int .i64 a0_0) ∧ w38.cell? ⟨gb101, 1, none⟩ = some (.int .i64 a0_1) ∧ w38.cell? ⟨gb101, 2, none⟩ = some (.slice A0_2 l0_2.length c0_2) ∧ w38.cell? ⟨gb110, 0, none⟩ = some (.int .i64 t105) ∧ w38.cell? ⟨gb110, 1, none⟩ = some (.int .i64 t106) ∧ w38.cell? ⟨gb110, 2, none⟩ = some (.slice Ao21 t107.length co21) ∧ w38.cell? ⟨gb116, 0, none⟩ = some (.int .i64 t111) ∧ w38.cell? ⟨gb116, 1, none⟩ = some (.int .i64 t112) ∧ w38.cell? ⟨gb116, 2, none⟩ = some (.slice Ao29 t113.length co29) := hS_
   refine qBf (a' := ?_) ?_ ?_
   rotate_left
   ·simp only [qA1, Act.put, List.setIfInBounds_toArray, List.set_cons_zero, List.set_cons_succ]
    rfl
   refine one_ (i := 12) (N := some 9) (tb_ 14 8191) rfl rfl (qAr HT_.out (by kernel_rfl)) (by decide) (fun K hK => ?_)
   refine by_ 9 #[.int .i64 0, .int .i64 0, .slice none 0 0] 29 ?_
   intro gb131 hg w39 hbox hb
   have BK131 := Zz.mk (hbox)
   have GW131 := Zz.mk ((gw_ hg (Bw5_ HB.out GE101.out GE102.out GE103.out GE110.out GE116.out)))
   have GE131 := GW131
   have NB101_131 := Zz.mk ((nb_ BK101.out hg))
   have NB131_101 := Zz.mk NB101_131.out.symm
   have NB102_131 := Zz.mk ((nb_ BK102.out hg))
   have NB131_102 := Zz.mk NB102_131.out.symm
   have NB103_131 := Zz.mk ((nb_ BK103.out hg))
   have NB131_103 := Zz.mk NB103_131.out.symm
   have NB110_131 := Zz.mk ((nb_ BK110.out hg))
   have NB131_110 := Zz.mk NB110_131.out.symm
   have NB116_131 := Zz.mk ((nb_ BK116.out hg))
   have NB131_116 := Zz.mk NB116_131.out.symm
   replace HO109 := Zz.mk (Kd.S_below (KS_ HO109.out) hb)
   replace HO115 := Zz.mk (Kd.S_below (KS_ HO115.out) hb)
   replace HO125 := Zz.mk (Kd.N_below (Kd.N_elderB (KN_ HO125.out) gb131 (Nat.le_of_eq hg.symm)) hb)
   replace HO130 := Zz.mk (Kd.S_below (KS_ HO130.out) hb)
   replace BK101 := Zz.mk (kb_ BK101.out hb)
   replace BK102 := Zz.mk (kb_ BK102.out hb)
   replace BK103 := Zz.mk (kb_ BK103.out hb)
   replace BK110 := Zz.mk (kb_ BK110.out hb)
   replace BK116 := Zz.mk (kb_ BK116.out hb)
   replace HB := Zz.mk (bT_ (Bw5_ HB.out GE101.out GE102.out GE103.out GE110.out GE116.out) hb)
   clear hb hbox hg
   refine hK.out _ _ (Z3a_ BK101.out (Z3a_ BK110.out (Z3_ BK116.out))) (fun hHeld => ?_)
   clear hK K
   refine NM_ (N := (some 9)) (h := ?_)
   exact qBf (by first | (simp only [qA1, Act.put, List.setIfInBounds_toArray, List.set_cons_zero, List.set_cons_succ]; done) | (simp only [qA1, Act.put, List.setIfInBounds_toArray, List.set_cons_zero, List.set_cons_succ]; rfl)) (hJ4_7_10_11_12 (v118, v121, v124, v129, gb131) _ ⟨hHeld, (KS_ HO109.out), (KS_ HO115.out), (by refine NW_ ?_; exact Kd.N_mono HO125.out (fun _ hk => pj_ hk)), (KS_ HO130.out), (KB_ BK101.out), (KB_ BK102.out), (KB_ BK103.out), (KB_ BK110.out), (KB_ BK116.out), (KB_ BK131.out), GW131.out, GE131.out, NB101_131.out, NB131_101.out, NB102_131.out, NB131_102.out, NB103_131.out, NB131_103.out, NB110_131.out, NB131_110.out, NB116_131.out, NB131_116.out, (Bw6_ HB.out GE101.out GE102.out GE103.out GE110.out GE116.out GE131.out)⟩)
  rintro ⟨v118, v121, v124, v129, gb131⟩ w39 ⟨hS_, h0_, h1_, h2_, h3_, h4_, h5_, h6_, h7_, h8_, h9_, h10_, h11_, h12_, h13_, h14_, h15_, h16_, h17_, h18_, h19_, h20_, h21_, h22_⟩
  have HO125 : Zz (Kd.N (Kd.slice 2 (Kd.int .i64)) 25 w39 w.heap.size (fun k_ => some k_ ≠ (v129 : Value).ownBlock ∧ k_ ≠ gb101 ∧ k_ ≠ gb102 ∧ k_ ≠ gb103 ∧ k_ ≠ gb110 ∧ k_ ≠ gb116 ∧ k_ ≠ gb131) v124 y123) := ⟨h2_⟩
  have HO130 : Zz (Kd.S (Kd.slice 2 (Kd.int .i64)) 25 w39 w.heap.size (fun k_ => some k_ ≠ (.slice Ao21 t107.length co21 : Value).ownBlock ∧ some k_ ≠ (.slice Ao29 t113.length co29 : Value).ownBlock ∧ some k_ ≠ (v124 : Value).ownBlock) v129 t128) := ⟨h3_⟩
  have BK131 : Zz (w39.heap[gb131]? = some (.cells #[.int .i64 0, .int .i64 0, .slice none 0 0] 29 (0, 0))) := ⟨h9_⟩
  have GW131 : Zz (w.heap.size ≤ gb131) := ⟨h10_⟩
  have GE131 : Zz (w.heap.size ≤ gb131) := ⟨h11_⟩
  have NB101_131 : Zz (gb101 ≠ gb131) := ⟨h12_⟩
  have NB131_101 : Zz (gb131 ≠ gb101) := ⟨h13_⟩
  have NB102_131 : Zz (gb102 ≠ gb131) := ⟨h14_⟩
  have NB131_102 : Zz (gb131 ≠ gb102) := ⟨h15_⟩
  have NB103_131 : Zz (gb103 ≠ gb131) := ⟨h16_⟩
  have NB131_103 : Zz (gb131 ≠ gb103) := ⟨h17_⟩
  have NB110_131 : Zz (gb110 ≠ gb131) := ⟨h18_⟩
  have NB131_110 : Zz (gb131 ≠ gb110) := ⟨h19_⟩
  have NB116_131 : Zz (gb116 ≠ gb131) := ⟨h20_⟩
  have NB131_116 : Zz (gb131 ≠ gb116) := ⟨h21_⟩
  replace HO109 : Zz (Kd.S (Kd.slice 2 (Kd.int .i64)) 25 w39 w.heap.size (fun k_ => some k_ ≠ (.slice Ao29 t113.length co29 : Value).ownBlock ∧ some k_ ≠ (v124 : Value).ownBlock ∧ some k_ ≠ (v129 : Value).ownBlock) (.slice Ao21 t107.length co21) t107) := ⟨h0_⟩
  replace HO115 : Zz (Kd.S (Kd.slice 2 (Kd.int .i64)) 25 w39 w.heap.size (fun k_ => some k_ ≠ (.slice Ao21 t107.length co21 : Value).ownBlock ∧ some k_ ≠ (v124 : Value).ownBlock ∧ some k_ ≠ (v129 : Value).ownBlock) (.slice Ao29 t113.length co29) t113) := ⟨h1_⟩
  replace BK101 : Zz (w39.heap[gb101]? = some (.cells #[.int .i64 a0_0, .int .i64 a0_1, .slice A0_2 l0_2.length c0_2] 29 (0, 0))) := ⟨h4_⟩
  replace BK102 : Zz (w39.heap[gb102]? = some (.cells #[.int .i64 a1_0, .int .i64 a1_1, .slice A1_2 l1_2.length c1_2] 29 (0, 0))) := ⟨h5_⟩
  replace BK103 : Zz (w39.heap[gb103]? = some (.cells #[.int .i64 0, .int .i64 0, .slice none 0 0] 29 (0, 0))) := ⟨h6_⟩
  replace BK110 : Zz (w39.heap[gb110]? = some (.cells #[.int .i64 t105, .int .i64 t106, .slice Ao21 t107.length co21] 29 (0, 0))) := ⟨h7_⟩
  replace BK116 : Zz (w39.heap[gb116]? = some (.cells #[.int .i64 t111, .int .i64 t112, .slice Ao29 t113.length co29] 29 (0, 0))) := ⟨h8_⟩
  replace HB : Zz (Below w.heap.size w w39) := ⟨h22_⟩
  (try clear h0_)
  (try clear h1_)
  (try clear h2_)
  (try clear h3_)
  (try clear h4_)
  (try clear h5_)
  (try clear h6_)
  (try clear h7_)
  (try clear h8_)
  (try clear h9_)
  (try clear h10_)
  (try clear h11_)
  (try clear h12_)
  (try clear h13_)
  (try clear h14_)
  (try clear h15_)
  (try clear h16_)
  (try clear h17_)
  (try clear h18_)
  (try clear h19_)
  (try clear h20_)
  (try clear h21_)
  (try clear h22_)
  have hHeld : w39.cell? ⟨gb101, 0, none⟩ = some (.int .i64 a0_0) ∧ w39.cell? ⟨gb101, 1, none⟩ = some (.int .i64 a0_1) ∧ w39.cell? ⟨gb101, 2, none⟩ = some (.slice A0_2 l0_2.length c0_2) ∧ w39.cell? ⟨gb110, 0, none⟩ = some (.int .i64 t105) ∧ w39.cell? ⟨gb110, 1, none⟩ = some (.int .i64 t106) ∧ w39.cell? ⟨gb110, 2, none⟩ = some (.slice Ao21 t107.length co21) ∧ w39.cell? ⟨gb116, 0, none⟩ = some (.int .i64 t111) ∧ w39.cell? ⟨gb116, 1, none⟩ = some (.int .i64 t112) ∧ w39.cell? ⟨gb116, 2, none⟩ = some (.slice Ao29 t113.length co29) := hS_
  obtain ⟨Ao42, co42, eo42⟩ := Kd.S_slice HO130.out
  (first | subst eo42 | obtain ⟨rfl, rfl⟩ := sl_ eo42)
  refine qBf (a' := ?_) ?_ ?_
  rotate_left
  ·simp only [qA1, Act.put, List.setIfInBounds_toArray, List.set_cons_zero, List.set_cons_succ]
   rfl
  refine one_ (i := 13) (N := none) (tb_ 14 16383) rfl rfl (qAr HT_.out (by kernel_rfl)) (by decide) (fun K hK => ?_)
  have hs40 : w39.cell? ⟨gb131, 0, none⟩ = some (.int .i64 0) := (bC_ BK131.out 0).trans rfl
  have hfs40 := bF_ BK131.out 0
  have hns40_0 := NB101_131.out
  have hns40_1 := NB102_131.out
  have hns40_2 := NB103_131.out
  have hns40_3 := NB110_131.out
  have hns40_4 := NB116_131.out
  have hms40_0 := NB131_101.out
  have hms40_1 := NB131_102.out
  have hms40_2 := NB131_103.out
  have hms40_3 := NB131_110.out
  have hms40_4 := NB131_116.out
  have hs41 : w39.cell? ⟨gb131, 1, none⟩ = some (.int .i64 0) := (bC_ BK131.out 1).trans rfl
  have hfs41 := bF_ BK131.out 1
  have hns41_0 := NB101_131.out
  have hns41_1 := NB102_131.out
  have hns41_2 := NB103_131.out
  have hns41_3 := NB110_131.out
  have hns41_4 := NB116_131.out
  have hms41_0 := NB131_101.out
  have hms41_1 := NB131_102.out
  have hms41_2 := NB131_103.out
  have hms41_3 := NB131_110.out
  have hms41_4 := NB131_116.out
  have hs43 : w39.cell? ⟨gb131, 2, none⟩ = some (.slice none 0 0) := (bC_ BK131.out 2).trans rfl
  have hfs43 := bF_ BK131.out 2
  have hns43_0 := NB101_131.out
  have hns43_1 := NB102_131.out
  have hns43_2 := NB103_131.out
  have hns43_3 := NB110_131.out
  have hns43_4 := NB116_131.out
  have hms43_0 := NB131_101.out
  have hms43_1 := NB131_102.out
  have hms43_2 := NB131_103.out
  have hms43_3 := NB131_110.out
  have hms43_4 := NB131_116.out
  refine qB9 (w1 := ?_) (by rfl) rfl ?_ ?_
  rotate_left
  ·go_simp
   rfl
  refine hK.out _ _ ⟨((qAf (p := ⟨gb131, _, none⟩) NB101_131.out _).trans (((qAf (p := ⟨gb131, _, none⟩) NB101_131.out _).trans (((qAf (p := ⟨gb131, _, none⟩) NB101_131.out _).trans (hHeld.1)))))), ((qAf (p := ⟨gb131, _, none⟩) NB101_131.out _).trans (((qAf (p := ⟨gb131, _, none⟩) NB101_131.out _).trans (((qAf (p := ⟨gb131, _, none⟩) NB101_131.out _).trans (hHeld.2.1)))))), ((qAf (p := ⟨gb131, _, none⟩) NB101_131.out _).trans (((qAf (p := ⟨gb131, _, none⟩) NB101_131.out _).trans (((qAf (p := ⟨gb131, _, none⟩) NB101_131.out _).trans (hHeld.2.2.1)))))), ((qAf (p := ⟨gb131, _, none⟩) NB110_131.out _).trans (((qAf (p := ⟨gb131, _, none⟩) NB110_131.out _).trans (((qAf (p := ⟨gb131, _, none⟩) NB110_131.out _).trans (hHeld.2.2.2.1)))))), ((qAf (p := ⟨gb131, _, none⟩) NB110_131.out _).trans (((qAf (p := ⟨gb131, _, none⟩) NB110_131.out _).trans (((qAf (p := ⟨gb131, _, none⟩) NB110_131.out _).trans (hHeld.2.2.2.2.1)))))), ((qAf (p := ⟨gb131, _, none⟩) NB110_131.out _).trans (((qAf (p := ⟨gb131, _, none⟩) NB110_131.out _).trans (((qAf (p := ⟨gb131, _, none⟩) NB110_131.out _).trans (hHeld.2.2.2.2.2.1)))))), ((qAf (p := ⟨gb131, _, none⟩) NB116_131.out _).trans (((qAf (p := ⟨gb131, _, none⟩) NB116_131.out _).trans (((qAf (p := ⟨gb131, _, none⟩) NB116_131.out _).trans (hHeld.2.2.2.2.2.2.1)))))), ((qAf (p := ⟨gb131, _, none⟩) NB116_131.out _).trans (((qAf (p := ⟨gb131, _, none⟩) NB116_131.out _).trans (((qAf (p := ⟨gb131, _, none⟩) NB116_131.out _).trans (hHeld.2.2.2.2.2.2.2.1)))))), ((qAf (p := ⟨gb131, _, none⟩) NB116_131.out _).trans (((qAf (p := ⟨gb131, _, none⟩) NB116_131.out _).trans (((qAf (p := ⟨gb131, _, none⟩) NB116_131.out _).trans (hHeld.2.2.2.2.2.2.2.2))))))⟩ (fun hHeld => ?_)
  clear hK K
  refine qBd (qA2 HT_.out (by kernel_rfl)) ?_
  try go_wp2_with (first | ((with_reducible refine gC_ (f := 99) rfl ?_); refine GL_ (some 29) rfl rfl Try.func99 #[.pointer (some ⟨gb131, 0, none⟩)] rfl (h := ?_); (with_reducible refine (z99.calls k gb131 t126 t127 Ao42 co42 t128 t132 t133 t134 _ ?side1 ?side2 ?side3 A10.out).mono ?_); (case side1 => refine BW_ ?_; refine bP_ (cs := #[.int .i64 t126, .int .i64 t127, .slice none 0 0]) ?_ 2 _ rfl; refine BW_ ?_; refine bP_ (cs := #[.int .i64 t126, .int .i64 0, .slice none 0 0]) ?_ 1 _ rfl; refine BW_ ?_; refine bP_ (cs := #[.int .i64 0, .int .i64 0, .slice none 0 0]) ?_ 0 _ rfl; refine BW_ ?_; exact BK131.out); (case side2 => refine (Kd.S_reads' (e := 25) (base := w.heap.size) (ok := fun k_ => (some k_ ≠ (.slice Ao21 t107.length co21 : Value).ownBlock ∧ (some k_ ≠ (.slice Ao29 t113.length co29 : Value).ownBlock ∧ some k_ ≠ (v124 : Value).ownBlock))) (n := t128.length) (c := co42) ?_).2.2; exact (by refine SW_ ?_; exact (S3_ HO130.out BK131.out (.int .i64 t126) (.int .i64 t127) (.slice Ao42 t128.length co42)))); (case side3 => exact (Kd.S_reads' HO130.out).2.1); rintro e w44 ⟨v135, rfl, ho0, hb⟩; refine ⟨_, rfl, ?_⟩; have HO136 := Zz.mk (Kd.S_lower (Kd.S_new' (Kd.S_new' (Kd.S_new' (Kd.S_new' ho0 (Kd.S_lt (by refine SW_ ?_; exact (S3_ HO109.out BK131.out (.int .i64 t126) (.int .i64 t127) (.slice Ao42 t128.length co42))))) (Kd.S_lt (by refine SW_ ?_; exact (S3_ HO115.out BK131.out (.int .i64 t126) (.int .i64 t127) (.slice Ao42 t128.length co42))))) (Kd.N_lt (by refine NW_ ?_; exact (Kd.N_mono (Kd.N_far (p := ⟨gb131, 2, none⟩) (Kd.N_far (p := ⟨gb131, 1, none⟩) (Kd.N_far (p := ⟨gb131, 0, none⟩) (Kd.N_mono HO125.out (fun k_ hk => (⟨hk, hk.2.2.2.2.2.2⟩ : _ ∧ k_ ≠ gb131))) (fun _ hk => hk.2) (.int .i64 t126)) (fun _ hk => hk.2) (.int .i64 t127)) (fun _ hk => hk.2) (.slice Ao42 t128.length co42)) (fun _ h_ => h_.1))))) (Kd.S_lt (by refine SW_ ?_; exact (S3_ HO130.out BK131.out (.int .i64 t126) (.int .i64 t127) (.slice Ao42 t128.length co42))))) (bS_ (Bw6_ HB.out GE101.out GE102.out GE103.out GE110.out GE116.out GE131.out))); replace HO109 := Zz.mk (Kd.S_elder' (by refine SW_ ?_; exact (S3_ HO109.out BK131.out (.int .i64 t126) (.int .i64 t127) (.slice Ao42 t128.length co42))) (Kd.S_base ho0) hb); replace HO115 := Zz.mk (Kd.S_elder' (by refine SW_ ?_; exact (S3_ HO115.out BK131.out (.int .i64 t126) (.int .i64 t127) (.slice Ao42 t128.length co42))) (Kd.S_base ho0) hb); replace HO125 := Zz.mk (Kd.N_elder' (by refine NW_ ?_; exact (Kd.N_mono (Kd.N_far (p := ⟨gb131, 2, none⟩) (Kd.N_far (p := ⟨gb131, 1, none⟩) (Kd.N_far (p := ⟨gb131, 0, none⟩) (Kd.N_mono HO125.out (fun k_ hk => (⟨hk, hk.2.2.2.2.2.2⟩ : _ ∧ k_ ≠ gb131))) (fun _ hk => hk.2) (.int .i64 t126)) (fun _ hk => hk.2) (.int .i64 t127)) (fun _ hk => hk.2) (.slice Ao42 t128.length co42)) (fun _ h_ => h_.1))) (Kd.S_base ho0) hb); replace HO130 := Zz.mk (Kd.S_elder' (by refine SW_ ?_; exact (S3_ HO130.out BK131.out (.int .i64 t126) (.int .i64 t127) (.slice Ao42 t128.length co42))) (Kd.S_base ho0) hb); replace BK101 := Zz.mk (bB_ (g := gb101) (o := .cells #[.int .i64 a0_0, .int .i64 a0_1, .slice A0_2 l0_2.length c0_2] 29 (0, 0)) (by refine BW_ ?_; refine bR_ ?_ NB101_131.out _; refine BW_ ?_; refine bR_ ?_ NB101_131.out _; refine BW_ ?_; refine bR_ ?_ NB101_131.out _; refine BW_ ?_; exact BK101.out) hb); replace BK102 := Zz.mk (bB_ (g := gb102) (o := .cells #[.int .i64 a1_0, .int .i64 a1_1, .slice A1_2 l1_2.length c1_2] 29 (0, 0)) (by refine BW_ ?_; refine bR_ ?_ NB102_131.out _; refine BW_ ?_; refine bR_ ?_ NB102_131.out _; refine BW_ ?_; refine bR_ ?_ NB102_131.out _; refine BW_ ?_; exact BK102.out) hb); replace BK103 := Zz.mk (bB_ (g := gb103) (o := .cells #[.int .i64 0, .int .i64 0, .slice none 0 0] 29 (0, 0)) (by refine BW_ ?_; refine bR_ ?_ NB103_131.out _; refine BW_ ?_; refine bR_ ?_ NB103_131.out _; refine BW_ ?_; refine bR_ ?_ NB103_131.out _; refine BW_ ?_; exact BK103.out) hb); replace BK110 := Zz.mk (bB_ (g := gb110) (o := .cells #[.int .i64 t105, .int .i64 t106, .slice Ao21 t107.length co21] 29 (0, 0)) (by refine BW_ ?_; refine bR_ ?_ NB110_131.out _; refine BW_ ?_; refine bR_ ?_ NB110_131.out _; refine BW_ ?_; refine bR_ ?_ NB110_131.out _; refine BW_ ?_; exact BK110.out) hb); replace BK116 := Zz.mk (bB_ (g := gb116) (o := .cells #[.int .i64 t111, .int .i64 t112, .slice Ao29 t113.length co29] 29 (0, 0)) (by refine BW_ ?_; refine bR_ ?_ NB116_131.out _; refine BW_ ?_; refine bR_ ?_ NB116_131.out _; refine BW_ ?_; refine bR_ ?_ NB116_131.out _; refine BW_ ?_; exact BK116.out) hb); replace BK131 := Zz.mk (bB_ (g := gb131) (o := .cells #[.int .i64 t126, .int .i64 t127, .slice Ao42 t128.length co42] 29 (0, 0)) (by refine BW_ ?_; refine bP_ (cs := #[.int .i64 t126, .int .i64 t127, .slice none 0 0]) ?_ 2 _ rfl; refine BW_ ?_; refine bP_ (cs := #[.int .i64 t126, .int .i64 0, .slice none 0 0]) ?_ 1 _ rfl; refine BW_ ?_; refine bP_ (cs := #[.int .i64 0, .int .i64 0, .slice none 0 0]) ?_ 0 _ rfl; refine BW_ ?_; exact BK131.out) hb); replace HB := Zz.mk (bT_ (Bw6_ HB.out GE101.out GE102.out GE103.out GE110.out GE116.out GE131.out) hb); (try clear hb); (try clear hk); (try clear ho0); have hnb45 := NB103_101.out; have hnc45 := NB101_103.out; have hnb46 := NB103_102.out; have hnc46 := NB102_103.out; have hnb47 := NB103_131.out; have hnc47 := NB131_103.out; obtain ⟨hcz48_0, hcz48_1, hcz48_2, hfz48_0, hfz48_1, hfz48_2⟩ := Z3f_ BK103.out; obtain ⟨Ao49, co49, eo49⟩ := Kd.S_slice HO136.out; subst eo49))
  refine bodyPost_ret (qBg rfl _ _ gb103 29 #[.int .i64 t132, .int .i64 t133, .slice Ao49 t134.length co49] (0, 0) _ rfl (by refine BW_ ?_; refine bP_ (cs := #[.int .i64 t132, .int .i64 t133, .slice none 0 0]) ?_ 2 _ rfl; refine BW_ ?_; refine bP_ (cs := #[.int .i64 t132, .int .i64 0, .slice none 0 0]) ?_ 1 _ rfl; refine BW_ ?_; refine bP_ (cs := #[.int .i64 0, .int .i64 0, .slice none 0 0]) ?_ 0 _ rfl; refine BW_ ?_; exact BK103.out) Try.underlying29 rfl (by kernel_rfl)) rfl ?_
  exact ⟨_, F_, by refine SW_ ?_; exact Kd.S_mono (Kd.S_far (p := ⟨gb103, 2, none⟩) (Kd.S_far (p := ⟨gb103, 1, none⟩) (Kd.S_far (p := ⟨gb103, 0, none⟩) (Kd.S_types HO136.out BK103.out (by decide)) (fun _ hk => hk.2) (.int .i64 t132)) (fun _ hk => hk.2) (.int .i64 t133)) (fun _ hk => hk.2) (.slice Ao49 t134.length co49)) (fun _ hk => trivial), by repeat (first | (with_reducible first | exact HB.out | apply qAg | apply qAd | apply qAc | refine qAb ?_ GE101.out | refine qAb ?_ GE102.out | refine qAb ?_ GE103.out | refine qAb ?_ GE110.out | refine qAb ?_ GE116.out | refine qAb ?_ GE131.out) | exact HB.out)⟩
 rw [if_neg c4] at H
 have c4b0 : (t104 == 0) = false := beq_eq_false_iff_ne.mpr c4
 have c4b1 : (t104 != 0) = true := bne_iff_ne.mpr c4
 simp only [Option.some.injEq, Prod.mk.injEq] at H
 obtain ⟨rfl, rfl, rfl, rfl⟩ := H
 go_enter Try.func50, Try.ntmps50
 go_wp2_with (first | ((with_reducible refine qAh (N := 2) rfl ?_); refine bx_ 2 #[.int .i64 a0_0, .int .i64 a0_1, .slice A0_2 l0_2.length c0_2] 29 ?_; intro gb101 hg w50 hbox hb; have BK101 := Zz.mk (hbox); have GW101 := Zz.mk ((gw_ hg (B_ HB.out))); have GE101 := GW101; replace HB := Zz.mk (bT_ (B_ HB.out) hb); clear hb hbox hg) | ((with_reducible refine qAh (N := 3) rfl ?_); refine bx_ 3 #[.int .i64 a1_0, .int .i64 a1_1, .slice A1_2 l1_2.length c1_2] 29 ?_; intro gb102 hg w51 hbox hb; have BK102 := Zz.mk (hbox); have GW102 := Zz.mk ((gw_ hg (B1_ HB.out GE101.out))); have GE102 := GW102; have NB101_102 := Zz.mk ((nb_ BK101.out hg)); have NB102_101 := Zz.mk NB101_102.out.symm; replace BK101 := Zz.mk (kb_ BK101.out hb); replace HB := Zz.mk (bT_ (B1_ HB.out GE101.out) hb); clear hb hbox hg) | ((with_reducible refine qAh (N := 4) rfl ?_); refine bx_ 4 #[.int .i64 0, .int .i64 0, .slice none 0 0] 29 ?_; intro gb103 hg w52 hbox hb; have BK103 := Zz.mk (hbox); have GW103 := Zz.mk ((gw_ hg (B2_ HB.out GE101.out GE102.out))); have GE103 := GW103; have NB101_103 := Zz.mk ((nb_ BK101.out hg)); have NB103_101 := Zz.mk NB101_103.out.symm; have NB102_103 := Zz.mk ((nb_ BK102.out hg)); have NB103_102 := Zz.mk NB102_103.out.symm; replace BK101 := Zz.mk (kb_ BK101.out hb); replace BK102 := Zz.mk (kb_ BK102.out hb); replace HB := Zz.mk (bT_ (B2_ HB.out GE101.out GE102.out) hb); clear hb hbox hg) | ((with_reducible refine gC_ (f := 61) rfl ?_); refine GL_ (some 10) rfl rfl Try.func61 #[.pointer (some ⟨gb101, 0, none⟩), .pointer (some ⟨gb102, 0, none⟩)] rfl (h := ?_); (with_reducible refine (z61.calls k gb101 a0_0 a0_1 A0_2 c0_2 l0_2 gb102 a1_0 a1_1 A1_2 c1_2 l1_2 t104 _ ?side1 ?side2 ?side3 ?side4 ?side5 ?side6 A3.out).mono ?_); (case side1 => refine BW_ ?_; exact BK101.out); (case side2 => refine BW_ ?_; exact BK102.out); (case side3 => exact KC_ (Kd.C_below HR0_2.out HB.out)); (case side4 => exact HC0_2.out); (case side5 => exact KC_ (Kd.C_below HR1_2.out HB.out)); (case side6 => exact HC1_2.out); rintro e w53 ⟨rfl, hb⟩; refine ⟨_, rfl, ?_⟩; replace BK101 := Zz.mk (kb_ BK101.out hb); replace BK102 := Zz.mk (kb_ BK102.out hb); replace BK103 := Zz.mk (kb_ BK103.out hb); replace HB := Zz.mk (bT_ (B3_ HB.out GE101.out GE102.out GE103.out) hb); (try clear hb); have hnb54 := NB103_101.out; have hnc54 := NB101_103.out; have hnb55 := NB103_102.out; have hnc55 := NB102_103.out; obtain ⟨hcz56_0, hcz56_1, hcz56_2, hfz56_0, hfz56_1, hfz56_2⟩ := Z3f_ BK103.out))
 refine bodyPost_ret (qBg rfl _ _ gb103 29 #[.int .i64 0, .int .i64 0, .slice none 0 0] (0, 0) _ rfl (by refine BW_ ?_; refine bP_ (cs := #[.int .i64 0, .int .i64 0, .slice none 0 0]) ?_ 2 _ rfl; refine BW_ ?_; refine bP_ (cs := #[.int .i64 0, .int .i64 0, .slice none 0 0]) ?_ 1 _ rfl; refine BW_ ?_; refine bP_ (cs := #[.int .i64 0, .int .i64 0, .slice none 0 0]) ?_ 0 _ rfl; refine BW_ ?_; exact BK103.out) Try.underlying29 rfl (by kernel_rfl)) rfl ?_
 exact ⟨_, F_, by first | exact Kd.S_nil _ _ _ _ _ | exact Kd.N_nil _ _ _ _ _ | exact Kd.V_nil _ _ _ _ _ | exact Kd.Q_nil _ _ _ _ _ | exact Kd.R_nil _ _ _ _ _, B3_ HB.out GE101.out GE102.out GE103.out⟩
end Go.Proofs.Ytabfflgoaalapaa.B
