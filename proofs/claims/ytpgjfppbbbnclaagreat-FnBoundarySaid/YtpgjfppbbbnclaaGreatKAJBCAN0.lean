/- Printed by a program of this work over the kit's printer. -/
import Derived.Test.YtpgjfppbbbnclaaGreatKHPEJCO0
import Derived.Test.YtpgjfppbbbnclaaGreatKIFGODB0
import Derived.Test.YtpgjfppbbbnclaaGreatKIFGODB1
import Derived.Test.YtpgjfppbbbnclaaGreatKW0
set_option linter.unusedVariables false
set_option linter.unusedSimpArgs false
open Go.RowKit Go.Proofs.YtpgjfppbbbnclaaGreatW.PrintWords
namespace Go.Proofs.YtpgjfppbbbnclaaGreat.B
open Go.Proofs.YtpgjfppbbbnclaaGreatW.PrintLast Go.Proofs.YtpgjfppbbbnclaaGreatW.PrintMore
attribute [local go_sem] qAq qAo qAu qAt qAl qAk qAp qAn
def z73.f (k:Nat) (a0_0:Int) (a0_1:Int) (a0_2:Int) (l0_3:List Int):Option (Bool):=(z104.f k a0_0).bind fun t101=>(if t101=true then ((z62.f a0_1 0 32).bind fun t102=>(if t102=true then ((z62.f a0_2 0 32).bind fun t103=>(if t103=true then ((z105.f k l0_3 (wrap64 (a0_1 * a0_2)) a0_0).bind fun t104=>(some t104)) else (some false))) else (some false))) else (some false))
def z73.T1:Bool × List (List Nat × List Nat):=(true,[([],[]),([0],[0]),([1],[1]),([2],[2]),([3],[3]),([4,4],[4]),([5],[5]),([6,5],[5,6]),([7,5],[5,7]),([8,5],[5,8]),([9,5,5],[5,9]),([5,10],[5,10]),([11,10],[11]),([12],[12]),([13,12],[12,13]),([14,12],[12,14]),([15,12],[12,15]),([16,12,12],[12,16]),([12,17],[12,17]),([18,17],[18]),([19],[19]),([20,19],[19,20]),([21,19],[19,21]),([22,19],[19,22]),([19],[19]),([24,19],[19,24]),([25,19],[19,25]),([26,19],[19,26]),([19],[19]),([28,19],[19,28]),([29,19],[19,29]),([30,19],[19,30]),([27,31,19],[19,27,31]),([19],[19]),([33,19],[19,33]),([34,19],[19,34]),([35,19],[19,35]),([23,32,36,19,19],[19,23,32,36]),([19,37],[19,37]),([38,37,0,1,2,3,4,5,6,7,8,9,10,11,12,13,14,15,16,17,18,19,20,21,22,23,24,25,26,27,28,29,30,31,32,33,34,35,36,37,38],[38])])
def z73.B1:List Nat:=[0,1,3,7,15,31,63,127,255,511,1023,2047,4095,8191,16383,32767,65535,131071,262143,524287,1048575,2097151,4194303,8388607,1048575,17825791,51380223,118489087,1048575,269484031,806354943,1880096767,4279238655,1048575,8590983167,25770852351,60130590719,137438953471,274877906943,549755813887]
theorem z73.tab1:rtab .any (qD3 Tryz.f73 1)=z73.T1:=by kernel_rfl
theorem z73.bits1:qBj z73.T1.2 z73.B1=true:=by kernel_rfl
set_option maxHeartbeats 8000000 in
set_option maxRecDepth 100000 in
theorem z73.calls (k:Nat) (gp0:Nat) (a0_0:Int) (a0_1:Int) (a0_2:Int) (A0_3:Option Addr) (c0_3:Nat) (l0_3:List Int) (r:Bool) (w:World) (hbp0:w.heap[gp0]?=some (.cells #[.int .i64 a0_0,.int .i64 a0_1,.int .i64 a0_2,.slice A0_3 l0_3.length c0_3] 36 (0,0))) (hr0_3:Kd.C (Kd.int .i64) w A0_3 l0_3.length l0_3) (hc0_3:l0_3.length≤c0_3) (h:z73.f k a0_0 a0_1 a0_2 l0_3=some r) :
  Calls Tryz.prog 73 #[.pointer (some ⟨gp0,0,none⟩)] w fun e w'=>e=.returned (.bool r)∧Below w.heap.size w w':=by
 have HR0_3:=Zz.mk hr0_3
 have HC0_3:=Zz.mk hc0_3
 clear hr0_3 hc0_3
 have BK50:=Zz.mk hbp0
 clear hbp0
 have HB:=Zz.mk (Below.refl w.heap.size w)
 have H:((z104.f k a0_0).bind fun t101=>(if t101=true then ((z62.f a0_1 0 32).bind fun t102=>(if t102=true then ((z62.f a0_2 0 32).bind fun t103=>(if t103=true then ((z105.f k l0_3 (wrap64 (a0_1 * a0_2)) a0_0).bind fun t104=>(some t104)) else (some false))) else (some false))) else (some false)))=some r:=h
 clear h
 replace H:=OZ_ H
 obtain ⟨t101,A2,H⟩:=H
 by_cases c3:t101=true
 ·subst c3
  replace H:=T_ H
  replace H:=OZ_ H
  obtain ⟨t102,A4,H⟩:=H
  by_cases c5:t102=true
  ·subst c5
   replace H:=T_ H
   replace H:=OZ_ H
   obtain ⟨t103,A6,H⟩:=H
   by_cases c7:t103=true
   ·subst c7
    replace H:=T_ H
    replace H:=OZ_ H
    obtain ⟨t104,A8,H⟩:=H
    obtain rfl:=OI_ H
    go_enter Tryz.func73,Tryz.ntmps73
    try go_wp2
    replace BK50:=Zz.mk (bD_ BK50.out)
    replace HB:=Zz.mk (qAe HB.out)
    refine qB8 (n:=40) (S:=fun w'=>w'.cell? ⟨gp0,0,none⟩=some (.int .i64 a0_0)∧w'.cell? ⟨gp0,1,none⟩=some (.int .i64 a0_1)∧w'.cell? ⟨gp0,2,none⟩=some (.int .i64 a0_2)∧w'.cell? ⟨gp0,3,none⟩=some (.slice A0_3 l0_3.length c0_3)) (ds:=[]) (tb_ 40 0) (by kernel_rfl) rfl rfl (Z4_ BK50.out) (fun hHeld=>?_);refine qBb z73.tab1 z73.bits1 (fun HT_ HW_=>?_)
    generalize w.drew=w9 at BK50 HB hHeld ⊢
    refine PX_ 0 3 (tb_ 40 1) HT_ rfl rfl ?_
    refine PX_ 1 4 (tb_ 40 3) HT_ rfl rfl ?_
    refine PX_ 2 5 (tb_ 40 7) HT_ rfl rfl ?_
    refine TV_ (i:=3) (N:=some 6) (tb_ 40 15) HT_ HW_ rfl rfl hHeld (by rintro w' ⟨s0,s1,s2,s3⟩;go_simp;with_reducible rfl) (h:=?_)
    refine one_ (i:=4) (N:=some 7) (tb_ 40 31) rfl rfl (qA7 HT_.out (by kernel_rfl)) (by decide) (fun K hK=>?_)
    refine GO_ Tryz.func104 #[.int .i64 a0_0] (h:=?_)
    with_reducible refine (z104.calls k a0_0 true _ A2.out).mono ?_
    rintro e w' ⟨rfl,⟨nd,rfl⟩⟩
    refine ⟨_,rfl,?_⟩
    refine hK.out _ _ (Z4_ BK50.out) (fun hHeld=>?_)
    clear hK K
    refine NM_ (N:=(some 7)) (h:=?_)
    refine PX_ 5 8 (tb_ 40 63) HT_ rfl rfl ?_
    refine PX_ 6 9 (tb_ 40 127) HT_ rfl rfl ?_
    refine PX_ 7 10 (tb_ 40 255) HT_ rfl rfl ?_
    refine PX_ 8 11 (tb_ 40 511) HT_ rfl rfl ?_
    refine TV_ (i:=9) (N:=some 12) (tb_ 40 1023) HT_ HW_ rfl rfl hHeld (by rintro w' ⟨s0,s1,s2,s3⟩;go_simp;with_reducible rfl) (h:=?_)
    refine one_ (i:=10) (N:=some 13) (tb_ 40 2047) rfl rfl (qA7 HT_.out (by kernel_rfl)) (by decide) (fun K hK=>?_)
    refine GO_ Tryz.func62 #[.int .i64 a0_1,.int .i64 0,.int .i64 32] (h:=?_)
    with_reducible refine (z62.calls a0_1 0 32 true _ A4.out).mono ?_
    rintro e w' ⟨rfl,⟨nd,rfl⟩⟩
    refine ⟨_,rfl,?_⟩
    refine hK.out _ _ (Z4_ BK50.out) (fun hHeld=>?_)
    clear hK K
    refine NM_ (N:=(some 13)) (h:=?_)
    refine PX_ 11 14 (tb_ 40 4095) HT_ rfl rfl ?_
    refine PX_ 12 15 (tb_ 40 8191) HT_ rfl rfl ?_
    refine PX_ 13 16 (tb_ 40 16383) HT_ rfl rfl ?_
    refine PX_ 14 17 (tb_ 40 32767) HT_ rfl rfl ?_
    refine PX_ 15 18 (tb_ 40 65535) HT_ rfl rfl ?_
    refine TV_ (i:=16) (N:=some 19) (tb_ 40 131071) HT_ HW_ rfl rfl hHeld (by rintro w' ⟨s0,s1,s2,s3⟩;go_simp;with_reducible rfl) (h:=?_)
    refine one_ (i:=17) (N:=some 20) (tb_ 40 262143) rfl rfl (qA7 HT_.out (by kernel_rfl)) (by decide) (fun K hK=>?_)
    refine GO_ Tryz.func62 #[.int .i64 a0_2,.int .i64 0,.int .i64 32] (h:=?_)
    with_reducible refine (z62.calls a0_2 0 32 true _ A6.out).mono ?_
    rintro e w' ⟨rfl,⟨nd,rfl⟩⟩
    refine ⟨_,rfl,?_⟩
    refine hK.out _ _ (Z4_ BK50.out) (fun hHeld=>?_)
    clear hK K
    refine NM_ (N:=(some 20)) (h:=?_)
    refine PX_ 18 21 (tb_ 40 524287) HT_ rfl rfl ?_
    refine PX_ 19 22 (tb_ 40 1048575) HT_ rfl rfl ?_
    refine PX_ 20 23 (tb_ 40 2097151) HT_ rfl rfl ?_
    refine PX_ 21 24 (tb_ 40 4194303) HT_ rfl rfl ?_
    refine PX_ 22 25 (tb_ 40 8388607) HT_ rfl rfl ?_
    refine PX_ 24 27 (tb_ 40 25165823) HT_ rfl rfl ?_
    refine PX_ 25 28 (tb_ 40 58720255) HT_ rfl rfl ?_
    refine PX_ 26 29 (tb_ 40 125829119) HT_ rfl rfl ?_
    refine PX_ 28 31 (tb_ 40 394264575) HT_ rfl rfl ?_
    refine PX_ 29 32 (tb_ 40 931135487) HT_ rfl rfl ?_
    refine PX_ 30 33 (tb_ 40 2004877311) HT_ rfl rfl ?_
    refine PX_ 33 36 (tb_ 40 10594811903) HT_ rfl rfl ?_
    refine PX_ 34 37 (tb_ 40 27774681087) HT_ rfl rfl ?_
    refine PX_ 35 38 (tb_ 40 62134419455) HT_ rfl rfl ?_
    refine TV_ (i:=23) (N:=some 26) (tb_ 40 62142808063) HT_ HW_ rfl rfl hHeld (by rintro w' ⟨s0,s1,s2,s3⟩;go_simp;with_reducible rfl) (h:=?_)
    refine TV_ (i:=27) (N:=some 30) (tb_ 40 62277025791) HT_ HW_ rfl rfl hHeld (by rintro w' ⟨s0,s1,s2,s3⟩;go_simp;with_reducible rfl) (h:=?_)
    refine TV_ (i:=31) (N:=some 34) (tb_ 40 64424509439) HT_ HW_ rfl rfl hHeld (by rintro w' ⟨s0,s1,s2,s3⟩;go_simp;with_reducible rfl) (h:=?_)
    refine PX_ 32 35 (tb_ 40 68719476735) HT_ rfl rfl ?_
    refine TV_ (i:=36) (N:=some 39) (tb_ 40 137438953471) HT_ HW_ rfl rfl hHeld (by rintro w' ⟨s0,s1,s2,s3⟩;go_simp;with_reducible rfl) (h:=?_)
    refine one_ (i:=37) (N:=some 40) (tb_ 40 274877906943) rfl rfl (qA7 HT_.out (by kernel_rfl)) (by decide) (fun K hK=>?_)
    refine GO_ Tryz.func105 #[.slice A0_3 l0_3.length c0_3,.int .i64 (wrap64 (a0_1 * a0_2)),.int .i64 a0_0] (h:=?_)
    with_reducible refine (z105.calls k _ _ l0_3 (wrap64 (a0_1 * a0_2)) a0_0 t104 _ ?side1 ?side2 A8.out).mono ?_
    (case side1=>repeat (first | exact (Kd.C_below HR0_3.out (B_ HB.out)) | (with_reducible refine Kd.C_alloc ?_ _) | (with_reducible refine Kd.C_drewN ?_ _) | (with_reducible refine Kd.C_drew ?_)))
    (case side2=>exact HC0_3.out)
    rintro e w' ⟨rfl,⟨nd,rfl⟩⟩
    refine ⟨_,rfl,?_⟩
    refine hK.out _ _ (Z4_ BK50.out) (fun hHeld=>?_)
    clear hK K
    refine NM_ (N:=(some 40)) (h:=?_)
    refine PX_ 38 41 (tb_ 40 549755813887) HT_ rfl rfl ?_
    refine PX_ 39 2 (tb_ 40 1099511627775) HT_ rfl rfl ?_
    refine qDb (qBt HT_.out (by kernel_rfl)) ?_
    try go_wp2
    go_ret
    exact ⟨F_,B_ HB.out⟩
   replace c7:=Bool.eq_false_iff.mpr c7
   subst c7
   replace H:=N_ H
   obtain rfl:=OI_ H
   go_enter Tryz.func73,Tryz.ntmps73
   try go_wp2
   replace BK50:=Zz.mk (bD_ BK50.out)
   replace HB:=Zz.mk (qAe HB.out)
   refine qB8 (n:=40) (S:=fun w'=>w'.cell? ⟨gp0,0,none⟩=some (.int .i64 a0_0)∧w'.cell? ⟨gp0,1,none⟩=some (.int .i64 a0_1)∧w'.cell? ⟨gp0,2,none⟩=some (.int .i64 a0_2)∧w'.cell? ⟨gp0,3,none⟩=some (.slice A0_3 l0_3.length c0_3)) (ds:=[]) (tb_ 40 0) (by kernel_rfl) rfl rfl (Z4_ BK50.out) (fun hHeld=>?_);refine qBb z73.tab1 z73.bits1 (fun HT_ HW_=>?_)
   generalize w.drew=w10 at BK50 HB hHeld ⊢
   refine PX_ 0 3 (tb_ 40 1) HT_ rfl rfl ?_
   refine PX_ 1 4 (tb_ 40 3) HT_ rfl rfl ?_
   refine PX_ 2 5 (tb_ 40 7) HT_ rfl rfl ?_
   refine TV_ (i:=3) (N:=some 6) (tb_ 40 15) HT_ HW_ rfl rfl hHeld (by rintro w' ⟨s0,s1,s2,s3⟩;go_simp;with_reducible rfl) (h:=?_)
   refine one_ (i:=4) (N:=some 7) (tb_ 40 31) rfl rfl (qA7 HT_.out (by kernel_rfl)) (by decide) (fun K hK=>?_)
   refine GO_ Tryz.func104 #[.int .i64 a0_0] (h:=?_)
   with_reducible refine (z104.calls k a0_0 true _ A2.out).mono ?_
   rintro e w' ⟨rfl,⟨nd,rfl⟩⟩
   refine ⟨_,rfl,?_⟩
   refine hK.out _ _ (Z4_ BK50.out) (fun hHeld=>?_)
   clear hK K
   refine NM_ (N:=(some 7)) (h:=?_)
   refine PX_ 5 8 (tb_ 40 63) HT_ rfl rfl ?_
   refine PX_ 6 9 (tb_ 40 127) HT_ rfl rfl ?_
   refine PX_ 7 10 (tb_ 40 255) HT_ rfl rfl ?_
   refine PX_ 8 11 (tb_ 40 511) HT_ rfl rfl ?_
   refine TV_ (i:=9) (N:=some 12) (tb_ 40 1023) HT_ HW_ rfl rfl hHeld (by rintro w' ⟨s0,s1,s2,s3⟩;go_simp;with_reducible rfl) (h:=?_)
   refine one_ (i:=10) (N:=some 13) (tb_ 40 2047) rfl rfl (qA7 HT_.out (by kernel_rfl)) (by decide) (fun K hK=>?_)
   refine GO_ Tryz.func62 #[.int .i64 a0_1,.int .i64 0,.int .i64 32] (h:=?_)
   with_reducible refine (z62.calls a0_1 0 32 true _ A4.out).mono ?_
   rintro e w' ⟨rfl,⟨nd,rfl⟩⟩
   refine ⟨_,rfl,?_⟩
   refine hK.out _ _ (Z4_ BK50.out) (fun hHeld=>?_)
   clear hK K
   refine NM_ (N:=(some 13)) (h:=?_)
   refine PX_ 11 14 (tb_ 40 4095) HT_ rfl rfl ?_
   refine PX_ 12 15 (tb_ 40 8191) HT_ rfl rfl ?_
   refine PX_ 13 16 (tb_ 40 16383) HT_ rfl rfl ?_
   refine PX_ 14 17 (tb_ 40 32767) HT_ rfl rfl ?_
   refine PX_ 15 18 (tb_ 40 65535) HT_ rfl rfl ?_
   refine TV_ (i:=16) (N:=some 19) (tb_ 40 131071) HT_ HW_ rfl rfl hHeld (by rintro w' ⟨s0,s1,s2,s3⟩;go_simp;with_reducible rfl) (h:=?_)
   refine one_ (i:=17) (N:=some 20) (tb_ 40 262143) rfl rfl (qA7 HT_.out (by kernel_rfl)) (by decide) (fun K hK=>?_)
   refine GO_ Tryz.func62 #[.int .i64 a0_2,.int .i64 0,.int .i64 32] (h:=?_)
   with_reducible refine (z62.calls a0_2 0 32 false _ A6.out).mono ?_
   rintro e w' ⟨rfl,⟨nd,rfl⟩⟩
   refine ⟨_,rfl,?_⟩
   refine hK.out _ _ (Z4_ BK50.out) (fun hHeld=>?_)
   clear hK K
   refine NM_ (N:=(some 20)) (h:=?_)
   refine PX_ 18 21 (tb_ 40 524287) HT_ rfl rfl ?_
   refine PX_ 19 22 (tb_ 40 1048575) HT_ rfl rfl ?_
   refine PY_ 20 23 (tb_ 40 2097151) HT_ rfl rfl ?_
   refine PY_ 21 24 (tb_ 40 4194303) HT_ rfl rfl ?_
   refine PY_ 22 25 (tb_ 40 8388607) HT_ rfl rfl ?_
   refine PY_ 23 26 (tb_ 40 16777215) HT_ rfl rfl ?_
   refine PY_ 24 27 (tb_ 40 33554431) HT_ rfl rfl ?_
   refine PY_ 25 28 (tb_ 40 67108863) HT_ rfl rfl ?_
   refine PY_ 26 29 (tb_ 40 134217727) HT_ rfl rfl ?_
   refine PY_ 27 30 (tb_ 40 268435455) HT_ rfl rfl ?_
   refine PY_ 28 31 (tb_ 40 536870911) HT_ rfl rfl ?_
   refine PY_ 29 32 (tb_ 40 1073741823) HT_ rfl rfl ?_
   refine PY_ 30 33 (tb_ 40 2147483647) HT_ rfl rfl ?_
   refine PY_ 31 34 (tb_ 40 4294967295) HT_ rfl rfl ?_
   refine PY_ 32 35 (tb_ 40 8589934591) HT_ rfl rfl ?_
   refine PY_ 33 36 (tb_ 40 17179869183) HT_ rfl rfl ?_
   refine PY_ 34 37 (tb_ 40 34359738367) HT_ rfl rfl ?_
   refine PY_ 35 38 (tb_ 40 68719476735) HT_ rfl rfl ?_
   refine PY_ 36 39 (tb_ 40 137438953471) HT_ rfl rfl ?_
   refine PY_ 37 40 (tb_ 40 274877906943) HT_ rfl rfl ?_
   refine PX_ 38 41 (tb_ 40 549755813887) HT_ rfl rfl ?_
   refine PX_ 39 2 (tb_ 40 1099511627775) HT_ rfl rfl ?_
   refine qDb (qBt HT_.out (by kernel_rfl)) ?_
   try go_wp2
   go_ret
   exact ⟨F_,B_ HB.out⟩
  replace c5:=Bool.eq_false_iff.mpr c5
  subst c5
  replace H:=N_ H
  obtain rfl:=OI_ H
  go_enter Tryz.func73,Tryz.ntmps73
  try go_wp2
  replace BK50:=Zz.mk (bD_ BK50.out)
  replace HB:=Zz.mk (qAe HB.out)
  refine qB8 (n:=40) (S:=fun w'=>w'.cell? ⟨gp0,0,none⟩=some (.int .i64 a0_0)∧w'.cell? ⟨gp0,1,none⟩=some (.int .i64 a0_1)∧w'.cell? ⟨gp0,2,none⟩=some (.int .i64 a0_2)∧w'.cell? ⟨gp0,3,none⟩=some (.slice A0_3 l0_3.length c0_3)) (ds:=[]) (tb_ 40 0) (by kernel_rfl) rfl rfl (Z4_ BK50.out) (fun hHeld=>?_);refine qBb z73.tab1 z73.bits1 (fun HT_ HW_=>?_)
  generalize w.drew=w11 at BK50 HB hHeld ⊢
  refine PX_ 0 3 (tb_ 40 1) HT_ rfl rfl ?_
  refine PX_ 1 4 (tb_ 40 3) HT_ rfl rfl ?_
  refine PX_ 2 5 (tb_ 40 7) HT_ rfl rfl ?_
  refine TV_ (i:=3) (N:=some 6) (tb_ 40 15) HT_ HW_ rfl rfl hHeld (by rintro w' ⟨s0,s1,s2,s3⟩;go_simp;with_reducible rfl) (h:=?_)
  refine one_ (i:=4) (N:=some 7) (tb_ 40 31) rfl rfl (qA7 HT_.out (by kernel_rfl)) (by decide) (fun K hK=>?_)
  refine GO_ Tryz.func104 #[.int .i64 a0_0] (h:=?_)
  with_reducible refine (z104.calls k a0_0 true _ A2.out).mono ?_
  rintro e w' ⟨rfl,⟨nd,rfl⟩⟩
  refine ⟨_,rfl,?_⟩
  refine hK.out _ _ (Z4_ BK50.out) (fun hHeld=>?_)
  clear hK K
  refine NM_ (N:=(some 7)) (h:=?_)
  refine PX_ 5 8 (tb_ 40 63) HT_ rfl rfl ?_
  refine PX_ 6 9 (tb_ 40 127) HT_ rfl rfl ?_
  refine PX_ 7 10 (tb_ 40 255) HT_ rfl rfl ?_
  refine PX_ 8 11 (tb_ 40 511) HT_ rfl rfl ?_
  refine TV_ (i:=9) (N:=some 12) (tb_ 40 1023) HT_ HW_ rfl rfl hHeld (by rintro w' ⟨s0,s1,s2,s3⟩;go_simp;with_reducible rfl) (h:=?_)
  refine one_ (i:=10) (N:=some 13) (tb_ 40 2047) rfl rfl (qA7 HT_.out (by kernel_rfl)) (by decide) (fun K hK=>?_)
  refine GO_ Tryz.func62 #[.int .i64 a0_1,.int .i64 0,.int .i64 32] (h:=?_)
  with_reducible refine (z62.calls a0_1 0 32 false _ A4.out).mono ?_
  rintro e w' ⟨rfl,⟨nd,rfl⟩⟩
  refine ⟨_,rfl,?_⟩
  refine hK.out _ _ (Z4_ BK50.out) (fun hHeld=>?_)
  clear hK K
  refine NM_ (N:=(some 13)) (h:=?_)
  refine PX_ 11 14 (tb_ 40 4095) HT_ rfl rfl ?_
  refine PX_ 12 15 (tb_ 40 8191) HT_ rfl rfl ?_
  refine PY_ 13 16 (tb_ 40 16383) HT_ rfl rfl ?_
  refine PY_ 14 17 (tb_ 40 32767) HT_ rfl rfl ?_
  refine PY_ 15 18 (tb_ 40 65535) HT_ rfl rfl ?_
  refine PY_ 16 19 (tb_ 40 131071) HT_ rfl rfl ?_
  refine PY_ 17 20 (tb_ 40 262143) HT_ rfl rfl ?_
  refine PX_ 18 21 (tb_ 40 524287) HT_ rfl rfl ?_
  refine PX_ 19 22 (tb_ 40 1048575) HT_ rfl rfl ?_
  refine PY_ 20 23 (tb_ 40 2097151) HT_ rfl rfl ?_
  refine PY_ 21 24 (tb_ 40 4194303) HT_ rfl rfl ?_
  refine PY_ 22 25 (tb_ 40 8388607) HT_ rfl rfl ?_
  refine PY_ 23 26 (tb_ 40 16777215) HT_ rfl rfl ?_
  refine PY_ 24 27 (tb_ 40 33554431) HT_ rfl rfl ?_
  refine PY_ 25 28 (tb_ 40 67108863) HT_ rfl rfl ?_
  refine PY_ 26 29 (tb_ 40 134217727) HT_ rfl rfl ?_
  refine PY_ 27 30 (tb_ 40 268435455) HT_ rfl rfl ?_
  refine PY_ 28 31 (tb_ 40 536870911) HT_ rfl rfl ?_
  refine PY_ 29 32 (tb_ 40 1073741823) HT_ rfl rfl ?_
  refine PY_ 30 33 (tb_ 40 2147483647) HT_ rfl rfl ?_
  refine PY_ 31 34 (tb_ 40 4294967295) HT_ rfl rfl ?_
  refine PY_ 32 35 (tb_ 40 8589934591) HT_ rfl rfl ?_
  refine PY_ 33 36 (tb_ 40 17179869183) HT_ rfl rfl ?_
  refine PY_ 34 37 (tb_ 40 34359738367) HT_ rfl rfl ?_
  refine PY_ 35 38 (tb_ 40 68719476735) HT_ rfl rfl ?_
  refine PY_ 36 39 (tb_ 40 137438953471) HT_ rfl rfl ?_
  refine PY_ 37 40 (tb_ 40 274877906943) HT_ rfl rfl ?_
  refine PX_ 38 41 (tb_ 40 549755813887) HT_ rfl rfl ?_
  refine PX_ 39 2 (tb_ 40 1099511627775) HT_ rfl rfl ?_
  refine qDb (qBt HT_.out (by kernel_rfl)) ?_
  try go_wp2
  go_ret
  exact ⟨F_,B_ HB.out⟩
 replace c3:=Bool.eq_false_iff.mpr c3
 subst c3
 replace H:=N_ H
 obtain rfl:=OI_ H
 go_enter Tryz.func73,Tryz.ntmps73
 try go_wp2
 replace BK50:=Zz.mk (bD_ BK50.out)
 replace HB:=Zz.mk (qAe HB.out)
 refine qB8 (n:=40) (S:=fun w'=>w'.cell? ⟨gp0,0,none⟩=some (.int .i64 a0_0)∧w'.cell? ⟨gp0,1,none⟩=some (.int .i64 a0_1)∧w'.cell? ⟨gp0,2,none⟩=some (.int .i64 a0_2)∧w'.cell? ⟨gp0,3,none⟩=some (.slice A0_3 l0_3.length c0_3)) (ds:=[]) (tb_ 40 0) (by kernel_rfl) rfl rfl (Z4_ BK50.out) (fun hHeld=>?_);refine qBb z73.tab1 z73.bits1 (fun HT_ HW_=>?_)
 generalize w.drew=w12 at BK50 HB hHeld ⊢
 refine PX_ 0 3 (tb_ 40 1) HT_ rfl rfl ?_
 refine PX_ 1 4 (tb_ 40 3) HT_ rfl rfl ?_
 refine PX_ 2 5 (tb_ 40 7) HT_ rfl rfl ?_
 refine TV_ (i:=3) (N:=some 6) (tb_ 40 15) HT_ HW_ rfl rfl hHeld (by rintro w' ⟨s0,s1,s2,s3⟩;go_simp;with_reducible rfl) (h:=?_)
 refine one_ (i:=4) (N:=some 7) (tb_ 40 31) rfl rfl (qA7 HT_.out (by kernel_rfl)) (by decide) (fun K hK=>?_)
 refine GO_ Tryz.func104 #[.int .i64 a0_0] (h:=?_)
 with_reducible refine (z104.calls k a0_0 false _ A2.out).mono ?_
 rintro e w' ⟨rfl,⟨nd,rfl⟩⟩
 refine ⟨_,rfl,?_⟩
 refine hK.out _ _ (Z4_ BK50.out) (fun hHeld=>?_)
 clear hK K
 refine NM_ (N:=(some 7)) (h:=?_)
 refine PX_ 5 8 (tb_ 40 63) HT_ rfl rfl ?_
 refine PY_ 6 9 (tb_ 40 127) HT_ rfl rfl ?_
 refine PY_ 7 10 (tb_ 40 255) HT_ rfl rfl ?_
 refine PY_ 8 11 (tb_ 40 511) HT_ rfl rfl ?_
 refine PY_ 9 12 (tb_ 40 1023) HT_ rfl rfl ?_
 refine PY_ 10 13 (tb_ 40 2047) HT_ rfl rfl ?_
 refine PX_ 11 14 (tb_ 40 4095) HT_ rfl rfl ?_
 refine PX_ 12 15 (tb_ 40 8191) HT_ rfl rfl ?_
 refine PY_ 13 16 (tb_ 40 16383) HT_ rfl rfl ?_
 refine PY_ 14 17 (tb_ 40 32767) HT_ rfl rfl ?_
 refine PY_ 15 18 (tb_ 40 65535) HT_ rfl rfl ?_
 refine PY_ 16 19 (tb_ 40 131071) HT_ rfl rfl ?_
 refine PY_ 17 20 (tb_ 40 262143) HT_ rfl rfl ?_
 refine PX_ 18 21 (tb_ 40 524287) HT_ rfl rfl ?_
 refine PX_ 19 22 (tb_ 40 1048575) HT_ rfl rfl ?_
 refine PY_ 20 23 (tb_ 40 2097151) HT_ rfl rfl ?_
 refine PY_ 21 24 (tb_ 40 4194303) HT_ rfl rfl ?_
 refine PY_ 22 25 (tb_ 40 8388607) HT_ rfl rfl ?_
 refine PY_ 23 26 (tb_ 40 16777215) HT_ rfl rfl ?_
 refine PY_ 24 27 (tb_ 40 33554431) HT_ rfl rfl ?_
 refine PY_ 25 28 (tb_ 40 67108863) HT_ rfl rfl ?_
 refine PY_ 26 29 (tb_ 40 134217727) HT_ rfl rfl ?_
 refine PY_ 27 30 (tb_ 40 268435455) HT_ rfl rfl ?_
 refine PY_ 28 31 (tb_ 40 536870911) HT_ rfl rfl ?_
 refine PY_ 29 32 (tb_ 40 1073741823) HT_ rfl rfl ?_
 refine PY_ 30 33 (tb_ 40 2147483647) HT_ rfl rfl ?_
 refine PY_ 31 34 (tb_ 40 4294967295) HT_ rfl rfl ?_
 refine PY_ 32 35 (tb_ 40 8589934591) HT_ rfl rfl ?_
 refine PY_ 33 36 (tb_ 40 17179869183) HT_ rfl rfl ?_
 refine PY_ 34 37 (tb_ 40 34359738367) HT_ rfl rfl ?_
 refine PY_ 35 38 (tb_ 40 68719476735) HT_ rfl rfl ?_
 refine PY_ 36 39 (tb_ 40 137438953471) HT_ rfl rfl ?_
 refine PY_ 37 40 (tb_ 40 274877906943) HT_ rfl rfl ?_
 refine PX_ 38 41 (tb_ 40 549755813887) HT_ rfl rfl ?_
 refine PX_ 39 2 (tb_ 40 1099511627775) HT_ rfl rfl ?_
 refine qDb (qBt HT_.out (by kernel_rfl)) ?_
 try go_wp2
 go_ret
 exact ⟨F_,B_ HB.out⟩
end Go.Proofs.YtpgjfppbbbnclaaGreat.B
