/- Printed by a program of this work over the kit's printer. -/
import Derived.Test.YtpgjfppbbbnclaaGreatKAJBCAN0
import Derived.Test.YtpgjfppbbbnclaaGreatKIFGODB0
import Derived.Test.YtpgjfppbbbnclaaGreatKW0
set_option linter.unusedVariables false
set_option linter.unusedSimpArgs false
open Go.RowKit Go.Proofs.YtpgjfppbbbnclaaGreatW.PrintWords
namespace Go.Proofs.YtpgjfppbbbnclaaGreat.B
open Go.Proofs.YtpgjfppbbbnclaaGreatW.PrintLast Go.Proofs.YtpgjfppbbbnclaaGreatW.PrintMore
attribute [local go_sem] qAq qAo qAu qAt qAl qAk qAp qAn
def z39.f (k:Nat) (a0_0:Int) (a0_1:Int) (a0_2:Int) (l0_3:List Int) (a1_0:Int) (a1_1:Int) (a1_2:Int) (l1_3:List Int):Option (Bool):=(z73.f k a0_0 a0_1 a0_2 l0_3).bind fun t101=>(if t101=true then ((z73.f k a1_0 a1_1 a1_2 l1_3).bind fun t102=>(some t102)) else (some false))
set_option maxHeartbeats 8000000 in
set_option maxRecDepth 100000 in
theorem z39.calls (k:Nat) (gp0:Nat) (a0_0:Int) (a0_1:Int) (a0_2:Int) (A0_3:Option Addr) (c0_3:Nat) (l0_3:List Int) (gp1:Nat) (a1_0:Int) (a1_1:Int) (a1_2:Int) (A1_3:Option Addr) (c1_3:Nat) (l1_3:List Int) (r:Bool) (w:World) (hbp0:w.heap[gp0]?=some (.cells #[.int .i64 a0_0,.int .i64 a0_1,.int .i64 a0_2,.slice A0_3 l0_3.length c0_3] 36 (0,0))) (hbp1:w.heap[gp1]?=some (.cells #[.int .i64 a1_0,.int .i64 a1_1,.int .i64 a1_2,.slice A1_3 l1_3.length c1_3] 36 (0,0))) (hr0_3:Kd.C (Kd.int .i64) w A0_3 l0_3.length l0_3) (hc0_3:l0_3.length≤c0_3) (hr1_3:Kd.C (Kd.int .i64) w A1_3 l1_3.length l1_3) (hc1_3:l1_3.length≤c1_3) (h:z39.f k a0_0 a0_1 a0_2 l0_3 a1_0 a1_1 a1_2 l1_3=some r) :
  Calls Tryz.prog 39 #[.pointer (some ⟨gp0,0,none⟩),.pointer (some ⟨gp1,0,none⟩)] w fun e w'=>e=.returned (.bool r)∧Below w.heap.size w w':=by
 have HR0_3:=Zz.mk hr0_3
 have HC0_3:=Zz.mk hc0_3
 clear hr0_3 hc0_3
 have HR1_3:=Zz.mk hr1_3
 have HC1_3:=Zz.mk hc1_3
 clear hr1_3 hc1_3
 have BK50:=Zz.mk hbp0
 clear hbp0
 have BK51:=Zz.mk hbp1
 clear hbp1
 have HB:=Zz.mk (Below.refl w.heap.size w)
 have H:((z73.f k a0_0 a0_1 a0_2 l0_3).bind fun t101=>(if t101=true then ((z73.f k a1_0 a1_1 a1_2 l1_3).bind fun t102=>(some t102)) else (some false)))=some r:=h
 clear h
 replace H:=OZ_ H
 obtain ⟨t101,A3,H⟩:=H
 by_cases c4:t101=true
 ·subst c4
  replace H:=T_ H
  replace H:=OZ_ H
  obtain ⟨t102,A5,H⟩:=H
  obtain rfl:=OI_ H
  go_enter Tryz.func39,Tryz.ntmps39
  go_wp2_with (first | ((with_reducible refine gC_ (f:=73) rfl ?_);refine GL_ (some 6) rfl rfl Tryz.func73 #[.pointer (some ⟨gp0,0,none⟩)] rfl (h:=?_);(with_reducible refine (z73.calls k gp0 a0_0 a0_1 a0_2 A0_3 c0_3 l0_3 true _ ?side1 ?side2 ?side3 A3.out).mono ?_);(case side1=>refine BW_ ?_;exact BK50.out);(case side2=>exact KC_ HR0_3.out);(case side3=>exact HC0_3.out);rintro e w6 ⟨rfl,hb⟩;refine ⟨_,rfl,?_⟩;replace BK50:=Zz.mk (kb_ BK50.out hb);replace BK51:=Zz.mk (kb_ BK51.out hb);replace HB:=Zz.mk (bT_ (B_ HB.out) hb);(try clear hb)) | (go_at_call 73;(with_reducible refine (z73.calls k gp1 a1_0 a1_1 a1_2 A1_3 c1_3 l1_3 t102 _ ?side1 ?side2 ?side3 A5.out).mono ?_);(case side1=>refine BW_ ?_;exact BK51.out);(case side2=>exact KC_ (Kd.C_below HR1_3.out HB.out));(case side3=>exact HC1_3.out);rintro e w7 ⟨rfl,hb⟩;replace BK50:=Zz.mk (kb_ BK50.out hb);replace BK51:=Zz.mk (kb_ BK51.out hb);replace HB:=Zz.mk (bT_ (B_ HB.out) hb);(try clear hb)))
  go_ret
  exact ⟨F_,B_ HB.out⟩
 replace c4:=Bool.eq_false_iff.mpr c4
 subst c4
 replace H:=N_ H
 obtain rfl:=OI_ H
 go_enter Tryz.func39,Tryz.ntmps39
 go_wp2_with (first | ((with_reducible refine gC_ (f:=73) rfl ?_);refine GL_ (some 6) rfl rfl Tryz.func73 #[.pointer (some ⟨gp0,0,none⟩)] rfl (h:=?_);(with_reducible refine (z73.calls k gp0 a0_0 a0_1 a0_2 A0_3 c0_3 l0_3 false _ ?side1 ?side2 ?side3 A3.out).mono ?_);(case side1=>refine BW_ ?_;exact BK50.out);(case side2=>exact KC_ HR0_3.out);(case side3=>exact HC0_3.out);rintro e w8 ⟨rfl,hb⟩;refine ⟨_,rfl,?_⟩;replace BK50:=Zz.mk (kb_ BK50.out hb);replace BK51:=Zz.mk (kb_ BK51.out hb);replace HB:=Zz.mk (bT_ (B_ HB.out) hb);(try clear hb)))
 go_ret
 exact ⟨F_,B_ HB.out⟩
end Go.Proofs.YtpgjfppbbbnclaaGreat.B
