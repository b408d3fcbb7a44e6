/- Printed by a program of this work over the kit's printer. -/
import Derived.Test.YtpgjfppbbbnclaaGreatKAGKMFE0
import Derived.Test.YtpgjfppbbbnclaaGreatKEJCOLG0
import Derived.Test.YtpgjfppbbbnclaaGreatKIDNPCL0
import Derived.Test.YtpgjfppbbbnclaaGreatKIFGODB0
import Derived.Test.YtpgjfppbbbnclaaGreatKW0
set_option linter.unusedVariables false
set_option linter.unusedSimpArgs false
open Go.RowKit Go.Proofs.YtpgjfppbbbnclaaGreatW.PrintWords
set_option maxHeartbeats 8000000
set_option maxRecDepth 100000
namespace Go.Proofs.YtpgjfppbbbnclaaGreat.B
open Go.Proofs.YtpgjfppbbbnclaaGreatW.PrintLast Go.Proofs.YtpgjfppbbbnclaaGreatW.PrintMore
attribute [local go_sem] qAq qAo qAu qAt qAl qAk qAp qAn
mutual
def z37.j0:Nat→Int→Bool→List (List Int)→Option (Int)
 | 0,_,_,_=>none
 | k+1,x1,x8,x102000=>if x8=true then (some 1) else ((z71.f x1).bind fun t104=>(if t104=true then (z37.l0 k x1 (wrap64 (x1 - 1)) x102000) else (some 2)))
def z37.l0:Nat→Int→Int→List (List Int)→Option (Int)
 | 0,_,_,_=>none
 | k+1,x1,x7,x102000=>if x7≤(wrap64 (x1+1)) then ((z42.f k x102000 x7).bind fun t105=>(if (t105.length:Int) > 32 then (some 5) else (z37.l0 k x1 (wrap64 (x7+1)) x102000))) else (some 0)
end
def z37.f (k:Nat) (l0_0:List (List Int)) (a1:Int) (a2:Int):Option (Int):=(z49.f k l0_0).bind fun t102=>(if t102=true then ((z70.f k a2).bind fun t103=>(z37.j0 k a1 (!t103) l0_0)) else (z37.j0 k a1 true l0_0))
theorem z37.calls (k:Nat) (A0_0:Option Addr) (c0_0:Nat) (l0_0:List (List Int)) (a1:Int) (a2:Int) (r:Int) (w:World) (hr0_0:Kd.C (Kd.slice 2 (Kd.int .i64)) w A0_0 l0_0.length l0_0) (hc0_0:l0_0.length≤c0_0) (h:z37.f k l0_0 a1 a2=some r) :
  Calls Tryz.prog 37 #[.agg #[.slice A0_0 l0_0.length c0_0],.int .i64 a1,.int .i64 a2] w fun e w'=>e=.returned (.int .i64 r)∧Below w.heap.size w w':=by
 have hu26:=Tryz.underlying26
 have HR0_0:=Zz.mk hr0_0
 have HC0_0:=Zz.mk hc0_0
 clear hr0_0 hc0_0
 have HB:=Zz.mk (Below.refl w.heap.size w)
 have H:((z49.f k l0_0).bind fun t102=>(if t102=true then ((z70.f k a2).bind fun t103=>(z37.j0 k a1 (!t103) l0_0)) else (z37.j0 k a1 true l0_0)))=some r:=h
 clear h
 have HC4:=Zz.mk H
 clear H
 go_enter Tryz.func37,Tryz.ntmps37
 go_upto_region 1 with (first | ((with_reducible refine qAm (N:=3) rfl ?_);refine bx_ 3 #[.slice A0_0 l0_0.length c0_0] 26 ?_;intro gb101 hg w5 hbox hb;have BK101:=Zz.mk (hbox);have GW101:=Zz.mk ((gw_ hg (B_ HB.out)));have GE101:=GW101;replace HB:=Zz.mk (bT_ (B_ HB.out) hb);clear hb hbox hg))
 (try simp only [Act.put,List.setIfInBounds_toArray,List.set_cons_zero,List.set_cons_succ])
 go_cut [8] (fun v8 wc=>∃ (kq:Nat) (x8_3:Bool),v8=.bool x8_3∧Zz (z37.j0 kq a1 x8_3 l0_0=some r)∧Zz (kq≤k)∧Zz (wc.heap[gb101]?=some (.cells #[(.slice A0_0 l0_0.length c0_0)] 26 (0,0)))∧Zz (Below w.heap.size w wc))
 case first =>
  have H:=HC4.out
  clear HC4
  replace H:=OZ_ H
  obtain ⟨t102,A6,H⟩:=H
  by_cases c7:t102=true
  ·subst c7
   replace H:=T_ H
   replace H:=OZ_ H
   obtain ⟨t103,A8,H⟩:=H
   have H':=Zz.mk H
   clear H
   obtain ⟨hcz9_0,hfz9_0⟩:=Z1f_ BK101.out
   go_wp2_with (first | ((with_reducible refine gC_ (f:=49) rfl ?_);refine GL_ (some 10) rfl rfl Tryz.func49 #[.agg #[.slice A0_0 l0_0.length c0_0]] rfl (h:=?_);(with_reducible refine (z49.calls k _ _ l0_0 true _ ?side1 ?side2 A6.out).mono ?_);(case side1=>exact KC_ (Kd.C_below HR0_0.out HB.out));(case side2=>exact HC0_0.out);rintro e w10 ⟨rfl,hb⟩;refine ⟨_,rfl,?_⟩;replace BK101:=Zz.mk (kb_ BK101.out hb);replace HB:=Zz.mk (bT_ (B1_ HB.out GE101.out) hb);(try clear hb)) | (go_at_call 70;(with_reducible refine (z70.calls k a2 t103 _ A8.out).mono ?_);rintro e w' ⟨rfl,⟨nd,rfl⟩⟩))
   go_meet
   case rel=>exact ⟨_,(!t103),E_,H',⟨by first | omega | exact Nat.le_refl _⟩,⟨KB_ BK101.out⟩,⟨B1_ HB.out GE101.out⟩⟩
  replace c7:=Bool.eq_false_iff.mpr c7
  subst c7
  replace H:=N_ H
  have H':=Zz.mk H
  clear H
  obtain ⟨hcz11_0,hfz11_0⟩:=Z1f_ BK101.out
  go_wp2_with (first | ((with_reducible refine gC_ (f:=49) rfl ?_);refine GL_ (some 10) rfl rfl Tryz.func49 #[.agg #[.slice A0_0 l0_0.length c0_0]] rfl (h:=?_);(with_reducible refine (z49.calls k _ _ l0_0 false _ ?side1 ?side2 A6.out).mono ?_);(case side1=>exact KC_ (Kd.C_below HR0_0.out HB.out));(case side2=>exact HC0_0.out);rintro e w12 ⟨rfl,hb⟩;refine ⟨_,rfl,?_⟩;replace BK101:=Zz.mk (kb_ BK101.out hb);replace HB:=Zz.mk (bT_ (B1_ HB.out GE101.out) hb);(try clear hb)))
  go_meet
  case rel=>exact ⟨_,(true),E_,H',⟨by first | omega | exact Nat.le_refl _⟩,⟨KB_ BK101.out⟩,⟨B1_ HB.out GE101.out⟩⟩
 case rest =>
  clear HC4
  obtain ⟨kq,x8_3,rfl,HA,HJ3,BK101,HB⟩:=hcut
  cases kq with
  | zero=>exact absurd HA.out (by simp [z37.j0])
  | succ kj3 =>
   have H:=HA.out
   clear HA
   simp only [z37.j0] at H
   by_cases c13:x8_3=true
   ·subst c13
    replace H:=T_ H
    obtain rfl:=OI_ H
    go_wp2
    go_ret
    exact ⟨F_,B1_ HB.out GE101.out⟩
   replace c13:=Bool.eq_false_iff.mpr c13
   subst c13
   replace H:=N_ H
   replace H:=OZ_ H
   obtain ⟨t104,A14,H⟩:=H
   by_cases c15:t104=true
   ·subst c15
    replace H:=T_ H
    have H':=Zz.mk H
    clear H
    go_wp2_with (first | ((with_reducible refine gC_ (f:=71) rfl ?_);refine GL_ (some 19) rfl rfl Tryz.func71 #[.int .i64 a1] rfl (h:=?_);(with_reducible refine (z71.calls a1 true _ A14.out).mono ?_);rintro e w' ⟨rfl,⟨nd,rfl⟩⟩;refine ⟨_,rfl,?_⟩))
    go_loopg [7] kj3 (fun kq v7 w'=>∃ (x7_2:Int),v7=.int .i64 x7_2∧Zz (z37.l0 kq a1 x7_2 l0_0=some r)∧Zz (kq≤kj3)∧Zz (w'.heap[gb101]?=some (.cells #[(.slice A0_0 l0_0.length c0_0)] 26 (0,0)))∧Zz (Below w.heap.size w w'))
    case atStart=>exact ⟨(wrap64 (a1 - 1)),E_,H',⟨Nat.le_refl _⟩,⟨KB_ BK101.out⟩,⟨B1_ HB.out GE101.out⟩⟩
    case round =>
     clear H'
     (try clear c13);(try clear c15)
     obtain ⟨x7_2,rfl,HA,HK2,BK101,HB⟩:=hrel
     cases gk with
     | zero=>exact absurd HA.out (by simp [z37.l0])
     | succ k2 =>
      have H:=HA.out
      clear HA
      simp only [z37.l0] at H
      by_cases c16:x7_2≤(wrap64 (a1+1))
      ·rw [if_pos c16] at H
       have c16b0:decide (x7_2≤(wrap64 (a1+1)))=true:=decide_eq_true c16
       clear c16
       replace H:=OZ_ H
       obtain ⟨t105,A17,H⟩:=H
       by_cases c18:(t105.length:Int) > 32
       ·rw [if_pos c18] at H
        have c18b0:decide (32<(t105.length:Int))=true:=decide_eq_true c18
        have c18b1:decide (32<t105.length)=true:=decide_eq_true (by omega)
        clear c18
        obtain rfl:=OI_ H
        obtain ⟨hcz19_0,hfz19_0⟩:=Z1f_ BK101.out
        go_wp2_with (first | ((with_reducible refine gC_ (f:=42) rfl ?_);refine GL_ (some 31) rfl rfl Tryz.func42 #[.agg #[.slice A0_0 l0_0.length c0_0],.int .i64 x7_2] rfl (h:=?_);(with_reducible refine (z42.calls k2 _ _ l0_0 x7_2 t105 _ ?side1 ?side2 A17.out).mono ?_);(case side1=>exact KC_ (Kd.C_below HR0_0.out HB.out));(case side2=>exact HC0_0.out);rintro e w20 ⟨v106,rfl,ho0,hb⟩;refine ⟨_,rfl,?_⟩;have HO107:=Zz.mk (Kd.R_lower ho0 (bS_ (B1_ HB.out GE101.out)));replace BK101:=Zz.mk (kb_ BK101.out hb);replace HB:=Zz.mk (bT_ (B1_ HB.out GE101.out) hb);(try clear hb);(try clear ho0);obtain ⟨Ao21,co21,eo21⟩:=Kd.R_slice HO107.out;subst eo21))
        go_ret
        exact ⟨F_,B1_ HB.out GE101.out⟩
       rw [if_neg c18] at H
       have c18b0:decide (32<(t105.length:Int))=false:=decide_eq_false c18
       have c18b1:decide (32<t105.length)=false:=decide_eq_false (by omega)
       clear c18
       have H':=Zz.mk H
       clear H
       obtain ⟨hcz22_0,hfz22_0⟩:=Z1f_ BK101.out
       go_wp2_with (first | ((with_reducible refine gC_ (f:=42) rfl ?_);refine GL_ (some 31) rfl rfl Tryz.func42 #[.agg #[.slice A0_0 l0_0.length c0_0],.int .i64 x7_2] rfl (h:=?_);(with_reducible refine (z42.calls k2 _ _ l0_0 x7_2 t105 _ ?side1 ?side2 A17.out).mono ?_);(case side1=>exact KC_ (Kd.C_below HR0_0.out HB.out));(case side2=>exact HC0_0.out);rintro e w23 ⟨v106,rfl,ho0,hb⟩;refine ⟨_,rfl,?_⟩;have HO107:=Zz.mk (Kd.R_lower ho0 (bS_ (B1_ HB.out GE101.out)));replace BK101:=Zz.mk (kb_ BK101.out hb);replace HB:=Zz.mk (bT_ (B1_ HB.out GE101.out) hb);(try clear hb);(try clear ho0);obtain ⟨Ao24,co24,eo24⟩:=Kd.R_slice HO107.out;subst eo24))
       go_roundg k2
       case measure=>have:=HJ3.out;have:=HK2.out;omega
       case rel=>exact ⟨(wrap64 (x7_2+1)),E_,H',⟨by have:=HJ3.out;have:=HK2.out;omega⟩,⟨KB_ BK101.out⟩,⟨B1_ HB.out GE101.out⟩⟩
      rw [if_neg c16] at H
      have c16b0:decide (x7_2≤(wrap64 (a1+1)))=false:=decide_eq_false c16
      clear c16
      obtain rfl:=OI_ H
      go_wp2
      go_ret
      exact ⟨F_,B1_ HB.out GE101.out⟩
   replace c15:=Bool.eq_false_iff.mpr c15
   subst c15
   replace H:=N_ H
   obtain rfl:=OI_ H
   go_wp2_with (first | ((with_reducible refine gC_ (f:=71) rfl ?_);refine GL_ (some 19) rfl rfl Tryz.func71 #[.int .i64 a1] rfl (h:=?_);(with_reducible refine (z71.calls a1 false _ A14.out).mono ?_);rintro e w' ⟨rfl,⟨nd,rfl⟩⟩;refine ⟨_,rfl,?_⟩))
   go_ret
   exact ⟨F_,B1_ HB.out GE101.out⟩
def z38.f (k:Nat) (l0_0:List (List Int)) (a1:Int) (a2:Int) (l3:List Int):Option (Bool):=(z36.f k l0_0 a1 a2).bind fun bt102=>((z35.f k bt102.1 bt102.2.1 bt102.2.2.1 bt102.2.2.2 l3).bind fun t108=>((z72.f k t108).bind fun t111=>(some t111)))
theorem z38.calls (k:Nat) (A0_0:Option Addr) (c0_0:Nat) (l0_0:List (List Int)) (a1:Int) (a2:Int) (A3:Option Addr) (c3:Nat) (l3:List Int) (r:Bool) (w:World) (hr0_0:Kd.C (Kd.slice 2 (Kd.int .i64)) w A0_0 l0_0.length l0_0) (hc0_0:l0_0.length≤c0_0) (hr3:Kd.C (Kd.int .i64) w A3 l3.length l3) (hc3:l3.length≤c3) (h:z38.f k l0_0 a1 a2 l3=some r) :
  Calls Tryz.prog 38 #[.agg #[.slice A0_0 l0_0.length c0_0],.int .i64 a1,.int .i64 a2,.slice A3 l3.length c3] w fun e w'=>e=.returned (.bool r)∧Below w.heap.size w w':=by
 have hu26:=Tryz.underlying26
 have HR0_0:=Zz.mk hr0_0
 have HC0_0:=Zz.mk hc0_0
 clear hr0_0 hc0_0
 have HR3:=Zz.mk hr3
 have HC3:=Zz.mk hc3
 clear hr3 hc3
 have HB:=Zz.mk (Below.refl w.heap.size w)
 have H:((z36.f k l0_0 a1 a2).bind fun bt102=>((z35.f k bt102.1 bt102.2.1 bt102.2.2.1 bt102.2.2.2 l3).bind fun t108=>((z72.f k t108).bind fun t111=>(some t111))))=some r:=h
 clear h
 replace H:=OB_ H
 obtain ⟨⟨t102,t103,t104,t105⟩,A50,H⟩:=H
 try dsimp only at H
 have A5:=Zz.mk A50
 clear A50
 replace H:=OZ_ H
 obtain ⟨t108,A6,H⟩:=H
 replace H:=OZ_ H
 obtain ⟨t111,A7,H⟩:=H
 obtain rfl:=OI_ H
 go_enter Tryz.func38,Tryz.ntmps38
 go_wp2_with (first | ((with_reducible refine qAm (N:=4) rfl ?_);refine bx_ 4 #[.slice A0_0 l0_0.length c0_0] 26 ?_;intro gb101 hg w8 hbox hb;have BK101:=Zz.mk (hbox);have GW101:=Zz.mk ((gw_ hg (B_ HB.out)));have GE101:=GW101;replace HB:=Zz.mk (bT_ (B_ HB.out) hb);clear hb hbox hg;obtain ⟨hcz9_0,hfz9_0⟩:=Z1f_ BK101.out) | ((with_reducible refine gC_ (f:=36) rfl ?_);refine GL_ (some 12) rfl rfl Tryz.func36 #[.agg #[.slice A0_0 l0_0.length c0_0],.int .i64 a1,.int .i64 a2] rfl (h:=?_);(with_reducible refine (z36.calls k _ _ l0_0 a1 a2 t102 t103 t104 t105 _ ?side1 ?side2 A5.out).mono ?_);(case side1=>exact KC_ (Kd.C_below HR0_0.out HB.out));(case side2=>exact HC0_0.out);rintro e w10 ⟨v106,rfl,ho0,hb⟩;refine ⟨_,rfl,?_⟩;have HO107:=Zz.mk (Kd.R_lower ho0 (bS_ (B1_ HB.out GE101.out)));replace BK101:=Zz.mk (kb_ BK101.out hb);replace HB:=Zz.mk (bT_ (B1_ HB.out GE101.out) hb);(try clear hb);(try clear ho0);obtain ⟨Ao11,co11,eo11⟩:=Kd.R_slice HO107.out;subst eo11) | ((with_reducible refine gC_ (f:=35) rfl ?_);refine GL_ (some 14) rfl rfl Tryz.func35 #[.agg #[.int .i64 t102,.int .i64 t103,.int .i64 t104,.slice Ao11 t105.length co11],.slice A3 l3.length c3] rfl (h:=?_);(with_reducible refine (z35.calls k t102 t103 t104 _ _ t105 _ _ l3 t108 _ ?side1 ?side2 ?side3 ?side4 A6.out).mono ?_);(case side1=>exact KC_ (Kd.R_reads' HO107.out).2.2);(case side2=>exact (Kd.R_reads' HO107.out).2.1);(case side3=>exact KC_ (Kd.C_below HR3.out HB.out));(case side4=>exact HC3.out);rintro e w12 ⟨v109,rfl,ho0,hb⟩;refine ⟨_,rfl,?_⟩;have HO110:=Zz.mk (Kd.R_lower (Kd.R_new' ho0 (Kd.R_lt (KR_ HO107.out))) (bS_ (B1_ HB.out GE101.out)));replace HO107:=Zz.mk (Kd.R_elder' (KR_ HO107.out) (Kd.R_base ho0) hb);replace BK101:=Zz.mk (kb_ BK101.out hb);replace HB:=Zz.mk (bT_ (B1_ HB.out GE101.out) hb);(try clear hb);(try clear ho0);obtain ⟨Ao13,co13,eo13⟩:=Kd.R_slice HO110.out;subst eo13) | ((with_reducible refine gC_ (f:=72) rfl ?_);refine GL_ (some 15) rfl rfl Tryz.func72 #[.slice Ao13 t108.length co13] rfl (h:=?_);(with_reducible refine (z72.calls k _ _ t108 t111 _ ?side1 ?side2 A7.out).mono ?_);(case side1=>exact KC_ (Kd.R_reads' HO110.out).2.2);(case side2=>exact (Kd.R_reads' HO110.out).2.1);rintro e w14 ⟨rfl,hb⟩;refine ⟨_,rfl,?_⟩;replace HO107:=Zz.mk (Kd.R_below (KR_ HO107.out) hb);replace HO110:=Zz.mk (Kd.R_below (KR_ HO110.out) hb);replace BK101:=Zz.mk (kb_ BK101.out hb);replace HB:=Zz.mk (bT_ (B1_ HB.out GE101.out) hb);(try clear hb)))
 go_ret
 exact ⟨F_,B1_ HB.out GE101.out⟩
def z34.f (k:Nat) (l0_0:List (List Int)) (a1:Int) (a2:Int) (l3:List Int):Option (Int):=(z37.f k l0_0 a1 a2).bind fun t102=>(if t102=0 then ((z64.f k l0_0 a1 a2 l3).bind fun t103=>(if t103=true then (some 0) else (some 7))) else (some t102))
theorem z34.calls (k:Nat) (A0_0:Option Addr) (c0_0:Nat) (l0_0:List (List Int)) (a1:Int) (a2:Int) (A3:Option Addr) (c3:Nat) (l3:List Int) (r:Int) (w:World) (hr0_0:Kd.C (Kd.slice 2 (Kd.int .i64)) w A0_0 l0_0.length l0_0) (hc0_0:l0_0.length≤c0_0) (hr3:Kd.C (Kd.int .i64) w A3 l3.length l3) (hc3:l3.length≤c3) (h:z34.f k l0_0 a1 a2 l3=some r) :
  Calls Tryz.prog 34 #[.agg #[.slice A0_0 l0_0.length c0_0],.int .i64 a1,.int .i64 a2,.slice A3 l3.length c3] w fun e w'=>e=.returned (.int .i64 r)∧Below w.heap.size w w':=by
 have hu26:=Tryz.underlying26
 have HR0_0:=Zz.mk hr0_0
 have HC0_0:=Zz.mk hc0_0
 clear hr0_0 hc0_0
 have HR3:=Zz.mk hr3
 have HC3:=Zz.mk hc3
 clear hr3 hc3
 have HB:=Zz.mk (Below.refl w.heap.size w)
 have H:((z37.f k l0_0 a1 a2).bind fun t102=>(if t102=0 then ((z64.f k l0_0 a1 a2 l3).bind fun t103=>(if t103=true then (some 0) else (some 7))) else (some t102)))=some r:=h
 clear h
 replace H:=OZ_ H
 obtain ⟨t102,A5,H⟩:=H
 by_cases c6:t102=0
 ·rw [if_pos c6] at H
  have c6b0:(t102 == 0)=true:=beq_iff_eq.mpr c6
  have c6b1:(t102 != 0)=false:=bne_eq_false_iff_eq.mpr c6
  clear c6
  replace H:=OZ_ H
  obtain ⟨t103,A7,H⟩:=H
  by_cases c8:t103=true
  ·subst c8
   replace H:=T_ H
   obtain rfl:=OI_ H
   go_enter Tryz.func34,Tryz.ntmps34
   go_wp2_with (first | ((with_reducible refine qAm (N:=4) rfl ?_);refine bx_ 4 #[.slice A0_0 l0_0.length c0_0] 26 ?_;intro gb101 hg w9 hbox hb;have BK101:=Zz.mk (hbox);have GW101:=Zz.mk ((gw_ hg (B_ HB.out)));have GE101:=GW101;replace HB:=Zz.mk (bT_ (B_ HB.out) hb);clear hb hbox hg;obtain ⟨hcz10_0,hfz10_0⟩:=Z1f_ BK101.out) | ((with_reducible refine gC_ (f:=37) rfl ?_);refine GL_ (some 13) rfl rfl Tryz.func37 #[.agg #[.slice A0_0 l0_0.length c0_0],.int .i64 a1,.int .i64 a2] rfl (h:=?_);(with_reducible refine (z37.calls k _ _ l0_0 a1 a2 t102 _ ?side1 ?side2 A5.out).mono ?_);(case side1=>exact KC_ (Kd.C_below HR0_0.out HB.out));(case side2=>exact HC0_0.out);rintro e w11 ⟨rfl,hb⟩;refine ⟨_,rfl,?_⟩;replace BK101:=Zz.mk (kb_ BK101.out hb);replace HB:=Zz.mk (bT_ (B1_ HB.out GE101.out) hb);(try clear hb);obtain ⟨hcz12_0,hfz12_0⟩:=Z1f_ BK101.out) | ((with_reducible refine gC_ (f:=64) rfl ?_);refine GL_ (some 21) rfl rfl Tryz.func64 #[.agg #[.slice A0_0 l0_0.length c0_0],.int .i64 a1,.int .i64 a2,.slice A3 l3.length c3] rfl (h:=?_);(with_reducible refine (z64.calls k _ _ l0_0 a1 a2 _ _ l3 true _ ?side1 ?side2 ?side3 ?side4 A7.out).mono ?_);(case side1=>exact KC_ (Kd.C_below HR0_0.out HB.out));(case side2=>exact HC0_0.out);(case side3=>exact KC_ (Kd.C_below HR3.out HB.out));(case side4=>exact HC3.out);rintro e w13 ⟨rfl,hb⟩;refine ⟨_,rfl,?_⟩;replace BK101:=Zz.mk (kb_ BK101.out hb);replace HB:=Zz.mk (bT_ (B1_ HB.out GE101.out) hb);(try clear hb)))
   go_ret
   exact ⟨F_,B1_ HB.out GE101.out⟩
  replace c8:=Bool.eq_false_iff.mpr c8
  subst c8
  replace H:=N_ H
  obtain rfl:=OI_ H
  go_enter Tryz.func34,Tryz.ntmps34
  go_wp2_with (first | ((with_reducible refine qAm (N:=4) rfl ?_);refine bx_ 4 #[.slice A0_0 l0_0.length c0_0] 26 ?_;intro gb101 hg w14 hbox hb;have BK101:=Zz.mk (hbox);have GW101:=Zz.mk ((gw_ hg (B_ HB.out)));have GE101:=GW101;replace HB:=Zz.mk (bT_ (B_ HB.out) hb);clear hb hbox hg;obtain ⟨hcz15_0,hfz15_0⟩:=Z1f_ BK101.out) | ((with_reducible refine gC_ (f:=37) rfl ?_);refine GL_ (some 13) rfl rfl Tryz.func37 #[.agg #[.slice A0_0 l0_0.length c0_0],.int .i64 a1,.int .i64 a2] rfl (h:=?_);(with_reducible refine (z37.calls k _ _ l0_0 a1 a2 t102 _ ?side1 ?side2 A5.out).mono ?_);(case side1=>exact KC_ (Kd.C_below HR0_0.out HB.out));(case side2=>exact HC0_0.out);rintro e w16 ⟨rfl,hb⟩;refine ⟨_,rfl,?_⟩;replace BK101:=Zz.mk (kb_ BK101.out hb);replace HB:=Zz.mk (bT_ (B1_ HB.out GE101.out) hb);(try clear hb);obtain ⟨hcz17_0,hfz17_0⟩:=Z1f_ BK101.out) | ((with_reducible refine gC_ (f:=64) rfl ?_);refine GL_ (some 21) rfl rfl Tryz.func64 #[.agg #[.slice A0_0 l0_0.length c0_0],.int .i64 a1,.int .i64 a2,.slice A3 l3.length c3] rfl (h:=?_);(with_reducible refine (z64.calls k _ _ l0_0 a1 a2 _ _ l3 false _ ?side1 ?side2 ?side3 ?side4 A7.out).mono ?_);(case side1=>exact KC_ (Kd.C_below HR0_0.out HB.out));(case side2=>exact HC0_0.out);(case side3=>exact KC_ (Kd.C_below HR3.out HB.out));(case side4=>exact HC3.out);rintro e w18 ⟨rfl,hb⟩;refine ⟨_,rfl,?_⟩;replace BK101:=Zz.mk (kb_ BK101.out hb);replace HB:=Zz.mk (bT_ (B1_ HB.out GE101.out) hb);(try clear hb)))
  go_ret
  exact ⟨F_,B1_ HB.out GE101.out⟩
 rw [if_neg c6] at H
 have c6b0:(t102 == 0)=false:=beq_eq_false_iff_ne.mpr c6
 have c6b1:(t102 != 0)=true:=bne_iff_ne.mpr c6
 obtain rfl:=OI_ H
 go_enter Tryz.func34,Tryz.ntmps34
 go_wp2_with (first | ((with_reducible refine qAm (N:=4) rfl ?_);refine bx_ 4 #[.slice A0_0 l0_0.length c0_0] 26 ?_;intro gb101 hg w19 hbox hb;have BK101:=Zz.mk (hbox);have GW101:=Zz.mk ((gw_ hg (B_ HB.out)));have GE101:=GW101;replace HB:=Zz.mk (bT_ (B_ HB.out) hb);clear hb hbox hg;obtain ⟨hcz20_0,hfz20_0⟩:=Z1f_ BK101.out) | ((with_reducible refine gC_ (f:=37) rfl ?_);refine GL_ (some 13) rfl rfl Tryz.func37 #[.agg #[.slice A0_0 l0_0.length c0_0],.int .i64 a1,.int .i64 a2] rfl (h:=?_);(with_reducible refine (z37.calls k _ _ l0_0 a1 a2 t102 _ ?side1 ?side2 A5.out).mono ?_);(case side1=>exact KC_ (Kd.C_below HR0_0.out HB.out));(case side2=>exact HC0_0.out);rintro e w21 ⟨rfl,hb⟩;refine ⟨_,rfl,?_⟩;replace BK101:=Zz.mk (kb_ BK101.out hb);replace HB:=Zz.mk (bT_ (B1_ HB.out GE101.out) hb);(try clear hb)))
 go_ret
 exact ⟨F_,B1_ HB.out GE101.out⟩
def z41.f (k:Nat) (l0_0:List (List Int)) (a1:Int) (a2:Int) (l3:List Int):Option (List Int × Bool):=(z36.f k l0_0 (wrap64 (a1+1)) a2).bind fun bt102=>((z75.f k bt102.1 bt102.2.1 bt102.2.2.1 bt102.2.2.2 l3).bind fun bt108=>(some (bt108.1,bt108.2)))
theorem z41.calls (k:Nat) (A0_0:Option Addr) (c0_0:Nat) (l0_0:List (List Int)) (a1:Int) (a2:Int) (A3:Option Addr) (c3:Nat) (l3:List Int) (r1:List Int) (r2:Bool) (w:World) (hr0_0:Kd.C (Kd.slice 2 (Kd.int .i64)) w A0_0 l0_0.length l0_0) (hc0_0:l0_0.length≤c0_0) (hr3:Kd.C (Kd.int .i64) w A3 l3.length l3) (hc3:l3.length≤c3) (h:z41.f k l0_0 a1 a2 l3=some (r1,r2)) :
  Calls Tryz.prog 41 #[.agg #[.slice A0_0 l0_0.length c0_0],.int .i64 a1,.int .i64 a2,.slice A3 l3.length c3] w fun e w'=>∃ v0_:Value,e=.returned (.tuple #[v0_,.bool r2])∧Kd.R (Kd.int .i64) 2 w' w.heap.size (fun _=>True) v0_ r1∧Below w.heap.size w w':=by
 have hu26:=Tryz.underlying26
 have HR0_0:=Zz.mk hr0_0
 have HC0_0:=Zz.mk hc0_0
 clear hr0_0 hc0_0
 have HR3:=Zz.mk hr3
 have HC3:=Zz.mk hc3
 clear hr3 hc3
 have HB:=Zz.mk (Below.refl w.heap.size w)
 have H:((z36.f k l0_0 (wrap64 (a1+1)) a2).bind fun bt102=>((z75.f k bt102.1 bt102.2.1 bt102.2.2.1 bt102.2.2.2 l3).bind fun bt108=>(some (bt108.1,bt108.2))))=some (r1,r2):=h
 clear h
 replace H:=OB_ H
 obtain ⟨⟨t102,t103,t104,t105⟩,A50,H⟩:=H
 replace H:((z75.f k t102 t103 t104 t105 l3).bind fun bt108=>(some (bt108.1,bt108.2)))=some (r1,r2):=H
 have A5:=Zz.mk A50
 clear A50
 replace H:=OB_ H
 obtain ⟨⟨t108,t111⟩,A60,H⟩:=H
 replace H:(some (t108,t111))=some (r1,r2):=H
 have A6:=Zz.mk A60
 clear A60
 simp only [Option.some.injEq,Prod.mk.injEq] at H
 obtain ⟨rfl,rfl⟩:=H
 go_enter Tryz.func41,Tryz.ntmps41
 go_wp2_with (first | ((with_reducible refine qAm (N:=4) rfl ?_);refine bx_ 4 #[.slice A0_0 l0_0.length c0_0] 26 ?_;intro gb101 hg w7 hbox hb;have BK101:=Zz.mk (hbox);have GW101:=Zz.mk ((gw_ hg (B_ HB.out)));have GE101:=GW101;replace HB:=Zz.mk (bT_ (B_ HB.out) hb);clear hb hbox hg;obtain ⟨hcz8_0,hfz8_0⟩:=Z1f_ BK101.out) | ((with_reducible refine gC_ (f:=36) rfl ?_);refine GL_ (some 14) rfl rfl Tryz.func36 #[.agg #[.slice A0_0 l0_0.length c0_0],.int .i64 (wrap64 (a1+1)),.int .i64 a2] rfl (h:=?_);(with_reducible refine (z36.calls k _ _ l0_0 (wrap64 (a1+1)) a2 t102 t103 t104 t105 _ ?side1 ?side2 A5.out).mono ?_);(case side1=>exact KC_ (Kd.C_below HR0_0.out HB.out));(case side2=>exact HC0_0.out);rintro e w9 ⟨v106,rfl,ho0,hb⟩;refine ⟨_,rfl,?_⟩;have HO107:=Zz.mk (Kd.R_lower ho0 (bS_ (B1_ HB.out GE101.out)));replace BK101:=Zz.mk (kb_ BK101.out hb);replace HB:=Zz.mk (bT_ (B1_ HB.out GE101.out) hb);(try clear hb);(try clear ho0);obtain ⟨Ao10,co10,eo10⟩:=Kd.R_slice HO107.out;subst eo10) | ((with_reducible refine gC_ (f:=75) rfl ?_);refine GL_ (some 16) rfl rfl Tryz.func75 #[.agg #[.int .i64 t102,.int .i64 t103,.int .i64 t104,.slice Ao10 t105.length co10],.slice A3 l3.length c3] rfl (h:=?_);(with_reducible refine (z75.calls k t102 t103 t104 _ _ t105 _ _ l3 t108 t111 _ ?side1 ?side2 ?side3 ?side4 A6.out).mono ?_);(case side1=>exact KC_ (Kd.R_reads' HO107.out).2.2);(case side2=>exact (Kd.R_reads' HO107.out).2.1);(case side3=>exact KC_ (Kd.C_below HR3.out HB.out));(case side4=>exact HC3.out);rintro e w11 ⟨v109,rfl,ho0,hb⟩;refine ⟨_,rfl,?_⟩;have HO110:=Zz.mk (Kd.R_lower (Kd.R_new' ho0 (Kd.R_lt (KR_ HO107.out))) (bS_ (B1_ HB.out GE101.out)));replace HO107:=Zz.mk (Kd.R_elder' (KR_ HO107.out) (Kd.R_base ho0) hb);replace BK101:=Zz.mk (kb_ BK101.out hb);replace HB:=Zz.mk (bT_ (B1_ HB.out GE101.out) hb);(try clear hb);(try clear ho0)))
 go_ret2
 exact ⟨_,F_,by refine RW_ ?_;exact Kd.R_mono HO110.out (fun _ hk=>trivial),B1_ HB.out GE101.out⟩
def z16.f (k:Nat) (l0_0:List (List Int)) (a1:Int) (a2:Int) (l3:List Int):Option (List Int × Int):=(z34.f k l0_0 a1 a2 l3).bind fun t102=>(if t102=0 then ((z41.f k l0_0 a1 a2 l3).bind fun bt103=>(if bt103.2=true then (some (bt103.1,0)) else (some (([]:List Int),3)))) else (some (([]:List Int),t102)))
theorem z16.calls (k:Nat) (A0_0:Option Addr) (c0_0:Nat) (l0_0:List (List Int)) (a1:Int) (a2:Int) (A3:Option Addr) (c3:Nat) (l3:List Int) (r1:List Int) (r2:Int) (w:World) (hr0_0:Kd.C (Kd.slice 2 (Kd.int .i64)) w A0_0 l0_0.length l0_0) (hc0_0:l0_0.length≤c0_0) (hr3:Kd.C (Kd.int .i64) w A3 l3.length l3) (hc3:l3.length≤c3) (h:z16.f k l0_0 a1 a2 l3=some (r1,r2)) :
  Calls Tryz.prog 16 #[.agg #[.slice A0_0 l0_0.length c0_0],.int .i64 a1,.int .i64 a2,.slice A3 l3.length c3] w fun e w'=>∃ v0_:Value,e=.returned (.tuple #[v0_,.int .i64 r2])∧Kd.R (Kd.int .i64) 2 w' w.heap.size (fun _=>True) v0_ r1∧Below w.heap.size w w':=by
 have hu26:=Tryz.underlying26
 have HR0_0:=Zz.mk hr0_0
 have HC0_0:=Zz.mk hc0_0
 clear hr0_0 hc0_0
 have HR3:=Zz.mk hr3
 have HC3:=Zz.mk hc3
 clear hr3 hc3
 have HB:=Zz.mk (Below.refl w.heap.size w)
 have H:((z34.f k l0_0 a1 a2 l3).bind fun t102=>(if t102=0 then ((z41.f k l0_0 a1 a2 l3).bind fun bt103=>(if bt103.2=true then (some (bt103.1,0)) else (some (([]:List Int),3)))) else (some (([]:List Int),t102))))=some (r1,r2):=h
 clear h
 replace H:=OB_ H
 obtain ⟨t102,A50,H⟩:=H
 replace H:(if t102=0 then ((z41.f k l0_0 a1 a2 l3).bind fun bt103=>(if bt103.2=true then (some (bt103.1,0)) else (some (([]:List Int),3)))) else (some (([]:List Int),t102)))=some (r1,r2):=H
 have A5:=Zz.mk A50
 clear A50
 by_cases c6:t102=0
 ·rw [if_pos c6] at H
  have c6b0:(t102 == 0)=true:=beq_iff_eq.mpr c6
  have c6b1:(t102 != 0)=false:=bne_eq_false_iff_eq.mpr c6
  clear c6
  replace H:=OB_ H
  obtain ⟨⟨t103,t106⟩,A70,H⟩:=H
  replace H:(if t106=true then (some (t103,0)) else (some (([]:List Int),3)))=some (r1,r2):=H
  have A7:=Zz.mk A70
  clear A70
  by_cases c8:t106=true
  ·subst c8
   have H1:(some (t103,0))=some (r1,r2):=by rw [if_pos rfl] at H;exact H
   clear H
   have H:=H1
   clear H1
   simp only [Option.some.injEq,Prod.mk.injEq] at H
   obtain ⟨rfl,rfl⟩:=H
   go_enter Tryz.func16,Tryz.ntmps16
   go_wp2_with (first | ((with_reducible refine qAm (N:=4) rfl ?_);refine bx_ 4 #[.slice A0_0 l0_0.length c0_0] 26 ?_;intro gb101 hg w9 hbox hb;have BK101:=Zz.mk (hbox);have GW101:=Zz.mk ((gw_ hg (B_ HB.out)));have GE101:=GW101;replace HB:=Zz.mk (bT_ (B_ HB.out) hb);clear hb hbox hg;obtain ⟨hcz10_0,hfz10_0⟩:=Z1f_ BK101.out) | ((with_reducible refine gC_ (f:=34) rfl ?_);refine GL_ (some 17) rfl rfl Tryz.func34 #[.agg #[.slice A0_0 l0_0.length c0_0],.int .i64 a1,.int .i64 a2,.slice A3 l3.length c3] rfl (h:=?_);(with_reducible refine (z34.calls k _ _ l0_0 a1 a2 _ _ l3 t102 _ ?side1 ?side2 ?side3 ?side4 A5.out).mono ?_);(case side1=>exact KC_ (Kd.C_below HR0_0.out HB.out));(case side2=>exact HC0_0.out);(case side3=>exact KC_ (Kd.C_below HR3.out HB.out));(case side4=>exact HC3.out);rintro e w11 ⟨rfl,hb⟩;refine ⟨_,rfl,?_⟩;replace BK101:=Zz.mk (kb_ BK101.out hb);replace HB:=Zz.mk (bT_ (B1_ HB.out GE101.out) hb);(try clear hb);obtain ⟨hcz12_0,hfz12_0⟩:=Z1f_ BK101.out) | ((with_reducible refine gC_ (f:=41) rfl ?_);refine GL_ (some 26) rfl rfl Tryz.func41 #[.agg #[.slice A0_0 l0_0.length c0_0],.int .i64 a1,.int .i64 a2,.slice A3 l3.length c3] rfl (h:=?_);(with_reducible refine (z41.calls k _ _ l0_0 a1 a2 _ _ l3 t103 true _ ?side1 ?side2 ?side3 ?side4 A7.out).mono ?_);(case side1=>exact KC_ (Kd.C_below HR0_0.out HB.out));(case side2=>exact HC0_0.out);(case side3=>exact KC_ (Kd.C_below HR3.out HB.out));(case side4=>exact HC3.out);rintro e w13 ⟨v104,rfl,ho0,hb⟩;refine ⟨_,rfl,?_⟩;have HO105:=Zz.mk (Kd.R_lower ho0 (bS_ (B1_ HB.out GE101.out)));replace BK101:=Zz.mk (kb_ BK101.out hb);replace HB:=Zz.mk (bT_ (B1_ HB.out GE101.out) hb);(try clear hb);(try clear ho0)))
   go_ret2
   exact ⟨_,F_,KR_ HO105.out,B1_ HB.out GE101.out⟩
  replace c8:=Bool.eq_false_iff.mpr c8
  subst c8
  have H1:(some (([]:List Int),3))=some (r1,r2):=by rw [if_neg (show ¬ (false=true) by decide)] at H;exact H
  clear H
  have H:=H1
  clear H1
  simp only [Option.some.injEq,Prod.mk.injEq] at H
  obtain ⟨rfl,rfl⟩:=H
  go_enter Tryz.func16,Tryz.ntmps16
  go_wp2_with (first | ((with_reducible refine qAm (N:=4) rfl ?_);refine bx_ 4 #[.slice A0_0 l0_0.length c0_0] 26 ?_;intro gb101 hg w14 hbox hb;have BK101:=Zz.mk (hbox);have GW101:=Zz.mk ((gw_ hg (B_ HB.out)));have GE101:=GW101;replace HB:=Zz.mk (bT_ (B_ HB.out) hb);clear hb hbox hg;obtain ⟨hcz15_0,hfz15_0⟩:=Z1f_ BK101.out) | ((with_reducible refine gC_ (f:=34) rfl ?_);refine GL_ (some 17) rfl rfl Tryz.func34 #[.agg #[.slice A0_0 l0_0.length c0_0],.int .i64 a1,.int .i64 a2,.slice A3 l3.length c3] rfl (h:=?_);(with_reducible refine (z34.calls k _ _ l0_0 a1 a2 _ _ l3 t102 _ ?side1 ?side2 ?side3 ?side4 A5.out).mono ?_);(case side1=>exact KC_ (Kd.C_below HR0_0.out HB.out));(case side2=>exact HC0_0.out);(case side3=>exact KC_ (Kd.C_below HR3.out HB.out));(case side4=>exact HC3.out);rintro e w16 ⟨rfl,hb⟩;refine ⟨_,rfl,?_⟩;replace BK101:=Zz.mk (kb_ BK101.out hb);replace HB:=Zz.mk (bT_ (B1_ HB.out GE101.out) hb);(try clear hb);obtain ⟨hcz17_0,hfz17_0⟩:=Z1f_ BK101.out) | ((with_reducible refine gC_ (f:=41) rfl ?_);refine GL_ (some 26) rfl rfl Tryz.func41 #[.agg #[.slice A0_0 l0_0.length c0_0],.int .i64 a1,.int .i64 a2,.slice A3 l3.length c3] rfl (h:=?_);(with_reducible refine (z41.calls k _ _ l0_0 a1 a2 _ _ l3 t103 false _ ?side1 ?side2 ?side3 ?side4 A7.out).mono ?_);(case side1=>exact KC_ (Kd.C_below HR0_0.out HB.out));(case side2=>exact HC0_0.out);(case side3=>exact KC_ (Kd.C_below HR3.out HB.out));(case side4=>exact HC3.out);rintro e w18 ⟨v104,rfl,ho0,hb⟩;refine ⟨_,rfl,?_⟩;have HO105:=Zz.mk (Kd.R_lower ho0 (bS_ (B1_ HB.out GE101.out)));replace BK101:=Zz.mk (kb_ BK101.out hb);replace HB:=Zz.mk (bT_ (B1_ HB.out GE101.out) hb);(try clear hb);(try clear ho0)))
  go_ret2
  exact ⟨_,F_,by first | exact Kd.R_nil _ _ _ _ _ | exact Kd.N_nil _ _ _ _ _ | exact Kd.V_nil _ _ _ _ _ | exact Kd.Q_nil _ _ _ _ _ | exact Kd.S_nil _ _ _ _ _,B1_ HB.out GE101.out⟩
 rw [if_neg c6] at H
 have c6b0:(t102 == 0)=false:=beq_eq_false_iff_ne.mpr c6
 have c6b1:(t102 != 0)=true:=bne_iff_ne.mpr c6
 simp only [Option.some.injEq,Prod.mk.injEq] at H
 obtain ⟨rfl,rfl⟩:=H
 go_enter Tryz.func16,Tryz.ntmps16
 go_wp2_with (first | ((with_reducible refine qAm (N:=4) rfl ?_);refine bx_ 4 #[.slice A0_0 l0_0.length c0_0] 26 ?_;intro gb101 hg w19 hbox hb;have BK101:=Zz.mk (hbox);have GW101:=Zz.mk ((gw_ hg (B_ HB.out)));have GE101:=GW101;replace HB:=Zz.mk (bT_ (B_ HB.out) hb);clear hb hbox hg;obtain ⟨hcz20_0,hfz20_0⟩:=Z1f_ BK101.out) | ((with_reducible refine gC_ (f:=34) rfl ?_);refine GL_ (some 17) rfl rfl Tryz.func34 #[.agg #[.slice A0_0 l0_0.length c0_0],.int .i64 a1,.int .i64 a2,.slice A3 l3.length c3] rfl (h:=?_);(with_reducible refine (z34.calls k _ _ l0_0 a1 a2 _ _ l3 t102 _ ?side1 ?side2 ?side3 ?side4 A5.out).mono ?_);(case side1=>exact KC_ (Kd.C_below HR0_0.out HB.out));(case side2=>exact HC0_0.out);(case side3=>exact KC_ (Kd.C_below HR3.out HB.out));(case side4=>exact HC3.out);rintro e w21 ⟨rfl,hb⟩;refine ⟨_,rfl,?_⟩;replace BK101:=Zz.mk (kb_ BK101.out hb);replace HB:=Zz.mk (bT_ (B1_ HB.out GE101.out) hb);(try clear hb)))
 go_ret2
 exact ⟨_,F_,by first | exact Kd.R_nil _ _ _ _ _ | exact Kd.N_nil _ _ _ _ _ | exact Kd.V_nil _ _ _ _ _ | exact Kd.Q_nil _ _ _ _ _ | exact Kd.S_nil _ _ _ _ _,B1_ HB.out GE101.out⟩
def z14.f (k:Nat) (l0_0:List (List Int)) (a1:Int) (a2:Int) (l3:List Int):Option (Bool):=(z16.f k l0_0 a1 a2 l3).bind fun bt102=>(some (bt102.2 == 0))
theorem z14.calls (k:Nat) (A0_0:Option Addr) (c0_0:Nat) (l0_0:List (List Int)) (a1:Int) (a2:Int) (A3:Option Addr) (c3:Nat) (l3:List Int) (r:Bool) (w:World) (hr0_0:Kd.C (Kd.slice 2 (Kd.int .i64)) w A0_0 l0_0.length l0_0) (hc0_0:l0_0.length≤c0_0) (hr3:Kd.C (Kd.int .i64) w A3 l3.length l3) (hc3:l3.length≤c3) (h:z14.f k l0_0 a1 a2 l3=some r) :
  Calls Tryz.prog 14 #[.agg #[.slice A0_0 l0_0.length c0_0],.int .i64 a1,.int .i64 a2,.slice A3 l3.length c3] w fun e w'=>e=.returned (.bool r)∧Below w.heap.size w w':=by
 have hu26:=Tryz.underlying26
 have HR0_0:=Zz.mk hr0_0
 have HC0_0:=Zz.mk hc0_0
 clear hr0_0 hc0_0
 have HR3:=Zz.mk hr3
 have HC3:=Zz.mk hc3
 clear hr3 hc3
 have HB:=Zz.mk (Below.refl w.heap.size w)
 have H:((z16.f k l0_0 a1 a2 l3).bind fun bt102=>(some (bt102.2 == 0)))=some r:=h
 clear h
 replace H:=OB_ H
 obtain ⟨⟨t102,t105⟩,A50,H⟩:=H
 try dsimp only at H
 have A5:=Zz.mk A50
 clear A50
 obtain rfl:=OI_ H
 go_enter Tryz.func14,Tryz.ntmps14
 go_wp2_with (first | ((with_reducible refine qAm (N:=4) rfl ?_);refine bx_ 4 #[.slice A0_0 l0_0.length c0_0] 26 ?_;intro gb101 hg w6 hbox hb;have BK101:=Zz.mk (hbox);have GW101:=Zz.mk ((gw_ hg (B_ HB.out)));have GE101:=GW101;replace HB:=Zz.mk (bT_ (B_ HB.out) hb);clear hb hbox hg;obtain ⟨hcz7_0,hfz7_0⟩:=Z1f_ BK101.out) | ((with_reducible refine gC_ (f:=16) rfl ?_);refine GL_ (some 16) rfl rfl Tryz.func16 #[.agg #[.slice A0_0 l0_0.length c0_0],.int .i64 a1,.int .i64 a2,.slice A3 l3.length c3] rfl (h:=?_);(with_reducible refine (z16.calls k _ _ l0_0 a1 a2 _ _ l3 t102 t105 _ ?side1 ?side2 ?side3 ?side4 A5.out).mono ?_);(case side1=>exact KC_ (Kd.C_below HR0_0.out HB.out));(case side2=>exact HC0_0.out);(case side3=>exact KC_ (Kd.C_below HR3.out HB.out));(case side4=>exact HC3.out);rintro e w8 ⟨v103,rfl,ho0,hb⟩;refine ⟨_,rfl,?_⟩;have HO104:=Zz.mk (Kd.R_lower ho0 (bS_ (B1_ HB.out GE101.out)));replace BK101:=Zz.mk (kb_ BK101.out hb);replace HB:=Zz.mk (bT_ (B1_ HB.out GE101.out) hb);(try clear hb);(try clear ho0)))
 go_ret
 exact ⟨F_,B1_ HB.out GE101.out⟩
def z13.f (k:Nat) (l0_0:List (List Int)) (a1:Int) (a2:Int) (l3:List Int):Option (Bool):=(z34.f k l0_0 a1 a2 l3).bind fun t102=>(if t102=0 then ((z38.f k l0_0 a1 a2 l3).bind fun t103=>(some t103)) else (some false))
theorem z13.calls (k:Nat) (A0_0:Option Addr) (c0_0:Nat) (l0_0:List (List Int)) (a1:Int) (a2:Int) (A3:Option Addr) (c3:Nat) (l3:List Int) (r:Bool) (w:World) (hr0_0:Kd.C (Kd.slice 2 (Kd.int .i64)) w A0_0 l0_0.length l0_0) (hc0_0:l0_0.length≤c0_0) (hr3:Kd.C (Kd.int .i64) w A3 l3.length l3) (hc3:l3.length≤c3) (h:z13.f k l0_0 a1 a2 l3=some r) :
  Calls Tryz.prog 13 #[.agg #[.slice A0_0 l0_0.length c0_0],.int .i64 a1,.int .i64 a2,.slice A3 l3.length c3] w fun e w'=>e=.returned (.bool r)∧Below w.heap.size w w':=by
 have hu26:=Tryz.underlying26
 have HR0_0:=Zz.mk hr0_0
 have HC0_0:=Zz.mk hc0_0
 clear hr0_0 hc0_0
 have HR3:=Zz.mk hr3
 have HC3:=Zz.mk hc3
 clear hr3 hc3
 have HB:=Zz.mk (Below.refl w.heap.size w)
 have H:((z34.f k l0_0 a1 a2 l3).bind fun t102=>(if t102=0 then ((z38.f k l0_0 a1 a2 l3).bind fun t103=>(some t103)) else (some false)))=some r:=h
 clear h
 replace H:=OZ_ H
 obtain ⟨t102,A5,H⟩:=H
 by_cases c6:t102=0
 ·rw [if_pos c6] at H
  have c6b0:(t102 == 0)=true:=beq_iff_eq.mpr c6
  have c6b1:(t102 != 0)=false:=bne_eq_false_iff_eq.mpr c6
  clear c6
  replace H:=OZ_ H
  obtain ⟨t103,A7,H⟩:=H
  obtain rfl:=OI_ H
  go_enter Tryz.func13,Tryz.ntmps13
  go_wp2_with (first | ((with_reducible refine qAm (N:=4) rfl ?_);refine bx_ 4 #[.slice A0_0 l0_0.length c0_0] 26 ?_;intro gb101 hg w8 hbox hb;have BK101:=Zz.mk (hbox);have GW101:=Zz.mk ((gw_ hg (B_ HB.out)));have GE101:=GW101;replace HB:=Zz.mk (bT_ (B_ HB.out) hb);clear hb hbox hg;obtain ⟨hcz9_0,hfz9_0⟩:=Z1f_ BK101.out) | ((with_reducible refine gC_ (f:=34) rfl ?_);refine GL_ (some 13) rfl rfl Tryz.func34 #[.agg #[.slice A0_0 l0_0.length c0_0],.int .i64 a1,.int .i64 a2,.slice A3 l3.length c3] rfl (h:=?_);(with_reducible refine (z34.calls k _ _ l0_0 a1 a2 _ _ l3 t102 _ ?side1 ?side2 ?side3 ?side4 A5.out).mono ?_);(case side1=>exact KC_ (Kd.C_below HR0_0.out HB.out));(case side2=>exact HC0_0.out);(case side3=>exact KC_ (Kd.C_below HR3.out HB.out));(case side4=>exact HC3.out);rintro e w10 ⟨rfl,hb⟩;refine ⟨_,rfl,?_⟩;replace BK101:=Zz.mk (kb_ BK101.out hb);replace HB:=Zz.mk (bT_ (B1_ HB.out GE101.out) hb);(try clear hb);obtain ⟨hcz11_0,hfz11_0⟩:=Z1f_ BK101.out) | (go_at_call 38;(with_reducible refine (z38.calls k _ _ l0_0 a1 a2 _ _ l3 t103 _ ?side1 ?side2 ?side3 ?side4 A7.out).mono ?_);(case side1=>exact KC_ (Kd.C_below HR0_0.out HB.out));(case side2=>exact HC0_0.out);(case side3=>exact KC_ (Kd.C_below HR3.out HB.out));(case side4=>exact HC3.out);rintro e w12 ⟨rfl,hb⟩;replace BK101:=Zz.mk (kb_ BK101.out hb);replace HB:=Zz.mk (bT_ (B1_ HB.out GE101.out) hb);(try clear hb)))
  go_ret
  exact ⟨F_,B1_ HB.out GE101.out⟩
 rw [if_neg c6] at H
 have c6b0:(t102 == 0)=false:=beq_eq_false_iff_ne.mpr c6
 have c6b1:(t102 != 0)=true:=bne_iff_ne.mpr c6
 obtain rfl:=OI_ H
 go_enter Tryz.func13,Tryz.ntmps13
 go_wp2_with (first | ((with_reducible refine qAm (N:=4) rfl ?_);refine bx_ 4 #[.slice A0_0 l0_0.length c0_0] 26 ?_;intro gb101 hg w13 hbox hb;have BK101:=Zz.mk (hbox);have GW101:=Zz.mk ((gw_ hg (B_ HB.out)));have GE101:=GW101;replace HB:=Zz.mk (bT_ (B_ HB.out) hb);clear hb hbox hg;obtain ⟨hcz14_0,hfz14_0⟩:=Z1f_ BK101.out) | ((with_reducible refine gC_ (f:=34) rfl ?_);refine GL_ (some 13) rfl rfl Tryz.func34 #[.agg #[.slice A0_0 l0_0.length c0_0],.int .i64 a1,.int .i64 a2,.slice A3 l3.length c3] rfl (h:=?_);(with_reducible refine (z34.calls k _ _ l0_0 a1 a2 _ _ l3 t102 _ ?side1 ?side2 ?side3 ?side4 A5.out).mono ?_);(case side1=>exact KC_ (Kd.C_below HR0_0.out HB.out));(case side2=>exact HC0_0.out);(case side3=>exact KC_ (Kd.C_below HR3.out HB.out));(case side4=>exact HC3.out);rintro e w15 ⟨rfl,hb⟩;refine ⟨_,rfl,?_⟩;replace BK101:=Zz.mk (kb_ BK101.out hb);replace HB:=Zz.mk (bT_ (B1_ HB.out GE101.out) hb);(try clear hb)))
 go_ret
 exact ⟨F_,B1_ HB.out GE101.out⟩
end Go.Proofs.YtpgjfppbbbnclaaGreat.B
