/- Printed by a program of this work over the kit's printer. -/
import Derived.Test.YtpgjfppbbbnclaaGreatKAGKMFE0
import Derived.Test.YtpgjfppbbbnclaaGreatKIFGODB0
import Derived.Test.YtpgjfppbbbnclaaGreatKIFGODB1
import Derived.Test.YtpgjfppbbbnclaaGreatKLHEKGE0
import Derived.Test.YtpgjfppbbbnclaaGreatKMBKBJN0
import Derived.Test.YtpgjfppbbbnclaaGreatKW0
set_option linter.unusedVariables false
set_option linter.unusedSimpArgs false
open Go.RowKit Go.Proofs.YtpgjfppbbbnclaaGreatW.PrintWords
set_option maxHeartbeats 8000000
set_option maxRecDepth 100000
namespace Go.Proofs.YtpgjfppbbbnclaaGreat.B
open Go.Proofs.YtpgjfppbbbnclaaGreatW.PrintLast Go.Proofs.YtpgjfppbbbnclaaGreatW.PrintMore
attribute [local go_sem] qAq qAo qAu qAt qAl qAk qAp qAn
def z12.f (k:Nat) (l0_0:List (List Int)) (a1:Int) (a2:Int):Option (Int × Int × Int × List Int × Int):=(z37.f k l0_0 a1 a2).bind fun t103=>(if t103=0 then ((z36.f k l0_0 a1 a2).bind fun bt104=>(some (bt104.1,bt104.2.1,bt104.2.2.1,bt104.2.2.2,0))) else (some (0,0,0,([]:List Int),t103)))
theorem z12.calls (k:Nat) (A0_0:Option Addr) (c0_0:Nat) (l0_0:List (List Int)) (a1:Int) (a2:Int) (r1:Int) (r2:Int) (r3:Int) (r4:List Int) (r5:Int) (w:World) (hr0_0:Kd.C (Kd.slice 2 (Kd.int .i64)) w A0_0 l0_0.length l0_0) (hc0_0:l0_0.length≤c0_0) (h:z12.f k l0_0 a1 a2=some (r1,r2,r3,r4,r5)) :
  Calls Tryz.prog 12 #[.agg #[.slice A0_0 l0_0.length c0_0],.int .i64 a1,.int .i64 a2] w fun e w'=>∃ v3_:Value,e=.returned (.tuple #[.agg #[.int .i64 r1,.int .i64 r2,.int .i64 r3,v3_],.int .i64 r5])∧Kd.R (Kd.int .i64) 2 w' w.heap.size (fun _=>True) v3_ r4∧Below w.heap.size w w':=by
 have hu26:=Tryz.underlying26
 have hu36:=Tryz.underlying36
 have HR0_0:=Zz.mk hr0_0
 have HC0_0:=Zz.mk hc0_0
 clear hr0_0 hc0_0
 have HB:=Zz.mk (Below.refl w.heap.size w)
 have H:((z37.f k l0_0 a1 a2).bind fun t103=>(if t103=0 then ((z36.f k l0_0 a1 a2).bind fun bt104=>(some (bt104.1,bt104.2.1,bt104.2.2.1,bt104.2.2.2,0))) else (some (0,0,0,([]:List Int),t103))))=some (r1,r2,r3,r4,r5):=h
 clear h
 replace H:=OB_ H
 obtain ⟨t103,A40,H⟩:=H
 replace H:(if t103=0 then ((z36.f k l0_0 a1 a2).bind fun bt104=>(some (bt104.1,bt104.2.1,bt104.2.2.1,bt104.2.2.2,0))) else (some (0,0,0,([]:List Int),t103)))=some (r1,r2,r3,r4,r5):=H
 have A4:=Zz.mk A40
 clear A40
 by_cases c5:t103=0
 ·rw [if_pos c5] at H
  have c5b0:(t103 == 0)=true:=beq_iff_eq.mpr c5
  have c5b1:(t103 != 0)=false:=bne_eq_false_iff_eq.mpr c5
  clear c5
  replace H:=OB_ H
  obtain ⟨⟨t104,t105,t106,t107⟩,A60,H⟩:=H
  replace H:(some (t104,t105,t106,t107,0))=some (r1,r2,r3,r4,r5):=H
  have A6:=Zz.mk A60
  clear A60
  simp only [Option.some.injEq,Prod.mk.injEq] at H
  obtain ⟨rfl,rfl,rfl,rfl,rfl⟩:=H
  go_enter Tryz.func12,Tryz.ntmps12
  go_wp2_with (first | ((with_reducible refine qAm (N:=3) rfl ?_);refine bx_ 3 #[.slice A0_0 l0_0.length c0_0] 26 ?_;intro gb101 hg w7 hbox hb;have BK101:=Zz.mk (hbox);have GW101:=Zz.mk ((gw_ hg (B_ HB.out)));have GE101:=GW101;replace HB:=Zz.mk (bT_ (B_ HB.out) hb);clear hb hbox hg) | ((with_reducible refine qAm (N:=6) rfl ?_);refine bx_ 6 #[.int .i64 0,.int .i64 0,.int .i64 0,.slice none 0 0] 36 ?_;intro gb102 hg w8 hbox hb;have BK102:=Zz.mk (hbox);have GW102:=Zz.mk ((gw_ hg (B1_ HB.out GE101.out)));have GE102:=GW102;have NB101_102:=Zz.mk ((nb_ BK101.out hg));have NB102_101:=Zz.mk NB101_102.out.symm;replace BK101:=Zz.mk (kb_ BK101.out hb);replace HB:=Zz.mk (bT_ (B1_ HB.out GE101.out) hb);clear hb hbox hg;have hnb9:=NB101_102.out;have hnc9:=NB102_101.out;obtain ⟨hcz10_0,hfz10_0⟩:=Z1f_ BK101.out) | ((with_reducible refine gC_ (f:=37) rfl ?_);refine GL_ (some 12) rfl rfl Tryz.func37 #[.agg #[.slice A0_0 l0_0.length c0_0],.int .i64 a1,.int .i64 a2] rfl (h:=?_);(with_reducible refine (z37.calls k _ _ l0_0 a1 a2 t103 _ ?side1 ?side2 A4.out).mono ?_);(case side1=>exact KC_ (Kd.C_below HR0_0.out HB.out));(case side2=>exact HC0_0.out);rintro e w11 ⟨rfl,hb⟩;refine ⟨_,rfl,?_⟩;replace BK101:=Zz.mk (kb_ BK101.out hb);replace BK102:=Zz.mk (kb_ BK102.out hb);replace HB:=Zz.mk (bT_ (B2_ HB.out GE101.out GE102.out) hb);(try clear hb);obtain ⟨hcz12_0,hfz12_0⟩:=Z1f_ BK101.out) | ((with_reducible refine gC_ (f:=36) rfl ?_);refine GL_ (some 20) rfl rfl Tryz.func36 #[.agg #[.slice A0_0 l0_0.length c0_0],.int .i64 a1,.int .i64 a2] rfl (h:=?_);(with_reducible refine (z36.calls k _ _ l0_0 a1 a2 t104 t105 t106 t107 _ ?side1 ?side2 A6.out).mono ?_);(case side1=>exact KC_ (Kd.C_below HR0_0.out HB.out));(case side2=>exact HC0_0.out);rintro e w13 ⟨v108,rfl,ho0,hb⟩;refine ⟨_,rfl,?_⟩;have HO109:=Zz.mk (Kd.R_lower ho0 (bS_ (B2_ HB.out GE101.out GE102.out)));replace BK101:=Zz.mk (kb_ BK101.out hb);replace BK102:=Zz.mk (kb_ BK102.out hb);replace HB:=Zz.mk (bT_ (B2_ HB.out GE101.out GE102.out) hb);(try clear hb);(try clear ho0);obtain ⟨hcz14_0,hcz14_1,hcz14_2,hcz14_3,hfz14_0,hfz14_1,hfz14_2,hfz14_3⟩:=Z4f_ BK102.out;obtain ⟨Ao15,co15,eo15⟩:=Kd.R_slice HO109.out;subst eo15))
  refine bodyPost_ret (qCs rfl _ _ gb102 36 #[.int .i64 t104,.int .i64 t105,.int .i64 t106,.slice Ao15 t107.length co15] (0,0) _ rfl (by refine BW_ ?_;refine bP_ (cs:=#[.int .i64 t104,.int .i64 t105,.int .i64 t106,.slice none 0 0]) ?_ 3 _ rfl;refine BW_ ?_;refine bP_ (cs:=#[.int .i64 t104,.int .i64 t105,.int .i64 0,.slice none 0 0]) ?_ 2 _ rfl;refine BW_ ?_;refine bP_ (cs:=#[.int .i64 t104,.int .i64 0,.int .i64 0,.slice none 0 0]) ?_ 1 _ rfl;refine BW_ ?_;refine bP_ (cs:=#[.int .i64 0,.int .i64 0,.int .i64 0,.slice none 0 0]) ?_ 0 _ rfl;refine BW_ ?_;exact BK102.out) Tryz.underlying36 rfl (by kernel_rfl)) rfl ?_
  exact ⟨_,F_,by refine RW_ ?_;exact Kd.R_mono (Kd.R_far (p:=⟨gb102,3,none⟩) (Kd.R_far (p:=⟨gb102,2,none⟩) (Kd.R_far (p:=⟨gb102,1,none⟩) (Kd.R_far (p:=⟨gb102,0,none⟩) (Kd.R_types HO109.out BK102.out (by decide)) (fun _ hk=>hk.2) (.int .i64 t104)) (fun _ hk=>hk.2) (.int .i64 t105)) (fun _ hk=>hk.2) (.int .i64 t106)) (fun _ hk=>hk.2) (.slice Ao15 t107.length co15)) (fun _ hk=>trivial),B2_ HB.out GE101.out GE102.out⟩
 rw [if_neg c5] at H
 have c5b0:(t103 == 0)=false:=beq_eq_false_iff_ne.mpr c5
 have c5b1:(t103 != 0)=true:=bne_iff_ne.mpr c5
 simp only [Option.some.injEq,Prod.mk.injEq] at H
 obtain ⟨rfl,rfl,rfl,rfl,rfl⟩:=H
 go_enter Tryz.func12,Tryz.ntmps12
 go_wp2_with (first | ((with_reducible refine qAm (N:=3) rfl ?_);refine bx_ 3 #[.slice A0_0 l0_0.length c0_0] 26 ?_;intro gb101 hg w16 hbox hb;have BK101:=Zz.mk (hbox);have GW101:=Zz.mk ((gw_ hg (B_ HB.out)));have GE101:=GW101;replace HB:=Zz.mk (bT_ (B_ HB.out) hb);clear hb hbox hg) | ((with_reducible refine qAm (N:=6) rfl ?_);refine bx_ 6 #[.int .i64 0,.int .i64 0,.int .i64 0,.slice none 0 0] 36 ?_;intro gb102 hg w17 hbox hb;have BK102:=Zz.mk (hbox);have GW102:=Zz.mk ((gw_ hg (B1_ HB.out GE101.out)));have GE102:=GW102;have NB101_102:=Zz.mk ((nb_ BK101.out hg));have NB102_101:=Zz.mk NB101_102.out.symm;replace BK101:=Zz.mk (kb_ BK101.out hb);replace HB:=Zz.mk (bT_ (B1_ HB.out GE101.out) hb);clear hb hbox hg;have hnb18:=NB101_102.out;have hnc18:=NB102_101.out;obtain ⟨hcz19_0,hfz19_0⟩:=Z1f_ BK101.out) | ((with_reducible refine gC_ (f:=37) rfl ?_);refine GL_ (some 12) rfl rfl Tryz.func37 #[.agg #[.slice A0_0 l0_0.length c0_0],.int .i64 a1,.int .i64 a2] rfl (h:=?_);(with_reducible refine (z37.calls k _ _ l0_0 a1 a2 t103 _ ?side1 ?side2 A4.out).mono ?_);(case side1=>exact KC_ (Kd.C_below HR0_0.out HB.out));(case side2=>exact HC0_0.out);rintro e w20 ⟨rfl,hb⟩;refine ⟨_,rfl,?_⟩;replace BK101:=Zz.mk (kb_ BK101.out hb);replace BK102:=Zz.mk (kb_ BK102.out hb);replace HB:=Zz.mk (bT_ (B2_ HB.out GE101.out GE102.out) hb);(try clear hb);obtain ⟨hcz21_0,hcz21_1,hcz21_2,hcz21_3,hfz21_0,hfz21_1,hfz21_2,hfz21_3⟩:=Z4f_ BK102.out))
 refine bodyPost_ret (qCs rfl _ _ gb102 36 #[.int .i64 0,.int .i64 0,.int .i64 0,.slice none 0 0] (0,0) _ rfl (by refine BW_ ?_;refine bP_ (cs:=#[.int .i64 0,.int .i64 0,.int .i64 0,.slice none 0 0]) ?_ 3 _ rfl;refine BW_ ?_;refine bP_ (cs:=#[.int .i64 0,.int .i64 0,.int .i64 0,.slice none 0 0]) ?_ 2 _ rfl;refine BW_ ?_;refine bP_ (cs:=#[.int .i64 0,.int .i64 0,.int .i64 0,.slice none 0 0]) ?_ 1 _ rfl;refine BW_ ?_;refine bP_ (cs:=#[.int .i64 0,.int .i64 0,.int .i64 0,.slice none 0 0]) ?_ 0 _ rfl;refine BW_ ?_;exact BK102.out) Tryz.underlying36 rfl (by kernel_rfl)) rfl ?_
 exact ⟨_,F_,by first | exact Kd.R_nil _ _ _ _ _ | exact Kd.N_nil _ _ _ _ _ | exact Kd.V_nil _ _ _ _ _ | exact Kd.Q_nil _ _ _ _ _ | exact Kd.S_nil _ _ _ _ _,B2_ HB.out GE101.out GE102.out⟩
def z11.f (k:Nat) (l0_0:List (List Int)) (a1:Int) (a2:Int) (l3:List Int):Option (List Int × Int):=(z34.f k l0_0 a1 a2 l3).bind fun t102=>(if t102=0 then ((z36.f k l0_0 a1 a2).bind fun bt103=>((z35.f k bt103.1 bt103.2.1 bt103.2.2.1 bt103.2.2.2 l3).bind fun t109=>(some (t109,0)))) else (some (([]:List Int),t102)))
theorem z11.calls (k:Nat) (A0_0:Option Addr) (c0_0:Nat) (l0_0:List (List Int)) (a1:Int) (a2:Int) (A3:Option Addr) (c3:Nat) (l3:List Int) (r1:List Int) (r2:Int) (w:World) (hr0_0:Kd.C (Kd.slice 2 (Kd.int .i64)) w A0_0 l0_0.length l0_0) (hc0_0:l0_0.length≤c0_0) (hr3:Kd.C (Kd.int .i64) w A3 l3.length l3) (hc3:l3.length≤c3) (h:z11.f k l0_0 a1 a2 l3=some (r1,r2)) :
  Calls Tryz.prog 11 #[.agg #[.slice A0_0 l0_0.length c0_0],.int .i64 a1,.int .i64 a2,.slice A3 l3.length c3] w fun e w'=>∃ v0_:Value,e=.returned (.tuple #[v0_,.int .i64 r2])∧Kd.R (Kd.int .i64) 2 w' w.heap.size (fun _=>True) v0_ r1∧Below w.heap.size w w':=by
 have hu26:=Tryz.underlying26
 have HR0_0:=Zz.mk hr0_0
 have HC0_0:=Zz.mk hc0_0
 clear hr0_0 hc0_0
 have HR3:=Zz.mk hr3
 have HC3:=Zz.mk hc3
 clear hr3 hc3
 have HB:=Zz.mk (Below.refl w.heap.size w)
 have H:((z34.f k l0_0 a1 a2 l3).bind fun t102=>(if t102=0 then ((z36.f k l0_0 a1 a2).bind fun bt103=>((z35.f k bt103.1 bt103.2.1 bt103.2.2.1 bt103.2.2.2 l3).bind fun t109=>(some (t109,0)))) else (some (([]:List Int),t102))))=some (r1,r2):=h
 clear h
 replace H:=OB_ H
 obtain ⟨t102,A50,H⟩:=H
 replace H:(if t102=0 then ((z36.f k l0_0 a1 a2).bind fun bt103=>((z35.f k bt103.1 bt103.2.1 bt103.2.2.1 bt103.2.2.2 l3).bind fun t109=>(some (t109,0)))) else (some (([]:List Int),t102)))=some (r1,r2):=H
 have A5:=Zz.mk A50
 clear A50
 by_cases c6:t102=0
 ·rw [if_pos c6] at H
  have c6b0:(t102 == 0)=true:=beq_iff_eq.mpr c6
  have c6b1:(t102 != 0)=false:=bne_eq_false_iff_eq.mpr c6
  clear c6
  replace H:=OB_ H
  obtain ⟨⟨t103,t104,t105,t106⟩,A70,H⟩:=H
  replace H:((z35.f k t103 t104 t105 t106 l3).bind fun t109=>(some (t109,0)))=some (r1,r2):=H
  have A7:=Zz.mk A70
  clear A70
  replace H:=OB_ H
  obtain ⟨t109,A80,H⟩:=H
  replace H:(some (t109,0))=some (r1,r2):=H
  have A8:=Zz.mk A80
  clear A80
  simp only [Option.some.injEq,Prod.mk.injEq] at H
  obtain ⟨rfl,rfl⟩:=H
  go_enter Tryz.func11,Tryz.ntmps11
  go_wp2_with (first | ((with_reducible refine qAm (N:=4) rfl ?_);refine bx_ 4 #[.slice A0_0 l0_0.length c0_0] 26 ?_;intro gb101 hg w9 hbox hb;have BK101:=Zz.mk (hbox);have GW101:=Zz.mk ((gw_ hg (B_ HB.out)));have GE101:=GW101;replace HB:=Zz.mk (bT_ (B_ HB.out) hb);clear hb hbox hg;obtain ⟨hcz10_0,hfz10_0⟩:=Z1f_ BK101.out) | ((with_reducible refine gC_ (f:=34) rfl ?_);refine GL_ (some 15) rfl rfl Tryz.func34 #[.agg #[.slice A0_0 l0_0.length c0_0],.int .i64 a1,.int .i64 a2,.slice A3 l3.length c3] rfl (h:=?_);(with_reducible refine (z34.calls k _ _ l0_0 a1 a2 _ _ l3 t102 _ ?side1 ?side2 ?side3 ?side4 A5.out).mono ?_);(case side1=>exact KC_ (Kd.C_below HR0_0.out HB.out));(case side2=>exact HC0_0.out);(case side3=>exact KC_ (Kd.C_below HR3.out HB.out));(case side4=>exact HC3.out);rintro e w11 ⟨rfl,hb⟩;refine ⟨_,rfl,?_⟩;replace BK101:=Zz.mk (kb_ BK101.out hb);replace HB:=Zz.mk (bT_ (B1_ HB.out GE101.out) hb);(try clear hb);obtain ⟨hcz12_0,hfz12_0⟩:=Z1f_ BK101.out) | ((with_reducible refine gC_ (f:=36) rfl ?_);refine GL_ (some 22) rfl rfl Tryz.func36 #[.agg #[.slice A0_0 l0_0.length c0_0],.int .i64 a1,.int .i64 a2] rfl (h:=?_);(with_reducible refine (z36.calls k _ _ l0_0 a1 a2 t103 t104 t105 t106 _ ?side1 ?side2 A7.out).mono ?_);(case side1=>exact KC_ (Kd.C_below HR0_0.out HB.out));(case side2=>exact HC0_0.out);rintro e w13 ⟨v107,rfl,ho0,hb⟩;refine ⟨_,rfl,?_⟩;have HO108:=Zz.mk (Kd.R_lower ho0 (bS_ (B1_ HB.out GE101.out)));replace BK101:=Zz.mk (kb_ BK101.out hb);replace HB:=Zz.mk (bT_ (B1_ HB.out GE101.out) hb);(try clear hb);(try clear ho0);obtain ⟨Ao14,co14,eo14⟩:=Kd.R_slice HO108.out;subst eo14) | ((with_reducible refine gC_ (f:=35) rfl ?_);refine GL_ (some 24) rfl rfl Tryz.func35 #[.agg #[.int .i64 t103,.int .i64 t104,.int .i64 t105,.slice Ao14 t106.length co14],.slice A3 l3.length c3] rfl (h:=?_);(with_reducible refine (z35.calls k t103 t104 t105 _ _ t106 _ _ l3 t109 _ ?side1 ?side2 ?side3 ?side4 A8.out).mono ?_);(case side1=>exact KC_ (Kd.R_reads' HO108.out).2.2);(case side2=>exact (Kd.R_reads' HO108.out).2.1);(case side3=>exact KC_ (Kd.C_below HR3.out HB.out));(case side4=>exact HC3.out);rintro e w15 ⟨v110,rfl,ho0,hb⟩;refine ⟨_,rfl,?_⟩;have HO111:=Zz.mk (Kd.R_lower (Kd.R_new' ho0 (Kd.R_lt (KR_ HO108.out))) (bS_ (B1_ HB.out GE101.out)));replace HO108:=Zz.mk (Kd.R_elder' (KR_ HO108.out) (Kd.R_base ho0) hb);replace BK101:=Zz.mk (kb_ BK101.out hb);replace HB:=Zz.mk (bT_ (B1_ HB.out GE101.out) hb);(try clear hb);(try clear ho0)))
  go_ret2
  exact ⟨_,F_,by refine RW_ ?_;exact Kd.R_mono HO111.out (fun _ hk=>trivial),B1_ HB.out GE101.out⟩
 rw [if_neg c6] at H
 have c6b0:(t102 == 0)=false:=beq_eq_false_iff_ne.mpr c6
 have c6b1:(t102 != 0)=true:=bne_iff_ne.mpr c6
 simp only [Option.some.injEq,Prod.mk.injEq] at H
 obtain ⟨rfl,rfl⟩:=H
 go_enter Tryz.func11,Tryz.ntmps11
 go_wp2_with (first | ((with_reducible refine qAm (N:=4) rfl ?_);refine bx_ 4 #[.slice A0_0 l0_0.length c0_0] 26 ?_;intro gb101 hg w16 hbox hb;have BK101:=Zz.mk (hbox);have GW101:=Zz.mk ((gw_ hg (B_ HB.out)));have GE101:=GW101;replace HB:=Zz.mk (bT_ (B_ HB.out) hb);clear hb hbox hg;obtain ⟨hcz17_0,hfz17_0⟩:=Z1f_ BK101.out) | ((with_reducible refine gC_ (f:=34) rfl ?_);refine GL_ (some 15) rfl rfl Tryz.func34 #[.agg #[.slice A0_0 l0_0.length c0_0],.int .i64 a1,.int .i64 a2,.slice A3 l3.length c3] rfl (h:=?_);(with_reducible refine (z34.calls k _ _ l0_0 a1 a2 _ _ l3 t102 _ ?side1 ?side2 ?side3 ?side4 A5.out).mono ?_);(case side1=>exact KC_ (Kd.C_below HR0_0.out HB.out));(case side2=>exact HC0_0.out);(case side3=>exact KC_ (Kd.C_below HR3.out HB.out));(case side4=>exact HC3.out);rintro e w18 ⟨rfl,hb⟩;refine ⟨_,rfl,?_⟩;replace BK101:=Zz.mk (kb_ BK101.out hb);replace HB:=Zz.mk (bT_ (B1_ HB.out GE101.out) hb);(try clear hb)))
 go_ret2
 exact ⟨_,F_,by first | exact Kd.R_nil _ _ _ _ _ | exact Kd.N_nil _ _ _ _ _ | exact Kd.V_nil _ _ _ _ _ | exact Kd.Q_nil _ _ _ _ _ | exact Kd.S_nil _ _ _ _ _,B1_ HB.out GE101.out⟩
def z19.j0:Nat→List Int→Bool→List (List Int)→Option (Int × Int)
 | 0,_,_,_=>none
 | k+1,x1,x13,x102000=>if x13=true then (some (0,1)) else ((z46.f k x102000 x1).bind fun t104=>(if t104<0 then (some (0,3)) else (some (t104,0))))
def z19.f (k:Nat) (l0_0:List (List Int)) (l1:List Int):Option (Int × Int):=(z30.f k l0_0).bind fun t102=>(if t102=true then ((z45.f k l1).bind fun t103=>(z19.j0 k l1 (!t103) l0_0)) else (z19.j0 k l1 true l0_0))
theorem z19.calls (k:Nat) (A0_0:Option Addr) (c0_0:Nat) (l0_0:List (List Int)) (A1:Option Addr) (c1:Nat) (l1:List Int) (r1:Int) (r2:Int) (w:World) (hr0_0:Kd.C (Kd.slice 2 (Kd.int .i64)) w A0_0 l0_0.length l0_0) (hc0_0:l0_0.length≤c0_0) (hr1:Kd.C (Kd.int .i64) w A1 l1.length l1) (hc1:l1.length≤c1) (h:z19.f k l0_0 l1=some (r1,r2)) :
  Calls Tryz.prog 19 #[.agg #[.slice A0_0 l0_0.length c0_0],.slice A1 l1.length c1] w fun e w'=>e=.returned (.tuple #[.int .i64 r1,.int .i64 r2])∧Below w.heap.size w w':=by
 have hu26:=Tryz.underlying26
 have HR0_0:=Zz.mk hr0_0
 have HC0_0:=Zz.mk hc0_0
 clear hr0_0 hc0_0
 have HR1:=Zz.mk hr1
 have HC1:=Zz.mk hc1
 clear hr1 hc1
 have HB:=Zz.mk (Below.refl w.heap.size w)
 have H:((z30.f k l0_0).bind fun t102=>(if t102=true then ((z45.f k l1).bind fun t103=>(z19.j0 k l1 (!t103) l0_0)) else (z19.j0 k l1 true l0_0)))=some (r1,r2):=h
 clear h
 have HC3:=Zz.mk H
 clear H
 go_enter Tryz.func19,Tryz.ntmps19
 go_upto_region 1 with (first | ((with_reducible refine qAm (N:=2) rfl ?_);refine bx_ 2 #[.slice A0_0 l0_0.length c0_0] 26 ?_;intro gb101 hg w4 hbox hb;have BK101:=Zz.mk (hbox);have GW101:=Zz.mk ((gw_ hg (B_ HB.out)));have GE101:=GW101;replace HB:=Zz.mk (bT_ (B_ HB.out) hb);clear hb hbox hg))
 (try simp only [Act.put,List.setIfInBounds_toArray,List.set_cons_zero,List.set_cons_succ])
 go_cut [13] (fun v13 wc=>∃ (kq:Nat) (x13_2:Bool),v13=.bool x13_2∧Zz (z19.j0 kq l1 x13_2 l0_0=some (r1,r2))∧Zz (kq≤k)∧Zz (wc.heap[gb101]?=some (.cells #[(.slice A0_0 l0_0.length c0_0)] 26 (0,0)))∧Zz (Below w.heap.size w wc))
 case first =>
  have H:=HC3.out
  clear HC3
  replace H:=OB_ H
  obtain ⟨t102,A50,H⟩:=H
  replace H:(if t102=true then ((z45.f k l1).bind fun t103=>(z19.j0 k l1 (!t103) l0_0)) else (z19.j0 k l1 true l0_0))=some (r1,r2):=H
  have A5:=Zz.mk A50
  clear A50
  by_cases c6:t102=true
  ·subst c6
   have H1:((z45.f k l1).bind fun t103=>(z19.j0 k l1 (!t103) l0_0))=some (r1,r2):=by rw [if_pos rfl] at H;exact H
   clear H
   have H:=H1
   clear H1
   replace H:=OB_ H
   obtain ⟨t103,A70,H⟩:=H
   replace H:(z19.j0 k l1 (!t103) l0_0)=some (r1,r2):=H
   have A7:=Zz.mk A70
   clear A70
   have H':=Zz.mk H
   clear H
   go_wp2_with (first | ((with_reducible refine gC_ (f:=30) rfl ?_);refine GL_ (some 7) rfl rfl Tryz.func30 #[.pointer (some ⟨gb101,0,none⟩)] rfl (h:=?_);(with_reducible refine (z30.calls k gb101 A0_0 c0_0 l0_0 true _ ?side1 ?side2 ?side3 A5.out).mono ?_);(case side1=>refine BW_ ?_;exact BK101.out);(case side2=>exact KC_ (Kd.C_below HR0_0.out HB.out));(case side3=>exact HC0_0.out);rintro e w8 ⟨rfl,hb⟩;refine ⟨_,rfl,?_⟩;replace BK101:=Zz.mk (kb_ BK101.out hb);replace HB:=Zz.mk (bT_ (B1_ HB.out GE101.out) hb);(try clear hb)) | (go_at_call 45;(with_reducible refine (z45.calls k _ _ l1 t103 _ ?side1 ?side2 A7.out).mono ?_);(case side1=>exact KC_ (Kd.C_below HR1.out HB.out));(case side2=>exact HC1.out);rintro e w' ⟨rfl,⟨nd,rfl⟩⟩))
   go_meet
   case rel=>exact ⟨_,(!t103),E_,H',⟨by first | omega | exact Nat.le_refl _⟩,⟨KB_ BK101.out⟩,⟨B1_ HB.out GE101.out⟩⟩
  replace c6:=Bool.eq_false_iff.mpr c6
  subst c6
  have H1:(z19.j0 k l1 true l0_0)=some (r1,r2):=by rw [if_neg (show ¬ (false=true) by decide)] at H;exact H
  clear H
  have H:=H1
  clear H1
  have H':=Zz.mk H
  clear H
  go_wp2_with (first | ((with_reducible refine gC_ (f:=30) rfl ?_);refine GL_ (some 7) rfl rfl Tryz.func30 #[.pointer (some ⟨gb101,0,none⟩)] rfl (h:=?_);(with_reducible refine (z30.calls k gb101 A0_0 c0_0 l0_0 false _ ?side1 ?side2 ?side3 A5.out).mono ?_);(case side1=>refine BW_ ?_;exact BK101.out);(case side2=>exact KC_ (Kd.C_below HR0_0.out HB.out));(case side3=>exact HC0_0.out);rintro e w9 ⟨rfl,hb⟩;refine ⟨_,rfl,?_⟩;replace BK101:=Zz.mk (kb_ BK101.out hb);replace HB:=Zz.mk (bT_ (B1_ HB.out GE101.out) hb);(try clear hb)))
  go_meet
  case rel=>exact ⟨_,(true),E_,H',⟨by first | omega | exact Nat.le_refl _⟩,⟨KB_ BK101.out⟩,⟨B1_ HB.out GE101.out⟩⟩
 case rest =>
  clear HC3
  (try clear c1)
  obtain ⟨kq,x13_2,rfl,HA,HJ2,BK101,HB⟩:=hcut
  cases kq with
  | zero=>exact absurd HA.out (by simp [z19.j0])
  | succ kj2 =>
   have H:=HA.out
   clear HA
   simp only [z19.j0] at H
   by_cases c10:x13_2=true
   ·subst c10
    have H1:(some (0,1))=some (r1,r2):=by rw [if_pos rfl] at H;exact H
    clear H
    have H:=H1
    clear H1
    simp only [Option.some.injEq,Prod.mk.injEq] at H
    obtain ⟨rfl,rfl⟩:=H
    go_wp2
    go_ret2
    exact ⟨F_,B1_ HB.out GE101.out⟩
   replace c10:=Bool.eq_false_iff.mpr c10
   subst c10
   have H1:((z46.f kj2 l0_0 l1).bind fun t104=>(if t104<0 then (some (0,3)) else (some (t104,0))))=some (r1,r2):=by rw [if_neg (show ¬ (false=true) by decide)] at H;exact H
   clear H
   have H:=H1
   clear H1
   replace H:=OB_ H
   obtain ⟨t104,A110,H⟩:=H
   replace H:(if t104<0 then (some (0,3)) else (some (t104,0)))=some (r1,r2):=H
   have A11:=Zz.mk A110
   clear A110
   by_cases c12:t104<0
   ·rw [if_pos c12] at H
    have c12b0:decide (t104<0)=true:=decide_eq_true c12
    clear c12
    simp only [Option.some.injEq,Prod.mk.injEq] at H
    obtain ⟨rfl,rfl⟩:=H
    go_wp2_with (first | ((with_reducible refine gC_ (f:=46) rfl ?_);refine GL_ (some 15) rfl rfl Tryz.func46 #[.pointer (some ⟨gb101,0,none⟩),.slice A1 l1.length c1] rfl (h:=?_);(with_reducible refine (z46.calls kj2 gb101 A0_0 c0_0 l0_0 _ _ l1 t104 _ ?side1 ?side2 ?side3 ?side4 ?side5 A11.out).mono ?_);(case side1=>refine BW_ ?_;exact BK101.out);(case side2=>exact KC_ (Kd.C_below HR0_0.out HB.out));(case side3=>exact HC0_0.out);(case side4=>exact KC_ (Kd.C_below HR1.out HB.out));(case side5=>exact HC1.out);rintro e w' ⟨rfl,⟨nd,rfl⟩⟩;refine ⟨_,rfl,?_⟩))
    go_ret2
    exact ⟨F_,B1_ HB.out GE101.out⟩
   rw [if_neg c12] at H
   have c12b0:decide (t104<0)=false:=decide_eq_false c12
   clear c12
   simp only [Option.some.injEq,Prod.mk.injEq] at H
   obtain ⟨rfl,rfl⟩:=H
   go_wp2_with (first | ((with_reducible refine gC_ (f:=46) rfl ?_);refine GL_ (some 15) rfl rfl Tryz.func46 #[.pointer (some ⟨gb101,0,none⟩),.slice A1 l1.length c1] rfl (h:=?_);(with_reducible refine (z46.calls kj2 gb101 A0_0 c0_0 l0_0 _ _ l1 t104 _ ?side1 ?side2 ?side3 ?side4 ?side5 A11.out).mono ?_);(case side1=>refine BW_ ?_;exact BK101.out);(case side2=>exact KC_ (Kd.C_below HR0_0.out HB.out));(case side3=>exact HC0_0.out);(case side4=>exact KC_ (Kd.C_below HR1.out HB.out));(case side5=>exact HC1.out);rintro e w' ⟨rfl,⟨nd,rfl⟩⟩;refine ⟨_,rfl,?_⟩))
   go_ret2
   exact ⟨F_,B1_ HB.out GE101.out⟩
def z105.l0:Nat→List Int→Int→Int→Int→Option (Bool)
 | 0,_,_,_,_=>none
 | k+1,x0,x1,x2,x7=>if x7<(x0.length:Int) then (if 0≤x7 then ((z62.f (rd x0 x7) 0 (wrap64 (x2 - 1))).bind fun t102=>(if t102=true then (z105.l0 k x0 x1 x2 (wrap64 (x7+1))) else (some false))) else (none)) else (some ((x0.length:Int) == x1))
def z105.f (k:Nat) (l0:List Int) (a1:Int) (a2:Int):Option (Bool):=z105.l0 k l0 a1 a2 0
theorem z105.calls (k:Nat) (A0:Option Addr) (c0:Nat) (l0:List Int) (a1:Int) (a2:Int) (r:Bool) (w:World) (hr0:Kd.C (Kd.int .i64) w A0 l0.length l0) (hc0:l0.length≤c0) (h:z105.f k l0 a1 a2=some r) :
  Calls Tryz.prog 105 #[.slice A0 l0.length c0,.int .i64 a1,.int .i64 a2] w fun e w'=>e=.returned (.bool r)∧Dz w w':=by
 have HR0:=Zz.mk hr0
 have HC0:=Zz.mk hc0
 clear hr0 hc0
 have H:(z105.l0 k l0 a1 a2 0)=some r:=h
 clear h
 have H':=Zz.mk H
 clear H
 go_enter Tryz.func105,Tryz.ntmps105
 go_wp2
 go_loopg [7] k (fun kq v7 w'=>∃ (x7_1:Int),v7=.int .i64 x7_1∧Zz (z105.l0 kq l0 a1 a2 x7_1=some r)∧Zz (kq≤k)∧Dz w w')
 case atStart=>exact ⟨(0),E_,H',⟨Nat.le_refl _⟩,by repeat (first | exact Dz.refl _ | apply Dz.step)⟩
 case round =>
  clear H'
  obtain ⟨x7_1,rfl,HA,HK1,⟨m1,rfl⟩⟩:=hrel
  cases gk with
  | zero=>exact absurd HA.out (by simp [z105.l0])
  | succ k1 =>
   have H:=HA.out
   clear HA
   simp only [z105.l0] at H
   by_cases c4:x7_1<(l0.length:Int)
   ·rw [if_pos c4] at H
    have c4b0:decide (x7_1<(l0.length:Int))=true:=decide_eq_true c4
    clear c4
    have c5b0:=O3_ H
    replace H:=O2_ H
    replace H:=OZ_ H
    obtain ⟨t102,A6,H⟩:=H
    by_cases c7:t102=true
    ·subst c7
     replace H:=T_ H
     have H':=Zz.mk H
     clear H
     have p101:0≤(x7_1:Int):=D_
     have q101:x7_1<(l0.length:Int):=D_
     obtain ⟨ad101,e101,hx101_0⟩:=Kd.at_int HR0.out x7_1 p101 q101
     cases e101
     replace p101:=eq_true p101
     replace q101:=eq_true q101
     go_wp2_with (first | ((with_reducible refine gC_ (f:=62) rfl ?_);refine GL_ (some 20) rfl rfl Tryz.func62 #[.int .i64 (rd l0 x7_1),.int .i64 0,.int .i64 (wrap64 (a2 - 1))] rfl (h:=?_);(with_reducible refine (z62.calls (rd l0 x7_1) 0 (wrap64 (a2 - 1)) true _ A6.out).mono ?_);rintro e w' ⟨rfl,⟨nd,rfl⟩⟩;refine ⟨_,rfl,?_⟩))
     go_roundg k1
     case measure=>exact Q1_ HK1
     case rel=>exact ⟨(wrap64 (x7_1+1)),E_,H',⟨Q1_ HK1⟩,by repeat (first | exact Dz.refl _ | apply Dz.step)⟩
    replace c7:=Bool.eq_false_iff.mpr c7
    subst c7
    replace H:=N_ H
    obtain rfl:=OI_ H
    have p101:0≤(x7_1:Int):=D_
    have q101:x7_1<(l0.length:Int):=D_
    obtain ⟨ad101,e101,hx101_0⟩:=Kd.at_int HR0.out x7_1 p101 q101
    cases e101
    replace p101:=eq_true p101
    replace q101:=eq_true q101
    go_wp2_with (first | ((with_reducible refine gC_ (f:=62) rfl ?_);refine GL_ (some 20) rfl rfl Tryz.func62 #[.int .i64 (rd l0 x7_1),.int .i64 0,.int .i64 (wrap64 (a2 - 1))] rfl (h:=?_);(with_reducible refine (z62.calls (rd l0 x7_1) 0 (wrap64 (a2 - 1)) false _ A6.out).mono ?_);rintro e w' ⟨rfl,⟨nd,rfl⟩⟩;refine ⟨_,rfl,?_⟩))
    go_ret
    exact eD_
   rw [if_neg c4] at H
   have c4b0:decide (x7_1<(l0.length:Int))=false:=decide_eq_false c4
   clear c4
   obtain rfl:=OI_ H
   go_wp2
   go_ret
   exact eD_
def z124.l0:Nat→Int→Int→Option (Bool)
 | 0,_,_=>none
 | k+1,x0,x3=>if (wrap64 (x3 * x3))≤x0 then (if x3=0 then (none) else (if (Int.tmod x0 x3)=0 then (some false) else (z124.l0 k x0 (wrap64 (x3+1))))) else (some true)
def z124.f (k:Nat) (a0:Int):Option (Bool):=(z62.f a0 2 251).bind fun t101=>(if t101=true then (z124.l0 k a0 2) else (some false))
theorem z124.calls (k:Nat) (a0:Int) (r:Bool) (w:World) (h:z124.f k a0=some r) :
  Calls Tryz.prog 124 #[.int .i64 a0] w fun e w'=>e=.returned (.bool r)∧Dz w w':=by
 have H:((z62.f a0 2 251).bind fun t101=>(if t101=true then (z124.l0 k a0 2) else (some false)))=some r:=h
 clear h
 replace H:=OZ_ H
 obtain ⟨t101,A2,H⟩:=H
 by_cases c3:t101=true
 ·subst c3
  replace H:=T_ H
  have H':=Zz.mk H
  clear H
  go_enter Tryz.func124,Tryz.ntmps124
  go_wp2_with (first | ((with_reducible refine gC_ (f:=62) rfl ?_);refine GL_ (some 5) rfl rfl Tryz.func62 #[.int .i64 a0,.int .i64 2,.int .i64 251] rfl (h:=?_);(with_reducible refine (z62.calls a0 2 251 true _ A2.out).mono ?_);rintro e w' ⟨rfl,⟨nd,rfl⟩⟩;refine ⟨_,rfl,?_⟩))
  go_loopg [3] k (fun kq v3 w'=>∃ (x3_1:Int),v3=.int .i64 x3_1∧Zz (z124.l0 kq a0 x3_1=some r)∧Zz (kq≤k)∧Dz w w')
  case atStart=>exact ⟨(2),E_,H',⟨Nat.le_refl _⟩,by repeat (first | exact Dz.refl _ | apply Dz.step)⟩
  case round =>
   clear H'
   (try clear c3)
   obtain ⟨x3_1,rfl,HA,HK1,⟨m1,rfl⟩⟩:=hrel
   cases gk with
   | zero=>exact absurd HA.out (by simp [z124.l0])
   | succ k1 =>
    have H:=HA.out
    clear HA
    simp only [z124.l0] at H
    by_cases c4:(wrap64 (x3_1 * x3_1))≤a0
    ·rw [if_pos c4] at H
     have c4b0:decide ((wrap64 (x3_1 * x3_1))≤a0)=true:=decide_eq_true c4
     clear c4
     by_cases c5:x3_1=0
     ·rw [if_pos c5] at H
      exact X_ H
     rw [if_neg c5] at H
     have c5b0:(x3_1 == 0)=false:=beq_eq_false_iff_ne.mpr c5
     have c5b1:(x3_1 != 0)=true:=bne_iff_ne.mpr c5
     by_cases c6:(Int.tmod a0 x3_1)=0
     ·rw [if_pos c6] at H
      have c6b0:((Int.tmod a0 x3_1) == 0)=true:=beq_iff_eq.mpr c6
      have c6b1:((Int.tmod a0 x3_1) != 0)=false:=bne_eq_false_iff_eq.mpr c6
      clear c6
      obtain rfl:=OI_ H
      go_wp2
      go_ret
      exact eD_
     rw [if_neg c6] at H
     have c6b0:((Int.tmod a0 x3_1) == 0)=false:=beq_eq_false_iff_ne.mpr c6
     have c6b1:((Int.tmod a0 x3_1) != 0)=true:=bne_iff_ne.mpr c6
     have H':=Zz.mk H
     clear H
     go_wp2
     go_roundg k1
     case measure=>exact Q1_ HK1
     case rel=>exact ⟨(wrap64 (x3_1+1)),E_,H',⟨Q1_ HK1⟩,by repeat (first | exact Dz.refl _ | apply Dz.step)⟩
    rw [if_neg c4] at H
    have c4b0:decide ((wrap64 (x3_1 * x3_1))≤a0)=false:=decide_eq_false c4
    clear c4
    obtain rfl:=OI_ H
    go_wp2
    go_ret
    exact eD_
 replace c3:=Bool.eq_false_iff.mpr c3
 subst c3
 replace H:=N_ H
 obtain rfl:=OI_ H
 go_enter Tryz.func124,Tryz.ntmps124
 go_wp2_with (first | ((with_reducible refine gC_ (f:=62) rfl ?_);refine GL_ (some 5) rfl rfl Tryz.func62 #[.int .i64 a0,.int .i64 2,.int .i64 251] rfl (h:=?_);(with_reducible refine (z62.calls a0 2 251 false _ A2.out).mono ?_);rintro e w' ⟨rfl,⟨nd,rfl⟩⟩;refine ⟨_,rfl,?_⟩))
 go_ret
 exact eD_
def z104.f (k:Nat) (a0:Int):Option (Bool):=(z124.f k a0).bind fun t101=>(some t101)
theorem z104.calls (k:Nat) (a0:Int) (r:Bool) (w:World) (h:z104.f k a0=some r) :
  Calls Tryz.prog 104 #[.int .i64 a0] w fun e w'=>e=.returned (.bool r)∧Dz w w':=by
 have H:((z124.f k a0).bind fun t101=>(some t101))=some r:=h
 clear h
 replace H:=OZ_ H
 obtain ⟨t101,A2,H⟩:=H
 obtain rfl:=OI_ H
 go_enter Tryz.func104,Tryz.ntmps104
 go_wp2_with (first | ((with_reducible refine gC_ (f:=124) rfl ?_);refine GL_ (some 4) rfl rfl Tryz.func124 #[.int .i64 a0] rfl (h:=?_);(with_reducible refine (z124.calls k a0 t101 _ A2.out).mono ?_);rintro e w' ⟨rfl,⟨nd,rfl⟩⟩;refine ⟨_,rfl,?_⟩))
 go_ret
 exact eD_
def z74.f (a0:Int) (a1:Int) (a2:Int):Option (Int × Int × Int × List Int):=if 0≤(wrap64 (a1 * a2)) then (if (wrap64 (a1 * a2):Int).toNat≤35184372088832 then (some (a0,a1,a2,(List.replicate (wrap64 (a1 * a2):Int).toNat 0))) else (none)) else (none)
theorem z74.calls (a0:Int) (a1:Int) (a2:Int) (r1:Int) (r2:Int) (r3:Int) (r4:List Int) (w:World) (h:z74.f a0 a1 a2=some (r1,r2,r3,r4)) :
  Calls Tryz.prog 74 #[.int .i64 a0,.int .i64 a1,.int .i64 a2] w fun e w'=>∃ v3_:Value,e=.returned (.agg #[.int .i64 r1,.int .i64 r2,.int .i64 r3,v3_])∧Kd.R (Kd.int .i64) 2 w' w.heap.size (fun _=>True) v3_ r4∧Below w.heap.size w w':=by
 have hu36:=Tryz.underlying36
 have HB:=Zz.mk (Below.refl w.heap.size w)
 have H:(if 0≤(wrap64 (a1 * a2)) then (if (wrap64 (a1 * a2):Int).toNat≤35184372088832 then (some (a0,a1,a2,(List.replicate (wrap64 (a1 * a2):Int).toNat 0))) else (none)) else (none))=some (r1,r2,r3,r4):=h
 clear h
 obtain ⟨ji4,hji4⟩:∃ j_:Int,(wrap64 (a1 * a2))=j_:=⟨_,rfl⟩
 replace H:(if 0≤(ji4) then (if (ji4:Int).toNat≤35184372088832 then (some (a0,a1,a2,(List.replicate (ji4:Int).toNat 0))) else (none)) else (none))=some (r1,r2,r3,r4):=by first | (rw [hji4] at H;exact H) | (simp only [hji4] at H ⊢;exact H)
 have hji4w:(IntKind.i64.wrap (a1 * a2))=ji4:=(qBl _).trans hji4
 have c5:=O1_ H
 replace H:=O2_ H
 have c5b0:=eq_true c5
 have c5b1:decide (0≤(ji4))=true:=decide_eq_true c5
 clear c5
 have c6:=O1_ H
 replace H:=O2_ H
 have c6b0:=eq_true c6
 have c6b1:decide ((ji4:Int).toNat≤35184372088832)=true:=decide_eq_true c6
 clear c6
 obtain ⟨y102,hy102⟩:∃ y_:List Int,y_=(List.replicate (ji4:Int).toNat 0):=⟨_,rfl⟩
 replace H:(some (a0,a1,a2,y102))=some (r1,r2,r3,r4):=Y_ hy102 H
 have Ny102:=Zz.mk hy102
 clear hy102
 simp only [Option.some.injEq,Prod.mk.injEq] at H
 obtain ⟨rfl,rfl,rfl,rfl⟩:=H
 go_enter Tryz.func74,Tryz.ntmps74
 go_wp2_with (first | ((with_reducible refine qAm (N:=6) rfl ?_);refine bx_ 6 #[.int .i64 0,.int .i64 0,.int .i64 0,.slice none 0 0] 36 ?_;intro gb101 hg w7 hbox hb;have BK101:=Zz.mk (hbox);have GW101:=Zz.mk ((gw_ hg (B_ HB.out)));have GE101:=GW101;replace HB:=Zz.mk (bT_ (B_ HB.out) hb);clear hb hbox hg) | ((with_reducible refine qAm (N:=13) rfl ?_);refine Kd.R_make (Kd.int .i64) _ 2 rfl (N:=13) rfl 30 _ _ rfl ji4 rfl rfl Tryz.underlying30 (.int .i64 0) 8 qB4 rfl (by decide) (by omega) 0 (ok:=fun _=>True) (okp:=fun _=>True) rfl (fun _ hk=>hk) trivial (D_) (Nat.le_trans (Nat.mul_le_mul_right _ (D_:ji4.toNat≤35184372088832)) (by omega)) (Below.refl _ _) (Nat.le_refl _) ?_;intro v103 w8 ho9 hb hg_ hnew_;clear hg_ hnew_;(first | rw [← Ny102.out] at ho9 | (simp only [Int.reduceToNat] at ho9;rw [← Ny102.out] at ho9));have HO104:=Zz.mk (Kd.R_lower ho9 (bS_ (B1_ HB.out GE101.out)));replace BK101:=Zz.mk (kb_ BK101.out hb);replace HB:=Zz.mk (bT_ (B1_ HB.out GE101.out) hb);clear hb ho9;obtain ⟨Ao10,co10,eo10⟩:=Kd.R_slice HO104.out;subst eo10;obtain ⟨hcz11_0,hcz11_1,hcz11_2,hcz11_3,hfz11_0,hfz11_1,hfz11_2,hfz11_3⟩:=Z4f_ BK101.out))
 refine bodyPost_ret (results_cell_row rfl _ _ gb101 36 #[.int .i64 a0,.int .i64 a1,.int .i64 a2,.slice Ao10 y102.length co10] (0,0) _ rfl (by refine BW_ ?_;refine bP_ (cs:=#[.int .i64 a0,.int .i64 a1,.int .i64 a2,.slice none 0 0]) ?_ 3 _ rfl;refine BW_ ?_;refine bP_ (cs:=#[.int .i64 a0,.int .i64 a1,.int .i64 0,.slice none 0 0]) ?_ 2 _ rfl;refine BW_ ?_;refine bP_ (cs:=#[.int .i64 a0,.int .i64 0,.int .i64 0,.slice none 0 0]) ?_ 1 _ rfl;refine BW_ ?_;refine bP_ (cs:=#[.int .i64 0,.int .i64 0,.int .i64 0,.slice none 0 0]) ?_ 0 _ rfl;refine BW_ ?_;exact BK101.out) Tryz.underlying36 rfl (by kernel_rfl)) rfl ?_
 exact ⟨_,by first | rfl | (simp [qBz,qBy] <;> rfl) | (simp only [← hji4];first | rfl | (simp [qBz,qBy] <;> rfl)) | (simp [*,qBz,qBy] <;> rfl),by refine RW_ ?_;exact Kd.R_mono (Kd.R_far (p:=⟨gb101,3,none⟩) (Kd.R_far (p:=⟨gb101,2,none⟩) (Kd.R_far (p:=⟨gb101,1,none⟩) (Kd.R_far (p:=⟨gb101,0,none⟩) (Kd.R_types HO104.out BK101.out (by decide)) (fun _ hk=>hk.2) (.int .i64 a0)) (fun _ hk=>hk.2) (.int .i64 a1)) (fun _ hk=>hk.2) (.int .i64 a2)) (fun _ hk=>hk.2) (.slice Ao10 y102.length co10)) (fun _ hk=>trivial),B1_ HB.out GE101.out⟩
end Go.Proofs.YtpgjfppbbbnclaaGreat.B
