/- Printed by a program of this work over the kit's printer. -/
import Derived.Test.YtpgjfppbbbnclaaGreatKGPKNLE0
import Derived.Test.YtpgjfppbbbnclaaGreatKIFGODB0
import Derived.Test.YtpgjfppbbbnclaaGreatKIFGODB1
import Derived.Test.YtpgjfppbbbnclaaGreatKJMJOJB0
import Derived.Test.YtpgjfppbbbnclaaGreatKMBKBJN0
import Derived.Test.YtpgjfppbbbnclaaGreatKW0
set_option linter.unusedVariables false
set_option linter.unusedSimpArgs false
open Go.RowKit Go.Proofs.YtpgjfppbbbnclaaGreatW.PrintWords
set_option maxHeartbeats 8000000
set_option maxRecDepth 100000
namespace Go.Proofs.YtpgjfppbbbnclaaGreat.B
open Go.Proofs.YtpgjfppbbbnclaaGreatW.PrintLast Go.Proofs.YtpgjfppbbbnclaaGreatW.PrintMore
attribute [local go_sem] qAq qAo qAu qAt qAl qAk qAp qAn
def z68.l0:Nat→List Int→List (List Int)→Int→Int→List (List Int)→Option (List Int)
 | 0,_,_,_,_,_=>none
 | k+1,x5,x13,x14,x15,x102000=>if x15<x14 then (if 0≤x15 then (if x15<(x13.length:Int) then ((z44.f k x102000 (rI_ x13 x15)).bind fun t107=>(if x5.length<17592186044416 then (z68.l0 k (x5 ++ [t107]) x13 x14 (wrap64 (x15+1)) x102000) else (none))) else (none)) else (none)) else (some x5)
def z68.f (k:Nat) (l0_0:List (List Int)) (a1:Int):Option (List Int):=if 0≤a1 then (if a1<(l0_0.length:Int) then ((z83.f k (rI_ l0_0 a1)).bind fun t103=>(z68.l0 k ([]:List Int) t103 (t103.length:Int) 0 l0_0)) else (none)) else (none)
theorem z68.calls (k:Nat) (A0_0:Option Addr) (c0_0:Nat) (l0_0:List (List Int)) (a1:Int) (r:List Int) (w:World) (hr0_0:Kd.C (Kd.slice 2 (Kd.int .i64)) w A0_0 l0_0.length l0_0) (hc0_0:l0_0.length≤c0_0) (h:z68.f k l0_0 a1=some r) :
  Calls Tryz.prog 68 #[.agg #[.slice A0_0 l0_0.length c0_0],.int .i64 a1] w fun e w'=>∃ v0_:Value,e=.returned (v0_)∧Kd.R (Kd.int .i64) 2 w' w.heap.size (fun _=>True) v0_ r∧Below w.heap.size w w':=by
 have hu26:=Tryz.underlying26
 have HR0_0:=Zz.mk hr0_0
 have HC0_0:=Zz.mk hc0_0
 clear hr0_0 hc0_0
 have HB:=Zz.mk (Below.refl w.heap.size w)
 have H:(if 0≤a1 then (if a1<(l0_0.length:Int) then ((z83.f k (rI_ l0_0 a1)).bind fun t103=>(z68.l0 k ([]:List Int) t103 (t103.length:Int) 0 l0_0)) else (none)) else (none))=some r:=h
 clear h
 have c3b0:=O3_ H
 replace H:=O2_ H
 have c4b0:=O3_ H
 replace H:=O2_ H
 replace H:=OZ_ H
 obtain ⟨t103,A5,H⟩:=H
 have H':=Zz.mk H
 clear H
 go_enter Tryz.func68,Tryz.ntmps68
 go_wp2_with (first | ((with_reducible refine qAm (N:=2) rfl ?_);refine bx_ 2 #[.slice A0_0 l0_0.length c0_0] 26 ?_;intro gb101 hg w6 hbox hb;have BK101:=Zz.mk (hbox);have GW101:=Zz.mk ((gw_ hg (B_ HB.out)));have GE101:=GW101;replace HB:=Zz.mk (bT_ (B_ HB.out) hb);clear hb hbox hg;obtain ⟨hcz7_0,hfz7_0⟩:=Z1f_ BK101.out;have p102:0≤(a1:Int):=D_;have q102:a1<(l0_0.length:Int):=D_;obtain ⟨ad102,A102_0,c102_0,e102,hx102_0,hl102_0,hi102_0⟩:=qA2 HR0_0.out a1 p102 q102;cases e102;replace hx102_0:=(HB.out.cell (World.block_lt_of_cell? w _ hx102_0)).trans hx102_0;have HR102_0:=Zz.mk hi102_0;have HC102_0:=Zz.mk hl102_0;clear hi102_0 hl102_0;replace p102:=eq_true p102;replace q102:=eq_true q102) | ((with_reducible refine gC_ (f:=83) rfl ?_);refine GL_ (some 13) rfl rfl Tryz.func83 #[.slice A102_0 (rI_ l0_0 a1).length c102_0] rfl (h:=?_);(with_reducible refine (z83.calls k (fun k_=>k_<w.heap.size) _ _ (rI_ l0_0 a1) t103 _ ?side1 A5.out).mono ?_);(case side1=>exact Kd.V_mk HC102_0.out (Kd.F_below (Kd.C_F (Kd.heap_int .i64) HR102_0.out) (B1_ HB.out GE101.out)));rintro e w8 ⟨v104,rfl,ho0,hb⟩;refine ⟨_,rfl,?_⟩;have HO105:=Zz.mk (Kd.N_lower (Kd.N_mono (ok':=fun k_=>k_≠gb101) ho0 (fun k_ hk_=>Or.elim hk_ (fun hs_=>fun e_=>Nat.not_le.2 hs_ (by rw [e_];exact GW101.out)) (fun hn_=>(Kd.freshB (g:=gb101) (o:=.cells #[.slice (some ad102) l0_0.length c0_0] 26 (0,0)) (KB_ BK101.out) k_ hn_)))) (bS_ (B1_ HB.out GE101.out)));replace BK101:=Zz.mk (kb_ BK101.out hb);replace HB:=Zz.mk (bT_ (B1_ HB.out GE101.out) hb);(try clear hb);(try clear ho0);obtain ⟨Ao9,co9,eo9⟩:=Kd.N_slice HO105.out;subst eo9))
 go_loopg [5,15] k (fun kq v5 v15 w'=>∃ (x5_1:List Int) (x15_1:Int),v15=.int .i64 x15_1∧Zz (z68.l0 kq x5_1 t103 (t103.length:Int) x15_1 l0_0=some r)∧Zz (kq≤k)∧Zz (Kd.R (Kd.int .i64) 2 w' w.heap.size (fun _=>True) v5 x5_1)∧Zz (Kd.N (Kd.slice 2 (Kd.int .i64)) 30 w' w.heap.size (fun k_=>some k_≠(v5:Value).ownBlock∧k_≠gb101) (.slice Ao9 t103.length co9) t103)∧Zz (w'.heap[gb101]?=some (.cells #[(.slice (some ad102) l0_0.length c0_0)] 26 (0,0)))∧Zz (Below w.heap.size w w'))
 case atStart=>exact ⟨(([]:List Int)),(0),E_,H',⟨Nat.le_refl _⟩,⟨by first | exact Kd.R_nil _ _ _ _ _ | exact Kd.N_nil _ _ _ _ _ | exact Kd.V_nil _ _ _ _ _ | exact Kd.Q_nil _ _ _ _ _ | exact Kd.S_nil _ _ _ _ _⟩,⟨by refine NW_ ?_;exact Kd.N_mono HO105.out (fun _ hk=>⟨(by simp [Value.ownBlock]),hk⟩)⟩,⟨KB_ BK101.out⟩,⟨B1_ HB.out GE101.out⟩⟩
 case round =>
  clear H'
  (try clear c3b0);(try clear c4b0);(try clear hcz7_0);(try clear hfz7_0);(try clear hx102_0);(try clear p102);(try clear q102)
  obtain ⟨x5_1,x15_1,rfl,HA,HK1,HO_5,HO_13,BK101,HB⟩:=hrel
  cases gk with
  | zero=>exact absurd HA.out (by simp [z68.l0])
  | succ k1 =>
   have H:=HA.out
   clear HA
   simp only [z68.l0] at H
   by_cases c10:x15_1<(t103.length:Int)
   ·rw [if_pos c10] at H
    have c10b0:decide (x15_1<(t103.length:Int))=true:=decide_eq_true c10
    clear c10
    have c11b0:=O3_ H
    replace H:=O2_ H
    have c12b0:=O3_ H
    replace H:=O2_ H
    replace H:=OZ_ H
    obtain ⟨t107,A13,H⟩:=H
    have c14:=O1_ H
    replace H:=O2_ H
    have LMc14:=Zz.mk c14
    clear c14
    obtain ⟨y108,hy108⟩:∃ y_:List Int,y_=(x5_1 ++ [t107]):=⟨_,rfl⟩
    replace H:(z68.l0 k1 y108 t103 (t103.length:Int) (wrap64 (x15_1+1)) l0_0)=some r:=Y_ hy108 H
    have Ny108:=Zz.mk hy108
    clear hy108
    have H':=Zz.mk H
    clear H
    have p106:0≤(x15_1:Int):=D_
    have q106:x15_1<(t103.length:Int):=D_
    obtain ⟨ad106,A106_0,c106_0,e106,hx106_0,hl106_0,hi106_0⟩:=qA2 (Kd.N_reads' HO_13.out).2.2 x15_1 p106 q106
    cases e106
    obtain ⟨ce106,hce106,hMe106,hcc106⟩:=Kd.N_get HO_13.out [] x15_1 p106 (by first | exact q106 | exact D_ | (have e_:=(Kd.N_reads' HO_13.out).1;omega))
    obtain ⟨ua106_0,uc106_0,rfl,ul106_0,ge106_0⟩:=Kd.FK_slice_open hMe106
    have hv106_0:=hcc106 0 _ rfl
    rw [Nat.add_zero,show ((Kd.slice 2 (Kd.int .i64))).sz=1 from rfl,Nat.mul_one] at hv106_0
    replace hv106_0:=Option.some.inj (hv106_0.symm.trans hx106_0)
    injection hv106_0 with hva_ hvn_ hvc_
    rw [hva_] at ge106_0
    rw [hvc_] at ul106_0
    have HL106_0:=Zz.mk (show Kd.V (Kd.int .i64) 2 _ w.heap.size _ _ (rI_ t103 x15_1) from Kd.V_mk ul106_0 ge106_0)
    clear hva_ hvn_ hvc_ ge106_0 ul106_0
    clear hcc106 hce106
    have HR106_0:=Zz.mk hi106_0
    have HC106_0:=Zz.mk hl106_0
    clear hi106_0 hl106_0
    replace p106:=eq_true p106
    replace q106:=eq_true q106
    obtain ⟨hcz15_0,hfz15_0⟩:=Z1f_ BK101.out
    go_wp2_with (first | ((with_reducible refine gC_ (f:=44) rfl ?_);refine GL_ (some 22) rfl rfl Tryz.func44 #[.agg #[.slice (some ad102) l0_0.length c0_0],.slice A106_0 (rI_ t103 x15_1).length c106_0] rfl (h:=?_);(with_reducible refine (z44.calls k1 _ _ l0_0 _ _ (rI_ t103 x15_1) t107 _ ?side1 ?side2 ?side3 ?side4 A13.out).mono ?_);(case side1=>exact KC_ (Kd.C_below HR0_0.out HB.out));(case side2=>exact HC0_0.out);(case side3=>exact KC_ (KC_ HR106_0.out));(case side4=>exact HC106_0.out);rintro e w16 ⟨rfl,hb⟩;refine ⟨_,rfl,?_⟩;replace HO_5:=Zz.mk (Kd.R_below (KR_ HO_5.out) hb);replace HO_13:=Zz.mk (Kd.N_below (KN_ HO_13.out) hb);replace HL106_0:=Zz.mk (Kd.V_below (by refine VW_ ?_;exact HL106_0.out) hb);replace BK101:=Zz.mk (kb_ BK101.out hb);replace HR106_0:=Zz.mk (Kd.C_below (KC_ HR106_0.out) hb);replace HB:=Zz.mk (bT_ (B1_ HB.out GE101.out) hb);(try clear hb)) | ((with_reducible refine qA0 (b:=.append) (xs:=#[.tmp 19,.tmp 23]) rfl ?_);at_builtin;refine Kd.R_append (Kd.int .i64) (w0:=w) w.heap.size rfl (.tmp 19) (.tmp 23) 30 2 (.int .i64 0) 8 rfl Tryz.underlying30 qB4 rfl (by decide) (by omega) u5 x5_1 t107 [.int .i64 t107] (fun _=>True) (fun _=>False) rfl rfl ?aP (fun _ hk=>hk.elim) ?aF ?aO ?aB ?aS ?aL ?_;(case aP=>exact rfl);(case aB=>exact (B1_ HB.out GE101.out));(case aF=>exact (fun _ _=>trivial));(case aO=>exact (KR_ HO_5.out));(case aS=>exact (bS_ (B1_ HB.out GE101.out)));(case aL=>have:=LMc14.out;omega);intro v109 w17 ho hb hg hat;rw [← Ny108.out] at ho;replace HO_13:=Zz.mk (Kd.N_afterv (ok:=(fun k_=>k_≠gb101)) (by refine NW_ ?_;exact Kd.N_mono HO_13.out (fun _ hk=>⟨hk.2,hk.1⟩)) hg hat);replace BK101:=Zz.mk (qA9 (g:=gb101) (o:=.cells #[.slice (some ad102) l0_0.length c0_0] 26 (0,0)) (KB_ BK101.out) hg (Kd.R_ne HO_5.out BK101.out (by decide)));replace HL106_0:=Zz.mk (Kd.V_afterv (ok:=(fun k_=>some k_≠(.slice (some ad106) t103.length co9:Value).ownBlock∧k_≠gb101)) (by refine VW_ ?_;exact Kd.V_mono HL106_0.out (fun _ hk=>⟨⟨hk.2,hk.1.2⟩,hk.1.1⟩)) hg hat);replace HB:=Zz.mk (hb);have HO110:=Zz.mk (ho);clear HO_5;clear ho hb hg hat))
    go_roundg k1
    case measure=>exact Q1_ HK1
    case rel=>exact ⟨(y108),(wrap64 (x15_1+1)),E_,H',⟨Q1_ HK1⟩,⟨KR_ HO110.out⟩,⟨by refine NW_ ?_;exact Kd.N_mono HO_13.out (fun _ hk=>⟨hk.2,hk.1⟩)⟩,⟨KB_ BK101.out⟩,⟨B1_ HB.out GE101.out⟩⟩
   rw [if_neg c10] at H
   have c10b0:decide (x15_1<(t103.length:Int))=false:=decide_eq_false c10
   clear c10
   obtain rfl:=OI_ H
   go_wp2
   go_ret
   exact ⟨_,F_,KR_ HO_5.out,B1_ HB.out GE101.out⟩
def z67.f (k:Nat) (a0:Int) (a1:Int) (a2:Int):Option (Int × Int × Int × List Int):=(z158.f k a0 a1 a2).bind fun bt102=>(some (bt102.1,bt102.2.1,bt102.2.2.1,bt102.2.2.2))
theorem z67.calls (k:Nat) (a0:Int) (a1:Int) (a2:Int) (r1:Int) (r2:Int) (r3:Int) (r4:List Int) (w:World) (h:z67.f k a0 a1 a2=some (r1,r2,r3,r4)) :
  Calls Tryz.prog 67 #[.int .i64 a0,.int .i64 a1,.int .i64 a2] w fun e w'=>∃ v3_:Value,e=.returned (.agg #[.int .i64 r1,.int .i64 r2,.int .i64 r3,v3_])∧Kd.R (Kd.int .i64) 2 w' w.heap.size (fun _=>True) v3_ r4∧Below w.heap.size w w':=by
 have hu36:=Tryz.underlying36
 have HB:=Zz.mk (Below.refl w.heap.size w)
 have H:((z158.f k a0 a1 a2).bind fun bt102=>(some (bt102.1,bt102.2.1,bt102.2.2.1,bt102.2.2.2)))=some (r1,r2,r3,r4):=h
 clear h
 replace H:=OB_ H
 obtain ⟨⟨t102,t103,t104,t105⟩,A40,H⟩:=H
 replace H:(some (t102,t103,t104,t105))=some (r1,r2,r3,r4):=H
 have A4:=Zz.mk A40
 clear A40
 simp only [Option.some.injEq,Prod.mk.injEq] at H
 obtain ⟨rfl,rfl,rfl,rfl⟩:=H
 go_enter Tryz.func67,Tryz.ntmps67
 go_wp2_with (first | ((with_reducible refine qAm (N:=6) rfl ?_);refine bx_ 6 #[.int .i64 0,.int .i64 0,.int .i64 0,.slice none 0 0] 36 ?_;intro gb101 hg w5 hbox hb;have BK101:=Zz.mk (hbox);have GW101:=Zz.mk ((gw_ hg (B_ HB.out)));have GE101:=GW101;replace HB:=Zz.mk (bT_ (B_ HB.out) hb);clear hb hbox hg) | ((with_reducible refine gC_ (f:=99) rfl ?_);refine GL_ (some 10) rfl rfl Tryz.func99 #[.int .i64 a0,.int .i64 a1,.int .i64 a2,.func (.func 100) #[] #[]] rfl (h:=?_);(with_reducible refine (z158.calls k a0 a1 a2  t102 t103 t104 t105 _ A4.out).mono ?_);rintro e w6 ⟨v106,rfl,ho0,hb⟩;refine ⟨_,rfl,?_⟩;have HO107:=Zz.mk (Kd.R_lower ho0 (bS_ (B1_ HB.out GE101.out)));replace BK101:=Zz.mk (kb_ BK101.out hb);replace HB:=Zz.mk (bT_ (B1_ HB.out GE101.out) hb);(try clear hb);(try clear ho0);obtain ⟨hcz7_0,hcz7_1,hcz7_2,hcz7_3,hfz7_0,hfz7_1,hfz7_2,hfz7_3⟩:=Z4f_ BK101.out;obtain ⟨Ao8,co8,eo8⟩:=Kd.R_slice HO107.out;subst eo8))
 refine bodyPost_ret (results_cell_row rfl _ _ gb101 36 #[.int .i64 t102,.int .i64 t103,.int .i64 t104,.slice Ao8 t105.length co8] (0,0) _ rfl (by refine BW_ ?_;refine bP_ (cs:=#[.int .i64 t102,.int .i64 t103,.int .i64 t104,.slice none 0 0]) ?_ 3 _ rfl;refine BW_ ?_;refine bP_ (cs:=#[.int .i64 t102,.int .i64 t103,.int .i64 0,.slice none 0 0]) ?_ 2 _ rfl;refine BW_ ?_;refine bP_ (cs:=#[.int .i64 t102,.int .i64 0,.int .i64 0,.slice none 0 0]) ?_ 1 _ rfl;refine BW_ ?_;refine bP_ (cs:=#[.int .i64 0,.int .i64 0,.int .i64 0,.slice none 0 0]) ?_ 0 _ rfl;refine BW_ ?_;exact BK101.out) Tryz.underlying36 rfl (by kernel_rfl)) rfl ?_
 exact ⟨_,F_,by refine RW_ ?_;exact Kd.R_mono (Kd.R_far (p:=⟨gb101,3,none⟩) (Kd.R_far (p:=⟨gb101,2,none⟩) (Kd.R_far (p:=⟨gb101,1,none⟩) (Kd.R_far (p:=⟨gb101,0,none⟩) (Kd.R_types HO107.out BK101.out (by decide)) (fun _ hk=>hk.2) (.int .i64 t102)) (fun _ hk=>hk.2) (.int .i64 t103)) (fun _ hk=>hk.2) (.int .i64 t104)) (fun _ hk=>hk.2) (.slice Ao8 t105.length co8)) (fun _ hk=>trivial),B1_ HB.out GE101.out⟩
def z9.f (k:Nat) (l0_0:List (List Int)) (a1:Int):Option (List Int × Int):=(z30.f k l0_0).bind fun t102=>(if t102=true then ((z31.f a1).bind fun t103=>(if t103=true then ((z32.f k l0_0 a1).bind fun t104=>(some (t104,0))) else (some (([]:List Int),2)))) else (some (([]:List Int),1)))
theorem z9.calls (k:Nat) (A0_0:Option Addr) (c0_0:Nat) (l0_0:List (List Int)) (a1:Int) (r1:List Int) (r2:Int) (w:World) (hr0_0:Kd.C (Kd.slice 2 (Kd.int .i64)) w A0_0 l0_0.length l0_0) (hc0_0:l0_0.length≤c0_0) (h:z9.f k l0_0 a1=some (r1,r2)) :
  Calls Tryz.prog 9 #[.agg #[.slice A0_0 l0_0.length c0_0],.int .i64 a1] w fun e w'=>∃ v0_:Value,e=.returned (.tuple #[v0_,.int .i64 r2])∧Kd.R (Kd.int .i64) 2 w' w.heap.size (fun _=>True) v0_ r1∧Below w.heap.size w w':=by
 have hu26:=Tryz.underlying26
 have HR0_0:=Zz.mk hr0_0
 have HC0_0:=Zz.mk hc0_0
 clear hr0_0 hc0_0
 have HB:=Zz.mk (Below.refl w.heap.size w)
 have H:((z30.f k l0_0).bind fun t102=>(if t102=true then ((z31.f a1).bind fun t103=>(if t103=true then ((z32.f k l0_0 a1).bind fun t104=>(some (t104,0))) else (some (([]:List Int),2)))) else (some (([]:List Int),1))))=some (r1,r2):=h
 clear h
 replace H:=OB_ H
 obtain ⟨t102,A30,H⟩:=H
 replace H:(if t102=true then ((z31.f a1).bind fun t103=>(if t103=true then ((z32.f k l0_0 a1).bind fun t104=>(some (t104,0))) else (some (([]:List Int),2)))) else (some (([]:List Int),1)))=some (r1,r2):=H
 have A3:=Zz.mk A30
 clear A30
 by_cases c4:t102=true
 ·subst c4
  have H1:((z31.f a1).bind fun t103=>(if t103=true then ((z32.f k l0_0 a1).bind fun t104=>(some (t104,0))) else (some (([]:List Int),2))))=some (r1,r2):=by rw [if_pos rfl] at H;exact H
  clear H
  have H:=H1
  clear H1
  replace H:=OB_ H
  obtain ⟨t103,A50,H⟩:=H
  replace H:(if t103=true then ((z32.f k l0_0 a1).bind fun t104=>(some (t104,0))) else (some (([]:List Int),2)))=some (r1,r2):=H
  have A5:=Zz.mk A50
  clear A50
  by_cases c6:t103=true
  ·subst c6
   have H1:((z32.f k l0_0 a1).bind fun t104=>(some (t104,0)))=some (r1,r2):=by rw [if_pos rfl] at H;exact H
   clear H
   have H:=H1
   clear H1
   replace H:=OB_ H
   obtain ⟨t104,A70,H⟩:=H
   replace H:(some (t104,0))=some (r1,r2):=H
   have A7:=Zz.mk A70
   clear A70
   simp only [Option.some.injEq,Prod.mk.injEq] at H
   obtain ⟨rfl,rfl⟩:=H
   go_enter Tryz.func9,Tryz.ntmps9
   go_wp2_with (first | ((with_reducible refine qAm (N:=2) rfl ?_);refine bx_ 2 #[.slice A0_0 l0_0.length c0_0] 26 ?_;intro gb101 hg w8 hbox hb;have BK101:=Zz.mk (hbox);have GW101:=Zz.mk ((gw_ hg (B_ HB.out)));have GE101:=GW101;replace HB:=Zz.mk (bT_ (B_ HB.out) hb);clear hb hbox hg) | ((with_reducible refine gC_ (f:=30) rfl ?_);refine GL_ (some 6) rfl rfl Tryz.func30 #[.pointer (some ⟨gb101,0,none⟩)] rfl (h:=?_);(with_reducible refine (z30.calls k gb101 A0_0 c0_0 l0_0 true _ ?side1 ?side2 ?side3 A3.out).mono ?_);(case side1=>refine BW_ ?_;exact BK101.out);(case side2=>exact KC_ (Kd.C_below HR0_0.out HB.out));(case side3=>exact HC0_0.out);rintro e w9 ⟨rfl,hb⟩;refine ⟨_,rfl,?_⟩;replace BK101:=Zz.mk (kb_ BK101.out hb);replace HB:=Zz.mk (bT_ (B1_ HB.out GE101.out) hb);(try clear hb)) | ((with_reducible refine gC_ (f:=31) rfl ?_);refine GL_ (some 9) rfl rfl Tryz.func31 #[.int .i64 a1] rfl (h:=?_);(with_reducible refine (z31.calls a1 true _ A5.out).mono ?_);rintro e w' ⟨rfl,⟨nd,rfl⟩⟩;refine ⟨_,rfl,?_⟩) | ((with_reducible refine gC_ (f:=32) rfl ?_);refine GL_ (some 12) rfl rfl Tryz.func32 #[.pointer (some ⟨gb101,0,none⟩),.int .i64 a1] rfl (h:=?_);(with_reducible refine (z32.calls k gb101 A0_0 c0_0 l0_0 a1 t104 _ ?side1 ?side2 ?side3 A7.out).mono ?_);(case side1=>refine BW_ ?_;exact BK101.out);(case side2=>repeat (first | exact (Kd.C_below HR0_0.out (B1_ HB.out GE101.out)) | (with_reducible refine Kd.C_alloc ?_ _) | (with_reducible refine Kd.C_drewN ?_ _) | (with_reducible refine Kd.C_drew ?_)));(case side3=>exact HC0_0.out);rintro e w10 ⟨v105,rfl,ho0,hb⟩;refine ⟨_,rfl,?_⟩;have HO106:=Zz.mk (Kd.R_lower ho0 (bS_ (B1_ HB.out GE101.out)));replace BK101:=Zz.mk (kb_ BK101.out hb);replace HB:=Zz.mk (bT_ (B1_ HB.out GE101.out) hb);(try clear hb);(try clear ho0)))
   go_ret2
   exact ⟨_,F_,KR_ HO106.out,B1_ HB.out GE101.out⟩
  replace c6:=Bool.eq_false_iff.mpr c6
  subst c6
  have H1:(some (([]:List Int),2))=some (r1,r2):=by rw [if_neg (show ¬ (false=true) by decide)] at H;exact H
  clear H
  have H:=H1
  clear H1
  simp only [Option.some.injEq,Prod.mk.injEq] at H
  obtain ⟨rfl,rfl⟩:=H
  go_enter Tryz.func9,Tryz.ntmps9
  go_wp2_with (first | ((with_reducible refine qAm (N:=2) rfl ?_);refine bx_ 2 #[.slice A0_0 l0_0.length c0_0] 26 ?_;intro gb101 hg w11 hbox hb;have BK101:=Zz.mk (hbox);have GW101:=Zz.mk ((gw_ hg (B_ HB.out)));have GE101:=GW101;replace HB:=Zz.mk (bT_ (B_ HB.out) hb);clear hb hbox hg) | ((with_reducible refine gC_ (f:=30) rfl ?_);refine GL_ (some 6) rfl rfl Tryz.func30 #[.pointer (some ⟨gb101,0,none⟩)] rfl (h:=?_);(with_reducible refine (z30.calls k gb101 A0_0 c0_0 l0_0 true _ ?side1 ?side2 ?side3 A3.out).mono ?_);(case side1=>refine BW_ ?_;exact BK101.out);(case side2=>exact KC_ (Kd.C_below HR0_0.out HB.out));(case side3=>exact HC0_0.out);rintro e w12 ⟨rfl,hb⟩;refine ⟨_,rfl,?_⟩;replace BK101:=Zz.mk (kb_ BK101.out hb);replace HB:=Zz.mk (bT_ (B1_ HB.out GE101.out) hb);(try clear hb)) | ((with_reducible refine gC_ (f:=31) rfl ?_);refine GL_ (some 9) rfl rfl Tryz.func31 #[.int .i64 a1] rfl (h:=?_);(with_reducible refine (z31.calls a1 false _ A5.out).mono ?_);rintro e w' ⟨rfl,⟨nd,rfl⟩⟩;refine ⟨_,rfl,?_⟩))
  go_ret2
  exact ⟨_,F_,by first | exact Kd.R_nil _ _ _ _ _ | exact Kd.N_nil _ _ _ _ _ | exact Kd.V_nil _ _ _ _ _ | exact Kd.Q_nil _ _ _ _ _ | exact Kd.S_nil _ _ _ _ _,B1_ HB.out GE101.out⟩
 replace c4:=Bool.eq_false_iff.mpr c4
 subst c4
 have H1:(some (([]:List Int),1))=some (r1,r2):=by rw [if_neg (show ¬ (false=true) by decide)] at H;exact H
 clear H
 have H:=H1
 clear H1
 simp only [Option.some.injEq,Prod.mk.injEq] at H
 obtain ⟨rfl,rfl⟩:=H
 go_enter Tryz.func9,Tryz.ntmps9
 go_wp2_with (first | ((with_reducible refine qAm (N:=2) rfl ?_);refine bx_ 2 #[.slice A0_0 l0_0.length c0_0] 26 ?_;intro gb101 hg w13 hbox hb;have BK101:=Zz.mk (hbox);have GW101:=Zz.mk ((gw_ hg (B_ HB.out)));have GE101:=GW101;replace HB:=Zz.mk (bT_ (B_ HB.out) hb);clear hb hbox hg) | ((with_reducible refine gC_ (f:=30) rfl ?_);refine GL_ (some 6) rfl rfl Tryz.func30 #[.pointer (some ⟨gb101,0,none⟩)] rfl (h:=?_);(with_reducible refine (z30.calls k gb101 A0_0 c0_0 l0_0 false _ ?side1 ?side2 ?side3 A3.out).mono ?_);(case side1=>refine BW_ ?_;exact BK101.out);(case side2=>exact KC_ (Kd.C_below HR0_0.out HB.out));(case side3=>exact HC0_0.out);rintro e w14 ⟨rfl,hb⟩;refine ⟨_,rfl,?_⟩;replace BK101:=Zz.mk (kb_ BK101.out hb);replace HB:=Zz.mk (bT_ (B1_ HB.out GE101.out) hb);(try clear hb)))
 go_ret2
 exact ⟨_,F_,by first | exact Kd.R_nil _ _ _ _ _ | exact Kd.N_nil _ _ _ _ _ | exact Kd.V_nil _ _ _ _ _ | exact Kd.Q_nil _ _ _ _ _ | exact Kd.S_nil _ _ _ _ _,B1_ HB.out GE101.out⟩
end Go.Proofs.YtpgjfppbbbnclaaGreat.B
