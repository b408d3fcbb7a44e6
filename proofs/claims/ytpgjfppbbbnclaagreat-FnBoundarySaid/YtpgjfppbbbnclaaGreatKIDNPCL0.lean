/- Printed by a program of this work over the kit's printer. -/
import Derived.Test.YtpgjfppbbbnclaaGreatKEGIDHC0
import Derived.Test.YtpgjfppbbbnclaaGreatKIFGODB0
import Derived.Test.YtpgjfppbbbnclaaGreatKW0
set_option linter.unusedVariables false
set_option linter.unusedSimpArgs false
open Go.RowKit Go.Proofs.YtpgjfppbbbnclaaGreatW.PrintWords
namespace Go.Proofs.YtpgjfppbbbnclaaGreat.B
open Go.Proofs.YtpgjfppbbbnclaaGreatW.PrintLast Go.Proofs.YtpgjfppbbbnclaaGreatW.PrintMore
attribute [local go_sem] qAq qAo qAu qAt qAl qAk qAp qAn
mutual
def z75.l0:Nat→List Int→List (List Int)→Int→Int→Int→Int→Int→List Int→Option (List Int × Bool)
 | 0,_,_,_,_,_,_,_,_=>none
 | k+1,x1,x6,x16,x17,x102000,x102001,x102002,x102003=>if x17<x16 then (if 0≤x17 then (if x17<(x6.length:Int) then (if x17<(x1.length:Int) then (if (rI_ x6 x17).length<17592186044416 then (z75.l0 k x1 (x6.set (x17:Int).toNat ((rI_ x6 x17) ++ [rd x1 x17])) x16 (wrap64 (x17+1)) x102000 x102001 x102002 x102003) else (none)) else (none)) else (none)) else (none)) else ((z87.f k x6 (wrap64 (x102002+1)) x102000).bind fun bt111=>(if 0≤x102002 then (if (x102002:Int).toNat≤35184372088832 then (z75.l1 k bt111.2.2 (List.replicate (x102002:Int).toNat 0) bt111.1 (bt111.1.length:Int) 0 x102000 x102001 x102002 x102003) else (none)) else (none)))
def z75.l1:Nat→List (List Int)→List Int→List Int→Int→Int→Int→Int→Int→List Int→Option (List Int × Bool)
 | 0,_,_,_,_,_,_,_,_,_=>none
 | k+1,x6,x10,x47,x48,x49,x102000,x102001,x102002,x102003=>if x49<x48 then (if 0≤x49 then (if x49<(x47.length:Int) then (if (rd x47 x49)=x102002 then (some (([]:List Int),false)) else (if x49<(x6.length:Int) then (if 0≤x102002 then (if x102002<((rI_ x6 x49).length:Int) then (if 0≤(rd x47 x49) then (if (rd x47 x49)<(x10.length:Int) then (z75.l1 k x6 (x10.set ((rd x47 x49):Int).toNat (rd (rI_ x6 x49) x102002)) x47 x48 (wrap64 (x49+1)) x102000 x102001 x102002 x102003) else (none)) else (none)) else (none)) else (none)) else (none))) else (none)) else (none)) else (some (x10,true))
end
def z75.f (k:Nat) (a0_0:Int) (a0_1:Int) (a0_2:Int) (l0_3:List Int) (l1:List Int):Option (List Int × Bool):=(z86.f k a0_0 a0_1 a0_2 l0_3).bind fun t102=>(z75.l0 k l1 t102 (t102.length:Int) 0 a0_0 a0_1 a0_2 l0_3)
def z75.T5:Bool × List (List Nat × List Nat):=(true,[([],[]),([],[]),([],[]),([],[]),([2,3],[2,3]),([4],[4]),([],[]),([],[]),([6,7],[6,7]),([8],[8]),([9],[9]),([5,10],[5,10]),([0,1,0,1,2,3,4,5,6,7,8,9,10,11],[0,1]),([12,11,11,0,1,2,3,4,5,6,7,8,9,10,11],[11,12])])
def z75.B5:List Nat:=[0,0,0,0,12,28,0,0,192,448,960,2044,4095,8191]
theorem z75.tab5:rtab .any (qD3 Tryz.f75 5)=z75.T5:=by kernel_rfl
theorem z75.bits5:qBj z75.T5.2 z75.B5=true:=by kernel_rfl
def z75.T14:Bool × List (List Nat × List Nat):=(true,[([],[]),([],[]),([],[]),([],[]),([2,3],[2,3]),([4],[4]),([],[]),([6],[6]),([5,7],[5,7]),([8],[8]),([0,1,0,1,2,3,4,5,6,7,8,9],[0,1]),([10,9,0,1,2,3,4,5,6,7,8,9],[9,10])])
def z75.B14:List Nat:=[0,0,0,0,12,28,0,64,252,508,1023,2047]
theorem z75.tab14:rtab .any (qD3 Tryz.f75 14)=z75.T14:=by kernel_rfl
theorem z75.bits14:qBj z75.T14.2 z75.B14=true:=by kernel_rfl
set_option maxHeartbeats 8000000 in
set_option maxRecDepth 100000 in
theorem z75.calls (k:Nat) (a0_0:Int) (a0_1:Int) (a0_2:Int) (A0_3:Option Addr) (c0_3:Nat) (l0_3:List Int) (A1:Option Addr) (c1:Nat) (l1:List Int) (r1:List Int) (r2:Bool) (w:World) (hr0_3:Kd.C (Kd.int .i64) w A0_3 l0_3.length l0_3) (hc0_3:l0_3.length≤c0_3) (hr1:Kd.C (Kd.int .i64) w A1 l1.length l1) (hc1:l1.length≤c1) (h:z75.f k a0_0 a0_1 a0_2 l0_3 l1=some (r1,r2)) :
  Calls Tryz.prog 75 #[.agg #[.int .i64 a0_0,.int .i64 a0_1,.int .i64 a0_2,.slice A0_3 l0_3.length c0_3],.slice A1 l1.length c1] w fun e w'=>∃ v0_:Value,e=.returned (.tuple #[v0_,.bool r2])∧Kd.R (Kd.int .i64) 2 w' w.heap.size (fun _=>True) v0_ r1∧Below w.heap.size w w':=by
 have hu36:=Tryz.underlying36
 have HR0_3:=Zz.mk hr0_3
 have HC0_3:=Zz.mk hc0_3
 clear hr0_3 hc0_3
 have HR1:=Zz.mk hr1
 have HC1:=Zz.mk hc1
 clear hr1 hc1
 have HB:=Zz.mk (Below.refl w.heap.size w)
 have H:((z86.f k a0_0 a0_1 a0_2 l0_3).bind fun t102=>(z75.l0 k l1 t102 (t102.length:Int) 0 a0_0 a0_1 a0_2 l0_3))=some (r1,r2):=h
 clear h
 replace H:=OB_ H
 obtain ⟨t102,A30,H⟩:=H
 replace H:(z75.l0 k l1 t102 (t102.length:Int) 0 a0_0 a0_1 a0_2 l0_3)=some (r1,r2):=H
 have A3:=Zz.mk A30
 clear A30
 have H':=Zz.mk H
 clear H
 go_enter Tryz.func75,Tryz.ntmps75
 go_wp2_with (first | ((with_reducible refine qAm (N:=2) rfl ?_);refine bx_ 2 #[.int .i64 a0_0,.int .i64 a0_1,.int .i64 a0_2,.slice A0_3 l0_3.length c0_3] 36 ?_;intro gb101 hg w4 hbox hb;have BK101:=Zz.mk (hbox);have GW101:=Zz.mk ((gw_ hg (B_ HB.out)));have GE101:=GW101;replace HB:=Zz.mk (bT_ (B_ HB.out) hb);clear hb hbox hg;obtain ⟨hcz5_0,hcz5_1,hcz5_2,hcz5_3,hfz5_0,hfz5_1,hfz5_2,hfz5_3⟩:=Z4f_ BK101.out) | ((with_reducible refine gC_ (f:=86) rfl ?_);refine GL_ (some 14) rfl rfl Tryz.func86 #[.agg #[.int .i64 a0_0,.int .i64 a0_1,.int .i64 a0_2,.slice A0_3 l0_3.length c0_3]] rfl (h:=?_);(with_reducible refine (z86.calls k a0_0 a0_1 a0_2 _ _ l0_3 t102 _ ?side1 ?side2 A3.out).mono ?_);(case side1=>exact KC_ (Kd.C_below HR0_3.out HB.out));(case side2=>exact HC0_3.out);rintro e w6 ⟨v103,rfl,ho0,hb⟩;refine ⟨_,rfl,?_⟩;have HO104:=Zz.mk (Kd.S_lower ho0 (bS_ (B1_ HB.out GE101.out)));replace BK101:=Zz.mk (kb_ BK101.out hb);replace HB:=Zz.mk (bT_ (B1_ HB.out GE101.out) hb);(try clear hb);(try clear ho0);obtain ⟨Ao7,co7,eo7⟩:=Kd.S_slice HO104.out;subst eo7))
 go_loopg [17] k (fun kq v17 w'=>∃ (x6_1:List (List Int)) (x17_1:Int),v17=.int .i64 x17_1∧Zz (z75.l0 kq l1 x6_1 (t102.length:Int) x17_1 a0_0 a0_1 a0_2 l0_3=some (r1,r2))∧Zz (kq≤k)∧Zz (Kd.S (Kd.slice 2 (Kd.int .i64)) 30 w' w.heap.size (fun _=>True) (.slice Ao7 t102.length co7) x6_1)∧Zz (w'.heap[gb101]?=some (.cells #[.int .i64 a0_0,.int .i64 a0_1,.int .i64 a0_2,(.slice A0_3 l0_3.length c0_3)] 36 (0,0)))∧Zz (Below w.heap.size w w'))
 case atStart=>exact ⟨(t102),(0),E_,H',⟨Nat.le_refl _⟩,⟨KS_ HO104.out⟩,⟨KB_ BK101.out⟩,⟨B1_ HB.out GE101.out⟩⟩
 case round =>
  clear H'
  (try clear c1);(try clear hcz5_0);(try clear hcz5_1);(try clear hcz5_2);(try clear hcz5_3);(try clear hfz5_0);(try clear hfz5_1);(try clear hfz5_2);(try clear hfz5_3)
  obtain ⟨x6_1,x17_1,rfl,HA,HK1,HO_6,BK101,HB⟩:=hrel
  have hl6_1:=(Kd.S_reads' HO_6.out).1
  rw [hl6_1] at HO_6
  (try simp only [hl6_1])
  (try simp only [hl6_1] at BK101)
  cases gk with
  | zero=>exact absurd HA.out (by simp [z75.l0])
  | succ k1 =>
   have H:=HA.out
   clear HA
   simp only [z75.l0] at H
   by_cases c8:x17_1<(t102.length:Int)
   ·rw [if_pos c8] at H
    have c8b0:decide (x17_1<(t102.length:Int))=true:=decide_eq_true c8
    (try rw [hl6_1] at c8b0)
    clear c8
    have c9:=O1_ H
    replace H:=O2_ H
    have c9b0:=decide_eq_true c9
    (try rw [hl6_1] at c9b0)
    clear c9
    have c10:=O1_ H
    replace H:=O2_ H
    have c10b0:=decide_eq_true c10
    (try rw [hl6_1] at c10b0)
    clear c10
    have c11:=O1_ H
    replace H:=O2_ H
    have c11b0:=decide_eq_true c11
    (try rw [hl6_1] at c11b0)
    clear c11
    have c12:=O1_ H
    replace H:=O2_ H
    have LMc12:=Zz.mk c12
    clear c12
    obtain ⟨y107,hy107⟩:∃ y_:List Int,y_=((rI_ x6_1 x17_1) ++ [rd l1 x17_1]):=⟨_,rfl⟩
    replace H:(z75.l0 k1 l1 (x6_1.set (x17_1:Int).toNat y107) (t102.length:Int) (wrap64 (x17_1+1)) a0_0 a0_1 a0_2 l0_3)=some (r1,r2):=Y_ hy107 H
    have Ny107:=Zz.mk hy107
    clear hy107
    obtain ⟨y110,hy110⟩:∃ y_:List (List Int),y_=(x6_1.set (x17_1:Int).toNat y107):=⟨_,rfl⟩
    replace H:(z75.l0 k1 l1 y110 (t102.length:Int) (wrap64 (x17_1+1)) a0_0 a0_1 a0_2 l0_3)=some (r1,r2):=Y_ hy110 H
    have Ny110:=Zz.mk hy110
    clear hy110
    have H':=Zz.mk H
    clear H
    try go_wp2
    replace HO_6:=Zz.mk (Kd.S_drew HO_6.out)
    replace BK101:=Zz.mk (bD_ BK101.out)
    replace HB:=Zz.mk (qAe HB.out)
    have p105:0≤(x17_1:Int):=D_
    have q105:x17_1<(x6_1.length:Int):=D_
    obtain ⟨ad105,A105_0,c105_0,e105,hx105_0,hl105_0,hi105_0⟩:=qA2 (Kd.S_reads' HO_6.out).2.2 x17_1 p105 q105
    cases e105
    obtain ⟨ce105,hce105,hMe105,hcc105⟩:=Kd.S_get HO_6.out [] x17_1 p105 (by first | exact q105 | exact D_ | (have e_:=(Kd.S_reads' HO_6.out).1;omega))
    obtain ⟨ve105_0,rfl,ge105_0⟩:=hMe105
    have hv105_0:=hcc105 0 _ rfl
    rw [Nat.add_zero,show ((Kd.slice 2 (Kd.int .i64))).sz=1 from rfl,Nat.mul_one] at hv105_0
    replace hv105_0:=Option.some.inj (hv105_0.symm.trans hx105_0)
    rw [hv105_0] at ge105_0
    have HL105_0:=Zz.mk (show Kd.R (Kd.int .i64) 2 _ _ _ _ (rI_ x6_1 x17_1) from ge105_0)
    clear hv105_0 ge105_0
    have HX105_0:=Zz.mk hx105_0
    clear hcc105 hce105
    have HR105_0:=Zz.mk hi105_0
    have HC105_0:=Zz.mk hl105_0
    clear hi105_0 hl105_0
    replace p105:=eq_true p105
    replace q105:=eq_true q105
    have p106:0≤(x17_1:Int):=D_
    have q106:x17_1<(l1.length:Int):=D_
    obtain ⟨ad106,e106,hx106_0⟩:=Kd.at_int HR1.out x17_1 p106 q106
    have hw106_0:=hx106_0
    cases e106
    replace hx106_0:=(HB.out.cell (World.block_lt_of_cell? w _ hx106_0)).trans hx106_0
    replace p106:=eq_true p106
    replace q106:=eq_true q106
    obtain ⟨go15,co15,eo15,gb15,gl15,cl15,HG15⟩:=Kd.S_form HO_6.out (by have h_:(x17_1:Int)<((x6_1.length:Int):Int):=D_;have h2_:0≤(x17_1:Int):=(D_);omega)
    (first | cases eo15 | (injection eo15 with ea_ en_ ec_;(first | subst ea_ | (injection ea_ with ea_;subst ea_));subst ec_;clear en_))
    have GB15:=Zz.mk gb15
    have GG15:=Zz.mk HG15
    clear gb15 gl15 HG15
    (first | simp only [qBa] at hx105_0 | skip)
    obtain ⟨oki15,ce15,hcl15,hM15,hcc15,_,_,hH15⟩:=Kd.S_elem HO_6.out [] (x17_1:Int) (D_) (by have h_:(x17_1:Int)<((x6_1.length:Int):Int):=D_;first | exact h_ | (have e_:=(Kd.S_reads' HO_6.out).1;omega) | simpa using h_)
    obtain ⟨ve15_0,rfl,ge15_0⟩:=hM15
    have hv15:=hcc15 0 _ rfl
    have hX15:=HX105_0.out
    (try simp only [qBa] at hX15)
    (try simp only [Nat.add_zero] at hv15)
    (try rw [show ((Kd.slice 2 (Kd.int .i64))).sz=1 from rfl,Nat.mul_one] at hv15)
    replace hv15:=Option.some.inj (hv15.symm.trans hX15)
    subst hv15
    clear hX15 hcc15 hcl15
    have UU15:=Zz.mk (show Kd.R (Kd.int .i64) 2 _ w.heap.size oki15 (.slice A105_0 (rI_ x6_1 x17_1).length c105_0) (rI_ x6_1 x17_1) from ge15_0)
    have HH15:=Zz.mk hH15
    have HN15:=Zz.mk (Kd.S_reads' HO_6.out).1
    clear hH15 ge15_0
    refine qB8 (n:=14) (S:=fun w'=>w'.cell? ⟨go15,(x17_1).toNat,none⟩=some (.slice A105_0 (rI_ x6_1 x17_1).length c105_0)∧w'.cell? (ad106.add (x17_1).toNat)=some (.int .i64 (rd l1 x17_1))) (ds:=[13]) (tb_ 14 0) (by kernel_rfl) rfl rfl ⟨hx105_0,((HB.out.cell (World.block_lt_of_cell? w _ hw106_0)).trans hw106_0)⟩ (fun hHeld=>?_);refine qBb z75.tab5 z75.bits5 (fun HT_ HW_=>?_)
    generalize wr.drew=w14 at HO_6 BK101 HB GG15 HH15 HL105_0 HR105_0 HX105_0 UU15 hx105_0 hx106_0 hHeld ⊢
    refine PX_ 0 20 (tb_ 14 1) HT_ rfl rfl ?_
    refine PX_ 1 21 (tb_ 14 3) HT_ rfl rfl ?_
    refine PX_ 2 22 (tb_ 14 7) HT_ rfl rfl ?_
    refine PX_ 3 23 (tb_ 14 15) HT_ rfl rfl ?_
    refine PX_ 4 24 (tb_ 14 31) HT_ rfl rfl ?_
    refine PX_ 6 26 (tb_ 14 95) HT_ rfl rfl ?_
    refine PX_ 7 27 (tb_ 14 223) HT_ rfl rfl ?_
    refine PX_ 8 28 (tb_ 14 479) HT_ rfl rfl ?_
    refine TV_ (i:=5) (N:=some 25) (tb_ 14 511) HT_ HW_ rfl rfl hHeld (by rintro w' ⟨s0,s1⟩;go_simp;with_reducible rfl) (h:=?_)
    refine TV_ (i:=9) (N:=some 29) (tb_ 14 1023) HT_ HW_ rfl rfl hHeld (by rintro w' ⟨s0,s1⟩;go_simp;with_reducible rfl) (h:=?_)
    refine one_ (i:=10) (N:=some 30) (tb_ 14 2047) rfl rfl (qA7 HT_.out (by kernel_rfl)) (by decide) (fun K hK=>?_)
    refine qIo (w1:=?_) (v:=?_) (by rfl) rfl ?_ ?_
    rotate_left 2
    ·go_simp
     constructor
     ·rfl
     rfl
    refine hK.out _ _ ⟨(World.cell?_alloc_lt _ _ _ (World.block_lt_of_cell? _ _ (hHeld.1))).trans (hHeld.1),(World.cell?_alloc_lt _ _ _ (World.block_lt_of_cell? _ _ (((HB.out.cell (World.block_lt_of_cell? w _ hw106_0)).trans hw106_0)))).trans (((HB.out.cell (World.block_lt_of_cell? w _ hw106_0)).trans hw106_0))⟩ (fun hHeld=>?_)
    clear hK K
    refine NM_ (N:=(some 30)) (h:=?_)
    refine one_ (i:=11) (N:=some 31) (tb_ 14 4095) rfl rfl (qA7 HT_.out (by kernel_rfl)) (by decide) (fun K hK=>?_)
    refine Kd.R_append_step (Kd.int .i64) (w0:=w) w.heap.size (by rfl) (.tmp 25) (.tmp 30) 30 2 (.int .i64 0) 8 rfl Tryz.underlying30 qB4 rfl (by decide) (by omega) (.slice A105_0 (rI_ x6_1 x17_1).length c105_0) (rI_ x6_1 x17_1) (rd l1 x17_1) [.int .i64 (rd l1 x17_1)] (fun k_=>oki15 k_∨((fun _=>True)) k_∧w14.heap.size≤k_) (fun _=>False) rfl rfl ?aP (fun _ hk=>hk.elim) ?aF ?aO ?aB ?aS ?aL ?_
    (case aP=>exact rfl)
    (case aB=>exact (B1_ HB.out GE101.out))
    (case aF=>exact (fun k_ hk=>.inr ⟨trivial,hk⟩))
    (case aO=>exact (by refine RW_ ?_;exact Kd.R_mono UU15.out (fun _ hk=>.inl hk)))
    (case aS=>exact (bS_ (B1_ HB.out GE101.out)))
    (case aL=>have:=LMc12.out;omega)
    intro v108 w16 ho hb hg hat
    (first | have HS0_:=qHq hg (hHeld.1) (by first | (rw [qCy];exact (fun e_=>((HL105_0.out.1 _ e_.symm).2) rfl)) | (show some (Addr.add _ _).block≠_;rw [qCy];exact (fun e_=>((HL105_0.out.1 _ e_.symm).2) rfl)) | exact (fun e_=>((HL105_0.out.1 _ e_.symm).2) rfl)) | have HS0_:=qHq hg (qJm (hHeld.1) (by first | (rw [qCy];exact Kd.S_lt HO_6.out _ rfl) | (show (Addr.add _ _).block<_;rw [qCy];exact Kd.S_lt HO_6.out _ rfl) | exact Kd.S_lt HO_6.out _ rfl)) (by first | (rw [qCy];exact (fun e_=>((HL105_0.out.1 _ e_.symm).2) rfl)) | (show some (Addr.add _ _).block≠_;rw [qCy];exact (fun e_=>((HL105_0.out.1 _ e_.symm).2) rfl)) | exact (fun e_=>((HL105_0.out.1 _ e_.symm).2) rfl)))
    rw [← Ny107.out] at ho
    replace BK101:=Zz.mk (qA9 (g:=gb101) (o:=.cells #[.int .i64 a0_0,.int .i64 a0_1,.int .i64 a0_2,.slice A0_3 l0_3.length c0_3] 36 (0,0)) (KB_ BK101.out) hg (Kd.R_ne HL105_0.out BK101.out (by decide)))
    replace HB:=Zz.mk (hb)
    replace HH15:=Zz.mk (Kd.H_grown (Kd.H_widen (by repeat (first | exact HH15.out | refine Kd.H_alloc ?_ _ | refine Kd.H_drewN ?_ _ | refine Kd.H_drew ?_))) hg (fun k_ e_=>.inl (UU15.out.1 k_ e_)))
    have HO109:=Zz.mk (ho)
    clear HO_6
    clear UU15
    clear HL105_0
    clear ho hb hg hat
    have p13:0≤(x17_1:Int):=D_
    have q13:(x17_1:Int)<((x6_1.length:Int):Int):=D_
    replace p13:=eq_true p13
    replace q13:=eq_true q13
    obtain ⟨Ao19,co19,eo19⟩:=Kd.R_slice HO109.out
    (first | subst eo19 | obtain ⟨rfl,rfl⟩:=sl_ eo19)
    obtain ⟨_,_,hraw17,_,_,hcc17,_⟩:=Kd.H_raw HH15.out (D_) (by have h_:(x17_1:Int)<((x6_1.length:Int):Int):=D_;first | exact h_ | (have e_:=(HN15.out);omega) | simpa using h_)
    obtain ⟨_,hfr17⟩:=Kd.H_at HH15.out (D_) (by have h_:(x17_1:Int)<((x6_1.length:Int):Int):=D_;first | exact h_ | (have e_:=(HN15.out);omega) | simpa using h_)
    have hx17_0:=hcc17 0 _ rfl
    have hf17_0:=hfr17 0
    (try simp only [Nat.add_zero] at hx17_0 hf17_0)
    (try rw [show ((Kd.slice 2 (Kd.int .i64))).sz=1 from rfl,Nat.mul_one] at hx17_0)
    (try rw [show ((Kd.slice 2 (Kd.int .i64))).sz=1 from rfl,Nat.mul_one] at hf17_0)
    have HP17:=Kd.S_seg0 HH15.out (D_) (by have h_:(x17_1:Int)<((x6_1.length:Int):Int):=D_;first | exact h_ | (have e_:=(HN15.out);omega) | simpa using h_) (seg:=[.slice Ao19 y107.length co19]) (j:=0) (show 1≤1 from by decide) (x':=y107) (Kd.M_row HO109.out) (fun _ hk=>hk)
    (try simp only [show ((Kd.slice 2 (Kd.int .i64))).sz=1 from rfl,Nat.mul_one,Nat.add_zero] at HP17)
    clear hcc17 hfr17
    have HNB101_go15:=Zz.mk (show gb101≠go15 from by have h_:=Kd.R_ne hraw17 BK101.out (by decide);intro e_;exact h_ (by rw [e_];rfl))
    have HS17:=HP17.1
    rw [← Ny110.out] at HS17
    have HQ17:=Zz.mk HS17
    obtain ⟨_,hgg17⟩:=Kd.R_typed hraw17 go15 rfl
    have GG17_:=Zz.mk hgg17
    clear HP17 HS17 hgg17
    refine hK.out _ _ ⟨HS0_,((HB.out.cell (World.block_lt_of_cell? w _ hw106_0)).trans hw106_0)⟩ (fun hHeld=>?_)
    clear hK K
    refine NM_ (N:=(some 31)) (h:=?_)
    refine PX_ 12 32 (tb_ 14 8191) HT_ rfl rfl ?_
    refine qIa (i:=13) (N:=none) (tb_ 14 16383) rfl rfl (qA7 HT_.out (by kernel_rfl)) (by decide) (fun K hK=>?_)
    refine qG0 (w1:=?_) (by rfl) rfl ?_ ?_
    rotate_left
    ·go_simp
     rfl
    refine hK.out _ _ ?_
    clear hK K
    refine qDb (qBt HT_.out (by kernel_rfl)) ?_
    try go_wp2
    (try simp only [← hl6_1])
    go_roundg k1
    case measure=>exact Q1_ HK1
    case rel=>exact ⟨(y110),(wrap64 (x17_1+1)),E_,H',⟨Q1_ HK1⟩,⟨by (try simp only [hl6_1]);refine SW_ ?_;exact HQ17.out⟩,⟨by (try simp only [hl6_1]);refine BW_ ?_;refine bR_ ?_ HNB101_go15.out _;refine BW_ ?_;exact BK101.out⟩,⟨B2_ HB.out GB15.out GE101.out⟩⟩
   rw [if_neg c8] at H
   have c8b0:decide (x17_1<(t102.length:Int))=false:=decide_eq_false c8
   (try rw [hl6_1] at c8b0)
   clear c8
   replace H:=OB_ H
   obtain ⟨⟨t111,t114,t115⟩,A200,H⟩:=H
   replace H:(if 0≤a0_2 then (if (a0_2:Int).toNat≤35184372088832 then (z75.l1 k1 t115 (List.replicate (a0_2:Int).toNat 0) t111 (t111.length:Int) 0 a0_0 a0_1 a0_2 l0_3) else (none)) else (none))=some (r1,r2):=H
   have A20:=Zz.mk A200
   clear A200
   have c21:=O1_ H
   replace H:=O2_ H
   have c21b0:=eq_true c21
   have c21b1:decide (0≤a0_2)=true:=decide_eq_true c21
   clear c21
   have c22:=O1_ H
   replace H:=O2_ H
   have c22b0:=eq_true c22
   have c22b1:decide ((a0_2:Int).toNat≤35184372088832)=true:=decide_eq_true c22
   clear c22
   obtain ⟨y116,hy116⟩:∃ y_:List Int,y_=(List.replicate (a0_2:Int).toNat 0):=⟨_,rfl⟩
   replace H:(z75.l1 k1 t115 y116 t111 (t111.length:Int) 0 a0_0 a0_1 a0_2 l0_3)=some (r1,r2):=Y_ hy116 H
   have Ny116:=Zz.mk hy116
   clear hy116
   have H':=Zz.mk H
   clear H
   obtain ⟨hcz23_0,hcz23_1,hcz23_2,hcz23_3,hfz23_0,hfz23_1,hfz23_2,hfz23_3⟩:=Z4f_ BK101.out
   go_wp2_with (first | (go_at_call 87;(with_reducible refine (z87.calls k1 (fun k_=>True∧∃ q_,q_∈30 :: ((Kd.slice 2 (Kd.int .i64))).E∧∃ cs_,wr.heap[k_]?=some (.cells cs_ q_ (0,0))) (.slice Ao7 x6_1.length co7) x6_1 (wrap64 (a0_2+1)) a0_0 t111 t114 t115 w _ ?side1 ?side2 A20.out).mono ?_);(case side1=>repeat (first | (with_reducible first | exact HB.out | apply qAg | apply qAb | apply qAe | refine qAd ?_ GE101.out) | exact HB.out));(case side2=>exact Kd.S_N (Kd.S_pin (ok:=fun k_=>True) (KS_ HO_6.out)));rintro e w24 ⟨v112,rfl,ho0,hy0,hb,hkp⟩;replace HO_6:=Zz.mk (Kd.N_mono (ok':=fun k_=>k_≠gb101) hy0 (fun k_ hk_=>fun e_=>Or.elim hk_ (fun hs_=>Kd.typed_ne (KB_ BK101.out) (by rw [← e_];exact hs_.2) (by decide)) (fun hn_=>(Kd.freshB (g:=gb101) (o:=.cells #[.int .i64 a0_0,.int .i64 a0_1,.int .i64 a0_2,.slice A0_3 l0_3.length c0_3] 36 (0,0)) (KB_ BK101.out) k_ hn_) e_)));replace BK101:=Zz.mk (qKx (KB_ BK101.out) hkp (fun hs_=>Kd.typed_ne (KB_ BK101.out) hs_.2 (by decide)));have HO113:=Zz.mk (Kd.R_mono ho0 (fun k_ hk_=>trivial));replace HB:=Zz.mk (hb);(try clear hb hkp hy0 ho0);obtain ⟨hcz25_0,hcz25_1,hcz25_2,hcz25_3,hfz25_0,hfz25_1,hfz25_2,hfz25_3⟩:=Z4f_ BK101.out) | ((with_reducible refine qAm (N:=46) rfl ?_);refine Kd.R_make (Kd.int .i64) _ 2 rfl (N:=46) rfl 30 _ _ rfl a0_2 rfl rfl Tryz.underlying30 (.int .i64 0) 8 qB4 rfl (by decide) (by omega) 0 (ok:=fun _=>True) (okp:=fun _=>True) rfl (fun _ hk=>hk) trivial (D_) (Nat.le_trans (Nat.mul_le_mul_right _ (D_:a0_2.toNat≤35184372088832)) (by omega)) (Below.refl _ _) (Nat.le_refl _) ?_;intro v117 w26 ho27 hb hg_ hnew_;clear hg_ hnew_;(first | rw [← Ny116.out] at ho27 | (simp only [Int.reduceToNat] at ho27;rw [← Ny116.out] at ho27));have HO118:=Zz.mk (Kd.R_lower (Kd.R_new' ho27 (Kd.R_lt (KR_ HO113.out))) (bS_ (B1_ HB.out GE101.out)));replace HO_6:=Zz.mk (Kd.N_elder' (KN_ HO_6.out) (Kd.R_base ho27) hb);replace HO113:=Zz.mk (Kd.R_elder' (KR_ HO113.out) (Kd.R_base ho27) hb);replace BK101:=Zz.mk (kb_ BK101.out hb);replace HB:=Zz.mk (bT_ (B1_ HB.out GE101.out) hb);clear hb ho27;obtain ⟨Ao28,co28,eo28⟩:=Kd.R_slice HO113.out;subst eo28))
   go_loopg [49] k1 (fun kq v49 w'=>∃ (x10_2:List Int) (x49_2:Int),v49=.int .i64 x49_2∧Zz (z75.l1 kq t115 x10_2 t111 (t111.length:Int) x49_2 a0_0 a0_1 a0_2 l0_3=some (r1,r2))∧Zz (kq≤k1)∧Zz (Kd.N (Kd.slice 2 (Kd.int .i64)) 30 w' w.heap.size (fun k_=>some k_≠(v117:Value).ownBlock∧k_≠gb101) (.slice Ao7 x6_1.length co7) t115)∧Zz (Kd.R (Kd.int .i64) 2 w' w.heap.size (fun k_=>some k_≠((.slice Ao28 t111.length co28):Value).ownBlock) v117 x10_2)∧Zz (Kd.R (Kd.int .i64) 2 w' w.heap.size (fun k_=>some k_≠(v117:Value).ownBlock) (.slice Ao28 t111.length co28) t111)∧Zz (w'.heap[gb101]?=some (.cells #[.int .i64 a0_0,.int .i64 a0_1,.int .i64 a0_2,(.slice A0_3 l0_3.length c0_3)] 36 (0,0)))∧Zz (Below w.heap.size w w'))
   case atStart=>exact ⟨(y116),(0),E_,H',⟨Nat.le_refl _⟩,⟨by (try simp only [hl6_1]);refine NW_ ?_;exact Kd.N_mono HO_6.out (fun _ hk=>⟨hk.2,hk.1⟩)⟩,⟨by (try simp only [hl6_1]);refine RW_ ?_;exact Kd.R_mono HO118.out (fun _ hk=>hk.2)⟩,⟨by (try simp only [hl6_1]);refine RW_ ?_;exact Kd.R_mono HO113.out (fun _ hk=>hk.2)⟩,⟨by (try simp only [hl6_1]);refine BW_ ?_;exact BK101.out⟩,⟨B1_ HB.out GE101.out⟩⟩
   case round =>
    clear H'
    (try clear c1);(try clear c8);(try clear c8b0);(try clear c21);(try clear c21b0);(try clear c21b1);(try clear c22);(try clear c22b0);(try clear c22b1);(try clear hcz23_0);(try clear hcz23_1);(try clear hcz23_2);(try clear hcz23_3);(try clear hcz25_0);(try clear hcz25_1);(try clear hcz25_2);(try clear hcz25_3);(try clear hcz5_0);(try clear hcz5_1);(try clear hcz5_2);(try clear hcz5_3);(try clear hfz23_0);(try clear hfz23_1);(try clear hfz23_2);(try clear hfz23_3);(try clear hfz25_0);(try clear hfz25_1);(try clear hfz25_2);(try clear hfz25_3)
    (try clear hfz5_0);(try clear hfz5_1);(try clear hfz5_2);(try clear hfz5_3)
    obtain ⟨x10_2,x49_2,rfl,HA,HK2,HO_6,HO_10,HO_47,BK101,HB⟩:=hrel
    have hl6_2:=(Kd.N_reads' HO_6.out).1
    rw [hl6_2] at HO_6
    (try simp only [hl6_2])
    (try simp only [hl6_2] at BK101)
    (try simp only [hl6_2] at HO_10)
    (try simp only [hl6_2] at HO_47)
    cases gk with
    | zero=>exact absurd HA.out (by simp [z75.l1])
    | succ k2 =>
     have H:=HA.out
     clear HA
     simp only [z75.l1] at H
     by_cases c29:x49_2<(t111.length:Int)
     ·rw [if_pos c29] at H
      have c29b0:decide (x49_2<(t111.length:Int))=true:=decide_eq_true c29
      (try rw [hl6_1] at c29b0)
      (try rw [hl6_2] at c29b0)
      clear c29
      have c30:=O1_ H
      replace H:=O2_ H
      have c30b0:=decide_eq_true c30
      (try rw [hl6_1] at c30b0)
      (try rw [hl6_2] at c30b0)
      clear c30
      have c31:=O1_ H
      replace H:=O2_ H
      have c31b0:=decide_eq_true c31
      (try rw [hl6_1] at c31b0)
      (try rw [hl6_2] at c31b0)
      clear c31
      by_cases c32:(rd t111 x49_2)=a0_2
      ·rw [if_pos c32] at H
       have c32b0:((rd t111 x49_2) == a0_2)=true:=beq_iff_eq.mpr c32
       have c32b1:((rd t111 x49_2) != a0_2)=false:=bne_eq_false_iff_eq.mpr c32
       (try rw [hl6_1] at c32b0)
       (try rw [hl6_1] at c32b1)
       (try rw [hl6_2] at c32b0)
       (try rw [hl6_2] at c32b1)
       clear c32
       simp only [Option.some.injEq,Prod.mk.injEq] at H
       obtain ⟨rfl,rfl⟩:=H
       have p119:0≤(x49_2:Int):=D_
       have q119:x49_2<(t111.length:Int):=D_
       obtain ⟨ad119,e119,hx119_0⟩:=Kd.at_int (Kd.R_reads' HO_47.out).2.2 x49_2 p119 q119
       cases e119
       replace p119:=eq_true p119
       replace q119:=eq_true q119
       obtain ⟨hcz33_0,hcz33_1,hcz33_2,hcz33_3,hfz33_0,hfz33_1,hfz33_2,hfz33_3⟩:=Z4f_ BK101.out
       go_wp2
       go_ret2
       exact ⟨_,F_,by first | exact Kd.R_nil _ _ _ _ _ | exact Kd.N_nil _ _ _ _ _ | exact Kd.V_nil _ _ _ _ _ | exact Kd.Q_nil _ _ _ _ _ | exact Kd.S_nil _ _ _ _ _,B1_ HB.out GE101.out⟩
      rw [if_neg c32] at H
      have c32b0:((rd t111 x49_2) == a0_2)=false:=beq_eq_false_iff_ne.mpr c32
      have c32b1:((rd t111 x49_2) != a0_2)=true:=bne_iff_ne.mpr c32
      (try rw [hl6_1] at c32b0)
      (try rw [hl6_1] at c32b1)
      (try rw [hl6_2] at c32b0)
      (try rw [hl6_2] at c32b1)
      have c34:=O1_ H
      replace H:=O2_ H
      have c34b0:=decide_eq_true c34
      (try rw [hl6_1] at c34b0)
      (try rw [hl6_2] at c34b0)
      clear c34
      have c35:=O1_ H
      replace H:=O2_ H
      have c35b0:=decide_eq_true c35
      (try rw [hl6_1] at c35b0)
      (try rw [hl6_2] at c35b0)
      clear c35
      have c36:=O1_ H
      replace H:=O2_ H
      have c36b0:=decide_eq_true c36
      (try rw [hl6_1] at c36b0)
      (try rw [hl6_2] at c36b0)
      clear c36
      have c37:=O1_ H
      replace H:=O2_ H
      have c37b0:=decide_eq_true c37
      (try rw [hl6_1] at c37b0)
      (try rw [hl6_2] at c37b0)
      clear c37
      have c38:=O1_ H
      replace H:=O2_ H
      have c38b0:=decide_eq_true c38
      (try rw [hl6_1] at c38b0)
      (try rw [hl6_2] at c38b0)
      clear c38
      obtain ⟨y122,hy122⟩:∃ y_:List Int,y_=(x10_2.set ((rd t111 x49_2):Int).toNat (rd (rI_ t115 x49_2) a0_2)):=⟨_,rfl⟩
      replace H:(z75.l1 k2 t115 y122 t111 (t111.length:Int) (wrap64 (x49_2+1)) a0_0 a0_1 a0_2 l0_3)=some (r1,r2):=Y_ hy122 H
      have Ny122:=Zz.mk hy122
      clear hy122
      have H':=Zz.mk H
      clear H
      have p119:0≤(x49_2:Int):=D_
      have q119:x49_2<(t111.length:Int):=D_
      obtain ⟨ad119,e119,hx119_0⟩:=Kd.at_int (Kd.R_reads' HO_47.out).2.2 x49_2 p119 q119
      cases e119
      replace p119:=eq_true p119
      replace q119:=eq_true q119
      obtain ⟨hcz40_0,hcz40_1,hcz40_2,hcz40_3,hfz40_0,hfz40_1,hfz40_2,hfz40_3⟩:=Z4f_ BK101.out
      try go_wp2
      replace HO_6:=Zz.mk (Kd.N_drew HO_6.out)
      replace HO_10:=Zz.mk (Kd.R_drew HO_10.out)
      replace HO_47:=Zz.mk (Kd.R_drew HO_47.out)
      replace BK101:=Zz.mk (bD_ BK101.out)
      replace HB:=Zz.mk (qAe HB.out)
      have p120:0≤(x49_2:Int):=D_
      have q120:x49_2<(t115.length:Int):=D_
      obtain ⟨ad120,A120_0,c120_0,e120,hx120_0,hl120_0,hi120_0⟩:=qA2 (Kd.N_reads' HO_6.out).2.2 x49_2 p120 q120
      cases e120
      obtain ⟨ce120,hce120,hMe120,hcc120⟩:=Kd.N_get HO_6.out [] x49_2 p120 (by first | exact q120 | exact D_ | (have e_:=(Kd.N_reads' HO_6.out).1;omega))
      obtain ⟨ua120_0,uc120_0,rfl,ul120_0,ge120_0⟩:=Kd.FK_slice_open hMe120
      have hv120_0:=hcc120 0 _ rfl
      rw [Nat.add_zero,show ((Kd.slice 2 (Kd.int .i64))).sz=1 from rfl,Nat.mul_one] at hv120_0
      replace hv120_0:=Option.some.inj (hv120_0.symm.trans hx120_0)
      injection hv120_0 with hva_ hvn_ hvc_
      rw [hva_] at ge120_0
      rw [hvc_] at ul120_0
      have HL120_0:=Zz.mk (show Kd.V (Kd.int .i64) 2 _ w.heap.size _ _ (rI_ t115 x49_2) from Kd.V_mk ul120_0 ge120_0)
      clear hva_ hvn_ hvc_ ge120_0 ul120_0
      clear hcc120 hce120
      have HR120_0:=Zz.mk hi120_0
      have HC120_0:=Zz.mk hl120_0
      clear hi120_0 hl120_0
      replace p120:=eq_true p120
      replace q120:=eq_true q120
      have p121:0≤(a0_2:Int):=D_
      have q121:a0_2<((rI_ t115 x49_2).length:Int):=D_
      obtain ⟨ad121,e121,hx121_0⟩:=Kd.at_int (KC_ HR120_0.out) a0_2 p121 q121
      cases e121
      replace p121:=eq_true p121
      replace q121:=eq_true q121
      have p39:0≤((rd t111 x49_2):Int):=D_
      have q39:((rd t111 x49_2):Int)<((x10_2.length:Int):Int):=D_
      obtain ⟨go39,co39,eo39,gb39,gl39,cl39,HG39⟩:=Kd.R_form HO_10.out (by omega)
      (first | cases eo39 | (injection eo39 with ea_ en_ ec_;(first | subst ea_ | (injection ea_ with ea_;subst ea_));subst ec_;clear en_))
      have GB39:=Zz.mk gb39
      have GG39:=Zz.mk HG39
      clear gb39 gl39 HG39
      obtain ⟨hx39_0,hf39_0⟩:=Kd.R_celln 0 HO_10.out ((rd t111 x49_2):Int) p39 q39
      replace p39:=eq_true p39
      replace q39:=eq_true q39
      have HP42:=Kd.R_putn HO_10.out ((rd t111 x49_2):Int) (rd (rI_ t115 x49_2) a0_2)
      rw [← Ny122.out] at HP42
      have HQ42:=Zz.mk HP42
      clear HP42
      refine qB8 (n:=12) (S:=fun w'=>w'.cell? ⟨gb101,0,none⟩=some (.int .i64 a0_0)∧w'.cell? ⟨gb101,1,none⟩=some (.int .i64 a0_1)∧w'.cell? ⟨gb101,2,none⟩=some (.int .i64 a0_2)∧w'.cell? ⟨gb101,3,none⟩=some (.slice A0_3 l0_3.length c0_3)∧w'.cell? (ad120.add (x49_2).toNat)=some (.slice (some ad121) (rI_ t115 x49_2).length c120_0)∧w'.cell? (ad121.add (a0_2).toNat)=some (.int .i64 (rd (rI_ t115 x49_2) a0_2))) (ds:=[11]) (tb_ 12 0) (by kernel_rfl) rfl rfl ⟨(bC_ BK101.out 0).trans rfl,(bC_ BK101.out 1).trans rfl,(bC_ BK101.out 2).trans rfl,(bC_ BK101.out 3).trans rfl,hx120_0,hx121_0⟩ (fun hHeld=>?_);refine qBb z75.tab14 z75.bits14 (fun HT_ HW_=>?_)
      generalize wr.drew=w41 at HO_6 HO_10 HO_47 BK101 HB GG39 HL120_0 HQ42 HR120_0 hf39_0 hx120_0 hx121_0 hx39_0 hHeld ⊢
      refine PX_ 0 58 (tb_ 12 1) HT_ rfl rfl ?_
      refine PX_ 1 59 (tb_ 12 3) HT_ rfl rfl ?_
      refine PX_ 2 60 (tb_ 12 7) HT_ rfl rfl ?_
      refine PX_ 3 61 (tb_ 12 15) HT_ rfl rfl ?_
      refine PX_ 4 62 (tb_ 12 31) HT_ rfl rfl ?_
      refine PX_ 6 64 (tb_ 12 95) HT_ rfl rfl ?_
      refine TV_ (i:=5) (N:=some 63) (tb_ 12 127) HT_ HW_ rfl rfl hHeld (by rintro w' ⟨s0,s1,s2,s3,s4,s5⟩;go_simp;with_reducible rfl) (h:=?_)
      refine TV_ (i:=7) (N:=some 65) (tb_ 12 255) HT_ HW_ rfl rfl hHeld (by rintro w' ⟨s0,s1,s2,s3,s4,s5⟩;go_simp;with_reducible rfl) (h:=?_)
      refine PX_ 8 66 (tb_ 12 511) HT_ rfl rfl ?_
      refine TV_ (i:=9) (N:=some 67) (tb_ 12 1023) HT_ HW_ rfl rfl hHeld (by rintro w' ⟨s0,s1,s2,s3,s4,s5⟩;go_simp;with_reducible rfl) (h:=?_)
      refine PX_ 10 68 (tb_ 12 2047) HT_ rfl rfl ?_
      refine qIa (i:=11) (N:=none) (tb_ 12 4095) rfl rfl (qA7 HT_.out (by kernel_rfl)) (by decide) (fun K hK=>?_)
      refine qG0 (w1:=?_) (by rfl) rfl ?_ ?_
      rotate_left
      ·go_simp
       rfl
      refine hK.out _ _ ?_
      clear hK K
      refine qDb (qBt HT_.out (by kernel_rfl)) ?_
      try go_wp2
      (try simp only [← hl6_2])
      go_roundg k2
      case measure=>exact Q2_ HK1 HK2
      case rel=>exact ⟨(y122),(wrap64 (x49_2+1)),E_,H',⟨Q2_ HK1 HK2⟩,⟨by (try simp only [hl6_1]);(try simp only [hl6_2]);refine NW_ ?_;exact Kd.N_mono (Kd.N_far (p:=⟨go39,((rd t111 x49_2):Int).toNat,none⟩) (Kd.N_mono HO_6.out (fun k_ hk=>(⟨hk,fun e_=>hk.1 (by rw [e_];rfl)⟩:_∧k_≠go39))) (fun _ hk=>hk.2) (.int .i64 (rd (rI_ t115 x49_2) a0_2))) (fun _ hk=>⟨hk.1.1,hk.1.2⟩)⟩,⟨by (try simp only [hl6_1]);(try simp only [hl6_2]);refine RW_ ?_;exact HQ42.out⟩,⟨by (try simp only [hl6_1]);(try simp only [hl6_2]);refine RW_ ?_;exact Kd.R_mono (Kd.R_far (p:=⟨go39,((rd t111 x49_2):Int).toNat,none⟩) (Kd.R_mono HO_47.out (fun k_ hk=>(⟨hk,fun e_=>hk (by rw [e_];rfl)⟩:_∧k_≠go39))) (fun _ hk=>hk.2) (.int .i64 (rd (rI_ t115 x49_2) a0_2))) (fun _ hk=>hk.1)⟩,⟨by (try simp only [hl6_1]);(try simp only [hl6_2]);refine BW_ ?_;refine bR_ ?_ (by have h_:=Kd.R_ne HO_10.out BK101.out (by decide);intro e_;exact h_ (by rw [e_];rfl)) _;refine BW_ ?_;exact BK101.out⟩,⟨B2_ HB.out GB39.out GE101.out⟩⟩
     rw [if_neg c29] at H
     have c29b0:decide (x49_2<(t111.length:Int))=false:=decide_eq_false c29
     (try rw [hl6_1] at c29b0)
     (try rw [hl6_2] at c29b0)
     clear c29
     simp only [Option.some.injEq,Prod.mk.injEq] at H
     obtain ⟨rfl,rfl⟩:=H
     go_wp2
     go_ret2
     exact ⟨_,F_,by refine RW_ ?_;exact Kd.R_mono HO_10.out (fun _ hk=>trivial),B1_ HB.out GE101.out⟩
end Go.Proofs.YtpgjfppbbbnclaaGreat.B
