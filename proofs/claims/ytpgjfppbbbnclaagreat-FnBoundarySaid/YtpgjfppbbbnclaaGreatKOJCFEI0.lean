/- Printed by a program of this work over the kit's printer. -/
import Derived.Test.YtpgjfppbbbnclaaGreatKHPEJCO0
import Derived.Test.YtpgjfppbbbnclaaGreatKIFGODB0
import Derived.Test.YtpgjfppbbbnclaaGreatKW0
set_option linter.unusedVariables false
set_option linter.unusedSimpArgs false
open Go.RowKit Go.Proofs.YtpgjfppbbbnclaaGreatW.PrintWords
namespace Go.Proofs.YtpgjfppbbbnclaaGreat.B
open Go.Proofs.YtpgjfppbbbnclaaGreatW.PrintLast Go.Proofs.YtpgjfppbbbnclaaGreatW.PrintMore
attribute [local go_sem] qAq qAo qAu qAt qAl qAk qAp qAn
mutual
def z40.l0:Nat→Int→Int→Int→Int→List Int→Int→Int→Int→List Int→Int→Int→Int→List Int→Option (Int × Int × Int × List Int)
 | 0,_,_,_,_,_,_,_,_,_,_,_,_,_=>none
 | k+1,x6,x51000,x51001,x51002,x51003,x52000,x52001,x52002,x52003,x109000,x109001,x109002,x109003=>if x6<x51001 then (z40.l1 k x6 0 x51000 x51001 x51002 x51003 x52000 x52001 x52002 x52003 x109000 x109001 x109002 x109003) else (some (x109000,x109001,x109002,x109003))
def z40.l1:Nat→Int→Int→Int→Int→Int→List Int→Int→Int→Int→List Int→Int→Int→Int→List Int→Option (Int × Int × Int × List Int)
 | 0,_,_,_,_,_,_,_,_,_,_,_,_,_,_=>none
 | k+1,x6,x7,x51000,x51001,x51002,x51003,x52000,x52001,x52002,x52003,x109000,x109001,x109002,x109003=>if x7<x52002 then (z40.l2 k x6 x7 0 0 x51000 x51001 x51002 x51003 x52000 x52001 x52002 x52003 x109000 x109001 x109002 x109003) else (z40.l0 k (wrap64 (x6+1)) x51000 x51001 x51002 x51003 x52000 x52001 x52002 x52003 x109000 x109001 x109002 x109003)
def z40.l2:Nat→Int→Int→Int→Int→Int→Int→Int→List Int→Int→Int→Int→List Int→Int→Int→Int→List Int→Option (Int × Int × Int × List Int)
 | 0,_,_,_,_,_,_,_,_,_,_,_,_,_,_,_,_=>none
 | k+1,x6,x7,x8,x9,x51000,x51001,x51002,x51003,x52000,x52001,x52002,x52003,x109000,x109001,x109002,x109003=>if x9<x51002 then (if 0≤(wrap64 ((wrap64 (x6 * x51002))+x9)) then (if (wrap64 ((wrap64 (x6 * x51002))+x9))<(x51003.length:Int) then (if 0≤(wrap64 ((wrap64 (x9 * x52002))+x7)) then (if (wrap64 ((wrap64 (x9 * x52002))+x7))<(x52003.length:Int) then (z40.l2 k x6 x7 (wrap64 (x8+(wrap64 ((rd x51003 (wrap64 ((wrap64 (x6 * x51002))+x9))) * (rd x52003 (wrap64 ((wrap64 (x9 * x52002))+x7))))))) (wrap64 (x9+1)) x51000 x51001 x51002 x51003 x52000 x52001 x52002 x52003 x109000 x109001 x109002 x109003) else (none)) else (none)) else (none)) else (none)) else (if x51000=0 then (none) else (if 0≤(wrap64 ((wrap64 (x6 * x52002))+x7)) then (if (wrap64 ((wrap64 (x6 * x52002))+x7))<(x109003.length:Int) then (z40.l1 k x6 (wrap64 (x7+1)) x51000 x51001 x51002 x51003 x52000 x52001 x52002 x52003 x109000 x109001 x109002 (x109003.set ((wrap64 ((wrap64 (x6 * x52002))+x7)):Int).toNat (Int.tmod x8 x51000))) else (none)) else (none)))
end
def z40.f (k:Nat) (a0_0:Int) (a0_1:Int) (a0_2:Int) (l0_3:List Int) (a1_0:Int) (a1_1:Int) (a1_2:Int) (l1_3:List Int):Option (Int × Int × Int × List Int):=(z74.f a0_0 a0_1 a1_2).bind fun bt102=>(z40.l0 k 0 a0_0 a0_1 a0_2 l0_3 a1_0 a1_1 a1_2 l1_3 bt102.1 bt102.2.1 bt102.2.2.1 bt102.2.2.2)
def z40.T1:Bool × List (List Nat × List Nat):=(true,[([],[]),([0],[0]),([1],[1]),([2],[2]),([],[]),([4],[4]),([5],[5]),([6],[6]),([],[]),([8],[8]),([9],[9]),([10],[10]),([3,7,11],[3,7,11]),([],[]),([13,12,12,0,1,2,3,4,5,6,7,8,9,10,11,12,13],[12,13])])
def z40.B1:List Nat:=[0,1,3,7,0,16,48,112,0,256,768,1792,4095,0,16383]
theorem z40.tab1:rtab .any (qD3 Tryz.f40 1)=z40.T1:=by kernel_rfl
theorem z40.bits1:qBj z40.T1.2 z40.B1=true:=by kernel_rfl
def z40.T12:Bool × List (List Nat × List Nat):=(true,[([],[]),([],[]),([1],[1]),([2],[2]),([3],[3]),([],[]),([],[]),([6],[6]),([7],[7]),([8],[8]),([5,9],[5,9]),([],[]),([10,11],[10,11]),([4,12],[4,12]),([13],[13]),([],[]),([15],[15]),([16],[16]),([17],[17]),([],[]),([],[]),([20],[20]),([21],[21]),([22],[22]),([19,23],[19,23]),([],[]),([24,25],[24,25]),([18,26],[18,26]),([27],[27]),([14,28],[14,28]),([0,29],[0,29]),([30,0,1,2,3,4,5,6,7,8,9,10,11,12,13,14,15,16,17,18,19,20,21,22,23,24,25,26,27,28,29,30],[0,30])])
def z40.B12:List Nat:=[0,0,2,6,14,0,0,64,192,448,992,0,4064,8190,16382,0,32768,98304,229376,0,0,1048576,3145728,7340032,16252928,0,66584576,134184960,268402688,536870910,1073741823,2147483647]
theorem z40.tab12:rtab .any (qD3 Tryz.f40 12)=z40.T12:=by kernel_rfl
theorem z40.bits12:qBj z40.T12.2 z40.B12=true:=by kernel_rfl
def z40.T13:Bool × List (List Nat × List Nat):=(true,[([],[]),([0],[0]),([],[]),([],[]),([3],[3]),([4],[4]),([5],[5]),([2,6],[2,6]),([],[]),([7,8],[7,8]),([],[]),([],[]),([11],[11]),([12],[12]),([13],[13]),([10,14],[10,14]),([1,9,0,1,2,3,4,5,6,7,8,9,10,11,12,13,14,15],[1,9]),([16,15,0,1,2,3,4,5,6,7,8,9,10,11,12,13,14,15],[15,16])])
def z40.B13:List Nat:=[0,1,0,0,8,24,56,124,0,508,0,0,2048,6144,14336,31744,65535,131071]
theorem z40.tab13:rtab .any (qD3 Tryz.f40 13)=z40.T13:=by kernel_rfl
theorem z40.bits13:qBj z40.T13.2 z40.B13=true:=by kernel_rfl
set_option maxHeartbeats 8000000 in
set_option maxRecDepth 100000 in
theorem z40.calls (k:Nat) (gp0:Nat) (a0_0:Int) (a0_1:Int) (a0_2:Int) (A0_3:Option Addr) (c0_3:Nat) (l0_3:List Int) (gp1:Nat) (a1_0:Int) (a1_1:Int) (a1_2:Int) (A1_3:Option Addr) (c1_3:Nat) (l1_3:List Int) (r1:Int) (r2:Int) (r3:Int) (r4:List Int) (w:World) (hbp0:w.heap[gp0]?=some (.cells #[.int .i64 a0_0,.int .i64 a0_1,.int .i64 a0_2,.slice A0_3 l0_3.length c0_3] 36 (0,0))) (hbp1:w.heap[gp1]?=some (.cells #[.int .i64 a1_0,.int .i64 a1_1,.int .i64 a1_2,.slice A1_3 l1_3.length c1_3] 36 (0,0))) (hr0_3:Kd.C (Kd.int .i64) w A0_3 l0_3.length l0_3) (hc0_3:l0_3.length≤c0_3) (hr1_3:Kd.C (Kd.int .i64) w A1_3 l1_3.length l1_3) (hc1_3:l1_3.length≤c1_3) (h:z40.f k a0_0 a0_1 a0_2 l0_3 a1_0 a1_1 a1_2 l1_3=some (r1,r2,r3,r4)) :
  Calls Tryz.prog 40 #[.pointer (some ⟨gp0,0,none⟩),.pointer (some ⟨gp1,0,none⟩)] w fun e w'=>∃ v3_:Value,e=.returned (.agg #[.int .i64 r1,.int .i64 r2,.int .i64 r3,v3_])∧Kd.R (Kd.int .i64) 2 w' w.heap.size (fun _=>True) v3_ r4∧Below w.heap.size w w':=by
 have hu36:=Tryz.underlying36
 have HR0_3:=Zz.mk hr0_3
 have HC0_3:=Zz.mk hc0_3
 clear hr0_3 hc0_3
 have HR1_3:=Zz.mk hr1_3
 have HC1_3:=Zz.mk hc1_3
 clear hr1_3 hc1_3
 have BK50:=Zz.mk hbp0
 clear hbp0
 have BK51:=Zz.mk hbp1
 clear hbp1
 have HB:=Zz.mk (Below.refl w.heap.size w)
 have H:((z74.f a0_0 a0_1 a1_2).bind fun bt102=>(z40.l0 k 0 a0_0 a0_1 a0_2 l0_3 a1_0 a1_1 a1_2 l1_3 bt102.1 bt102.2.1 bt102.2.2.1 bt102.2.2.2))=some (r1,r2,r3,r4):=h
 clear h
 replace H:=OB_ H
 obtain ⟨⟨t102,t103,t104,t105⟩,A30,H⟩:=H
 replace H:(z40.l0 k 0 a0_0 a0_1 a0_2 l0_3 a1_0 a1_1 a1_2 l1_3 t102 t103 t104 t105)=some (r1,r2,r3,r4):=H
 have A3:=Zz.mk A30
 clear A30
 have H':=Zz.mk H
 clear H
 go_enter Tryz.func40,Tryz.ntmps40
 try go_wp2_with (first | ((with_reducible refine qAm (N:=4) rfl ?_);refine bx_ 4 #[.int .i64 0,.int .i64 0,.int .i64 0,.slice none 0 0] 36 ?_;intro gb101 hg w4 hbox hb;have BK101:=Zz.mk (hbox);have GW101:=Zz.mk ((gw_ hg (B_ HB.out)));have GE101:=GW101;have NB50_101:=Zz.mk ((nb_ BK50.out hg));have NB101_50:=Zz.mk NB50_101.out.symm;have NB51_101:=Zz.mk ((nb_ BK51.out hg));have NB101_51:=Zz.mk NB51_101.out.symm;replace BK50:=Zz.mk (kb_ BK50.out hb);replace BK51:=Zz.mk (kb_ BK51.out hb);replace HB:=Zz.mk (bT_ (B_ HB.out) hb);clear hb hbox hg))
 replace BK50:=Zz.mk (bD_ BK50.out)
 replace BK51:=Zz.mk (bD_ BK51.out)
 replace BK101:=Zz.mk (bD_ BK101.out)
 replace HB:=Zz.mk (qAe HB.out)
 refine qB8 (n:=15) (S:=fun w'=>w'.cell? ⟨gp0,0,none⟩=some (.int .i64 a0_0)∧w'.cell? ⟨gp0,1,none⟩=some (.int .i64 a0_1)∧w'.cell? ⟨gp0,2,none⟩=some (.int .i64 a0_2)∧w'.cell? ⟨gp0,3,none⟩=some (.slice A0_3 l0_3.length c0_3)∧w'.cell? ⟨gp1,0,none⟩=some (.int .i64 a1_0)∧w'.cell? ⟨gp1,1,none⟩=some (.int .i64 a1_1)∧w'.cell? ⟨gp1,2,none⟩=some (.int .i64 a1_2)∧w'.cell? ⟨gp1,3,none⟩=some (.slice A1_3 l1_3.length c1_3)) (ds:=[]) (tb_ 15 0) (by kernel_rfl) rfl rfl (Z4a_ BK50.out (Z4_ BK51.out)) (fun hHeld=>?_);refine qBb z40.tab1 z40.bits1 (fun HT_ HW_=>?_)
 generalize w4.drew=w5 at BK50 BK51 BK101 HB hHeld ⊢
 refine PX_ 0 10 (tb_ 15 1) HT_ rfl rfl ?_
 refine PX_ 1 11 (tb_ 15 3) HT_ rfl rfl ?_
 refine PX_ 2 12 (tb_ 15 7) HT_ rfl rfl ?_
 refine PX_ 4 14 (tb_ 15 23) HT_ rfl rfl ?_
 refine PX_ 5 15 (tb_ 15 55) HT_ rfl rfl ?_
 refine PX_ 6 16 (tb_ 15 119) HT_ rfl rfl ?_
 refine PX_ 8 18 (tb_ 15 375) HT_ rfl rfl ?_
 refine PX_ 9 19 (tb_ 15 887) HT_ rfl rfl ?_
 refine PX_ 10 20 (tb_ 15 1911) HT_ rfl rfl ?_
 refine TV_ (i:=3) (N:=some 13) (tb_ 15 1919) HT_ HW_ rfl rfl hHeld (by rintro w' ⟨s0,s1,s2,s3,s4,s5,s6,s7⟩;go_simp;with_reducible rfl) (h:=?_)
 refine TV_ (i:=7) (N:=some 17) (tb_ 15 2047) HT_ HW_ rfl rfl hHeld (by rintro w' ⟨s0,s1,s2,s3,s4,s5,s6,s7⟩;go_simp;with_reducible rfl) (h:=?_)
 refine TV_ (i:=11) (N:=some 21) (tb_ 15 4095) HT_ HW_ rfl rfl hHeld (by rintro w' ⟨s0,s1,s2,s3,s4,s5,s6,s7⟩;go_simp;with_reducible rfl) (h:=?_)
 refine join_ (σ:=Value × Nat) 1 (tb_ 15 16383) (fun s_=>[(22,.agg #[.int .i64 t102,.int .i64 t103,.int .i64 t104,s_.1]),(5,.pointer (some ⟨s_.2,0,none⟩))]) (fun s_ w'=>(w'.cell? ⟨gp0,0,none⟩=some (.int .i64 a0_0)∧w'.cell? ⟨gp0,1,none⟩=some (.int .i64 a0_1)∧w'.cell? ⟨gp0,2,none⟩=some (.int .i64 a0_2)∧w'.cell? ⟨gp0,3,none⟩=some (.slice A0_3 l0_3.length c0_3)∧w'.cell? ⟨gp1,0,none⟩=some (.int .i64 a1_0)∧w'.cell? ⟨gp1,1,none⟩=some (.int .i64 a1_1)∧w'.cell? ⟨gp1,2,none⟩=some (.int .i64 a1_2)∧w'.cell? ⟨gp1,3,none⟩=some (.slice A1_3 l1_3.length c1_3))∧(Kd.R (Kd.int .i64) 2 w' w.heap.size (fun _=>True) s_.1 t105)∧(w'.heap[gb101]?=some (.cells #[.int .i64 0,.int .i64 0,.int .i64 0,.slice none 0 0] 36 (0,0)))∧(w'.heap[s_.2]?=some (.cells #[.int .i64 0,.int .i64 0,.int .i64 0,.slice none 0 0] 36 (0,0)))∧(w'.heap[gp0]?=some (.cells #[.int .i64 a0_0,.int .i64 a0_1,.int .i64 a0_2,.slice A0_3 l0_3.length c0_3] 36 (0,0)))∧(w'.heap[gp1]?=some (.cells #[.int .i64 a1_0,.int .i64 a1_1,.int .i64 a1_2,.slice A1_3 l1_3.length c1_3] 36 (0,0)))∧(w.heap.size≤s_.2)∧(w.heap.size≤s_.2)∧(gb101≠s_.2)∧(s_.2≠gb101)∧(gp0≠s_.2)∧(s_.2≠gp0)∧(gp1≠s_.2)∧(s_.2≠gp1)∧(Below w.heap.size w w')) ?_ ?_
 rotate_left
 ·intro hCont
  refine two_ (i:=12) (j:=13) (Ni:=some 22) (Nj:=some 5) (tb_ 15 8191) (tb_ 15 12287) rfl rfl rfl rfl (qN9 HT_.out (by kernel_rfl)) (by decide) (by decide) (fun K hK=>?_) (fun K hK=>?_)
  ·skip
   refine GO_ Tryz.func74 #[.int .i64 a0_0,.int .i64 a0_1,.int .i64 a1_2] (h:=?_)
   with_reducible refine (z74.calls a0_0 a0_1 a1_2 t102 t103 t104 t105 _ A3.out).mono ?_
   rintro e w6 ⟨v106,rfl,ho0,hb⟩
   refine ⟨_,rfl,?_⟩
   have HO107:=Zz.mk (Kd.R_lower ho0 (bS_ (B1_ HB.out GE101.out)))
   replace BK50:=Zz.mk (kb_ BK50.out hb)
   replace BK51:=Zz.mk (kb_ BK51.out hb)
   replace BK101:=Zz.mk (kb_ BK101.out hb)
   replace HB:=Zz.mk (bT_ (B1_ HB.out GE101.out) hb)
   (try clear hb);(try clear ho0)
   refine hK.out _ _ (Z4a_ BK50.out (Z4_ BK51.out)) (fun hHeld=>?_)
   clear hK K
   refine NM_ (N:=(some 22)) (h:=?_)
   refine one_ (i:=13) (N:=some 5) (tb_ 15 16383) rfl rfl (qA7 HT_.out (by kernel_rfl)) (by decide) (fun K hK=>?_)
   refine by_ 5 #[.int .i64 0,.int .i64 0,.int .i64 0,.slice none 0 0] 36 ?_
   intro gb108 hg w7 hbox hb
   have BK108:=Zz.mk (hbox)
   have GW108:=Zz.mk ((gw_ hg (B1_ HB.out GE101.out)))
   have GE108:=GW108
   have NB50_108:=Zz.mk ((nb_ BK50.out hg))
   have NB108_50:=Zz.mk NB50_108.out.symm
   have NB51_108:=Zz.mk ((nb_ BK51.out hg))
   have NB108_51:=Zz.mk NB51_108.out.symm
   have NB101_108:=Zz.mk ((nb_ BK101.out hg))
   have NB108_101:=Zz.mk NB101_108.out.symm
   replace HO107:=Zz.mk (Kd.R_below (KR_ HO107.out) hb)
   replace BK50:=Zz.mk (kb_ BK50.out hb)
   replace BK51:=Zz.mk (kb_ BK51.out hb)
   replace BK101:=Zz.mk (kb_ BK101.out hb)
   replace HB:=Zz.mk (bT_ (B1_ HB.out GE101.out) hb)
   clear hb hbox hg
   refine hK.out _ _ (Z4a_ BK50.out (Z4_ BK51.out)) (fun hHeld=>?_)
   clear hK K
   refine NM_ (N:=(some 5)) (h:=?_)
   exact qJy (by simp only [qEv,Act.put,List.setIfInBounds_toArray,List.set_cons_zero,List.set_cons_succ]) (hCont (v106,gb108) _ ⟨hHeld,(KR_ HO107.out),(KB_ BK101.out),(KB_ BK108.out),(KB_ BK50.out),(KB_ BK51.out),GW108.out,GE108.out,NB101_108.out,NB108_101.out,NB50_108.out,NB108_50.out,NB51_108.out,NB108_51.out,(B2_ HB.out GE101.out GE108.out)⟩)
  skip
  refine by_ 5 #[.int .i64 0,.int .i64 0,.int .i64 0,.slice none 0 0] 36 ?_
  intro gb108 hg w6 hbox hb
  have BK108:=Zz.mk (hbox)
  have GW108:=Zz.mk ((gw_ hg (B1_ HB.out GE101.out)))
  have GE108:=GW108
  have NB50_108:=Zz.mk ((nb_ BK50.out hg))
  have NB108_50:=Zz.mk NB50_108.out.symm
  have NB51_108:=Zz.mk ((nb_ BK51.out hg))
  have NB108_51:=Zz.mk NB51_108.out.symm
  have NB101_108:=Zz.mk ((nb_ BK101.out hg))
  have NB108_101:=Zz.mk NB101_108.out.symm
  replace BK50:=Zz.mk (kb_ BK50.out hb)
  replace BK51:=Zz.mk (kb_ BK51.out hb)
  replace BK101:=Zz.mk (kb_ BK101.out hb)
  replace HB:=Zz.mk (bT_ (B1_ HB.out GE101.out) hb)
  clear hb hbox hg
  refine hK.out _ _ (Z4a_ BK50.out (Z4_ BK51.out)) (fun hHeld=>?_)
  clear hK K
  refine NM_ (N:=(some 5)) (h:=?_)
  refine one_ (i:=12) (N:=some 22) (tb_ 15 16383) rfl rfl (qA7 HT_.out (by kernel_rfl)) (by decide) (fun K hK=>?_)
  refine GO_ Tryz.func74 #[.int .i64 a0_0,.int .i64 a0_1,.int .i64 a1_2] (h:=?_)
  with_reducible refine (z74.calls a0_0 a0_1 a1_2 t102 t103 t104 t105 _ A3.out).mono ?_
  rintro e w7 ⟨v106,rfl,ho0,hb⟩
  refine ⟨_,rfl,?_⟩
  have HO107:=Zz.mk (Kd.R_lower ho0 (bS_ (B2_ HB.out GE101.out GE108.out)))
  replace BK50:=Zz.mk (kb_ BK50.out hb)
  replace BK51:=Zz.mk (kb_ BK51.out hb)
  replace BK101:=Zz.mk (kb_ BK101.out hb)
  replace BK108:=Zz.mk (kb_ BK108.out hb)
  replace HB:=Zz.mk (bT_ (B2_ HB.out GE101.out GE108.out) hb)
  (try clear hb);(try clear ho0)
  refine hK.out _ _ (Z4a_ BK50.out (Z4_ BK51.out)) (fun hHeld=>?_)
  clear hK K
  refine NM_ (N:=(some 22)) (h:=?_)
  exact qJy (by simp only [qEv,Act.put,List.setIfInBounds_toArray,List.set_cons_zero,List.set_cons_succ]) (hCont (v106,gb108) _ ⟨hHeld,(KR_ HO107.out),(KB_ BK101.out),(KB_ BK108.out),(KB_ BK50.out),(KB_ BK51.out),GW108.out,GE108.out,NB101_108.out,NB108_101.out,NB50_108.out,NB108_50.out,NB51_108.out,NB108_51.out,(B2_ HB.out GE101.out GE108.out)⟩)
 rintro ⟨v106,gb108⟩ w8 ⟨hS_,h0_,h1_,h2_,h3_,h4_,h5_,h6_,h7_,h8_,h9_,h10_,h11_,h12_,h13_⟩
 have HO107:Zz (Kd.R (Kd.int .i64) 2 w8 w.heap.size (fun _=>True) v106 t105):=⟨h0_⟩
 have BK108:Zz (w8.heap[gb108]?=some (.cells #[.int .i64 0,.int .i64 0,.int .i64 0,.slice none 0 0] 36 (0,0))):=⟨h2_⟩
 have GW108:Zz (w.heap.size≤gb108):=⟨h5_⟩
 have GE108:Zz (w.heap.size≤gb108):=⟨h6_⟩
 have NB101_108:Zz (gb101≠gb108):=⟨h7_⟩
 have NB108_101:Zz (gb108≠gb101):=⟨h8_⟩
 have NB50_108:Zz (gp0≠gb108):=⟨h9_⟩
 have NB108_50:Zz (gb108≠gp0):=⟨h10_⟩
 have NB51_108:Zz (gp1≠gb108):=⟨h11_⟩
 have NB108_51:Zz (gb108≠gp1):=⟨h12_⟩
 replace BK101:Zz (w8.heap[gb101]?=some (.cells #[.int .i64 0,.int .i64 0,.int .i64 0,.slice none 0 0] 36 (0,0))):=⟨h1_⟩
 replace BK50:Zz (w8.heap[gp0]?=some (.cells #[.int .i64 a0_0,.int .i64 a0_1,.int .i64 a0_2,.slice A0_3 l0_3.length c0_3] 36 (0,0))):=⟨h3_⟩
 replace BK51:Zz (w8.heap[gp1]?=some (.cells #[.int .i64 a1_0,.int .i64 a1_1,.int .i64 a1_2,.slice A1_3 l1_3.length c1_3] 36 (0,0))):=⟨h4_⟩
 replace HB:Zz (Below w.heap.size w w8):=⟨h13_⟩
 (try clear h0_)
 (try clear h1_)
 (try clear h2_)
 (try clear h3_)
 (try clear h4_)
 (try clear h5_)
 (try clear h6_)
 (try clear h7_)
 (try clear h8_)
 (try clear h9_)
 (try clear h10_)
 (try clear h11_)
 (try clear h12_)
 (try clear h13_)
 have hHeld:w8.cell? ⟨gp0,0,none⟩=some (.int .i64 a0_0)∧w8.cell? ⟨gp0,1,none⟩=some (.int .i64 a0_1)∧w8.cell? ⟨gp0,2,none⟩=some (.int .i64 a0_2)∧w8.cell? ⟨gp0,3,none⟩=some (.slice A0_3 l0_3.length c0_3)∧w8.cell? ⟨gp1,0,none⟩=some (.int .i64 a1_0)∧w8.cell? ⟨gp1,1,none⟩=some (.int .i64 a1_1)∧w8.cell? ⟨gp1,2,none⟩=some (.int .i64 a1_2)∧w8.cell? ⟨gp1,3,none⟩=some (.slice A1_3 l1_3.length c1_3):=hS_
 obtain ⟨Ao12,co12,eo12⟩:=Kd.R_slice HO107.out
 (first | subst eo12 | obtain ⟨rfl,rfl⟩:=sl_ eo12)
 refine qJy (a':=?_) ?_ ?_
 rotate_left
 ·simp only [qEv,Act.put,List.setIfInBounds_toArray,List.set_cons_zero,List.set_cons_succ]
  rfl
 refine one_ (i:=14) (N:=none) (tb_ 15 32767) rfl rfl (qA7 HT_.out (by kernel_rfl)) (by decide) (fun K hK=>?_)
 have hs9:w8.cell? ⟨gb108,0,none⟩=some (.int .i64 0):=(bC_ BK108.out 0).trans rfl
 have hfs9:=bF_ BK108.out 0
 have hns9_0:=NB50_108.out
 have hns9_1:=NB51_108.out
 have hns9_2:=NB101_108.out
 have hms9_0:=NB108_50.out
 have hms9_1:=NB108_51.out
 have hms9_2:=NB108_101.out
 have hs10:w8.cell? ⟨gb108,1,none⟩=some (.int .i64 0):=(bC_ BK108.out 1).trans rfl
 have hfs10:=bF_ BK108.out 1
 have hns10_0:=NB50_108.out
 have hns10_1:=NB51_108.out
 have hns10_2:=NB101_108.out
 have hms10_0:=NB108_50.out
 have hms10_1:=NB108_51.out
 have hms10_2:=NB108_101.out
 have hs11:w8.cell? ⟨gb108,2,none⟩=some (.int .i64 0):=(bC_ BK108.out 2).trans rfl
 have hfs11:=bF_ BK108.out 2
 have hns11_0:=NB50_108.out
 have hns11_1:=NB51_108.out
 have hns11_2:=NB101_108.out
 have hms11_0:=NB108_50.out
 have hms11_1:=NB108_51.out
 have hms11_2:=NB108_101.out
 have hs13:w8.cell? ⟨gb108,3,none⟩=some (.slice none 0 0):=(bC_ BK108.out 3).trans rfl
 have hfs13:=bF_ BK108.out 3
 have hns13_0:=NB50_108.out
 have hns13_1:=NB51_108.out
 have hns13_2:=NB101_108.out
 have hms13_0:=NB108_50.out
 have hms13_1:=NB108_51.out
 have hms13_2:=NB108_101.out
 refine qG0 (w1:=?_) (by rfl) rfl ?_ ?_
 rotate_left
 ·go_simp
  rfl
 refine hK.out _ _ ⟨((qA5 (p:=⟨gb108,_,none⟩) NB50_108.out _).trans (((qA5 (p:=⟨gb108,_,none⟩) NB50_108.out _).trans (((qA5 (p:=⟨gb108,_,none⟩) NB50_108.out _).trans (((qA5 (p:=⟨gb108,_,none⟩) NB50_108.out _).trans (hHeld.1)))))))),((qA5 (p:=⟨gb108,_,none⟩) NB50_108.out _).trans (((qA5 (p:=⟨gb108,_,none⟩) NB50_108.out _).trans (((qA5 (p:=⟨gb108,_,none⟩) NB50_108.out _).trans (((qA5 (p:=⟨gb108,_,none⟩) NB50_108.out _).trans (hHeld.2.1)))))))),((qA5 (p:=⟨gb108,_,none⟩) NB50_108.out _).trans (((qA5 (p:=⟨gb108,_,none⟩) NB50_108.out _).trans (((qA5 (p:=⟨gb108,_,none⟩) NB50_108.out _).trans (((qA5 (p:=⟨gb108,_,none⟩) NB50_108.out _).trans (hHeld.2.2.1)))))))),((qA5 (p:=⟨gb108,_,none⟩) NB50_108.out _).trans (((qA5 (p:=⟨gb108,_,none⟩) NB50_108.out _).trans (((qA5 (p:=⟨gb108,_,none⟩) NB50_108.out _).trans (((qA5 (p:=⟨gb108,_,none⟩) NB50_108.out _).trans (hHeld.2.2.2.1)))))))),((qA5 (p:=⟨gb108,_,none⟩) NB51_108.out _).trans (((qA5 (p:=⟨gb108,_,none⟩) NB51_108.out _).trans (((qA5 (p:=⟨gb108,_,none⟩) NB51_108.out _).trans (((qA5 (p:=⟨gb108,_,none⟩) NB51_108.out _).trans (hHeld.2.2.2.2.1)))))))),((qA5 (p:=⟨gb108,_,none⟩) NB51_108.out _).trans (((qA5 (p:=⟨gb108,_,none⟩) NB51_108.out _).trans (((qA5 (p:=⟨gb108,_,none⟩) NB51_108.out _).trans (((qA5 (p:=⟨gb108,_,none⟩) NB51_108.out _).trans (hHeld.2.2.2.2.2.1)))))))),((qA5 (p:=⟨gb108,_,none⟩) NB51_108.out _).trans (((qA5 (p:=⟨gb108,_,none⟩) NB51_108.out _).trans (((qA5 (p:=⟨gb108,_,none⟩) NB51_108.out _).trans (((qA5 (p:=⟨gb108,_,none⟩) NB51_108.out _).trans (hHeld.2.2.2.2.2.2.1)))))))),((qA5 (p:=⟨gb108,_,none⟩) NB51_108.out _).trans (((qA5 (p:=⟨gb108,_,none⟩) NB51_108.out _).trans (((qA5 (p:=⟨gb108,_,none⟩) NB51_108.out _).trans (((qA5 (p:=⟨gb108,_,none⟩) NB51_108.out _).trans (hHeld.2.2.2.2.2.2.2))))))))⟩ (fun hHeld=>?_)
 clear hK K
 refine qDb (qBt HT_.out (by kernel_rfl)) ?_
 try go_wp2
 go_loopg [6] k (fun kq v6 w'=>∃ (x6_1:Int) (x109003_1:List Int) (u109003:Value),v6=.int .i64 x6_1∧Zz (z40.l0 kq x6_1 a0_0 a0_1 a0_2 l0_3 a1_0 a1_1 a1_2 l1_3 t102 t103 t104 x109003_1=some (r1,r2,r3,r4))∧Zz (kq≤k)∧Zz (Kd.R (Kd.int .i64) 2 w' w.heap.size (fun _=>True) u109003 x109003_1)∧Zz (w'.heap[gp0]?=some (.cells #[.int .i64 a0_0,.int .i64 a0_1,.int .i64 a0_2,(.slice A0_3 l0_3.length c0_3)] 36 (0,0)))∧Zz (w'.heap[gp1]?=some (.cells #[.int .i64 a1_0,.int .i64 a1_1,.int .i64 a1_2,(.slice A1_3 l1_3.length c1_3)] 36 (0,0)))∧Zz (w'.heap[gb101]?=some (.cells #[.int .i64 0,.int .i64 0,.int .i64 0,(.slice none 0 0)] 36 (0,0)))∧Zz (w'.heap[gb108]?=some (.cells #[.int .i64 t102,.int .i64 t103,.int .i64 t104,u109003] 36 (0,0)))∧Zz (Below w.heap.size w w'))
 case atStart=>exact ⟨(0),(t105),(.slice Ao12 t105.length co12),E_,H',⟨Nat.le_refl _⟩,⟨by refine RW_ ?_;exact Kd.R_mono (Kd.R_far (p:=⟨gb108,3,none⟩) (Kd.R_far (p:=⟨gb108,2,none⟩) (Kd.R_far (p:=⟨gb108,1,none⟩) (Kd.R_far (p:=⟨gb108,0,none⟩) (Kd.R_types HO107.out BK108.out (by decide)) (fun _ hk=>hk.2) (.int .i64 t102)) (fun _ hk=>hk.2) (.int .i64 t103)) (fun _ hk=>hk.2) (.int .i64 t104)) (fun _ hk=>hk.2) (.slice Ao12 t105.length co12)) (fun _ hk=>trivial)⟩,⟨by refine BW_ ?_;refine bR_ ?_ NB50_108.out _;refine BW_ ?_;refine bR_ ?_ NB50_108.out _;refine BW_ ?_;refine bR_ ?_ NB50_108.out _;refine BW_ ?_;refine bR_ ?_ NB50_108.out _;refine BW_ ?_;exact BK50.out⟩,⟨by refine BW_ ?_;refine bR_ ?_ NB51_108.out _;refine BW_ ?_;refine bR_ ?_ NB51_108.out _;refine BW_ ?_;refine bR_ ?_ NB51_108.out _;refine BW_ ?_;refine bR_ ?_ NB51_108.out _;refine BW_ ?_;exact BK51.out⟩,⟨by refine BW_ ?_;refine bR_ ?_ NB101_108.out _;refine BW_ ?_;refine bR_ ?_ NB101_108.out _;refine BW_ ?_;refine bR_ ?_ NB101_108.out _;refine BW_ ?_;refine bR_ ?_ NB101_108.out _;refine BW_ ?_;exact BK101.out⟩,⟨by refine BW_ ?_;refine bP_ (cs:=#[.int .i64 t102,.int .i64 t103,.int .i64 t104,.slice none 0 0]) ?_ 3 _ rfl;refine BW_ ?_;refine bP_ (cs:=#[.int .i64 t102,.int .i64 t103,.int .i64 0,.slice none 0 0]) ?_ 2 _ rfl;refine BW_ ?_;refine bP_ (cs:=#[.int .i64 t102,.int .i64 0,.int .i64 0,.slice none 0 0]) ?_ 1 _ rfl;refine BW_ ?_;refine bP_ (cs:=#[.int .i64 0,.int .i64 0,.int .i64 0,.slice none 0 0]) ?_ 0 _ rfl;refine BW_ ?_;exact BK108.out⟩,⟨B2_ HB.out GE101.out GE108.out⟩⟩
 case round =>
  clear H'
  obtain ⟨x6_1,x109003_1,u109003,rfl,HA,HK1,HO_109003,BK50,BK51,BK101,BK108,HB⟩:=hrel
  cases gk with
  | zero=>exact absurd HA.out (by simp [z40.l0])
  | succ k1 =>
   have H:=HA.out
   clear HA
   simp only [z40.l0] at H
   by_cases c14:x6_1<a0_1
   ·rw [if_pos c14] at H
    have c14b0:decide (x6_1<a0_1)=true:=decide_eq_true c14
    clear c14
    have H':=Zz.mk H
    clear H
    have hnb15:=NB50_101.out
    have hnc15:=NB101_50.out
    have hnb16:=NB50_108.out
    have hnc16:=NB108_50.out
    obtain ⟨hcz17_0,hcz17_1,hcz17_2,hcz17_3,hfz17_0,hfz17_1,hfz17_2,hfz17_3⟩:=Z4f_ BK50.out
    go_wp2
    go_loopg [7] k1 (fun kq v7 w'=>∃ (x7_2:Int) (x109003_2:List Int) (u109003:Value),v7=.int .i64 x7_2∧Zz (z40.l1 kq x6_1 x7_2 a0_0 a0_1 a0_2 l0_3 a1_0 a1_1 a1_2 l1_3 t102 t103 t104 x109003_2=some (r1,r2,r3,r4))∧Zz (kq≤k1)∧Zz (Kd.R (Kd.int .i64) 2 w' w.heap.size (fun _=>True) u109003 x109003_2)∧Zz (w'.heap[gp0]?=some (.cells #[.int .i64 a0_0,.int .i64 a0_1,.int .i64 a0_2,(.slice A0_3 l0_3.length c0_3)] 36 (0,0)))∧Zz (w'.heap[gp1]?=some (.cells #[.int .i64 a1_0,.int .i64 a1_1,.int .i64 a1_2,(.slice A1_3 l1_3.length c1_3)] 36 (0,0)))∧Zz (w'.heap[gb101]?=some (.cells #[.int .i64 0,.int .i64 0,.int .i64 0,(.slice none 0 0)] 36 (0,0)))∧Zz (w'.heap[gb108]?=some (.cells #[.int .i64 t102,.int .i64 t103,.int .i64 t104,u109003] 36 (0,0)))∧Zz (Below w.heap.size w w'))
    case atStart=>exact ⟨(0),(x109003_1),(u109003),E_,H',⟨Nat.le_refl _⟩,⟨KR_ HO_109003.out⟩,⟨KB_ BK50.out⟩,⟨KB_ BK51.out⟩,⟨KB_ BK101.out⟩,⟨KB_ BK108.out⟩,⟨B2_ HB.out GE101.out GE108.out⟩⟩
    case round =>
     clear H'
     (try clear c14);(try clear c14b0);(try clear hcz17_0);(try clear hcz17_1);(try clear hcz17_2);(try clear hcz17_3);(try clear hfz17_0);(try clear hfz17_1);(try clear hfz17_2);(try clear hfz17_3)
     obtain ⟨x7_2,x109003_2,u109003,rfl,HA,HK2,HO_109003,BK50,BK51,BK101,BK108,HB⟩:=hrel
     cases gk with
     | zero=>exact absurd HA.out (by simp [z40.l1])
     | succ k2 =>
      have H:=HA.out
      clear HA
      simp only [z40.l1] at H
      by_cases c18:x7_2<a1_2
      ·rw [if_pos c18] at H
       have c18b0:decide (x7_2<a1_2)=true:=decide_eq_true c18
       clear c18
       have H':=Zz.mk H
       clear H
       have hnb19:=NB51_101.out
       have hnc19:=NB101_51.out
       have hnb20:=NB51_108.out
       have hnc20:=NB108_51.out
       obtain ⟨hcz21_0,hcz21_1,hcz21_2,hcz21_3,hfz21_0,hfz21_1,hfz21_2,hfz21_3⟩:=Z4f_ BK51.out
       go_wp2
       go_loopg [8,9] k2 (fun kq v8 v9 w'=>∃ (x8_3:Int) (x9_3:Int),v8=.int .i64 x8_3∧v9=.int .i64 x9_3∧Zz (z40.l2 kq x6_1 x7_2 x8_3 x9_3 a0_0 a0_1 a0_2 l0_3 a1_0 a1_1 a1_2 l1_3 t102 t103 t104 x109003_2=some (r1,r2,r3,r4))∧Zz (kq≤k2)∧Zz (Kd.R (Kd.int .i64) 2 w' w.heap.size (fun _=>True) u109003 x109003_2)∧Zz (w'.heap[gp0]?=some (.cells #[.int .i64 a0_0,.int .i64 a0_1,.int .i64 a0_2,(.slice A0_3 l0_3.length c0_3)] 36 (0,0)))∧Zz (w'.heap[gp1]?=some (.cells #[.int .i64 a1_0,.int .i64 a1_1,.int .i64 a1_2,(.slice A1_3 l1_3.length c1_3)] 36 (0,0)))∧Zz (w'.heap[gb101]?=some (.cells #[.int .i64 0,.int .i64 0,.int .i64 0,(.slice none 0 0)] 36 (0,0)))∧Zz (w'.heap[gb108]?=some (.cells #[.int .i64 t102,.int .i64 t103,.int .i64 t104,u109003] 36 (0,0)))∧Zz (Below w.heap.size w w'))
       case atStart=>exact ⟨(0),(0),E_,E_,H',⟨Nat.le_refl _⟩,⟨KR_ HO_109003.out⟩,⟨KB_ BK50.out⟩,⟨KB_ BK51.out⟩,⟨KB_ BK101.out⟩,⟨KB_ BK108.out⟩,⟨B2_ HB.out GE101.out GE108.out⟩⟩
       case round =>
        clear H'
        (try clear c14);(try clear c14b0);(try clear c18);(try clear c18b0);(try clear hcz17_0);(try clear hcz17_1);(try clear hcz17_2);(try clear hcz17_3);(try clear hcz21_0);(try clear hcz21_1);(try clear hcz21_2);(try clear hcz21_3);(try clear hfz17_0);(try clear hfz17_1);(try clear hfz17_2);(try clear hfz17_3);(try clear hfz21_0);(try clear hfz21_1);(try clear hfz21_2);(try clear hfz21_3)
        obtain ⟨x8_3,x9_3,rfl,rfl,HA,HK3,HO_109003,BK50,BK51,BK101,BK108,HB⟩:=hrel
        cases gk with
        | zero=>exact absurd HA.out (by simp [z40.l2])
        | succ k3 =>
         have H:=HA.out
         clear HA
         simp only [z40.l2] at H
         by_cases c22:x9_3<a0_2
         ·rw [if_pos c22] at H
          have c22b0:decide (x9_3<a0_2)=true:=decide_eq_true c22
          clear c22
          obtain ⟨ji23,hji23⟩:∃ j_:Int,(wrap64 ((wrap64 (x6_1 * a0_2))+x9_3))=j_:=⟨_,rfl⟩
          replace H:(if 0≤(ji23) then (if (ji23)<(l0_3.length:Int) then (if 0≤(wrap64 ((wrap64 (x9_3 * a1_2))+x7_2)) then (if (wrap64 ((wrap64 (x9_3 * a1_2))+x7_2))<(l1_3.length:Int) then (z40.l2 k3 x6_1 x7_2 (wrap64 (x8_3+(wrap64 ((rd l0_3 (ji23)) * (rd l1_3 (wrap64 ((wrap64 (x9_3 * a1_2))+x7_2))))))) (wrap64 (x9_3+1)) a0_0 a0_1 a0_2 l0_3 a1_0 a1_1 a1_2 l1_3 t102 t103 t104 x109003_2) else (none)) else (none)) else (none)) else (none))=some (r1,r2,r3,r4):=by first | (rw [hji23] at H;exact H) | (simp only [hji23] at H ⊢;exact H)
          have hji23w:(IntKind.i64.wrap ((wrap64 (x6_1 * a0_2))+x9_3))=ji23:=(qBl _).trans hji23
          have c24b0:=O3_ H
          replace H:=O2_ H
          have c25b0:=O3_ H
          replace H:=O2_ H
          obtain ⟨ji26,hji26⟩:∃ j_:Int,(wrap64 ((wrap64 (x9_3 * a1_2))+x7_2))=j_:=⟨_,rfl⟩
          replace H:(if 0≤(ji26) then (if (ji26)<(l1_3.length:Int) then (z40.l2 k3 x6_1 x7_2 (wrap64 (x8_3+(wrap64 ((rd l0_3 (ji23)) * (rd l1_3 (ji26)))))) (wrap64 (x9_3+1)) a0_0 a0_1 a0_2 l0_3 a1_0 a1_1 a1_2 l1_3 t102 t103 t104 x109003_2) else (none)) else (none))=some (r1,r2,r3,r4):=by first | (rw [hji26] at H;exact H) | (simp only [hji26] at H ⊢;exact H)
          have hji26w:(IntKind.i64.wrap ((wrap64 (x9_3 * a1_2))+x7_2))=ji26:=(qBl _).trans hji26
          have c27b0:=O3_ H
          replace H:=O2_ H
          have c28b0:=O3_ H
          replace H:=O2_ H
          have H':=Zz.mk H
          clear H
          have hnb29:=NB50_101.out
          have hnc29:=NB101_50.out
          have hnb30:=NB50_108.out
          have hnc30:=NB108_50.out
          obtain ⟨hcz31_0,hcz31_1,hcz31_2,hcz31_3,hfz31_0,hfz31_1,hfz31_2,hfz31_3⟩:=Z4f_ BK50.out
          try go_wp2
          replace HO_109003:=Zz.mk (Kd.R_drew HO_109003.out)
          replace BK50:=Zz.mk (bD_ BK50.out)
          replace BK51:=Zz.mk (bD_ BK51.out)
          replace BK101:=Zz.mk (bD_ BK101.out)
          replace BK108:=Zz.mk (bD_ BK108.out)
          replace HB:=Zz.mk (qAe HB.out)
          have p109:0≤((ji23):Int):=D_
          have q109:(ji23)<(l0_3.length:Int):=D_
          obtain ⟨ad109,e109,hx109_0⟩:=Kd.at_int HR0_3.out (ji23) p109 q109
          have hw109_0:=hx109_0
          cases e109
          replace hx109_0:=(HB.out.cell (World.block_lt_of_cell? w _ hx109_0)).trans hx109_0
          replace p109:=eq_true p109
          replace q109:=eq_true q109
          have p110:0≤((ji26):Int):=D_
          have q110:(ji26)<(l1_3.length:Int):=D_
          obtain ⟨ad110,e110,hx110_0⟩:=Kd.at_int HR1_3.out (ji26) p110 q110
          have hw110_0:=hx110_0
          cases e110
          replace hx110_0:=(HB.out.cell (World.block_lt_of_cell? w _ hx110_0)).trans hx110_0
          replace p110:=eq_true p110
          replace q110:=eq_true q110
          refine qB8 (n:=32) (S:=fun w'=>w'.cell? ⟨gp0,0,none⟩=some (.int .i64 a0_0)∧w'.cell? ⟨gp0,1,none⟩=some (.int .i64 a0_1)∧w'.cell? ⟨gp0,2,none⟩=some (.int .i64 a0_2)∧w'.cell? ⟨gp0,3,none⟩=some (.slice (some ad109) l0_3.length c0_3)∧w'.cell? ⟨gp1,0,none⟩=some (.int .i64 a1_0)∧w'.cell? ⟨gp1,1,none⟩=some (.int .i64 a1_1)∧w'.cell? ⟨gp1,2,none⟩=some (.int .i64 a1_2)∧w'.cell? ⟨gp1,3,none⟩=some (.slice (some ad110) l1_3.length c1_3)∧w'.cell? (ad109.add ((ji23)).toNat)=some (.int .i64 (rd l0_3 (ji23)))∧w'.cell? (ad110.add ((ji26)).toNat)=some (.int .i64 (rd l1_3 (ji26)))) (ds:=[]) (tb_ 32 0) (by kernel_rfl) rfl rfl ⟨(bC_ BK50.out 0).trans rfl,(bC_ BK50.out 1).trans rfl,(bC_ BK50.out 2).trans rfl,(bC_ BK50.out 3).trans rfl,(bC_ BK51.out 0).trans rfl,(bC_ BK51.out 1).trans rfl,(bC_ BK51.out 2).trans rfl,(bC_ BK51.out 3).trans rfl,((HB.out.cell (World.block_lt_of_cell? w _ hw109_0)).trans hw109_0),((HB.out.cell (World.block_lt_of_cell? w _ hw110_0)).trans hw110_0)⟩ (fun hHeld=>?_);refine qBb z40.tab12 z40.bits12 (fun HT_ HW_=>?_)
          generalize wr.drew=w32 at HO_109003 BK50 BK51 BK101 BK108 HB hx109_0 hx110_0 hHeld ⊢
          refine PX_ 0 47 (tb_ 32 1) HT_ rfl rfl ?_
          refine PX_ 1 48 (tb_ 32 3) HT_ rfl rfl ?_
          refine PX_ 2 49 (tb_ 32 7) HT_ rfl rfl ?_
          refine PX_ 3 50 (tb_ 32 15) HT_ rfl rfl ?_
          refine PX_ 5 52 (tb_ 32 47) HT_ rfl rfl ?_
          refine PX_ 6 53 (tb_ 32 111) HT_ rfl rfl ?_
          refine PX_ 7 54 (tb_ 32 239) HT_ rfl rfl ?_
          refine PX_ 8 55 (tb_ 32 495) HT_ rfl rfl ?_
          refine PX_ 11 58 (tb_ 32 2543) HT_ rfl rfl ?_
          refine PX_ 15 62 (tb_ 32 35311) HT_ rfl rfl ?_
          refine PX_ 16 63 (tb_ 32 100847) HT_ rfl rfl ?_
          refine PX_ 17 64 (tb_ 32 231919) HT_ rfl rfl ?_
          refine PX_ 19 66 (tb_ 32 756207) HT_ rfl rfl ?_
          refine PX_ 20 67 (tb_ 32 1804783) HT_ rfl rfl ?_
          refine PX_ 21 68 (tb_ 32 3901935) HT_ rfl rfl ?_
          refine PX_ 22 69 (tb_ 32 8096239) HT_ rfl rfl ?_
          refine PX_ 25 72 (tb_ 32 41650671) HT_ rfl rfl ?_
          refine TV_ (i:=4) (N:=some 51) (tb_ 32 41650687) HT_ HW_ rfl rfl hHeld (by rintro w' ⟨s0,s1,s2,s3,s4,s5,s6,s7,s8,s9⟩;go_simp;with_reducible rfl) (h:=?_)
          refine TV_ (i:=9) (N:=some 56) (tb_ 32 41651199) HT_ HW_ rfl rfl hHeld (by rintro w' ⟨s0,s1,s2,s3,s4,s5,s6,s7,s8,s9⟩;go_simp;with_reducible rfl) (h:=?_)
          refine PX_ 10 57 (tb_ 32 41652223) HT_ rfl rfl ?_
          refine PX_ 12 59 (tb_ 32 41656319) HT_ rfl rfl ?_
          refine PX_ 13 60 (tb_ 32 41664511) HT_ rfl rfl ?_
          refine TV_ (i:=14) (N:=some 61) (tb_ 32 41680895) HT_ HW_ rfl rfl hHeld (by rintro w' ⟨s0,s1,s2,s3,s4,s5,s6,s7,s8,s9⟩;go_simp;with_reducible rfl) (h:=?_)
          refine TV_ (i:=18) (N:=some 65) (tb_ 32 41943039) HT_ HW_ rfl rfl hHeld (by rintro w' ⟨s0,s1,s2,s3,s4,s5,s6,s7,s8,s9⟩;go_simp;with_reducible rfl) (h:=?_)
          refine TV_ (i:=23) (N:=some 70) (tb_ 32 50331647) HT_ HW_ rfl rfl hHeld (by rintro w' ⟨s0,s1,s2,s3,s4,s5,s6,s7,s8,s9⟩;go_simp;with_reducible rfl) (h:=?_)
          refine PX_ 24 71 (tb_ 32 67108863) HT_ rfl rfl ?_
          refine PX_ 26 73 (tb_ 32 134217727) HT_ rfl rfl ?_
          refine PX_ 27 74 (tb_ 32 268435455) HT_ rfl rfl ?_
          refine TV_ (i:=28) (N:=some 75) (tb_ 32 536870911) HT_ HW_ rfl rfl hHeld (by rintro w' ⟨s0,s1,s2,s3,s4,s5,s6,s7,s8,s9⟩;go_simp;with_reducible rfl) (h:=?_)
          refine PX_ 29 76 (tb_ 32 1073741823) HT_ rfl rfl ?_
          refine PX_ 30 77 (tb_ 32 2147483647) HT_ rfl rfl ?_
          refine PX_ 31 8 (tb_ 32 4294967295) HT_ rfl rfl ?_
          refine qDb (qBt HT_.out (by kernel_rfl)) ?_
          try go_wp2
          go_roundg k3
          case measure=>exact Q3_ HK1 HK2 HK3
          case rel=>exact ⟨(wrap64 (x8_3+(wrap64 ((rd l0_3 (ji23)) * (rd l1_3 (ji26)))))),(wrap64 (x9_3+1)),(by first | rfl | (simp;done) | (simp only [← hji23,← hji26] <;> (first | rfl | simp)) | (simp [*];done)),E_,H',⟨Q3_ HK1 HK2 HK3⟩,⟨KR_ HO_109003.out⟩,⟨KB_ BK50.out⟩,⟨KB_ BK51.out⟩,⟨KB_ BK101.out⟩,⟨KB_ BK108.out⟩,⟨B2_ HB.out GE101.out GE108.out⟩⟩
         rw [if_neg c22] at H
         have c22b0:decide (x9_3<a0_2)=false:=decide_eq_false c22
         clear c22
         by_cases c33:a0_0=0
         ·rw [if_pos c33] at H
          exact X_ H
         rw [if_neg c33] at H
         have c33b0:(a0_0 == 0)=false:=beq_eq_false_iff_ne.mpr c33
         have c33b1:(a0_0 != 0)=true:=bne_iff_ne.mpr c33
         obtain ⟨ji34,hji34⟩:∃ j_:Int,(wrap64 ((wrap64 (x6_1 * a1_2))+x7_2))=j_:=⟨_,rfl⟩
         replace H:(if 0≤(ji34) then (if (ji34)<(x109003_2.length:Int) then (z40.l1 k3 x6_1 (wrap64 (x7_2+1)) a0_0 a0_1 a0_2 l0_3 a1_0 a1_1 a1_2 l1_3 t102 t103 t104 (x109003_2.set ((ji34):Int).toNat (Int.tmod x8_3 a0_0))) else (none)) else (none))=some (r1,r2,r3,r4):=by first | (rw [hji34] at H;exact H) | (simp only [hji34] at H ⊢;exact H)
         have hji34w:(IntKind.i64.wrap ((wrap64 (x6_1 * a1_2))+x7_2))=ji34:=(qBl _).trans hji34
         have c35b0:=O3_ H
         replace H:=O2_ H
         have c36b0:=O3_ H
         replace H:=O2_ H
         obtain ⟨y111,hy111⟩:∃ y_:List Int,y_=(x109003_2.set ((ji34):Int).toNat (Int.tmod x8_3 a0_0)):=⟨_,rfl⟩
         replace H:(z40.l1 k3 x6_1 (wrap64 (x7_2+1)) a0_0 a0_1 a0_2 l0_3 a1_0 a1_1 a1_2 l1_3 t102 t103 t104 y111)=some (r1,r2,r3,r4):=Y_ hy111 H
         have Ny111:=Zz.mk hy111
         clear hy111
         have H':=Zz.mk H
         clear H
         have hnb38:=NB50_101.out
         have hnc38:=NB101_50.out
         have hnb39:=NB50_108.out
         have hnc39:=NB108_50.out
         obtain ⟨hcz40_0,hcz40_1,hcz40_2,hcz40_3,hfz40_0,hfz40_1,hfz40_2,hfz40_3⟩:=Z4f_ BK50.out
         try go_wp2
         replace HO_109003:=Zz.mk (Kd.R_drew HO_109003.out)
         replace BK50:=Zz.mk (bD_ BK50.out)
         replace BK51:=Zz.mk (bD_ BK51.out)
         replace BK101:=Zz.mk (bD_ BK101.out)
         replace BK108:=Zz.mk (bD_ BK108.out)
         replace HB:=Zz.mk (qAe HB.out)
         have p37:0≤((ji34):Int):=D_
         have q37:((ji34):Int)<((x109003_2.length:Int):Int):=D_
         obtain ⟨go37,co37,eo37,gb37,gl37,cl37,HG37⟩:=Kd.R_form HO_109003.out (by omega)
         (first | cases eo37 | (injection eo37 with ea_ en_ ec_;(first | subst ea_ | (injection ea_ with ea_;subst ea_));subst ec_;clear en_))
         have GB37:=Zz.mk gb37
         have GG37:=Zz.mk HG37
         clear gb37 gl37 HG37
         obtain ⟨hx37_0,hf37_0⟩:=Kd.R_celln 0 HO_109003.out ((ji34):Int) p37 q37
         replace p37:=eq_true p37
         replace q37:=eq_true q37
         have HP42:=Kd.R_putn HO_109003.out ((ji34):Int) (Int.tmod x8_3 a0_0)
         rw [← Ny111.out] at HP42
         have HQ42:=Zz.mk HP42
         clear HP42
         refine qB8 (n:=18) (S:=fun w'=>w'.cell? ⟨gb108,0,none⟩=some (.int .i64 t102)∧w'.cell? ⟨gb108,1,none⟩=some (.int .i64 t103)∧w'.cell? ⟨gb108,2,none⟩=some (.int .i64 t104)∧w'.cell? ⟨gb108,3,none⟩=some (.slice (some ⟨go37,0,none⟩) x109003_2.length co37)∧w'.cell? ⟨gp1,0,none⟩=some (.int .i64 a1_0)∧w'.cell? ⟨gp1,1,none⟩=some (.int .i64 a1_1)∧w'.cell? ⟨gp1,2,none⟩=some (.int .i64 a1_2)∧w'.cell? ⟨gp1,3,none⟩=some (.slice A1_3 l1_3.length c1_3)∧w'.cell? ⟨gp0,0,none⟩=some (.int .i64 a0_0)∧w'.cell? ⟨gp0,1,none⟩=some (.int .i64 a0_1)∧w'.cell? ⟨gp0,2,none⟩=some (.int .i64 a0_2)∧w'.cell? ⟨gp0,3,none⟩=some (.slice A0_3 l0_3.length c0_3)) (ds:=[17]) (tb_ 18 0) (by kernel_rfl) rfl rfl (Z4a_ BK108.out (Z4a_ BK51.out (Z4_ BK50.out))) (fun hHeld=>?_);refine qBb z40.tab13 z40.bits13 (fun HT_ HW_=>?_)
         generalize wr.drew=w41 at HO_109003 BK50 BK51 BK101 BK108 HB GG37 HQ42 hf37_0 hx37_0 hHeld ⊢
         refine PX_ 0 78 (tb_ 18 1) HT_ rfl rfl ?_
         refine PX_ 2 80 (tb_ 18 5) HT_ rfl rfl ?_
         refine PX_ 3 81 (tb_ 18 13) HT_ rfl rfl ?_
         refine PX_ 4 82 (tb_ 18 29) HT_ rfl rfl ?_
         refine PX_ 5 83 (tb_ 18 61) HT_ rfl rfl ?_
         refine PX_ 8 86 (tb_ 18 317) HT_ rfl rfl ?_
         refine PX_ 10 88 (tb_ 18 1341) HT_ rfl rfl ?_
         refine PX_ 11 89 (tb_ 18 3389) HT_ rfl rfl ?_
         refine PX_ 12 90 (tb_ 18 7485) HT_ rfl rfl ?_
         refine PX_ 13 91 (tb_ 18 15677) HT_ rfl rfl ?_
         refine TV_ (i:=1) (N:=some 79) (tb_ 18 15679) HT_ HW_ rfl rfl hHeld (by rintro w' ⟨s0,s1,s2,s3,s4,s5,s6,s7,s8,s9,s10,s11⟩;go_simp;with_reducible rfl) (h:=?_)
         refine TV_ (i:=6) (N:=some 84) (tb_ 18 15743) HT_ HW_ rfl rfl hHeld (by rintro w' ⟨s0,s1,s2,s3,s4,s5,s6,s7,s8,s9,s10,s11⟩;go_simp;with_reducible rfl) (h:=?_)
         refine PX_ 7 85 (tb_ 18 15871) HT_ rfl rfl ?_
         refine PX_ 9 87 (tb_ 18 16383) HT_ rfl rfl ?_
         refine TV_ (i:=14) (N:=some 92) (tb_ 18 32767) HT_ HW_ rfl rfl hHeld (by rintro w' ⟨s0,s1,s2,s3,s4,s5,s6,s7,s8,s9,s10,s11⟩;go_simp;with_reducible rfl) (h:=?_)
         refine PX_ 15 93 (tb_ 18 65535) HT_ rfl rfl ?_
         refine PX_ 16 94 (tb_ 18 131071) HT_ rfl rfl ?_
         refine qIa (i:=17) (N:=none) (tb_ 18 262143) rfl rfl (qA7 HT_.out (by kernel_rfl)) (by decide) (fun K hK=>?_)
         refine qG0 (w1:=?_) (by rfl) rfl ?_ ?_
         rotate_left
         ·go_simp
          rfl
         refine hK.out _ _ ?_
         clear hK K
         refine qDb (qBt HT_.out (by kernel_rfl)) ?_
         try go_wp2
         go_roundg k3
         case measure=>exact Q3_ HK1 HK2 HK3
         case rel=>exact ⟨(wrap64 (x7_2+1)),(y111),(.slice (some ⟨go37,0,none⟩) x109003_2.length co37),E_,H',⟨Q3_ HK1 HK2 HK3⟩,⟨KR_ HQ42.out⟩,⟨by refine BW_ ?_;refine bR_ ?_ (by have h_:=Kd.R_ne HO_109003.out BK50.out (by decide);intro e_;exact h_ (by rw [e_];rfl)) _;refine BW_ ?_;exact BK50.out⟩,⟨by refine BW_ ?_;refine bR_ ?_ (by have h_:=Kd.R_ne HO_109003.out BK51.out (by decide);intro e_;exact h_ (by rw [e_];rfl)) _;refine BW_ ?_;exact BK51.out⟩,⟨by refine BW_ ?_;refine bR_ ?_ (by have h_:=Kd.R_ne HO_109003.out BK101.out (by decide);intro e_;exact h_ (by rw [e_];rfl)) _;refine BW_ ?_;exact BK101.out⟩,⟨by refine BW_ ?_;refine bR_ ?_ (by have h_:=Kd.R_ne HO_109003.out BK108.out (by decide);intro e_;exact h_ (by rw [e_];rfl)) _;refine BW_ ?_;exact BK108.out⟩,⟨B3_ HB.out GB37.out GE101.out GE108.out⟩⟩
      rw [if_neg c18] at H
      have c18b0:decide (x7_2<a1_2)=false:=decide_eq_false c18
      clear c18
      have H':=Zz.mk H
      clear H
      have hnb43:=NB51_101.out
      have hnc43:=NB101_51.out
      have hnb44:=NB51_108.out
      have hnc44:=NB108_51.out
      obtain ⟨hcz45_0,hcz45_1,hcz45_2,hcz45_3,hfz45_0,hfz45_1,hfz45_2,hfz45_3⟩:=Z4f_ BK51.out
      go_wp2
      go_roundg k2
      case measure=>exact Q2_ HK1 HK2
      case rel=>exact ⟨(wrap64 (x6_1+1)),(x109003_2),(u109003),E_,H',⟨Q2_ HK1 HK2⟩,⟨KR_ HO_109003.out⟩,⟨KB_ BK50.out⟩,⟨KB_ BK51.out⟩,⟨KB_ BK101.out⟩,⟨KB_ BK108.out⟩,⟨B2_ HB.out GE101.out GE108.out⟩⟩
   rw [if_neg c14] at H
   have c14b0:decide (x6_1<a0_1)=false:=decide_eq_false c14
   clear c14
   simp only [Option.some.injEq,Prod.mk.injEq] at H
   obtain ⟨rfl,rfl,rfl,rfl⟩:=H
   have hnb46:=NB50_101.out
   have hnc46:=NB101_50.out
   have hnb47:=NB50_108.out
   have hnc47:=NB108_50.out
   obtain ⟨hcz48_0,hcz48_1,hcz48_2,hcz48_3,hfz48_0,hfz48_1,hfz48_2,hfz48_3⟩:=Z4f_ BK50.out
   have hnb49:=NB108_51.out
   have hnc49:=NB51_108.out
   have hnb50:=NB108_101.out
   have hnc50:=NB101_108.out
   obtain ⟨hcz51_0,hcz51_1,hcz51_2,hcz51_3,hfz51_0,hfz51_1,hfz51_2,hfz51_3⟩:=Z4f_ BK108.out
   have hnb52:=NB101_51.out
   have hnc52:=NB51_101.out
   obtain ⟨hcz53_0,hcz53_1,hcz53_2,hcz53_3,hfz53_0,hfz53_1,hfz53_2,hfz53_3⟩:=Z4f_ BK101.out
   obtain ⟨Ao54,co54,eo54⟩:=Kd.R_slice HO_109003.out
   subst eo54
   go_wp2
   refine bodyPost_ret (results_cell_row rfl _ _ gb101 36 #[.int .i64 t102,.int .i64 t103,.int .i64 t104,.slice Ao54 x109003_1.length co54] (0,0) _ rfl (by refine BW_ ?_;refine bP_ (cs:=#[.int .i64 t102,.int .i64 t103,.int .i64 t104,.slice none 0 0]) ?_ 3 _ rfl;refine BW_ ?_;refine bP_ (cs:=#[.int .i64 t102,.int .i64 t103,.int .i64 0,.slice none 0 0]) ?_ 2 _ rfl;refine BW_ ?_;refine bP_ (cs:=#[.int .i64 t102,.int .i64 0,.int .i64 0,.slice none 0 0]) ?_ 1 _ rfl;refine BW_ ?_;refine bP_ (cs:=#[.int .i64 0,.int .i64 0,.int .i64 0,.slice none 0 0]) ?_ 0 _ rfl;refine BW_ ?_;exact BK101.out) Tryz.underlying36 rfl (by kernel_rfl)) rfl ?_
   exact ⟨_,F_,by refine RW_ ?_;exact Kd.R_mono (Kd.R_far (p:=⟨gb101,3,none⟩) (Kd.R_far (p:=⟨gb101,2,none⟩) (Kd.R_far (p:=⟨gb101,1,none⟩) (Kd.R_far (p:=⟨gb101,0,none⟩) (Kd.R_types HO_109003.out BK101.out (by decide)) (fun _ hk=>hk.2) (.int .i64 t102)) (fun _ hk=>hk.2) (.int .i64 t103)) (fun _ hk=>hk.2) (.int .i64 t104)) (fun _ hk=>hk.2) (.slice Ao54 x109003_1.length co54)) (fun _ hk=>trivial),B2_ HB.out GE101.out GE108.out⟩
end Go.Proofs.YtpgjfppbbbnclaaGreat.B
