/- Printed by a program of this work over the kit's printer. -/
import Derived.Test.YtpgjfppbbbnclaaGreatKEAGLCD0
import Derived.Test.YtpgjfppbbbnclaaGreatKIFGODB0
import Derived.Test.YtpgjfppbbbnclaaGreatKW0
set_option linter.unusedVariables false
set_option linter.unusedSimpArgs false
open Go.RowKit Go.Proofs.YtpgjfppbbbnclaaGreatW.PrintWords
namespace Go.Proofs.YtpgjfppbbbnclaaGreat.B
open Go.Proofs.YtpgjfppbbbnclaaGreatW.PrintLast Go.Proofs.YtpgjfppbbbnclaaGreatW.PrintMore
attribute [local go_sem] qAq qAo qAu qAt qAl qAk qAp qAn
mutual
def z36.l0:Nat→Int→List Int→List Int→Int→Int→List (List Int)→Int→Int→Int→List Int→Option (Int × Int × Int × List Int)
 | 0,_,_,_,_,_,_,_,_,_,_=>none
 | k+1,x2,x7,x8,x29,x30,x102000,x118000,x118001,x118002,x118003=>if x30<x29 then (if 0≤x30 then (if x30<(x8.length:Int) then ((z68.f k x102000 (rd x8 x30)).bind fun t119=>(z36.l1 k x2 x7 x8 x30 x29 x30 t119 (t119.length:Int) 0 x102000 x118000 x118001 x118002 x118003)) else (none)) else (none)) else (some (x118000,x118001,x118002,x118003))
def z36.l1:Nat→Int→List Int→List Int→Int→Int→Int→List Int→Int→Int→List (List Int)→Int→Int→Int→List Int→Option (Int × Int × Int × List Int)
 | 0,_,_,_,_,_,_,_,_,_,_,_,_,_,_=>none
 | k+1,x2,x7,x8,x10,x29,x30,x37,x38,x39,x102000,x118000,x118001,x118002,x118003=>if x39<x38 then (if 0≤x39 then (if x39<(x37.length:Int) then ((z43.f k x7 (rd x37 x39)).bind fun t123=>((z69.f x39 x2).bind fun t124=>(if 0≤(wrap64 ((wrap64 (t123 * (x8.length:Int)))+x10)) then (if (wrap64 ((wrap64 (t123 * (x8.length:Int)))+x10))<(x118003.length:Int) then (z36.l1 k x2 x7 x8 x10 x29 x30 x37 x38 (wrap64 (x39+1)) x102000 x118000 x118001 x118002 (x118003.set ((wrap64 ((wrap64 (t123 * (x8.length:Int)))+x10)):Int).toNat t124)) else (none)) else (none)))) else (none)) else (none)) else (z36.l0 k x2 x7 x8 x29 (wrap64 (x30+1)) x102000 x118000 x118001 x118002 x118003)
end
def z36.f (k:Nat) (l0_0:List (List Int)) (a1:Int) (a2:Int):Option (Int × Int × Int × List Int):=(z42.f k l0_0 (wrap64 (a1 - 1))).bind fun t103=>((z42.f k l0_0 a1).bind fun t106=>((z50.f t103).bind fun t109=>((z50.f t106).bind fun t110=>((z67.f k a2 t109 t110).bind fun bt111=>(z36.l0 k a2 t103 t106 (t106.length:Int) 0 l0_0 bt111.1 bt111.2.1 bt111.2.2.1 bt111.2.2.2)))))
def z36.T1:Bool × List (List Nat × List Nat):=(true,[([],[]),([],[]),([1],[1]),([0,2],[0,2]),([],[]),([],[]),([4,5,3],[4,5]),([3,6,0,1,2,3],[3]),([6,7,0,1,2,3,4,5,6,7],[6])])
def z36.B1:List Nat:=[0,0,2,7,0,0,63,127,255]
theorem z36.tab1:rtab .any (qD3 Tryz.f36 1)=z36.T1:=by kernel_rfl
theorem z36.bits1:qBj z36.T1.2 z36.B1=true:=by kernel_rfl
def z36.T10:Bool × List (List Nat × List Nat):=(true,[([],[]),([0],[0]),([],[]),([],[]),([3],[3]),([2,4],[2,4]),([],[]),([5,6],[5,6]),([],[]),([],[]),([8,9],[8,9]),([1,7,0,1,2,3,4,5,6,7,8,9,10],[1,7]),([11,10,10,0,1,2,3,4,5,6,7,8,9,10],[10,11])])
def z36.B10:List Nat:=[0,1,0,0,8,28,0,124,0,0,768,2047,4095]
theorem z36.tab10:rtab .any (qD3 Tryz.f36 10)=z36.T10:=by kernel_rfl
theorem z36.bits10:qBj z36.T10.2 z36.B10=true:=by kernel_rfl
set_option maxHeartbeats 8000000 in
set_option maxRecDepth 100000 in
theorem z36.calls (k:Nat) (A0_0:Option Addr) (c0_0:Nat) (l0_0:List (List Int)) (a1:Int) (a2:Int) (r1:Int) (r2:Int) (r3:Int) (r4:List Int) (w:World) (hr0_0:Kd.C (Kd.slice 2 (Kd.int .i64)) w A0_0 l0_0.length l0_0) (hc0_0:l0_0.length≤c0_0) (h:z36.f k l0_0 a1 a2=some (r1,r2,r3,r4)) :
  Calls Tryz.prog 36 #[.agg #[.slice A0_0 l0_0.length c0_0],.int .i64 a1,.int .i64 a2] w fun e w'=>∃ v3_:Value,e=.returned (.agg #[.int .i64 r1,.int .i64 r2,.int .i64 r3,v3_])∧Kd.R (Kd.int .i64) 2 w' w.heap.size (fun _=>True) v3_ r4∧Below w.heap.size w w':=by
 have hu26:=Tryz.underlying26
 have hu36:=Tryz.underlying36
 have HR0_0:=Zz.mk hr0_0
 have HC0_0:=Zz.mk hc0_0
 clear hr0_0 hc0_0
 have HB:=Zz.mk (Below.refl w.heap.size w)
 have H:((z42.f k l0_0 (wrap64 (a1 - 1))).bind fun t103=>((z42.f k l0_0 a1).bind fun t106=>((z50.f t103).bind fun t109=>((z50.f t106).bind fun t110=>((z67.f k a2 t109 t110).bind fun bt111=>(z36.l0 k a2 t103 t106 (t106.length:Int) 0 l0_0 bt111.1 bt111.2.1 bt111.2.2.1 bt111.2.2.2))))))=some (r1,r2,r3,r4):=h
 clear h
 replace H:=OB_ H
 obtain ⟨t103,A40,H⟩:=H
 replace H:((z42.f k l0_0 a1).bind fun t106=>((z50.f t103).bind fun t109=>((z50.f t106).bind fun t110=>((z67.f k a2 t109 t110).bind fun bt111=>(z36.l0 k a2 t103 t106 (t106.length:Int) 0 l0_0 bt111.1 bt111.2.1 bt111.2.2.1 bt111.2.2.2)))))=some (r1,r2,r3,r4):=H
 have A4:=Zz.mk A40
 clear A40
 replace H:=OB_ H
 obtain ⟨t106,A50,H⟩:=H
 replace H:((z50.f t103).bind fun t109=>((z50.f t106).bind fun t110=>((z67.f k a2 t109 t110).bind fun bt111=>(z36.l0 k a2 t103 t106 (t106.length:Int) 0 l0_0 bt111.1 bt111.2.1 bt111.2.2.1 bt111.2.2.2))))=some (r1,r2,r3,r4):=H
 have A5:=Zz.mk A50
 clear A50
 replace H:=OB_ H
 obtain ⟨t109,A60,H⟩:=H
 replace H:((z50.f t106).bind fun t110=>((z67.f k a2 t109 t110).bind fun bt111=>(z36.l0 k a2 t103 t106 (t106.length:Int) 0 l0_0 bt111.1 bt111.2.1 bt111.2.2.1 bt111.2.2.2)))=some (r1,r2,r3,r4):=H
 have A6:=Zz.mk A60
 clear A60
 replace H:=OB_ H
 obtain ⟨t110,A70,H⟩:=H
 replace H:((z67.f k a2 t109 t110).bind fun bt111=>(z36.l0 k a2 t103 t106 (t106.length:Int) 0 l0_0 bt111.1 bt111.2.1 bt111.2.2.1 bt111.2.2.2))=some (r1,r2,r3,r4):=H
 have A7:=Zz.mk A70
 clear A70
 replace H:=OB_ H
 obtain ⟨⟨t111,t112,t113,t114⟩,A80,H⟩:=H
 replace H:(z36.l0 k a2 t103 t106 (t106.length:Int) 0 l0_0 t111 t112 t113 t114)=some (r1,r2,r3,r4):=H
 have A8:=Zz.mk A80
 clear A80
 have H':=Zz.mk H
 clear H
 go_enter Tryz.func36,Tryz.ntmps36
 try go_wp2_with (first | ((with_reducible refine qAm (N:=3) rfl ?_);refine bx_ 3 #[.slice A0_0 l0_0.length c0_0] 26 ?_;intro gb101 hg w9 hbox hb;have BK101:=Zz.mk (hbox);have GW101:=Zz.mk ((gw_ hg (B_ HB.out)));have GE101:=GW101;replace HB:=Zz.mk (bT_ (B_ HB.out) hb);clear hb hbox hg) | ((with_reducible refine qAm (N:=6) rfl ?_);refine bx_ 6 #[.int .i64 0,.int .i64 0,.int .i64 0,.slice none 0 0] 36 ?_;intro gb102 hg w10 hbox hb;have BK102:=Zz.mk (hbox);have GW102:=Zz.mk ((gw_ hg (B1_ HB.out GE101.out)));have GE102:=GW102;have NB101_102:=Zz.mk ((nb_ BK101.out hg));have NB102_101:=Zz.mk NB101_102.out.symm;replace BK101:=Zz.mk (kb_ BK101.out hb);replace HB:=Zz.mk (bT_ (B1_ HB.out GE101.out) hb);clear hb hbox hg))
 replace BK101:=Zz.mk (bD_ BK101.out)
 replace BK102:=Zz.mk (bD_ BK102.out)
 replace HB:=Zz.mk (qAe HB.out)
 refine qB8 (n:=9) (S:=fun w'=>w'.cell? ⟨gb101,0,none⟩=some (.slice A0_0 l0_0.length c0_0)) (ds:=[]) (tb_ 9 0) (by kernel_rfl) rfl rfl ((bC_ BK101.out 0).trans rfl) (fun hHeld=>?_);refine qBb z36.tab1 z36.bits1 (fun HT_ HW_=>?_)
 generalize w10.drew=w11 at BK101 BK102 HB hHeld ⊢
 refine PX_ 1 16 (tb_ 9 2) HT_ rfl rfl ?_
 refine PX_ 2 17 (tb_ 9 6) HT_ rfl rfl ?_
 refine PX_ 5 20 (tb_ 9 38) HT_ rfl rfl ?_
 refine take_ (i:=0) (N:=some 15) (v:=?_) (a':=?_) (tb_ 9 39) rfl rfl (qEl HT_.out HW_.out (by kernel_rfl)) (fun _ _ _ h=>h) (Or.inl ⟨by rfl,?_⟩) hHeld ?_ ?_
 rotate_left
 ·intro w' s0
  go_simp
  with_reducible rfl
 rotate_left
 ·simp only [Act.put,List.setIfInBounds_toArray,List.set_cons_zero,List.set_cons_succ,qBl,qCi]
  rfl
 refine take_ (i:=4) (N:=some 19) (v:=?_) (a':=?_) (tb_ 9 55) rfl rfl (qEl HT_.out HW_.out (by kernel_rfl)) (fun _ _ _ h=>h) (Or.inl ⟨by rfl,?_⟩) hHeld ?_ ?_
 rotate_left
 ·intro w' s0
  go_simp
  with_reducible rfl
 rotate_left
 ·simp only [Act.put,List.setIfInBounds_toArray,List.set_cons_zero,List.set_cons_succ,qBl,qCi]
  rfl
 refine one_ (i:=3) (N:=some 18) (tb_ 9 63) rfl rfl (qA7 HT_.out (by kernel_rfl)) (by decide) (fun K hK=>?_)
 refine GO_ Tryz.func42 #[.agg #[.slice A0_0 l0_0.length c0_0],.int .i64 (wrap64 (a1 - 1))] (h:=?_)
 with_reducible refine (z42.calls k _ _ l0_0 (wrap64 (a1 - 1)) t103 _ ?side1 ?side2 A4.out).mono ?_
 (case side1=>exact KC_ (Kd.C_below HR0_0.out HB.out))
 (case side2=>exact HC0_0.out)
 rintro e w12 ⟨v104,rfl,ho0,hb⟩
 refine ⟨_,rfl,?_⟩
 have HO105:=Zz.mk (Kd.R_lower ho0 (bS_ (B2_ HB.out GE101.out GE102.out)))
 replace BK101:=Zz.mk (kb_ BK101.out hb)
 replace BK102:=Zz.mk (kb_ BK102.out hb)
 replace HB:=Zz.mk (bT_ (B2_ HB.out GE101.out GE102.out) hb)
 (try clear hb);(try clear ho0)
 refine hK.out _ _ ((bC_ BK101.out 0).trans rfl) (fun hHeld=>?_)
 clear hK K
 refine NM_ (N:=(some 18)) (h:=?_)
 refine one_ (i:=6) (N:=some 21) (tb_ 9 127) rfl rfl (qA7 HT_.out (by kernel_rfl)) (by decide) (fun K hK=>?_)
 refine GO_ Tryz.func42 #[.agg #[.slice A0_0 l0_0.length c0_0],.int .i64 a1] (h:=?_)
 with_reducible refine (z42.calls k _ _ l0_0 a1 t106 _ ?side1 ?side2 A5.out).mono ?_
 (case side1=>exact KC_ (Kd.C_below HR0_0.out HB.out))
 (case side2=>exact HC0_0.out)
 rintro e w13 ⟨v107,rfl,ho0,hb⟩
 refine ⟨_,rfl,?_⟩
 have HO108:=Zz.mk (Kd.R_lower (Kd.R_new' ho0 (Kd.R_lt (KR_ HO105.out))) (bS_ (B2_ HB.out GE101.out GE102.out)))
 replace HO105:=Zz.mk (Kd.R_elder' (KR_ HO105.out) (Kd.R_base ho0) hb)
 replace BK101:=Zz.mk (kb_ BK101.out hb)
 replace BK102:=Zz.mk (kb_ BK102.out hb)
 replace HB:=Zz.mk (bT_ (B2_ HB.out GE101.out GE102.out) hb)
 (try clear hb);(try clear ho0)
 refine hK.out _ _ ((bC_ BK101.out 0).trans rfl) (fun hHeld=>?_)
 clear hK K
 refine NM_ (N:=(some 21)) (h:=?_)
 refine PX_ 7 7 (tb_ 9 255) HT_ rfl rfl ?_
 refine PX_ 8 8 (tb_ 9 511) HT_ rfl rfl ?_
 refine qDb (qBt HT_.out (by kernel_rfl)) ?_
 obtain ⟨Ao14,co14,eo14⟩:=Kd.R_slice HO105.out
 subst eo14
 try go_wp2_with (first | ((with_reducible refine gC_ (f:=50) rfl ?_);refine GL_ (some 24) rfl rfl Tryz.func50 #[.slice Ao14 t103.length co14] rfl (h:=?_);(with_reducible refine (z50.calls _ _ t103 t109 _ ?side1 ?side2 A6.out).mono ?_);(case side1=>exact KC_ (Kd.R_reads' HO105.out).2.2);(case side2=>exact (Kd.R_reads' HO105.out).2.1);rintro e w' ⟨rfl,⟨nd,rfl⟩⟩;refine ⟨_,rfl,?_⟩;(try (rw [qBu w13];generalize hq_:World.drewN w13 _=w13;replace HO105:Zz (Kd.R (Kd.int .i64) 2 w13 w.heap.size (fun k_=>some k_≠(v107:Value).ownBlock) (.slice Ao14 t103.length co14) t103):=⟨by rw [← hq_];exact (by refine RW_ ?_;exact Kd.R_mono HO105.out (fun _ hk=>hk.2))⟩;replace HO108:Zz (Kd.R (Kd.int .i64) 2 w13 w.heap.size (fun k_=>some k_≠(.slice Ao14 t103.length co14:Value).ownBlock) v107 t106):=⟨by rw [← hq_];exact (by refine RW_ ?_;exact Kd.R_mono HO108.out (fun _ hk=>hk.2))⟩;replace BK101:Zz (w13.heap[gb101]?=some (.cells #[.slice A0_0 l0_0.length c0_0] 26 (0,0))):=⟨by rw [← hq_];exact (KB_ BK101.out)⟩;replace BK102:Zz (w13.heap[gb102]?=some (.cells #[.int .i64 0,.int .i64 0,.int .i64 0,.slice none 0 0] 36 (0,0))):=⟨by rw [← hq_];exact (KB_ BK102.out)⟩;replace HB:Zz (Below w.heap.size w w13):=⟨by rw [← hq_];exact (B2_ HB.out GE101.out GE102.out)⟩;(try clear hq_)));obtain ⟨Ao15,co15,eo15⟩:=Kd.R_slice HO108.out;subst eo15) | ((with_reducible refine gC_ (f:=50) rfl ?_);refine GL_ (some 26) rfl rfl Tryz.func50 #[.slice Ao15 t106.length co15] rfl (h:=?_);(with_reducible refine (z50.calls _ _ t106 t110 _ ?side1 ?side2 A7.out).mono ?_);(case side1=>exact KC_ (Kd.R_reads' HO108.out).2.2);(case side2=>exact (Kd.R_reads' HO108.out).2.1);rintro e w' ⟨rfl,⟨nd,rfl⟩⟩;refine ⟨_,rfl,?_⟩;(try (rw [qBu w13];generalize hq_:World.drewN w13 _=w13;replace HO105:Zz (Kd.R (Kd.int .i64) 2 w13 w.heap.size (fun k_=>some k_≠(.slice Ao15 t106.length co15:Value).ownBlock) (.slice Ao14 t103.length co14) t103):=⟨by rw [← hq_];exact (KR_ HO105.out)⟩;replace HO108:Zz (Kd.R (Kd.int .i64) 2 w13 w.heap.size (fun k_=>some k_≠(.slice Ao14 t103.length co14:Value).ownBlock) (.slice Ao15 t106.length co15) t106):=⟨by rw [← hq_];exact (KR_ HO108.out)⟩;replace BK101:Zz (w13.heap[gb101]?=some (.cells #[.slice A0_0 l0_0.length c0_0] 26 (0,0))):=⟨by rw [← hq_];exact (KB_ BK101.out)⟩;replace BK102:Zz (w13.heap[gb102]?=some (.cells #[.int .i64 0,.int .i64 0,.int .i64 0,.slice none 0 0] 36 (0,0))):=⟨by rw [← hq_];exact (KB_ BK102.out)⟩;replace HB:Zz (Below w.heap.size w w13):=⟨by rw [← hq_];exact (B2_ HB.out GE101.out GE102.out)⟩;(try clear hq_)))) | ((with_reducible refine gC_ (f:=67) rfl ?_);refine GL_ (some 27) rfl rfl Tryz.func67 #[.int .i64 a2,.int .i64 t109,.int .i64 t110] rfl (h:=?_);(with_reducible refine (z67.calls k a2 t109 t110 t111 t112 t113 t114 _ A8.out).mono ?_);rintro e w16 ⟨v115,rfl,ho0,hb⟩;refine ⟨_,rfl,?_⟩;have HO116:=Zz.mk (Kd.R_lower (Kd.R_new' (Kd.R_new' ho0 (Kd.R_lt (KR_ HO105.out))) (Kd.R_lt (KR_ HO108.out))) (bS_ (B2_ HB.out GE101.out GE102.out)));replace HO105:=Zz.mk (Kd.R_elder' (KR_ HO105.out) (Kd.R_base ho0) hb);replace HO108:=Zz.mk (Kd.R_elder' (KR_ HO108.out) (Kd.R_base ho0) hb);replace BK101:=Zz.mk (kb_ BK101.out hb);replace BK102:=Zz.mk (kb_ BK102.out hb);replace HB:=Zz.mk (bT_ (B2_ HB.out GE101.out GE102.out) hb);(try clear hb);(try clear ho0)) | ((with_reducible refine qAm (N:=9) rfl ?_);refine bx_ 9 #[.int .i64 0,.int .i64 0,.int .i64 0,.slice none 0 0] 36 ?_;intro gb117 hg w17 hbox hb;have BK117:=Zz.mk (hbox);have GW117:=Zz.mk ((gw_ hg (B2_ HB.out GE101.out GE102.out)));have GE117:=GW117;have NB101_117:=Zz.mk ((nb_ BK101.out hg));have NB117_101:=Zz.mk NB101_117.out.symm;have NB102_117:=Zz.mk ((nb_ BK102.out hg));have NB117_102:=Zz.mk NB102_117.out.symm;replace HO105:=Zz.mk (Kd.R_below (KR_ HO105.out) hb);replace HO108:=Zz.mk (Kd.R_below (KR_ HO108.out) hb);replace HO116:=Zz.mk (Kd.R_below (KR_ HO116.out) hb);replace BK101:=Zz.mk (kb_ BK101.out hb);replace BK102:=Zz.mk (kb_ BK102.out hb);replace HB:=Zz.mk (bT_ (B2_ HB.out GE101.out GE102.out) hb);clear hb hbox hg;have hnb18:=NB117_101.out;have hnc18:=NB101_117.out;have hnb19:=NB117_102.out;have hnc19:=NB102_117.out;obtain ⟨hcz20_0,hcz20_1,hcz20_2,hcz20_3,hfz20_0,hfz20_1,hfz20_2,hfz20_3⟩:=Z4f_ BK117.out;obtain ⟨Ao21,co21,eo21⟩:=Kd.R_slice HO116.out;subst eo21))
 go_loopg [30] k (fun kq v30 w'=>∃ (x7_1:List Int) (x8_1:List Int) (x30_1:Int) (x118003_1:List Int) (u118003:Value),v30=.int .i64 x30_1∧Zz (z36.l0 kq a2 x7_1 x8_1 (t106.length:Int) x30_1 l0_0 t111 t112 t113 x118003_1=some (r1,r2,r3,r4))∧Zz (kq≤k)∧Zz (Kd.R (Kd.int .i64) 2 w' w.heap.size (fun k_=>some k_≠((.slice Ao15 t106.length co15):Value).ownBlock∧some k_≠(u118003:Value).ownBlock) (.slice Ao14 t103.length co14) x7_1)∧Zz (Kd.R (Kd.int .i64) 2 w' w.heap.size (fun k_=>some k_≠((.slice Ao14 t103.length co14):Value).ownBlock∧some k_≠(u118003:Value).ownBlock) (.slice Ao15 t106.length co15) x8_1)∧Zz (Kd.R (Kd.int .i64) 2 w' w.heap.size (fun k_=>some k_≠((.slice Ao14 t103.length co14):Value).ownBlock∧some k_≠((.slice Ao15 t106.length co15):Value).ownBlock) u118003 x118003_1)∧Zz (w'.heap[gb101]?=some (.cells #[(.slice A0_0 l0_0.length c0_0)] 26 (0,0)))∧Zz (w'.heap[gb102]?=some (.cells #[.int .i64 0,.int .i64 0,.int .i64 0,(.slice none 0 0)] 36 (0,0)))∧Zz (w'.heap[gb117]?=some (.cells #[.int .i64 t111,.int .i64 t112,.int .i64 t113,u118003] 36 (0,0)))∧Zz (Below w.heap.size w w'))
 case atStart=>exact ⟨(t103),(t106),(0),(t114),(.slice Ao21 t114.length co21),E_,H',⟨Nat.le_refl _⟩,⟨by refine RW_ ?_;exact Kd.R_mono (Kd.R_far (p:=⟨gb117,3,none⟩) (Kd.R_far (p:=⟨gb117,2,none⟩) (Kd.R_far (p:=⟨gb117,1,none⟩) (Kd.R_far (p:=⟨gb117,0,none⟩) (Kd.R_types HO105.out BK117.out (by decide)) (fun _ hk=>hk.2) (.int .i64 t111)) (fun _ hk=>hk.2) (.int .i64 t112)) (fun _ hk=>hk.2) (.int .i64 t113)) (fun _ hk=>hk.2) (.slice Ao21 t114.length co21)) (fun _ hk=>⟨hk.1.1,hk.1.2⟩)⟩,⟨by refine RW_ ?_;exact Kd.R_mono (Kd.R_far (p:=⟨gb117,3,none⟩) (Kd.R_far (p:=⟨gb117,2,none⟩) (Kd.R_far (p:=⟨gb117,1,none⟩) (Kd.R_far (p:=⟨gb117,0,none⟩) (Kd.R_types HO108.out BK117.out (by decide)) (fun _ hk=>hk.2) (.int .i64 t111)) (fun _ hk=>hk.2) (.int .i64 t112)) (fun _ hk=>hk.2) (.int .i64 t113)) (fun _ hk=>hk.2) (.slice Ao21 t114.length co21)) (fun _ hk=>⟨hk.1.1,hk.1.2⟩)⟩,⟨by refine RW_ ?_;exact Kd.R_mono (Kd.R_far (p:=⟨gb117,3,none⟩) (Kd.R_far (p:=⟨gb117,2,none⟩) (Kd.R_far (p:=⟨gb117,1,none⟩) (Kd.R_far (p:=⟨gb117,0,none⟩) (Kd.R_types HO116.out BK117.out (by decide)) (fun _ hk=>hk.2) (.int .i64 t111)) (fun _ hk=>hk.2) (.int .i64 t112)) (fun _ hk=>hk.2) (.int .i64 t113)) (fun _ hk=>hk.2) (.slice Ao21 t114.length co21)) (fun _ hk=>⟨hk.1.1.2,hk.1.2⟩)⟩,⟨by refine BW_ ?_;refine bR_ ?_ NB101_117.out _;refine BW_ ?_;refine bR_ ?_ NB101_117.out _;refine BW_ ?_;refine bR_ ?_ NB101_117.out _;refine BW_ ?_;refine bR_ ?_ NB101_117.out _;refine BW_ ?_;exact BK101.out⟩,⟨by refine BW_ ?_;refine bR_ ?_ NB102_117.out _;refine BW_ ?_;refine bR_ ?_ NB102_117.out _;refine BW_ ?_;refine bR_ ?_ NB102_117.out _;refine BW_ ?_;refine bR_ ?_ NB102_117.out _;refine BW_ ?_;exact BK102.out⟩,⟨by refine BW_ ?_;refine bP_ (cs:=#[.int .i64 t111,.int .i64 t112,.int .i64 t113,.slice none 0 0]) ?_ 3 _ rfl;refine BW_ ?_;refine bP_ (cs:=#[.int .i64 t111,.int .i64 t112,.int .i64 0,.slice none 0 0]) ?_ 2 _ rfl;refine BW_ ?_;refine bP_ (cs:=#[.int .i64 t111,.int .i64 0,.int .i64 0,.slice none 0 0]) ?_ 1 _ rfl;refine BW_ ?_;refine bP_ (cs:=#[.int .i64 0,.int .i64 0,.int .i64 0,.slice none 0 0]) ?_ 0 _ rfl;refine BW_ ?_;exact BK117.out⟩,⟨B3_ HB.out GE101.out GE102.out GE117.out⟩⟩
 case round =>
  clear H'
  (try clear hcz20_0);(try clear hcz20_1);(try clear hcz20_2);(try clear hcz20_3);(try clear hfz20_0);(try clear hfz20_1);(try clear hfz20_2);(try clear hfz20_3)
  obtain ⟨x7_1,x8_1,x30_1,x118003_1,u118003,rfl,HA,HK1,HO_7,HO_8,HO_118003,BK101,BK102,BK117,HB⟩:=hrel
  have hl7_1:=(Kd.R_reads' HO_7.out).1
  rw [hl7_1] at HO_7
  (try simp only [hl7_1])
  (try simp only [hl7_1] at BK101)
  (try simp only [hl7_1] at BK102)
  (try simp only [hl7_1] at BK117)
  (try simp only [hl7_1] at HO_8)
  (try simp only [hl7_1] at HO_118003)
  have hl8_1:=(Kd.R_reads' HO_8.out).1
  rw [hl8_1] at HO_8
  (try simp only [hl8_1])
  (try simp only [hl8_1] at BK101)
  (try simp only [hl8_1] at BK102)
  (try simp only [hl8_1] at BK117)
  (try simp only [hl8_1] at HO_7)
  (try simp only [hl8_1] at HO_118003)
  cases gk with
  | zero=>exact absurd HA.out (by simp [z36.l0])
  | succ k1 =>
   have H:=HA.out
   clear HA
   simp only [z36.l0] at H
   by_cases c22:x30_1<(t106.length:Int)
   ·rw [if_pos c22] at H
    have c22b0:decide (x30_1<(t106.length:Int))=true:=decide_eq_true c22
    (try rw [hl7_1] at c22b0)
    (try rw [hl8_1] at c22b0)
    clear c22
    have c23:=O1_ H
    replace H:=O2_ H
    have c23b0:=decide_eq_true c23
    (try rw [hl7_1] at c23b0)
    (try rw [hl8_1] at c23b0)
    clear c23
    have c24:=O1_ H
    replace H:=O2_ H
    have c24b0:=decide_eq_true c24
    (try rw [hl7_1] at c24b0)
    (try rw [hl8_1] at c24b0)
    clear c24
    replace H:=OB_ H
    obtain ⟨t119,A250,H⟩:=H
    replace H:(z36.l1 k1 a2 x7_1 x8_1 x30_1 (t106.length:Int) x30_1 t119 (t119.length:Int) 0 l0_0 t111 t112 t113 x118003_1)=some (r1,r2,r3,r4):=H
    have A25:=Zz.mk A250
    clear A250
    have H':=Zz.mk H
    clear H
    have p118:0≤(x30_1:Int):=D_
    have q118:x30_1<(x8_1.length:Int):=D_
    obtain ⟨ad118,e118,hx118_0⟩:=Kd.at_int (Kd.R_reads' HO_8.out).2.2 x30_1 p118 q118
    cases e118
    replace p118:=eq_true p118
    replace q118:=eq_true q118
    have hnb26:=NB101_102.out
    have hnc26:=NB102_101.out
    have hnb27:=NB101_117.out
    have hnc27:=NB117_101.out
    obtain ⟨hcz28_0,hfz28_0⟩:=Z1f_ BK101.out
    go_wp2_with (first | ((with_reducible refine gC_ (f:=68) rfl ?_);refine GL_ (some 37) rfl rfl Tryz.func68 #[.agg #[.slice A0_0 l0_0.length c0_0],.int .i64 (rd x8_1 x30_1)] rfl (h:=?_);(with_reducible refine (z68.calls k1 _ _ l0_0 (rd x8_1 x30_1) t119 _ ?side1 ?side2 A25.out).mono ?_);(case side1=>exact KC_ (Kd.C_below HR0_0.out HB.out));(case side2=>exact HC0_0.out);rintro e w29 ⟨v120,rfl,ho0,hb⟩;refine ⟨_,rfl,?_⟩;have HO121:=Zz.mk (Kd.R_lower (Kd.R_new' (Kd.R_new' (Kd.R_new' ho0 (Kd.R_lt (KR_ HO_7.out))) (Kd.R_lt (KR_ HO_8.out))) (Kd.R_lt (KR_ HO_118003.out))) (bS_ (B3_ HB.out GE101.out GE102.out GE117.out)));replace HO_7:=Zz.mk (Kd.R_elder' (KR_ HO_7.out) (Kd.R_base ho0) hb);replace HO_8:=Zz.mk (Kd.R_elder' (KR_ HO_8.out) (Kd.R_base ho0) hb);replace HO_118003:=Zz.mk (Kd.R_elder' (KR_ HO_118003.out) (Kd.R_base ho0) hb);replace BK101:=Zz.mk (kb_ BK101.out hb);replace BK102:=Zz.mk (kb_ BK102.out hb);replace BK117:=Zz.mk (kb_ BK117.out hb);replace HB:=Zz.mk (bT_ (B3_ HB.out GE101.out GE102.out GE117.out) hb);(try clear hb);(try clear ho0);obtain ⟨Ao30,co30,eo30⟩:=Kd.R_slice HO121.out;subst eo30))
    go_loopg [39] k1 (fun kq v39 w'=>∃ (x7_2:List Int) (x8_2:List Int) (x37_2:List Int) (x39_2:Int) (x118003_2:List Int) (u118003:Value),v39=.int .i64 x39_2∧Zz (z36.l1 kq a2 x7_2 x8_2 x30_1 (t106.length:Int) x30_1 x37_2 (t119.length:Int) x39_2 l0_0 t111 t112 t113 x118003_2=some (r1,r2,r3,r4))∧Zz (kq≤k1)∧Zz (Kd.R (Kd.int .i64) 2 w' w.heap.size (fun k_=>some k_≠((.slice (some ad118) x8_1.length co15):Value).ownBlock∧some k_≠((.slice Ao30 t119.length co30):Value).ownBlock∧some k_≠(u118003:Value).ownBlock) (.slice Ao14 x7_1.length co14) x7_2)∧Zz (Kd.R (Kd.int .i64) 2 w' w.heap.size (fun k_=>some k_≠((.slice Ao14 x7_1.length co14):Value).ownBlock∧some k_≠((.slice Ao30 t119.length co30):Value).ownBlock∧some k_≠(u118003:Value).ownBlock) (.slice (some ad118) x8_1.length co15) x8_2)∧Zz (Kd.R (Kd.int .i64) 2 w' w.heap.size (fun k_=>some k_≠((.slice Ao14 x7_1.length co14):Value).ownBlock∧some k_≠((.slice (some ad118) x8_1.length co15):Value).ownBlock∧some k_≠(u118003:Value).ownBlock) (.slice Ao30 t119.length co30) x37_2)∧Zz (Kd.R (Kd.int .i64) 2 w' w.heap.size (fun k_=>some k_≠((.slice Ao14 x7_1.length co14):Value).ownBlock∧some k_≠((.slice (some ad118) x8_1.length co15):Value).ownBlock∧some k_≠((.slice Ao30 t119.length co30):Value).ownBlock) u118003 x118003_2)∧Zz (w'.heap[gb101]?=some (.cells #[(.slice A0_0 l0_0.length c0_0)] 26 (0,0)))∧Zz (w'.heap[gb102]?=some (.cells #[.int .i64 0,.int .i64 0,.int .i64 0,(.slice none 0 0)] 36 (0,0)))∧Zz (w'.heap[gb117]?=some (.cells #[.int .i64 t111,.int .i64 t112,.int .i64 t113,u118003] 36 (0,0)))∧Zz (Below w.heap.size w w'))
    case atStart=>exact ⟨(x7_1),(x8_1),(t119),(0),(x118003_1),(u118003),E_,H',⟨Nat.le_refl _⟩,⟨by (try simp only [hl7_1]);(try simp only [hl8_1]);refine RW_ ?_;exact Kd.R_mono HO_7.out (fun _ hk=>⟨hk.1.1,⟨hk.2,hk.1.2⟩⟩)⟩,⟨by (try simp only [hl7_1]);(try simp only [hl8_1]);refine RW_ ?_;exact Kd.R_mono HO_8.out (fun _ hk=>⟨hk.1.1,⟨hk.2,hk.1.2⟩⟩)⟩,⟨by (try simp only [hl7_1]);(try simp only [hl8_1]);refine RW_ ?_;exact Kd.R_mono HO121.out (fun _ hk=>⟨hk.1.1.2,⟨hk.1.2,hk.2⟩⟩)⟩,⟨by (try simp only [hl7_1]);(try simp only [hl8_1]);refine RW_ ?_;exact Kd.R_mono HO_118003.out (fun _ hk=>⟨hk.1.1,⟨hk.1.2,hk.2⟩⟩)⟩,⟨by (try simp only [hl7_1]);(try simp only [hl8_1]);refine BW_ ?_;exact BK101.out⟩,⟨by (try simp only [hl7_1]);(try simp only [hl8_1]);refine BW_ ?_;exact BK102.out⟩,⟨by (try simp only [hl7_1]);(try simp only [hl8_1]);refine BW_ ?_;exact BK117.out⟩,⟨B3_ HB.out GE101.out GE102.out GE117.out⟩⟩
    case round =>
     clear H'
     (try clear c22);(try clear c22b0);(try clear c23);(try clear c23b0);(try clear c24);(try clear c24b0);(try clear hcz20_0);(try clear hcz20_1);(try clear hcz20_2);(try clear hcz20_3);(try clear hcz28_0);(try clear hfz20_0);(try clear hfz20_1);(try clear hfz20_2);(try clear hfz20_3);(try clear hfz28_0);(try clear hx118_0);(try clear p118);(try clear q118)
     obtain ⟨x7_2,x8_2,x37_2,x39_2,x118003_2,u118003,rfl,HA,HK2,HO_7,HO_8,HO_37,HO_118003,BK101,BK102,BK117,HB⟩:=hrel
     have hl7_2:=(Kd.R_reads' HO_7.out).1
     rw [hl7_2] at HO_7
     (try simp only [hl7_2])
     (try simp only [hl7_2] at BK101)
     (try simp only [hl7_2] at BK102)
     (try simp only [hl7_2] at BK117)
     (try simp only [hl7_2] at HO_8)
     (try simp only [hl7_2] at HO_37)
     (try simp only [hl7_2] at HO_118003)
     have hl8_2:=(Kd.R_reads' HO_8.out).1
     rw [hl8_2] at HO_8
     (try simp only [hl8_2])
     (try simp only [hl8_2] at BK101)
     (try simp only [hl8_2] at BK102)
     (try simp only [hl8_2] at BK117)
     (try simp only [hl8_2] at HO_7)
     (try simp only [hl8_2] at HO_37)
     (try simp only [hl8_2] at HO_118003)
     have hl37_2:=(Kd.R_reads' HO_37.out).1
     rw [hl37_2] at HO_37
     (try simp only [hl37_2])
     (try simp only [hl37_2] at BK101)
     (try simp only [hl37_2] at BK102)
     (try simp only [hl37_2] at BK117)
     (try simp only [hl37_2] at HO_7)
     (try simp only [hl37_2] at HO_8)
     (try simp only [hl37_2] at HO_118003)
     cases gk with
     | zero=>exact absurd HA.out (by simp [z36.l1])
     | succ k2 =>
      have H:=HA.out
      clear HA
      simp only [z36.l1] at H
      by_cases c31:x39_2<(t119.length:Int)
      ·rw [if_pos c31] at H
       have c31b0:decide (x39_2<(t119.length:Int))=true:=decide_eq_true c31
       (try rw [hl7_1] at c31b0)
       (try rw [hl8_1] at c31b0)
       (try rw [hl7_2] at c31b0)
       (try rw [hl8_2] at c31b0)
       (try rw [hl37_2] at c31b0)
       clear c31
       have c32:=O1_ H
       replace H:=O2_ H
       have c32b0:=decide_eq_true c32
       (try rw [hl7_1] at c32b0)
       (try rw [hl8_1] at c32b0)
       (try rw [hl7_2] at c32b0)
       (try rw [hl8_2] at c32b0)
       (try rw [hl37_2] at c32b0)
       clear c32
       have c33:=O1_ H
       replace H:=O2_ H
       have c33b0:=decide_eq_true c33
       (try rw [hl7_1] at c33b0)
       (try rw [hl8_1] at c33b0)
       (try rw [hl7_2] at c33b0)
       (try rw [hl8_2] at c33b0)
       (try rw [hl37_2] at c33b0)
       clear c33
       replace H:=OB_ H
       obtain ⟨t123,A340,H⟩:=H
       replace H:((z69.f x39_2 a2).bind fun t124=>(if 0≤(wrap64 ((wrap64 (t123 * (x8_2.length:Int)))+x30_1)) then (if (wrap64 ((wrap64 (t123 * (x8_2.length:Int)))+x30_1))<(x118003_2.length:Int) then (z36.l1 k2 a2 x7_2 x8_2 x30_1 (t106.length:Int) x30_1 x37_2 (t119.length:Int) (wrap64 (x39_2+1)) l0_0 t111 t112 t113 (x118003_2.set ((wrap64 ((wrap64 (t123 * (x8_2.length:Int)))+x30_1)):Int).toNat t124)) else (none)) else (none)))=some (r1,r2,r3,r4):=H
       have A34:=Zz.mk A340
       clear A340
       replace H:=OB_ H
       obtain ⟨t124,A350,H⟩:=H
       replace H:(if 0≤(wrap64 ((wrap64 (t123 * (x8_2.length:Int)))+x30_1)) then (if (wrap64 ((wrap64 (t123 * (x8_2.length:Int)))+x30_1))<(x118003_2.length:Int) then (z36.l1 k2 a2 x7_2 x8_2 x30_1 (t106.length:Int) x30_1 x37_2 (t119.length:Int) (wrap64 (x39_2+1)) l0_0 t111 t112 t113 (x118003_2.set ((wrap64 ((wrap64 (t123 * (x8_2.length:Int)))+x30_1)):Int).toNat t124)) else (none)) else (none))=some (r1,r2,r3,r4):=H
       have A35:=Zz.mk A350
       clear A350
       obtain ⟨ji36,hji36⟩:∃ j_:Int,(wrap64 ((wrap64 (t123 * (x8_2.length:Int)))+x30_1))=j_:=⟨_,rfl⟩
       replace H:(if 0≤(ji36) then (if (ji36)<(x118003_2.length:Int) then (z36.l1 k2 a2 x7_2 x8_2 x30_1 (t106.length:Int) x30_1 x37_2 (t119.length:Int) (wrap64 (x39_2+1)) l0_0 t111 t112 t113 (x118003_2.set ((ji36):Int).toNat t124)) else (none)) else (none))=some (r1,r2,r3,r4):=by first | (rw [hji36] at H;exact H) | (simp only [hji36] at H ⊢;exact H)
       (try rw [hji36] at A34)
       (try rw [hji36] at A35)
       have hji36w:(IntKind.i64.wrap ((wrap64 (t123 * (x8_2.length:Int)))+x30_1))=ji36:=(qBl _).trans hji36
       have c37:=O1_ H
       replace H:=O2_ H
       have c37b0:=decide_eq_true c37
       (try rw [hl7_1] at c37b0)
       (try rw [hl8_1] at c37b0)
       (try rw [hl7_2] at c37b0)
       (try rw [hl8_2] at c37b0)
       (try rw [hl37_2] at c37b0)
       clear c37
       have c38:=O1_ H
       replace H:=O2_ H
       have c38b0:=decide_eq_true c38
       (try rw [hl7_1] at c38b0)
       (try rw [hl8_1] at c38b0)
       (try rw [hl7_2] at c38b0)
       (try rw [hl8_2] at c38b0)
       (try rw [hl37_2] at c38b0)
       clear c38
       obtain ⟨y125,hy125⟩:∃ y_:List Int,y_=(x118003_2.set ((ji36):Int).toNat t124):=⟨_,rfl⟩
       replace H:(z36.l1 k2 a2 x7_2 x8_2 x30_1 (t106.length:Int) x30_1 x37_2 (t119.length:Int) (wrap64 (x39_2+1)) l0_0 t111 t112 t113 y125)=some (r1,r2,r3,r4):=Y_ hy125 H
       have Ny125:=Zz.mk hy125
       clear hy125
       have H':=Zz.mk H
       clear H
       have p122:0≤(x39_2:Int):=D_
       have q122:x39_2<(x37_2.length:Int):=D_
       obtain ⟨ad122,e122,hx122_0⟩:=Kd.at_int (Kd.R_reads' HO_37.out).2.2 x39_2 p122 q122
       cases e122
       replace p122:=eq_true p122
       replace q122:=eq_true q122
       try go_wp2_with (first | ((with_reducible refine gC_ (f:=43) rfl ?_);refine GL_ (some 46) rfl rfl Tryz.func43 #[.slice Ao14 x7_2.length co14,.int .i64 (rd x37_2 x39_2)] rfl (h:=?_);(with_reducible refine (z43.calls k2 _ _ x7_2 (rd x37_2 x39_2) t123 _ ?side1 ?side2 A34.out).mono ?_);(case side1=>exact KC_ (Kd.R_reads' HO_7.out).2.2);(case side2=>exact (Kd.R_reads' HO_7.out).2.1);rintro e w' ⟨rfl,⟨nd,rfl⟩⟩;refine ⟨_,rfl,?_⟩;(try (rw [qBu wr];generalize hq_:World.drewN wr _=wr;replace HO_118003:Zz (Kd.R (Kd.int .i64) 2 wr w.heap.size (fun k_=>some k_≠(.slice (some ad122) x37_2.length co30:Value).ownBlock∧some k_≠(.slice Ao14 x7_2.length co14:Value).ownBlock∧some k_≠(.slice (some ad118) x8_2.length co15:Value).ownBlock) u118003 x118003_2):=⟨by rw [← hq_];exact (by refine RW_ ?_;exact Kd.R_mono HO_118003.out (fun _ hk=>⟨hk.2.2,⟨hk.1,hk.2.1⟩⟩))⟩;replace HO_37:Zz (Kd.R (Kd.int .i64) 2 wr w.heap.size (fun k_=>some k_≠(u118003:Value).ownBlock∧some k_≠(.slice Ao14 x7_2.length co14:Value).ownBlock∧some k_≠(.slice (some ad118) x8_2.length co15:Value).ownBlock) (.slice (some ad122) x37_2.length co30) x37_2):=⟨by rw [← hq_];exact (by refine RW_ ?_;exact Kd.R_mono HO_37.out (fun _ hk=>⟨hk.2.2,⟨hk.1,hk.2.1⟩⟩))⟩;replace HO_7:Zz (Kd.R (Kd.int .i64) 2 wr w.heap.size (fun k_=>some k_≠(u118003:Value).ownBlock∧some k_≠(.slice (some ad122) x37_2.length co30:Value).ownBlock∧some k_≠(.slice (some ad118) x8_2.length co15:Value).ownBlock) (.slice Ao14 x7_2.length co14) x7_2):=⟨by rw [← hq_];exact (by refine RW_ ?_;exact Kd.R_mono HO_7.out (fun _ hk=>⟨hk.2.2,⟨hk.2.1,hk.1⟩⟩))⟩;replace HO_8:Zz (Kd.R (Kd.int .i64) 2 wr w.heap.size (fun k_=>some k_≠(u118003:Value).ownBlock∧some k_≠(.slice (some ad122) x37_2.length co30:Value).ownBlock∧some k_≠(.slice Ao14 x7_2.length co14:Value).ownBlock) (.slice (some ad118) x8_2.length co15) x8_2):=⟨by rw [← hq_];exact (by refine RW_ ?_;exact Kd.R_mono HO_8.out (fun _ hk=>⟨hk.2.2,⟨hk.2.1,hk.1⟩⟩))⟩;replace BK101:Zz (wr.heap[gb101]?=some (.cells #[.slice A0_0 l0_0.length c0_0] 26 (0,0))):=⟨by rw [← hq_];exact (KB_ BK101.out)⟩;replace BK102:Zz (wr.heap[gb102]?=some (.cells #[.int .i64 0,.int .i64 0,.int .i64 0,.slice none 0 0] 36 (0,0))):=⟨by rw [← hq_];exact (KB_ BK102.out)⟩;replace BK117:Zz (wr.heap[gb117]?=some (.cells #[.int .i64 t111,.int .i64 t112,.int .i64 t113,u118003] 36 (0,0))):=⟨by rw [← hq_];exact (KB_ BK117.out)⟩;replace HB:Zz (Below w.heap.size w wr):=⟨by rw [← hq_];exact (B3_ HB.out GE101.out GE102.out GE117.out)⟩;(try clear hq_)))))
       replace HO_7:=Zz.mk (Kd.R_drew HO_7.out)
       replace HO_8:=Zz.mk (Kd.R_drew HO_8.out)
       replace HO_37:=Zz.mk (Kd.R_drew HO_37.out)
       replace HO_118003:=Zz.mk (Kd.R_drew HO_118003.out)
       replace BK101:=Zz.mk (bD_ BK101.out)
       replace BK102:=Zz.mk (bD_ BK102.out)
       replace BK117:=Zz.mk (bD_ BK117.out)
       replace HB:=Zz.mk (qAe HB.out)
       refine qB8 (n:=13) (S:=fun w'=>w'.cell? ⟨gb117,0,none⟩=some (.int .i64 t111)∧w'.cell? ⟨gb117,1,none⟩=some (.int .i64 t112)∧w'.cell? ⟨gb117,2,none⟩=some (.int .i64 t113)∧w'.cell? ⟨gb117,3,none⟩=some (u118003)) (ds:=[12]) (tb_ 13 0) (by kernel_rfl) rfl rfl (Z4_ BK117.out) (fun hHeld=>?_);refine qBb z36.tab10 z36.bits10 (fun HT_ HW_=>?_)
       generalize wr.drew=w40 at HO_7 HO_8 HO_37 HO_118003 BK101 BK102 BK117 HB hHeld ⊢
       refine PX_ 0 47 (tb_ 13 1) HT_ rfl rfl ?_
       refine PX_ 2 49 (tb_ 13 5) HT_ rfl rfl ?_
       refine PX_ 3 50 (tb_ 13 13) HT_ rfl rfl ?_
       refine PX_ 4 51 (tb_ 13 29) HT_ rfl rfl ?_
       refine PX_ 5 52 (tb_ 13 61) HT_ rfl rfl ?_
       refine PX_ 6 53 (tb_ 13 125) HT_ rfl rfl ?_
       refine PX_ 7 54 (tb_ 13 253) HT_ rfl rfl ?_
       refine PX_ 8 55 (tb_ 13 509) HT_ rfl rfl ?_
       refine PX_ 9 56 (tb_ 13 1021) HT_ rfl rfl ?_
       refine TV_ (i:=1) (N:=some 48) (tb_ 13 1023) HT_ HW_ rfl rfl hHeld (by rintro w' ⟨s0,s1,s2,s3⟩;go_simp;with_reducible rfl) (h:=?_)
       refine one_ (i:=10) (N:=some 57) (tb_ 13 2047) rfl rfl (qA7 HT_.out (by kernel_rfl)) (by decide) (fun K hK=>?_)
       refine GO_ Tryz.func69 #[.int .i64 x39_2,.int .i64 a2] (h:=?_)
       with_reducible refine (z69.calls x39_2 a2 t124 _ A35.out).mono ?_
       rintro e w' ⟨rfl,⟨nd,rfl⟩⟩
       refine ⟨_,rfl,?_⟩
       have p39:0≤((ji36):Int):=D_
       have q39:((ji36):Int)<((x118003_2.length:Int):Int):=D_
       obtain ⟨go39,co39,eo39,gb39,gl39,cl39,HG39⟩:=Kd.R_form HO_118003.out (by omega)
       (first | cases eo39 | (injection eo39 with ea_ en_ ec_;(first | subst ea_ | (injection ea_ with ea_;subst ea_));subst ec_;clear en_))
       have GB39:=Zz.mk gb39
       have GG39:=Zz.mk HG39
       clear gb39 gl39 HG39
       obtain ⟨hx39_0,hf39_0⟩:=Kd.R_celln 0 HO_118003.out ((ji36):Int) p39 q39
       replace p39:=eq_true p39
       replace q39:=eq_true q39
       have HP41:=Kd.R_putn HO_118003.out ((ji36):Int) t124
       rw [← Ny125.out] at HP41
       have HQ41:=Zz.mk HP41
       clear HP41
       refine hK.out _ _ (Z4_ BK117.out) (fun hHeld=>?_)
       clear hK K
       refine NM_ (N:=(some 57)) (h:=?_)
       refine PX_ 11 58 (tb_ 13 4095) HT_ rfl rfl ?_
       refine qIa (i:=12) (N:=none) (tb_ 13 8191) rfl rfl (qA7 HT_.out (by kernel_rfl)) (by decide) (fun K hK=>?_)
       refine qG0 (w1:=?_) (by rfl) rfl ?_ ?_
       rotate_left
       ·go_simp
        rfl
       refine hK.out _ _ ?_
       clear hK K
       refine qDb (qBt HT_.out (by kernel_rfl)) ?_
       try go_wp2
       (try simp only [← hl7_2,← hl8_2,← hl37_2])
       go_roundg k2
       case measure=>exact Q2_ HK1 HK2
       case rel=>exact ⟨(x7_2),(x8_2),(x37_2),(wrap64 (x39_2+1)),(y125),(.slice (some ⟨go39,0,none⟩) x118003_2.length co39),E_,H',⟨Q2_ HK1 HK2⟩,⟨by (try simp only [hl7_1]);(try simp only [hl8_1]);(try simp only [hl7_2]);(try simp only [hl8_2]);(try simp only [hl37_2]);refine RW_ ?_;exact Kd.R_mono (Kd.R_far (p:=⟨go39,((ji36):Int).toNat,none⟩) (Kd.R_mono HO_7.out (fun k_ hk=>(⟨hk,fun e_=>hk.1 (by rw [e_];rfl)⟩:_∧k_≠go39))) (fun _ hk=>hk.2) (.int .i64 t124)) (fun _ hk=>⟨hk.1.2.2,⟨hk.1.2.1,hk.1.1⟩⟩)⟩,⟨by (try simp only [hl7_1]);(try simp only [hl8_1]);(try simp only [hl7_2]);(try simp only [hl8_2]);(try simp only [hl37_2]);refine RW_ ?_;exact Kd.R_mono (Kd.R_far (p:=⟨go39,((ji36):Int).toNat,none⟩) (Kd.R_mono HO_8.out (fun k_ hk=>(⟨hk,fun e_=>hk.1 (by rw [e_];rfl)⟩:_∧k_≠go39))) (fun _ hk=>hk.2) (.int .i64 t124)) (fun _ hk=>⟨hk.1.2.2,⟨hk.1.2.1,hk.1.1⟩⟩)⟩,⟨by (try simp only [hl7_1]);(try simp only [hl8_1]);(try simp only [hl7_2]);(try simp only [hl8_2]);(try simp only [hl37_2]);refine RW_ ?_;exact Kd.R_mono (Kd.R_far (p:=⟨go39,((ji36):Int).toNat,none⟩) (Kd.R_mono HO_37.out (fun k_ hk=>(⟨hk,fun e_=>hk.1 (by rw [e_];rfl)⟩:_∧k_≠go39))) (fun _ hk=>hk.2) (.int .i64 t124)) (fun _ hk=>⟨hk.1.2.1,⟨hk.1.2.2,hk.1.1⟩⟩)⟩,⟨by (try simp only [hl7_1]);(try simp only [hl8_1]);(try simp only [hl7_2]);(try simp only [hl8_2]);(try simp only [hl37_2]);refine RW_ ?_;exact Kd.R_mono HQ41.out (fun _ hk=>⟨hk.2.1,⟨hk.2.2,hk.1⟩⟩)⟩,⟨by (try simp only [hl7_1]);(try simp only [hl8_1]);(try simp only [hl7_2]);(try simp only [hl8_2]);(try simp only [hl37_2]);refine BW_ ?_;refine bR_ ?_ (by have h_:=Kd.R_ne HO_118003.out BK101.out (by decide);intro e_;exact h_ (by rw [e_];rfl)) _;refine BW_ ?_;exact BK101.out⟩,⟨by (try simp only [hl7_1]);(try simp only [hl8_1]);(try simp only [hl7_2]);(try simp only [hl8_2]);(try simp only [hl37_2]);refine BW_ ?_;refine bR_ ?_ (by have h_:=Kd.R_ne HO_118003.out BK102.out (by decide);intro e_;exact h_ (by rw [e_];rfl)) _;refine BW_ ?_;exact BK102.out⟩,⟨by (try simp only [hl7_1]);(try simp only [hl8_1]);(try simp only [hl7_2]);(try simp only [hl8_2]);(try simp only [hl37_2]);refine BW_ ?_;refine bR_ ?_ (by have h_:=Kd.R_ne HO_118003.out BK117.out (by decide);intro e_;exact h_ (by rw [e_];rfl)) _;refine BW_ ?_;exact BK117.out⟩,⟨rW7_ HB.out GB39.out GE101.out GE102.out GE117.out⟩⟩
      rw [if_neg c31] at H
      have c31b0:decide (x39_2<(t119.length:Int))=false:=decide_eq_false c31
      (try rw [hl7_1] at c31b0)
      (try rw [hl8_1] at c31b0)
      (try rw [hl7_2] at c31b0)
      (try rw [hl8_2] at c31b0)
      (try rw [hl37_2] at c31b0)
      clear c31
      have H':=Zz.mk H
      clear H
      go_wp2
      (try simp only [← hl7_1,← hl8_1,← hl7_2,← hl8_2,← hl37_2])
      go_roundg k2
      case measure=>exact Q2_ HK1 HK2
      case rel=>exact ⟨(x7_2),(x8_2),(wrap64 (x30_1+1)),(x118003_2),(u118003),E_,H',⟨Q2_ HK1 HK2⟩,⟨by (try simp only [hl7_1]);(try simp only [hl8_1]);(try simp only [hl7_2]);(try simp only [hl8_2]);(try simp only [hl37_2]);refine RW_ ?_;exact Kd.R_mono HO_7.out (fun _ hk=>⟨hk.1,hk.2.2⟩)⟩,⟨by (try simp only [hl7_1]);(try simp only [hl8_1]);(try simp only [hl7_2]);(try simp only [hl8_2]);(try simp only [hl37_2]);refine RW_ ?_;exact Kd.R_mono HO_8.out (fun _ hk=>⟨hk.1,hk.2.2⟩)⟩,⟨by (try simp only [hl7_1]);(try simp only [hl8_1]);(try simp only [hl7_2]);(try simp only [hl8_2]);(try simp only [hl37_2]);refine RW_ ?_;exact Kd.R_mono HO_118003.out (fun _ hk=>⟨hk.1,hk.2.1⟩)⟩,⟨by (try simp only [hl7_1]);(try simp only [hl8_1]);(try simp only [hl7_2]);(try simp only [hl8_2]);(try simp only [hl37_2]);refine BW_ ?_;exact BK101.out⟩,⟨by (try simp only [hl7_1]);(try simp only [hl8_1]);(try simp only [hl7_2]);(try simp only [hl8_2]);(try simp only [hl37_2]);refine BW_ ?_;exact BK102.out⟩,⟨by (try simp only [hl7_1]);(try simp only [hl8_1]);(try simp only [hl7_2]);(try simp only [hl8_2]);(try simp only [hl37_2]);refine BW_ ?_;exact BK117.out⟩,⟨B3_ HB.out GE101.out GE102.out GE117.out⟩⟩
   rw [if_neg c22] at H
   have c22b0:decide (x30_1<(t106.length:Int))=false:=decide_eq_false c22
   (try rw [hl7_1] at c22b0)
   (try rw [hl8_1] at c22b0)
   clear c22
   simp only [Option.some.injEq,Prod.mk.injEq] at H
   obtain ⟨rfl,rfl,rfl,rfl⟩:=H
   have hnb42:=NB117_101.out
   have hnc42:=NB101_117.out
   have hnb43:=NB117_102.out
   have hnc43:=NB102_117.out
   obtain ⟨hcz44_0,hcz44_1,hcz44_2,hcz44_3,hfz44_0,hfz44_1,hfz44_2,hfz44_3⟩:=Z4f_ BK117.out
   have hnb45:=NB102_101.out
   have hnc45:=NB101_102.out
   obtain ⟨hcz46_0,hcz46_1,hcz46_2,hcz46_3,hfz46_0,hfz46_1,hfz46_2,hfz46_3⟩:=Z4f_ BK102.out
   obtain ⟨Ao47,co47,eo47⟩:=Kd.R_slice HO_118003.out
   subst eo47
   go_wp2
   refine bodyPost_ret (results_cell_row rfl _ _ gb102 36 #[.int .i64 t111,.int .i64 t112,.int .i64 t113,.slice Ao47 x118003_1.length co47] (0,0) _ rfl (by refine BW_ ?_;refine bP_ (cs:=#[.int .i64 t111,.int .i64 t112,.int .i64 t113,.slice none 0 0]) ?_ 3 _ rfl;refine BW_ ?_;refine bP_ (cs:=#[.int .i64 t111,.int .i64 t112,.int .i64 0,.slice none 0 0]) ?_ 2 _ rfl;refine BW_ ?_;refine bP_ (cs:=#[.int .i64 t111,.int .i64 0,.int .i64 0,.slice none 0 0]) ?_ 1 _ rfl;refine BW_ ?_;refine bP_ (cs:=#[.int .i64 0,.int .i64 0,.int .i64 0,.slice none 0 0]) ?_ 0 _ rfl;refine BW_ ?_;exact BK102.out) Tryz.underlying36 rfl (by kernel_rfl)) rfl ?_
   exact ⟨_,F_,by refine RW_ ?_;exact Kd.R_mono (Kd.R_far (p:=⟨gb102,3,none⟩) (Kd.R_far (p:=⟨gb102,2,none⟩) (Kd.R_far (p:=⟨gb102,1,none⟩) (Kd.R_far (p:=⟨gb102,0,none⟩) (Kd.R_types HO_118003.out BK102.out (by decide)) (fun _ hk=>hk.2) (.int .i64 t111)) (fun _ hk=>hk.2) (.int .i64 t112)) (fun _ hk=>hk.2) (.int .i64 t113)) (fun _ hk=>hk.2) (.slice Ao47 x118003_1.length co47)) (fun _ hk=>trivial),B3_ HB.out GE101.out GE102.out GE117.out⟩
end Go.Proofs.YtpgjfppbbbnclaaGreat.B
