/- Printed by a program of this work over the kit's printer. -/
import Derived.Test.YtpgjfppbbbnclaaGreatKIAECDC0
import Derived.Test.YtpgjfppbbbnclaaGreatKIFGODB0
import Derived.Test.YtpgjfppbbbnclaaGreatKW0
set_option linter.unusedVariables false
set_option linter.unusedSimpArgs false
open Go.RowKit Go.Proofs.YtpgjfppbbbnclaaGreatW.PrintWords
namespace Go.Proofs.YtpgjfppbbbnclaaGreat.B
open Go.Proofs.YtpgjfppbbbnclaaGreatW.PrintLast Go.Proofs.YtpgjfppbbbnclaaGreatW.PrintMore
attribute [local go_sem] qAq qAo qAu qAt qAl qAk qAp qAn
def z6.f (k:Nat) (l0:List Int):Option ((List (List Int))):=(z27.f l0).bind fun bt102=>((z28.f k bt102.1 bt102.2.1 bt102.2.2).bind fun bt106=>(some bt106.1))
set_option maxHeartbeats 8000000 in
set_option maxRecDepth 100000 in
theorem z6.calls (k:Nat) (A0:Option Addr) (c0:Nat) (l0:List Int) (r:List (List Int)) (w:World) (hr0:Kd.C (Kd.int .u8) w A0 l0.length l0) (hc0:l0.length≤c0) (h:z6.f k l0=some r) :
  Calls Tryz.prog 6 #[.slice A0 l0.length c0] w fun e w'=>∃ v0_:Value,e=.returned (.agg #[v0_])∧Kd.N (Kd.slice 2 (Kd.int .i64)) 30 w' w.heap.size (fun k_=>(w.heap.size≤k_)) v0_ r∧Below w.heap.size w w':=by
 have hu26:=Tryz.underlying26
 have HR0:=Zz.mk hr0
 have HC0:=Zz.mk hc0
 clear hr0 hc0
 have HB:=Zz.mk (Below.refl w.heap.size w)
 have H:((z27.f l0).bind fun bt102=>((z28.f k bt102.1 bt102.2.1 bt102.2.2).bind fun bt106=>(some bt106.1)))=some r:=h
 clear h
 replace H:=OB_ H
 obtain ⟨⟨t102,t103,t104⟩,A20,H⟩:=H
 try dsimp only at H
 have A2:=Zz.mk A20
 clear A20
 replace H:=OB_ H
 obtain ⟨⟨t106,t109,t110⟩,A30,H⟩:=H
 try dsimp only at H
 have A3:=Zz.mk A30
 clear A30
 obtain rfl:=OI_ H
 go_enter Tryz.func6,Tryz.ntmps6
 go_wp2_with (first | ((with_reducible refine qAm (N:=2) rfl ?_);refine bx_ 2 #[.slice none 0 0] 26 ?_;intro gb101 hg w4 hbox hb;have BK101:=Zz.mk (hbox);have GW101:=Zz.mk ((gw_ hg (B_ HB.out)));have GE101:=GW101;replace HB:=Zz.mk (bT_ (B_ HB.out) hb);clear hb hbox hg) | ((with_reducible refine gC_ (f:=27) rfl ?_);refine GL_ (some 5) rfl rfl Tryz.func27 #[.slice A0 l0.length c0] rfl (h:=?_);(with_reducible refine (z27.calls _ _ l0 t102 t103 t104 w _ ?side1 ?side2 ?side3 A2.out).mono ?_);(case side1=>repeat (first | (with_reducible first | exact HB.out | apply qAg | apply qAb | apply qAe | refine qAd ?_ GE101.out) | exact HB.out));(case side2=>exact HR0.out);(case side3=>exact HC0.out);rintro e w5 ⟨g105,rfl,hi,hb,hb2⟩;refine ⟨_,rfl,?_⟩;have HI105:=Zz.mk (hi);have NB105_101:=Zz.mk (qAa.ne_blk hi (bB_ (g:=gb101) (o:=.cells #[.slice none 0 0] 26 (0,0)) (KB_ BK101.out) hb2) (by decide));have NB101_105:=Zz.mk (Ne.symm (qAa.ne_blk hi (bB_ (g:=gb101) (o:=.cells #[.slice none 0 0] 26 (0,0)) (KB_ BK101.out) hb2) (by decide)));replace BK101:=Zz.mk (bB_ (g:=gb101) (o:=.cells #[.slice none 0 0] 26 (0,0)) (KB_ BK101.out) hb2);replace HB:=Zz.mk (hb);(try clear hb);(try clear hb2);(try clear hi)) | ((with_reducible refine gC_ (f:=28) rfl ?_);refine GL_ (some 7) rfl rfl Tryz.func28 #[.pointer (some ⟨g105,0,none⟩)] rfl (h:=?_);(with_reducible refine (z28.calls k g105 t102 t103 t104 t106 t109 t110 w _ ?side1 ?side2 A3.out).mono ?_);(case side1=>exact rW1_ HI105.out NB105_101.out);(case side2=>exact rW3_ HB.out HI105.out GE101.out);rintro e w6 ⟨v107,rfl,ho0,hi,hb,hk⟩;refine ⟨_,rfl,?_⟩;have HO108:=Zz.mk (Kd.N_lower (Kd.N_mono (ok':=fun k_=>(w.heap.size≤k_)∧k_≠gb101∧k_≠g105) ho0 (fun k_ hk_=>⟨(Nat.le_trans (bS_ (rW3_ HB.out HI105.out GE101.out)) hk_),(Kd.freshB (g:=gb101) (o:=.cells #[.slice none 0 0] 26 (0,0)) (KB_ BK101.out) k_ hk_),(qAa.fresh (rW1_ HI105.out NB105_101.out) k_ hk_)⟩)) (bS_ (rW3_ HB.out HI105.out GE101.out)));replace BK101:=Zz.mk (qAf.blk hk (g':=gb101) (o:=.cells #[.slice none 0 0] 26 (0,0)) (KB_ BK101.out) NB101_105.out (by simp));replace HB:=Zz.mk (hb);replace HI105:=Zz.mk (hi);(try clear hb);(try clear hk);(try clear hi);obtain ⟨Ao7,co7,eo7⟩:=Kd.N_slice HO108.out;subst eo7;have hnb8:=NB101_105.out;have hnc8:=NB105_101.out;obtain ⟨hcz9_0,hfz9_0⟩:=Z1f_ BK101.out))
 refine bodyPost_ret (results_cell_row rfl _ _ gb101 26 #[.slice Ao7 t106.length co7] (0,0) _ rfl (by refine BW_ ?_;refine bP_ (cs:=#[.slice none 0 0]) ?_ 0 _ rfl;refine BW_ ?_;exact BK101.out) Tryz.underlying26 rfl (by kernel_rfl)) rfl ?_
 exact ⟨_,F_,by refine NW_ ?_;exact Kd.N_mono (Kd.N_far (p:=⟨gb101,0,none⟩) (Kd.N_mono HO108.out (fun k_ hk=>(⟨hk,hk.2.1⟩:_∧k_≠gb101))) (fun _ hk=>hk.2) (.slice Ao7 t106.length co7)) (fun _ hk=>hk.1.1),rW3_ HB.out HI105.out GE101.out⟩
end Go.Proofs.YtpgjfppbbbnclaaGreat.B
