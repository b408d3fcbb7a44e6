/- Printed by a program of this work over the kit's printer. -/
import Derived.Test.YtpgjfppbbbnclaaGreatKIFGODB0
import Derived.Test.YtpgjfppbbbnclaaGreatKW0
set_option linter.unusedVariables false
set_option linter.unusedSimpArgs false
open Go.RowKit Go.Proofs.YtpgjfppbbbnclaaGreatW.PrintWords
namespace Go.Proofs.YtpgjfppbbbnclaaGreat.B
open Go.Proofs.YtpgjfppbbbnclaaGreatW.PrintLast Go.Proofs.YtpgjfppbbbnclaaGreatW.PrintMore
attribute [local go_sem] qAq qAo qAu qAt qAl qAk qAp qAn
def z83.l0:Nat→List Int→List (List Int)→Int→Int→Option ((List (List Int)))
 | 0,_,_,_,_=>none
 | k+1,x0,x3,x6,x7=>if x7<x6 then (if (x0.length:Int) > 1 then (if 0≤x7 then (if x7≤(x0.length:Int) then (if 0≤(wrap64 (x7+1)) then (if (wrap64 (x7+1))≤(x0.length:Int) then ((z115.f k (([(x0.take (x7:Int).toNat),(x0.drop ((wrap64 (x7+1)):Int).toNat)]:List (List Int)))).bind fun t114=>(if x3.length<5864062014805 then (z83.l0 k x0 (x3 ++ [t114]) x6 (wrap64 (x7+1))) else (none))) else (none)) else (none)) else (none)) else (none)) else (z83.l0 k x0 x3 x6 (wrap64 (x7+1)))) else (some x3)
def z83.f (k:Nat) (l0:List Int):Option ((List (List Int))):=z83.l0 k l0 ([]:List (List Int)) (l0.length:Int) 0
def z83.T6:Bool × List (List Nat × List Nat):=(true,[([],[]),([],[]),([],[]),([1,2],[1,2]),([],[]),([],[]),([5],[5]),([4,6],[4,6]),([3,7],[3,7]),([8],[8]),([9],[9]),([0,10,9],[0,10]),([11,11,0,1,2,3,4,5,6,7,8,9,10,11],[0,11])])
def z83.B6:List Nat:=[0,0,0,6,0,0,32,112,254,510,1022,2047,4095]
theorem z83.tab6:rtab .any (qD3 Tryz.f83 6)=z83.T6:=by kernel_rfl
theorem z83.bits6:qBj z83.T6.2 z83.B6=true:=by kernel_rfl
set_option maxHeartbeats 8000000 in
set_option maxRecDepth 100000 in
theorem z83.calls (k:Nat) (P0_:Nat→Prop) (A0:Option Addr) (c0:Nat) (l0:List Int) (r:List (List Int)) (w:World) (hs0:Kd.V (Kd.int .i64) 2 w w.heap.size (fun k_=>P0_ k_) (.slice A0 l0.length c0) l0) (h:z83.f k l0=some r) :
  Calls Tryz.prog 83 #[.slice A0 l0.length c0] w fun e w'=>∃ v0_:Value,e=.returned (v0_)∧Kd.N (Kd.slice 2 (Kd.int .i64)) 30 w' w.heap.size (fun k_=>(P0_ k_∨w.heap.size≤k_)) v0_ r∧Below w.heap.size w w':=by
 have HO0:=Zz.mk (show Kd.V (Kd.int .i64) 2 w w.heap.size (fun k_=>(P0_ k_∨w.heap.size≤k_)) (.slice A0 l0.length c0) l0 from Kd.V_mono hs0 (fun k_ hk=>.inl hk))
 have HB:=Zz.mk (Below.refl w.heap.size w)
 have H:(z83.l0 k l0 ([]:List (List Int)) (l0.length:Int) 0)=some r:=h
 clear h
 have H':=Zz.mk H
 clear H
 go_enter Tryz.func83,Tryz.ntmps83
 go_wp2
 go_loopg [3,7] k (fun kq v3 v7 w'=>∃ (x3_1:List (List Int)) (x7_1:Int),v7=.int .i64 x7_1∧Zz (z83.l0 kq l0 x3_1 (l0.length:Int) x7_1=some r)∧Zz (kq≤k)∧Zz (Kd.V (Kd.int .i64) 2 w' w.heap.size (fun k_=>(P0_ k_∨w.heap.size≤k_)∧some k_≠(v3:Value).ownBlock) (.slice A0 l0.length c0) l0)∧Zz (Kd.N (Kd.slice 2 (Kd.int .i64)) 30 w' w.heap.size (fun k_=>(P0_ k_∨w.heap.size≤k_)) v3 x3_1)∧Zz (Below w.heap.size w w'))
 case atStart=>exact ⟨(([]:List (List Int))),(0),E_,H',⟨Nat.le_refl _⟩,⟨by refine VW_ ?_;exact Kd.V_mono HO0.out (fun _ hk=>⟨hk,(by simp [Value.ownBlock])⟩)⟩,⟨by first | exact Kd.S_nil _ _ _ _ _ | exact Kd.N_nil _ _ _ _ _ | exact Kd.V_nil _ _ _ _ _ | exact Kd.Q_nil _ _ _ _ _ | exact Kd.R_nil _ _ _ _ _⟩,⟨B_ HB.out⟩⟩
 case round =>
  clear H'
  obtain ⟨x3_1,x7_1,rfl,HA,HK1,HO_0,HO_3,HB⟩:=hrel
  cases gk with
  | zero=>exact absurd HA.out (by simp [z83.l0])
  | succ k1 =>
   have H:=HA.out
   clear HA
   simp only [z83.l0] at H
   by_cases c2:x7_1<(l0.length:Int)
   ·rw [if_pos c2] at H
    have c2b0:decide (x7_1<(l0.length:Int))=true:=decide_eq_true c2
    clear c2
    by_cases c3:(l0.length:Int) > 1
    ·rw [if_pos c3] at H
     have c3b0:decide (1<(l0.length:Int))=true:=decide_eq_true c3
     have c3b1:decide (1<l0.length)=true:=decide_eq_true (by omega)
     clear c3
     have c4:=O1_ H
     replace H:=O2_ H
     have c4b0:=eq_true c4
     have c4b1:decide (0≤x7_1)=true:=decide_eq_true c4
     clear c4
     have c5:=O1_ H
     replace H:=O2_ H
     have c5b0:=eq_true c5
     have c5b1:decide (x7_1≤(l0.length:Int))=true:=decide_eq_true c5
     clear c5
     obtain ⟨y101,hy101⟩:∃ y_:List Int,y_=(l0.take (x7_1:Int).toNat):=⟨_,rfl⟩
     replace H:(if 0≤(wrap64 (x7_1+1)) then (if (wrap64 (x7_1+1))≤(l0.length:Int) then ((z115.f k1 (([y101,(l0.drop ((wrap64 (x7_1+1)):Int).toNat)]:List (List Int)))).bind fun t114=>(if x3_1.length<5864062014805 then (z83.l0 k1 l0 (x3_1 ++ [t114]) (l0.length:Int) (wrap64 (x7_1+1))) else (none))) else (none)) else (none))=some r:=Y_ hy101 H
     have Ny101:=Zz.mk hy101
     clear hy101
     obtain ⟨ji6,hji6⟩:∃ j_:Int,(wrap64 (x7_1+1))=j_:=⟨_,rfl⟩
     replace H:(if 0≤(ji6) then (if (ji6)≤(l0.length:Int) then ((z115.f k1 (([y101,(l0.drop ((ji6):Int).toNat)]:List (List Int)))).bind fun t114=>(if x3_1.length<5864062014805 then (z83.l0 k1 l0 (x3_1 ++ [t114]) (l0.length:Int) ji6) else (none))) else (none)) else (none))=some r:=by first | (rw [hji6] at H;exact H) | (simp only [hji6] at H ⊢;exact H)
     have hji6w:(IntKind.i64.wrap (x7_1+1))=ji6:=(qBl _).trans hji6
     have c7:=O1_ H
     replace H:=O2_ H
     have c7b0:=eq_true c7
     have c7b1:decide (0≤(ji6))=true:=decide_eq_true c7
     clear c7
     have c8:=O1_ H
     replace H:=O2_ H
     have c8b0:=eq_true c8
     have c8b1:decide ((ji6)≤(l0.length:Int))=true:=decide_eq_true c8
     clear c8
     obtain ⟨y106,hy106⟩:∃ y_:List Int,y_=(l0.drop ((ji6):Int).toNat):=⟨_,rfl⟩
     replace H:((z115.f k1 (([y101,y106]:List (List Int)))).bind fun t114=>(if x3_1.length<5864062014805 then (z83.l0 k1 l0 (x3_1 ++ [t114]) (l0.length:Int) ji6) else (none)))=some r:=Y_ hy106 H
     have Ny106:=Zz.mk hy106
     clear hy106
     obtain ⟨y111,hy111⟩:∃ y_:List (List Int),y_=(([y101,y106]:List (List Int))):=⟨_,rfl⟩
     replace H:((z115.f k1 y111).bind fun t114=>(if x3_1.length<5864062014805 then (z83.l0 k1 l0 (x3_1 ++ [t114]) (l0.length:Int) ji6) else (none)))=some r:=Y_ hy111 H
     have Ny111:=Zz.mk hy111
     clear hy111
     replace H:=OZ_ H
     obtain ⟨t114,A9,H⟩:=H
     have c10:=O1_ H
     replace H:=O2_ H
     have LMc10:=Zz.mk c10
     clear c10
     obtain ⟨y117,hy117⟩:∃ y_:List (List Int),y_=(x3_1 ++ [t114]):=⟨_,rfl⟩
     replace H:(z83.l0 k1 l0 y117 (l0.length:Int) ji6)=some r:=Y_ hy117 H
     have Ny117:=Zz.mk hy117
     clear hy117
     have H':=Zz.mk H
     clear H
     try go_wp2
     replace HO_0:=Zz.mk (Kd.V_drew HO_0.out)
     replace HO_3:=Zz.mk (Kd.N_drew HO_3.out)
     replace HB:=Zz.mk (qAe HB.out)
     have q12:(x7_1:Int)≤((l0.length:Int):Int):=D_
     obtain ⟨i012,hi012,_,hsz12,_⟩:=info_parts qB4
     have hroom12:l0.length≤c0:=(Kd.V_reads' HO_0.out).2.1
     have hC12:Kd.F (Kd.int .i64) _ _ A0 l0.length l0:=(Kd.V_at (base:=w.heap.size) HO_0.out).2.2
     have hcut12:=qHl (P:=Tryz.prog) 30 2 .i64 Tryz.underlying30 hi012 A0 l0.length c0 x7_1 (D_) q12 hroom12
     have hr12:=Kd.F_take (m:=(x7_1:Int).toNat) hC12 (by omega)
     have hy12:y101.length=(x7_1:Int).toNat:=(by rw [Ny101.out,List.length_take];omega)
     rw [← Ny101.out] at hr12
     rw [← hy12] at hcut12
     have HO105:=Zz.mk (show Kd.V (Kd.int .i64) 2 _ w.heap.size _ (.slice A0 y101.length c0) y101 from Kd.V_mk (by omega) hr12)
     have HC105:=Zz.mk (show y101.length≤c0 from by omega)
     clear hr12 hC12 hroom12 hi012 hsz12
     have KY12:=Zz.mk hy12
     clear hy12
     replace q12:=eq_true q12
     have q13:((ji6):Int)≤((l0.length:Int):Int):=D_
     obtain ⟨i013,hi013,_,hsz13,_⟩:=info_parts qB4
     have hroom13:l0.length≤c0:=(Kd.V_reads' HO_0.out).2.1
     have hC13:Kd.F (Kd.int .i64) _ _ A0 l0.length l0:=(Kd.V_at (base:=w.heap.size) HO_0.out).2.2
     have q013:(0:Int)≤((ji6):Int):=D_
     have hcut13:=qDc (P:=Tryz.prog) 30 2 .i64 Tryz.underlying30 hi013 1 hsz13 A0 l0.length c0 (ji6) q013 q13
     have hr13:=Kd.F_cut (m:=((ji6):Int).toNat) (c:=c0) hC13 (by omega) hroom13
     obtain ⟨A13,hA13⟩:∃ A1,A1=(if c0=((ji6):Int).toNat then A0 else (A0:Option Addr).map (·.add (((ji6):Int).toNat * 1))):=⟨_,rfl⟩
     obtain ⟨c13,hc13⟩:∃ c1,c1=c0 - ((ji6):Int).toNat:=⟨_,rfl⟩
     have hy13:y106.length=l0.length - ((ji6):Int).toNat:=(by rw [Ny106.out,List.length_drop] <;> omega)
     rw [show (l0).drop ((ji6):Int).toNat=y106 from Ny106.out.symm] at hr13
     replace hr13:Kd.F (Kd.int .i64) _ _ A13 y106.length y106:=(by rw [hA13];exact hr13)
     rw [← hy13,← hA13,← hc13] at hcut13
     have HO110:=Zz.mk (show Kd.V (Kd.int .i64) 2 _ w.heap.size _ (.slice A13 y106.length c13) y106 from Kd.V_mk (by rw [hy13,hc13];exact Nat.sub_le_sub_right hroom13 _) hr13)
     have HC110:=Zz.mk (show y106.length≤c13 from by rw [hy13,hc13];exact Nat.sub_le_sub_right hroom13 _)
     clear hr13 hC13 hroom13 hi013 hsz13 hc13
     have KY13:=Zz.mk hy13
     have KA13:=Zz.mk hA13
     clear hy13 hA13
     replace q13:=eq_true q13
     refine qB8 (n:=13) (S:=fun w'=>True) (ds:=[]) (tb_ 13 0) (by kernel_rfl) rfl rfl trivial (fun hHeld=>?_);refine qBb z83.tab6 z83.bits6 (fun HT_ HW_=>?_)
     generalize wr.drew=w11 at HO_0 HO_3 HB HO105 HO110 hHeld ⊢
     refine PX_ 0 13 (tb_ 13 1) HT_ rfl rfl ?_
     refine PX_ 1 14 (tb_ 13 3) HT_ rfl rfl ?_
     refine PX_ 2 15 (tb_ 13 7) HT_ rfl rfl ?_
     refine PX_ 3 16 (tb_ 13 15) HT_ rfl rfl ?_
     refine PX_ 4 17 (tb_ 13 31) HT_ rfl rfl ?_
     refine PX_ 5 18 (tb_ 13 63) HT_ rfl rfl ?_
     refine PX_ 6 19 (tb_ 13 127) HT_ rfl rfl ?_
     refine PX_ 7 20 (tb_ 13 255) HT_ rfl rfl ?_
     refine one_ (i:=8) (N:=some 21) (tb_ 13 511) rfl rfl (qA7 HT_.out (by kernel_rfl)) (by decide) (fun K hK=>?_)
     refine Kd.N_lit_step (Kd.slice 2 (Kd.int .i64)) _ 30 ?hg (N':=21) ?hd (xs:=([y101,y106]:List (List Int))) (inner:=[.slice A0 y101.length c0,.slice A13 y106.length c13]) (ok:=(fun k_=>(P0_ k_∨w.heap.size≤k_)∧some k_≠(u3:Value).ownBlock)) (okp:=(fun k_=>(P0_ k_∨w.heap.size≤k_)∧some k_≠(u3:Value).ownBlock)) ?hr ?hp (fun _ hk=>hk) ((show ∀ k_,w11.heap.size≤k_→(fun k_=>(P0_ k_∨w.heap.size≤k_)∧some k_≠(u3:Value).ownBlock) k_ from fun k_ hk=>⟨(.inr (Nat.le_trans (bS_ (B_ HB.out)) hk)),Kd.fresh' (Kd.N_lt (KN_ HO_3.out)) k_ hk⟩) _ (Nat.le_refl _)) (Below.refl _ _) (Nat.le_refl _) (by simp) ?_;(case hd=>rfl);(case hg=>rfl);(case hr=>first | (go_simp;done) | (go_simp;rfl));(case hp=>exact (Reps.one (show Kd.FK (Kd.slice 2 (Kd.int .i64)) _ _ y101 [.slice A0 y101.length c0] from (Kd.FK_slice_mk (Kd.V_reads' (Kd.V_mono (ok':=(fun k_=>(P0_ k_∨w.heap.size≤k_)∧some k_≠(u3:Value).ownBlock)) (HO105.out) (fun k_ hk=>⟨hk.1,hk.2⟩))).2.1 (Kd.V_F (Kd.V_mono (ok':=(fun k_=>(P0_ k_∨w.heap.size≤k_)∧some k_≠(u3:Value).ownBlock)) (HO105.out) (fun k_ hk=>⟨hk.1,hk.2⟩))))) (Reps.one (show Kd.FK (Kd.slice 2 (Kd.int .i64)) _ _ y106 [.slice A13 y106.length c13] from (Kd.FK_slice_mk (Kd.V_reads' (Kd.V_mono (ok':=(fun k_=>(P0_ k_∨w.heap.size≤k_)∧some k_≠(u3:Value).ownBlock)) (HO110.out) (fun k_ hk=>⟨hk.1,hk.2⟩))).2.1 (Kd.V_F (Kd.V_mono (ok':=(fun k_=>(P0_ k_∨w.heap.size≤k_)∧some k_≠(u3:Value).ownBlock)) (HO110.out) (fun k_ hk=>⟨hk.1,hk.2⟩))))) (Reps.none _ _))))
     intro v112 w14 ho15 hb hg_ hnew_
     clear hg_ hnew_
     (first | rw [← Ny111.out] at ho15 | (simp only [Int.reduceToNat] at ho15;rw [← Ny111.out] at ho15))
     replace HO_0:=Zz.mk (Kd.V_elder' (by refine VW_ ?_;exact HO_0.out) (Kd.N_base ho15) hb)
     replace HO_3:=Zz.mk (Kd.N_elder' (KN_ HO_3.out) (Kd.N_base ho15) hb)
     replace HO105:=Zz.mk (Kd.V_elder' (by refine VW_ ?_;exact HO105.out) (Kd.N_base ho15) hb)
     replace HO110:=Zz.mk (Kd.V_elder' (by refine VW_ ?_;exact HO110.out) (Kd.N_base ho15) hb)
     have HO113:=Zz.mk (Kd.N_lower ho15 (bS_ (B_ HB.out)))
     replace HB:=Zz.mk (bT_ (B_ HB.out) hb)
     clear hb ho15
     obtain ⟨Ao16,co16,eo16⟩:=Kd.N_slice HO113.out
     (first | subst eo16 | obtain ⟨rfl,rfl⟩:=sl_ eo16)
     refine hK.out _ _ trivial (fun hHeld=>?_)
     clear hK K
     refine NM_ (N:=(some 21)) (h:=?_)
     refine one_ (i:=9) (N:=some 22) (tb_ 13 1023) rfl rfl (qA7 HT_.out (by kernel_rfl)) (by decide) (fun K hK=>?_)
     refine GO_ Tryz.func115 #[.slice Ao16 y111.length co16] (h:=?_)
     with_reducible refine (z115.calls k1 _ _ y111 t114 _ ?side1 ?side2 A9.out).mono ?_
     (case side1=>exact KC_ (Kd.N_reads' HO113.out).2.2)
     (case side2=>exact (Kd.N_reads' HO113.out).2.1)
     rintro e w17 ⟨v115,rfl,ho0,hb⟩
     refine ⟨_,rfl,?_⟩
     replace HO_0:=Zz.mk (Kd.V_elder' (by refine VW_ ?_;exact HO_0.out) (Kd.R_base ho0) hb)
     replace HO_3:=Zz.mk (Kd.N_elder' (KN_ HO_3.out) (Kd.R_base ho0) hb)
     replace HO105:=Zz.mk (Kd.V_elder' (by refine VW_ ?_;exact HO105.out) (Kd.R_base ho0) hb)
     replace HO110:=Zz.mk (Kd.V_elder' (by refine VW_ ?_;exact HO110.out) (Kd.R_base ho0) hb)
     replace HO113:=Zz.mk (Kd.N_elder' (KN_ HO113.out) (Kd.R_base ho0) hb)
     have HO116:=Zz.mk (Kd.R_lower (Kd.R_newM (M:=fun k_=>(w.heap.size≤k_)) ho0 (bS_ (B_ HB.out)) (fun k_ h_=>h_)) (bS_ (B_ HB.out)))
     replace HB:=Zz.mk (bT_ (B_ HB.out) hb)
     (try clear hb);(try clear hk);(try clear ho0)
     obtain ⟨Ao19,co19,eo19⟩:=Kd.R_slice HO116.out
     (first | subst eo19 | obtain ⟨rfl,rfl⟩:=sl_ eo19)
     refine hK.out _ _ trivial (fun hHeld=>?_)
     clear hK K
     refine NM_ (N:=(some 22)) (h:=?_)
     refine one_ (i:=10) (N:=some 23) (tb_ 13 2047) rfl rfl (qA7 HT_.out (by kernel_rfl)) (by decide) (fun K hK=>?_)
     refine qIo (w1:=?_) (v:=?_) (by rfl) rfl ?_ ?_
     rotate_left 2
     ·go_simp
      constructor
      ·rfl
      rfl
     refine hK.out _ _ trivial (fun hHeld=>?_)
     clear hK K
     refine NM_ (N:=(some 23)) (h:=?_)
     refine one_ (i:=11) (N:=some 24) (tb_ 13 4095) rfl rfl (qA7 HT_.out (by kernel_rfl)) (by decide) (fun K hK=>?_)
     refine Kd.N_append_step (Kd.slice 2 (Kd.int .i64)) (w0:=w) w.heap.size (by rfl) (.tmp 13) (.tmp 23) 24 30 (.slice none 0 0) 24 rfl Tryz.underlying24 qBx rfl (by decide) (by omega) u3 x3_1 t114 [.slice Ao19 t114.length co19] (fun k_=>(P0_ k_∨w.heap.size≤k_)∧some k_≠(.slice Ao16 y111.length co16:Value).ownBlock) (fun k_=>((fun k_=>(P0_ k_∨w.heap.size≤k_)∧some k_≠(.slice Ao16 y111.length co16:Value).ownBlock)) k_∧some k_≠(u3:Value).ownBlock) rfl rfl ?aP (fun _ hk=>hk) ?aF ?aO ?aB ?aS ?aL ?_
     (case aP=>exact (Kd.FK_slice_mk (Kd.R_reads' (Kd.R_mono (ok':=(fun k_=>((fun k_=>(P0_ k_∨w.heap.size≤k_)∧some k_≠(.slice Ao16 y111.length co16:Value).ownBlock)) k_∧some k_≠(u3:Value).ownBlock)) (Kd.R_apart' (Kd.R_apart' (HO116.out) (Kd.N_typed HO113.out) (by decide)) (Kd.N_typed HO_3.out) (by decide)) (fun k_ hk=>⟨⟨(.inr (hk.1.1.1)),hk.1.2⟩,hk.2⟩))).2.1 (Kd.R_F (Kd.R_mono (ok':=(fun k_=>((fun k_=>(P0_ k_∨w.heap.size≤k_)∧some k_≠(.slice Ao16 y111.length co16:Value).ownBlock)) k_∧some k_≠(u3:Value).ownBlock)) (Kd.R_apart' (Kd.R_apart' (HO116.out) (Kd.N_typed HO113.out) (by decide)) (Kd.N_typed HO_3.out) (by decide)) (fun k_ hk=>⟨⟨(.inr (hk.1.1.1)),hk.1.2⟩,hk.2⟩)))))
     (case aB=>exact (B_ HB.out))
     (case aF=>exact (fun k_ hk=>⟨(.inr (Nat.le_trans (bS_ (B_ HB.out)) hk)),Kd.fresh' (Kd.N_lt (KN_ HO113.out)) k_ hk⟩))
     (case aO=>exact (by refine NW_ ?_;exact Kd.N_mono HO_3.out (fun _ hk=>⟨hk.1.1,hk.1.2⟩)))
     (case aS=>exact (bS_ (B_ HB.out)))
     (case aL=>have:=LMc10.out;omega)
     intro v118 w18 ho hb hg hat
     rw [← Ny117.out] at ho
     replace HO_0:=Zz.mk (Kd.V_afterv (ok:=(fun k_=>(P0_ k_∨w.heap.size≤k_)∧some k_≠(.slice Ao16 y111.length co16:Value).ownBlock∧some k_≠(.slice Ao19 t114.length co19:Value).ownBlock)) (by refine VW_ ?_;exact Kd.V_mono HO_0.out (fun _ hk=>⟨⟨hk.1.1.1,⟨hk.1.2,hk.2⟩⟩,hk.1.1.2⟩)) hg hat)
     replace HO105:=Zz.mk (Kd.V_afterv (ok:=(fun k_=>(P0_ k_∨w.heap.size≤k_)∧some k_≠(.slice Ao16 y111.length co16:Value).ownBlock∧some k_≠(.slice Ao19 t114.length co19:Value).ownBlock)) (by refine VW_ ?_;exact Kd.V_mono HO105.out (fun _ hk=>⟨⟨hk.1.1.1,⟨hk.1.2,hk.2⟩⟩,hk.1.1.2⟩)) hg hat)
     replace HO110:=Zz.mk (Kd.V_afterv (ok:=(fun k_=>(P0_ k_∨w.heap.size≤k_)∧some k_≠(.slice Ao16 y111.length co16:Value).ownBlock∧some k_≠(.slice Ao19 t114.length co19:Value).ownBlock)) (by refine VW_ ?_;exact Kd.V_mono HO110.out (fun _ hk=>⟨⟨hk.1.1.1,⟨hk.1.2,hk.2⟩⟩,hk.1.1.2⟩)) hg hat)
     replace HO113:=Zz.mk (Kd.N_afterv (ok:=(fun k_=>(P0_ k_∨w.heap.size≤k_)∧some k_≠(.slice Ao19 t114.length co19:Value).ownBlock)) (by refine NW_ ?_;exact Kd.N_mono HO113.out (fun _ hk=>⟨⟨hk.1.1,hk.2⟩,hk.1.2⟩)) hg hat)
     replace HB:=Zz.mk (hb)
     have HO119:=Zz.mk (ho)
     clear HO_3
     clear HO116
     clear ho hb hg hat
     refine hK.out _ _ trivial (fun hHeld=>?_)
     clear hK K
     refine NM_ (N:=(some 24)) (h:=?_)
     refine PX_ 12 3 (tb_ 13 8191) HT_ rfl rfl ?_
     refine qDb (qBt HT_.out (by kernel_rfl)) ?_
     try go_wp2
     go_roundg k1
     case measure=>exact Q1_ HK1
     case rel=>exact ⟨(y117),(ji6),(by first | rfl | (simp;done) | (simp only [← hji6] <;> (first | rfl | simp)) | (simp [*];done)),H',⟨Q1_ HK1⟩,⟨by refine VW_ ?_;exact Kd.V_mono HO_0.out (fun _ hk=>⟨hk.1.1,hk.2⟩)⟩,⟨by refine NW_ ?_;exact Kd.N_mono HO119.out (fun _ hk=>hk.1)⟩,⟨B_ HB.out⟩⟩
    rw [if_neg c3] at H
    have c3b0:decide (1<(l0.length:Int))=false:=decide_eq_false c3
    have c3b1:decide (1<l0.length)=false:=decide_eq_false (by omega)
    clear c3
    have H':=Zz.mk H
    clear H
    go_wp2
    go_roundg k1
    case measure=>exact Q1_ HK1
    case rel=>exact ⟨(x3_1),(wrap64 (x7_1+1)),E_,H',⟨Q1_ HK1⟩,⟨by refine VW_ ?_;exact HO_0.out⟩,⟨KN_ HO_3.out⟩,⟨B_ HB.out⟩⟩
   rw [if_neg c2] at H
   have c2b0:decide (x7_1<(l0.length:Int))=false:=decide_eq_false c2
   clear c2
   obtain rfl:=OI_ H
   go_wp2
   go_ret
   exact ⟨_,F_,KN_ HO_3.out,B_ HB.out⟩
end Go.Proofs.YtpgjfppbbbnclaaGreat.B
