/- Printed by a program of this work over the kit's printer. -/
import Derived.Test.YtpgjfppbbbnclaaGreatKIFGODB0
import Derived.Test.YtpgjfppbbbnclaaGreatKW0
set_option linter.unusedVariables false
set_option linter.unusedSimpArgs false
open Go.RowKit Go.Proofs.YtpgjfppbbbnclaaGreatW.PrintWords
namespace Go.Proofs.YtpgjfppbbbnclaaGreat.B
open Go.Proofs.YtpgjfppbbbnclaaGreatW.PrintLast Go.Proofs.YtpgjfppbbbnclaaGreatW.PrintMore
attribute [local go_sem] qAq qAo qAu qAt qAl qAk qAp qAn
mutual
def z87.l0:Nat→List (List Int)→Int→Int→List Int→Int→Int→Int→Option (List Int × Int × (List (List Int)))
 | 0,_,_,_,_,_,_,_=>none
 | k+1,x0,x1,x2,x8,x9,x16,x17=>if x17<x16 then (if 0≤(x8.length:Int) then (if (x8.length:Int)≤(x0.length:Int) then ((z161.f k (x0.drop ((x8.length:Int):Int).toNat) x17).bind fun t107=>(if t107<0 then (z87.l0 k x0 x1 x2 x8 0 x16 (wrap64 (x17+1))) else (if t107 > 0 then (if 0≤(wrap64 ((x8.length:Int)+t107)) then (if (wrap64 ((x8.length:Int)+t107))<(x0.length:Int) then (if (x8.length:Int)<(x0.length:Int) then ((z89.f (wrap64 (-x9)) x2).bind fun t112=>(z87.j1 k ((x0.set ((x8.length:Int):Int).toNat (rI_ x0 (wrap64 ((x8.length:Int)+t107)))).set ((wrap64 ((x8.length:Int)+t107)):Int).toNat (rI_ x0 (x8.length:Int))) x1 x2 x8 t112 (x8.length:Int) x16 x17 x17)) else (none)) else (none)) else (none)) else (z87.j1 k x0 x1 x2 x8 x9 (x8.length:Int) x16 x17 x17)))) else (none)) else (none)) else (some (x8,x9,x0))
def z87.j1:Nat→List (List Int)→Int→Int→List Int→Int→Int→Int→Int→Int→Option (List Int × Int × (List (List Int)))
 | 0,_,_,_,_,_,_,_,_,_=>none
 | k+1,x0,x1,x2,x8,x9,x11,x16,x17,x102000=>if 0≤x11 then (if x11<(x0.length:Int) then (if 0≤x102000 then (if x102000<((rI_ x0 x11).length:Int) then (if x2=0 then (none) else (if 0≤x1 then (if (x1:Int).toNat≤35184372088832 then ((z118.f k (rd (rI_ x0 x11) x102000) x2).bind fun t119=>((z55.f k (List.replicate (x1:Int).toNat 0) (rI_ x0 x11) t119 x2).bind fun t120=>(z87.l1 k (x0.set (x11:Int).toNat t120) x1 x2 x8 (Int.tmod (wrap64 (x9 * (rd (rI_ x0 x11) x102000))) x2) x11 x16 x17 (x0.length:Int) 0 x102000))) else (none)) else (none))) else (none)) else (none)) else (none)) else (none)
def z87.l1:Nat→List (List Int)→Int→Int→List Int→Int→Int→Int→Int→Int→Int→Int→Option (List Int × Int × (List (List Int)))
 | 0,_,_,_,_,_,_,_,_,_,_,_=>none
 | k+1,x0,x1,x2,x8,x9,x11,x16,x17,x80,x81,x102000=>if x81<x80 then (if 0≤x81 then (if x81<(x0.length:Int) then (if x81=x11 then (z87.l1 k x0 x1 x2 x8 x9 x11 x16 x17 x80 (wrap64 (x81+1)) x102000) else (if 0≤x102000 then (if x102000<((rI_ x0 x81).length:Int) then (if (rd (rI_ x0 x81) x102000)=0 then (z87.l1 k x0 x1 x2 x8 x9 x11 x16 x17 x80 (wrap64 (x81+1)) x102000) else (if 0≤x11 then (if x11<(x0.length:Int) then ((z55.f k (rI_ x0 x81) (rI_ x0 x11) (wrap64 (x2 - (rd (rI_ x0 x81) x102000))) x2).bind fun t128=>(z87.l1 k (x0.set (x81:Int).toNat t128) x1 x2 x8 x9 x11 x16 x17 x80 (wrap64 (x81+1)) x102000)) else (none)) else (none))) else (none)) else (none))) else (none)) else (none)) else (if x8.length<17592186044416 then (z87.l0 k x0 x1 x2 (x8 ++ [x102000]) x9 x16 (wrap64 (x17+1))) else (none))
end
def z87.f (k:Nat) (l0:List (List Int)) (a1:Int) (a2:Int):Option (List Int × Int × (List (List Int))):=z87.l0 k l0 a1 a2 ([]:List Int) 1 a1 0
def z87.T11:Bool × List (List Nat × List Nat):=(true,[([],[]),([],[]),([],[]),([],[]),([],[]),([3,4],[3,4]),([],[]),([],[]),([],[]),([7,8],[7,8]),([6,9],[6,9]),([10],[10]),([],[]),([],[]),([12,13],[12,13]),([14],[14]),([0,1,0,1,6,7,8,9,10,11,15],[0,1]),([16,11,0,1,6,7,8,9,10,11,15],[11,16]),([2,5,0,1,2,3,4,5,6,7,8,9,10,11,12,13,14,15,16,17],[2,5]),([18,15,17,0,1,2,3,4,5,6,7,8,9,10,11,12,13,14,15,16,17],[15,18])])
def z87.B11:List Nat:=[0,0,0,0,0,24,0,0,0,384,960,1984,0,0,12288,28672,65475,131011,262143,524287]
theorem z87.tab11:rtab .any (qD3 Tryz.f87 11)=z87.T11:=by kernel_rfl
theorem z87.bits11:qBj z87.T11.2 z87.B11=true:=by kernel_rfl
def z87.T13:Bool × List (List Nat × List Nat):=(true,[([],[]),([],[]),([0,1],[0,1]),([2],[2]),([],[]),([3,4],[3,4]),([5],[5]),([6,0,1,2,3,4,5,6],[6])])
def z87.B13:List Nat:=[0,0,3,7,0,31,63,127]
theorem z87.tab13:rtab .any (qD3 Tryz.f87 13)=z87.T13:=by kernel_rfl
theorem z87.bits13:qBj z87.T13.2 z87.B13=true:=by kernel_rfl
def z87.T15:Bool × List (List Nat × List Nat):=(true,[([],[]),([],[]),([],[]),([2,2],[2]),([],[]),([],[]),([4,5],[4,5]),([6],[6]),([],[]),([],[]),([8,9],[8,9]),([],[]),([3,7,10,11,10],[3,7,10,11]),([0,1,0,1,2,3,4,5,6,7,8,9,10,11,12],[0,1]),([13,12,12,0,1,2,3,4,5,6,7,8,9,10,11,12],[12,13])])
def z87.B15:List Nat:=[0,0,0,4,0,0,48,112,0,0,768,0,4092,8191,16383]
theorem z87.tab15:rtab .any (qD3 Tryz.f87 15)=z87.T15:=by kernel_rfl
theorem z87.bits15:qBj z87.T15.2 z87.B15=true:=by kernel_rfl
def z87.T20:Bool × List (List Nat × List Nat):=(true,[([],[]),([],[]),([],[]),([],[]),([],[]),([3,4],[3,4]),([5],[5]),([],[]),([],[]),([],[]),([8,9],[8,9]),([10],[10]),([7,11],[7,11]),([],[]),([2,6,12,13],[2,6,12,13]),([0,1,0,1,2,3,4,5,6,7,8,9,10,11,12,13,14],[0,1]),([15,14,14,0,1,2,3,4,5,6,7,8,9,10,11,12,13,14],[14,15])])
def z87.B20:List Nat:=[0,0,0,0,0,24,56,0,0,0,768,1792,3968,0,16380,32767,65535]
theorem z87.tab20:rtab .any (qD3 Tryz.f87 20)=z87.T20:=by kernel_rfl
theorem z87.bits20:qBj z87.T20.2 z87.B20=true:=by kernel_rfl
set_option maxHeartbeats 8000000 in
set_option maxRecDepth 100000 in
theorem z87.calls (k:Nat) (P0_:Nat→Prop) (u9000_:Value) (l0:List (List Int)) (a1:Int) (a2:Int) (r1:List Int) (r2:Int) (r3:List (List Int)) (w0 w:World) (hB:Below w0.heap.size w0 w) (ho0:Kd.N (Kd.slice 2 (Kd.int .i64)) 30 w w0.heap.size P0_ u9000_ l0) (h:z87.f k l0 a1 a2=some (r1,r2,r3)) :
  Calls Tryz.prog 87 #[u9000_,.int .i64 a1,.int .i64 a2] w fun e w'=>∃ v0_:Value,e=.returned (.tuple #[v0_,.int .i64 r2])∧Kd.R (Kd.int .i64) 2 w' w0.heap.size (fun k_=>(P0_ k_∨w.heap.size≤k_)) v0_ r1∧Kd.N (Kd.slice 2 (Kd.int .i64)) 30 w' w0.heap.size (fun k_=>(P0_ k_∨w.heap.size≤k_)) u9000_ r3∧Below w0.heap.size w0 w'∧Kept w w' (fun k_=>P0_ k_):=by
 have HO0:=Zz.mk (show Kd.N (Kd.slice 2 (Kd.int .i64)) 30 w w0.heap.size (fun k_=>(P0_ k_∨w.heap.size≤k_)) u9000_ l0 from Kd.N_mono ho0 (fun k_ hk=>(.inl hk)))
 have HK:=Zz.mk (Kept.refl w (fun k_=>P0_ k_))
 have HW0:=Zz.mk hB.size
 have HB:=Zz.mk hB
 clear hB
 have H:(z87.l0 k l0 a1 a2 ([]:List Int) 1 a1 0)=some (r1,r2,r3):=h
 clear h
 have H':=Zz.mk H
 clear H
 go_enter Tryz.func87,Tryz.ntmps87
 go_wp2
 go_loopg [8,9,17] k (fun kq v8 v9 v17 w'=>∃ (x0_1:List (List Int)) (x8_1:List Int) (x9_1:Int) (x17_1:Int),v9=.int .i64 x9_1∧v17=.int .i64 x17_1∧Zz (z87.l0 kq x0_1 a1 a2 x8_1 x9_1 a1 x17_1=some (r1,r2,r3))∧Zz (kq≤k)∧Zz (Kd.N (Kd.slice 2 (Kd.int .i64)) 30 w' w0.heap.size (fun k_=>(P0_ k_∨w.heap.size≤k_)∧some k_≠(v8:Value).ownBlock) u9000_ x0_1)∧Zz (Kd.R (Kd.int .i64) 2 w' w0.heap.size (fun k_=>(P0_ k_∨w.heap.size≤k_)) v8 x8_1)∧Zz (Kept w w' (fun k_=>P0_ k_))∧Zz (Below w0.heap.size w0 w'))
 case atStart=>exact ⟨(l0),(([]:List Int)),(1),(0),E_,E_,H',⟨Nat.le_refl _⟩,⟨by refine NW_ ?_;exact Kd.N_mono HO0.out (fun _ hk=>⟨hk,(by simp [Value.ownBlock])⟩)⟩,⟨by first | exact Kd.R_nil _ _ _ _ _ | exact Kd.N_nil _ _ _ _ _ | exact Kd.V_nil _ _ _ _ _ | exact Kd.Q_nil _ _ _ _ _ | exact Kd.S_nil _ _ _ _ _⟩,⟨rW8_ HK.out⟩,⟨B_ HB.out⟩⟩
 case round=>as_aux_lemma =>
  clear H'
  obtain ⟨x0_1,x8_1,x9_1,x17_1,rfl,rfl,HA,HK1,HO_0,HO_8,HK,HB⟩:=hrel
  cases gk with
  | zero=>exact absurd HA.out (by simp [z87.l0])
  | succ k1 =>
   have H:=HA.out
   clear HA
   simp only [z87.l0] at H
   by_cases c4:x17_1<a1
   ·rw [if_pos c4] at H
    have c4b0:decide (x17_1<a1)=true:=decide_eq_true c4
    clear c4
    have c5:=O1_ H
    replace H:=O2_ H
    have c5b0:=eq_true c5
    have c5b1:decide (0≤(x8_1.length:Int))=true:=decide_eq_true c5
    clear c5
    have c6:=O1_ H
    replace H:=O2_ H
    have c6b0:=eq_true c6
    have c6b1:decide ((x8_1.length:Int)≤(x0_1.length:Int))=true:=decide_eq_true c6
    clear c6
    obtain ⟨y102,hy102⟩:∃ y_:List (List Int),y_=(x0_1.drop ((x8_1.length:Int):Int).toNat):=⟨_,rfl⟩
    replace H:((z161.f k1 y102 x17_1).bind fun t107=>(if t107<0 then (z87.l0 k1 x0_1 a1 a2 x8_1 0 a1 (wrap64 (x17_1+1))) else (if t107 > 0 then (if 0≤(wrap64 ((x8_1.length:Int)+t107)) then (if (wrap64 ((x8_1.length:Int)+t107))<(x0_1.length:Int) then (if (x8_1.length:Int)<(x0_1.length:Int) then ((z89.f (wrap64 (-x9_1)) a2).bind fun t112=>(z87.j1 k1 ((x0_1.set ((x8_1.length:Int):Int).toNat (rI_ x0_1 (wrap64 ((x8_1.length:Int)+t107)))).set ((wrap64 ((x8_1.length:Int)+t107)):Int).toNat (rI_ x0_1 (x8_1.length:Int))) a1 a2 x8_1 t112 (x8_1.length:Int) a1 x17_1 x17_1)) else (none)) else (none)) else (none)) else (z87.j1 k1 x0_1 a1 a2 x8_1 x9_1 (x8_1.length:Int) a1 x17_1 x17_1))))=some (r1,r2,r3):=Y_ hy102 H
    have Ny102:=Zz.mk hy102
    clear hy102
    replace H:=OB_ H
    obtain ⟨t107,A70,H⟩:=H
    replace H:(if t107<0 then (z87.l0 k1 x0_1 a1 a2 x8_1 0 a1 (wrap64 (x17_1+1))) else (if t107 > 0 then (if 0≤(wrap64 ((x8_1.length:Int)+t107)) then (if (wrap64 ((x8_1.length:Int)+t107))<(x0_1.length:Int) then (if (x8_1.length:Int)<(x0_1.length:Int) then ((z89.f (wrap64 (-x9_1)) a2).bind fun t112=>(z87.j1 k1 ((x0_1.set ((x8_1.length:Int):Int).toNat (rI_ x0_1 (wrap64 ((x8_1.length:Int)+t107)))).set ((wrap64 ((x8_1.length:Int)+t107)):Int).toNat (rI_ x0_1 (x8_1.length:Int))) a1 a2 x8_1 t112 (x8_1.length:Int) a1 x17_1 x17_1)) else (none)) else (none)) else (none)) else (z87.j1 k1 x0_1 a1 a2 x8_1 x9_1 (x8_1.length:Int) a1 x17_1 x17_1)))=some (r1,r2,r3):=H
    have A7:=Zz.mk A70
    clear A70
    by_cases c8:t107<0
    ·rw [if_pos c8] at H
     have c8b0:decide (t107<0)=true:=decide_eq_true c8
     clear c8
     have H':=Zz.mk H
     clear H
     go_wp2_with (first | ((with_reducible refine qAm (N:=10) rfl ?_);refine bx_ 10 #[.int .i64 0] 2 ?_;intro gb101 hg w9 hbox hb;have BK101:=Zz.mk (hbox);have GW101:=Zz.mk ((by rw [hg];exact (by first | exact HK.out.1 | exact (show Kept w _ (fun k_=>P0_ k_) from by exact rW8_ HK.out).1):w.heap.size≤gb101));have GE101:=Zz.mk ((gw_ hg (B_ HB.out)));replace HO_0:=Zz.mk (Kd.N_below (Kd.N_elderB (KN_ HO_0.out) gb101 (Nat.le_of_eq hg.symm)) hb);replace HO_8:=Zz.mk (Kd.R_below (Kd.R_elderB (KR_ HO_8.out) gb101 (Nat.le_of_eq hg.symm)) hb);replace HK:=Zz.mk (Kept.below (S:=(fun k_=>P0_ k_)) (rW8_ HK.out) hb);replace HB:=Zz.mk (bT_ (B_ HB.out) hb);clear hb hbox hg;obtain ⟨hcz10_0,hfz10_0⟩:=Z1f_ BK101.out) | ((with_reducible refine qB6 (t:=2) (p:=10) rfl ?_);refine qBw (t:=2) (p:=10) (v:=?vo_w11) (w1:=(w9.setCell ⟨gb101,0,none⟩ (.int .i64 x17_1))) ?hg ?ho ?hn ?hr ?_;(case ho=>rfl);(case hg=>rfl);(case hn=>rfl);(case hr=>first | (go_simp;done) | (go_simp;rfl));intro w11 hw;replace HO_0:Zz (Kd.N (Kd.slice 2 (Kd.int .i64)) 30 w11 w0.heap.size (fun k_=>(P0_ k_∨w.heap.size≤k_)∧some k_≠(u8:Value).ownBlock∧k_≠gb101) u9000_ x0_1):=⟨(by rw [hw];exact (by refine NW_ ?_;exact Kd.N_mono (Kd.N_far (p:=⟨gb101,0,none⟩) (Kd.N_mono HO_0.out (fun k_ hk=>(⟨hk,hk.2⟩:_∧k_≠gb101))) (fun _ hk=>hk.2) (.int .i64 x17_1)) (fun _ hk=>⟨hk.1.1.1,⟨hk.1.1.2,hk.1.2⟩⟩)))⟩;replace HO_8:Zz (Kd.R (Kd.int .i64) 2 w11 w0.heap.size (fun k_=>(P0_ k_∨w.heap.size≤k_)∧k_≠gb101) u8 x8_1):=⟨(by rw [hw];exact (by refine RW_ ?_;exact Kd.R_mono (Kd.R_far (p:=⟨gb101,0,none⟩) (Kd.R_mono HO_8.out (fun k_ hk=>(⟨hk,hk.2⟩:_∧k_≠gb101))) (fun _ hk=>hk.2) (.int .i64 x17_1)) (fun _ hk=>⟨hk.1.1,hk.1.2⟩)))⟩;replace BK101:Zz (w11.heap[gb101]?=some (.cells #[.int .i64 x17_1] 2 (0,0))):=⟨(by rw [hw];exact (by refine BW_ ?_;refine bP_ (cs:=#[.int .i64 0]) ?_ 0 _ rfl;refine BW_ ?_;exact BK101.out))⟩;replace HK:Zz (Kept w w11 (fun k_=>P0_ k_)):=⟨(by rw [hw];exact (rW6_ HK.out GW101.out))⟩;replace HB:Zz (Below w0.heap.size w0 w11):=⟨(by rw [hw];exact (B1_ HB.out GE101.out))⟩;(try clear hw);obtain ⟨Ao12,co12,eo12⟩:=Kd.R_slice HO_8.out;subst eo12;obtain ⟨Ao14,co14,eo14⟩:=Kd.N_slice HO_0.out;subst eo14;have q13:((x8_1.length:Int):Int)≤((x0_1.length:Int):Int):=D_;obtain ⟨i013,hi013,_,hsz13,_⟩:=info_parts qBx;have hroom13:x0_1.length≤co14:=(Kd.N_reads' HO_0.out).2.1;have hC13:Kd.F (Kd.slice 2 (Kd.int .i64)) _ _ Ao14 x0_1.length x0_1:=(Kd.V_at (base:=w0.heap.size) (Kd.N_V HO_0.out)).2.2;have q013:(0:Int)≤((x8_1.length:Int):Int):=D_;have hcut13:=qDc (P:=Tryz.prog) 24 30 .i64 Tryz.underlying24 hi013 1 hsz13 Ao14 x0_1.length co14 (x8_1.length:Int) q013 q13;have hr13:=Kd.F_cut (m:=((x8_1.length:Int):Int).toNat) (c:=co14) hC13 (by omega) hroom13;obtain ⟨A13,hA13⟩:∃ A1,A1=(if co14=((x8_1.length:Int):Int).toNat then Ao14 else (Ao14:Option Addr).map (·.add (((x8_1.length:Int):Int).toNat * 1))):=⟨_,rfl⟩;obtain ⟨c13,hc13⟩:∃ c1,c1=co14 - ((x8_1.length:Int):Int).toNat:=⟨_,rfl⟩;have hy13:y102.length=x0_1.length - ((x8_1.length:Int):Int).toNat:=(by rw [Ny102.out,List.length_drop] <;> omega);rw [show (x0_1).drop ((x8_1.length:Int):Int).toNat=y102 from Ny102.out.symm] at hr13;replace hr13:Kd.F (Kd.slice 2 (Kd.int .i64)) _ _ A13 y102.length y102:=(by rw [hA13];exact hr13);rw [← hy13,← hA13,← hc13] at hcut13;have HO106:=Zz.mk (show Kd.V (Kd.slice 2 (Kd.int .i64)) 30 _ w0.heap.size _ (.slice A13 y102.length c13) y102 from Kd.V_mk (by rw [hy13,hc13];exact Nat.sub_le_sub_right hroom13 _) hr13);have HC106:=Zz.mk (show y102.length≤c13 from by rw [hy13,hc13];exact Nat.sub_le_sub_right hroom13 _);clear hr13 hC13 hroom13 hi013 hsz13 hc13;have KY13:=Zz.mk hy13;have KA13:=Zz.mk hA13;clear hy13 hA13;replace q13:=eq_true q13) | ((with_reducible refine gC_ (f:=114) rfl ?_);refine GL_ (some 26) rfl rfl Tryz.func114 #[.slice A13 y102.length c13,.func (.func 117) #[] #[.pointer (some ⟨gb101,0,none⟩)]] rfl (h:=?_);(with_reducible refine (z161.calls k1 _ _ y102 gb101 x17_1 t107 _ ?side1 ?side2 ?side3 A7.out).mono ?_);(case side1=>refine BW_ ?_;exact BK101.out);(case side2=>exact KC_ (Kd.V_reads' HO106.out).2.2);(case side3=>exact (Kd.V_reads' HO106.out).2.1);rintro e w15 ⟨rfl,hb⟩;refine ⟨_,rfl,?_⟩;replace HO_0:=Zz.mk (Kd.N_below (KN_ HO_0.out) hb);replace HO_8:=Zz.mk (Kd.R_below (KR_ HO_8.out) hb);replace HO106:=Zz.mk (Kd.V_below (by refine VW_ ?_;exact HO106.out) hb);replace BK101:=Zz.mk (kb_ BK101.out hb);replace HK:=Zz.mk (Kept.below (S:=(fun k_=>P0_ k_)) (rW6_ HK.out GW101.out) hb);replace HB:=Zz.mk (bT_ (B1_ HB.out GE101.out) hb);(try clear hb)))
     go_roundg k1
     case measure=>exact Q1_ HK1
     case rel=>exact ⟨(x0_1),(x8_1),(0),(wrap64 (x17_1+1)),E_,E_,H',⟨Q1_ HK1⟩,⟨by refine NW_ ?_;exact Kd.N_mono HO_0.out (fun _ hk=>⟨hk.1,hk.2.1⟩)⟩,⟨by refine RW_ ?_;exact Kd.R_mono HO_8.out (fun _ hk=>hk.1)⟩,⟨rW6_ HK.out GW101.out⟩,⟨B1_ HB.out GE101.out⟩⟩
    rw [if_neg c8] at H
    have c8b0:decide (t107<0)=false:=decide_eq_false c8
    clear c8
    have HC16:=Zz.mk H
    clear H
    go_upto_if 30 with (first | ((with_reducible refine qAm (N:=10) rfl ?_);refine bx_ 10 #[.int .i64 0] 2 ?_;intro gb101 hg w17 hbox hb;have BK101:=Zz.mk (hbox);have GW101:=Zz.mk ((by rw [hg];exact (by first | exact HK.out.1 | exact (show Kept w _ (fun k_=>P0_ k_) from by exact rW8_ HK.out).1):w.heap.size≤gb101));have GE101:=Zz.mk ((gw_ hg (B_ HB.out)));replace HO_0:=Zz.mk (Kd.N_below (Kd.N_elderB (KN_ HO_0.out) gb101 (Nat.le_of_eq hg.symm)) hb);replace HO_8:=Zz.mk (Kd.R_below (Kd.R_elderB (KR_ HO_8.out) gb101 (Nat.le_of_eq hg.symm)) hb);replace HK:=Zz.mk (Kept.below (S:=(fun k_=>P0_ k_)) (rW8_ HK.out) hb);replace HB:=Zz.mk (bT_ (B_ HB.out) hb);clear hb hbox hg;obtain ⟨hcz18_0,hfz18_0⟩:=Z1f_ BK101.out) | ((with_reducible refine qB6 (t:=2) (p:=10) rfl ?_);refine qBw (t:=2) (p:=10) (v:=?vo_w19) (w1:=(w17.setCell ⟨gb101,0,none⟩ (.int .i64 x17_1))) ?hg ?ho ?hn ?hr ?_;(case ho=>rfl);(case hg=>rfl);(case hn=>rfl);(case hr=>first | (go_simp;done) | (go_simp;rfl));intro w19 hw;replace HO_0:Zz (Kd.N (Kd.slice 2 (Kd.int .i64)) 30 w19 w0.heap.size (fun k_=>(P0_ k_∨w.heap.size≤k_)∧some k_≠(u8:Value).ownBlock∧k_≠gb101) u9000_ x0_1):=⟨(by rw [hw];exact (by refine NW_ ?_;exact Kd.N_mono (Kd.N_far (p:=⟨gb101,0,none⟩) (Kd.N_mono HO_0.out (fun k_ hk=>(⟨hk,hk.2⟩:_∧k_≠gb101))) (fun _ hk=>hk.2) (.int .i64 x17_1)) (fun _ hk=>⟨hk.1.1.1,⟨hk.1.1.2,hk.1.2⟩⟩)))⟩;replace HO_8:Zz (Kd.R (Kd.int .i64) 2 w19 w0.heap.size (fun k_=>(P0_ k_∨w.heap.size≤k_)∧k_≠gb101) u8 x8_1):=⟨(by rw [hw];exact (by refine RW_ ?_;exact Kd.R_mono (Kd.R_far (p:=⟨gb101,0,none⟩) (Kd.R_mono HO_8.out (fun k_ hk=>(⟨hk,hk.2⟩:_∧k_≠gb101))) (fun _ hk=>hk.2) (.int .i64 x17_1)) (fun _ hk=>⟨hk.1.1,hk.1.2⟩)))⟩;replace BK101:Zz (w19.heap[gb101]?=some (.cells #[.int .i64 x17_1] 2 (0,0))):=⟨(by rw [hw];exact (by refine BW_ ?_;refine bP_ (cs:=#[.int .i64 0]) ?_ 0 _ rfl;refine BW_ ?_;exact BK101.out))⟩;replace HK:Zz (Kept w w19 (fun k_=>P0_ k_)):=⟨(by rw [hw];exact (rW6_ HK.out GW101.out))⟩;replace HB:Zz (Below w0.heap.size w0 w19):=⟨(by rw [hw];exact (B1_ HB.out GE101.out))⟩;(try clear hw);obtain ⟨Ao20,co20,eo20⟩:=Kd.R_slice HO_8.out;subst eo20;obtain ⟨Ao22,co22,eo22⟩:=Kd.N_slice HO_0.out;subst eo22;have q21:((x8_1.length:Int):Int)≤((x0_1.length:Int):Int):=D_;obtain ⟨i021,hi021,_,hsz21,_⟩:=info_parts qBx;have hroom21:x0_1.length≤co22:=(Kd.N_reads' HO_0.out).2.1;have hC21:Kd.F (Kd.slice 2 (Kd.int .i64)) _ _ Ao22 x0_1.length x0_1:=(Kd.V_at (base:=w0.heap.size) (Kd.N_V HO_0.out)).2.2;have q021:(0:Int)≤((x8_1.length:Int):Int):=D_;have hcut21:=qDc (P:=Tryz.prog) 24 30 .i64 Tryz.underlying24 hi021 1 hsz21 Ao22 x0_1.length co22 (x8_1.length:Int) q021 q21;have hr21:=Kd.F_cut (m:=((x8_1.length:Int):Int).toNat) (c:=co22) hC21 (by omega) hroom21;obtain ⟨A21,hA21⟩:∃ A1,A1=(if co22=((x8_1.length:Int):Int).toNat then Ao22 else (Ao22:Option Addr).map (·.add (((x8_1.length:Int):Int).toNat * 1))):=⟨_,rfl⟩;obtain ⟨c21,hc21⟩:∃ c1,c1=co22 - ((x8_1.length:Int):Int).toNat:=⟨_,rfl⟩;have hy21:y102.length=x0_1.length - ((x8_1.length:Int):Int).toNat:=(by rw [Ny102.out,List.length_drop] <;> omega);rw [show (x0_1).drop ((x8_1.length:Int):Int).toNat=y102 from Ny102.out.symm] at hr21;replace hr21:Kd.F (Kd.slice 2 (Kd.int .i64)) _ _ A21 y102.length y102:=(by rw [hA21];exact hr21);rw [← hy21,← hA21,← hc21] at hcut21;have HO106:=Zz.mk (show Kd.V (Kd.slice 2 (Kd.int .i64)) 30 _ w0.heap.size _ (.slice A21 y102.length c21) y102 from Kd.V_mk (by rw [hy21,hc21];exact Nat.sub_le_sub_right hroom21 _) hr21);have HC106:=Zz.mk (show y102.length≤c21 from by rw [hy21,hc21];exact Nat.sub_le_sub_right hroom21 _);clear hr21 hC21 hroom21 hi021 hsz21 hc21;have KY21:=Zz.mk hy21;have KA21:=Zz.mk hA21;clear hy21 hA21;replace q21:=eq_true q21) | ((with_reducible refine gC_ (f:=114) rfl ?_);refine GL_ (some 26) rfl rfl Tryz.func114 #[.slice A21 y102.length c21,.func (.func 117) #[] #[.pointer (some ⟨gb101,0,none⟩)]] rfl (h:=?_);(with_reducible refine (z161.calls k1 _ _ y102 gb101 x17_1 t107 _ ?side1 ?side2 ?side3 A7.out).mono ?_);(case side1=>refine BW_ ?_;exact BK101.out);(case side2=>exact KC_ (Kd.V_reads' HO106.out).2.2);(case side3=>exact (Kd.V_reads' HO106.out).2.1);rintro e w23 ⟨rfl,hb⟩;refine ⟨_,rfl,?_⟩;replace HO_0:=Zz.mk (Kd.N_below (KN_ HO_0.out) hb);replace HO_8:=Zz.mk (Kd.R_below (KR_ HO_8.out) hb);replace HO106:=Zz.mk (Kd.V_below (by refine VW_ ?_;exact HO106.out) hb);replace BK101:=Zz.mk (kb_ BK101.out hb);replace HK:=Zz.mk (Kept.below (S:=(fun k_=>P0_ k_)) (rW6_ HK.out GW101.out) hb);replace HB:=Zz.mk (bT_ (B1_ HB.out GE101.out) hb);(try clear hb)))
    (try simp only [Act.put,List.setIfInBounds_toArray,List.set_cons_zero,List.set_cons_succ])
    go_cut [9] (fun v9 wc=>∃ (kq:Nat) (x0_15:List (List Int)) (x9_15:Int),v9=.int .i64 x9_15∧Zz (z87.j1 kq x0_15 a1 a2 x8_1 x9_15 (x8_1.length:Int) a1 x17_1 x17_1=some (r1,r2,r3))∧Zz (kq≤k1)∧Zz (Kd.N (Kd.slice 2 (Kd.int .i64)) 30 wc w0.heap.size (fun k_=>(P0_ k_∨w.heap.size≤k_)∧some k_≠((.slice Ao20 x8_1.length co20):Value).ownBlock∧k_≠gb101) (.slice Ao22 x0_1.length co22) x0_15)∧Zz (Kd.R (Kd.int .i64) 2 wc w0.heap.size (fun k_=>(P0_ k_∨w.heap.size≤k_)∧k_≠gb101) (.slice Ao20 x8_1.length co20) x8_1)∧Zz (wc.heap[gb101]?=some (.cells #[.int .i64 x17_1] 2 (0,0)))∧Zz (Kept w wc (fun k_=>P0_ k_))∧Zz (Below w0.heap.size w0 wc))
    case first=>as_aux_lemma =>
     have H:=HC16.out
     clear HC16
     by_cases c24:t107 > 0
     ·rw [if_pos c24] at H
      have c24b0:decide (0<t107)=true:=decide_eq_true c24
      clear c24
      (first | rw [c24b0] | (simp only [qBl,qCi];rw [c24b0]) | skip)
      obtain ⟨ji25,hji25⟩:∃ j_:Int,(wrap64 ((x8_1.length:Int)+t107))=j_:=⟨_,rfl⟩
      replace H:(if 0≤(ji25) then (if (ji25)<(x0_1.length:Int) then (if (x8_1.length:Int)<(x0_1.length:Int) then ((z89.f (wrap64 (-x9_1)) a2).bind fun t112=>(z87.j1 k1 ((x0_1.set ((x8_1.length:Int):Int).toNat (rI_ x0_1 (ji25))).set ((ji25):Int).toNat (rI_ x0_1 (x8_1.length:Int))) a1 a2 x8_1 t112 (x8_1.length:Int) a1 x17_1 x17_1)) else (none)) else (none)) else (none))=some (r1,r2,r3):=by first | (rw [hji25] at H;exact H) | (simp only [hji25] at H ⊢;exact H)
      have hji25w:(IntKind.i64.wrap ((x8_1.length:Int)+t107))=ji25:=(qBl _).trans hji25
      have c26b0:=O3_ H
      replace H:=O2_ H
      have c27b0:=O3_ H
      replace H:=O2_ H
      have c28:=O1_ H
      replace H:=O2_ H
      have c28b0:=decide_eq_true c28
      have c28b1:decide (x8_1.length<x0_1.length)=true:=decide_eq_true (Int.ofNat_lt.mp c28)
      clear c28
      obtain ⟨y110,hy110⟩:∃ y_:List (List Int),y_=(x0_1.set ((x8_1.length:Int):Int).toNat (rI_ x0_1 (ji25))):=⟨_,rfl⟩
      replace H:((z89.f (wrap64 (-x9_1)) a2).bind fun t112=>(z87.j1 k1 (y110.set ((ji25):Int).toNat (rI_ x0_1 (x8_1.length:Int))) a1 a2 x8_1 t112 (x8_1.length:Int) a1 x17_1 x17_1))=some (r1,r2,r3):=Y_ hy110 H
      have Ny110:=Zz.mk hy110
      clear hy110
      obtain ⟨y111,hy111⟩:∃ y_:List (List Int),y_=(y110.set ((ji25):Int).toNat (rI_ x0_1 (x8_1.length:Int))):=⟨_,rfl⟩
      replace H:((z89.f (wrap64 (-x9_1)) a2).bind fun t112=>(z87.j1 k1 y111 a1 a2 x8_1 t112 (x8_1.length:Int) a1 x17_1 x17_1))=some (r1,r2,r3):=Y_ hy111 H
      have Ny111:=Zz.mk hy111
      clear hy111
      replace H:=OB_ H
      obtain ⟨t112,A310,H⟩:=H
      replace H:(z87.j1 k1 y111 a1 a2 x8_1 t112 (x8_1.length:Int) a1 x17_1 x17_1)=some (r1,r2,r3):=H
      have A31:=Zz.mk A310
      clear A310
      have H':=Zz.mk H
      clear H
      try go_wp2
      replace HO_0:=Zz.mk (Kd.N_drew HO_0.out)
      replace HO_8:=Zz.mk (Kd.R_drew HO_8.out)
      replace HO106:=Zz.mk (Kd.V_drew HO106.out)
      replace BK101:=Zz.mk (bD_ BK101.out)
      replace HK:=Zz.mk (Kept.drew HK.out)
      replace HB:=Zz.mk (qAe HB.out)
      have p108:0≤((ji25):Int):=D_
      have q108:(ji25)<(x0_1.length:Int):=D_
      obtain ⟨ad108,A108_0,c108_0,e108,hx108_0,hl108_0,hi108_0⟩:=qA2 (Kd.N_reads' HO_0.out).2.2 (ji25) p108 q108
      cases e108
      obtain ⟨ce108,hce108,hMe108,hcc108⟩:=Kd.N_get HO_0.out [] (ji25) p108 (by first | exact q108 | exact D_ | (have e_:=(Kd.N_reads' HO_0.out).1;omega))
      obtain ⟨ua108_0,uc108_0,rfl,ul108_0,ge108_0⟩:=Kd.FK_slice_open hMe108
      have hv108_0:=hcc108 0 _ rfl
      rw [Nat.add_zero,show ((Kd.slice 2 (Kd.int .i64))).sz=1 from rfl,Nat.mul_one] at hv108_0
      replace hv108_0:=Option.some.inj (hv108_0.symm.trans hx108_0)
      injection hv108_0 with hva_ hvn_ hvc_
      rw [hva_] at ge108_0
      rw [hvc_] at ul108_0
      have HL108_0:=Zz.mk (show Kd.V (Kd.int .i64) 2 _ w0.heap.size _ _ (rI_ x0_1 (ji25)) from Kd.V_mk ul108_0 ge108_0)
      clear hva_ hvn_ hvc_ ge108_0 ul108_0
      clear hcc108 hce108
      have HR108_0:=Zz.mk hi108_0
      have HC108_0:=Zz.mk hl108_0
      clear hi108_0 hl108_0
      replace p108:=eq_true p108
      replace q108:=eq_true q108
      have p109:0≤((x8_1.length:Int):Int):=D_
      have q109:(x8_1.length:Int)<(x0_1.length:Int):=D_
      obtain ⟨ad109,A109_0,c109_0,e109,hx109_0,hl109_0,hi109_0⟩:=qA2 (Kd.N_reads' HO_0.out).2.2 (x8_1.length:Int) p109 q109
      obtain rfl:ad108=ad109:=(by injection e109)
      obtain ⟨ce109,hce109,hMe109,hcc109⟩:=Kd.N_get HO_0.out [] (x8_1.length:Int) p109 (by first | exact q109 | exact D_ | (have e_:=(Kd.N_reads' HO_0.out).1;omega))
      obtain ⟨ua109_0,uc109_0,rfl,ul109_0,ge109_0⟩:=Kd.FK_slice_open hMe109
      have hv109_0:=hcc109 0 _ rfl
      rw [Nat.add_zero,show ((Kd.slice 2 (Kd.int .i64))).sz=1 from rfl,Nat.mul_one] at hv109_0
      replace hv109_0:=Option.some.inj (hv109_0.symm.trans hx109_0)
      injection hv109_0 with hva_ hvn_ hvc_
      rw [hva_] at ge109_0
      rw [hvc_] at ul109_0
      have HL109_0:=Zz.mk (show Kd.V (Kd.int .i64) 2 _ w0.heap.size _ _ (rI_ x0_1 (x8_1.length:Int)) from Kd.V_mk ul109_0 ge109_0)
      clear hva_ hvn_ hvc_ ge109_0 ul109_0
      clear hcc109 hce109
      have HR109_0:=Zz.mk hi109_0
      have HC109_0:=Zz.mk hl109_0
      clear hi109_0 hl109_0
      (try simp only [Go.IntWalk.toNatUp] at hx109_0)
      replace p109:=eq_true p109
      replace q109:=eq_true q109
      refine qB8 (n:=20) (S:=fun w'=>w'.cell? (ad108.add ((ji25)).toNat)=some (.slice A108_0 (rI_ x0_1 (ji25)).length c108_0)∧w'.cell? (ad108.add (x8_1.length))=some (.slice A109_0 (rI_ x0_1 (x8_1.length:Int)).length c109_0)) (ds:=[17,19]) (tb_ 20 0) (by kernel_rfl) rfl rfl ⟨hx108_0,hx109_0⟩ (fun hHeld=>?_);refine qBb z87.tab11 z87.bits11 (fun HT_ HW_=>?_)
      generalize w23.drew=w32 at HO_0 HO_8 HO106 BK101 HK HB HL108_0 HL109_0 HR108_0 HR109_0 hx108_0 hx109_0 hHeld ⊢
      refine PX_ 0 31 (tb_ 20 1) HT_ rfl rfl ?_
      refine PX_ 1 32 (tb_ 20 3) HT_ rfl rfl ?_
      refine PX_ 2 33 (tb_ 20 7) HT_ rfl rfl ?_
      refine PX_ 3 34 (tb_ 20 15) HT_ rfl rfl ?_
      refine PX_ 4 35 (tb_ 20 31) HT_ rfl rfl ?_
      refine PX_ 5 36 (tb_ 20 63) HT_ rfl rfl ?_
      refine PX_ 6 37 (tb_ 20 127) HT_ rfl rfl ?_
      refine PX_ 7 38 (tb_ 20 255) HT_ rfl rfl ?_
      refine PX_ 8 39 (tb_ 20 511) HT_ rfl rfl ?_
      refine PX_ 9 40 (tb_ 20 1023) HT_ rfl rfl ?_
      refine PX_ 10 41 (tb_ 20 2047) HT_ rfl rfl ?_
      refine PX_ 12 43 (tb_ 20 6143) HT_ rfl rfl ?_
      refine PX_ 13 44 (tb_ 20 14335) HT_ rfl rfl ?_
      refine PX_ 14 45 (tb_ 20 30719) HT_ rfl rfl ?_
      refine TV_ (i:=11) (N:=some 42) (tb_ 20 32767) HT_ HW_ rfl rfl hHeld (by rintro w' ⟨s0,s1⟩;go_simp;with_reducible rfl) (h:=?_)
      refine TV_ (i:=15) (N:=some 46) (tb_ 20 65535) HT_ HW_ rfl rfl hHeld (by rintro w' ⟨s0,s1⟩;go_simp;with_reducible rfl) (h:=?_)
      have p29:0≤((x8_1.length:Int):Int):=D_
      have q29:((x8_1.length:Int):Int)<((x0_1.length:Int):Int):=D_
      obtain ⟨go29,co29,eo29,gb29,gl29,cl29,HG29⟩:=Kd.N_form HO_0.out (by omega)
      (first | cases eo29 | (injection eo29 with ea_ en_ ec_;(first | subst ea_ | (injection ea_ with ea_;subst ea_));subst ec_;clear en_))
      have GB29:=Zz.mk gb29
      have GG29:=Zz.mk HG29
      clear gb29 gl29 HG29
      have HMgo29:=Zz.mk (show (P0_ go29∨w.heap.size≤go29) from (by have h_:=HO_0.out.1 _ rfl;first | exact h_.1 | exact h_.1.1 | exact h_.1.1.1 | exact h_))
      (first | simp only [qBa] at hx108_0 | skip)
      (first | simp only [qBa] at hx109_0 | skip)
      obtain ⟨ce29,hcl29,hM29,hcc29,hfr29⟩:=Kd.N_elem HO_0.out [] ((x8_1.length:Int):Int) p29 q29
      obtain ⟨ua29_0,uc29_0,rfl,ul29_0,ge29_0⟩:=Kd.FK_slice_open hM29
      have hx29_0:=hcc29 0 _ rfl
      have hf29_0:=hfr29 0
      (try simp only [show ((Kd.slice 2 (Kd.int .i64))).sz=1 from rfl,Nat.mul_one,Nat.add_zero] at hx29_0)
      (try simp only [show ((Kd.slice 2 (Kd.int .i64))).sz=1 from rfl,Nat.mul_one,Nat.add_zero] at hf29_0)
      (try simp only [Go.IntWalk.toNatUp] at hx29_0)
      (try simp only [Go.IntWalk.toNatUp] at hf29_0)
      clear hcl29 hcc29 hfr29;(try clear hM29)
      replace p29:=eq_true p29
      replace q29:=eq_true q29
      have HX33:=Zz.mk (show Kd.N (Kd.slice 2 (Kd.int .i64)) 30 w32 w0.heap.size (fun k_=>(P0_ k_∨w.heap.size≤k_)∧some k_≠(.slice Ao20 x8_1.length co20:Value).ownBlock∧k_≠gb101) (.slice (some ⟨go29,0,none⟩) x0_1.length co22) x0_1 from (KN_ HO_0.out))
      obtain ⟨ce33,hcl33,hM33,hcc33,hfr33⟩:=Kd.N_elem HX33.out [] ((x8_1.length:Int):Int) (D_) (by have h_:((x8_1.length:Int):Int)<((x0_1.length:Int):Int):=D_;first | exact h_ | (have e_:=(Kd.N_reads' HO_0.out).1;omega) | simpa using h_)
      obtain ⟨ua33_0,uc33_0,rfl,ul33_0,ge33_0⟩:=Kd.FK_slice_open hM33
      have HP33:=Kd.N_seg HX33.out ((x8_1.length:Int):Int) (D_) (by have h_:((x8_1.length:Int):Int)<((x0_1.length:Int):Int):=D_;first | exact h_ | (have e_:=(Kd.N_reads' HO_0.out).1;omega) | simpa using h_) (seg:=[.slice A108_0 (rI_ x0_1 (ji25)).length c108_0]) (j:=0) hcl33 hcc33 (show 1≤1 from by decide) (x':=rI_ x0_1 (ji25)) (Kd.FK_slice_mk (Kd.V_reads' (Kd.V_mono (ok':=(fun k_=>((fun k_=>(P0_ k_∨w.heap.size≤k_)∧some k_≠(.slice Ao20 x8_1.length co20:Value).ownBlock∧k_≠gb101)) k_∧k_≠go29)) (HL108_0.out) (fun k_ hk=>⟨⟨hk.1.1,⟨hk.1.2.1,hk.1.2.2⟩⟩,fun e_=>(hk.2) (by rw [e_];rfl)⟩))).2.1 (Kd.V_F (Kd.V_mono (ok':=(fun k_=>((fun k_=>(P0_ k_∨w.heap.size≤k_)∧some k_≠(.slice Ao20 x8_1.length co20:Value).ownBlock∧k_≠gb101)) k_∧k_≠go29)) (HL108_0.out) (fun k_ hk=>⟨⟨hk.1.1,⟨hk.1.2.1,hk.1.2.2⟩⟩,fun e_=>(hk.2) (by rw [e_];rfl)⟩)))) (fun _ hk=>hk)
      have hx33_0:=hcc33 0 _ rfl
      (try simp only [show ((Kd.slice 2 (Kd.int .i64))).sz=1 from rfl,Nat.mul_one,Nat.add_zero] at hx33_0)
      have hf33_0:=hfr33 0
      (try simp only [show ((Kd.slice 2 (Kd.int .i64))).sz=1 from rfl,Nat.mul_one,Nat.add_zero] at hf33_0)
      (try simp only [Go.IntWalk.toNatUp] at hx33_0)
      (try simp only [Go.IntWalk.toNatUp] at hf33_0)
      clear hcl33 hcc33 hfr33;(try clear hM33)
      (try simp only [show ((Kd.slice 2 (Kd.int .i64))).sz=1 from rfl,Nat.mul_one,Nat.add_zero] at HP33)
      (try simp only [show ((Kd.slice 2 (Kd.int .i64))).sz=1 from rfl,Nat.mul_one,Nat.add_zero] at HP33)
      (try simp only [Go.IntWalk.toNatUp] at hf33_0)
      refine PX_ 16 47 (tb_ 20 131071) HT_ rfl rfl ?_
      refine qIa (i:=17) (N:=none) (tb_ 20 262143) rfl rfl (qA7 HT_.out (by kernel_rfl)) (by decide) (fun K hK=>?_)
      refine qG0 (w1:=(w32.setCell ⟨go29,((x8_1.length:Int):Int).toNat,none⟩ (.slice A108_0 (rI_ x0_1 (ji25)).length c108_0))) (by rfl) rfl ?_ ?_
      ·first | (go_simp;done) | (go_simp;rfl)
      refine hK.out _ _ ?_
      clear hK K
      generalize hw_:(w32.setCell ⟨go29,((x8_1.length:Int):Int).toNat,none⟩ (.slice A108_0 (rI_ x0_1 (ji25)).length c108_0))=w34
      have hw:=hw_.symm
      clear hw_
      have hg:w32.grownBy w34 (some go29):=(by rw [hw];exact HP33.2)
      have hp_:Kd.N (Kd.slice 2 (Kd.int .i64)) 30 w34 w0.heap.size (fun k_=>(P0_ k_∨w.heap.size≤k_)∧some k_≠(.slice Ao20 x8_1.length co20:Value).ownBlock∧k_≠gb101) (.slice (some ⟨go29,0,none⟩) x0_1.length co22) y110:=(by rw [hw,Ny110.out];exact HP33.1)
      clear HP33
      replace HO_8:=Zz.mk (Kd.R_over' (v:=(.slice (some ⟨go29,0,none⟩) x0_1.length co22)) (KR_ HO_8.out) (Kd.N_typed HO_0.out) (by decide) hg)
      replace BK101:=Zz.mk (qA9 (g:=gb101) (o:=.cells #[.int .i64 x17_1] 2 (0,0)) (KB_ BK101.out) hg (Kd.N_ne HO_0.out BK101.out (by decide)))
      replace HL108_0:=Zz.mk (Kd.V_afterv (v:=(.slice (some ⟨go29,0,none⟩) x0_1.length co22)) (v1:=(.slice (some ⟨go29,0,none⟩) x0_1.length co22)) (ok:=(fun k_=>(P0_ k_∨w.heap.size≤k_)∧some k_≠(.slice Ao20 x8_1.length co20:Value).ownBlock∧k_≠gb101)) (by refine VW_ ?_;exact HL108_0.out) hg (.inl rfl))
      replace HL109_0:=Zz.mk (Kd.V_afterv (v:=(.slice (some ⟨go29,0,none⟩) x0_1.length co22)) (v1:=(.slice (some ⟨go29,0,none⟩) x0_1.length co22)) (ok:=(fun k_=>(P0_ k_∨w.heap.size≤k_)∧some k_≠(.slice Ao20 x8_1.length co20:Value).ownBlock∧k_≠gb101)) (by refine VW_ ?_;exact HL109_0.out) hg (.inl rfl))
      replace HB:=Zz.mk ((by rw [hw];exact qAd (HB.out) GB29.out:Below w0.heap.size w0 w34))
      replace HK:=Zz.mk (Kept.of_grown (S:=(fun k_=>P0_ k_)) hg (rW6_ HK.out GW101.out) (fun k_ e_=>(HO_0.out.1 k_ e_).1))
      replace HO_0:=Zz.mk (hp_)
      clear hg hw hp_
      have p30:0≤((ji25):Int):=D_
      have q30:((ji25):Int)<((x0_1.length:Int):Int):=D_
      obtain ⟨ce30,hcl30,hM30,hcc30,hfr30⟩:=Kd.N_elem HO_0.out [] ((ji25):Int) p30 q30
      obtain ⟨ua30_0,uc30_0,rfl,ul30_0,ge30_0⟩:=Kd.FK_slice_open hM30
      have hx30_0:=hcc30 0 _ rfl
      have hf30_0:=hfr30 0
      (try simp only [show ((Kd.slice 2 (Kd.int .i64))).sz=1 from rfl,Nat.mul_one,Nat.add_zero] at hx30_0)
      (try simp only [show ((Kd.slice 2 (Kd.int .i64))).sz=1 from rfl,Nat.mul_one,Nat.add_zero] at hf30_0)
      clear hcl30 hcc30 hfr30
      (try clear hM30)
      replace p30:=eq_true p30
      replace q30:=eq_true q30
      have HX35:=Zz.mk (show Kd.N (Kd.slice 2 (Kd.int .i64)) 30 w34 w0.heap.size (fun k_=>(P0_ k_∨w.heap.size≤k_)∧some k_≠(.slice Ao20 x8_1.length co20:Value).ownBlock∧k_≠gb101) (.slice (some ⟨go29,0,none⟩) x0_1.length co22) y110 from (KN_ HO_0.out))
      obtain ⟨ce35,hcl35,hM35,hcc35,hfr35⟩:=Kd.N_elem HX35.out [] ((ji25):Int) (D_) (by have h_:((ji25):Int)<((x0_1.length:Int):Int):=D_;first | exact h_ | (have e_:=(Kd.N_reads' HO_0.out).1;omega) | simpa using h_)
      obtain ⟨ua35_0,uc35_0,rfl,ul35_0,ge35_0⟩:=Kd.FK_slice_open hM35
      have HP35:=Kd.N_seg HX35.out ((ji25):Int) (D_) (by have h_:((ji25):Int)<((x0_1.length:Int):Int):=D_;first | exact h_ | (have e_:=(Kd.N_reads' HO_0.out).1;omega) | simpa using h_) (seg:=[.slice A109_0 (rI_ x0_1 (x8_1.length:Int)).length c109_0]) (j:=0) hcl35 hcc35 (show 1≤1 from by decide) (x':=rI_ x0_1 (x8_1.length:Int)) (Kd.FK_slice_mk (Kd.V_reads' (Kd.V_mono (ok':=(fun k_=>((fun k_=>(P0_ k_∨w.heap.size≤k_)∧some k_≠(.slice Ao20 x8_1.length co20:Value).ownBlock∧k_≠gb101)) k_∧k_≠go29)) (HL109_0.out) (fun k_ hk=>⟨⟨hk.1.1,⟨hk.1.2.1,hk.1.2.2⟩⟩,fun e_=>(hk.2) (by rw [e_];rfl)⟩))).2.1 (Kd.V_F (Kd.V_mono (ok':=(fun k_=>((fun k_=>(P0_ k_∨w.heap.size≤k_)∧some k_≠(.slice Ao20 x8_1.length co20:Value).ownBlock∧k_≠gb101)) k_∧k_≠go29)) (HL109_0.out) (fun k_ hk=>⟨⟨hk.1.1,⟨hk.1.2.1,hk.1.2.2⟩⟩,fun e_=>(hk.2) (by rw [e_];rfl)⟩)))) (fun _ hk=>hk)
      have hx35_0:=hcc35 0 _ rfl
      (try simp only [show ((Kd.slice 2 (Kd.int .i64))).sz=1 from rfl,Nat.mul_one,Nat.add_zero] at hx35_0)
      have hf35_0:=hfr35 0
      (try simp only [show ((Kd.slice 2 (Kd.int .i64))).sz=1 from rfl,Nat.mul_one,Nat.add_zero] at hf35_0)
      clear hcl35 hcc35 hfr35
      (try clear hM35)
      (try simp only [show ((Kd.slice 2 (Kd.int .i64))).sz=1 from rfl,Nat.mul_one,Nat.add_zero] at HP35)
      (try simp only [show ((Kd.slice 2 (Kd.int .i64))).sz=1 from rfl,Nat.mul_one,Nat.add_zero] at HP35)
      (try simp only [Go.IntWalk.toNatUp] at hf35_0)
      refine PX_ 18 48 (tb_ 20 524287) HT_ rfl rfl ?_
      refine qIa (i:=19) (N:=none) (tb_ 20 1048575) rfl rfl (qA7 HT_.out (by kernel_rfl)) (by decide) (fun K hK=>?_)
      refine qG0 (w1:=(w34.setCell ⟨go29,((ji25):Int).toNat,none⟩ (.slice A109_0 (rI_ x0_1 (x8_1.length:Int)).length c109_0))) (by rfl) rfl ?_ ?_
      ·first | (go_simp;done) | (go_simp;rfl)
      refine hK.out _ _ ?_
      clear hK K
      generalize hw_:(w34.setCell ⟨go29,((ji25):Int).toNat,none⟩ (.slice A109_0 (rI_ x0_1 (x8_1.length:Int)).length c109_0))=w36
      have hw:=hw_.symm
      clear hw_
      have hg:w34.grownBy w36 (some go29):=(by rw [hw];exact HP35.2)
      have hp_:Kd.N (Kd.slice 2 (Kd.int .i64)) 30 w36 w0.heap.size (fun k_=>(P0_ k_∨w.heap.size≤k_)∧some k_≠(.slice Ao20 x8_1.length co20:Value).ownBlock∧k_≠gb101) (.slice (some ⟨go29,0,none⟩) x0_1.length co22) y111:=(by rw [hw,Ny111.out];exact HP35.1)
      clear HP35
      replace HO_8:=Zz.mk (Kd.R_over' (v:=(.slice (some ⟨go29,0,none⟩) x0_1.length co22)) (KR_ HO_8.out) (Kd.N_typed HO_0.out) (by decide) hg)
      replace BK101:=Zz.mk (qA9 (g:=gb101) (o:=.cells #[.int .i64 x17_1] 2 (0,0)) (KB_ BK101.out) hg (Kd.N_ne HO_0.out BK101.out (by decide)))
      replace HL108_0:=Zz.mk (Kd.V_afterv (v:=(.slice (some ⟨go29,0,none⟩) x0_1.length co22)) (v1:=(.slice (some ⟨go29,0,none⟩) x0_1.length co22)) (ok:=(fun k_=>(P0_ k_∨w.heap.size≤k_)∧some k_≠(.slice Ao20 x8_1.length co20:Value).ownBlock∧k_≠gb101)) (by refine VW_ ?_;exact HL108_0.out) hg (.inl rfl))
      replace HL109_0:=Zz.mk (Kd.V_afterv (v:=(.slice (some ⟨go29,0,none⟩) x0_1.length co22)) (v1:=(.slice (some ⟨go29,0,none⟩) x0_1.length co22)) (ok:=(fun k_=>(P0_ k_∨w.heap.size≤k_)∧some k_≠(.slice Ao20 x8_1.length co20:Value).ownBlock∧k_≠gb101)) (by refine VW_ ?_;exact HL109_0.out) hg (.inl rfl))
      replace HB:=Zz.mk ((by rw [hw];exact qAd (HB.out) GB29.out:Below w0.heap.size w0 w36))
      replace HK:=Zz.mk (Kept.of_grown (S:=(fun k_=>P0_ k_)) hg (rW6_ HK.out GW101.out) (fun k_ e_=>(HO_0.out.1 k_ e_).1))
      replace HO_0:=Zz.mk (hp_)
      clear hg hw hp_
      refine qDb (qBt HT_.out (by kernel_rfl)) ?_
      try go_wp2_with (first | ((with_reducible refine gC_ (f:=89) rfl ?_);refine GL_ (some 52) rfl rfl Tryz.func89 #[.int .i64 (wrap64 (-x9_1)),.int .i64 a2] rfl (h:=?_);(with_reducible refine (z89.calls (wrap64 (-x9_1)) a2 t112 _ A31.out).mono ?_);rintro e w' ⟨rfl,⟨nd,rfl⟩⟩;refine ⟨_,rfl,?_⟩))
      go_meet
      case rel=>exact ⟨_,(y111),(t112),E_,H',⟨by have:=HK1.out;first | omega | exact Nat.le_refl _⟩,⟨KN_ HO_0.out⟩,⟨KR_ HO_8.out⟩,⟨KB_ BK101.out⟩,⟨rW6_ HK.out GW101.out⟩,⟨B1_ HB.out GE101.out⟩⟩
     rw [if_neg c24] at H
     have c24b0:decide (0<t107)=false:=decide_eq_false c24
     clear c24
     (first | rw [c24b0] | (simp only [qBl,qCi];rw [c24b0]) | skip)
     have H':=Zz.mk H
     clear H
     go_wp2
     go_meet
     case rel=>exact ⟨_,(x0_1),(x9_1),E_,H',⟨by have:=HK1.out;first | omega | exact Nat.le_refl _⟩,⟨KN_ HO_0.out⟩,⟨KR_ HO_8.out⟩,⟨KB_ BK101.out⟩,⟨rW6_ HK.out GW101.out⟩,⟨B1_ HB.out GE101.out⟩⟩
    case rest=>as_aux_lemma =>
     clear HC16
     (try clear c1);(try clear c4);(try clear c4b0);(try clear c5);(try clear c5b0);(try clear c5b1);(try clear c6);(try clear c6b0);(try clear c6b1);(try clear c8);(try clear c8b0);(try clear c21);(try clear q21)
     (try clear hcz18_0);(try clear hfz18_0);(try clear q021);(try clear q21)
     obtain ⟨kq,x0_15,x9_15,rfl,HA,HJ15,HO_0,HO_8,BK101,HK,HB⟩:=hcut
     have hl0_15:=(Kd.N_reads' HO_0.out).1
     rw [hl0_15] at HO_0
     (try simp only [hl0_15])
     (try simp only [hl0_15] at BK101)
     (try simp only [hl0_15] at HO_8)
     cases kq with
     | zero=>exact absurd HA.out (by simp [z87.j1])
     | succ kj15 =>
      have H:=HA.out
      clear HA
      simp only [z87.j1] at H
      have c37:=O1_ H
      replace H:=O2_ H
      have c37b0:=decide_eq_true c37
      have c37b1:decide (0≤x8_1.length)=true:=decide_eq_true (by omega)
      (try rw [hl0_15] at c37b0)
      (try rw [hl0_15] at c37b1)
      clear c37
      have c38:=O1_ H
      replace H:=O2_ H
      have c38b0:=decide_eq_true c38
      have c38b1:decide (x8_1.length<x0_15.length)=true:=decide_eq_true (Int.ofNat_lt.mp c38)
      (try rw [hl0_15] at c38b0)
      (try rw [hl0_15] at c38b1)
      clear c38
      have c39:=O1_ H
      replace H:=O2_ H
      have c39b0:=decide_eq_true c39
      (try rw [hl0_15] at c39b0)
      clear c39
      have c40:=O1_ H
      replace H:=O2_ H
      have c40b0:=decide_eq_true c40
      (try rw [hl0_15] at c40b0)
      clear c40
      by_cases c41:a2=0
      ·rw [if_pos c41] at H
       exact X_ H
      rw [if_neg c41] at H
      have c41b0:(a2 == 0)=false:=beq_eq_false_iff_ne.mpr c41
      have c41b1:(a2 != 0)=true:=bne_iff_ne.mpr c41
      (try rw [hl0_15] at c41b0)
      (try rw [hl0_15] at c41b1)
      have c42:=O1_ H
      replace H:=O2_ H
      have c42b0:=eq_true c42
      have c42b1:decide (0≤a1)=true:=decide_eq_true c42
      clear c42
      have c43:=O1_ H
      replace H:=O2_ H
      have c43b0:=eq_true c43
      have c43b1:decide ((a1:Int).toNat≤35184372088832)=true:=decide_eq_true c43
      clear c43
      obtain ⟨y115,hy115⟩:∃ y_:List Int,y_=(List.replicate (a1:Int).toNat 0):=⟨_,rfl⟩
      replace H:((z118.f kj15 (rd (rI_ x0_15 (x8_1.length:Int)) x17_1) a2).bind fun t119=>((z55.f kj15 y115 (rI_ x0_15 (x8_1.length:Int)) t119 a2).bind fun t120=>(z87.l1 kj15 (x0_15.set ((x8_1.length:Int):Int).toNat t120) a1 a2 x8_1 (Int.tmod (wrap64 (x9_15 * (rd (rI_ x0_15 (x8_1.length:Int)) x17_1))) a2) (x8_1.length:Int) a1 x17_1 (x0_15.length:Int) 0 x17_1)))=some (r1,r2,r3):=Y_ hy115 H
      have Ny115:=Zz.mk hy115
      clear hy115
      replace H:=OB_ H
      obtain ⟨t119,A440,H⟩:=H
      replace H:((z55.f kj15 y115 (rI_ x0_15 (x8_1.length:Int)) t119 a2).bind fun t120=>(z87.l1 kj15 (x0_15.set ((x8_1.length:Int):Int).toNat t120) a1 a2 x8_1 (Int.tmod (wrap64 (x9_15 * (rd (rI_ x0_15 (x8_1.length:Int)) x17_1))) a2) (x8_1.length:Int) a1 x17_1 (x0_15.length:Int) 0 x17_1))=some (r1,r2,r3):=H
      have A44:=Zz.mk A440
      clear A440
      replace H:=OB_ H
      obtain ⟨t120,A450,H⟩:=H
      replace H:(z87.l1 kj15 (x0_15.set ((x8_1.length:Int):Int).toNat t120) a1 a2 x8_1 (Int.tmod (wrap64 (x9_15 * (rd (rI_ x0_15 (x8_1.length:Int)) x17_1))) a2) (x8_1.length:Int) a1 x17_1 (x0_15.length:Int) 0 x17_1)=some (r1,r2,r3):=H
      have A45:=Zz.mk A450
      clear A450
      obtain ⟨y123,hy123⟩:∃ y_:List (List Int),y_=(x0_15.set ((x8_1.length:Int):Int).toNat t120):=⟨_,rfl⟩
      replace H:(z87.l1 kj15 y123 a1 a2 x8_1 (Int.tmod (wrap64 (x9_15 * (rd (rI_ x0_15 (x8_1.length:Int)) x17_1))) a2) (x8_1.length:Int) a1 x17_1 (x0_15.length:Int) 0 x17_1)=some (r1,r2,r3):=Y_ hy123 H
      have Ny123:=Zz.mk hy123
      clear hy123
      have H':=Zz.mk H
      clear H
      try go_wp2
      replace HO_0:=Zz.mk (Kd.N_drew HO_0.out)
      replace HO_8:=Zz.mk (Kd.R_drew HO_8.out)
      replace BK101:=Zz.mk (bD_ BK101.out)
      replace HK:=Zz.mk (Kept.drew HK.out)
      replace HB:=Zz.mk (qAe HB.out)
      have p113:0≤((x8_1.length:Int):Int):=D_
      have q113:(x8_1.length:Int)<(x0_15.length:Int):=D_
      obtain ⟨ad113,A113_0,c113_0,e113,hx113_0,hl113_0,hi113_0⟩:=qA2 (Kd.N_reads' HO_0.out).2.2 (x8_1.length:Int) p113 q113
      cases e113
      obtain ⟨ce113,hce113,hMe113,hcc113⟩:=Kd.N_get HO_0.out [] (x8_1.length:Int) p113 (by first | exact q113 | exact D_ | (have e_:=(Kd.N_reads' HO_0.out).1;omega))
      obtain ⟨ua113_0,uc113_0,rfl,ul113_0,ge113_0⟩:=Kd.FK_slice_open hMe113
      have hv113_0:=hcc113 0 _ rfl
      rw [Nat.add_zero,show ((Kd.slice 2 (Kd.int .i64))).sz=1 from rfl,Nat.mul_one] at hv113_0
      replace hv113_0:=Option.some.inj (hv113_0.symm.trans hx113_0)
      injection hv113_0 with hva_ hvn_ hvc_
      rw [hva_] at ge113_0
      rw [hvc_] at ul113_0
      have HL113_0:=Zz.mk (show Kd.V (Kd.int .i64) 2 _ w0.heap.size _ _ (rI_ x0_15 (x8_1.length:Int)) from Kd.V_mk ul113_0 ge113_0)
      clear hva_ hvn_ hvc_ ge113_0 ul113_0
      clear hcc113 hce113
      have HR113_0:=Zz.mk hi113_0
      have HC113_0:=Zz.mk hl113_0
      clear hi113_0 hl113_0
      (try simp only [Go.IntWalk.toNatUp] at hx113_0)
      (try simp only [hl0_15] at p113)
      (try simp only [hl0_15] at q113)
      (try simp only [hl0_15] at hx113_0)
      replace p113:=eq_true p113
      replace q113:=eq_true q113
      have p114:0≤(x17_1:Int):=D_
      have q114:x17_1<((rI_ x0_15 (x8_1.length:Int)).length:Int):=D_
      obtain ⟨ad114,e114,hx114_0⟩:=Kd.at_int (KC_ HR113_0.out) x17_1 p114 q114
      cases e114
      replace p114:=eq_true p114
      replace q114:=eq_true q114
      refine qB8 (n:=8) (S:=fun w'=>w'.cell? ⟨gb101,0,none⟩=some (.int .i64 x17_1)∧w'.cell? (ad113.add (x8_1.length))=some (.slice (some ad114) (rI_ x0_15 (x8_1.length:Int)).length c113_0)∧w'.cell? (ad114.add (x17_1).toNat)=some (.int .i64 (rd (rI_ x0_15 (x8_1.length:Int)) x17_1))) (ds:=[]) (tb_ 8 0) (by kernel_rfl) rfl rfl ⟨(bC_ BK101.out 0).trans rfl,hx113_0,hx114_0⟩ (fun hHeld=>?_);refine qBb z87.tab13 z87.bits13 (fun HT_ HW_=>?_)
      generalize wc.drew=w47 at HO_0 HO_8 BK101 HK HB HL113_0 HR113_0 hx113_0 hx114_0 hHeld ⊢
      refine PX_ 0 53 (tb_ 8 1) HT_ rfl rfl ?_
      refine PX_ 1 54 (tb_ 8 3) HT_ rfl rfl ?_
      refine PX_ 2 55 (tb_ 8 7) HT_ rfl rfl ?_
      refine TX_ 3 56 (tb_ 8 15) HT_ HW_ rfl rfl hHeld ?_
      refine TX_ 4 57 (tb_ 8 31) HT_ HW_ rfl rfl hHeld ?_
      refine PX_ 5 58 (tb_ 8 63) HT_ rfl rfl ?_
      refine TX_ 6 59 (tb_ 8 127) HT_ HW_ rfl rfl hHeld ?_
      refine PX_ 7 13 (tb_ 8 255) HT_ rfl rfl ?_
      refine qDb (qBt HT_.out (by kernel_rfl)) ?_
      try go_wp2
      replace HO_0:=Zz.mk (Kd.N_drew HO_0.out)
      replace HO_8:=Zz.mk (Kd.R_drew HO_8.out)
      replace HL113_0:=Zz.mk (Kd.V_drew HL113_0.out)
      replace BK101:=Zz.mk (bD_ BK101.out)
      replace HR113_0:=Zz.mk (Kd.C_drew HR113_0.out)
      replace HK:=Zz.mk (Kept.drew HK.out)
      replace HB:=Zz.mk (qAe HB.out)
      have p118:0≤((x8_1.length:Int):Int):=D_
      have q118:(x8_1.length:Int)<(x0_15.length:Int):=D_
      obtain ⟨ad118,A118_0,c118_0,e118,hx118_0,hl118_0,hi118_0⟩:=qA2 (Kd.N_reads' HO_0.out).2.2 (x8_1.length:Int) p118 q118
      obtain rfl:ad113=ad118:=(by injection e118)
      obtain ⟨ce118,hce118,hMe118,hcc118⟩:=Kd.N_get HO_0.out [] (x8_1.length:Int) p118 (by first | exact q118 | exact D_ | (have e_:=(Kd.N_reads' HO_0.out).1;omega))
      obtain ⟨ua118_0,uc118_0,rfl,ul118_0,ge118_0⟩:=Kd.FK_slice_open hMe118
      have hv118_0:=hcc118 0 _ rfl
      rw [Nat.add_zero,show ((Kd.slice 2 (Kd.int .i64))).sz=1 from rfl,Nat.mul_one] at hv118_0
      replace hv118_0:=Option.some.inj (hv118_0.symm.trans hx118_0)
      injection hv118_0 with hva_ hvn_ hvc_
      rw [hva_] at ge118_0
      rw [hvc_] at ul118_0
      have HL118_0:=Zz.mk (show Kd.V (Kd.int .i64) 2 _ w0.heap.size _ _ (rI_ x0_15 (x8_1.length:Int)) from Kd.V_mk ul118_0 ge118_0)
      clear hva_ hvn_ hvc_ ge118_0 ul118_0
      clear hcc118 hce118
      have HR118_0:=Zz.mk hi118_0
      have HC118_0:=Zz.mk hl118_0
      clear hi118_0 hl118_0
      (try simp only [Go.IntWalk.toNatUp] at hx118_0)
      (try simp only [hl0_15] at p118)
      (try simp only [hl0_15] at q118)
      (try simp only [hl0_15] at hx118_0)
      replace p118:=eq_true p118
      replace q118:=eq_true q118
      refine qB8 (n:=15) (S:=fun w'=>w'.cell? (ad113.add (x8_1.length))=some (.slice A118_0 (rI_ x0_15 (x8_1.length:Int)).length c118_0)) (ds:=[14]) (tb_ 15 0) (by kernel_rfl) rfl rfl (hx118_0) (fun hHeld=>?_);refine qBb z87.tab15 z87.bits15 (fun HT_ HW_=>?_)
      generalize w47.drew=w48 at HO_0 HO_8 HL113_0 BK101 HR113_0 HK HB HL118_0 HR118_0 hx118_0 hHeld ⊢
      refine PX_ 0 65 (tb_ 15 1) HT_ rfl rfl ?_
      refine PX_ 1 66 (tb_ 15 3) HT_ rfl rfl ?_
      refine PX_ 2 67 (tb_ 15 7) HT_ rfl rfl ?_
      refine PX_ 4 69 (tb_ 15 23) HT_ rfl rfl ?_
      refine PX_ 5 70 (tb_ 15 55) HT_ rfl rfl ?_
      refine PX_ 6 71 (tb_ 15 119) HT_ rfl rfl ?_
      refine PX_ 8 73 (tb_ 15 375) HT_ rfl rfl ?_
      refine PX_ 9 74 (tb_ 15 887) HT_ rfl rfl ?_
      refine PX_ 11 76 (tb_ 15 2935) HT_ rfl rfl ?_
      refine take_ (i:=7) (N:=some 72) (v:=?_) (a':=?_) (tb_ 15 3063) rfl rfl (qEl HT_.out HW_.out (by kernel_rfl)) (fun _ _ _ h=>h) (Or.inl ⟨by rfl,?_⟩) hHeld ?_ ?_
      rotate_left
      ·intro w' s0
       go_simp
       with_reducible rfl
      rotate_left
      ·simp only [Act.put,List.setIfInBounds_toArray,List.set_cons_zero,List.set_cons_succ,qBl,qCi]
       rfl
      refine join_ (σ:=Value) 3 (tb_ 15 4095) (fun s_=>[(68,s_),(75,.int .i64 t119)]) (fun s_ w'=>(w'.cell? (ad113.add (x8_1.length))=some (.slice A118_0 (rI_ x0_15 (x8_1.length:Int)).length c118_0))∧(Kd.V (Kd.int .i64) 2 w' w0.heap.size (fun k_=>(P0_ k_∨w.heap.size≤k_)∧some k_≠(s_:Value).ownBlock∧some k_≠(.slice (some ad113) x0_15.length co22:Value).ownBlock∧some k_≠(.slice Ao20 x8_1.length co20:Value).ownBlock∧k_≠gb101) (.slice (some ad114) (rI_ x0_15 (x8_1.length:Int)).length c113_0) (rI_ x0_15 (x8_1.length:Int)))∧(Kd.V (Kd.int .i64) 2 w' w0.heap.size (fun k_=>(P0_ k_∨w.heap.size≤k_)∧some k_≠(s_:Value).ownBlock∧some k_≠(.slice (some ad113) x0_15.length co22:Value).ownBlock∧some k_≠(.slice Ao20 x8_1.length co20:Value).ownBlock∧k_≠gb101) (.slice A118_0 (rI_ x0_15 (x8_1.length:Int)).length c118_0) (rI_ x0_15 (x8_1.length:Int)))∧(Kd.R (Kd.int .i64) 2 w' w0.heap.size (fun k_=>(P0_ k_∨w.heap.size≤k_)∧some k_≠(.slice Ao20 x8_1.length co20:Value).ownBlock∧k_≠gb101) s_ y115)∧(Kd.N (Kd.slice 2 (Kd.int .i64)) 30 w' w0.heap.size (fun k_=>(P0_ k_∨w.heap.size≤k_)∧some k_≠(s_:Value).ownBlock∧some k_≠(.slice Ao20 x8_1.length co20:Value).ownBlock∧k_≠gb101) (.slice (some ad113) x0_15.length co22) x0_15)∧(Kd.R (Kd.int .i64) 2 w' w0.heap.size (fun k_=>(P0_ k_∨w.heap.size≤k_)∧some k_≠(s_:Value).ownBlock∧k_≠gb101) (.slice Ao20 x8_1.length co20) x8_1)∧(w'.heap[gb101]?=some (.cells #[.int .i64 x17_1] 2 (0,0)))∧(Kept w w' (fun k_=>P0_ k_))∧(Below w0.heap.size w0 w')) ?_ ?_
      rotate_left
      ·intro hCont
       refine two_ (i:=3) (j:=10) (Ni:=some 68) (Nj:=some 75) (tb_ 15 3071) (tb_ 15 4087) rfl rfl rfl rfl (qN9 HT_.out (by kernel_rfl)) (by decide) (by decide) (fun K hK=>?_) (fun K hK=>?_)
       ·skip
        refine Kd.R_make_step (Kd.int .i64) _ 2 (by rfl) (N:=68) rfl 30 _ _ rfl a1 rfl rfl Tryz.underlying30 (.int .i64 0) 8 qB4 rfl (by decide) (by omega) 0 (ok:=fun _=>True) (okp:=fun _=>True) rfl (fun _ hk=>hk) trivial (D_) (Nat.le_trans (Nat.mul_le_mul_right _ (D_:a1.toNat≤35184372088832)) (by omega)) (Below.refl _ _) (Nat.le_refl _) ?_
        intro v116 w49 ho50 hb hg_ hnew_
        have HS0_:=(hb.cell (World.block_lt_of_cell? _ _ (hHeld))).trans (hHeld)
        clear hg_ hnew_
        (first | rw [← Ny115.out] at ho50 | (simp only [Int.reduceToNat] at ho50;rw [← Ny115.out] at ho50))
        have HO117:=Zz.mk (Kd.R_lower (Kd.R_newB (Kd.R_new' (Kd.R_newM (M:=fun k_=>(P0_ k_∨w.heap.size≤k_)) ho50 (by first | exact HK.out.1 | exact (show Kept w _ (fun k_=>P0_ k_) from by exact rW6_ HK.out GW101.out).1) (fun k_ h_=>.inr h_)) (Kd.R_lt (KR_ HO_8.out))) (g:=gb101) (o:=.cells #[.int .i64 x17_1] 2 (0,0)) (KB_ BK101.out)) (bS_ (B1_ HB.out GE101.out)))
        replace HO_0:=Zz.mk (Kd.N_elder' (KN_ HO_0.out) (Kd.R_base ho50) hb)
        replace HO_8:=Zz.mk (Kd.R_elder' (KR_ HO_8.out) (Kd.R_base ho50) hb)
        replace HL113_0:=Zz.mk (Kd.V_elder' (by refine VW_ ?_;exact HL113_0.out) (Kd.R_base ho50) hb)
        replace HL118_0:=Zz.mk (Kd.V_elder' (by refine VW_ ?_;exact HL118_0.out) (Kd.R_base ho50) hb)
        replace BK101:=Zz.mk (kb_ BK101.out hb)
        replace HR113_0:=Zz.mk (Kd.C_below (KC_ HR113_0.out) hb)
        replace HR118_0:=Zz.mk (Kd.C_below (KC_ HR118_0.out) hb)
        replace HK:=Zz.mk (Kept.below (S:=(fun k_=>P0_ k_)) (rW6_ HK.out GW101.out) hb)
        replace HB:=Zz.mk (bT_ (B1_ HB.out GE101.out) hb)
        clear hb ho50
        refine hK.out _ _ (HS0_) (fun hHeld=>?_)
        clear hK K
        refine NM_ (N:=(some 68)) (h:=?_)
        refine one_ (i:=10) (N:=some 75) (tb_ 15 4095) rfl rfl (qA7 HT_.out (by kernel_rfl)) (by decide) (fun K hK=>?_)
        refine GO_ Tryz.func118 #[.int .i64 (rd (rI_ x0_15 (x8_1.length:Int)) x17_1),.int .i64 a2] (h:=?_)
        with_reducible refine (z118.calls kj15 (rd (rI_ x0_15 (x8_1.length:Int)) x17_1) a2 t119 _ A44.out).mono ?_
        rintro e w' ⟨rfl,⟨nd,rfl⟩⟩
        refine ⟨_,rfl,?_⟩
        refine hK.out _ _ (hHeld) (fun hHeld=>?_)
        clear hK K
        refine NM_ (N:=(some 75)) (h:=?_)
        exact qJy (by simp only [qEv,Act.put,List.setIfInBounds_toArray,List.set_cons_zero,List.set_cons_succ]) (hCont (v116) _ ⟨hHeld,(by refine VW_ ?_;exact Kd.V_mono HL113_0.out (fun _ hk=>pj_ hk)),(by refine VW_ ?_;exact Kd.V_mono HL118_0.out (fun _ hk=>pj_ hk)),(by refine RW_ ?_;exact Kd.R_mono HO117.out (fun _ hk=>⟨hk.1.1.1,⟨hk.1.2,hk.2⟩⟩)),(by refine NW_ ?_;exact Kd.N_mono HO_0.out (fun _ hk=>⟨hk.1.1,⟨hk.2,⟨hk.1.2.1,hk.1.2.2⟩⟩⟩)),(by refine RW_ ?_;exact Kd.R_mono HO_8.out (fun _ hk=>⟨hk.1.1,⟨hk.2,hk.1.2⟩⟩)),(KB_ BK101.out),(rW6_ HK.out GW101.out),(B1_ HB.out GE101.out)⟩)
       skip
       refine GO_ Tryz.func118 #[.int .i64 (rd (rI_ x0_15 (x8_1.length:Int)) x17_1),.int .i64 a2] (h:=?_)
       with_reducible refine (z118.calls kj15 (rd (rI_ x0_15 (x8_1.length:Int)) x17_1) a2 t119 _ A44.out).mono ?_
       rintro e w' ⟨rfl,⟨nd,rfl⟩⟩
       refine ⟨_,rfl,?_⟩
       refine hK.out _ _ (hHeld) (fun hHeld=>?_)
       clear hK K
       refine NM_ (N:=(some 75)) (h:=?_)
       refine one_ (i:=3) (N:=some 68) (tb_ 15 4095) rfl rfl (qA7 HT_.out (by kernel_rfl)) (by decide) (fun K hK=>?_)
       refine Kd.R_make_step (Kd.int .i64) _ 2 (by rfl) (N:=68) rfl 30 _ _ rfl a1 rfl rfl Tryz.underlying30 (.int .i64 0) 8 qB4 rfl (by decide) (by omega) 0 (ok:=fun _=>True) (okp:=fun _=>True) rfl (fun _ hk=>hk) trivial (D_) (Nat.le_trans (Nat.mul_le_mul_right _ (D_:a1.toNat≤35184372088832)) (by omega)) (Below.refl _ _) (Nat.le_refl _) ?_
       intro v116 w49 ho50 hb hg_ hnew_
       have HS0_:=(hb.cell (World.block_lt_of_cell? _ _ (hHeld))).trans (hHeld)
       clear hg_ hnew_
       (first | rw [← Ny115.out] at ho50 | (simp only [Int.reduceToNat] at ho50;rw [← Ny115.out] at ho50))
       have HO117:=Zz.mk (Kd.R_lower (Kd.R_newB (Kd.R_new' (Kd.R_newM (M:=fun k_=>(P0_ k_∨w.heap.size≤k_)) ho50 (by first | exact HK.out.1 | exact (show Kept w _ (fun k_=>P0_ k_) from by exact rW6_ HK.out GW101.out).1) (fun k_ h_=>.inr h_)) (Kd.R_lt (KR_ HO_8.out))) (g:=gb101) (o:=.cells #[.int .i64 x17_1] 2 (0,0)) (KB_ BK101.out)) (bS_ (B1_ HB.out GE101.out)))
       replace HO_0:=Zz.mk (Kd.N_elder' (KN_ HO_0.out) (Kd.R_base ho50) hb)
       replace HO_8:=Zz.mk (Kd.R_elder' (KR_ HO_8.out) (Kd.R_base ho50) hb)
       replace HL113_0:=Zz.mk (Kd.V_elder' (by refine VW_ ?_;exact HL113_0.out) (Kd.R_base ho50) hb)
       replace HL118_0:=Zz.mk (Kd.V_elder' (by refine VW_ ?_;exact HL118_0.out) (Kd.R_base ho50) hb)
       replace BK101:=Zz.mk (kb_ BK101.out hb)
       replace HR113_0:=Zz.mk (Kd.C_below (KC_ HR113_0.out) hb)
       replace HR118_0:=Zz.mk (Kd.C_below (KC_ HR118_0.out) hb)
       replace HK:=Zz.mk (Kept.below (S:=(fun k_=>P0_ k_)) (rW6_ HK.out GW101.out) hb)
       replace HB:=Zz.mk (bT_ (B1_ HB.out GE101.out) hb)
       clear hb ho50
       refine hK.out _ _ (HS0_) (fun hHeld=>?_)
       clear hK K
       refine NM_ (N:=(some 68)) (h:=?_)
       exact qJy (by simp only [qEv,Act.put,List.setIfInBounds_toArray,List.set_cons_zero,List.set_cons_succ]) (hCont (v116) _ ⟨hHeld,(by refine VW_ ?_;exact Kd.V_mono HL113_0.out (fun _ hk=>pj_ hk)),(by refine VW_ ?_;exact Kd.V_mono HL118_0.out (fun _ hk=>pj_ hk)),(by refine RW_ ?_;exact Kd.R_mono HO117.out (fun _ hk=>⟨hk.1.1.1,⟨hk.1.2,hk.2⟩⟩)),(by refine NW_ ?_;exact Kd.N_mono HO_0.out (fun _ hk=>⟨hk.1.1,⟨hk.2,⟨hk.1.2.1,hk.1.2.2⟩⟩⟩)),(by refine RW_ ?_;exact Kd.R_mono HO_8.out (fun _ hk=>⟨hk.1.1,⟨hk.2,hk.1.2⟩⟩)),(KB_ BK101.out),(rW6_ HK.out GW101.out),(B1_ HB.out GE101.out)⟩)
      rintro v116 w51 ⟨hS_,h0_,h1_,h2_,h3_,h4_,h5_,h6_,h7_⟩
      have HL118_0:Zz (Kd.V (Kd.int .i64) 2 w51 w0.heap.size (fun k_=>(P0_ k_∨w.heap.size≤k_)∧some k_≠(v116:Value).ownBlock∧some k_≠(.slice (some ad113) x0_15.length co22:Value).ownBlock∧some k_≠(.slice Ao20 x8_1.length co20:Value).ownBlock∧k_≠gb101) (.slice A118_0 (rI_ x0_15 (x8_1.length:Int)).length c118_0) (rI_ x0_15 (x8_1.length:Int))):=⟨h1_⟩
      have HO117:Zz (Kd.R (Kd.int .i64) 2 w51 w0.heap.size (fun k_=>(P0_ k_∨w.heap.size≤k_)∧some k_≠(.slice Ao20 x8_1.length co20:Value).ownBlock∧k_≠gb101) v116 y115):=⟨h2_⟩
      replace HL113_0:Zz (Kd.V (Kd.int .i64) 2 w51 w0.heap.size (fun k_=>(P0_ k_∨w.heap.size≤k_)∧some k_≠(v116:Value).ownBlock∧some k_≠(.slice (some ad113) x0_15.length co22:Value).ownBlock∧some k_≠(.slice Ao20 x8_1.length co20:Value).ownBlock∧k_≠gb101) (.slice (some ad114) (rI_ x0_15 (x8_1.length:Int)).length c113_0) (rI_ x0_15 (x8_1.length:Int))):=⟨h0_⟩
      replace HO_0:Zz (Kd.N (Kd.slice 2 (Kd.int .i64)) 30 w51 w0.heap.size (fun k_=>(P0_ k_∨w.heap.size≤k_)∧some k_≠(v116:Value).ownBlock∧some k_≠(.slice Ao20 x8_1.length co20:Value).ownBlock∧k_≠gb101) (.slice (some ad113) x0_15.length co22) x0_15):=⟨h3_⟩
      replace HO_8:Zz (Kd.R (Kd.int .i64) 2 w51 w0.heap.size (fun k_=>(P0_ k_∨w.heap.size≤k_)∧some k_≠(v116:Value).ownBlock∧k_≠gb101) (.slice Ao20 x8_1.length co20) x8_1):=⟨h4_⟩
      replace BK101:Zz (w51.heap[gb101]?=some (.cells #[.int .i64 x17_1] 2 (0,0))):=⟨h5_⟩
      replace HK:Zz (Kept w w51 (fun k_=>P0_ k_)):=⟨h6_⟩
      replace HB:Zz (Below w0.heap.size w0 w51):=⟨h7_⟩
      (try clear HR113_0)
      (try clear h0_)
      (try clear h1_)
      (try clear h2_)
      (try clear h3_)
      (try clear h4_)
      (try clear h5_)
      (try clear h6_)
      (try clear h7_)
      have hHeld:w51.cell? (ad113.add ((x8_1.length:Int)).toNat)=some (.slice A118_0 (rI_ x0_15 (x8_1.length:Int)).length c118_0):=hS_
      obtain ⟨Ao52,co52,eo52⟩:=Kd.R_slice HO117.out
      (first | subst eo52 | obtain ⟨rfl,rfl⟩:=sl_ eo52)
      refine qJy (a':=?_) ?_ ?_
      rotate_left
      ·simp only [qEv,Act.put,List.setIfInBounds_toArray,List.set_cons_zero,List.set_cons_succ]
       rfl
      refine one_ (i:=12) (N:=some 77) (tb_ 15 8191) rfl rfl (qA7 HT_.out (by kernel_rfl)) (by decide) (fun K hK=>?_)
      refine GO_ Tryz.func55 #[.slice Ao52 y115.length co52,.slice A118_0 (rI_ x0_15 (x8_1.length:Int)).length c118_0,.int .i64 t119,.int .i64 a2] (h:=?_)
      with_reducible refine (z55.calls kj15 _ _ y115 _ _ (rI_ x0_15 (x8_1.length:Int)) t119 a2 t120 _ ?side1 ?side2 ?side3 ?side4 A45.out).mono ?_
      (case side1=>exact KC_ (Kd.R_reads' HO117.out).2.2)
      (case side2=>exact (Kd.R_reads' HO117.out).2.1)
      (case side3=>repeat (first | exact ((Kd.V_reads' (by refine VW_ ?_;exact HL118_0.out)).2.2) | (with_reducible refine Kd.C_alloc ?_ _) | (with_reducible refine Kd.C_drewN ?_ _) | (with_reducible refine Kd.C_drew ?_)))
      (case side4=>exact HC118_0.out)
      rintro e w53 ⟨v121,rfl,ho0,hb⟩
      have HS0_:=(hb.cell (World.block_lt_of_cell? _ _ (hHeld))).trans (hHeld)
      refine ⟨_,rfl,?_⟩
      have HO122:=Zz.mk (Kd.R_lower (Kd.R_newB (Kd.R_new' (Kd.R_new' (Kd.R_newM (M:=fun k_=>(P0_ k_∨w.heap.size≤k_)) ho0 (by first | exact HK.out.1 | exact (show Kept w _ (fun k_=>P0_ k_) from by exact rW6_ HK.out GW101.out).1) (fun k_ h_=>.inr h_)) (Kd.R_lt (KR_ HO_8.out))) (Kd.R_lt (KR_ HO117.out))) (g:=gb101) (o:=.cells #[.int .i64 x17_1] 2 (0,0)) (KB_ BK101.out)) (bS_ (B1_ HB.out GE101.out)))
      replace HO_0:=Zz.mk (Kd.N_elder' (KN_ HO_0.out) (Kd.R_base ho0) hb)
      replace HO_8:=Zz.mk (Kd.R_elder' (KR_ HO_8.out) (Kd.R_base ho0) hb)
      replace HL113_0:=Zz.mk (Kd.V_elder' (by refine VW_ ?_;exact HL113_0.out) (Kd.R_base ho0) hb)
      replace HL118_0:=Zz.mk (Kd.V_elder' (by refine VW_ ?_;exact HL118_0.out) (Kd.R_base ho0) hb)
      replace HO117:=Zz.mk (Kd.R_elder' (KR_ HO117.out) (Kd.R_base ho0) hb)
      replace BK101:=Zz.mk (kb_ BK101.out hb)
      replace HK:=Zz.mk (Kept.below (S:=(fun k_=>P0_ k_)) (rW6_ HK.out GW101.out) hb)
      replace HB:=Zz.mk (bT_ (B1_ HB.out GE101.out) hb)
      (try clear hb);(try clear hk);(try clear ho0)
      have p46:0≤((x8_1.length:Int):Int):=D_
      have q46:((x8_1.length:Int):Int)<((x0_15.length:Int):Int):=D_
      obtain ⟨go46,co46,eo46,gb46,gl46,cl46,HG46⟩:=Kd.N_form HO_0.out (by omega)
      (first | cases eo46 | (injection eo46 with ea_ en_ ec_;(first | subst ea_ | (injection ea_ with ea_;subst ea_));subst ec_;clear en_))
      have GB46:=Zz.mk gb46
      have GG46:=Zz.mk HG46
      clear gb46 gl46 HG46
      have HMgo46:=Zz.mk (show (P0_ go46∨w.heap.size≤go46) from (by have h_:=HO_0.out.1 _ rfl;first | exact h_.1 | exact h_.1.1 | exact h_.1.1.1 | exact h_))
      (first | simp only [qBa] at hx113_0 | skip)
      (first | simp only [qBa] at hx118_0 | skip)
      obtain ⟨ce46,hcl46,hM46,hcc46,hfr46⟩:=Kd.N_elem HO_0.out [] ((x8_1.length:Int):Int) p46 q46
      obtain ⟨ua46_0,uc46_0,rfl,ul46_0,ge46_0⟩:=Kd.FK_slice_open hM46
      have hx46_0:=hcc46 0 _ rfl
      have hf46_0:=hfr46 0
      (try simp only [show ((Kd.slice 2 (Kd.int .i64))).sz=1 from rfl,Nat.mul_one,Nat.add_zero] at hx46_0)
      (try simp only [show ((Kd.slice 2 (Kd.int .i64))).sz=1 from rfl,Nat.mul_one,Nat.add_zero] at hf46_0)
      (try simp only [Go.IntWalk.toNatUp] at hx46_0)
      (try simp only [Go.IntWalk.toNatUp] at hf46_0)
      clear hcl46 hcc46 hfr46;(try clear hM46)
      replace p46:=eq_true p46
      replace q46:=eq_true q46
      obtain ⟨Ao55,co55,eo55⟩:=Kd.R_slice HO122.out
      (first | subst eo55 | obtain ⟨rfl,rfl⟩:=sl_ eo55)
      have HX54:=Zz.mk (show Kd.N (Kd.slice 2 (Kd.int .i64)) 30 _ w0.heap.size (fun k_=>(P0_ k_∨w.heap.size≤k_)∧some k_≠(.slice Ao20 x8_1.length co20:Value).ownBlock∧some k_≠(.slice Ao52 y115.length co52:Value).ownBlock∧some k_≠(.slice Ao55 t120.length co55:Value).ownBlock∧k_≠gb101) (.slice (some ⟨go46,0,none⟩) x0_15.length co22) x0_15 from (Kd.N_mono (HO_0.out) (fun k_ hk=>⟨hk.1.1,⟨hk.1.2.2.1,⟨hk.1.2.1,⟨hk.2,hk.1.2.2.2⟩⟩⟩⟩)))
      replace HX54:=Zz.mk (show Kd.N (Kd.slice 2 (Kd.int .i64)) 30 _ w0.heap.size (fun k_=>(P0_ k_∨w.heap.size≤k_)∧some k_≠(.slice Ao20 x8_1.length co20:Value).ownBlock∧some k_≠(.slice Ao52 y115.length co52:Value).ownBlock∧k_≠gb101) (.slice (some ⟨go46,0,none⟩) x0_15.length co22) x0_15 from Kd.N_mono HX54.out (fun k_ hk=>⟨hk.1,⟨hk.2.1,⟨hk.2.2.1,hk.2.2.2.2⟩⟩⟩))
      obtain ⟨ce54,hcl54,hM54,hcc54,hfr54⟩:=Kd.N_elem HX54.out [] ((x8_1.length:Int):Int) (D_) (by have h_:((x8_1.length:Int):Int)<((x0_15.length:Int):Int):=D_;first | exact h_ | (have e_:=(Kd.N_reads' HO_0.out).1;omega) | simpa using h_)
      obtain ⟨ua54_0,uc54_0,rfl,ul54_0,ge54_0⟩:=Kd.FK_slice_open hM54
      have zR_:=Kd.R_mono (ok':=(fun k_=>((fun k_=>(P0_ k_∨w.heap.size≤k_)∧some k_≠(.slice Ao20 x8_1.length co20:Value).ownBlock∧some k_≠(.slice Ao52 y115.length co52:Value).ownBlock∧k_≠gb101)) k_∧k_≠go46)) (Kd.R_apart' (HO122.out) (Kd.N_typed HO_0.out) (by decide)) (fun k_ hk=>⟨⟨hk.1.1.1.1.1,⟨hk.1.1.1.2,⟨hk.1.1.2,hk.1.2⟩⟩⟩,fun e_=>(hk.2) (by rw [e_];rfl)⟩)
      have HP54:=(Kd.N_seg HX54.out ((x8_1.length:Int):Int) (D_) (by have h_:((x8_1.length:Int):Int)<((x0_15.length:Int):Int):=D_;first | exact h_ | (have e_:=(Kd.N_reads' HO_0.out).1;omega) | simpa using h_) (seg:=[.slice Ao55 t120.length co55]) (j:=0) hcl54 hcc54 (show 1≤1 from by decide) (x':=t120) (Kd.FK_slice_mk (Kd.R_reads' (zR_)).2.1 (Kd.R_F (zR_))) (fun _ hk=>hk)).1
      clear zR_
      (try simp only [show ((Kd.slice 2 (Kd.int .i64))).sz=1 from rfl,Nat.mul_one,Nat.add_zero] at HP54)
      rw [← Ny123.out] at HP54
      have HQ54:=Zz.mk HP54
      clear hcl54 hcc54 hfr54 HP54;(try clear hM54)
      refine hK.out _ _ (HS0_) (fun hHeld=>?_)
      clear hK K
      refine NM_ (N:=(some 77)) (h:=?_)
      refine PX_ 13 78 (tb_ 15 16383) HT_ rfl rfl ?_
      refine qIa (i:=14) (N:=none) (tb_ 15 32767) rfl rfl (qA7 HT_.out (by kernel_rfl)) (by decide) (fun K hK=>?_)
      refine qG0 (w1:=?_) (by rfl) rfl ?_ ?_
      rotate_left
      ·go_simp
       rfl
      refine hK.out _ _ ?_
      clear hK K
      refine qDb (qBt HT_.out (by kernel_rfl)) ?_
      try go_wp2
      go_loopg [81] kj15 (fun kq v81 w'=>∃ (x0_3:List (List Int)) (x81_3:Int),v81=.int .i64 x81_3∧Zz (z87.l1 kq x0_3 a1 a2 x8_1 (Int.tmod (wrap64 (x9_15 * (rd (rI_ x0_15 (x8_1.length:Int)) x17_1))) a2) (x8_1.length:Int) a1 x17_1 (x0_15.length:Int) x81_3 x17_1=some (r1,r2,r3))∧Zz (kq≤kj15)∧Zz (Kd.N (Kd.slice 2 (Kd.int .i64)) 30 w' w0.heap.size (fun k_=>(P0_ k_∨w.heap.size≤k_)∧some k_≠((.slice Ao20 x8_1.length co20):Value).ownBlock∧k_≠gb101) (.slice (some ⟨go46,0,none⟩) x0_15.length co22) x0_3)∧Zz (Kd.R (Kd.int .i64) 2 w' w0.heap.size (fun k_=>(P0_ k_∨w.heap.size≤k_)∧k_≠gb101) (.slice Ao20 x8_1.length co20) x8_1)∧Zz (w'.heap[gb101]?=some (.cells #[.int .i64 x17_1] 2 (0,0)))∧Zz (Kept w w' (fun k_=>P0_ k_))∧Zz (Below w0.heap.size w0 w'))
      case atStart=>exact ⟨(y123),(0),E_,H',⟨Nat.le_refl _⟩,⟨by (try simp only [hl0_15]);refine NW_ ?_;exact Kd.N_mono HQ54.out (fun _ hk=>⟨hk.1,⟨hk.2.1,hk.2.2.2⟩⟩)⟩,⟨by (try simp only [hl0_15]);refine RW_ ?_;exact Kd.R_mono (Kd.R_far (p:=⟨go46,((x8_1.length:Int):Int).toNat,none⟩) (Kd.R_typesT (g:=go46) HO_8.out (Kd.N_typed HO_0.out) rfl (by decide)) (fun _ hk=>hk.2) (.slice Ao55 t120.length co55)) (fun _ hk=>⟨hk.1.1.1,hk.1.1.2.2⟩)⟩,⟨by (try simp only [hl0_15]);refine BW_ ?_;refine bR_ ?_ (by have h_:=Kd.N_away HO_0.out (fun _ hk=>by first | exact hk.2.2.2 | exact hk.1.2.2 | exact hk.1.1.2.2 | exact hk.1.2.2.2 | exact hk.1.1.2.2.2 | exact hk.2.2);intro e_;exact h_ (by rw [e_];rfl)) _;refine BW_ ?_;exact BK101.out⟩,⟨rW9_ HK.out HMgo46.out GW101.out⟩,⟨by repeat (first | (with_reducible first | exact HB.out | apply qAg | apply qAb | apply qAe | refine qAd ?_ GB46.out | refine qAd ?_ GE101.out) | exact HB.out)⟩⟩
      case round=>as_aux_lemma =>
       clear H'
       (try clear c1);(try clear c4);(try clear c5);(try clear q21);(try clear c37);(try clear c37b0);(try clear c37b1);(try clear c38);(try clear c38b0);(try clear c38b1);(try clear c39);(try clear c39b0);(try clear c40);(try clear c40b0);(try clear c41);(try clear c41b0);(try clear c41b1);(try clear c42);(try clear c42b0)
       (try clear c42b1);(try clear c43);(try clear c43b0);(try clear c43b1);(try clear p46);(try clear q46);(try clear hcz18_0);(try clear hfz18_0);(try clear hx113_0);(try clear hx114_0);(try clear hx118_0);(try clear hx46_0);(try clear p113);(try clear p114);(try clear p118);(try clear p46);(try clear q021);(try clear q113);(try clear q114);(try clear q118);(try clear q21);(try clear q46)
       obtain ⟨x0_3,x81_3,rfl,HA,HK3,HO_0,HO_8,BK101,HK,HB⟩:=hrel
       have hl0_3:=(Kd.N_reads' HO_0.out).1
       rw [hl0_3] at HO_0
       (try simp only [hl0_3])
       (try simp only [hl0_3] at BK101)
       (try simp only [hl0_3] at HO_8)
       cases gk with
       | zero=>exact absurd HA.out (by simp [z87.l1])
       | succ k3 =>
        have H:=HA.out
        clear HA
        simp only [z87.l1] at H
        by_cases c56:x81_3<(x0_15.length:Int)
        ·rw [if_pos c56] at H
         have c56b0:decide (x81_3<(x0_15.length:Int))=true:=decide_eq_true c56
         (try rw [hl0_15] at c56b0)
         (try rw [hl0_3] at c56b0)
         clear c56
         have c57:=O1_ H
         replace H:=O2_ H
         have c57b0:=decide_eq_true c57
         (try rw [hl0_15] at c57b0)
         (try rw [hl0_3] at c57b0)
         clear c57
         have c58:=O1_ H
         replace H:=O2_ H
         have c58b0:=decide_eq_true c58
         (try rw [hl0_15] at c58b0)
         (try rw [hl0_3] at c58b0)
         clear c58
         by_cases c59:x81_3=(x8_1.length:Int)
         ·rw [if_pos c59] at H
          have c59b0:(x81_3 == (x8_1.length:Int))=true:=beq_iff_eq.mpr c59
          have c59b1:(x81_3 != (x8_1.length:Int))=false:=bne_eq_false_iff_eq.mpr c59
          (try rw [hl0_15] at c59b0)
          (try rw [hl0_15] at c59b1)
          (try rw [hl0_3] at c59b0)
          (try rw [hl0_3] at c59b1)
          clear c59
          have H':=Zz.mk H
          clear H
          have p124:0≤(x81_3:Int):=D_
          have q124:x81_3<(x0_3.length:Int):=D_
          obtain ⟨ad124,A124_0,c124_0,e124,hx124_0,hl124_0,hi124_0⟩:=qA2 (Kd.N_reads' HO_0.out).2.2 x81_3 p124 q124
          obtain rfl:(⟨go46,0,none⟩:Addr)=ad124:=(by injection e124)
          obtain ⟨ce124,hce124,hMe124,hcc124⟩:=Kd.N_get HO_0.out [] x81_3 p124 (by first | exact q124 | exact D_ | (have e_:=(Kd.N_reads' HO_0.out).1;omega))
          obtain ⟨ua124_0,uc124_0,rfl,ul124_0,ge124_0⟩:=Kd.FK_slice_open hMe124
          have hv124_0:=hcc124 0 _ rfl
          rw [Nat.add_zero,show ((Kd.slice 2 (Kd.int .i64))).sz=1 from rfl,Nat.mul_one] at hv124_0
          replace hv124_0:=Option.some.inj (hv124_0.symm.trans hx124_0)
          injection hv124_0 with hva_ hvn_ hvc_
          rw [hva_] at ge124_0
          rw [hvc_] at ul124_0
          have HL124_0:=Zz.mk (show Kd.V (Kd.int .i64) 2 _ w0.heap.size _ _ (rI_ x0_3 x81_3) from Kd.V_mk ul124_0 ge124_0)
          clear hva_ hvn_ hvc_ ge124_0 ul124_0
          clear hcc124 hce124
          (first | simp only [qBa] at hx124_0 | simp only [qHs] at hx124_0 | simp only [Addr.add,Nat.zero_add] at hx124_0 | skip)
          have HR124_0:=Zz.mk hi124_0
          have HC124_0:=Zz.mk hl124_0
          clear hi124_0 hl124_0
          replace p124:=eq_true p124
          replace q124:=eq_true q124
          go_wp2
          (try simp only [← hl0_3])
          go_roundg k3
          case measure=>have:=HK1.out;have:=HJ15.out;have:=HK3.out;omega
          case rel=>exact ⟨(x0_3),(wrap64 (x81_3+1)),E_,H',⟨by have:=HK1.out;have:=HJ15.out;have:=HK3.out;omega⟩,⟨by (try simp only [hl0_15]);(try simp only [hl0_3]);refine NW_ ?_;exact HO_0.out⟩,⟨by (try simp only [hl0_15]);(try simp only [hl0_3]);refine RW_ ?_;exact HO_8.out⟩,⟨by (try simp only [hl0_15]);(try simp only [hl0_3]);refine BW_ ?_;exact BK101.out⟩,⟨rW6_ HK.out GW101.out⟩,⟨B1_ HB.out GE101.out⟩⟩
         rw [if_neg c59] at H
         have c59b0:(x81_3 == (x8_1.length:Int))=false:=beq_eq_false_iff_ne.mpr c59
         have c59b1:(x81_3 != (x8_1.length:Int))=true:=bne_iff_ne.mpr c59
         (try rw [hl0_15] at c59b0)
         (try rw [hl0_15] at c59b1)
         (try rw [hl0_3] at c59b0)
         (try rw [hl0_3] at c59b1)
         have c60:=O1_ H
         replace H:=O2_ H
         have c60b0:=decide_eq_true c60
         (try rw [hl0_15] at c60b0)
         (try rw [hl0_3] at c60b0)
         clear c60
         have c61:=O1_ H
         replace H:=O2_ H
         have c61b0:=decide_eq_true c61
         (try rw [hl0_15] at c61b0)
         (try rw [hl0_3] at c61b0)
         clear c61
         by_cases c62:(rd (rI_ x0_3 x81_3) x17_1)=0
         ·rw [if_pos c62] at H
          have c62b0:((rd (rI_ x0_3 x81_3) x17_1) == 0)=true:=beq_iff_eq.mpr c62
          have c62b1:((rd (rI_ x0_3 x81_3) x17_1) != 0)=false:=bne_eq_false_iff_eq.mpr c62
          (try rw [hl0_15] at c62b0)
          (try rw [hl0_15] at c62b1)
          (try rw [hl0_3] at c62b0)
          (try rw [hl0_3] at c62b1)
          clear c62
          have H':=Zz.mk H
          clear H
          have p124:0≤(x81_3:Int):=D_
          have q124:x81_3<(x0_3.length:Int):=D_
          obtain ⟨ad124,A124_0,c124_0,e124,hx124_0,hl124_0,hi124_0⟩:=qA2 (Kd.N_reads' HO_0.out).2.2 x81_3 p124 q124
          obtain rfl:(⟨go46,0,none⟩:Addr)=ad124:=(by injection e124)
          obtain ⟨ce124,hce124,hMe124,hcc124⟩:=Kd.N_get HO_0.out [] x81_3 p124 (by first | exact q124 | exact D_ | (have e_:=(Kd.N_reads' HO_0.out).1;omega))
          obtain ⟨ua124_0,uc124_0,rfl,ul124_0,ge124_0⟩:=Kd.FK_slice_open hMe124
          have hv124_0:=hcc124 0 _ rfl
          rw [Nat.add_zero,show ((Kd.slice 2 (Kd.int .i64))).sz=1 from rfl,Nat.mul_one] at hv124_0
          replace hv124_0:=Option.some.inj (hv124_0.symm.trans hx124_0)
          injection hv124_0 with hva_ hvn_ hvc_
          rw [hva_] at ge124_0
          rw [hvc_] at ul124_0
          have HL124_0:=Zz.mk (show Kd.V (Kd.int .i64) 2 _ w0.heap.size _ _ (rI_ x0_3 x81_3) from Kd.V_mk ul124_0 ge124_0)
          clear hva_ hvn_ hvc_ ge124_0 ul124_0
          clear hcc124 hce124
          (first | simp only [qBa] at hx124_0 | simp only [qHs] at hx124_0 | simp only [Addr.add,Nat.zero_add] at hx124_0 | skip)
          have HR124_0:=Zz.mk hi124_0
          have HC124_0:=Zz.mk hl124_0
          clear hi124_0 hl124_0
          replace p124:=eq_true p124
          replace q124:=eq_true q124
          obtain ⟨hcz63_0,hfz63_0⟩:=Z1f_ BK101.out
          have p125:0≤(x17_1:Int):=D_
          have q125:x17_1<((rI_ x0_3 x81_3).length:Int):=D_
          obtain ⟨ad125,e125,hx125_0⟩:=Kd.at_int (KC_ HR124_0.out) x17_1 p125 q125
          cases e125
          replace p125:=eq_true p125
          replace q125:=eq_true q125
          go_wp2
          (try simp only [← hl0_3])
          go_roundg k3
          case measure=>have:=HK1.out;have:=HJ15.out;have:=HK3.out;omega
          case rel=>exact ⟨(x0_3),(wrap64 (x81_3+1)),E_,H',⟨by have:=HK1.out;have:=HJ15.out;have:=HK3.out;omega⟩,⟨by (try simp only [hl0_15]);(try simp only [hl0_3]);refine NW_ ?_;exact HO_0.out⟩,⟨by (try simp only [hl0_15]);(try simp only [hl0_3]);refine RW_ ?_;exact HO_8.out⟩,⟨by (try simp only [hl0_15]);(try simp only [hl0_3]);refine BW_ ?_;exact BK101.out⟩,⟨rW6_ HK.out GW101.out⟩,⟨B1_ HB.out GE101.out⟩⟩
         rw [if_neg c62] at H
         have c62b0:((rd (rI_ x0_3 x81_3) x17_1) == 0)=false:=beq_eq_false_iff_ne.mpr c62
         have c62b1:((rd (rI_ x0_3 x81_3) x17_1) != 0)=true:=bne_iff_ne.mpr c62
         (try rw [hl0_15] at c62b0)
         (try rw [hl0_15] at c62b1)
         (try rw [hl0_3] at c62b0)
         (try rw [hl0_3] at c62b1)
         have c64:=O1_ H
         replace H:=O2_ H
         have c64b0:=decide_eq_true c64
         have c64b1:decide (0≤x8_1.length)=true:=decide_eq_true (by omega)
         (try rw [hl0_15] at c64b0)
         (try rw [hl0_15] at c64b1)
         (try rw [hl0_3] at c64b0)
         (try rw [hl0_3] at c64b1)
         clear c64
         have c65:=O1_ H
         replace H:=O2_ H
         have c65b0:=decide_eq_true c65
         have c65b1:decide (x8_1.length<x0_3.length)=true:=decide_eq_true (Int.ofNat_lt.mp c65)
         (try rw [hl0_15] at c65b0)
         (try rw [hl0_15] at c65b1)
         (try rw [hl0_3] at c65b0)
         (try rw [hl0_3] at c65b1)
         clear c65
         replace H:=OB_ H
         obtain ⟨t128,A660,H⟩:=H
         replace H:(z87.l1 k3 (x0_3.set (x81_3:Int).toNat t128) a1 a2 x8_1 (Int.tmod (wrap64 (x9_15 * (rd (rI_ x0_15 (x8_1.length:Int)) x17_1))) a2) (x8_1.length:Int) a1 x17_1 (x0_15.length:Int) (wrap64 (x81_3+1)) x17_1)=some (r1,r2,r3):=H
         have A66:=Zz.mk A660
         clear A660
         obtain ⟨y131,hy131⟩:∃ y_:List (List Int),y_=(x0_3.set (x81_3:Int).toNat t128):=⟨_,rfl⟩
         replace H:(z87.l1 k3 y131 a1 a2 x8_1 (Int.tmod (wrap64 (x9_15 * (rd (rI_ x0_15 (x8_1.length:Int)) x17_1))) a2) (x8_1.length:Int) a1 x17_1 (x0_15.length:Int) (wrap64 (x81_3+1)) x17_1)=some (r1,r2,r3):=Y_ hy131 H
         have Ny131:=Zz.mk hy131
         clear hy131
         have H':=Zz.mk H
         clear H
         have p124:0≤(x81_3:Int):=D_
         have q124:x81_3<(x0_3.length:Int):=D_
         obtain ⟨ad124,A124_0,c124_0,e124,hx124_0,hl124_0,hi124_0⟩:=qA2 (Kd.N_reads' HO_0.out).2.2 x81_3 p124 q124
         obtain rfl:(⟨go46,0,none⟩:Addr)=ad124:=(by injection e124)
         obtain ⟨ce124,hce124,hMe124,hcc124⟩:=Kd.N_get HO_0.out [] x81_3 p124 (by first | exact q124 | exact D_ | (have e_:=(Kd.N_reads' HO_0.out).1;omega))
         obtain ⟨ua124_0,uc124_0,rfl,ul124_0,ge124_0⟩:=Kd.FK_slice_open hMe124
         have hv124_0:=hcc124 0 _ rfl
         rw [Nat.add_zero,show ((Kd.slice 2 (Kd.int .i64))).sz=1 from rfl,Nat.mul_one] at hv124_0
         replace hv124_0:=Option.some.inj (hv124_0.symm.trans hx124_0)
         injection hv124_0 with hva_ hvn_ hvc_
         rw [hva_] at ge124_0
         rw [hvc_] at ul124_0
         have HL124_0:=Zz.mk (show Kd.V (Kd.int .i64) 2 _ w0.heap.size _ _ (rI_ x0_3 x81_3) from Kd.V_mk ul124_0 ge124_0)
         clear hva_ hvn_ hvc_ ge124_0 ul124_0
         clear hcc124 hce124
         (first | simp only [qBa] at hx124_0 | simp only [qHs] at hx124_0 | simp only [Addr.add,Nat.zero_add] at hx124_0 | skip)
         have HR124_0:=Zz.mk hi124_0
         have HC124_0:=Zz.mk hl124_0
         clear hi124_0 hl124_0
         replace p124:=eq_true p124
         replace q124:=eq_true q124
         obtain ⟨hcz68_0,hfz68_0⟩:=Z1f_ BK101.out
         have p125:0≤(x17_1:Int):=D_
         have q125:x17_1<((rI_ x0_3 x81_3).length:Int):=D_
         obtain ⟨ad125,e125,hx125_0⟩:=Kd.at_int (KC_ HR124_0.out) x17_1 p125 q125
         cases e125
         replace p125:=eq_true p125
         replace q125:=eq_true q125
         try go_wp2
         replace HO_0:=Zz.mk (Kd.N_drew HO_0.out)
         replace HO_8:=Zz.mk (Kd.R_drew HO_8.out)
         replace HL124_0:=Zz.mk (Kd.V_drew HL124_0.out)
         replace BK101:=Zz.mk (bD_ BK101.out)
         replace HR124_0:=Zz.mk (Kd.C_drew HR124_0.out)
         replace HK:=Zz.mk (Kept.drew HK.out)
         replace HB:=Zz.mk (qAe HB.out)
         have p126:0≤((x8_1.length:Int):Int):=D_
         have q126:(x8_1.length:Int)<(x0_3.length:Int):=D_
         obtain ⟨ad126,A126_0,c126_0,e126,hx126_0,hl126_0,hi126_0⟩:=qA2 (Kd.N_reads' HO_0.out).2.2 (x8_1.length:Int) p126 q126
         obtain rfl:(⟨go46,0,none⟩:Addr)=ad126:=(by injection e126)
         obtain ⟨ce126,hce126,hMe126,hcc126⟩:=Kd.N_get HO_0.out [] (x8_1.length:Int) p126 (by first | exact q126 | exact D_ | (have e_:=(Kd.N_reads' HO_0.out).1;omega))
         obtain ⟨ua126_0,uc126_0,rfl,ul126_0,ge126_0⟩:=Kd.FK_slice_open hMe126
         have hv126_0:=hcc126 0 _ rfl
         rw [Nat.add_zero,show ((Kd.slice 2 (Kd.int .i64))).sz=1 from rfl,Nat.mul_one] at hv126_0
         replace hv126_0:=Option.some.inj (hv126_0.symm.trans hx126_0)
         injection hv126_0 with hva_ hvn_ hvc_
         rw [hva_] at ge126_0
         rw [hvc_] at ul126_0
         have HL126_0:=Zz.mk (show Kd.V (Kd.int .i64) 2 _ w0.heap.size _ _ (rI_ x0_3 (x8_1.length:Int)) from Kd.V_mk ul126_0 ge126_0)
         clear hva_ hvn_ hvc_ ge126_0 ul126_0
         clear hcc126 hce126
         (first | simp only [qBa] at hx126_0 | simp only [qHs] at hx126_0 | simp only [Addr.add,Nat.zero_add] at hx126_0 | skip)
         have HR126_0:=Zz.mk hi126_0
         have HC126_0:=Zz.mk hl126_0
         clear hi126_0 hl126_0
         (try simp only [Go.IntWalk.toNatUp] at hx126_0)
         (try simp only [hl0_15,hl0_3] at p126)
         (try simp only [hl0_15,hl0_3] at q126)
         (try simp only [hl0_15,hl0_3] at hx126_0)
         replace p126:=eq_true p126
         replace q126:=eq_true q126
         have p127:0≤(x17_1:Int):=D_
         have q127:x17_1<((rI_ x0_3 x81_3).length:Int):=D_
         obtain ⟨ad127,e127,hx127_0⟩:=Kd.at_int (KC_ HR124_0.out) x17_1 p127 q127
         obtain rfl:ad125=ad127:=(by injection e127)
         replace p127:=eq_true p127
         replace q127:=eq_true q127
         refine qB8 (n:=17) (S:=fun w'=>w'.cell? ⟨gb101,0,none⟩=some (.int .i64 x17_1)∧w'.cell? ⟨go46,(x8_1.length),none⟩=some (.slice A126_0 (rI_ x0_3 (x8_1.length:Int)).length c126_0)∧w'.cell? (ad125.add (x17_1).toNat)=some (.int .i64 (rd (rI_ x0_3 x81_3) x17_1))) (ds:=[16]) (tb_ 17 0) (by kernel_rfl) rfl rfl ⟨(bC_ BK101.out 0).trans rfl,hx126_0,hx127_0⟩ (fun hHeld=>?_);refine qBb z87.tab20 z87.bits20 (fun HT_ HW_=>?_)
         generalize wr.drew=w69 at HO_0 HO_8 HL124_0 BK101 HR124_0 HK HB HL126_0 HR126_0 hx126_0 hx127_0 hHeld ⊢
         refine PX_ 0 96 (tb_ 17 1) HT_ rfl rfl ?_
         refine PX_ 1 97 (tb_ 17 3) HT_ rfl rfl ?_
         refine PX_ 2 98 (tb_ 17 7) HT_ rfl rfl ?_
         refine PX_ 3 99 (tb_ 17 15) HT_ rfl rfl ?_
         refine PX_ 4 100 (tb_ 17 31) HT_ rfl rfl ?_
         refine PX_ 5 101 (tb_ 17 63) HT_ rfl rfl ?_
         refine PX_ 7 103 (tb_ 17 191) HT_ rfl rfl ?_
         refine PX_ 8 104 (tb_ 17 447) HT_ rfl rfl ?_
         refine PX_ 13 109 (tb_ 17 8639) HT_ rfl rfl ?_
         refine TX_ 6 102 (tb_ 17 8703) HT_ HW_ rfl rfl hHeld ?_
         refine TX_ 9 105 (tb_ 17 9215) HT_ HW_ rfl rfl hHeld ?_
         refine PX_ 10 106 (tb_ 17 10239) HT_ rfl rfl ?_
         refine TX_ 11 107 (tb_ 17 12287) HT_ HW_ rfl rfl hHeld ?_
         refine PX_ 12 108 (tb_ 17 16383) HT_ rfl rfl ?_
         refine one_ (i:=14) (N:=some 110) (tb_ 17 32767) rfl rfl (qA7 HT_.out (by kernel_rfl)) (by decide) (fun K hK=>?_)
         refine GO_ Tryz.func55 #[.slice (some ad125) (rI_ x0_3 x81_3).length c124_0,.slice A126_0 (rI_ x0_3 (x8_1.length:Int)).length c126_0,.int .i64 (wrap64 (a2 - (rd (rI_ x0_3 x81_3) x17_1))),.int .i64 a2] (h:=?_)
         with_reducible refine (z55.calls k3 _ _ (rI_ x0_3 x81_3) _ _ (rI_ x0_3 (x8_1.length:Int)) (wrap64 (a2 - (rd (rI_ x0_3 x81_3) x17_1))) a2 t128 _ ?side1 ?side2 ?side3 ?side4 A66.out).mono ?_
         (case side1=>exact KC_ (KC_ HR124_0.out))
         (case side2=>exact HC124_0.out)
         (case side3=>exact KC_ (KC_ HR126_0.out))
         (case side4=>exact HC126_0.out)
         rintro e w70 ⟨v129,rfl,ho0,hb⟩
         have HS1_:=(hb.cell (World.block_lt_of_cell? _ _ (hHeld.2.1))).trans (hHeld.2.1)
         have HS2_:=(hb.cell (World.block_lt_of_cell? _ _ (hHeld.2.2))).trans (hHeld.2.2)
         refine ⟨_,rfl,?_⟩
         have HO130:=Zz.mk (Kd.R_lower (Kd.R_newB (Kd.R_new' (Kd.R_newM (M:=fun k_=>(P0_ k_∨w.heap.size≤k_)) ho0 (by first | exact HK.out.1 | exact (show Kept w _ (fun k_=>P0_ k_) from by exact rW6_ HK.out GW101.out).1) (fun k_ h_=>.inr h_)) (Kd.R_lt (KR_ HO_8.out))) (g:=gb101) (o:=.cells #[.int .i64 x17_1] 2 (0,0)) (KB_ BK101.out)) (bS_ (B1_ HB.out GE101.out)))
         replace HO_0:=Zz.mk (Kd.N_elder' (KN_ HO_0.out) (Kd.R_base ho0) hb)
         replace HO_8:=Zz.mk (Kd.R_elder' (KR_ HO_8.out) (Kd.R_base ho0) hb)
         replace HL124_0:=Zz.mk (Kd.V_elder' (by refine VW_ ?_;exact HL124_0.out) (Kd.R_base ho0) hb)
         replace HL126_0:=Zz.mk (Kd.V_elder' (by refine VW_ ?_;exact HL126_0.out) (Kd.R_base ho0) hb)
         replace BK101:=Zz.mk (kb_ BK101.out hb)
         replace HR124_0:=Zz.mk (Kd.C_below (KC_ HR124_0.out) hb)
         replace HR126_0:=Zz.mk (Kd.C_below (KC_ HR126_0.out) hb)
         replace HK:=Zz.mk (Kept.below (S:=(fun k_=>P0_ k_)) (rW6_ HK.out GW101.out) hb)
         replace HB:=Zz.mk (bT_ (B1_ HB.out GE101.out) hb)
         (try clear hb);(try clear hk);(try clear ho0)
         have p67:0≤(x81_3:Int):=D_
         have q67:(x81_3:Int)<((x0_3.length:Int):Int):=D_
         obtain ⟨ce67,hcl67,hM67,hcc67,hfr67⟩:=Kd.N_elem HO_0.out [] (x81_3:Int) p67 q67
         obtain ⟨ua67_0,uc67_0,rfl,ul67_0,ge67_0⟩:=Kd.FK_slice_open hM67
         have hx67_0:=hcc67 0 _ rfl
         have hf67_0:=hfr67 0
         (try simp only [show ((Kd.slice 2 (Kd.int .i64))).sz=1 from rfl,Nat.mul_one,Nat.add_zero] at hx67_0)
         (try simp only [show ((Kd.slice 2 (Kd.int .i64))).sz=1 from rfl,Nat.mul_one,Nat.add_zero] at hf67_0)
         (try simp only [Go.IntWalk.toNatUp] at hx67_0)
         (try simp only [Go.IntWalk.toNatUp] at hf67_0)
         clear hcl67 hcc67 hfr67;(try clear hM67)
         replace p67:=eq_true p67
         replace q67:=eq_true q67
         obtain ⟨Ao72,co72,eo72⟩:=Kd.R_slice HO130.out
         (first | subst eo72 | obtain ⟨rfl,rfl⟩:=sl_ eo72)
         have HX71:=Zz.mk (show Kd.N (Kd.slice 2 (Kd.int .i64)) 30 _ w0.heap.size (fun k_=>(P0_ k_∨w.heap.size≤k_)∧some k_≠(.slice Ao20 x8_1.length co20:Value).ownBlock∧some k_≠(.slice Ao72 t128.length co72:Value).ownBlock∧k_≠gb101) (.slice (some ⟨go46,0,none⟩) x0_3.length co22) x0_3 from (Kd.N_mono (HO_0.out) (fun k_ hk=>⟨hk.1.1,⟨hk.1.2.1,⟨hk.2,hk.1.2.2⟩⟩⟩)))
         replace HX71:=Zz.mk (show Kd.N (Kd.slice 2 (Kd.int .i64)) 30 _ w0.heap.size (fun k_=>(P0_ k_∨w.heap.size≤k_)∧some k_≠(.slice Ao20 x8_1.length co20:Value).ownBlock∧k_≠gb101) (.slice (some ⟨go46,0,none⟩) x0_3.length co22) x0_3 from Kd.N_mono HX71.out (fun k_ hk=>⟨hk.1,⟨hk.2.1,hk.2.2.2⟩⟩))
         obtain ⟨ce71,hcl71,hM71,hcc71,hfr71⟩:=Kd.N_elem HX71.out [] (x81_3:Int) (D_) (by have h_:(x81_3:Int)<((x0_3.length:Int):Int):=D_;first | exact h_ | (have e_:=(Kd.N_reads' HO_0.out).1;omega) | simpa using h_)
         obtain ⟨ua71_0,uc71_0,rfl,ul71_0,ge71_0⟩:=Kd.FK_slice_open hM71
         have zR_:=Kd.R_mono (ok':=(fun k_=>((fun k_=>(P0_ k_∨w.heap.size≤k_)∧some k_≠(.slice Ao20 x8_1.length co20:Value).ownBlock∧k_≠gb101)) k_∧k_≠go46)) (Kd.R_apart' (HO130.out) (Kd.N_typed HO_0.out) (by decide)) (fun k_ hk=>⟨⟨hk.1.1.1.1,⟨hk.1.1.2,hk.1.2⟩⟩,fun e_=>(hk.2) (by rw [e_];rfl)⟩)
         have HP71:=(Kd.N_seg HX71.out (x81_3:Int) (D_) (by have h_:(x81_3:Int)<((x0_3.length:Int):Int):=D_;first | exact h_ | (have e_:=(Kd.N_reads' HO_0.out).1;omega) | simpa using h_) (seg:=[.slice Ao72 t128.length co72]) (j:=0) hcl71 hcc71 (show 1≤1 from by decide) (x':=t128) (Kd.FK_slice_mk (Kd.R_reads' (zR_)).2.1 (Kd.R_F (zR_))) (fun _ hk=>hk)).1
         clear zR_
         (try simp only [show ((Kd.slice 2 (Kd.int .i64))).sz=1 from rfl,Nat.mul_one,Nat.add_zero] at HP71)
         rw [← Ny131.out] at HP71
         have HQ71:=Zz.mk HP71
         clear hcl71 hcc71 hfr71 HP71;(try clear hM71)
         refine hK.out _ _ ⟨(bC_ BK101.out 0).trans rfl,HS1_,HS2_⟩ (fun hHeld=>?_)
         clear hK K
         refine NM_ (N:=(some 110)) (h:=?_)
         refine PX_ 15 111 (tb_ 17 65535) HT_ rfl rfl ?_
         refine qIa (i:=16) (N:=none) (tb_ 17 131071) rfl rfl (qA7 HT_.out (by kernel_rfl)) (by decide) (fun K hK=>?_)
         refine qG0 (w1:=?_) (by rfl) rfl ?_ ?_
         rotate_left
         ·go_simp
          rfl
         refine hK.out _ _ ?_
         clear hK K
         refine qDb (qBt HT_.out (by kernel_rfl)) ?_
         try go_wp2
         (try simp only [← hl0_3])
         go_roundg k3
         case measure=>have:=HK1.out;have:=HJ15.out;have:=HK3.out;omega
         case rel=>exact ⟨(y131),(wrap64 (x81_3+1)),E_,H',⟨by have:=HK1.out;have:=HJ15.out;have:=HK3.out;omega⟩,⟨by (try simp only [hl0_15]);(try simp only [hl0_3]);refine NW_ ?_;exact HQ71.out⟩,⟨by (try simp only [hl0_15]);(try simp only [hl0_3]);refine RW_ ?_;exact Kd.R_mono (Kd.R_far (p:=⟨go46,(x81_3:Int).toNat,none⟩) (Kd.R_typesT (g:=go46) HO_8.out (Kd.N_typed HO_0.out) rfl (by decide)) (fun _ hk=>hk.2) (.slice Ao72 t128.length co72)) (fun _ hk=>⟨hk.1.1.1,hk.1.1.2⟩)⟩,⟨by (try simp only [hl0_15]);(try simp only [hl0_3]);refine BW_ ?_;refine bR_ ?_ (by have h_:=Kd.N_away HO_0.out (fun _ hk=>by first | exact hk.2.2 | exact hk.1.2.2 | exact hk.1.1.2.2 | exact hk.1.2.2.2 | exact hk.1.1.2.2.2 | exact hk.2.2);intro e_;exact h_ (by rw [e_];rfl)) _;refine BW_ ?_;exact BK101.out⟩,⟨rW9_ HK.out HMgo46.out GW101.out⟩,⟨by repeat (first | (with_reducible first | exact HB.out | apply qAg | apply qAb | apply qAe | refine qAd ?_ GB46.out | refine qAd ?_ GE101.out) | exact HB.out)⟩⟩
        rw [if_neg c56] at H
        have c56b0:decide (x81_3<(x0_15.length:Int))=false:=decide_eq_false c56
        (try rw [hl0_15] at c56b0)
        (try rw [hl0_3] at c56b0)
        clear c56
        have c73:=O1_ H
        replace H:=O2_ H
        have LMc73:=Zz.mk c73
        clear c73
        obtain ⟨y132,hy132⟩:∃ y_:List Int,y_=(x8_1 ++ [x17_1]):=⟨_,rfl⟩
        replace H:(z87.l0 k3 x0_3 a1 a2 y132 (Int.tmod (wrap64 (x9_15 * (rd (rI_ x0_15 (x8_1.length:Int)) x17_1))) a2) a1 (wrap64 (x17_1+1)))=some (r1,r2,r3):=Y_ hy132 H
        have Ny132:=Zz.mk hy132
        clear hy132
        have H':=Zz.mk H
        clear H
        obtain ⟨hcz74_0,hfz74_0⟩:=Z1f_ BK101.out
        go_wp2_with (first | ((with_reducible refine qA0 (b:=.append) (xs:=#[.tmp 113,.tmp 115]) rfl ?_);at_builtin;refine Kd.R_append (Kd.int .i64) (w0:=w0) w0.heap.size rfl (.tmp 113) (.tmp 115) 30 2 (.int .i64 0) 8 rfl Tryz.underlying30 qB4 rfl (by decide) (by omega) (.slice Ao20 x8_1.length co20) x8_1 x17_1 [.int .i64 x17_1] (fun k_=>(P0_ k_∨w.heap.size≤k_)∧k_≠gb101) (fun _=>False) rfl rfl ?aP (fun _ hk=>hk.elim) ?aF ?aO ?aB ?aS ?aL ?_;(case aP=>exact rfl);(case aB=>exact (B1_ HB.out GE101.out));(case aF=>exact (fun k_ hk=>⟨(.inr (Nat.le_trans (by first | exact HK.out.1 | exact (show Kept w _ (fun k_=>P0_ k_) from by exact rW6_ HK.out GW101.out).1) hk)),Kd.freshB (g:=gb101) (o:=.cells #[.int .i64 x17_1] 2 (0,0)) (KB_ BK101.out) k_ hk⟩));(case aO=>exact (KR_ HO_8.out));(case aS=>exact (bS_ (B1_ HB.out GE101.out)));(case aL=>have:=LMc73.out;omega);intro v133 w75 ho hb hg hat;rw [← Ny132.out] at ho;replace HO_0:=Zz.mk (Kd.N_afterv (ok:=(fun k_=>(P0_ k_∨w.heap.size≤k_)∧k_≠gb101)) (by refine NW_ ?_;exact Kd.N_mono HO_0.out (fun _ hk=>⟨⟨hk.1,hk.2.2⟩,hk.2.1⟩)) hg hat);replace BK101:=Zz.mk (qA9 (g:=gb101) (o:=.cells #[.int .i64 x17_1] 2 (0,0)) (KB_ BK101.out) hg (Kd.R_away HO_8.out (fun _ hk=>hk.2)));replace HB:=Zz.mk (hb);replace HK:=Zz.mk (Kept.of_grown (S:=(fun k_=>P0_ k_)) hg (rW6_ HK.out GW101.out) (fun k_ e_=>(HO_8.out.1 k_ e_).1));have HO134:=Zz.mk (ho);clear HO_8;clear ho hb hg hat))
        (try simp only [← hl0_15,← hl0_3])
        go_roundg k3
        case measure=>have:=HK1.out;have:=HJ15.out;have:=HK3.out;omega
        case rel=>exact ⟨(x0_3),(y132),((Int.tmod (wrap64 (x9_15 * (rd (rI_ x0_15 (x8_1.length:Int)) x17_1))) a2)),(wrap64 (x17_1+1)),E_,E_,H',⟨by have:=HK1.out;have:=HJ15.out;have:=HK3.out;omega⟩,⟨by (try simp only [hl0_15]);(try simp only [hl0_3]);refine NW_ ?_;exact Kd.N_mono HO_0.out (fun _ hk=>⟨hk.1.1,hk.2⟩)⟩,⟨by (try simp only [hl0_15]);(try simp only [hl0_3]);refine RW_ ?_;exact Kd.R_mono HO134.out (fun _ hk=>hk.1)⟩,⟨rW6_ HK.out GW101.out⟩,⟨B1_ HB.out GE101.out⟩⟩
   rw [if_neg c4] at H
   have c4b0:decide (x17_1<a1)=false:=decide_eq_false c4
   clear c4
   simp only [Option.some.injEq,Prod.mk.injEq] at H
   obtain ⟨rfl,rfl,rfl⟩:=H
   go_wp2
   go_ret2
   exact ⟨_,F_,KR_ HO_8.out,by refine NW_ ?_;exact Kd.N_mono HO_0.out (fun _ hk=>hk.1),B_ HB.out,rW8_ HK.out⟩
end Go.Proofs.YtpgjfppbbbnclaaGreat.B
