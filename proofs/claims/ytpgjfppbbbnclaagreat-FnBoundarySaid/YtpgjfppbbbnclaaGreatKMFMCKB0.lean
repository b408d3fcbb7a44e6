/- Printed by a program of this work over the kit's printer. -/
import Derived.Test.YtpgjfppbbbnclaaGreatKIFGODB0
import Derived.Test.YtpgjfppbbbnclaaGreatKLHEKGE0
import Derived.Test.YtpgjfppbbbnclaaGreatKW0
set_option linter.unusedVariables false
set_option linter.unusedSimpArgs false
open Go.RowKit Go.Proofs.YtpgjfppbbbnclaaGreatW.PrintWords
namespace Go.Proofs.YtpgjfppbbbnclaaGreat.B
open Go.Proofs.YtpgjfppbbbnclaaGreatW.PrintLast Go.Proofs.YtpgjfppbbbnclaaGreatW.PrintMore
attribute [local go_sem] qAq qAo qAu qAt qAl qAk qAp qAn
mutual
def z18.j0:Nat→Int→List Int→Bool→List (List Int)→Option (List Int × Int)
 | 0,_,_,_,_=>none
 | k+1,x1,x2,x41,x102000=>if x41=true then (some (([]:List Int),7)) else ((z42.f k x102000 1).bind fun t105=>(if 0≤(t105.length:Int) then (if ((t105.length:Int):Int).toNat≤35184372088832 then (z18.l0 k x1 x2 t105 (List.replicate ((t105.length:Int):Int).toNat 0) 1 x102000) else (none)) else (none)))
def z18.l0:Nat→Int→List Int→List Int→List Int→Int→List (List Int)→Option (List Int × Int)
 | 0,_,_,_,_,_,_=>none
 | k+1,x1,x2,x9,x10,x11,x102000=>if x11<(x2.length:Int) then (if 0≤(wrap64 (x11 - 1)) then (if (wrap64 (x11 - 1))<(x2.length:Int) then (if 0≤x11 then ((z44.f k x102000 (([mn (rd x2 (wrap64 (x11 - 1))) (rd x2 x11),mx (rd x2 (wrap64 (x11 - 1))) (rd x2 x11)]:List Int))).bind fun t116=>((z43.f k x9 t116).bind fun t117=>(if (rd x2 (wrap64 (x11 - 1)))=(rd x2 x11) then (z18.j2 k x1 x2 x9 x10 x11 (rd x2 (wrap64 (x11 - 1))) (rd x2 x11) t117 true x102000) else (z18.j2 k x1 x2 x9 x10 x11 (rd x2 (wrap64 (x11 - 1))) (rd x2 x11) t117 (decide (t117<0)) x102000)))) else (none)) else (none)) else (none)) else (some (x10,0))
def z18.j2:Nat→Int→List Int→List Int→List Int→Int→Int→Int→Int→Bool→List (List Int)→Option (List Int × Int)
 | 0,_,_,_,_,_,_,_,_,_,_=>none
 | k+1,x1,x2,x9,x10,x11,x12,x13,x14,x79,x102000=>if x79=true then (some (([]:List Int),3)) else (if x12 > x13 then (if 0≤x14 then (if x14<(x10.length:Int) then (if x1=0 then (none) else (z18.l0 k x1 x2 x9 (x10.set (x14:Int).toNat (Int.tmod (wrap64 ((rd x10 x14)+(wrap64 (x1 - 1)))) x1)) (wrap64 (x11+1)) x102000)) else (none)) else (none)) else (if 0≤x14 then (if x14<(x10.length:Int) then (if x1=0 then (none) else (z18.l0 k x1 x2 x9 (x10.set (x14:Int).toNat (Int.tmod (wrap64 ((rd x10 x14)+1)) x1)) (wrap64 (x11+1)) x102000)) else (none)) else (none)))
end
def z18.f (k:Nat) (l0_0:List (List Int)) (a1:Int) (l2:List Int):Option (List Int × Int):=(z37.f k l0_0 1 a1).bind fun t102=>(if t102=0 then (if (l2.length:Int)<2 then (z18.j0 k a1 l2 true l0_0) else (if (l2.length:Int) > 64 then (z18.j0 k a1 l2 true l0_0) else (if 0<(l2.length:Int) then (if 0≤(wrap64 ((l2.length:Int) - 1)) then (if (wrap64 ((l2.length:Int) - 1))<(l2.length:Int) then (z18.j0 k a1 l2 ((rd l2 0) != (rd l2 (wrap64 ((l2.length:Int) - 1)))) l0_0) else (none)) else (none)) else (none)))) else (some (([]:List Int),t102)))
set_option maxHeartbeats 8000000 in
set_option maxRecDepth 100000 in
theorem z18.calls (k:Nat) (A0_0:Option Addr) (c0_0:Nat) (l0_0:List (List Int)) (a1:Int) (A2:Option Addr) (c2:Nat) (l2:List Int) (r1:List Int) (r2:Int) (w:World) (hr0_0:Kd.C (Kd.slice 2 (Kd.int .i64)) w A0_0 l0_0.length l0_0) (hc0_0:l0_0.length≤c0_0) (hr2:Kd.C (Kd.int .i64) w A2 l2.length l2) (hc2:l2.length≤c2) (h:z18.f k l0_0 a1 l2=some (r1,r2)) :
  Calls Tryz.prog 18 #[.agg #[.slice A0_0 l0_0.length c0_0],.int .i64 a1,.slice A2 l2.length c2] w fun e w'=>∃ v0_:Value,e=.returned (.tuple #[v0_,.int .i64 r2])∧Kd.R (Kd.int .i64) 2 w' w.heap.size (fun _=>True) v0_ r1∧Below w.heap.size w w':=by
 have hu26:=Tryz.underlying26
 have HR0_0:=Zz.mk hr0_0
 have HC0_0:=Zz.mk hc0_0
 clear hr0_0 hc0_0
 have HR2:=Zz.mk hr2
 have HC2:=Zz.mk hc2
 clear hr2 hc2
 have HB:=Zz.mk (Below.refl w.heap.size w)
 have H:((z37.f k l0_0 1 a1).bind fun t102=>(if t102=0 then (if (l2.length:Int)<2 then (z18.j0 k a1 l2 true l0_0) else (if (l2.length:Int) > 64 then (z18.j0 k a1 l2 true l0_0) else (if 0<(l2.length:Int) then (if 0≤(wrap64 ((l2.length:Int) - 1)) then (if (wrap64 ((l2.length:Int) - 1))<(l2.length:Int) then (z18.j0 k a1 l2 ((rd l2 0) != (rd l2 (wrap64 ((l2.length:Int) - 1)))) l0_0) else (none)) else (none)) else (none)))) else (some (([]:List Int),t102))))=some (r1,r2):=h
 clear h
 replace H:=OB_ H
 obtain ⟨t102,A40,H⟩:=H
 replace H:(if t102=0 then (if (l2.length:Int)<2 then (z18.j0 k a1 l2 true l0_0) else (if (l2.length:Int) > 64 then (z18.j0 k a1 l2 true l0_0) else (if 0<(l2.length:Int) then (if 0≤(wrap64 ((l2.length:Int) - 1)) then (if (wrap64 ((l2.length:Int) - 1))<(l2.length:Int) then (z18.j0 k a1 l2 ((rd l2 0) != (rd l2 (wrap64 ((l2.length:Int) - 1)))) l0_0) else (none)) else (none)) else (none)))) else (some (([]:List Int),t102)))=some (r1,r2):=H
 have A4:=Zz.mk A40
 clear A40
 by_cases c5:t102=0
 ·rw [if_pos c5] at H
  have c5b0:(t102 == 0)=true:=beq_iff_eq.mpr c5
  have c5b1:(t102 != 0)=false:=bne_eq_false_iff_eq.mpr c5
  clear c5
  have HC6:=Zz.mk H
  clear H
  go_enter Tryz.func18,Tryz.ntmps18
  go_upto_region 4 with (first | ((with_reducible refine qAm (N:=3) rfl ?_);(try (refine qBk (by rfl) ?_;dsimp only));refine bx_ 3 #[.slice A0_0 l0_0.length c0_0] 26 ?_;intro gb101 hg w7 hbox hb;have BK101:=Zz.mk (hbox);have GW101:=Zz.mk ((gw_ hg (B_ HB.out)));have GE101:=GW101;replace HB:=Zz.mk (bT_ (B_ HB.out) hb);clear hb hbox hg;obtain ⟨hcz8_0,hfz8_0⟩:=Z1f_ BK101.out) | (go_at_call 37;(with_reducible refine (z37.calls k _ _ l0_0 1 a1 t102 _ ?side1 ?side2 A4.out).mono ?_);(case side1=>exact KC_ (Kd.C_below HR0_0.out HB.out));(case side2=>exact HC0_0.out);rintro e w9 ⟨rfl,hb⟩;replace BK101:=Zz.mk (kb_ BK101.out hb);replace HB:=Zz.mk (bT_ (B1_ HB.out GE101.out) hb);(try clear hb)))
  repeat (go_quiet (first | ((with_reducible refine qAm (N:=3) rfl ?_);(try (refine qBk (by rfl) ?_;dsimp only));refine bx_ 3 #[.slice A0_0 l0_0.length c0_0] 26 ?_;intro gb101 hg w7 hbox hb;have BK101:=Zz.mk (hbox);have GW101:=Zz.mk ((gw_ hg (B_ HB.out)));have GE101:=GW101;replace HB:=Zz.mk (bT_ (B_ HB.out) hb);clear hb hbox hg;obtain ⟨hcz8_0,hfz8_0⟩:=Z1f_ BK101.out) | (go_at_call 37;(with_reducible refine (z37.calls k _ _ l0_0 1 a1 t102 _ ?side1 ?side2 A4.out).mono ?_);(case side1=>exact KC_ (Kd.C_below HR0_0.out HB.out));(case side2=>exact HC0_0.out);rintro e w9 ⟨rfl,hb⟩;replace BK101:=Zz.mk (kb_ BK101.out hb);replace HB:=Zz.mk (bT_ (B1_ HB.out GE101.out) hb);(try clear hb)));go_upto_region 4 with (first | ((with_reducible refine qAm (N:=3) rfl ?_);(try (refine qBk (by rfl) ?_;dsimp only));refine bx_ 3 #[.slice A0_0 l0_0.length c0_0] 26 ?_;intro gb101 hg w7 hbox hb;have BK101:=Zz.mk (hbox);have GW101:=Zz.mk ((gw_ hg (B_ HB.out)));have GE101:=GW101;replace HB:=Zz.mk (bT_ (B_ HB.out) hb);clear hb hbox hg;obtain ⟨hcz8_0,hfz8_0⟩:=Z1f_ BK101.out) | (go_at_call 37;(with_reducible refine (z37.calls k _ _ l0_0 1 a1 t102 _ ?side1 ?side2 A4.out).mono ?_);(case side1=>exact KC_ (Kd.C_below HR0_0.out HB.out));(case side2=>exact HC0_0.out);rintro e w9 ⟨rfl,hb⟩;replace BK101:=Zz.mk (kb_ BK101.out hb);replace HB:=Zz.mk (bT_ (B1_ HB.out GE101.out) hb);(try clear hb))))
  (try simp only [Act.put,List.setIfInBounds_toArray,List.set_cons_zero,List.set_cons_succ])
  go_cut [41] (fun v41 wc=>∃ (kq:Nat) (x41_5:Bool),v41=.bool x41_5∧Zz (z18.j0 kq a1 l2 x41_5 l0_0=some (r1,r2))∧Zz (kq≤k)∧Zz (wc.heap[gb101]?=some (.cells #[(.slice A0_0 l0_0.length c0_0)] 26 (0,0)))∧Zz (Below w.heap.size w wc))
  case first =>
   have H:=HC6.out
   clear HC6
   by_cases c10:(l2.length:Int)<2
   ·rw [if_pos c10] at H
    have c10b0:decide ((l2.length:Int)<2)=true:=decide_eq_true c10
    have c10b1:decide (l2.length<2)=true:=decide_eq_true (by omega)
    clear c10
    (first | rw [c10b0] | (simp only [qBl,qCi];rw [c10b0]) | skip)
    have H':=Zz.mk H
    clear H
    go_wp2
    repeat (go_quiet (fail);try go_wp2)
    go_meet
    case rel=>exact ⟨_,(true),E_,H',⟨by first | omega | exact Nat.le_refl _⟩,⟨KB_ BK101.out⟩,⟨B1_ HB.out GE101.out⟩⟩
   rw [if_neg c10] at H
   have c10b0:decide ((l2.length:Int)<2)=false:=decide_eq_false c10
   have c10b1:decide (l2.length<2)=false:=decide_eq_false (by omega)
   clear c10
   (first | rw [c10b0] | (simp only [qBl,qCi];rw [c10b0]) | skip)
   by_cases c11:(l2.length:Int) > 64
   ·rw [if_pos c11] at H
    have c11b0:decide (64<(l2.length:Int))=true:=decide_eq_true c11
    have c11b1:decide (64<l2.length)=true:=decide_eq_true (by omega)
    clear c11
    have H':=Zz.mk H
    clear H
    go_wp2
    repeat (go_quiet (fail);try go_wp2)
    go_meet
    case rel=>exact ⟨_,(true),E_,H',⟨by first | omega | exact Nat.le_refl _⟩,⟨KB_ BK101.out⟩,⟨B1_ HB.out GE101.out⟩⟩
   rw [if_neg c11] at H
   have c11b0:decide (64<(l2.length:Int))=false:=decide_eq_false c11
   have c11b1:decide (64<l2.length)=false:=decide_eq_false (by omega)
   clear c11
   have c12:=O1_ H
   replace H:=O2_ H
   have c12b0:=decide_eq_true c12
   have c12b1:decide (0<l2.length)=true:=decide_eq_true (by omega)
   clear c12
   obtain ⟨ji13,hji13⟩:∃ j_:Int,(wrap64 ((l2.length:Int) - 1))=j_:=⟨_,rfl⟩
   replace H:(if 0≤(ji13) then (if (ji13)<(l2.length:Int) then (z18.j0 k a1 l2 ((rd l2 0) != (rd l2 (ji13))) l0_0) else (none)) else (none))=some (r1,r2):=by first | (rw [hji13] at H;exact H) | (simp only [hji13] at H ⊢;exact H)
   have hji13w:(IntKind.i64.wrap ((l2.length:Int) - 1))=ji13:=(qBl _).trans hji13
   have c14b0:=O3_ H
   replace H:=O2_ H
   have c15b0:=O3_ H
   replace H:=O2_ H
   have H':=Zz.mk H
   clear H
   have p103:0≤(0:Int):=(by omega)
   have q103:0<(l2.length:Int):=D_
   obtain ⟨ad103,e103,hx103_0⟩:=Kd.at_int HR2.out 0 p103 q103
   cases e103
   have qi103:(0<l2.length)=True:=eq_true (by omega)
   (try rw [show ((0:Int)).toNat=0 from rfl] at hx103_0)
   (try rw [Addr.add_zero'] at hx103_0)
   replace hx103_0:=(HB.out.cell (World.block_lt_of_cell? w _ hx103_0)).trans hx103_0
   replace p103:=eq_true p103
   replace q103:=eq_true q103
   have p104:0≤((ji13):Int):=D_
   have q104:(ji13)<(l2.length:Int):=D_
   obtain ⟨ad104,e104,hx104_0⟩:=Kd.at_int HR2.out (ji13) p104 q104
   obtain rfl:ad103=ad104:=(by injection e104)
   replace hx104_0:=(HB.out.cell (World.block_lt_of_cell? w _ hx104_0)).trans hx104_0
   replace p104:=eq_true p104
   replace q104:=eq_true q104
   go_wp2
   repeat (go_quiet (fail);try go_wp2)
   go_meet
   case rel=>exact ⟨_,(((rd l2 0) != (rd l2 (ji13)))),(by first | rfl | (simp;done) | (simp only [← hji13] <;> (first | rfl | simp)) | (simp [*];done)),H',⟨by first | omega | exact Nat.le_refl _⟩,⟨KB_ BK101.out⟩,⟨B1_ HB.out GE101.out⟩⟩
  case rest =>
   clear HC6
   (try clear c2);(try clear c5);(try clear c5b0);(try clear c5b1);(try clear hcz8_0);(try clear hfz8_0)
   obtain ⟨kq,x41_5,rfl,HA,HJ5,BK101,HB⟩:=hcut
   cases kq with
   | zero=>exact absurd HA.out (by simp [z18.j0])
   | succ kj5 =>
    have H:=HA.out
    clear HA
    simp only [z18.j0] at H
    by_cases c16:x41_5=true
    ·subst c16
     have H1:(some (([]:List Int),7))=some (r1,r2):=by rw [if_pos rfl] at H;exact H
     clear H
     have H:=H1
     clear H1
     simp only [Option.some.injEq,Prod.mk.injEq] at H
     obtain ⟨rfl,rfl⟩:=H
     go_wp2
     repeat (go_quiet (fail);try go_wp2)
     go_ret2
     exact ⟨_,F_,by first | exact Kd.R_nil _ _ _ _ _ | exact Kd.N_nil _ _ _ _ _ | exact Kd.V_nil _ _ _ _ _ | exact Kd.Q_nil _ _ _ _ _ | exact Kd.S_nil _ _ _ _ _,B1_ HB.out GE101.out⟩
    replace c16:=Bool.eq_false_iff.mpr c16
    subst c16
    have H1:((z42.f kj5 l0_0 1).bind fun t105=>(if 0≤(t105.length:Int) then (if ((t105.length:Int):Int).toNat≤35184372088832 then (z18.l0 kj5 a1 l2 t105 (List.replicate ((t105.length:Int):Int).toNat 0) 1 l0_0) else (none)) else (none)))=some (r1,r2):=by rw [if_neg (show ¬ (false=true) by decide)] at H;exact H
    clear H
    have H:=H1
    clear H1
    replace H:=OB_ H
    obtain ⟨t105,A170,H⟩:=H
    replace H:(if 0≤(t105.length:Int) then (if ((t105.length:Int):Int).toNat≤35184372088832 then (z18.l0 kj5 a1 l2 t105 (List.replicate ((t105.length:Int):Int).toNat 0) 1 l0_0) else (none)) else (none))=some (r1,r2):=H
    have A17:=Zz.mk A170
    clear A170
    have c18:=O1_ H
    replace H:=O2_ H
    have c18b0:=eq_true c18
    have c18b1:decide (0≤(t105.length:Int))=true:=decide_eq_true c18
    clear c18
    have c19:=O1_ H
    replace H:=O2_ H
    have c19b0:=eq_true c19
    have c19b1:decide (((t105.length:Int):Int).toNat≤35184372088832)=true:=decide_eq_true c19
    clear c19
    obtain ⟨y108,hy108⟩:∃ y_:List Int,y_=(List.replicate ((t105.length:Int):Int).toNat 0):=⟨_,rfl⟩
    replace H:(z18.l0 kj5 a1 l2 t105 y108 1 l0_0)=some (r1,r2):=Y_ hy108 H
    have Ny108:=Zz.mk hy108
    clear hy108
    have H':=Zz.mk H
    clear H
    obtain ⟨hcz20_0,hfz20_0⟩:=Z1f_ BK101.out
    go_wp2_with (first | (go_at_call 42;(with_reducible refine (z42.calls kj5 _ _ l0_0 1 t105 _ ?side1 ?side2 A17.out).mono ?_);(case side1=>exact KC_ (Kd.C_below HR0_0.out HB.out));(case side2=>exact HC0_0.out);rintro e w21 ⟨v106,rfl,ho0,hb⟩;have HO107:=Zz.mk (Kd.R_lower ho0 (bS_ (B1_ HB.out GE101.out)));replace BK101:=Zz.mk (kb_ BK101.out hb);replace HB:=Zz.mk (bT_ (B1_ HB.out GE101.out) hb);(try clear hb);(try clear ho0);obtain ⟨Ao22,co22,eo22⟩:=Kd.R_slice HO107.out;subst eo22) | ((with_reducible refine qAm (N:=46) rfl ?_);(try (refine qBk (by rfl) ?_;dsimp only));refine Kd.R_make (Kd.int .i64) _ 2 rfl (N:=46) rfl 30 _ _ rfl (t105.length:Int) rfl rfl Tryz.underlying30 (.int .i64 0) 8 qB4 rfl (by decide) (by omega) 0 (ok:=fun _=>True) (okp:=fun _=>True) rfl (fun _ hk=>hk) trivial (D_) (Nat.le_trans (Nat.mul_le_mul_right _ (D_:(t105.length:Int).toNat≤35184372088832)) (by omega)) (Below.refl _ _) (Nat.le_refl _) ?_;intro v109 w23 ho24 hb hg_ hnew_;clear hg_ hnew_;(first | rw [← Ny108.out] at ho24 | (simp only [Int.reduceToNat] at ho24;rw [← Ny108.out] at ho24));have HO110:=Zz.mk (Kd.R_lower (Kd.R_new' ho24 (Kd.R_lt (KR_ HO107.out))) (bS_ (B1_ HB.out GE101.out)));replace HO107:=Zz.mk (Kd.R_elder' (KR_ HO107.out) (Kd.R_base ho24) hb);replace BK101:=Zz.mk (kb_ BK101.out hb);replace HB:=Zz.mk (bT_ (B1_ HB.out GE101.out) hb);clear hb ho24))
    repeat (go_quiet (first | (go_at_call 42;(with_reducible refine (z42.calls kj5 _ _ l0_0 1 t105 _ ?side1 ?side2 A17.out).mono ?_);(case side1=>exact KC_ (Kd.C_below HR0_0.out HB.out));(case side2=>exact HC0_0.out);rintro e w21 ⟨v106,rfl,ho0,hb⟩;have HO107:=Zz.mk (Kd.R_lower ho0 (bS_ (B1_ HB.out GE101.out)));replace BK101:=Zz.mk (kb_ BK101.out hb);replace HB:=Zz.mk (bT_ (B1_ HB.out GE101.out) hb);(try clear hb);(try clear ho0);obtain ⟨Ao22,co22,eo22⟩:=Kd.R_slice HO107.out;subst eo22) | ((with_reducible refine qAm (N:=46) rfl ?_);(try (refine qBk (by rfl) ?_;dsimp only));refine Kd.R_make (Kd.int .i64) _ 2 rfl (N:=46) rfl 30 _ _ rfl (t105.length:Int) rfl rfl Tryz.underlying30 (.int .i64 0) 8 qB4 rfl (by decide) (by omega) 0 (ok:=fun _=>True) (okp:=fun _=>True) rfl (fun _ hk=>hk) trivial (D_) (Nat.le_trans (Nat.mul_le_mul_right _ (D_:(t105.length:Int).toNat≤35184372088832)) (by omega)) (Below.refl _ _) (Nat.le_refl _) ?_;intro v109 w23 ho24 hb hg_ hnew_;clear hg_ hnew_;(first | rw [← Ny108.out] at ho24 | (simp only [Int.reduceToNat] at ho24;rw [← Ny108.out] at ho24));have HO110:=Zz.mk (Kd.R_lower (Kd.R_new' ho24 (Kd.R_lt (KR_ HO107.out))) (bS_ (B1_ HB.out GE101.out)));replace HO107:=Zz.mk (Kd.R_elder' (KR_ HO107.out) (Kd.R_base ho24) hb);replace BK101:=Zz.mk (kb_ BK101.out hb);replace HB:=Zz.mk (bT_ (B1_ HB.out GE101.out) hb);clear hb ho24));try go_wp2_with (first | (go_at_call 42;(with_reducible refine (z42.calls kj5 _ _ l0_0 1 t105 _ ?side1 ?side2 A17.out).mono ?_);(case side1=>exact KC_ (Kd.C_below HR0_0.out HB.out));(case side2=>exact HC0_0.out);rintro e w21 ⟨v106,rfl,ho0,hb⟩;have HO107:=Zz.mk (Kd.R_lower ho0 (bS_ (B1_ HB.out GE101.out)));replace BK101:=Zz.mk (kb_ BK101.out hb);replace HB:=Zz.mk (bT_ (B1_ HB.out GE101.out) hb);(try clear hb);(try clear ho0);obtain ⟨Ao22,co22,eo22⟩:=Kd.R_slice HO107.out;subst eo22) | ((with_reducible refine qAm (N:=46) rfl ?_);(try (refine qBk (by rfl) ?_;dsimp only));refine Kd.R_make (Kd.int .i64) _ 2 rfl (N:=46) rfl 30 _ _ rfl (t105.length:Int) rfl rfl Tryz.underlying30 (.int .i64 0) 8 qB4 rfl (by decide) (by omega) 0 (ok:=fun _=>True) (okp:=fun _=>True) rfl (fun _ hk=>hk) trivial (D_) (Nat.le_trans (Nat.mul_le_mul_right _ (D_:(t105.length:Int).toNat≤35184372088832)) (by omega)) (Below.refl _ _) (Nat.le_refl _) ?_;intro v109 w23 ho24 hb hg_ hnew_;clear hg_ hnew_;(first | rw [← Ny108.out] at ho24 | (simp only [Int.reduceToNat] at ho24;rw [← Ny108.out] at ho24));have HO110:=Zz.mk (Kd.R_lower (Kd.R_new' ho24 (Kd.R_lt (KR_ HO107.out))) (bS_ (B1_ HB.out GE101.out)));replace HO107:=Zz.mk (Kd.R_elder' (KR_ HO107.out) (Kd.R_base ho24) hb);replace BK101:=Zz.mk (kb_ BK101.out hb);replace HB:=Zz.mk (bT_ (B1_ HB.out GE101.out) hb);clear hb ho24)))
    go_loopg [11] kj5 (fun kq v11 w'=>∃ (x10_2:List Int) (x11_2:Int),v11=.int .i64 x11_2∧Zz (z18.l0 kq a1 l2 t105 x10_2 x11_2 l0_0=some (r1,r2))∧Zz (kq≤kj5)∧Zz (Kd.R (Kd.int .i64) 2 w' w.heap.size (fun k_=>some k_≠(v109:Value).ownBlock) (.slice Ao22 t105.length co22) t105)∧Zz (Kd.R (Kd.int .i64) 2 w' w.heap.size (fun k_=>some k_≠((.slice Ao22 t105.length co22):Value).ownBlock) v109 x10_2)∧Zz (w'.heap[gb101]?=some (.cells #[(.slice A0_0 l0_0.length c0_0)] 26 (0,0)))∧Zz (Below w.heap.size w w'))
    case atStart=>exact ⟨(y108),(1),E_,H',⟨Nat.le_refl _⟩,⟨by refine RW_ ?_;exact Kd.R_mono HO107.out (fun _ hk=>hk.2)⟩,⟨by refine RW_ ?_;exact Kd.R_mono HO110.out (fun _ hk=>hk.2)⟩,⟨KB_ BK101.out⟩,⟨B1_ HB.out GE101.out⟩⟩
    case round =>
     clear H'
     (try clear c2);(try clear c5);(try clear c5b0);(try clear c5b1);(try clear c16);(try clear c18);(try clear c18b0);(try clear c18b1);(try clear c19);(try clear c19b0);(try clear c19b1);(try clear hcz20_0);(try clear hcz8_0);(try clear hfz20_0);(try clear hfz8_0)
     obtain ⟨x10_2,x11_2,rfl,HA,HK2,HO_9,HO_10,BK101,HB⟩:=hrel
     cases gk with
     | zero=>exact absurd HA.out (by simp [z18.l0])
     | succ k2 =>
      have H:=HA.out
      clear HA
      simp only [z18.l0] at H
      by_cases c25:x11_2<(l2.length:Int)
      ·rw [if_pos c25] at H
       have c25b0:decide (x11_2<(l2.length:Int))=true:=decide_eq_true c25
       clear c25
       obtain ⟨ji26,hji26⟩:∃ j_:Int,(wrap64 (x11_2 - 1))=j_:=⟨_,rfl⟩
       replace H:(if 0≤(ji26) then (if (ji26)<(l2.length:Int) then (if 0≤x11_2 then ((z44.f k2 l0_0 (([mn (rd l2 (ji26)) (rd l2 x11_2),mx (rd l2 (ji26)) (rd l2 x11_2)]:List Int))).bind fun t116=>((z43.f k2 t105 t116).bind fun t117=>(if (rd l2 (ji26))=(rd l2 x11_2) then (z18.j2 k2 a1 l2 t105 x10_2 x11_2 (rd l2 (ji26)) (rd l2 x11_2) t117 true l0_0) else (z18.j2 k2 a1 l2 t105 x10_2 x11_2 (rd l2 (ji26)) (rd l2 x11_2) t117 (decide (t117<0)) l0_0)))) else (none)) else (none)) else (none))=some (r1,r2):=by first | (rw [hji26] at H;exact H) | (simp only [hji26] at H ⊢;exact H)
       have hji26w:(IntKind.i64.wrap (x11_2 - 1))=ji26:=(qBl _).trans hji26
       have c27b0:=O3_ H
       replace H:=O2_ H
       have c28b0:=O3_ H
       replace H:=O2_ H
       have c29b0:=O3_ H
       replace H:=O2_ H
       obtain ⟨ji30,hji30⟩:∃ j_:Int,(mn (rd l2 (ji26)) (rd l2 x11_2))=j_:=⟨_,rfl⟩
       replace H:((z44.f k2 l0_0 (([ji30,mx (rd l2 (ji26)) (rd l2 x11_2)]:List Int))).bind fun t116=>((z43.f k2 t105 t116).bind fun t117=>(if (rd l2 (ji26))=(rd l2 x11_2) then (z18.j2 k2 a1 l2 t105 x10_2 x11_2 (rd l2 (ji26)) (rd l2 x11_2) t117 true l0_0) else (z18.j2 k2 a1 l2 t105 x10_2 x11_2 (rd l2 (ji26)) (rd l2 x11_2) t117 (decide (t117<0)) l0_0))))=some (r1,r2):=by first | (rw [hji30] at H;exact H) | (simp only [hji30] at H ⊢;exact H)
       have hji30_:(if (rd l2 x11_2)<(rd l2 (ji26)) then (rd l2 x11_2) else (rd l2 (ji26)))=ji30:=hji30
       obtain ⟨ji31,hji31⟩:∃ j_:Int,(mx (rd l2 (ji26)) (rd l2 x11_2))=j_:=⟨_,rfl⟩
       replace H:((z44.f k2 l0_0 (([ji30,ji31]:List Int))).bind fun t116=>((z43.f k2 t105 t116).bind fun t117=>(if (rd l2 (ji26))=(rd l2 x11_2) then (z18.j2 k2 a1 l2 t105 x10_2 x11_2 (rd l2 (ji26)) (rd l2 x11_2) t117 true l0_0) else (z18.j2 k2 a1 l2 t105 x10_2 x11_2 (rd l2 (ji26)) (rd l2 x11_2) t117 (decide (t117<0)) l0_0))))=some (r1,r2):=by first | (rw [hji31] at H;exact H) | (simp only [hji31] at H ⊢;exact H)
       have hji31_:(if (rd l2 (ji26))<(rd l2 x11_2) then (rd l2 x11_2) else (rd l2 (ji26)))=ji31:=hji31
       obtain ⟨y113,hy113⟩:∃ y_:List Int,y_=(([ji30,ji31]:List Int)):=⟨_,rfl⟩
       replace H:((z44.f k2 l0_0 y113).bind fun t116=>((z43.f k2 t105 t116).bind fun t117=>(if (rd l2 (ji26))=(rd l2 x11_2) then (z18.j2 k2 a1 l2 t105 x10_2 x11_2 (rd l2 (ji26)) (rd l2 x11_2) t117 true l0_0) else (z18.j2 k2 a1 l2 t105 x10_2 x11_2 (rd l2 (ji26)) (rd l2 x11_2) t117 (decide (t117<0)) l0_0))))=some (r1,r2):=Y_ hy113 H
       have Ny113:=Zz.mk hy113
       clear hy113
       replace H:=OB_ H
       obtain ⟨t116,A320,H⟩:=H
       replace H:((z43.f k2 t105 t116).bind fun t117=>(if (rd l2 (ji26))=(rd l2 x11_2) then (z18.j2 k2 a1 l2 t105 x10_2 x11_2 (rd l2 (ji26)) (rd l2 x11_2) t117 true l0_0) else (z18.j2 k2 a1 l2 t105 x10_2 x11_2 (rd l2 (ji26)) (rd l2 x11_2) t117 (decide (t117<0)) l0_0)))=some (r1,r2):=H
       have A32:=Zz.mk A320
       clear A320
       replace H:=OB_ H
       obtain ⟨t117,A330,H⟩:=H
       replace H:(if (rd l2 (ji26))=(rd l2 x11_2) then (z18.j2 k2 a1 l2 t105 x10_2 x11_2 (rd l2 (ji26)) (rd l2 x11_2) t117 true l0_0) else (z18.j2 k2 a1 l2 t105 x10_2 x11_2 (rd l2 (ji26)) (rd l2 x11_2) t117 (decide (t117<0)) l0_0))=some (r1,r2):=H
       have A33:=Zz.mk A330
       clear A330
       have HC34:=Zz.mk H
       clear H
       have p111:0≤((ji26):Int):=D_
       have q111:(ji26)<(l2.length:Int):=D_
       obtain ⟨ad111,e111,hx111_0⟩:=Kd.at_int HR2.out (ji26) p111 q111
       cases e111
       replace hx111_0:=(HB.out.cell (World.block_lt_of_cell? w _ hx111_0)).trans hx111_0
       replace p111:=eq_true p111
       replace q111:=eq_true q111
       have p112:0≤(x11_2:Int):=D_
       have q112:x11_2<(l2.length:Int):=D_
       obtain ⟨ad112,e112,hx112_0⟩:=Kd.at_int HR2.out x11_2 p112 q112
       obtain rfl:ad111=ad112:=(by injection e112)
       replace hx112_0:=(HB.out.cell (World.block_lt_of_cell? w _ hx112_0)).trans hx112_0
       replace p112:=eq_true p112
       replace q112:=eq_true q112
       obtain ⟨hcz35_0,hfz35_0⟩:=Z1f_ BK101.out
       go_upto_region 13 with (first | ((with_reducible refine qAm (N:=70) rfl ?_);(try (refine qBk (by rfl) ?_;dsimp only));refine Kd.R_lit (Kd.int .i64) _ 2 ?hg (N:=70) ?hd (xs:=([ji30,ji31]:List Int)) (inner:=[.int .i64 ji30,.int .i64 ji31]) (ok:=fun _=>True) (okp:=fun _=>True) ?hr ?hp (fun _ hk=>hk) trivial (Below.refl _ _) (Nat.le_refl _) (by simp) ?_;(case hd=>rfl);(case hg=>rfl);(case hr=>first | (go_simp;done) | (go_simp;rfl));(case hp=>exact (Reps.one (show Kd.M (Kd.int .i64) _ _ _ ji30 [.int .i64 ji30] from rfl) (Reps.one (show Kd.M (Kd.int .i64) _ _ _ ji31 [.int .i64 ji31] from rfl) (Reps.none _ _))));intro v114 w36 ho37 hb hg_ hnew_;clear hg_ hnew_;(first | rw [← Ny113.out] at ho37 | (simp only [Int.reduceToNat] at ho37;rw [← Ny113.out] at ho37));have HO115:=Zz.mk (Kd.R_lower (Kd.R_new' (Kd.R_new' ho37 (Kd.R_lt (KR_ HO_9.out))) (Kd.R_lt (KR_ HO_10.out))) (bS_ (B1_ HB.out GE101.out)));replace HO_9:=Zz.mk (Kd.R_elder' (KR_ HO_9.out) (Kd.R_base ho37) hb);replace HO_10:=Zz.mk (Kd.R_elder' (KR_ HO_10.out) (Kd.R_base ho37) hb);replace BK101:=Zz.mk (kb_ BK101.out hb);replace HB:=Zz.mk (bT_ (B1_ HB.out GE101.out) hb);clear hb ho37;obtain ⟨Ao38,co38,eo38⟩:=Kd.R_slice HO115.out;subst eo38) | (go_at_call 44;(with_reducible refine (z44.calls k2 _ _ l0_0 _ _ y113 t116 _ ?side1 ?side2 ?side3 ?side4 A32.out).mono ?_);(case side1=>exact KC_ (Kd.C_below HR0_0.out HB.out));(case side2=>exact HC0_0.out);(case side3=>exact KC_ (Kd.R_reads' HO115.out).2.2);(case side4=>exact (Kd.R_reads' HO115.out).2.1);rintro e w39 ⟨rfl,hb⟩;replace HO_9:=Zz.mk (Kd.R_below (KR_ HO_9.out) hb);replace HO_10:=Zz.mk (Kd.R_below (KR_ HO_10.out) hb);replace HO115:=Zz.mk (Kd.R_below (KR_ HO115.out) hb);replace BK101:=Zz.mk (kb_ BK101.out hb);replace HB:=Zz.mk (bT_ (B1_ HB.out GE101.out) hb);(try clear hb)) | (go_at_call 43;(with_reducible refine (z43.calls k2 _ _ t105 t116 t117 _ ?side1 ?side2 A33.out).mono ?_);(case side1=>exact KC_ (Kd.R_reads' HO_9.out).2.2);(case side2=>exact (Kd.R_reads' HO_9.out).2.1);rintro e w' ⟨rfl,⟨nd,rfl⟩⟩;(try first | exact ⟨rfl,_,World.drewN_drewN _ _ _⟩ | exact ⟨rfl,_,Eq.trans (World.drewN_drewN _ _ _) (congrArg (World.drewN _) (Nat.add_assoc _ _ _))⟩)))
       repeat (go_quiet (first | ((with_reducible refine qAm (N:=70) rfl ?_);(try (refine qBk (by rfl) ?_;dsimp only));refine Kd.R_lit (Kd.int .i64) _ 2 ?hg (N:=70) ?hd (xs:=([ji30,ji31]:List Int)) (inner:=[.int .i64 ji30,.int .i64 ji31]) (ok:=fun _=>True) (okp:=fun _=>True) ?hr ?hp (fun _ hk=>hk) trivial (Below.refl _ _) (Nat.le_refl _) (by simp) ?_;(case hd=>rfl);(case hg=>rfl);(case hr=>first | (go_simp;done) | (go_simp;rfl));(case hp=>exact (Reps.one (show Kd.M (Kd.int .i64) _ _ _ ji30 [.int .i64 ji30] from rfl) (Reps.one (show Kd.M (Kd.int .i64) _ _ _ ji31 [.int .i64 ji31] from rfl) (Reps.none _ _))));intro v114 w36 ho37 hb hg_ hnew_;clear hg_ hnew_;(first | rw [← Ny113.out] at ho37 | (simp only [Int.reduceToNat] at ho37;rw [← Ny113.out] at ho37));have HO115:=Zz.mk (Kd.R_lower (Kd.R_new' (Kd.R_new' ho37 (Kd.R_lt (KR_ HO_9.out))) (Kd.R_lt (KR_ HO_10.out))) (bS_ (B1_ HB.out GE101.out)));replace HO_9:=Zz.mk (Kd.R_elder' (KR_ HO_9.out) (Kd.R_base ho37) hb);replace HO_10:=Zz.mk (Kd.R_elder' (KR_ HO_10.out) (Kd.R_base ho37) hb);replace BK101:=Zz.mk (kb_ BK101.out hb);replace HB:=Zz.mk (bT_ (B1_ HB.out GE101.out) hb);clear hb ho37;obtain ⟨Ao38,co38,eo38⟩:=Kd.R_slice HO115.out;subst eo38) | (go_at_call 44;(with_reducible refine (z44.calls k2 _ _ l0_0 _ _ y113 t116 _ ?side1 ?side2 ?side3 ?side4 A32.out).mono ?_);(case side1=>exact KC_ (Kd.C_below HR0_0.out HB.out));(case side2=>exact HC0_0.out);(case side3=>exact KC_ (Kd.R_reads' HO115.out).2.2);(case side4=>exact (Kd.R_reads' HO115.out).2.1);rintro e w39 ⟨rfl,hb⟩;replace HO_9:=Zz.mk (Kd.R_below (KR_ HO_9.out) hb);replace HO_10:=Zz.mk (Kd.R_below (KR_ HO_10.out) hb);replace HO115:=Zz.mk (Kd.R_below (KR_ HO115.out) hb);replace BK101:=Zz.mk (kb_ BK101.out hb);replace HB:=Zz.mk (bT_ (B1_ HB.out GE101.out) hb);(try clear hb)) | (go_at_call 43;(with_reducible refine (z43.calls k2 _ _ t105 t116 t117 _ ?side1 ?side2 A33.out).mono ?_);(case side1=>exact KC_ (Kd.R_reads' HO_9.out).2.2);(case side2=>exact (Kd.R_reads' HO_9.out).2.1);rintro e w' ⟨rfl,⟨nd,rfl⟩⟩;(try first | exact ⟨rfl,_,World.drewN_drewN _ _ _⟩ | exact ⟨rfl,_,Eq.trans (World.drewN_drewN _ _ _) (congrArg (World.drewN _) (Nat.add_assoc _ _ _))⟩)));go_upto_region 13 with (first | ((with_reducible refine qAm (N:=70) rfl ?_);(try (refine qBk (by rfl) ?_;dsimp only));refine Kd.R_lit (Kd.int .i64) _ 2 ?hg (N:=70) ?hd (xs:=([ji30,ji31]:List Int)) (inner:=[.int .i64 ji30,.int .i64 ji31]) (ok:=fun _=>True) (okp:=fun _=>True) ?hr ?hp (fun _ hk=>hk) trivial (Below.refl _ _) (Nat.le_refl _) (by simp) ?_;(case hd=>rfl);(case hg=>rfl);(case hr=>first | (go_simp;done) | (go_simp;rfl));(case hp=>exact (Reps.one (show Kd.M (Kd.int .i64) _ _ _ ji30 [.int .i64 ji30] from rfl) (Reps.one (show Kd.M (Kd.int .i64) _ _ _ ji31 [.int .i64 ji31] from rfl) (Reps.none _ _))));intro v114 w36 ho37 hb hg_ hnew_;clear hg_ hnew_;(first | rw [← Ny113.out] at ho37 | (simp only [Int.reduceToNat] at ho37;rw [← Ny113.out] at ho37));have HO115:=Zz.mk (Kd.R_lower (Kd.R_new' (Kd.R_new' ho37 (Kd.R_lt (KR_ HO_9.out))) (Kd.R_lt (KR_ HO_10.out))) (bS_ (B1_ HB.out GE101.out)));replace HO_9:=Zz.mk (Kd.R_elder' (KR_ HO_9.out) (Kd.R_base ho37) hb);replace HO_10:=Zz.mk (Kd.R_elder' (KR_ HO_10.out) (Kd.R_base ho37) hb);replace BK101:=Zz.mk (kb_ BK101.out hb);replace HB:=Zz.mk (bT_ (B1_ HB.out GE101.out) hb);clear hb ho37;obtain ⟨Ao38,co38,eo38⟩:=Kd.R_slice HO115.out;subst eo38) | (go_at_call 44;(with_reducible refine (z44.calls k2 _ _ l0_0 _ _ y113 t116 _ ?side1 ?side2 ?side3 ?side4 A32.out).mono ?_);(case side1=>exact KC_ (Kd.C_below HR0_0.out HB.out));(case side2=>exact HC0_0.out);(case side3=>exact KC_ (Kd.R_reads' HO115.out).2.2);(case side4=>exact (Kd.R_reads' HO115.out).2.1);rintro e w39 ⟨rfl,hb⟩;replace HO_9:=Zz.mk (Kd.R_below (KR_ HO_9.out) hb);replace HO_10:=Zz.mk (Kd.R_below (KR_ HO_10.out) hb);replace HO115:=Zz.mk (Kd.R_below (KR_ HO115.out) hb);replace BK101:=Zz.mk (kb_ BK101.out hb);replace HB:=Zz.mk (bT_ (B1_ HB.out GE101.out) hb);(try clear hb)) | (go_at_call 43;(with_reducible refine (z43.calls k2 _ _ t105 t116 t117 _ ?side1 ?side2 A33.out).mono ?_);(case side1=>exact KC_ (Kd.R_reads' HO_9.out).2.2);(case side2=>exact (Kd.R_reads' HO_9.out).2.1);rintro e w' ⟨rfl,⟨nd,rfl⟩⟩;(try first | exact ⟨rfl,_,World.drewN_drewN _ _ _⟩ | exact ⟨rfl,_,Eq.trans (World.drewN_drewN _ _ _) (congrArg (World.drewN _) (Nat.add_assoc _ _ _))⟩))))
       (try simp only [Act.put,List.setIfInBounds_toArray,List.set_cons_zero,List.set_cons_succ])
       go_cut [79] (fun v79 wc=>∃ (kq:Nat) (x79_33:Bool),v79=.bool x79_33∧Zz (z18.j2 kq a1 l2 t105 x10_2 x11_2 (rd l2 (ji26)) (rd l2 x11_2) t117 x79_33 l0_0=some (r1,r2))∧Zz (kq≤k2)∧Zz (Kd.R (Kd.int .i64) 2 wc w.heap.size (fun k_=>some k_≠(v109:Value).ownBlock) (.slice Ao22 t105.length co22) t105)∧Zz (Kd.R (Kd.int .i64) 2 wc w.heap.size (fun k_=>some k_≠((.slice Ao22 t105.length co22):Value).ownBlock) v109 x10_2)∧Zz (wc.heap[gb101]?=some (.cells #[(.slice A0_0 l0_0.length c0_0)] 26 (0,0)))∧Zz (Below w.heap.size w wc))
       case first =>
        have H:=HC34.out
        clear HC34
        by_cases c40:(rd l2 (ji26))=(rd l2 x11_2)
        ·rw [if_pos c40] at H
         have c40b0:((rd l2 (ji26)) == (rd l2 x11_2))=true:=beq_iff_eq.mpr c40
         have c40b1:((rd l2 (ji26)) != (rd l2 x11_2))=false:=bne_eq_false_iff_eq.mpr c40
         clear c40
         (first | rw [c40b0] | (simp only [qBl,qCi];rw [c40b0]) | skip)
         have H':=Zz.mk H
         clear H
         go_wp2
         repeat (go_quiet (fail);try go_wp2)
         go_meet
         case rel=>exact ⟨_,(true),E_,H',⟨by have:=HJ5.out;have:=HK2.out;first | omega | exact Nat.le_refl _⟩,⟨by refine RW_ ?_;exact Kd.R_mono HO_9.out (fun _ hk=>hk.1)⟩,⟨by refine RW_ ?_;exact Kd.R_mono HO_10.out (fun _ hk=>hk.1)⟩,⟨KB_ BK101.out⟩,⟨B1_ HB.out GE101.out⟩⟩
        rw [if_neg c40] at H
        have c40b0:((rd l2 (ji26)) == (rd l2 x11_2))=false:=beq_eq_false_iff_ne.mpr c40
        have c40b1:((rd l2 (ji26)) != (rd l2 x11_2))=true:=bne_iff_ne.mpr c40
        (first | rw [c40b0] | (simp only [qBl,qCi];rw [c40b0]) | skip)
        have H':=Zz.mk H
        clear H
        go_wp2
        repeat (go_quiet (fail);try go_wp2)
        go_meet
        case rel=>exact ⟨_,(decide (t117<0)),E_,H',⟨by have:=HJ5.out;have:=HK2.out;first | omega | exact Nat.le_refl _⟩,⟨by refine RW_ ?_;exact Kd.R_mono HO_9.out (fun _ hk=>hk.1)⟩,⟨by refine RW_ ?_;exact Kd.R_mono HO_10.out (fun _ hk=>hk.1)⟩,⟨KB_ BK101.out⟩,⟨B1_ HB.out GE101.out⟩⟩
       case rest =>
        clear HC34
        (try clear c2);(try clear c5);(try clear c5b0);(try clear c5b1);(try clear c16);(try clear c18);(try clear c18b0);(try clear c18b1);(try clear c19);(try clear c19b0);(try clear c19b1);(try clear c25);(try clear c25b0);(try clear c27b0);(try clear c28b0);(try clear c29b0);(try clear hcz20_0);(try clear hcz35_0);(try clear hcz8_0);(try clear hfz20_0)
        (try clear hfz35_0);(try clear hfz8_0);(try clear hx111_0);(try clear hx112_0);(try clear p111);(try clear p112);(try clear q111);(try clear q112)
        obtain ⟨kq,x79_33,rfl,HA,HJ33,HO_9,HO_10,BK101,HB⟩:=hcut
        cases kq with
        | zero=>exact absurd HA.out (by simp [z18.j2])
        | succ kj33 =>
         have H:=HA.out
         clear HA
         simp only [z18.j2] at H
         by_cases c41:x79_33=true
         ·subst c41
          have H1:(some (([]:List Int),3))=some (r1,r2):=by rw [if_pos rfl] at H;exact H
          clear H
          have H:=H1
          clear H1
          simp only [Option.some.injEq,Prod.mk.injEq] at H
          obtain ⟨rfl,rfl⟩:=H
          go_wp2
          repeat (go_quiet (fail);try go_wp2)
          go_ret2
          exact ⟨_,by first | rfl | (simp [qBz,qBy] <;> rfl) | (simp only [← hji26,← hji30,← hji31];first | rfl | (simp [qBz,qBy] <;> rfl)) | (simp [*,qBz,qBy] <;> rfl),by first | exact Kd.R_nil _ _ _ _ _ | exact Kd.N_nil _ _ _ _ _ | exact Kd.V_nil _ _ _ _ _ | exact Kd.Q_nil _ _ _ _ _ | exact Kd.S_nil _ _ _ _ _,B1_ HB.out GE101.out⟩
         replace c41:=Bool.eq_false_iff.mpr c41
         subst c41
         have H1:(if (rd l2 (ji26)) > (rd l2 x11_2) then (if 0≤t117 then (if t117<(x10_2.length:Int) then (if a1=0 then (none) else (z18.l0 kj33 a1 l2 t105 (x10_2.set (t117:Int).toNat (Int.tmod (wrap64 ((rd x10_2 t117)+(wrap64 (a1 - 1)))) a1)) (wrap64 (x11_2+1)) l0_0)) else (none)) else (none)) else (if 0≤t117 then (if t117<(x10_2.length:Int) then (if a1=0 then (none) else (z18.l0 kj33 a1 l2 t105 (x10_2.set (t117:Int).toNat (Int.tmod (wrap64 ((rd x10_2 t117)+1)) a1)) (wrap64 (x11_2+1)) l0_0)) else (none)) else (none)))=some (r1,r2):=by rw [if_neg (show ¬ (false=true) by decide)] at H;exact H
         clear H
         have H:=H1
         clear H1
         by_cases c42:(rd l2 (ji26)) > (rd l2 x11_2)
         ·rw [if_pos c42] at H
          have c42b0:decide ((rd l2 x11_2)<(rd l2 (ji26)))=true:=decide_eq_true c42
          clear c42
          have c43b0:=O3_ H
          replace H:=O2_ H
          have c44b0:=O3_ H
          replace H:=O2_ H
          by_cases c45:a1=0
          ·rw [if_pos c45] at H
           exact X_ H
          rw [if_neg c45] at H
          have c45b0:(a1 == 0)=false:=beq_eq_false_iff_ne.mpr c45
          have c45b1:(a1 != 0)=true:=bne_iff_ne.mpr c45
          obtain ⟨y119,hy119⟩:∃ y_:List Int,y_=(x10_2.set (t117:Int).toNat (Int.tmod (wrap64 ((rd x10_2 t117)+(wrap64 (a1 - 1)))) a1)):=⟨_,rfl⟩
          replace H:(z18.l0 kj33 a1 l2 t105 y119 (wrap64 (x11_2+1)) l0_0)=some (r1,r2):=Y_ hy119 H
          have Ny119:=Zz.mk hy119
          clear hy119
          have H':=Zz.mk H
          clear H
          obtain ⟨Ao47,co47,eo47⟩:=Kd.R_slice HO_10.out
          subst eo47
          have p118:0≤(t117:Int):=D_
          have q118:t117<(x10_2.length:Int):=D_
          obtain ⟨ad118,e118,hx118_0⟩:=Kd.at_int (Kd.R_reads' HO_10.out).2.2 t117 p118 q118
          cases e118
          replace p118:=eq_true p118
          replace q118:=eq_true q118
          have p46:0≤(t117:Int):=D_
          have q46:(t117:Int)<((x10_2.length:Int):Int):=D_
          obtain ⟨go46,co46,eo46,gb46,gl46,cl46,HG46⟩:=Kd.R_form HO_10.out (by omega)
          (first | cases eo46 | (injection eo46 with ea_ en_ ec_;(first | subst ea_ | (injection ea_ with ea_;subst ea_));subst ec_;clear en_))
          have GB46:=Zz.mk gb46
          have GG46:=Zz.mk HG46
          clear gb46 gl46 HG46
          (first | simp only [qBa] at hx118_0 | skip)
          obtain ⟨hx46_0,hf46_0⟩:=Kd.R_celln 0 HO_10.out (t117:Int) p46 q46
          replace p46:=eq_true p46
          replace q46:=eq_true q46
          have HP48:=Kd.R_putg HO_10.out (t117:Int) (Int.tmod (wrap64 ((rd x10_2 t117)+(wrap64 (a1 - 1)))) a1)
          go_wp2_with (first | ((with_reducible refine qB6 (t:=2) (p:=95) rfl ?_);(try (rw [qBu wc];generalize hq_:World.drewN wc _=wc;replace HO_9:=Zz.mk (Kd.R_at hq_ HO_9.out);replace HO_10:=Zz.mk (Kd.R_at hq_ HO_10.out);replace BK101:=Zz.mk (qHr hq_ BK101.out);replace HB:=Zz.mk (qD1 hq_ HB.out);(try clear hq_);(try (have HP48:=Kd.R_putg HO_10.out (t117:Int) (Int.tmod (wrap64 ((rd x10_2 t117)+(wrap64 (a1 - 1)))) a1)))));refine qBw (t:=2) (p:=95) (v:=?vo_w49) (w1:=(wc.setCell ⟨go46,(t117:Int).toNat,none⟩ (.int .i64 (Int.tmod (wrap64 ((rd x10_2 t117)+(wrap64 (a1 - 1)))) a1)))) ?hg ?ho ?hn ?hr ?_;(case ho=>rfl);(case hg=>rfl);(case hn=>rfl);(case hr=>first | (go_simp;done) | (go_simp;rfl));intro w49 hw;have hg:wc.grownBy w49 (some go46):=(by rw [hw];exact HP48.2);have hp_:Kd.R (Kd.int .i64) 2 w49 w.heap.size (fun k_=>some k_≠(.slice Ao22 t105.length co22:Value).ownBlock) (.slice (some ⟨go46,0,none⟩) x10_2.length co47) y119:=(by rw [hw,Ny119.out];exact HP48.1);clear HP48;replace HO_9:=Zz.mk (Kd.R_after (v:=(.slice (some ⟨go46,0,none⟩) x10_2.length co47)) (v1:=(.slice (some ⟨go46,0,none⟩) x10_2.length co47)) (ok:=(fun _=>True)) (by refine RW_ ?_;exact Kd.R_mono HO_9.out (fun _ hk=>⟨trivial,hk⟩)) hg (.inl rfl));replace BK101:=Zz.mk (qA9 (g:=gb101) (o:=.cells #[.slice A0_0 l0_0.length c0_0] 26 (0,0)) (KB_ BK101.out) hg (Kd.R_ne HO_10.out BK101.out (by decide)));replace HO_10:=Zz.mk (hp_);replace HB:=Zz.mk ((by rw [hw];exact qAd (HB.out) GB46.out:Below w.heap.size w w49));clear hg hw hp_))
          repeat (go_quiet (first | ((with_reducible refine qB6 (t:=2) (p:=95) rfl ?_);(try (rw [qBu wc];generalize hq_:World.drewN wc _=wc;replace HO_9:=Zz.mk (Kd.R_at hq_ HO_9.out);replace HO_10:=Zz.mk (Kd.R_at hq_ HO_10.out);replace BK101:=Zz.mk (qHr hq_ BK101.out);replace HB:=Zz.mk (qD1 hq_ HB.out);(try clear hq_);(try (have HP48:=Kd.R_putg HO_10.out (t117:Int) (Int.tmod (wrap64 ((rd x10_2 t117)+(wrap64 (a1 - 1)))) a1)))));refine qBw (t:=2) (p:=95) (v:=?vo_w49) (w1:=(wc.setCell ⟨go46,(t117:Int).toNat,none⟩ (.int .i64 (Int.tmod (wrap64 ((rd x10_2 t117)+(wrap64 (a1 - 1)))) a1)))) ?hg ?ho ?hn ?hr ?_;(case ho=>rfl);(case hg=>rfl);(case hn=>rfl);(case hr=>first | (go_simp;done) | (go_simp;rfl));intro w49 hw;have hg:wc.grownBy w49 (some go46):=(by rw [hw];exact HP48.2);have hp_:Kd.R (Kd.int .i64) 2 w49 w.heap.size (fun k_=>some k_≠(.slice Ao22 t105.length co22:Value).ownBlock) (.slice (some ⟨go46,0,none⟩) x10_2.length co47) y119:=(by rw [hw,Ny119.out];exact HP48.1);clear HP48;replace HO_9:=Zz.mk (Kd.R_after (v:=(.slice (some ⟨go46,0,none⟩) x10_2.length co47)) (v1:=(.slice (some ⟨go46,0,none⟩) x10_2.length co47)) (ok:=(fun _=>True)) (by refine RW_ ?_;exact Kd.R_mono HO_9.out (fun _ hk=>⟨trivial,hk⟩)) hg (.inl rfl));replace BK101:=Zz.mk (qA9 (g:=gb101) (o:=.cells #[.slice A0_0 l0_0.length c0_0] 26 (0,0)) (KB_ BK101.out) hg (Kd.R_ne HO_10.out BK101.out (by decide)));replace HO_10:=Zz.mk (hp_);replace HB:=Zz.mk ((by rw [hw];exact qAd (HB.out) GB46.out:Below w.heap.size w w49));clear hg hw hp_));try go_wp2_with (first | ((with_reducible refine qB6 (t:=2) (p:=95) rfl ?_);(try (rw [qBu wc];generalize hq_:World.drewN wc _=wc;replace HO_9:=Zz.mk (Kd.R_at hq_ HO_9.out);replace HO_10:=Zz.mk (Kd.R_at hq_ HO_10.out);replace BK101:=Zz.mk (qHr hq_ BK101.out);replace HB:=Zz.mk (qD1 hq_ HB.out);(try clear hq_);(try (have HP48:=Kd.R_putg HO_10.out (t117:Int) (Int.tmod (wrap64 ((rd x10_2 t117)+(wrap64 (a1 - 1)))) a1)))));refine qBw (t:=2) (p:=95) (v:=?vo_w49) (w1:=(wc.setCell ⟨go46,(t117:Int).toNat,none⟩ (.int .i64 (Int.tmod (wrap64 ((rd x10_2 t117)+(wrap64 (a1 - 1)))) a1)))) ?hg ?ho ?hn ?hr ?_;(case ho=>rfl);(case hg=>rfl);(case hn=>rfl);(case hr=>first | (go_simp;done) | (go_simp;rfl));intro w49 hw;have hg:wc.grownBy w49 (some go46):=(by rw [hw];exact HP48.2);have hp_:Kd.R (Kd.int .i64) 2 w49 w.heap.size (fun k_=>some k_≠(.slice Ao22 t105.length co22:Value).ownBlock) (.slice (some ⟨go46,0,none⟩) x10_2.length co47) y119:=(by rw [hw,Ny119.out];exact HP48.1);clear HP48;replace HO_9:=Zz.mk (Kd.R_after (v:=(.slice (some ⟨go46,0,none⟩) x10_2.length co47)) (v1:=(.slice (some ⟨go46,0,none⟩) x10_2.length co47)) (ok:=(fun _=>True)) (by refine RW_ ?_;exact Kd.R_mono HO_9.out (fun _ hk=>⟨trivial,hk⟩)) hg (.inl rfl));replace BK101:=Zz.mk (qA9 (g:=gb101) (o:=.cells #[.slice A0_0 l0_0.length c0_0] 26 (0,0)) (KB_ BK101.out) hg (Kd.R_ne HO_10.out BK101.out (by decide)));replace HO_10:=Zz.mk (hp_);replace HB:=Zz.mk ((by rw [hw];exact qAd (HB.out) GB46.out:Below w.heap.size w w49));clear hg hw hp_)))
          go_roundg kj33
          case measure=>have:=HJ5.out;have:=HK2.out;have:=HJ33.out;omega
          case rel=>exact ⟨(y119),(wrap64 (x11_2+1)),E_,H',⟨by have:=HJ5.out;have:=HK2.out;have:=HJ33.out;omega⟩,⟨by refine RW_ ?_;exact Kd.R_mono HO_9.out (fun _ hk=>hk.2)⟩,⟨KR_ HO_10.out⟩,⟨KB_ BK101.out⟩,⟨B1_ HB.out GE101.out⟩⟩
         rw [if_neg c42] at H
         have c42b0:decide ((rd l2 x11_2)<(rd l2 (ji26)))=false:=decide_eq_false c42
         clear c42
         have c50b0:=O3_ H
         replace H:=O2_ H
         have c51b0:=O3_ H
         replace H:=O2_ H
         by_cases c52:a1=0
         ·rw [if_pos c52] at H
          exact X_ H
         rw [if_neg c52] at H
         have c52b0:(a1 == 0)=false:=beq_eq_false_iff_ne.mpr c52
         have c52b1:(a1 != 0)=true:=bne_iff_ne.mpr c52
         obtain ⟨y121,hy121⟩:∃ y_:List Int,y_=(x10_2.set (t117:Int).toNat (Int.tmod (wrap64 ((rd x10_2 t117)+1)) a1)):=⟨_,rfl⟩
         replace H:(z18.l0 kj33 a1 l2 t105 y121 (wrap64 (x11_2+1)) l0_0)=some (r1,r2):=Y_ hy121 H
         have Ny121:=Zz.mk hy121
         clear hy121
         have H':=Zz.mk H
         clear H
         obtain ⟨Ao54,co54,eo54⟩:=Kd.R_slice HO_10.out
         subst eo54
         have p120:0≤(t117:Int):=D_
         have q120:t117<(x10_2.length:Int):=D_
         obtain ⟨ad120,e120,hx120_0⟩:=Kd.at_int (Kd.R_reads' HO_10.out).2.2 t117 p120 q120
         cases e120
         replace p120:=eq_true p120
         replace q120:=eq_true q120
         have p53:0≤(t117:Int):=D_
         have q53:(t117:Int)<((x10_2.length:Int):Int):=D_
         obtain ⟨go53,co53,eo53,gb53,gl53,cl53,HG53⟩:=Kd.R_form HO_10.out (by omega)
         (first | cases eo53 | (injection eo53 with ea_ en_ ec_;(first | subst ea_ | (injection ea_ with ea_;subst ea_));subst ec_;clear en_))
         have GB53:=Zz.mk gb53
         have GG53:=Zz.mk HG53
         clear gb53 gl53 HG53
         (first | simp only [qBa] at hx120_0 | skip)
         obtain ⟨hx53_0,hf53_0⟩:=Kd.R_celln 0 HO_10.out (t117:Int) p53 q53
         replace p53:=eq_true p53
         replace q53:=eq_true q53
         have HP55:=Kd.R_putg HO_10.out (t117:Int) (Int.tmod (wrap64 ((rd x10_2 t117)+1)) a1)
         go_wp2_with (first | ((with_reducible refine qB6 (t:=2) (p:=95) rfl ?_);(try (rw [qBu wc];generalize hq_:World.drewN wc _=wc;replace HO_9:=Zz.mk (Kd.R_at hq_ HO_9.out);replace HO_10:=Zz.mk (Kd.R_at hq_ HO_10.out);replace BK101:=Zz.mk (qHr hq_ BK101.out);replace HB:=Zz.mk (qD1 hq_ HB.out);(try clear hq_);(try (have HP55:=Kd.R_putg HO_10.out (t117:Int) (Int.tmod (wrap64 ((rd x10_2 t117)+1)) a1)))));refine qBw (t:=2) (p:=95) (v:=?vo_w56) (w1:=(wc.setCell ⟨go53,(t117:Int).toNat,none⟩ (.int .i64 (Int.tmod (wrap64 ((rd x10_2 t117)+1)) a1)))) ?hg ?ho ?hn ?hr ?_;(case ho=>rfl);(case hg=>rfl);(case hn=>rfl);(case hr=>first | (go_simp;done) | (go_simp;rfl));intro w56 hw;have hg:wc.grownBy w56 (some go53):=(by rw [hw];exact HP55.2);have hp_:Kd.R (Kd.int .i64) 2 w56 w.heap.size (fun k_=>some k_≠(.slice Ao22 t105.length co22:Value).ownBlock) (.slice (some ⟨go53,0,none⟩) x10_2.length co54) y121:=(by rw [hw,Ny121.out];exact HP55.1);clear HP55;replace HO_9:=Zz.mk (Kd.R_after (v:=(.slice (some ⟨go53,0,none⟩) x10_2.length co54)) (v1:=(.slice (some ⟨go53,0,none⟩) x10_2.length co54)) (ok:=(fun _=>True)) (by refine RW_ ?_;exact Kd.R_mono HO_9.out (fun _ hk=>⟨trivial,hk⟩)) hg (.inl rfl));replace BK101:=Zz.mk (qA9 (g:=gb101) (o:=.cells #[.slice A0_0 l0_0.length c0_0] 26 (0,0)) (KB_ BK101.out) hg (Kd.R_ne HO_10.out BK101.out (by decide)));replace HO_10:=Zz.mk (hp_);replace HB:=Zz.mk ((by rw [hw];exact qAd (HB.out) GB53.out:Below w.heap.size w w56));clear hg hw hp_))
         repeat (go_quiet (first | ((with_reducible refine qB6 (t:=2) (p:=95) rfl ?_);(try (rw [qBu wc];generalize hq_:World.drewN wc _=wc;replace HO_9:=Zz.mk (Kd.R_at hq_ HO_9.out);replace HO_10:=Zz.mk (Kd.R_at hq_ HO_10.out);replace BK101:=Zz.mk (qHr hq_ BK101.out);replace HB:=Zz.mk (qD1 hq_ HB.out);(try clear hq_);(try (have HP55:=Kd.R_putg HO_10.out (t117:Int) (Int.tmod (wrap64 ((rd x10_2 t117)+1)) a1)))));refine qBw (t:=2) (p:=95) (v:=?vo_w56) (w1:=(wc.setCell ⟨go53,(t117:Int).toNat,none⟩ (.int .i64 (Int.tmod (wrap64 ((rd x10_2 t117)+1)) a1)))) ?hg ?ho ?hn ?hr ?_;(case ho=>rfl);(case hg=>rfl);(case hn=>rfl);(case hr=>first | (go_simp;done) | (go_simp;rfl));intro w56 hw;have hg:wc.grownBy w56 (some go53):=(by rw [hw];exact HP55.2);have hp_:Kd.R (Kd.int .i64) 2 w56 w.heap.size (fun k_=>some k_≠(.slice Ao22 t105.length co22:Value).ownBlock) (.slice (some ⟨go53,0,none⟩) x10_2.length co54) y121:=(by rw [hw,Ny121.out];exact HP55.1);clear HP55;replace HO_9:=Zz.mk (Kd.R_after (v:=(.slice (some ⟨go53,0,none⟩) x10_2.length co54)) (v1:=(.slice (some ⟨go53,0,none⟩) x10_2.length co54)) (ok:=(fun _=>True)) (by refine RW_ ?_;exact Kd.R_mono HO_9.out (fun _ hk=>⟨trivial,hk⟩)) hg (.inl rfl));replace BK101:=Zz.mk (qA9 (g:=gb101) (o:=.cells #[.slice A0_0 l0_0.length c0_0] 26 (0,0)) (KB_ BK101.out) hg (Kd.R_ne HO_10.out BK101.out (by decide)));replace HO_10:=Zz.mk (hp_);replace HB:=Zz.mk ((by rw [hw];exact qAd (HB.out) GB53.out:Below w.heap.size w w56));clear hg hw hp_));try go_wp2_with (first | ((with_reducible refine qB6 (t:=2) (p:=95) rfl ?_);(try (rw [qBu wc];generalize hq_:World.drewN wc _=wc;replace HO_9:=Zz.mk (Kd.R_at hq_ HO_9.out);replace HO_10:=Zz.mk (Kd.R_at hq_ HO_10.out);replace BK101:=Zz.mk (qHr hq_ BK101.out);replace HB:=Zz.mk (qD1 hq_ HB.out);(try clear hq_);(try (have HP55:=Kd.R_putg HO_10.out (t117:Int) (Int.tmod (wrap64 ((rd x10_2 t117)+1)) a1)))));refine qBw (t:=2) (p:=95) (v:=?vo_w56) (w1:=(wc.setCell ⟨go53,(t117:Int).toNat,none⟩ (.int .i64 (Int.tmod (wrap64 ((rd x10_2 t117)+1)) a1)))) ?hg ?ho ?hn ?hr ?_;(case ho=>rfl);(case hg=>rfl);(case hn=>rfl);(case hr=>first | (go_simp;done) | (go_simp;rfl));intro w56 hw;have hg:wc.grownBy w56 (some go53):=(by rw [hw];exact HP55.2);have hp_:Kd.R (Kd.int .i64) 2 w56 w.heap.size (fun k_=>some k_≠(.slice Ao22 t105.length co22:Value).ownBlock) (.slice (some ⟨go53,0,none⟩) x10_2.length co54) y121:=(by rw [hw,Ny121.out];exact HP55.1);clear HP55;replace HO_9:=Zz.mk (Kd.R_after (v:=(.slice (some ⟨go53,0,none⟩) x10_2.length co54)) (v1:=(.slice (some ⟨go53,0,none⟩) x10_2.length co54)) (ok:=(fun _=>True)) (by refine RW_ ?_;exact Kd.R_mono HO_9.out (fun _ hk=>⟨trivial,hk⟩)) hg (.inl rfl));replace BK101:=Zz.mk (qA9 (g:=gb101) (o:=.cells #[.slice A0_0 l0_0.length c0_0] 26 (0,0)) (KB_ BK101.out) hg (Kd.R_ne HO_10.out BK101.out (by decide)));replace HO_10:=Zz.mk (hp_);replace HB:=Zz.mk ((by rw [hw];exact qAd (HB.out) GB53.out:Below w.heap.size w w56));clear hg hw hp_)))
         go_roundg kj33
         case measure=>have:=HJ5.out;have:=HK2.out;have:=HJ33.out;omega
         case rel=>exact ⟨(y121),(wrap64 (x11_2+1)),E_,H',⟨by have:=HJ5.out;have:=HK2.out;have:=HJ33.out;omega⟩,⟨by refine RW_ ?_;exact Kd.R_mono HO_9.out (fun _ hk=>hk.2)⟩,⟨KR_ HO_10.out⟩,⟨KB_ BK101.out⟩,⟨B1_ HB.out GE101.out⟩⟩
      rw [if_neg c25] at H
      have c25b0:decide (x11_2<(l2.length:Int))=false:=decide_eq_false c25
      clear c25
      simp only [Option.some.injEq,Prod.mk.injEq] at H
      obtain ⟨rfl,rfl⟩:=H
      go_wp2
      repeat (go_quiet (fail);try go_wp2)
      go_ret2
      exact ⟨_,F_,by refine RW_ ?_;exact Kd.R_mono HO_10.out (fun _ hk=>trivial),B1_ HB.out GE101.out⟩
 rw [if_neg c5] at H
 have c5b0:(t102 == 0)=false:=beq_eq_false_iff_ne.mpr c5
 have c5b1:(t102 != 0)=true:=bne_iff_ne.mpr c5
 simp only [Option.some.injEq,Prod.mk.injEq] at H
 obtain ⟨rfl,rfl⟩:=H
 go_enter Tryz.func18,Tryz.ntmps18
 go_wp2_with (first | ((with_reducible refine qAm (N:=3) rfl ?_);(try (refine qBk (by rfl) ?_;dsimp only));refine bx_ 3 #[.slice A0_0 l0_0.length c0_0] 26 ?_;intro gb101 hg w57 hbox hb;have BK101:=Zz.mk (hbox);have GW101:=Zz.mk ((gw_ hg (B_ HB.out)));have GE101:=GW101;replace HB:=Zz.mk (bT_ (B_ HB.out) hb);clear hb hbox hg;obtain ⟨hcz58_0,hfz58_0⟩:=Z1f_ BK101.out) | (go_at_call 37;(with_reducible refine (z37.calls k _ _ l0_0 1 a1 t102 _ ?side1 ?side2 A4.out).mono ?_);(case side1=>exact KC_ (Kd.C_below HR0_0.out HB.out));(case side2=>exact HC0_0.out);rintro e w59 ⟨rfl,hb⟩;replace BK101:=Zz.mk (kb_ BK101.out hb);replace HB:=Zz.mk (bT_ (B1_ HB.out GE101.out) hb);(try clear hb)))
 repeat (go_quiet (first | ((with_reducible refine qAm (N:=3) rfl ?_);(try (refine qBk (by rfl) ?_;dsimp only));refine bx_ 3 #[.slice A0_0 l0_0.length c0_0] 26 ?_;intro gb101 hg w57 hbox hb;have BK101:=Zz.mk (hbox);have GW101:=Zz.mk ((gw_ hg (B_ HB.out)));have GE101:=GW101;replace HB:=Zz.mk (bT_ (B_ HB.out) hb);clear hb hbox hg;obtain ⟨hcz58_0,hfz58_0⟩:=Z1f_ BK101.out) | (go_at_call 37;(with_reducible refine (z37.calls k _ _ l0_0 1 a1 t102 _ ?side1 ?side2 A4.out).mono ?_);(case side1=>exact KC_ (Kd.C_below HR0_0.out HB.out));(case side2=>exact HC0_0.out);rintro e w59 ⟨rfl,hb⟩;replace BK101:=Zz.mk (kb_ BK101.out hb);replace HB:=Zz.mk (bT_ (B1_ HB.out GE101.out) hb);(try clear hb)));try go_wp2_with (first | ((with_reducible refine qAm (N:=3) rfl ?_);(try (refine qBk (by rfl) ?_;dsimp only));refine bx_ 3 #[.slice A0_0 l0_0.length c0_0] 26 ?_;intro gb101 hg w57 hbox hb;have BK101:=Zz.mk (hbox);have GW101:=Zz.mk ((gw_ hg (B_ HB.out)));have GE101:=GW101;replace HB:=Zz.mk (bT_ (B_ HB.out) hb);clear hb hbox hg;obtain ⟨hcz58_0,hfz58_0⟩:=Z1f_ BK101.out) | (go_at_call 37;(with_reducible refine (z37.calls k _ _ l0_0 1 a1 t102 _ ?side1 ?side2 A4.out).mono ?_);(case side1=>exact KC_ (Kd.C_below HR0_0.out HB.out));(case side2=>exact HC0_0.out);rintro e w59 ⟨rfl,hb⟩;replace BK101:=Zz.mk (kb_ BK101.out hb);replace HB:=Zz.mk (bT_ (B1_ HB.out GE101.out) hb);(try clear hb))))
 go_ret2
 exact ⟨_,F_,by first | exact Kd.R_nil _ _ _ _ _ | exact Kd.N_nil _ _ _ _ _ | exact Kd.V_nil _ _ _ _ _ | exact Kd.Q_nil _ _ _ _ _ | exact Kd.S_nil _ _ _ _ _,B1_ HB.out GE101.out⟩
end Go.Proofs.YtpgjfppbbbnclaaGreat.B
