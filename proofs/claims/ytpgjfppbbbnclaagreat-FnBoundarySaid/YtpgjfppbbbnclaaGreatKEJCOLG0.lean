/- Printed by a program of this work over the kit's printer. -/
import Derived.Test.YtpgjfppbbbnclaaGreatKIFGODB0
import Derived.Test.YtpgjfppbbbnclaaGreatKJMJOJB0
import Derived.Test.YtpgjfppbbbnclaaGreatKW0
set_option linter.unusedVariables false
set_option linter.unusedSimpArgs false
open Go.RowKit Go.Proofs.YtpgjfppbbbnclaaGreatW.PrintWords
namespace Go.Proofs.YtpgjfppbbbnclaaGreat.B
open Go.Proofs.YtpgjfppbbbnclaaGreatW.PrintLast Go.Proofs.YtpgjfppbbbnclaaGreatW.PrintMore
attribute [local go_sem] qAq qAo qAu qAt qAl qAk qAp qAn
mutual
def z49.l0:Nat→List (List Int)→Int→Int→List (List Int)→Option (Bool)
 | 0,_,_,_,_=>none
 | k+1,x6,x7,x8,x102000=>if x8<x7 then (if 0≤x8 then (if x8<(x6.length:Int) then ((z81.f k (rI_ x6 x8)).bind fun t104=>(if t104=true then (if x8 > 0 then (if 0≤(wrap64 (x8 - 1)) then (if (wrap64 (x8 - 1))<(x102000.length:Int) then ((z77.f k (rI_ x102000 (wrap64 (x8 - 1))) (rI_ x6 x8)).bind fun t106=>(z49.j1 k (rI_ x6 x8) x6 x7 x8 (decide (t106 ≥ 0)) x102000 x8)) else (none)) else (none)) else (z49.j1 k (rI_ x6 x8) x6 x7 x8 false x102000 x8)) else (z49.j1 k (rI_ x6 x8) x6 x7 x8 true x102000 x8))) else (none)) else (none)) else (some (decide ((x102000.length:Int)≤48)))
def z49.j1:Nat→List Int→List (List Int)→Int→Int→Bool→List (List Int)→Int→Option (Bool)
 | 0,_,_,_,_,_,_,_=>none
 | k+1,x4,x6,x7,x8,x30,x102000,x104000=>if x30=true then (some false) else ((z83.f k x4).bind fun t107=>((z151.f k t107 x102000 x104000).bind fun t110=>(if t110=true then (some false) else (z49.l0 k x6 x7 (wrap64 (x8+1)) x102000))))
end
def z49.f (k:Nat) (l0_0:List (List Int)):Option (Bool):=z49.l0 k l0_0 (l0_0.length:Int) 0 l0_0
set_option maxHeartbeats 8000000 in
set_option maxRecDepth 100000 in
theorem z49.calls (k:Nat) (A0_0:Option Addr) (c0_0:Nat) (l0_0:List (List Int)) (r:Bool) (w:World) (hr0_0:Kd.C (Kd.slice 2 (Kd.int .i64)) w A0_0 l0_0.length l0_0) (hc0_0:l0_0.length≤c0_0) (h:z49.f k l0_0=some r) :
  Calls Tryz.prog 49 #[.agg #[.slice A0_0 l0_0.length c0_0]] w fun e w'=>e=.returned (.bool r)∧Below w.heap.size w w':=by
 have hu26:=Tryz.underlying26
 have HR0_0:=Zz.mk hr0_0
 have HC0_0:=Zz.mk hc0_0
 clear hr0_0 hc0_0
 have HB:=Zz.mk (Below.refl w.heap.size w)
 have H:(z49.l0 k l0_0 (l0_0.length:Int) 0 l0_0)=some r:=h
 clear h
 have H':=Zz.mk H
 clear H
 go_enter Tryz.func49,Tryz.ntmps49
 go_wp2_with (first | ((with_reducible refine qAm (N:=1) rfl ?_);refine bx_ 1 #[.slice A0_0 l0_0.length c0_0] 26 ?_;intro gb101 hg w2 hbox hb;have BK101:=Zz.mk (hbox);have GW101:=Zz.mk ((gw_ hg (B_ HB.out)));have GE101:=GW101;replace HB:=Zz.mk (bT_ (B_ HB.out) hb);clear hb hbox hg;obtain ⟨hcz3_0,hfz3_0⟩:=Z1f_ BK101.out))
 go_loopg [8] k (fun kq v8 w'=>∃ (x8_1:Int),v8=.int .i64 x8_1∧Zz (z49.l0 kq l0_0 (l0_0.length:Int) x8_1 l0_0=some r)∧Zz (kq≤k)∧Zz (w'.heap[gb101]?=some (.cells #[(.slice A0_0 l0_0.length c0_0)] 26 (0,0)))∧Zz (Below w.heap.size w w'))
 case atStart=>exact ⟨(0),E_,H',⟨Nat.le_refl _⟩,⟨KB_ BK101.out⟩,⟨B1_ HB.out GE101.out⟩⟩
 case round =>
  clear H'
  (try clear hcz3_0);(try clear hfz3_0)
  obtain ⟨x8_1,rfl,HA,HK1,BK101,HB⟩:=hrel
  cases gk with
  | zero=>exact absurd HA.out (by simp [z49.l0])
  | succ k1 =>
   have H:=HA.out
   clear HA
   simp only [z49.l0] at H
   by_cases c4:x8_1<(l0_0.length:Int)
   ·rw [if_pos c4] at H
    have c4b0:decide (x8_1<(l0_0.length:Int))=true:=decide_eq_true c4
    clear c4
    have c5b0:=O3_ H
    replace H:=O2_ H
    have c6b0:=O3_ H
    replace H:=O2_ H
    have HC7:=Zz.mk H
    clear H
    have p102:0≤(x8_1:Int):=D_
    have q102:x8_1<(l0_0.length:Int):=D_
    obtain ⟨ad102,A102_0,c102_0,e102,hx102_0,hl102_0,hi102_0⟩:=qA2 HR0_0.out x8_1 p102 q102
    cases e102
    replace hx102_0:=(HB.out.cell (World.block_lt_of_cell? w _ hx102_0)).trans hx102_0
    have HR102_0:=Zz.mk hi102_0
    have HC102_0:=Zz.mk hl102_0
    clear hi102_0 hl102_0
    replace p102:=eq_true p102
    replace q102:=eq_true q102
    go_upto_region 4 with (first | ((with_reducible refine qAm (N:=3) rfl ?_);refine bx_ 3 #[.int .i64 0] 3 ?_;intro gb103 hg w8 hbox hb;have BK103:=Zz.mk (hbox);have GW103:=Zz.mk ((gw_ hg (B1_ HB.out GE101.out)));have GE103:=GW103;have NB101_103:=Zz.mk ((nb_ BK101.out hg));have NB103_101:=Zz.mk NB101_103.out.symm;replace BK101:=Zz.mk (kb_ BK101.out hb);replace HB:=Zz.mk (bT_ (B1_ HB.out GE101.out) hb);clear hb hbox hg;have hnb9:=NB103_101.out;have hnc9:=NB101_103.out;obtain ⟨hcz10_0,hfz10_0⟩:=Z1f_ BK103.out))
    (try simp only [Act.put,List.setIfInBounds_toArray,List.set_cons_zero,List.set_cons_succ])
    go_cut [30] (fun v30 wc=>∃ (kq:Nat) (x30_6:Bool),v30=.bool x30_6∧Zz (z49.j1 kq (rI_ l0_0 x8_1) l0_0 (l0_0.length:Int) x8_1 x30_6 l0_0 x8_1=some r)∧Zz (kq≤k1)∧Zz (wc.heap[gb101]?=some (.cells #[(.slice (some ad102) l0_0.length c0_0)] 26 (0,0)))∧Zz (wc.heap[gb103]?=some (.cells #[.int .i64 x8_1] 3 (0,0)))∧Zz (Below w.heap.size w wc))
    case first =>
     have H:=HC7.out
     clear HC7
     replace H:=OZ_ H
     obtain ⟨t104,A11,H⟩:=H
     by_cases c12:t104=true
     ·subst c12
      replace H:=T_ H
      by_cases c13:x8_1 > 0
      ·rw [if_pos c13] at H
       have c13b0:decide (0<x8_1)=true:=decide_eq_true c13
       clear c13
       (first | rw [c13b0] | (simp only [qBl,qCi];rw [c13b0]) | skip)
       obtain ⟨ji14,hji14⟩:∃ j_:Int,(wrap64 (x8_1 - 1))=j_:=⟨_,rfl⟩
       replace H:(if 0≤(ji14) then (if (ji14)<(l0_0.length:Int) then ((z77.f k1 (rI_ l0_0 (ji14)) (rI_ l0_0 x8_1)).bind fun t106=>(z49.j1 k1 (rI_ l0_0 x8_1) l0_0 (l0_0.length:Int) x8_1 (decide (t106 ≥ 0)) l0_0 x8_1)) else (none)) else (none))=some r:=by first | (rw [hji14] at H;exact H) | (simp only [hji14] at H ⊢;exact H)
       (try rw [hji14] at A11)
       have hji14w:(IntKind.i64.wrap (x8_1 - 1))=ji14:=(qBl _).trans hji14
       have c15b0:=O3_ H
       replace H:=O2_ H
       have c16b0:=O3_ H
       replace H:=O2_ H
       replace H:=OZ_ H
       obtain ⟨t106,A17,H⟩:=H
       have H':=Zz.mk H
       clear H
       go_wp2_with (first | ((with_reducible refine gC_ (f:=81) rfl ?_);refine GL_ (some 14) rfl rfl Tryz.func81 #[.slice A102_0 (rI_ l0_0 x8_1).length c102_0] rfl (h:=?_);(with_reducible refine (z81.calls k1 _ _ (rI_ l0_0 x8_1) true _ ?side1 ?side2 A11.out).mono ?_);(case side1=>exact Kd.C_below HR102_0.out (B2_ HB.out GE101.out GE103.out));(case side2=>exact HC102_0.out);rintro e w18 ⟨rfl,hb⟩;refine ⟨_,rfl,?_⟩;replace BK101:=Zz.mk (bB_ (g:=gb101) (o:=.cells #[.slice (some ad102) l0_0.length c0_0] 26 (0,0)) (by refine BW_ ?_;refine bR_ ?_ NB101_103.out _;refine BW_ ?_;exact BK101.out) hb);replace BK103:=Zz.mk (bB_ (g:=gb103) (o:=.cells #[.int .i64 x8_1] 3 (0,0)) (by refine BW_ ?_;refine bP_ (cs:=#[.int .i64 0]) ?_ 0 _ rfl;refine BW_ ?_;exact BK103.out) hb);replace HB:=Zz.mk (bT_ (B2_ HB.out GE101.out GE103.out) hb);(try clear hb);have hnb19:=NB103_101.out;have hnc19:=NB101_103.out;obtain ⟨hcz20_0,hfz20_0⟩:=Z1f_ BK103.out;obtain ⟨hcz21_0,hfz21_0⟩:=Z1f_ BK101.out;have p105:0≤((ji14):Int):=D_;have q105:(ji14)<(l0_0.length:Int):=D_;obtain ⟨ad105,A105_0,c105_0,e105,hx105_0,hl105_0,hi105_0⟩:=qA2 HR0_0.out (ji14) p105 q105;obtain rfl:ad102=ad105:=(by injection e105);replace hx105_0:=(HB.out.cell (World.block_lt_of_cell? w _ hx105_0)).trans hx105_0;have HR105_0:=Zz.mk hi105_0;have HC105_0:=Zz.mk hl105_0;clear hi105_0 hl105_0;replace p105:=eq_true p105;replace q105:=eq_true q105) | (go_at_call 77;(with_reducible refine (z77.calls k1 _ _ (rI_ l0_0 (ji14)) _ _ (rI_ l0_0 x8_1) t106 _ ?side1 ?side2 ?side3 ?side4 A17.out).mono ?_);(case side1=>exact KC_ (Kd.C_below HR105_0.out HB.out));(case side2=>exact HC105_0.out);(case side3=>exact KC_ (Kd.C_below HR102_0.out HB.out));(case side4=>exact HC102_0.out);rintro e w22 ⟨rfl,hb⟩;replace BK101:=Zz.mk (kb_ BK101.out hb);replace BK103:=Zz.mk (kb_ BK103.out hb);replace HB:=Zz.mk (bT_ (B2_ HB.out GE101.out GE103.out) hb);(try clear hb)))
       go_meet
       case rel=>exact ⟨_,(decide (t106 ≥ 0)),E_,H',⟨by have:=HK1.out;first | omega | exact Nat.le_refl _⟩,⟨KB_ BK101.out⟩,⟨KB_ BK103.out⟩,⟨B2_ HB.out GE101.out GE103.out⟩⟩
      rw [if_neg c13] at H
      have c13b0:decide (0<x8_1)=false:=decide_eq_false c13
      clear c13
      (first | rw [c13b0] | (simp only [qBl,qCi];rw [c13b0]) | skip)
      have H':=Zz.mk H
      clear H
      go_wp2_with (first | ((with_reducible refine gC_ (f:=81) rfl ?_);refine GL_ (some 14) rfl rfl Tryz.func81 #[.slice A102_0 (rI_ l0_0 x8_1).length c102_0] rfl (h:=?_);(with_reducible refine (z81.calls k1 _ _ (rI_ l0_0 x8_1) true _ ?side1 ?side2 A11.out).mono ?_);(case side1=>exact Kd.C_below HR102_0.out (B2_ HB.out GE101.out GE103.out));(case side2=>exact HC102_0.out);rintro e w23 ⟨rfl,hb⟩;refine ⟨_,rfl,?_⟩;replace BK101:=Zz.mk (bB_ (g:=gb101) (o:=.cells #[.slice (some ad102) l0_0.length c0_0] 26 (0,0)) (by refine BW_ ?_;refine bR_ ?_ NB101_103.out _;refine BW_ ?_;exact BK101.out) hb);replace BK103:=Zz.mk (bB_ (g:=gb103) (o:=.cells #[.int .i64 x8_1] 3 (0,0)) (by refine BW_ ?_;refine bP_ (cs:=#[.int .i64 0]) ?_ 0 _ rfl;refine BW_ ?_;exact BK103.out) hb);replace HB:=Zz.mk (bT_ (B2_ HB.out GE101.out GE103.out) hb);(try clear hb);have hnb24:=NB103_101.out;have hnc24:=NB101_103.out;obtain ⟨hcz25_0,hfz25_0⟩:=Z1f_ BK103.out))
      go_meet
      case rel=>exact ⟨_,(false),E_,H',⟨by have:=HK1.out;first | omega | exact Nat.le_refl _⟩,⟨KB_ BK101.out⟩,⟨KB_ BK103.out⟩,⟨B2_ HB.out GE101.out GE103.out⟩⟩
     replace c12:=Bool.eq_false_iff.mpr c12
     subst c12
     replace H:=N_ H
     have H':=Zz.mk H
     clear H
     go_wp2_with (first | ((with_reducible refine gC_ (f:=81) rfl ?_);refine GL_ (some 14) rfl rfl Tryz.func81 #[.slice A102_0 (rI_ l0_0 x8_1).length c102_0] rfl (h:=?_);(with_reducible refine (z81.calls k1 _ _ (rI_ l0_0 x8_1) false _ ?side1 ?side2 A11.out).mono ?_);(case side1=>exact Kd.C_below HR102_0.out (B2_ HB.out GE101.out GE103.out));(case side2=>exact HC102_0.out);rintro e w26 ⟨rfl,hb⟩;refine ⟨_,rfl,?_⟩;replace BK101:=Zz.mk (bB_ (g:=gb101) (o:=.cells #[.slice (some ad102) l0_0.length c0_0] 26 (0,0)) (by refine BW_ ?_;refine bR_ ?_ NB101_103.out _;refine BW_ ?_;exact BK101.out) hb);replace BK103:=Zz.mk (bB_ (g:=gb103) (o:=.cells #[.int .i64 x8_1] 3 (0,0)) (by refine BW_ ?_;refine bP_ (cs:=#[.int .i64 0]) ?_ 0 _ rfl;refine BW_ ?_;exact BK103.out) hb);replace HB:=Zz.mk (bT_ (B2_ HB.out GE101.out GE103.out) hb);(try clear hb)))
     go_meet
     case rel=>exact ⟨_,(true),E_,H',⟨by have:=HK1.out;first | omega | exact Nat.le_refl _⟩,⟨KB_ BK101.out⟩,⟨KB_ BK103.out⟩,⟨B2_ HB.out GE101.out GE103.out⟩⟩
    case rest =>
     clear HC7
     (try clear c4);(try clear c4b0);(try clear c5b0);(try clear c6b0);(try clear hcz10_0);(try clear hcz3_0);(try clear hfz10_0);(try clear hfz3_0);(try clear hx102_0);(try clear p102);(try clear q102)
     obtain ⟨kq,x30_6,rfl,HA,HJ6,BK101,BK103,HB⟩:=hcut
     cases kq with
     | zero=>exact absurd HA.out (by simp [z49.j1])
     | succ kj6 =>
      have H:=HA.out
      clear HA
      simp only [z49.j1] at H
      by_cases c27:x30_6=true
      ·subst c27
       replace H:=T_ H
       obtain rfl:=OI_ H
       go_wp2
       go_ret
       exact ⟨F_,B2_ HB.out GE101.out GE103.out⟩
      replace c27:=Bool.eq_false_iff.mpr c27
      subst c27
      replace H:=N_ H
      replace H:=OZ_ H
      obtain ⟨t107,A28,H⟩:=H
      replace H:=OZ_ H
      obtain ⟨t110,A29,H⟩:=H
      by_cases c30:t110=true
      ·subst c30
       replace H:=T_ H
       obtain rfl:=OI_ H
       go_wp2_with (first | ((with_reducible refine gC_ (f:=83) rfl ?_);refine GL_ (some 32) rfl rfl Tryz.func83 #[.slice A102_0 (rI_ l0_0 x8_1).length c102_0] rfl (h:=?_);(with_reducible refine (z83.calls kj6 (fun k_=>k_<w.heap.size) _ _ (rI_ l0_0 x8_1) t107 _ ?side1 A28.out).mono ?_);(case side1=>exact Kd.V_mk HC102_0.out (Kd.F_below (Kd.C_F (Kd.heap_int .i64) HR102_0.out) (B2_ HB.out GE101.out GE103.out)));rintro e w31 ⟨v108,rfl,ho0,hb⟩;refine ⟨_,rfl,?_⟩;have HO109:=Zz.mk (Kd.N_lower (Kd.N_mono (ok':=fun k_=>k_≠gb101∧k_≠gb103) ho0 (fun k_ hk_=>⟨Or.elim hk_ (fun hs_=>fun e_=>Nat.not_le.2 hs_ (by rw [e_];exact GW101.out)) (fun hn_=>(Kd.freshB (g:=gb101) (o:=.cells #[.slice (some ad102) l0_0.length c0_0] 26 (0,0)) (KB_ BK101.out) k_ hn_)),Or.elim hk_ (fun hs_=>fun e_=>Nat.not_le.2 hs_ (by rw [e_];exact GW103.out)) (fun hn_=>(Kd.freshB (g:=gb103) (o:=.cells #[.int .i64 x8_1] 3 (0,0)) (KB_ BK103.out) k_ hn_))⟩)) (bS_ (B2_ HB.out GE101.out GE103.out)));replace BK101:=Zz.mk (kb_ BK101.out hb);replace BK103:=Zz.mk (kb_ BK103.out hb);replace HB:=Zz.mk (bT_ (B2_ HB.out GE101.out GE103.out) hb);(try clear hb);(try clear ho0);obtain ⟨Ao32,co32,eo32⟩:=Kd.N_slice HO109.out;subst eo32) | ((with_reducible refine gC_ (f:=82) rfl ?_);refine GL_ (some 34) rfl rfl Tryz.func82 #[.slice Ao32 t107.length co32,.func (.func 84) #[] #[.pointer (some ⟨gb101,0,none⟩),.pointer (some ⟨gb103,0,none⟩)]] rfl (h:=?_);(with_reducible refine (z151.calls kj6 _ _ t107 gb101 gb103 (some ad102) c0_0 l0_0 x8_1 true _ ?side1 ?side2 ?side3 ?side4 ?side5 ?side6 A29.out).mono ?_);(case side1=>refine BW_ ?_;exact BK101.out);(case side2=>refine BW_ ?_;exact BK103.out);(case side3=>exact KC_ (Kd.N_reads' HO109.out).2.2);(case side4=>exact (Kd.N_reads' HO109.out).2.1);(case side5=>exact KC_ (Kd.C_below HR0_0.out HB.out));(case side6=>exact HC0_0.out);rintro e w33 ⟨rfl,hb⟩;refine ⟨_,rfl,?_⟩;replace HO109:=Zz.mk (Kd.N_below (KN_ HO109.out) hb);replace BK101:=Zz.mk (kb_ BK101.out hb);replace BK103:=Zz.mk (kb_ BK103.out hb);replace HB:=Zz.mk (bT_ (B2_ HB.out GE101.out GE103.out) hb);(try clear hb)))
       go_ret
       exact ⟨F_,B2_ HB.out GE101.out GE103.out⟩
      replace c30:=Bool.eq_false_iff.mpr c30
      subst c30
      replace H:=N_ H
      have H':=Zz.mk H
      clear H
      go_wp2_with (first | ((with_reducible refine gC_ (f:=83) rfl ?_);refine GL_ (some 32) rfl rfl Tryz.func83 #[.slice A102_0 (rI_ l0_0 x8_1).length c102_0] rfl (h:=?_);(with_reducible refine (z83.calls kj6 (fun k_=>k_<w.heap.size) _ _ (rI_ l0_0 x8_1) t107 _ ?side1 A28.out).mono ?_);(case side1=>exact Kd.V_mk HC102_0.out (Kd.F_below (Kd.C_F (Kd.heap_int .i64) HR102_0.out) (B2_ HB.out GE101.out GE103.out)));rintro e w34 ⟨v108,rfl,ho0,hb⟩;refine ⟨_,rfl,?_⟩;have HO109:=Zz.mk (Kd.N_lower (Kd.N_mono (ok':=fun k_=>k_≠gb101∧k_≠gb103) ho0 (fun k_ hk_=>⟨Or.elim hk_ (fun hs_=>fun e_=>Nat.not_le.2 hs_ (by rw [e_];exact GW101.out)) (fun hn_=>(Kd.freshB (g:=gb101) (o:=.cells #[.slice (some ad102) l0_0.length c0_0] 26 (0,0)) (KB_ BK101.out) k_ hn_)),Or.elim hk_ (fun hs_=>fun e_=>Nat.not_le.2 hs_ (by rw [e_];exact GW103.out)) (fun hn_=>(Kd.freshB (g:=gb103) (o:=.cells #[.int .i64 x8_1] 3 (0,0)) (KB_ BK103.out) k_ hn_))⟩)) (bS_ (B2_ HB.out GE101.out GE103.out)));replace BK101:=Zz.mk (kb_ BK101.out hb);replace BK103:=Zz.mk (kb_ BK103.out hb);replace HB:=Zz.mk (bT_ (B2_ HB.out GE101.out GE103.out) hb);(try clear hb);(try clear ho0);obtain ⟨Ao35,co35,eo35⟩:=Kd.N_slice HO109.out;subst eo35) | ((with_reducible refine gC_ (f:=82) rfl ?_);refine GL_ (some 34) rfl rfl Tryz.func82 #[.slice Ao35 t107.length co35,.func (.func 84) #[] #[.pointer (some ⟨gb101,0,none⟩),.pointer (some ⟨gb103,0,none⟩)]] rfl (h:=?_);(with_reducible refine (z151.calls kj6 _ _ t107 gb101 gb103 (some ad102) c0_0 l0_0 x8_1 false _ ?side1 ?side2 ?side3 ?side4 ?side5 ?side6 A29.out).mono ?_);(case side1=>refine BW_ ?_;exact BK101.out);(case side2=>refine BW_ ?_;exact BK103.out);(case side3=>exact KC_ (Kd.N_reads' HO109.out).2.2);(case side4=>exact (Kd.N_reads' HO109.out).2.1);(case side5=>exact KC_ (Kd.C_below HR0_0.out HB.out));(case side6=>exact HC0_0.out);rintro e w36 ⟨rfl,hb⟩;refine ⟨_,rfl,?_⟩;replace HO109:=Zz.mk (Kd.N_below (KN_ HO109.out) hb);replace BK101:=Zz.mk (kb_ BK101.out hb);replace BK103:=Zz.mk (kb_ BK103.out hb);replace HB:=Zz.mk (bT_ (B2_ HB.out GE101.out GE103.out) hb);(try clear hb)))
      go_roundg kj6
      case measure=>have:=HK1.out;have:=HJ6.out;omega
      case rel=>exact ⟨(wrap64 (x8_1+1)),E_,H',⟨by have:=HK1.out;have:=HJ6.out;omega⟩,⟨KB_ BK101.out⟩,⟨B2_ HB.out GE101.out GE103.out⟩⟩
   rw [if_neg c4] at H
   have c4b0:decide (x8_1<(l0_0.length:Int))=false:=decide_eq_false c4
   clear c4
   obtain rfl:=OI_ H
   obtain ⟨hcz37_0,hfz37_0⟩:=Z1f_ BK101.out
   go_wp2
   go_ret
   exact ⟨F_,B1_ HB.out GE101.out⟩
end Go.Proofs.YtpgjfppbbbnclaaGreat.B
