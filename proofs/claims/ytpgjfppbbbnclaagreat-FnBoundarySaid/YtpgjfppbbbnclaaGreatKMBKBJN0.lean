/- Printed by a program of this work over the kit's printer. -/
import Derived.Test.YtpgjfppbbbnclaaGreatKIFGODB0
import Derived.Test.YtpgjfppbbbnclaaGreatKIFGODB1
import Derived.Test.YtpgjfppbbbnclaaGreatKW0
set_option linter.unusedVariables false
set_option linter.unusedSimpArgs false
open Go.RowKit Go.Proofs.YtpgjfppbbbnclaaGreatW.PrintWords
namespace Go.Proofs.YtpgjfppbbbnclaaGreat.B
open Go.Proofs.YtpgjfppbbbnclaaGreatW.PrintLast Go.Proofs.YtpgjfppbbbnclaaGreatW.PrintMore
attribute [local go_sem] qAq qAo qAu qAt qAl qAk qAp qAn
mutual
def z30.l0:Nat→Int→List (List Int)→Option (Bool)
 | 0,_,_=>none
 | k+1,x3,x51000=>if x3<(x51000.length:Int) then (if 0≤x3 then ((z45.f k (rI_ x51000 x3)).bind fun t102=>(if t102=true then (if x3 > 0 then (if 0≤(wrap64 (x3 - 1)) then (if (wrap64 (x3 - 1))<(x51000.length:Int) then ((z60.f k (rI_ x51000 (wrap64 (x3 - 1))) (rI_ x51000 x3)).bind fun t104=>(z30.j1 k x3 (rI_ x51000 x3) (!t104) x51000)) else (none)) else (none)) else (z30.j1 k x3 (rI_ x51000 x3) false x51000)) else (z30.j1 k x3 (rI_ x51000 x3) true x51000))) else (none)) else (some true)
def z30.j1:Nat→Int→List Int→Bool→List (List Int)→Option (Bool)
 | 0,_,_,_,_=>none
 | k+1,x3,x4,x47,x51000=>if x47=true then (some false) else (z30.l1 k x3 x4 0 x51000)
def z30.l1:Nat→Int→List Int→Int→List (List Int)→Option (Bool)
 | 0,_,_,_,_=>none
 | k+1,x3,x4,x5,x51000=>if x5<(x4.length:Int) then (z30.j3 k x3 x4 x5 (decide ((x4.length:Int) > 1)) x51000) else (z30.j3 k x3 x4 x5 false x51000)
def z30.j3:Nat→Int→List Int→Int→Bool→List (List Int)→Option (Bool)
 | 0,_,_,_,_,_=>none
 | k+1,x3,x4,x5,x56,x51000=>if x56=true then ((z61.f x4 x5).bind fun t105=>((z46.f k x51000 t105).bind fun t108=>(if t108<0 then (some false) else (z30.l1 k x3 x4 (wrap64 (x5+1)) x51000)))) else (z30.l0 k (wrap64 (x3+1)) x51000)
end
def z30.f (k:Nat) (l0_0:List (List Int)):Option (Bool):=if (l0_0.length:Int) > 48 then (some false) else (z30.l0 k 0 l0_0)
set_option maxHeartbeats 8000000 in
set_option maxRecDepth 100000 in
theorem z30.calls (k:Nat) (gp0:Nat) (A0_0:Option Addr) (c0_0:Nat) (l0_0:List (List Int)) (r:Bool) (w:World) (hbp0:w.heap[gp0]?=some (.cells #[.slice A0_0 l0_0.length c0_0] 26 (0,0))) (hr0_0:Kd.C (Kd.slice 2 (Kd.int .i64)) w A0_0 l0_0.length l0_0) (hc0_0:l0_0.length≤c0_0) (h:z30.f k l0_0=some r) :
  Calls Tryz.prog 30 #[.pointer (some ⟨gp0,0,none⟩)] w fun e w'=>e=.returned (.bool r)∧Below w.heap.size w w':=by
 have HR0_0:=Zz.mk hr0_0
 have HC0_0:=Zz.mk hc0_0
 clear hr0_0 hc0_0
 have BK50:=Zz.mk hbp0
 clear hbp0
 have HB:=Zz.mk (Below.refl w.heap.size w)
 have H:(if (l0_0.length:Int) > 48 then (some false) else (z30.l0 k 0 l0_0))=some r:=h
 clear h
 by_cases c2:(l0_0.length:Int) > 48
 ·rw [if_pos c2] at H
  have c2b0:decide (48<(l0_0.length:Int))=true:=decide_eq_true c2
  have c2b1:decide (48<l0_0.length)=true:=decide_eq_true (by omega)
  clear c2
  obtain rfl:=OI_ H
  obtain ⟨hcz3_0,hfz3_0⟩:=Z1f_ BK50.out
  go_enter Tryz.func30,Tryz.ntmps30
  go_wp2
  go_ret
  exact ⟨F_,B_ HB.out⟩
 rw [if_neg c2] at H
 have c2b0:decide (48<(l0_0.length:Int))=false:=decide_eq_false c2
 have c2b1:decide (48<l0_0.length)=false:=decide_eq_false (by omega)
 clear c2
 have H':=Zz.mk H
 clear H
 obtain ⟨hcz4_0,hfz4_0⟩:=Z1f_ BK50.out
 go_enter Tryz.func30,Tryz.ntmps30
 go_wp2
 go_loopg [3] k (fun kq v3 w'=>∃ (x3_1:Int),v3=.int .i64 x3_1∧Zz (z30.l0 kq x3_1 l0_0=some r)∧Zz (kq≤k)∧Zz (w'.heap[gp0]?=some (.cells #[(.slice A0_0 l0_0.length c0_0)] 26 (0,0)))∧Zz (Below w.heap.size w w'))
 case atStart=>exact ⟨(0),E_,H',⟨Nat.le_refl _⟩,⟨KB_ BK50.out⟩,⟨B_ HB.out⟩⟩
 case round =>
  clear H'
  (try clear c2);(try clear c2b0);(try clear c2b1);(try clear hcz4_0);(try clear hfz4_0)
  obtain ⟨x3_1,rfl,HA,HK1,BK50,HB⟩:=hrel
  cases gk with
  | zero=>exact absurd HA.out (by simp [z30.l0])
  | succ k1 =>
   have H:=HA.out
   clear HA
   simp only [z30.l0] at H
   by_cases c5:x3_1<(l0_0.length:Int)
   ·rw [if_pos c5] at H
    have c5b0:decide (x3_1<(l0_0.length:Int))=true:=decide_eq_true c5
    clear c5
    have c6b0:=O3_ H
    replace H:=O2_ H
    have HC7:=Zz.mk H
    clear H
    obtain ⟨hcz8_0,hfz8_0⟩:=Z1f_ BK50.out
    have p101:0≤(x3_1:Int):=D_
    have q101:x3_1<(l0_0.length:Int):=D_
    obtain ⟨ad101,A101_0,c101_0,e101,hx101_0,hl101_0,hi101_0⟩:=qA2 HR0_0.out x3_1 p101 q101
    cases e101
    replace hx101_0:=(HB.out.cell (World.block_lt_of_cell? w _ hx101_0)).trans hx101_0
    have HR101_0:=Zz.mk hi101_0
    have HC101_0:=Zz.mk hl101_0
    clear hi101_0 hl101_0
    replace p101:=eq_true p101
    replace q101:=eq_true q101
    go_upto_region 7 with (fail)
    go_cut [47] (fun v47 wc=>∃ (kq:Nat) (x47_6:Bool),v47=.bool x47_6∧Zz (z30.j1 kq x3_1 (rI_ l0_0 x3_1) x47_6 l0_0=some r)∧Zz (kq≤k1)∧Zz (wc.heap[gp0]?=some (.cells #[(.slice (some ad101) l0_0.length c0_0)] 26 (0,0)))∧Zz (Below w.heap.size w wc))
    case first =>
     have H:=HC7.out
     clear HC7
     replace H:=OZ_ H
     obtain ⟨t102,A9,H⟩:=H
     by_cases c10:t102=true
     ·subst c10
      replace H:=T_ H
      by_cases c11:x3_1 > 0
      ·rw [if_pos c11] at H
       have c11b0:decide (0<x3_1)=true:=decide_eq_true c11
       clear c11
       (first | rw [c11b0] | (simp only [qBl,qCi];rw [c11b0]) | skip)
       obtain ⟨ji12,hji12⟩:∃ j_:Int,(wrap64 (x3_1 - 1))=j_:=⟨_,rfl⟩
       replace H:(if 0≤(ji12) then (if (ji12)<(l0_0.length:Int) then ((z60.f k1 (rI_ l0_0 (ji12)) (rI_ l0_0 x3_1)).bind fun t104=>(z30.j1 k1 x3_1 (rI_ l0_0 x3_1) (!t104) l0_0)) else (none)) else (none))=some r:=by first | (rw [hji12] at H;exact H) | (simp only [hji12] at H ⊢;exact H)
       (try rw [hji12] at A9)
       have hji12w:(IntKind.i64.wrap (x3_1 - 1))=ji12:=(qBl _).trans hji12
       have c13b0:=O3_ H
       replace H:=O2_ H
       have c14b0:=O3_ H
       replace H:=O2_ H
       replace H:=OZ_ H
       obtain ⟨t104,A15,H⟩:=H
       have H':=Zz.mk H
       clear H
       go_wp2_with (first | ((with_reducible refine gC_ (f:=45) rfl ?_);refine GL_ (some 29) rfl rfl Tryz.func45 #[.slice A101_0 (rI_ l0_0 x3_1).length c101_0] rfl (h:=?_);(with_reducible refine (z45.calls k1 _ _ (rI_ l0_0 x3_1) true _ ?side1 ?side2 A9.out).mono ?_);(case side1=>exact KC_ (Kd.C_below HR101_0.out HB.out));(case side2=>exact HC101_0.out);rintro e w' ⟨rfl,⟨nd,rfl⟩⟩;refine ⟨_,rfl,?_⟩;obtain ⟨hcz16_0,hfz16_0⟩:=Z1f_ BK50.out;have p103:0≤((ji12):Int):=D_;have q103:(ji12)<(l0_0.length:Int):=D_;obtain ⟨ad103,A103_0,c103_0,e103,hx103_0,hl103_0,hi103_0⟩:=qA2 HR0_0.out (ji12) p103 q103;obtain rfl:ad101=ad103:=(by injection e103);replace hx103_0:=(HB.out.cell (World.block_lt_of_cell? w _ hx103_0)).trans hx103_0;have HR103_0:=Zz.mk hi103_0;have HC103_0:=Zz.mk hl103_0;clear hi103_0 hl103_0;replace p103:=eq_true p103;replace q103:=eq_true q103) | (go_at_call 60;(with_reducible refine (z60.calls k1 _ _ (rI_ l0_0 (ji12)) _ _ (rI_ l0_0 x3_1) t104 _ ?side1 ?side2 ?side3 ?side4 A15.out).mono ?_);(case side1=>repeat (first | exact (Kd.C_below HR103_0.out (B_ HB.out)) | (with_reducible refine Kd.C_alloc ?_ _) | (with_reducible refine Kd.C_drewN ?_ _) | (with_reducible refine Kd.C_drew ?_)));(case side2=>exact HC103_0.out);(case side3=>repeat (first | exact (Kd.C_below HR101_0.out (B_ HB.out)) | (with_reducible refine Kd.C_alloc ?_ _) | (with_reducible refine Kd.C_drewN ?_ _) | (with_reducible refine Kd.C_drew ?_)));(case side4=>exact HC101_0.out);rintro e w' ⟨rfl,⟨nd,rfl⟩⟩))
       go_meet
       case rel=>exact ⟨_,(!t104),E_,H',⟨by have:=HK1.out;first | omega | exact Nat.le_refl _⟩,⟨KB_ BK50.out⟩,⟨B_ HB.out⟩⟩
      rw [if_neg c11] at H
      have c11b0:decide (0<x3_1)=false:=decide_eq_false c11
      clear c11
      (first | rw [c11b0] | (simp only [qBl,qCi];rw [c11b0]) | skip)
      have H':=Zz.mk H
      clear H
      go_wp2_with (first | ((with_reducible refine gC_ (f:=45) rfl ?_);refine GL_ (some 29) rfl rfl Tryz.func45 #[.slice A101_0 (rI_ l0_0 x3_1).length c101_0] rfl (h:=?_);(with_reducible refine (z45.calls k1 _ _ (rI_ l0_0 x3_1) true _ ?side1 ?side2 A9.out).mono ?_);(case side1=>exact KC_ (Kd.C_below HR101_0.out HB.out));(case side2=>exact HC101_0.out);rintro e w' ⟨rfl,⟨nd,rfl⟩⟩;refine ⟨_,rfl,?_⟩))
      go_meet
      case rel=>exact ⟨_,(false),E_,H',⟨by have:=HK1.out;first | omega | exact Nat.le_refl _⟩,⟨KB_ BK50.out⟩,⟨B_ HB.out⟩⟩
     replace c10:=Bool.eq_false_iff.mpr c10
     subst c10
     replace H:=N_ H
     have H':=Zz.mk H
     clear H
     go_wp2_with (first | ((with_reducible refine gC_ (f:=45) rfl ?_);refine GL_ (some 29) rfl rfl Tryz.func45 #[.slice A101_0 (rI_ l0_0 x3_1).length c101_0] rfl (h:=?_);(with_reducible refine (z45.calls k1 _ _ (rI_ l0_0 x3_1) false _ ?side1 ?side2 A9.out).mono ?_);(case side1=>exact KC_ (Kd.C_below HR101_0.out HB.out));(case side2=>exact HC101_0.out);rintro e w' ⟨rfl,⟨nd,rfl⟩⟩;refine ⟨_,rfl,?_⟩))
     go_meet
     case rel=>exact ⟨_,(true),E_,H',⟨by have:=HK1.out;first | omega | exact Nat.le_refl _⟩,⟨KB_ BK50.out⟩,⟨B_ HB.out⟩⟩
    case rest =>
     clear HC7
     (try clear c2);(try clear c2b0);(try clear c2b1);(try clear c5);(try clear c5b0);(try clear c6b0);(try clear hcz4_0);(try clear hcz8_0);(try clear hfz4_0);(try clear hfz8_0);(try clear hx101_0);(try clear p101);(try clear q101)
     obtain ⟨kq,x47_6,rfl,HA,HJ6,BK50,HB⟩:=hcut
     cases kq with
     | zero=>exact absurd HA.out (by simp [z30.j1])
     | succ kj6 =>
      have H:=HA.out
      clear HA
      simp only [z30.j1] at H
      by_cases c17:x47_6=true
      ·subst c17
       replace H:=T_ H
       obtain rfl:=OI_ H
       go_wp2
       go_ret
       exact ⟨F_,B_ HB.out⟩
      replace c17:=Bool.eq_false_iff.mpr c17
      subst c17
      replace H:=N_ H
      have H':=Zz.mk H
      clear H
      go_wp2
      go_loopg [5] kj6 (fun kq v5 w'=>∃ (x5_3:Int),v5=.int .i64 x5_3∧Zz (z30.l1 kq x3_1 (rI_ l0_0 x3_1) x5_3 l0_0=some r)∧Zz (kq≤kj6)∧Zz (w'.heap[gp0]?=some (.cells #[(.slice (some ad101) l0_0.length c0_0)] 26 (0,0)))∧Zz (Below w.heap.size w w'))
      case atStart=>exact ⟨(0),E_,H',⟨Nat.le_refl _⟩,⟨KB_ BK50.out⟩,⟨B_ HB.out⟩⟩
      case round =>
       clear H'
       (try clear c2);(try clear c2b0);(try clear c2b1);(try clear c5);(try clear c5b0);(try clear c6b0);(try clear c17);(try clear hcz4_0);(try clear hcz8_0);(try clear hfz4_0);(try clear hfz8_0);(try clear hx101_0);(try clear p101);(try clear q101)
       obtain ⟨x5_3,rfl,HA,HK3,BK50,HB⟩:=hrel
       cases gk with
       | zero=>exact absurd HA.out (by simp [z30.l1])
       | succ k3 =>
        have H:=HA.out
        clear HA
        simp only [z30.l1] at H
        have HC18:=Zz.mk H
        clear H
        go_upto_region 10 with (fail)
        go_cut [56] (fun v56 wc=>∃ (kq:Nat) (x56_17:Bool),v56=.bool x56_17∧Zz (z30.j3 kq x3_1 (rI_ l0_0 x3_1) x5_3 x56_17 l0_0=some r)∧Zz (kq≤k3)∧Zz (wc.heap[gp0]?=some (.cells #[(.slice (some ad101) l0_0.length c0_0)] 26 (0,0)))∧Zz (Below w.heap.size w wc))
        case first =>
         have H:=HC18.out
         clear HC18
         by_cases c19:x5_3<((rI_ l0_0 x3_1).length:Int)
         ·rw [if_pos c19] at H
          have c19b0:decide (x5_3<((rI_ l0_0 x3_1).length:Int))=true:=decide_eq_true c19
          clear c19
          (first | rw [c19b0] | (simp only [qBl,qCi];rw [c19b0]) | skip)
          have H':=Zz.mk H
          clear H
          go_wp2
          go_meet
          case rel=>exact ⟨_,(decide (((rI_ l0_0 x3_1).length:Int) > 1)),E_,H',⟨by have:=HK1.out;have:=HJ6.out;have:=HK3.out;first | omega | exact Nat.le_refl _⟩,⟨KB_ BK50.out⟩,⟨B_ HB.out⟩⟩
         rw [if_neg c19] at H
         have c19b0:decide (x5_3<((rI_ l0_0 x3_1).length:Int))=false:=decide_eq_false c19
         clear c19
         (first | rw [c19b0] | (simp only [qBl,qCi];rw [c19b0]) | skip)
         have H':=Zz.mk H
         clear H
         go_wp2
         go_meet
         case rel=>exact ⟨_,(false),E_,H',⟨by have:=HK1.out;have:=HJ6.out;have:=HK3.out;first | omega | exact Nat.le_refl _⟩,⟨KB_ BK50.out⟩,⟨B_ HB.out⟩⟩
        case rest =>
         clear HC18
         (try clear c2);(try clear c2b0);(try clear c2b1);(try clear c5);(try clear c5b0);(try clear c6b0);(try clear c17);(try clear hcz4_0);(try clear hcz8_0);(try clear hfz4_0);(try clear hfz8_0);(try clear hx101_0);(try clear p101);(try clear q101)
         obtain ⟨kq,x56_17,rfl,HA,HJ17,BK50,HB⟩:=hcut
         cases kq with
         | zero=>exact absurd HA.out (by simp [z30.j3])
         | succ kj17 =>
          have H:=HA.out
          clear HA
          simp only [z30.j3] at H
          by_cases c20:x56_17=true
          ·subst c20
           replace H:=T_ H
           replace H:=OZ_ H
           obtain ⟨t105,A21,H⟩:=H
           replace H:=OZ_ H
           obtain ⟨t108,A22,H⟩:=H
           by_cases c23:t108<0
           ·rw [if_pos c23] at H
            have c23b0:decide (t108<0)=true:=decide_eq_true c23
            clear c23
            obtain rfl:=OI_ H
            go_wp2_with (first | ((with_reducible refine gC_ (f:=61) rfl ?_);refine GL_ (some 62) rfl rfl Tryz.func61 #[.slice A101_0 (rI_ l0_0 x3_1).length c101_0,.int .i64 x5_3] rfl (h:=?_);(with_reducible refine (z61.calls _ _ (rI_ l0_0 x3_1) x5_3 t105 _ ?side1 ?side2 A21.out).mono ?_);(case side1=>exact KC_ (Kd.C_below HR101_0.out HB.out));(case side2=>exact HC101_0.out);rintro e w24 ⟨v106,rfl,ho0,hb⟩;refine ⟨_,rfl,?_⟩;have HO107:=Zz.mk (Kd.R_lower ho0 (bS_ (B_ HB.out)));replace BK50:=Zz.mk (kb_ BK50.out hb);replace HB:=Zz.mk (bT_ (B_ HB.out) hb);(try clear hb);(try clear ho0);obtain ⟨Ao25,co25,eo25⟩:=Kd.R_slice HO107.out;subst eo25) | ((with_reducible refine gC_ (f:=46) rfl ?_);refine GL_ (some 63) rfl rfl Tryz.func46 #[.pointer (some ⟨gp0,0,none⟩),.slice Ao25 t105.length co25] rfl (h:=?_);(with_reducible refine (z46.calls kj17 gp0 (some ad101) c0_0 l0_0 _ _ t105 t108 _ ?side1 ?side2 ?side3 ?side4 ?side5 A22.out).mono ?_);(case side1=>refine BW_ ?_;exact BK50.out);(case side2=>exact KC_ (Kd.C_below HR0_0.out HB.out));(case side3=>exact HC0_0.out);(case side4=>exact KC_ (Kd.R_reads' HO107.out).2.2);(case side5=>exact (Kd.R_reads' HO107.out).2.1);rintro e w' ⟨rfl,⟨nd,rfl⟩⟩;refine ⟨_,rfl,?_⟩))
            go_ret
            exact ⟨F_,B_ HB.out⟩
           rw [if_neg c23] at H
           have c23b0:decide (t108<0)=false:=decide_eq_false c23
           clear c23
           have H':=Zz.mk H
           clear H
           go_wp2_with (first | ((with_reducible refine gC_ (f:=61) rfl ?_);refine GL_ (some 62) rfl rfl Tryz.func61 #[.slice A101_0 (rI_ l0_0 x3_1).length c101_0,.int .i64 x5_3] rfl (h:=?_);(with_reducible refine (z61.calls _ _ (rI_ l0_0 x3_1) x5_3 t105 _ ?side1 ?side2 A21.out).mono ?_);(case side1=>exact KC_ (Kd.C_below HR101_0.out HB.out));(case side2=>exact HC101_0.out);rintro e w26 ⟨v106,rfl,ho0,hb⟩;refine ⟨_,rfl,?_⟩;have HO107:=Zz.mk (Kd.R_lower ho0 (bS_ (B_ HB.out)));replace BK50:=Zz.mk (kb_ BK50.out hb);replace HB:=Zz.mk (bT_ (B_ HB.out) hb);(try clear hb);(try clear ho0);obtain ⟨Ao27,co27,eo27⟩:=Kd.R_slice HO107.out;subst eo27) | ((with_reducible refine gC_ (f:=46) rfl ?_);refine GL_ (some 63) rfl rfl Tryz.func46 #[.pointer (some ⟨gp0,0,none⟩),.slice Ao27 t105.length co27] rfl (h:=?_);(with_reducible refine (z46.calls kj17 gp0 (some ad101) c0_0 l0_0 _ _ t105 t108 _ ?side1 ?side2 ?side3 ?side4 ?side5 A22.out).mono ?_);(case side1=>refine BW_ ?_;exact BK50.out);(case side2=>exact KC_ (Kd.C_below HR0_0.out HB.out));(case side3=>exact HC0_0.out);(case side4=>exact KC_ (Kd.R_reads' HO107.out).2.2);(case side5=>exact (Kd.R_reads' HO107.out).2.1);rintro e w' ⟨rfl,⟨nd,rfl⟩⟩;refine ⟨_,rfl,?_⟩))
           go_roundg kj17
           case measure=>have:=HK1.out;have:=HJ6.out;have:=HK3.out;have:=HJ17.out;omega
           case rel=>exact ⟨(wrap64 (x5_3+1)),E_,H',⟨by have:=HK1.out;have:=HJ6.out;have:=HK3.out;have:=HJ17.out;omega⟩,⟨KB_ BK50.out⟩,⟨B_ HB.out⟩⟩
          replace c20:=Bool.eq_false_iff.mpr c20
          subst c20
          replace H:=N_ H
          have H':=Zz.mk H
          clear H
          go_wp2
          go_roundg kj17
          case measure=>have:=HK1.out;have:=HJ6.out;have:=HK3.out;have:=HJ17.out;omega
          case rel=>exact ⟨(wrap64 (x3_1+1)),E_,H',⟨by have:=HK1.out;have:=HJ6.out;have:=HK3.out;have:=HJ17.out;omega⟩,⟨KB_ BK50.out⟩,⟨B_ HB.out⟩⟩
   rw [if_neg c5] at H
   have c5b0:decide (x3_1<(l0_0.length:Int))=false:=decide_eq_false c5
   clear c5
   obtain rfl:=OI_ H
   obtain ⟨hcz28_0,hfz28_0⟩:=Z1f_ BK50.out
   go_wp2
   go_ret
   exact ⟨F_,B_ HB.out⟩
end Go.Proofs.YtpgjfppbbbnclaaGreat.B
