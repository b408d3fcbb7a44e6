/- Printed by a program of this work over the kit's printer. -/
import Derived.Test.YtpgjfppbbbnclaaGreatKIFGODB0
import Derived.Test.YtpgjfppbbbnclaaGreatKW0
set_option linter.unusedVariables false
set_option linter.unusedSimpArgs false
open Go.RowKit Go.Proofs.YtpgjfppbbbnclaaGreatW.PrintWords
namespace Go.Proofs.YtpgjfppbbbnclaaGreat.B
open Go.Proofs.YtpgjfppbbbnclaaGreatW.PrintLast Go.Proofs.YtpgjfppbbbnclaaGreatW.PrintMore
attribute [local go_sem] qAq qAo qAu qAt qAl qAk qAp qAn
mutual
def z158.l0:Nat→Int→Int→Int→Int→Int→Int→List Int→Option (Int × Int × Int × List Int)
 | 0,_,_,_,_,_,_,_=>none
 | k+1,x2,x16,x17,x103000,x103001,x103002,x103003=>if x17<x16 then (z158.l1 k x2 x17 x16 x17 x2 0 x103000 x103001 x103002 x103003) else (some (x103000,x103001,x103002,x103003))
def z158.l1:Nat→Int→Int→Int→Int→Int→Int→Int→Int→Int→List Int→Option (Int × Int × Int × List Int)
 | 0,_,_,_,_,_,_,_,_,_,_=>none
 | k+1,x2,x10,x16,x17,x20,x21,x103000,x103001,x103002,x103003=>if x21<x20 then ((z100.f x10 x21).bind fun t103=>(if x103003.length<17592186044416 then (z158.l1 k x2 x10 x16 x17 x20 (wrap64 (x21+1)) x103000 x103001 x103002 (x103003 ++ [t103])) else (none))) else (z158.l0 k x2 x16 (wrap64 (x17+1)) x103000 x103001 x103002 x103003)
end
def z158.f (k:Nat) (a0:Int) (a1:Int) (a2:Int) :Option (Int × Int × Int × List Int):=z158.l0 k a2 a1 0 a0 a1 a2 ([]:List Int)
def z158.T8:Bool × List (List Nat × List Nat):=(true,[([],[]),([0],[0]),([],[]),([],[]),([],[]),([2,3,4],[2,3,4]),([5],[5]),([1,6,5],[1,6]),([0,1,2,3,4,5,6,7],[]),([8,7,7,0,1,2,3,4,5,6,7],[7,8])])
def z158.B8:List Nat:=[0,1,0,0,0,28,60,127,255,511]
theorem z158.tab8:rtab .any (qD3 Tryz.f99 8)=z158.T8:=by kernel_rfl
theorem z158.bits8:qBj z158.T8.2 z158.B8=true:=by kernel_rfl
set_option maxHeartbeats 8000000 in
set_option maxRecDepth 100000 in
theorem z158.calls (k:Nat) (a0:Int) (a1:Int) (a2:Int)  (r1:Int) (r2:Int) (r3:Int) (r4:List Int) (w:World) (h:z158.f k a0 a1 a2=some (r1,r2,r3,r4)) :
  Calls Tryz.prog 99 #[.int .i64 a0,.int .i64 a1,.int .i64 a2,.func (.func 100) #[] #[]] w fun e w'=>∃ v3_:Value,e=.returned (.agg #[.int .i64 r1,.int .i64 r2,.int .i64 r3,v3_])∧Kd.R (Kd.int .i64) 2 w' w.heap.size (fun _=>True) v3_ r4∧Below w.heap.size w w':=by
 have hu36:=Tryz.underlying36
 have HB:=Zz.mk (Below.refl w.heap.size w)
 have H:(z158.l0 k a2 a1 0 a0 a1 a2 ([]:List Int))=some (r1,r2,r3,r4):=h
 clear h
 have H':=Zz.mk H
 clear H
 go_enter Tryz.func99,Tryz.ntmps99
 go_wp2_with (first | ((with_reducible refine qAm (N:=8) rfl ?_);refine bx_ 8 #[.int .i64 0,.int .i64 0,.int .i64 0,.slice none 0 0] 36 ?_;intro gb101 hg w5 hbox hb;have BK101:=Zz.mk (hbox);have GW101:=Zz.mk ((gw_ hg (B_ HB.out)));have GE101:=GW101;replace HB:=Zz.mk (bT_ (B_ HB.out) hb);clear hb hbox hg) | ((with_reducible refine qAm (N:=9) rfl ?_);refine bx_ 9 #[.int .i64 0,.int .i64 0,.int .i64 0,.slice none 0 0] 36 ?_;intro gb102 hg w6 hbox hb;have BK102:=Zz.mk (hbox);have GW102:=Zz.mk ((gw_ hg (B1_ HB.out GE101.out)));have GE102:=GW102;have NB101_102:=Zz.mk ((nb_ BK101.out hg));have NB102_101:=Zz.mk NB101_102.out.symm;replace BK101:=Zz.mk (kb_ BK101.out hb);replace HB:=Zz.mk (bT_ (B1_ HB.out GE101.out) hb);clear hb hbox hg;have hnb7:=NB102_101.out;have hnc7:=NB101_102.out;obtain ⟨hcz8_0,hcz8_1,hcz8_2,hcz8_3,hfz8_0,hfz8_1,hfz8_2,hfz8_3⟩:=Z4f_ BK102.out))
 go_loopg [17] k (fun kq v17 w'=>∃ (x17_1:Int) (x103003_1:List Int) (u103003:Value),v17=.int .i64 x17_1∧Zz (z158.l0 kq a2 a1 x17_1 a0 a1 a2 x103003_1=some (r1,r2,r3,r4))∧Zz (kq≤k)∧Zz (Kd.R (Kd.int .i64) 2 w' w.heap.size (fun _=>True) u103003 x103003_1)∧Zz (w'.heap[gb101]?=some (.cells #[.int .i64 0,.int .i64 0,.int .i64 0,(.slice none 0 0)] 36 (0,0)))∧Zz (w'.heap[gb102]?=some (.cells #[.int .i64 a0,.int .i64 a1,.int .i64 a2,u103003] 36 (0,0)))∧Zz (Below w.heap.size w w'))
 case atStart=>exact ⟨(0),(([]:List Int)),(.slice none 0 0),E_,H',⟨Nat.le_refl _⟩,⟨by first | exact Kd.R_nil _ _ _ _ _ | exact Kd.N_nil _ _ _ _ _ | exact Kd.V_nil _ _ _ _ _ | exact Kd.Q_nil _ _ _ _ _ | exact Kd.S_nil _ _ _ _ _⟩,⟨by refine BW_ ?_;refine bR_ ?_ NB101_102.out _;refine BW_ ?_;refine bR_ ?_ NB101_102.out _;refine BW_ ?_;refine bR_ ?_ NB101_102.out _;refine BW_ ?_;refine bR_ ?_ NB101_102.out _;refine BW_ ?_;exact BK101.out⟩,⟨by refine BW_ ?_;refine bP_ (cs:=#[.int .i64 a0,.int .i64 a1,.int .i64 a2,.slice none 0 0]) ?_ 3 _ rfl;refine BW_ ?_;refine bP_ (cs:=#[.int .i64 a0,.int .i64 a1,.int .i64 0,.slice none 0 0]) ?_ 2 _ rfl;refine BW_ ?_;refine bP_ (cs:=#[.int .i64 a0,.int .i64 0,.int .i64 0,.slice none 0 0]) ?_ 1 _ rfl;refine BW_ ?_;refine bP_ (cs:=#[.int .i64 0,.int .i64 0,.int .i64 0,.slice none 0 0]) ?_ 0 _ rfl;refine BW_ ?_;exact BK102.out⟩,⟨B2_ HB.out GE101.out GE102.out⟩⟩
 case round =>
  clear H'
  (try clear hcz8_0);(try clear hcz8_1);(try clear hcz8_2);(try clear hcz8_3);(try clear hfz8_0);(try clear hfz8_1);(try clear hfz8_2);(try clear hfz8_3)
  obtain ⟨x17_1,x103003_1,u103003,rfl,HA,HK1,HO_103003,BK101,BK102,HB⟩:=hrel
  cases gk with
  | zero=>exact absurd HA.out (by simp [z158.l0])
  | succ k1 =>
   have H:=HA.out
   clear HA
   simp only [z158.l0] at H
   by_cases c9:x17_1<a1
   ·rw [if_pos c9] at H
    have c9b0:decide (x17_1<a1)=true:=decide_eq_true c9
    clear c9
    have H':=Zz.mk H
    clear H
    go_wp2
    go_loopg [21] k1 (fun kq v21 w'=>∃ (x21_2:Int) (x103003_2:List Int) (u103003:Value),v21=.int .i64 x21_2∧Zz (z158.l1 kq a2 x17_1 a1 x17_1 a2 x21_2 a0 a1 a2 x103003_2=some (r1,r2,r3,r4))∧Zz (kq≤k1)∧Zz (Kd.R (Kd.int .i64) 2 w' w.heap.size (fun _=>True) u103003 x103003_2)∧Zz (w'.heap[gb101]?=some (.cells #[.int .i64 0,.int .i64 0,.int .i64 0,(.slice none 0 0)] 36 (0,0)))∧Zz (w'.heap[gb102]?=some (.cells #[.int .i64 a0,.int .i64 a1,.int .i64 a2,u103003] 36 (0,0)))∧Zz (Below w.heap.size w w'))
    case atStart=>exact ⟨(0),(x103003_1),(u103003),E_,H',⟨Nat.le_refl _⟩,⟨KR_ HO_103003.out⟩,⟨KB_ BK101.out⟩,⟨KB_ BK102.out⟩,⟨B2_ HB.out GE101.out GE102.out⟩⟩
    case round =>
     clear H'
     (try clear c9);(try clear c9b0);(try clear hcz8_0);(try clear hcz8_1);(try clear hcz8_2);(try clear hcz8_3);(try clear hfz8_0);(try clear hfz8_1);(try clear hfz8_2);(try clear hfz8_3)
     obtain ⟨x21_2,x103003_2,u103003,rfl,HA,HK2,HO_103003,BK101,BK102,HB⟩:=hrel
     cases gk with
     | zero=>exact absurd HA.out (by simp [z158.l1])
     | succ k2 =>
      have H:=HA.out
      clear HA
      simp only [z158.l1] at H
      by_cases c10:x21_2<a2
      ·rw [if_pos c10] at H
       have c10b0:decide (x21_2<a2)=true:=decide_eq_true c10
       clear c10
       replace H:=OB_ H
       obtain ⟨t103,A110,H⟩:=H
       replace H:(if x103003_2.length<17592186044416 then (z158.l1 k2 a2 x17_1 a1 x17_1 a2 (wrap64 (x21_2+1)) a0 a1 a2 (x103003_2 ++ [t103])) else (none))=some (r1,r2,r3,r4):=H
       have A11:=Zz.mk A110
       clear A110
       have c12:=O1_ H
       replace H:=O2_ H
       have LMc12:=Zz.mk c12
       clear c12
       obtain ⟨y104,hy104⟩:∃ y_:List Int,y_=(x103003_2 ++ [t103]):=⟨_,rfl⟩
       replace H:(z158.l1 k2 a2 x17_1 a1 x17_1 a2 (wrap64 (x21_2+1)) a0 a1 a2 y104)=some (r1,r2,r3,r4):=Y_ hy104 H
       have Ny104:=Zz.mk hy104
       clear hy104
       have H':=Zz.mk H
       clear H
       try go_wp2
       replace HO_103003:=Zz.mk (Kd.R_drew HO_103003.out)
       replace BK101:=Zz.mk (bD_ BK101.out)
       replace BK102:=Zz.mk (bD_ BK102.out)
       replace HB:=Zz.mk (qAe HB.out)
       refine qB8 (n:=10) (S:=fun w'=>w'.cell? ⟨gb102,0,none⟩=some (.int .i64 a0)∧w'.cell? ⟨gb102,1,none⟩=some (.int .i64 a1)∧w'.cell? ⟨gb102,2,none⟩=some (.int .i64 a2)∧w'.cell? ⟨gb102,3,none⟩=some (u103003)) (ds:=[9]) (tb_ 10 0) (by kernel_rfl) rfl rfl (Z4_ BK102.out) (fun hHeld=>?_);refine qBb z158.tab8 z158.bits8 (fun HT_ HW_=>?_)
       generalize wr.drew=w13 at HO_103003 BK101 BK102 HB hHeld ⊢
       refine PX_ 0 24 (tb_ 10 1) HT_ rfl rfl ?_
       refine PX_ 2 26 (tb_ 10 5) HT_ rfl rfl ?_
       refine PX_ 3 27 (tb_ 10 13) HT_ rfl rfl ?_
       refine PX_ 4 28 (tb_ 10 29) HT_ rfl rfl ?_
       refine TV_ (i:=1) (N:=some 25) (tb_ 10 31) HT_ HW_ rfl rfl hHeld (by rintro w' ⟨s0,s1,s2,s3⟩;go_simp;with_reducible rfl) (h:=?_)
       refine one_ (i:=5) (N:=some 29) (tb_ 10 63) rfl rfl (qA7 HT_.out (by kernel_rfl)) (by decide) (fun K hK=>?_)
       refine GOF_ Tryz.func100 #[.int .i64 x17_1,.int .i64 x21_2] (h:=?_)
       with_reducible refine (z100.calls x17_1 x21_2 t103 _ A11.out).mono ?_
       rintro e w' ⟨rfl,⟨nd,rfl⟩⟩
       refine ⟨_,rfl,?_⟩
       refine hK.out _ _ (Z4_ BK102.out) (fun hHeld=>?_)
       clear hK K
       refine NM_ (N:=(some 29)) (h:=?_)
       refine one_ (i:=6) (N:=some 30) (tb_ 10 127) rfl rfl (qA7 HT_.out (by kernel_rfl)) (by decide) (fun K hK=>?_)
       refine qIo (w1:=?_) (v:=?_) (by rfl) rfl ?_ ?_
       rotate_left 2
       ·go_simp
        constructor
        ·rfl
        rfl
       refine hK.out _ _ ⟨(bC_ (bA_ BK102.out _) 0).trans rfl,(bC_ (bA_ BK102.out _) 1).trans rfl,(bC_ (bA_ BK102.out _) 2).trans rfl,(bC_ (bA_ BK102.out _) 3).trans rfl⟩ (fun hHeld=>?_)
       clear hK K
       refine NM_ (N:=(some 30)) (h:=?_)
       refine one_ (i:=7) (N:=some 31) (tb_ 10 255) rfl rfl (qA7 HT_.out (by kernel_rfl)) (by decide) (fun K hK=>?_)
       refine Kd.R_append_step (Kd.int .i64) (w0:=w) w.heap.size (by rfl) (.tmp 25) (.tmp 30) 30 2 (.int .i64 0) 8 rfl Tryz.underlying30 qB4 rfl (by decide) (by omega) u103003 x103003_2 t103 [.int .i64 t103] (fun _=>True) (fun _=>False) rfl rfl ?aP (fun _ hk=>hk.elim) ?aF ?aO ?aB ?aS ?aL ?_
       (case aP=>exact rfl)
       (case aB=>exact (B2_ HB.out GE101.out GE102.out))
       (case aF=>exact (fun _ _=>trivial))
       (case aO=>exact (KR_ HO_103003.out))
       (case aS=>exact (bS_ (B2_ HB.out GE101.out GE102.out)))
       (case aL=>have:=LMc12.out;omega)
       intro v105 w14 ho hb hg hat
       rw [← Ny104.out] at ho
       replace BK101:=Zz.mk (qA9 (g:=gb101) (o:=.cells #[.int .i64 0,.int .i64 0,.int .i64 0,.slice none 0 0] 36 (0,0)) (KB_ BK101.out) hg (Kd.R_ne HO_103003.out BK101.out (by decide)))
       replace BK102:=Zz.mk (qA9 (g:=gb102) (o:=.cells #[.int .i64 a0,.int .i64 a1,.int .i64 a2,u103003] 36 (0,0)) (KB_ BK102.out) hg (Kd.R_ne HO_103003.out BK102.out (by decide)))
       replace HB:=Zz.mk (hb)
       have HO106:=Zz.mk (ho)
       clear HO_103003
       clear ho hb hg hat
       obtain ⟨Ao15,co15,eo15⟩:=Kd.R_slice HO106.out
       (first | subst eo15 | obtain ⟨rfl,rfl⟩:=sl_ eo15)
       refine hK.out _ _ (Z4_ BK102.out) (fun hHeld=>?_)
       clear hK K
       refine NM_ (N:=(some 31)) (h:=?_)
       refine PX_ 8 32 (tb_ 10 511) HT_ rfl rfl ?_
       refine qIa (i:=9) (N:=none) (tb_ 10 1023) rfl rfl (qA7 HT_.out (by kernel_rfl)) (by decide) (fun K hK=>?_)
       have hs16:w14.cell? ⟨gb102,3,none⟩=some (u103003):=(bC_ BK102.out 3).trans rfl
       have hfs16:=bF_ BK102.out 3
       have hns16_0:=NB101_102.out
       have hms16_0:=NB102_101.out
       refine qG0 (w1:=?_) (by rfl) rfl ?_ ?_
       rotate_left
       ·go_simp
        rfl
       refine hK.out _ _ ?_
       clear hK K
       refine qDb (qBt HT_.out (by kernel_rfl)) ?_
       try go_wp2
       go_roundg k2
       case measure=>exact Q2_ HK1 HK2
       case rel=>exact ⟨(wrap64 (x21_2+1)),(y104),(.slice Ao15 y104.length co15),E_,H',⟨Q2_ HK1 HK2⟩,⟨by refine RW_ ?_;exact Kd.R_mono (Kd.R_far (p:=⟨gb102,3,none⟩) (Kd.R_types HO106.out BK102.out (by decide)) (fun _ hk=>hk.2) (.slice Ao15 y104.length co15)) (fun _ hk=>trivial)⟩,⟨by refine BW_ ?_;refine bR_ ?_ NB101_102.out _;refine BW_ ?_;exact BK101.out⟩,⟨by refine BW_ ?_;refine bP_ (cs:=#[.int .i64 a0,.int .i64 a1,.int .i64 a2,u103003]) ?_ 3 _ rfl;refine BW_ ?_;exact BK102.out⟩,⟨B2_ HB.out GE101.out GE102.out⟩⟩
      rw [if_neg c10] at H
      have c10b0:decide (x21_2<a2)=false:=decide_eq_false c10
      clear c10
      have H':=Zz.mk H
      clear H
      go_wp2
      go_roundg k2
      case measure=>exact Q2_ HK1 HK2
      case rel=>exact ⟨(wrap64 (x17_1+1)),(x103003_2),(u103003),E_,H',⟨Q2_ HK1 HK2⟩,⟨KR_ HO_103003.out⟩,⟨KB_ BK101.out⟩,⟨KB_ BK102.out⟩,⟨B2_ HB.out GE101.out GE102.out⟩⟩
   rw [if_neg c9] at H
   have c9b0:decide (x17_1<a1)=false:=decide_eq_false c9
   clear c9
   simp only [Option.some.injEq,Prod.mk.injEq] at H
   obtain ⟨rfl,rfl,rfl,rfl⟩:=H
   have hnb17:=NB102_101.out
   have hnc17:=NB101_102.out
   obtain ⟨hcz18_0,hcz18_1,hcz18_2,hcz18_3,hfz18_0,hfz18_1,hfz18_2,hfz18_3⟩:=Z4f_ BK102.out
   obtain ⟨hcz19_0,hcz19_1,hcz19_2,hcz19_3,hfz19_0,hfz19_1,hfz19_2,hfz19_3⟩:=Z4f_ BK101.out
   obtain ⟨Ao20,co20,eo20⟩:=Kd.R_slice HO_103003.out
   subst eo20
   go_wp2
   refine bodyPost_ret (results_cell_row rfl _ _ gb101 36 #[.int .i64 a0,.int .i64 a1,.int .i64 a2,.slice Ao20 x103003_1.length co20] (0,0) _ rfl (by refine BW_ ?_;refine bP_ (cs:=#[.int .i64 a0,.int .i64 a1,.int .i64 a2,.slice none 0 0]) ?_ 3 _ rfl;refine BW_ ?_;refine bP_ (cs:=#[.int .i64 a0,.int .i64 a1,.int .i64 0,.slice none 0 0]) ?_ 2 _ rfl;refine BW_ ?_;refine bP_ (cs:=#[.int .i64 a0,.int .i64 0,.int .i64 0,.slice none 0 0]) ?_ 1 _ rfl;refine BW_ ?_;refine bP_ (cs:=#[.int .i64 0,.int .i64 0,.int .i64 0,.slice none 0 0]) ?_ 0 _ rfl;refine BW_ ?_;exact BK101.out) Tryz.underlying36 rfl (by kernel_rfl)) rfl ?_
   exact ⟨_,F_,by refine RW_ ?_;exact Kd.R_mono (Kd.R_far (p:=⟨gb101,3,none⟩) (Kd.R_far (p:=⟨gb101,2,none⟩) (Kd.R_far (p:=⟨gb101,1,none⟩) (Kd.R_far (p:=⟨gb101,0,none⟩) (Kd.R_types HO_103003.out BK101.out (by decide)) (fun _ hk=>hk.2) (.int .i64 a0)) (fun _ hk=>hk.2) (.int .i64 a1)) (fun _ hk=>hk.2) (.int .i64 a2)) (fun _ hk=>hk.2) (.slice Ao20 x103003_1.length co20)) (fun _ hk=>trivial),B2_ HB.out GE101.out GE102.out⟩
end Go.Proofs.YtpgjfppbbbnclaaGreat.B
