/- Printed by a program of this work over the kit's printer. -/
import Derived.Test.YtpgjfppbbbnclaaGreatKDIMFMD0
import Derived.Test.YtpgjfppbbbnclaaGreatKIFGODB0
import Derived.Test.YtpgjfppbbbnclaaGreatKW0
set_option linter.unusedVariables false
set_option linter.unusedSimpArgs false
open Go.RowKit Go.Proofs.YtpgjfppbbbnclaaGreatW.PrintWords
namespace Go.Proofs.YtpgjfppbbbnclaaGreat.B
open Go.Proofs.YtpgjfppbbbnclaaGreatW.PrintLast Go.Proofs.YtpgjfppbbbnclaaGreatW.PrintMore
open SimT
def spec_l05Put.f (C:List (List Int)) (s:List Int):Option (List (List Int)):=if (decide (1≤s.length) && decide (s.length≤9)) && (decide (C.length+cntN s.length≤1048576) && C.all (fun x=>decide (x.length≤1048576))) then some (putN s.length C s) else none
theorem spec_l05Put.calls (g:Nat) (v:Value) (C:List (List Int)) (A:Option Addr) (c:Nat) (s:List Int) (r:List (List Int)) (w0 w:World) (P:Nat→Prop) (hg:w.heap[g]?=some (.cells #[v] 26 (0,0))) (hle:w0.heap.size≤g) (hS:Kd.S (Kd.slice 2 (Kd.int .i64)) 30 w w0.heap.size P v C) (hB:Below w0.heap.size w0 w) (hF:Kd.F (Kd.int .i64) w (fun k=>k≠g) A s.length s) (hc:s.length≤c) (h:spec_l05Put.f C s=some r) :
    Calls Tryz.prog 95 #[.pointer (some ⟨g,0,none⟩),.slice A s.length c] w fun e w'=>e=.returned (.tuple #[])∧∃ v',w'.heap[g]?=some (.cells #[v'] 26 (0,0))∧Kd.S (Kd.slice 2 (Kd.int .i64)) 30 w' w0.heap.size (fun k=>(P k∧k≠g)∨w.heap.size≤k) v' r∧Below w0.heap.size w0 w'∧Kept w w' (fun k=>k=g):=by
  unfold spec_l05Put.f at h
  obtain ⟨hcond,rfl⟩:((decide (1≤s.length) && decide (s.length≤9)) && (decide (C.length+cntN s.length≤1048576) && C.all (fun x=>decide (x.length≤1048576))))=true∧putN s.length C s=r:=by
    split at h
    · rename_i hc
      injection h with h
      exact ⟨hc,h⟩
    cases h
  simp only [Bool.and_eq_true,decide_eq_true_eq,List.all_eq_true] at hcond
  obtain ⟨⟨h1,h9⟩,hl,hr⟩:=hcond
  obtain ⟨n,hn⟩:∃ n,s.length=n+1:=⟨s.length - 1,by omega⟩
  have hgl:g<w.heap.size:=(Array.getElem?_eq_some_iff.1 hg).1
  have hst:StC w0 w g (fun k=>(P k∧k≠g)∨w.heap.size≤k) C:=⟨hle,⟨v,hg,Kd.S_mono (Kd.S_types hS hg (by decide)) (fun _ hk=>.inl hk)⟩,hB⟩
  refine (qMa n (by omega) s C A c g _ w0 w (fun k hk=>hk.elim (fun h=>h.2) (fun h=>by omega)) (fun k hk=>.inr hk) hn (by rw [← hn];exact hl) hr hst hF hc).mono (fun e w' h=>⟨h.1,?_⟩)
  obtain ⟨v',h2,h3⟩:=h.2.1.out
  rw [← hn] at h3
  exact ⟨v',h2,h3,h.2.1.hb,h.2.2⟩
section
variable {α:Type} {d:Kd α} {e base g t:Nat} {ok:Nat→Prop} {w w1:World} {u:Value} {xs:List α} {cells:Array Value}
theorem blk_kp {g':Nat} {o:Obj} (h:w.heap[g']?=some o) (hne:g'≠g) (hk:Kept w w1 (fun k=>k=g)):w1.heap[g']?=some o:=by
  have hlt:g'<w.heap.size:=(Array.getElem?_eq_some_iff.1 h).1
  rw [hk.2 g' hlt hne];exact h
end
end Go.Proofs.YtpgjfppbbbnclaaGreat.B
namespace Go.Proofs.YtpgjfppbbbnclaaGreat.B
open Go.Proofs.YtpgjfppbbbnclaaGreatW.PrintLast Go.Proofs.YtpgjfppbbbnclaaGreatW.PrintMore
attribute [local go_sem] qAq qAo qAu qAt qAl qAk qAp qAn
def z56.l0:Nat→List (List Int)→Int→List (List Int)→Option ((List (List Int)))
 | 0,_,_,_=>none
 | k+1,x0,x4,x106000=>if x4<(x0.length:Int) then (if 0≤x4 then ((spec_l05Put.f x106000 (rI_ x0 x4)).bind fun t107=>(z56.l0 k x0 (wrap64 (x4+1)) t107)) else (none)) else (some x106000)
def z56.f (k:Nat) (l0:List (List Int)):Option ((List (List Int))):=z56.l0 k l0 0 (([]:List (List Int)))
set_option maxHeartbeats 8000000 in
set_option maxRecDepth 100000 in
theorem z56.calls (k:Nat) (A0:Option Addr) (c0:Nat) (l0:List (List Int)) (r:List (List Int)) (w:World) (hr0:Kd.C (Kd.slice 2 (Kd.int .i64)) w A0 l0.length l0) (hc0:l0.length≤c0) (h:z56.f k l0=some r) :
  Calls Tryz.prog 56 #[.slice A0 l0.length c0] w fun e w'=>∃ v0_:Value,e=.returned (.agg #[v0_])∧Kd.S (Kd.slice 2 (Kd.int .i64)) 30 w' w.heap.size (fun _=>True) v0_ r∧Below w.heap.size w w':=by
 have hu26:=Tryz.underlying26
 have HR0:=Zz.mk hr0
 have HC0:=Zz.mk hc0
 clear hr0 hc0
 have HB:=Zz.mk (Below.refl w.heap.size w)
 have H:(z56.l0 k l0 0 (([]:List (List Int))))=some r:=h
 clear h
 obtain ⟨y102,hy102⟩:∃ y_:List (List Int),y_=(([]:List (List Int))):=⟨_,rfl⟩
 replace H:(z56.l0 k l0 0 y102)=some r:=Y_ hy102 H
 have Ny102:=Zz.mk hy102
 clear hy102
 have H':=Zz.mk H
 clear H
 go_enter Tryz.func56,Tryz.ntmps56
 go_wp2_with (first | ((with_reducible refine qAm (N:=2) rfl ?_);refine bx_ 2 #[.slice none 0 0] 26 ?_;intro gb101 hg w2 hbox hb;have BK101:=Zz.mk (hbox);have GW101:=Zz.mk ((gw_ hg (B_ HB.out)));have GE101:=GW101;replace HB:=Zz.mk (bT_ (B_ HB.out) hb);clear hb hbox hg) | ((with_reducible refine qAm (N:=5) rfl ?_);refine Kd.S_lit (Kd.slice 2 (Kd.int .i64)) _ 30 ?hg (N:=5) ?hd (xs:=([]:List (List Int))) (inner:=[]) (ok:=fun _=>True) (okp:=fun _=>True) ?hr ?hp (fun _ hk=>hk) trivial (Below.refl _ _) (Nat.le_refl _) (by simp) ?_;(case hd=>rfl);(case hg=>rfl);(case hr=>first | (go_simp;done) | (go_simp;rfl));(case hp=>exact (Reps.none _ _));intro v103 w3 ho4 hb hg_ hnew_;clear hg_ hnew_;(first | rw [← Ny102.out] at ho4 | (simp only [Int.reduceToNat] at ho4;rw [← Ny102.out] at ho4));have HO104:=Zz.mk (Kd.S_lower ho4 (bS_ (B1_ HB.out GE101.out)));replace BK101:=Zz.mk (kb_ BK101.out hb);replace HB:=Zz.mk (bT_ (B1_ HB.out GE101.out) hb);clear hb ho4;obtain ⟨Ao5,co5,eo5⟩:=Kd.S_slice HO104.out;subst eo5) | ((with_reducible refine qAm (N:=3) rfl ?_);refine bx_ 3 #[.slice none 0 0] 26 ?_;intro gb105 hg w6 hbox hb;have BK105:=Zz.mk (hbox);have GW105:=Zz.mk ((gw_ hg (B1_ HB.out GE101.out)));have GE105:=GW105;have NB101_105:=Zz.mk ((nb_ BK101.out hg));have NB105_101:=Zz.mk NB101_105.out.symm;replace HO104:=Zz.mk (Kd.S_below (KS_ HO104.out) hb);replace BK101:=Zz.mk (kb_ BK101.out hb);replace HB:=Zz.mk (bT_ (B1_ HB.out GE101.out) hb);clear hb hbox hg;have hnb7:=NB105_101.out;have hnc7:=NB101_105.out;obtain ⟨hcz8_0,hfz8_0⟩:=Z1f_ BK105.out))
 go_loopg [4] k (fun kq v4 w'=>∃ (x4_1:Int) (x106000_1:List (List Int)) (u106000:Value),v4=.int .i64 x4_1∧Zz (z56.l0 kq l0 x4_1 x106000_1=some r)∧Zz (kq≤k)∧Zz (Kd.S (Kd.slice 2 (Kd.int .i64)) 30 w' w.heap.size (fun _=>True) u106000 x106000_1)∧Zz (w'.heap[gb101]?=some (.cells #[(.slice none 0 0)] 26 (0,0)))∧Zz (w'.heap[gb105]?=some (.cells #[u106000] 26 (0,0)))∧Zz (Below w.heap.size w w'))
 case atStart=>exact ⟨(0),(y102),(.slice Ao5 y102.length co5),E_,H',⟨Nat.le_refl _⟩,⟨by refine SW_ ?_;exact Kd.S_mono (Kd.S_far (p:=⟨gb105,0,none⟩) (Kd.S_types HO104.out BK105.out (by decide)) (fun _ hk=>hk.2) (.slice Ao5 y102.length co5)) (fun _ hk=>trivial)⟩,⟨by refine BW_ ?_;refine bR_ ?_ NB101_105.out _;refine BW_ ?_;exact BK101.out⟩,⟨by refine BW_ ?_;refine bP_ (cs:=#[.slice none 0 0]) ?_ 0 _ rfl;refine BW_ ?_;exact BK105.out⟩,⟨B2_ HB.out GE101.out GE105.out⟩⟩
 case round =>
  clear H'
  (try clear hcz8_0);(try clear hfz8_0)
  obtain ⟨x4_1,x106000_1,u106000,rfl,HA,HK1,HO_106000,BK101,BK105,HB⟩:=hrel
  cases gk with
  | zero=>exact absurd HA.out (by simp [z56.l0])
  | succ k1 =>
   have H:=HA.out
   clear HA
   simp only [z56.l0] at H
   by_cases c9:x4_1<(l0.length:Int)
   ·rw [if_pos c9] at H
    have c9b0:decide (x4_1<(l0.length:Int))=true:=decide_eq_true c9
    clear c9
    have c10b0:=O3_ H
    replace H:=O2_ H
    replace H:=OZ_ H
    obtain ⟨t107,A11,H⟩:=H
    have H':=Zz.mk H
    clear H
    have p106:0≤(x4_1:Int):=D_
    have q106:x4_1<(l0.length:Int):=D_
    obtain ⟨ad106,A106_0,c106_0,e106,hx106_0,hl106_0,hi106_0⟩:=qA2 HR0.out x4_1 p106 q106
    cases e106
    replace hx106_0:=(HB.out.cell (World.block_lt_of_cell? w _ hx106_0)).trans hx106_0
    have HR106_0:=Zz.mk hi106_0
    have HC106_0:=Zz.mk hl106_0
    clear hi106_0 hl106_0
    replace p106:=eq_true p106
    replace q106:=eq_true q106
    obtain ⟨Ao12,co12,eo12⟩:=Kd.S_slice HO_106000.out
    subst eo12
    go_wp2_with (first | (go_at_call 95;(with_reducible refine (spec_l05Put.calls gb105 (.slice Ao12 x106000_1.length co12) x106000_1 A106_0 c106_0 (rI_ l0 x4_1) t107 w _ (fun k_=>True) ?side1 ?side2 ?side3 ?side4 ?side5 ?side6 A11.out).mono ?_);(case side1=>exact (KB_ BK105.out));(case side2=>exact GW105.out);(case side3=>exact (KS_ HO_106000.out));(case side4=>exact (B2_ HB.out GE101.out GE105.out));(case side5=>exact Kd.F_mono (Kd.F_below (Kd.C_F (Kd.heap_int .i64) HR106_0.out) (B2_ HB.out GE101.out GE105.out)) (fun k_ hk_=>Nat.ne_of_lt (Nat.lt_of_lt_of_le hk_ GW105.out)));(case side6=>exact HC106_0.out);rintro e w13 ⟨rfl,v108,hg_,hy0,hb,hkp⟩;have HO109:=Zz.mk (Kd.S_mono (ok':=fun k_=>k_≠gb105) hy0 (fun k_ hk_=>Or.elim hk_ (fun hs_=>hs_.2) (fun hn_=>Kd.freshB (g:=gb105) (o:=.cells #[.slice Ao12 x106000_1.length co12] 26 (0,0)) (KB_ BK105.out) k_ hn_)));replace BK101:=Zz.mk (blk_kp (KB_ BK101.out) NB101_105.out hkp);replace BK105:=Zz.mk (hg_);replace HB:=Zz.mk (hb);(try clear hb hkp hy0 hg_ HO_106000)))
    go_roundg k1
    case measure=>exact Q1_ HK1
    case rel=>exact ⟨(wrap64 (x4_1+1)),(t107),(v108),E_,H',⟨Q1_ HK1⟩,⟨by refine SW_ ?_;exact Kd.S_mono HO109.out (fun _ hk=>trivial)⟩,⟨KB_ BK101.out⟩,⟨KB_ BK105.out⟩,⟨B2_ HB.out GE101.out GE105.out⟩⟩
   rw [if_neg c9] at H
   have c9b0:decide (x4_1<(l0.length:Int))=false:=decide_eq_false c9
   clear c9
   obtain rfl:=OI_ H
   have hnb14:=NB105_101.out
   have hnc14:=NB101_105.out
   obtain ⟨hcz15_0,hfz15_0⟩:=Z1f_ BK105.out
   obtain ⟨Ao16,co16,eo16⟩:=Kd.S_slice HO_106000.out
   subst eo16
   obtain ⟨hcz17_0,hfz17_0⟩:=Z1f_ BK101.out
   go_wp2
   refine bodyPost_ret (results_cell_row rfl _ _ gb101 26 #[.slice Ao16 x106000_1.length co16] (0,0) _ rfl (by refine BW_ ?_;refine bP_ (cs:=#[.slice none 0 0]) ?_ 0 _ rfl;refine BW_ ?_;exact BK101.out) Tryz.underlying26 rfl (by kernel_rfl)) rfl ?_
   exact ⟨_,F_,by refine SW_ ?_;exact Kd.S_mono (Kd.S_far (p:=⟨gb101,0,none⟩) (Kd.S_types HO_106000.out BK101.out (by decide)) (fun _ hk=>hk.2) (.slice Ao16 x106000_1.length co16)) (fun _ hk=>trivial),B2_ HB.out GE101.out GE105.out⟩
end Go.Proofs.YtpgjfppbbbnclaaGreat.B
