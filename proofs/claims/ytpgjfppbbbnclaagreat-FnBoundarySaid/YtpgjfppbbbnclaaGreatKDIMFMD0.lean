/- Printed by a program of this work over the kit's printer. -/
import Derived.Test.YtpgjfppbbbnclaaGreatKIFGODB0
import Derived.Test.YtpgjfppbbbnclaaGreatKIFGODB1
import Derived.Test.YtpgjfppbbbnclaaGreatKKAHCEC0
import Derived.Test.YtpgjfppbbbnclaaGreatKW0
set_option linter.unusedVariables false
set_option linter.unusedSimpArgs false
open Go.RowKit Go.Proofs.YtpgjfppbbbnclaaGreatW.PrintWords
set_option maxHeartbeats 8000000
set_option maxRecDepth 100000
namespace Go.Proofs.YtpgjfppbbbnclaaGreat.B
open Go.Proofs.YtpgjfppbbbnclaaGreatW.PrintLast Go.Proofs.YtpgjfppbbbnclaaGreatW.PrintMore
open SimT
structure StC (w0 w:World) (g:Nat) (Q:Nat→Prop) (C:List (List Int)):Prop where
  le:w0.heap.size≤g
  out:∃ v,w.heap[g]?=some (.cells #[v] 26 (0,0))∧Kd.S (Kd.slice 2 (Kd.int .i64)) 30 w w0.heap.size Q v C
  hb:Below w0.heap.size w0 w
theorem StC.below {w0 w w1:World} {g:Nat} {Q:Nat→Prop} {C:List (List Int)} (h:StC w0 w g Q C) (hb:Below w.heap.size w w1):StC w0 w1 g Q C:=by
  obtain ⟨v,h1,h2⟩:=h.out
  exact ⟨h.le,⟨v,bB_ h1 hb,Kd.S_below h2 hb⟩,bT_ h.hb hb⟩
theorem StC.drewN {w0 w:World} {g:Nat} {Q:Nat→Prop} {C:List (List Int)} (h:StC w0 w g Q C) (q:Nat):StC w0 (w.drewN q) g Q C:=h.below (qAb (Below.refl _ _) q)
def cntN:Nat→Nat
  | 0=>0
  | n+1=>1+(n+1) * cntN n
theorem qL9 (s:List Int) (C:List (List Int)) (A:Option Addr) (c g:Nat) (Q:Nat→Prop) (w0 w:World) (hs:s.length≤1048576) (hC:C.length≤1048576) (hrow:∀ x∈C,x.length≤1048576) (hst:StC w0 w g Q C) (hF:Kd.F (Kd.int .i64) w (fun k=>k≠g) A s.length s) (hc:s.length≤c) (hm:s∈C) :
    Calls Tryz.prog 95 #[.pointer (some ⟨g,0,none⟩),.slice A s.length c] w fun e w'=>e=.returned (.tuple #[])∧StC w0 w' g Q C∧Kept w w' (fun k=>k=g):=by
  obtain ⟨K,hK⟩:=(qIe C s (by omega) (fun x hx=>by have:=hrow x hx;omega)).rounds
  obtain ⟨i,hi,hie,_⟩:=qC3 hm
  rw [hie] at hK
  obtain ⟨v,hg,hS⟩:=hst.out
  obtain ⟨Av,cv,rfl⟩:=Kd.S_slice hS
  have HST:=Zz.mk hst
  have HG:=Zz.mk hg
  have HS:=Zz.mk hS
  have HF:=Zz.mk hF
  have HC:=Zz.mk hc
  have HK:=Zz.mk hK
  clear hst hg hS hF hc hK hrow
  go_enter Tryz.func95,Tryz.ntmps95
  go_wp2_with (go_at_call 46;refine (z46.calls K g Av cv C A c s _ _ ?s1 ?s2 ?s3 ?s4 HC.out HK.out).mono ?_;(case s1=>exact HG.out);(case s2=>exact (Kd.S_reads' HS.out).2.2);(case s3=>exact (Kd.S_reads' HS.out).2.1);(case s4=>exact Kd.F_now HF.out);rintro e w' ⟨rfl,⟨nd,rfl⟩⟩)
  (try simp only [Exit.inBlock,Exit.then])
  refine bodyPost_ret (results_none rfl _ _ _) rfl ?_
  exact ⟨rfl,HST.out.drewN nd,Kept.of_below (qAb (Below.refl _ _) nd) _⟩
theorem qN2 (n:Nat):1≤cntN (n+1):=by simp only [cntN];omega
theorem qLk (C:List (List Int)) (s:List Int):(ins C s).length=C.length+1:=by
  unfold ins
  have h:=congrArg List.length (List.takeWhile_append_dropWhile (p:=fun x=>slt x s) (l:=C))
  rw [List.length_append] at h
  rw [List.length_append,List.length_cons]
  omega
theorem qIc {F:List (List Int)→Nat→List (List Int)} {b M:Nat} (hF:∀ C k,k<M→(F C k).length≤C.length+b) (C:List (List Int)):∀ m,m≤M→((List.range m).foldl F C).length≤C.length+m * b
  | 0,_=>by simp
  | m+1,hm=>by
    rw [List.range_succ,List.foldl_append,List.foldl_cons,List.foldl_nil]
    have h1:=qIc hF C m (by omega)
    have h2:=hF ((List.range m).foldl F C) m (by omega)
    rw [Nat.add_mul,Nat.one_mul]
    omega
theorem qGl {F:List (List Int)→Nat→List (List Int)} {b M:Nat} (hF:∀ C k,k<M→∀ x∈F C k,x∈C∨x.length≤b) (C:List (List Int)):∀ m,m≤M→∀ x∈(List.range m).foldl F C,x∈C∨x.length≤b
  | 0,_,x,hx=>.inl (by simpa using hx)
  | m+1,hm,x,hx=>by
    rw [List.range_succ,List.foldl_append,List.foldl_cons,List.foldl_nil] at hx
    rcases hF _ m (by omega) x hx with h | h
    · exact qGl hF C m (by omega) x h
    exact .inr h
def fz (n:Nat) (s:List Int) (C:List (List Int)) (k:Nat):List (List Int):=if 1<s.length then putN n C (drp s k) else C
theorem qH2:∀ (n:Nat) (C:List (List Int)) (s:List Int),s.length≤n→(putN n C s).length≤C.length+cntN n
  | 0,C,s,_=>by simp [putN]
  | n+1,C,s,h=>by
    simp only [putN]
    split
    · omega
    rw [qLk]
    have h1:=qIc (F:=fz n s) (b:=cntN n) (M:=s.length) (fun C k hk=>by
      unfold fz
      split
      · exact qH2 n C (drp s k) (by rw [qBc hk];omega)
      omega) C s.length (Nat.le_refl _)
    have h2:s.length * cntN n≤(n+1) * cntN n:=Nat.mul_le_mul_right _ h
    unfold fz at h1
    simp only [cntN]
    omega
theorem qI0:∀ (n:Nat) (C:List (List Int)) (s:List Int),∀ x∈putN n C s,x∈C∨x.length≤s.length
  | 0,C,s,x,hx=>.inl (by simpa [putN] using hx)
  | n+1,C,s,x,hx=>by
    simp only [putN] at hx
    split at hx
    · exact .inl hx
    rcases qFe.1 hx with h | h
    · exact .inr (by rw [h];omega)
    exact qGl (F:=fz n s) (b:=s.length) (M:=s.length) (fun C k hk x hx=>by
      unfold fz at hx
      split at hx
      · rcases qI0 n C (drp s k) x hx with h | h
        · exact .inl h
        exact .inr (by rw [qBc hk] at h;omega)
      exact .inl hx) C s.length (Nat.le_refl _) x h
def qBs (n:Nat) (s:List Int) (C:List (List Int)) (kk:Nat):List (List Int):=(List.range kk).foldl (fz n s) C
theorem qE3 (n:Nat) (s:List Int) (C:List (List Int)) (kk:Nat):qBs n s C (kk+1)=fz n s (qBs n s C kk) kk:=by
  unfold qBs
  rw [List.range_succ,List.foldl_append,List.foldl_cons,List.foldl_nil]
theorem qFp (n:Nat) (s:List Int) (C:List (List Int)) (hs:s.length≤n+1) {kk:Nat} (hk:kk≤s.length):(qBs n s C kk).length≤C.length+kk * cntN n :=
  qIc (F:=fz n s) (b:=cntN n) (M:=s.length) (fun C k hk=>by
    unfold fz
    split
    · exact qH2 n C (drp s k) (by rw [qBc hk];omega)
    omega) C kk hk
theorem qE4 (n:Nat) (s:List Int) (C:List (List Int)) {kk:Nat} (hk:kk≤s.length):∀ x∈qBs n s C kk,x∈C∨x.length≤s.length :=
  qGl (F:=fz n s) (b:=s.length) (M:=s.length) (fun C k hk x hx=>by
    unfold fz at hx
    split at hx
    · rcases qI0 n C (drp s k) x hx with h | h
      · exact .inl h
      exact .inr (by rw [qBc hk] at h;omega)
    exact .inl hx) C kk hk
theorem qNr (n:Nat) (C:List (List Int)) (s:List Int) (h:s ∉ C):putN (n+1) C s=ins (qBs n s C s.length) s:=by
  simp only [putN]
  rw [if_neg h];rfl
theorem qJq {p:List Int→Bool}:∀ {l:List (List Int)} {t:Nat},t<(l.takeWhile p).length→p (l.getD t [])=true
  | [],t,h=>by simp at h
  | a :: l,t,h=>by
    by_cases ha:p a=true
    · rw [List.takeWhile_cons_of_pos ha,List.length_cons] at h
      cases t with
      | zero=>exact ha
      | succ t=>exact qJq (l:=l) (by omega)
    rw [List.takeWhile_cons_of_neg ha] at h
    simp at h
theorem qHz {p:List Int→Bool}:∀ {l:List (List Int)},(l.takeWhile p).length<l.length→p (l.getD (l.takeWhile p).length [])=false
  | [],h=>by simp at h
  | a :: l,h=>by
    by_cases ha:p a=true
    · rw [List.takeWhile_cons_of_pos ha,List.length_cons] at h ⊢
      exact qHz (l:=l) (by simpa using h)
    rw [List.takeWhile_cons_of_neg ha]
    show p a=false
    simpa using ha
theorem qFx (C:List (List Int)) (s:List Int):ins C s=C.take (C.takeWhile fun x=>slt x s).length ++ s :: C.drop (C.takeWhile fun x=>slt x s).length:=by
  have h:(C.takeWhile fun x=>slt x s) ++ (C.dropWhile fun x=>slt x s)=C:=List.takeWhile_append_dropWhile
  unfold ins
  have e1:C.take (C.takeWhile fun x=>slt x s).length=C.takeWhile fun x=>slt x s:=by
    exact (congrArg (List.take _) h).symm.trans (List.take_left' rfl)
  have e2:C.drop (C.takeWhile fun x=>slt x s).length=C.dropWhile fun x=>slt x s:=by
    exact (congrArg (List.drop _) h).symm.trans (List.drop_left' rfl)
  rw [e1,e2]
theorem Kept.set_ {w w':World} {g:Nat} (h:Kept w w' (fun k=>k=g)) (u:Value):Kept w (w'.setCell ⟨g,0,none⟩ u) (fun k=>k=g) :=
  ⟨Nat.le_trans h.1 (by simp [World.setCell]),fun i hi hn=>(Below.heap_setCell w' ⟨g,0,none⟩ u i hn).trans (h.2 i hi hn)⟩
theorem qNx {C:List (List Int)} {s:List Int} (h:s ∉ C):idx C s=-1:=by unfold idx;rw [if_neg h]
theorem qMa:∀ (n:Nat),n≤8→∀ (s:List Int) (C:List (List Int)) (A:Option Addr) (c g:Nat) (Q:Nat→Prop) (w0 w:World),(∀ k,Q k→k≠g)→(∀ k,w.heap.size≤k→Q k)→s.length=n+1→C.length+cntN (n+1)≤1048576→(∀ x∈C,x.length≤1048576)→StC w0 w g Q C→Kd.F (Kd.int .i64) w (fun k=>k≠g) A s.length s→s.length≤c →
    Calls Tryz.prog 95 #[.pointer (some ⟨g,0,none⟩),.slice A s.length c] w fun e w'=>e=.returned (.tuple #[])∧StC w0 w' g Q (putN (n+1) C s)∧Kept w w' (fun k=>k=g):=by
  intro n
  induction n using Nat.strongRecOn with
  | ind n ih =>
    intro hn s C A c g Q w0 w hQ1 hQ2 hsl hCl hrow hst hF hc
    have hcp:=qN2 n
    by_cases hm:s∈C
    · rw [show putN (n+1) C s=C by simp only [putN];rw [if_pos hm]]
      exact qL9 s C A c g Q w0 w (by omega) (by omega) hrow hst hF hc hm
    rw [qNr n C s hm]
    obtain ⟨K,hK⟩:=(qIe C s (by omega) (fun x hx=>by have:=hrow x hx;omega)).rounds
    rw [qNx hm] at hK
    obtain ⟨v,hg,hS⟩:=hst.out
    obtain ⟨Av,cv,rfl⟩:=Kd.S_slice hS
    have HST:=Zz.mk hst
    have HG:=Zz.mk hg
    have HS:=Zz.mk hS
    have HF:=Zz.mk hF
    have HC:=Zz.mk hc
    have HK:=Zz.mk hK
    have HN:=Zz.mk (And.intro hn (And.intro hCl (And.intro hrow hm)))
    have IH:=Zz.mk ih
    have HL:=Zz.mk hsl
    have HQ1:=Zz.mk hQ1
    have HQ2:=Zz.mk hQ2
    clear hst hg hS hF hc hK hrow hm hCl hn ih hcp hQ1 hQ2
    clear hsl
    go_enter Tryz.func95,Tryz.ntmps95
    go_wp2_with (go_at_call 46;refine (z46.calls K g Av cv C A c s _ _ ?s1 ?s2 ?s3 ?s4 HC.out HK.out).mono ?_;(case s1=>exact HG.out);(case s2=>exact (Kd.S_reads' HS.out).2.2);(case s3=>exact (Kd.S_reads' HS.out).2.1);(case s4=>exact Kd.F_now HF.out);rintro e w' ⟨rfl,⟨nd,rfl⟩⟩)
    go_loopg [4] s.length (fun gg v4 wr=>∃ kk:Nat,kk≤s.length∧s.length - kk≤gg∧v4=.int .i64 kk∧Zz (StC w0 wr g Q (qBs n s C kk))∧Zz (Kept w wr (fun k=>k=g))∧Zz (n=0→kk=0))
    case atStart=>exact ⟨0,by omega,by omega,rfl,⟨HST.out.drewN nd⟩,⟨Kept.of_below (qAb (Below.refl _ _) nd) _⟩,⟨fun _=>rfl⟩⟩
    case round =>
      obtain ⟨kk,hkk,hgg,rfl,HST1,HK1,HN1⟩:=hrel
      by_cases hlt:0<n∧kk<s.length
      · obtain ⟨hn0,hks⟩:=hlt
        have hltz:(kk:Int)<(s.length:Int):=by omega
        have hl1:=HL.out
        have h1z:(1:Int)<(s.length:Int):=by omega
        have hs9:s.length≤9:=by have:=HN.out.1;omega
        have HD:=Zz.mk (qKr s kk hks (by omega))
        have hF1:=Kd.F_kept HF.out HK1.out (fun k hk hk2=>hk hk2)
        have HF1:=Zz.mk hF1
        have hgw:g<wr.heap.size:=by
          obtain ⟨v1,h1,_⟩:=HST1.out.out
          exact (Array.getElem?_eq_some_iff.1 h1).1
        have HGW:=Zz.mk hgw
        have hdl:=qBc hks
        have hlen2:(qBs n s C kk).length+cntN (n - 1+1)≤1048576:=by
          have h1:=qFp n s C (by omega) hkk
          have h2:=HN.out.2.1
          have h3:(kk+1) * cntN n≤(n+1) * cntN n:=Nat.mul_le_mul_right _ (by omega)
          rw [Nat.add_mul,Nat.one_mul] at h3
          rw [show n - 1+1=n by omega]
          simp only [cntN] at h2
          omega
        have hrow2:∀ x∈qBs n s C kk,x.length≤1048576:=fun x hx=>by
          rcases qE4 n s C hkk x hx with h | h
          · exact HN.out.2.2.1 x h
          omega
        have HP:=Zz.mk (And.intro (show (drp s kk).length=n - 1+1 by omega) (And.intro hlen2 (And.intro hrow2 (And.intro (show n - 1<n by omega) (And.intro (show n - 1≤8 by omega) (show 1<s.length by omega))))))
        clear hF1 hgw hdl hlen2 hrow2 hl1 hs9
        go_wp2_with (first
          | (go_at_call 61;refine (z61.calls A c s (kk:Int) (drp s kk) _ ?s1 HC.out HD.out).mono ?_;(case s1=>exact Kd.F_now HF1.out);rintro e w2 ⟨v2,rfl,hR2,hb2⟩;have HR2:=Zz.mk hR2;have HB2:=Zz.mk hb2;clear hR2 hb2;obtain ⟨A2,c2,e2⟩:=Kd.R_slice HR2.out;subst e2)
          | (go_at_call 95;refine (IH.out (n - 1) HP.out.2.2.2.1 HP.out.2.2.2.2.1 (drp s kk) (qBs n s C kk) A2 c2 g Q w0 _ HQ1.out (fun k hk=>HQ2.out k (Nat.le_trans HK1.out.1 (Nat.le_trans HB2.out.size hk))) HP.out.1 HP.out.2.1 HP.out.2.2.1 ?t4 ?t5 ?t6).mono ?_;(case t4=>exact HST1.out.below HB2.out);(case t5=>exact Kd.R_F (Kd.R_reok rfl HR2.out (fun k hk he=>by have h1:=Kd.R_base HR2.out k hk;have h2:=HGW.out;omega)));(case t6=>exact (Kd.R_reads' HR2.out).2.1);rintro e w3 ⟨rfl,hst3,hk3⟩;have HST3:=Zz.mk hst3;have HK3:=Zz.mk hk3;clear hst3 hk3))
        go_roundg (s.length - (kk+1))
        case measure=>omega
        case rel =>
          have hs9:s.length≤9:=by have:=HN.out.1;have:=HL.out;omega
          refine ⟨kk+1,by omega,by omega,by rw [qAw (by omega)],⟨?_⟩,⟨Kept.then_ (Kept.then_ HK1.out (Kept.of_below HB2.out (fun k=>k=g)) (fun k h=>.inl h)) HK3.out (fun k h=>.inl h)⟩,⟨fun h=>by omega⟩⟩
          rw [qE3]
          unfold fz
          rw [if_pos HP.out.2.2.2.2.2]
          have h:=HST3.out
          rw [show n - 1+1=n by omega] at h
          exact h
      have hCe:qBs n s C kk=qBs n s C s.length∧(kk=s.length∨s.length=1∧kk=0):=by
        rcases Nat.lt_or_ge kk s.length with h | h
        · have hn0:n=0:=by omega
          have h1:s.length=1:=by have:=HL.out;omega
          have hk0:=HN1.out hn0
          subst hk0
          refine ⟨?_,.inr ⟨h1,rfl⟩⟩
          rw [h1,qE3]
          unfold fz
          rw [if_neg (by omega)]
        have:kk=s.length:=by omega
        exact ⟨by rw [this],.inl this⟩
      have hs9:s.length≤9:=by have:=HN.out.1;have:=HL.out;omega
      have hlen1:(qBs n s C s.length).length+1≤1048576:=by
        have h1:=qFp n s C (by have:=HL.out;omega) (Nat.le_refl s.length)
        have h2:=HN.out.2.1
        have h3:=HL.out
        rw [h3] at h1 ⊢
        simp only [cntN] at h2
        omega
      have hrow1:∀ x∈qBs n s C s.length,x.length≤1048576:=fun x hx=>by
        rcases qE4 n s C (Nat.le_refl _) x hx with h | h
        · exact HN.out.2.2.1 x h
        omega
      have hst1:=HST1.out
      rw [hCe.1] at hst1
      generalize hgen:qBs n s C s.length=C1 at hst1 hlen1 hrow1
      have HGEN:=Zz.mk hgen
      clear hgen
      obtain ⟨v1,hg1,hS1⟩:=hst1.out
      obtain ⟨A1,c1,rfl⟩:=Kd.S_slice hS1
      have HC1:=Zz.mk hst1
      have HG1:=Zz.mk hg1
      have HS1:=Zz.mk hS1
      have hF1:=Kd.F_kept HF.out HK1.out (fun k hk hk2=>hk hk2)
      have HF1:=Zz.mk hF1
      have HP1:=Zz.mk (And.intro hlen1 hrow1)
      have hcell1:wr.cell? ⟨g,0,none⟩=some (.slice A1 C1.length c1):=(bC_ HG1.out 0).trans rfl
      have hk:=hCe.2
      clear hst1 hlen1 hrow1 hg1 hS1 hF1 HST1 hCe HST HG HS HK IH HN1 hs9 hlt
      rcases hk with hk | ⟨hk1,hk0⟩
      · have hltz:¬ (kk:Int)<(s.length:Int):=by omega
        clear hk
        go_wp2_with fail
        clear hltz
        obtain ⟨W1,hW1⟩:∃ x:World,x=wr:=⟨_,rfl⟩
        subst hW1
        obtain ⟨am,ham⟩:∃ am,am=(C1.takeWhile fun x=>slt x s).length:=⟨_,rfl⟩
        have hamC:am≤C1.length:=by rw [ham];exact (List.takeWhile_sublist _).length_le
        have HAM:=Zz.mk (And.intro hamC ham)
        clear ham hamC
        go_loopg [5] C1.length (fun gg v5 w_=>∃ t:Nat,t≤am∧C1.length - t≤gg∧v5=.int .i64 t∧∃ q,w_=W1.drewN q)
        case atStart=>exact ⟨0,by omega,by omega,rfl,0,rfl⟩
        case round =>
          obtain ⟨t,ht,hg5,rfl,q,hQ⟩:=hrel
          have HC2:=Zz.mk (show StC w0 wr g Q C1 by rw [hQ];exact HC1.out.drewN q)
          have hcell2:wr.cell? ⟨g,0,none⟩=some (.slice A1 C1.length c1):=by rw [hQ];exact hcell1
          have HQ:=Zz.mk hQ
          clear hcell1 hQ
          rcases Nat.lt_or_ge t C1.length with htl | htl
          · have htz:(t:Int)<(C1.length:Int):=by omega
            have hel:∃ (gr:Nat) (A3:Option Addr) (c3:Nat),A1=some ⟨gr,0,none⟩∧wr.cell? ⟨gr,t,none⟩=some (.slice A3 (C1.getD t []).length c3)∧(C1.getD t []).length≤c3∧Kd.C (Kd.int .i64) wr A3 (C1.getD t []).length (C1.getD t []):=by
              obtain ⟨gr,gc,he,_⟩:=Kd.S_form HS1.out (by omega)
              injection he with he1 he2 he3
              subst he1
              obtain ⟨cc,hcl,hM,hcc⟩:=Kd.S_get HS1.out ([]:List Int) (t:Int) (by omega) (by omega)
              rw [Int.toNat_natCast] at hM hcc
              obtain ⟨A3,c3,rfl,hlc,hCx⟩:=(Kd.slice 2 (Kd.int .i64)).K_of_M hM
              have hcell:=hcc 0 _ rfl
              refine ⟨gr,A3,c3,rfl,?_,hlc,by rw [HQ.out];exact Kd.C_drewN hCx q⟩
              rw [HQ.out]
              simpa [show (Kd.slice 2 (Kd.int .i64)).sz=1 from rfl,qBa] using hcell
            obtain ⟨gr,A3,c3,rfl,hc3,hl3,hC3⟩:=hel
            have hrow3:(C1.getD t []).length≤1048576:=HP1.out.2 _ (by rw [List.getD_eq_getElem?_getD,List.getElem?_eq_getElem htl];exact List.getElem_mem _)
            obtain ⟨K3,hK3⟩:=(qGs (C1.getD t []) s (by omega)).rounds
            have HF3:=Zz.mk (show Kd.F (Kd.int .i64) wr (fun k=>k≠g) A s.length s by rw [HQ.out];exact Kd.F_drewN HF1.out q)
            have HC3:=Zz.mk (And.intro hl3 hC3)
            clear hl3 hC3 hrow3
            rcases Nat.lt_or_ge t am with hta | hta
            · have hsl3:slt (C1.getD t []) s=true:=qJq (p:=fun x=>slt x s) (by rw [← HAM.out.2];exact hta)
              rw [hsl3] at hK3
              have HK3:=Zz.mk hK3
              clear hK3 hsl3
              generalize C1.getD t []=x3 at HK3 HC3 hc3
              go_wp2_with (go_at_call 60;refine (z60.calls K3 A3 c3 x3 A c s _ _ HC3.out.2 HC3.out.1 (Kd.F_now HF3.out) HC.out HK3.out).mono ?_;rintro e w' ⟨rfl,⟨nd2,rfl⟩⟩)
              go_roundg (C1.length - (t+1))
              case measure=>omega
              case rel=>exact ⟨t+1,by omega,by omega,by rw [qAw (by have:=HP1.out.1;omega)],q+nd2,by rw [HQ.out,World.drewN_drewN]⟩
            have hte:am=t:=by omega
            subst hte
            have hsl3:slt (C1.getD am []) s=false:=by
              have h:=qHz (p:=fun x=>slt x s) (l:=C1) (by rw [← HAM.out.2];exact htl)
              rw [← HAM.out.2] at h
              exact h
            rw [hsl3] at hK3
            have HK3:=Zz.mk hK3
            clear hK3 hsl3
            generalize C1.getD am []=x3 at HK3 HC3 hc3
            have hst2:=HC2.out
            obtain ⟨v2,hg2,hS2⟩:=hst2.out
            obtain rfl:v2=.slice (some (⟨gr,0,none⟩:Addr)) C1.length c1:=by
              have h:=hcell2
              have h2:wr.cell? ⟨g,0,none⟩=some v2:=(bC_ hg2 0).trans rfl
              rw [h2] at h
              injection h
            obtain ⟨f,rows,hrl,hRaw,hr0,hrM⟩:=qK5 hS2
            have HG2:=Zz.mk hg2
            have HRaw:=Zz.mk hRaw
            have HM:=Zz.mk hrM
            have HRL:=Zz.mk hrl
            have hgw2:g<wr.heap.size:=(Array.getElem?_eq_some_iff.1 hg2).1
            have HGW2:=Zz.mk hgw2
            have hcc:C1.length≤c1:=(Kd.S_reads' hS2).2.1
            have HCR:=Zz.mk (show (Kd.raw 1).C wr (some (⟨gr,0,none⟩:Addr)) rows.length rows from (Kd.R_reads' (hrl ▸ hRaw:(Kd.raw 1).R 30 wr w0.heap.size (fun k=>some k=(Value.slice (some (⟨gr,0,none⟩:Addr)) rows.length c1).ownBlock) (.slice (some (⟨gr,0,none⟩:Addr)) rows.length c1) rows)).2.2)
            obtain ⟨i0,hi0,_,hisz,_⟩:=info_parts qBx
            have hamC:am≤C1.length:=HAM.out.1
            have ham2:am≤1048576:=by have:=HP1.out.1;omega
            have hcut8:=qHl (P:=Tryz.prog) 24 30 .i64 Tryz.underlying24 hi0 (some (⟨gr,0,none⟩:Addr)) C1.length c1 (am:Int) (by omega) (by omega) hcc
            have hcut10:=qDc (P:=Tryz.prog) 24 30 .i64 Tryz.underlying24 hi0 1 hisz (some (⟨gr,0,none⟩:Addr)) C1.length c1 (am:Int) (by omega) (by omega)
            rw [Int.toNat_natCast] at hcut8 hcut10
            obtain ⟨A10,hA10⟩:∃ A10,(if c1=am then (some (⟨gr,0,none⟩:Addr)) else (some (⟨gr,0,none⟩:Addr)).map (·.add (am * 1)))=A10:=⟨_,rfl⟩
            rw [hA10] at hcut10
            obtain ⟨m10,hm10⟩:∃ m,m=C1.length - am:=⟨_,rfl⟩
            obtain ⟨c10,hc10⟩:∃ m,m=c1 - am:=⟨_,rfl⟩
            rw [← hm10,← hc10] at hcut10
            have HM10:=Zz.mk hm10
            have HA10:=Zz.mk hA10
            have HCC:=Zz.mk hcc
            have HOW:=Zz.mk (show z97.f s=some s by
              have h1:=HL.out
              have h2:=HN.out.1
              unfold z97.f
              simp
              omega)
            have HF2:=Zz.mk (show Kd.F (Kd.int .i64) wr (fun k=>k≠g) A s.length s by rw [HQ.out];exact Kd.F_drewN HF1.out q)
            have HAM2:=Zz.mk (And.intro hamC ham2)
            clear hm10 hc10 hst2 hg2 hS2 hRaw hrM hrl hgw2 hcc hi0 hisz hA10 hamC ham2 hr0
            go_wp2_with (first
              | (go_at_call 60;refine (z60.calls K3 A3 c3 x3 A c s _ _ HC3.out.2 HC3.out.1 (Kd.F_now HF3.out) HC.out HK3.out).mono ?_;rintro e w' ⟨rfl,⟨nd2,rfl⟩⟩)
              | ((with_reducible refine qAm (N:=47) rfl ?_);refine Kd.R_lit (Kd.raw 1) _ 30 ?hg (N:=47) ?hd (xs:=([]:List (List Value))) (inner:=[]) (ok:=fun _=>True) (okp:=fun _=>True) ?hr ?hp (fun _ hk=>hk) trivial (Below.refl _ _) (Nat.le_refl _) (by simp) ?_;(case hd=>rfl);(case hg=>rfl);(case hr=>first | (go_simp;done) | (go_simp;rfl));(case hp=>exact Reps.none _ _);intro v47 w47 ho47 hb47 hg47 hn47;have HO47:=Zz.mk ho47;have HB47:=Zz.mk (show Below wr.heap.size wr w47 from bT_ (B_ (Below.refl wr.heap.size wr)) hb47);have hcell47:w47.cell? ⟨g,0,none⟩=some (.slice (some (⟨gr,0,none⟩:Addr)) C1.length c1):=(bC_ (bB_ HG2.out HB47.out) 0).trans rfl;clear ho47 hb47 hg47 hn47)
              | ((with_reducible refine qA0 (b:=.append) (xs:=#[.tmp 47,.tmp 53]) rfl ?_);at_builtin;refine Kd.R_append_rows (Kd.raw 1) (Rr:=fun x cs=>cs=x∧cs.length=1∧∀ u∈cs,u.oneCell'=true) (w0:=wr) wr.heap.size rfl (.tmp 47) (.tmp 53) 24 30 (.slice none 0 0) 24 rfl Tryz.underlying24 qBx rfl (by decide) (by omega) v47 [] (rows.take am) (some (⟨gr,0,none⟩:Addr)) am c1 (fun _=>True) (fun _=>False) rfl rfl ?aO ?aR (fun x cs h=>h) (fun _ hk=>hk.elim) (fun _ _=>trivial) ?aB ?aS ?aL ?_;(case aO=>exact HO47.out);(case aR=>have h:=Kd.C_take (Kd.C_below HCR.out HB47.out) (m:=am) (by rw [HRL.out];exact HAM2.out.1);rw [List.length_take,Nat.min_eq_left (by rw [HRL.out];exact HAM2.out.1)] at h;exact h);(case aB=>exact HB47.out);(case aS=>exact HB47.out.size);(case aL=>have:=HAM2.out.2;simp;omega);intro v54 w54 ho54 hb54 hg54 hat54;have HO54:=Zz.mk ho54;have HB54:=Zz.mk hb54;clear ho54 hb54 hg54 hat54)
              | (go_at_call 97;refine (z97.calls A c s s _ ?s1 HC.out HOW.out).mono ?_;(case s1=>exact Kd.F_now (Kd.F_below HF2.out HB54.out));rintro e w57 ⟨v57,rfl,hR57,hb57⟩;have HR57:=Zz.mk hR57;have HB57:=Zz.mk hb57;clear hR57 hb57;obtain ⟨A57,c57,e57⟩:=Kd.R_slice HR57.out;subst e57)
              | ((with_reducible refine qA0 (b:=.append) (xs:=#[.tmp 55,.tmp 58]) rfl ?_);at_builtin;refine Kd.R_append (Kd.raw 1) (w0:=wr) wr.heap.size rfl (.tmp 55) (.tmp 58) 24 30 (.slice none 0 0) 24 rfl Tryz.underlying24 qBx rfl (by decide) (by omega) v54 ([] ++ rows.take am) [.slice A57 s.length c57] [.slice A57 s.length c57] (fun _=>True) (fun _=>False) rfl rfl ⟨rfl,rfl,by simp [Value.oneCell']⟩ (fun _ hk=>hk.elim) (fun _ _=>trivial) ?aO ?aB ?aS ?aL ?_;(case aO=>exact Kd.R_below HO54.out HB57.out);(case aB=>exact bT_ HB54.out HB57.out);(case aS=>exact Nat.le_trans HB54.out.size HB57.out.size);(case aL=>have:=HAM2.out.2;have:=HAM2.out.1;have:=HRL.out;simp;omega);intro v59 w59 ho59 hb59 hg59 hat59;have HO59:=Zz.mk ho59;have HB59:=Zz.mk hb59;have HGR59:=Zz.mk hg59;have HAT59:=Zz.mk hat59;have hcell59:w59.cell? ⟨g,0,none⟩=some (.slice (some (⟨gr,0,none⟩:Addr)) C1.length c1):=(bC_ ((hb59.block g HGW2.out).trans HG2.out) 0).trans rfl;clear ho59 hb59 hg59 hat59)
              | ((with_reducible refine qA0 (b:=.append) (xs:=#[.tmp 61,.tmp 67]) rfl ?_);at_builtin;refine Kd.R_append_rows (Kd.raw 1) (Rr:=fun x cs=>cs=x∧cs.length=1∧∀ u∈cs,u.oneCell'=true) (w0:=wr) wr.heap.size rfl (.tmp 61) (.tmp 67) 24 30 (.slice none 0 0) 24 rfl Tryz.underlying24 qBx rfl (by decide) (by omega) v59 ([] ++ rows.take am ++ [[.slice A57 s.length c57]]) (rows.drop am) A10 m10 c10 (fun _=>True) (fun _=>False) rfl rfl ?aO ?aR (fun x cs h=>h) (fun _ hk=>hk.elim) (fun _ _=>trivial) ?aB ?aS ?aL ?_;(case aO=>exact HO59.out);(case aR=>have h:=Kd.C_drop (Kd.C_below HCR.out HB59.out) (m:=am) (c:=c1) (by rw [HRL.out];exact HAM2.out.1) (by rw [HRL.out];exact HCC.out);rw [show (Kd.raw 1).sz=1 from rfl,HA10.out,List.length_drop,HRL.out,← HM10.out] at h;exact h);(case aB=>exact HB59.out);(case aS=>exact HB59.out.size);(case aL=>have:=HAM2.out.2;have:=HAM2.out.1;have:=HRL.out;have:=HP1.out.1;have:=HM10.out;simp;omega);intro v68 w68 ho68 hb68 hg68 hat68;have HO68:=Zz.mk ho68;have HB68:=Zz.mk hb68;have HGR68:=Zz.mk hg68;have HAT68:=Zz.mk hat68;have hcell68:w68.cell? ⟨g,0,none⟩=some (.slice (some (⟨gr,0,none⟩:Addr)) C1.length c1):=(bC_ ((hb68.block g HGW2.out).trans HG2.out) 0).trans rfl;have hfroz68:w68.frozen? ⟨g,0,none⟩=false:=bF_ ((hb68.block g HGW2.out).trans HG2.out) 0;clear ho68 hb68 hg68 hat68;obtain ⟨A68,c68,e68⟩:=Kd.R_slice HO68.out;generalize hn68:([] ++ List.take am rows ++ [[Value.slice A57 s.length c57]] ++ List.drop am rows).length=n68 at e68;have HN68:=Zz.mk hn68;clear hn68;subst e68))
            go_end0
            refine ⟨rfl,⟨HC2.out.le,⟨.slice A68 n68 c68,?_,?_⟩,qAd (bT_ HC2.out.hb HB68.out) HC2.out.le⟩,Kept.set_ (Kept.then_ (Kept.then_ HK1.out (Kept.of_below (by rw [HQ.out];exact qAb (Below.refl _ _) q) (fun k=>k=g)) (fun k h=>.inl h)) (Kept.of_below HB68.out (fun k=>k=g)) (fun k h=>.inl h)) _⟩
            · refine bP_ (cs:=#[.slice (some (⟨gr,0,none⟩:Addr)) C1.length c1]) ?_ 0 _ rfl
              exact (HB68.out.block g HGW2.out).trans HG2.out
            rw [HGEN.out,qFx,← HAM.out.2]
            refine Kd.S_far (p:=⟨g,0,none⟩) ?_ HQ1.out _
            have hb54:=HB54.out.size
            have hgs:=HGR59.out.size
            have hu1:∀ k,(Value.slice A57 s.length c57).ownBlock=some k→w54.heap.size≤k∧k<w57.heap.size:=fun k hk=>⟨Kd.R_base HR57.out k hk,Kd.R_lt HR57.out k hk⟩
            have h54:∀ k,v54.ownBlock=some k→k<w54.heap.size:=Kd.R_lt HO54.out
            have hu2:=Kd.R_grown (Kd.R_grown (Kd.R_mono (ok':=fun k=>w54.heap.size≤k∧k<w57.heap.size) (Kd.R_bound HR57.out) (fun k hk=>⟨hk.2.1,hk.2.2.1⟩)) HGR59.out (fun k hk he=>by have:=h54 k he.symm;omega)) HGR68.out (fun k hk he=>by
              rcases HAT59.out with h | ⟨b,h,hb⟩
              · rw [h] at he;have:=h54 k he.symm;omega
              rw [h] at he;injection he with he;omega)
            refine qF0 (B:=wr.heap.size) (ok:=Q) (okx:=fun _=>True) (u:=.slice A57 s.length c57) HRL.out HM.out rfl HC2.out.hb.size (fun k _ hk=>HB68.out.block k hk) (Kd.R_lower (Kd.R_mono hu2 (fun _ _=>trivial)) hb54) (fun k hk=>HQ2.out k (Nat.le_trans HK1.out.1 (Nat.le_trans (by rw [HQ.out];exact Nat.le_refl _) hk))) (fun k hk he=>?_) (Kd.R_lower (Kd.raw_tight (ok:=fun _=>True) ?_) HC2.out.hb.size) (fun k hk=>Kd.R_base HO68.out k hk) HAM.out.1
            · have h1:=hu1 k hk
              rcases HAT68.out with h | ⟨b,h,hb⟩
              · rw [h] at he
                rcases HAT59.out with h2 | ⟨b,h2,hb⟩
                · rw [h2] at he;have:=h54 k he.symm;omega
                rw [h2] at he;injection he with he;omega
              rw [h] at he;injection he with he;omega
            have h:=HO68.out
            simp only [List.nil_append,List.append_assoc,List.singleton_append] at h
            exact h
          have hte:am=t:=by have:=HAM.out.1;omega
          subst hte
          have htz:¬ (am:Int)<(C1.length:Int):=by omega
          have hst2:=HC2.out
          obtain ⟨v2,hg2,hS2⟩:=hst2.out
          obtain rfl:v2=.slice A1 C1.length c1:=by
            have h:=hcell2
            have h2:wr.cell? ⟨g,0,none⟩=some v2:=(bC_ hg2 0).trans rfl
            rw [h2] at h
            injection h
          obtain ⟨f,rows,hrl,hRaw,hr0,hrM⟩:=qK5 hS2
          have HG2:=Zz.mk hg2
          have HRaw:=Zz.mk hRaw
          have HM:=Zz.mk hrM
          have HRL:=Zz.mk hrl
          have hgw2:g<wr.heap.size:=(Array.getElem?_eq_some_iff.1 hg2).1
          have HGW2:=Zz.mk hgw2
          have hcc:C1.length≤c1:=(Kd.S_reads' hS2).2.1
          have HCR:=Zz.mk (show (Kd.raw 1).C wr A1 rows.length rows from (Kd.R_reads' (hrl ▸ hRaw:(Kd.raw 1).R 30 wr w0.heap.size (fun k=>some k=(Value.slice A1 rows.length c1).ownBlock) (.slice A1 rows.length c1) rows)).2.2)
          obtain ⟨i0,hi0,_,hisz,_⟩:=info_parts qBx
          have hamC:am≤C1.length:=HAM.out.1
          have ham2:am≤1048576:=by have:=HP1.out.1;omega
          have hcut8:=qHl (P:=Tryz.prog) 24 30 .i64 Tryz.underlying24 hi0 A1 C1.length c1 (am:Int) (by omega) (by omega) hcc
          have hcut10:=qDc (P:=Tryz.prog) 24 30 .i64 Tryz.underlying24 hi0 1 hisz A1 C1.length c1 (am:Int) (by omega) (by omega)
          rw [Int.toNat_natCast] at hcut8 hcut10
          obtain ⟨A10,hA10⟩:∃ A10,(if c1=am then A1 else A1.map (·.add (am * 1)))=A10:=⟨_,rfl⟩
          rw [hA10] at hcut10
          obtain ⟨m10,hm10⟩:∃ m,m=C1.length - am:=⟨_,rfl⟩
          obtain ⟨c10,hc10⟩:∃ m,m=c1 - am:=⟨_,rfl⟩
          rw [← hm10,← hc10] at hcut10
          have HM10:=Zz.mk hm10
          have HA10:=Zz.mk hA10
          have HCC:=Zz.mk hcc
          have HOW:=Zz.mk (show z97.f s=some s by
            have h1:=HL.out
            have h2:=HN.out.1
            unfold z97.f
            simp
            omega)
          have HF2:=Zz.mk (show Kd.F (Kd.int .i64) wr (fun k=>k≠g) A s.length s by rw [HQ.out];exact Kd.F_drewN HF1.out q)
          have HAM2:=Zz.mk (And.intro hamC ham2)
          clear hm10 hc10 hst2 hg2 hS2 hRaw hrM hrl hgw2 hcc hi0 hisz hA10 hamC ham2 hr0
          go_wp2_with (first
            | ((with_reducible refine qAm (N:=47) rfl ?_);refine Kd.R_lit (Kd.raw 1) _ 30 ?hg (N:=47) ?hd (xs:=([]:List (List Value))) (inner:=[]) (ok:=fun _=>True) (okp:=fun _=>True) ?hr ?hp (fun _ hk=>hk) trivial (Below.refl _ _) (Nat.le_refl _) (by simp) ?_;(case hd=>rfl);(case hg=>rfl);(case hr=>first | (go_simp;done) | (go_simp;rfl));(case hp=>exact Reps.none _ _);intro v47 w47 ho47 hb47 hg47 hn47;have HO47:=Zz.mk ho47;have HB47:=Zz.mk (show Below wr.heap.size wr w47 from bT_ (B_ (Below.refl wr.heap.size wr)) hb47);have hcell47:w47.cell? ⟨g,0,none⟩=some (.slice A1 C1.length c1):=(bC_ (bB_ HG2.out HB47.out) 0).trans rfl;clear ho47 hb47 hg47 hn47)
            | ((with_reducible refine qA0 (b:=.append) (xs:=#[.tmp 47,.tmp 53]) rfl ?_);at_builtin;refine Kd.R_append_rows (Kd.raw 1) (Rr:=fun x cs=>cs=x∧cs.length=1∧∀ u∈cs,u.oneCell'=true) (w0:=wr) wr.heap.size rfl (.tmp 47) (.tmp 53) 24 30 (.slice none 0 0) 24 rfl Tryz.underlying24 qBx rfl (by decide) (by omega) v47 [] (rows.take am) A1 am c1 (fun _=>True) (fun _=>False) rfl rfl ?aO ?aR (fun x cs h=>h) (fun _ hk=>hk.elim) (fun _ _=>trivial) ?aB ?aS ?aL ?_;(case aO=>exact HO47.out);(case aR=>have h:=Kd.C_take (Kd.C_below HCR.out HB47.out) (m:=am) (by rw [HRL.out];exact HAM2.out.1);rw [List.length_take,Nat.min_eq_left (by rw [HRL.out];exact HAM2.out.1)] at h;exact h);(case aB=>exact HB47.out);(case aS=>exact HB47.out.size);(case aL=>have:=HAM2.out.2;simp;omega);intro v54 w54 ho54 hb54 hg54 hat54;have HO54:=Zz.mk ho54;have HB54:=Zz.mk hb54;clear ho54 hb54 hg54 hat54)
            | (go_at_call 97;refine (z97.calls A c s s _ ?s1 HC.out HOW.out).mono ?_;(case s1=>exact Kd.F_now (Kd.F_below HF2.out HB54.out));rintro e w57 ⟨v57,rfl,hR57,hb57⟩;have HR57:=Zz.mk hR57;have HB57:=Zz.mk hb57;clear hR57 hb57;obtain ⟨A57,c57,e57⟩:=Kd.R_slice HR57.out;subst e57)
            | ((with_reducible refine qA0 (b:=.append) (xs:=#[.tmp 55,.tmp 58]) rfl ?_);at_builtin;refine Kd.R_append (Kd.raw 1) (w0:=wr) wr.heap.size rfl (.tmp 55) (.tmp 58) 24 30 (.slice none 0 0) 24 rfl Tryz.underlying24 qBx rfl (by decide) (by omega) v54 ([] ++ rows.take am) [.slice A57 s.length c57] [.slice A57 s.length c57] (fun _=>True) (fun _=>False) rfl rfl ⟨rfl,rfl,by simp [Value.oneCell']⟩ (fun _ hk=>hk.elim) (fun _ _=>trivial) ?aO ?aB ?aS ?aL ?_;(case aO=>exact Kd.R_below HO54.out HB57.out);(case aB=>exact bT_ HB54.out HB57.out);(case aS=>exact Nat.le_trans HB54.out.size HB57.out.size);(case aL=>have:=HAM2.out.2;have:=HAM2.out.1;have:=HRL.out;simp;omega);intro v59 w59 ho59 hb59 hg59 hat59;have HO59:=Zz.mk ho59;have HB59:=Zz.mk hb59;have HGR59:=Zz.mk hg59;have HAT59:=Zz.mk hat59;have hcell59:w59.cell? ⟨g,0,none⟩=some (.slice A1 C1.length c1):=(bC_ ((hb59.block g HGW2.out).trans HG2.out) 0).trans rfl;clear ho59 hb59 hg59 hat59)
            | ((with_reducible refine qA0 (b:=.append) (xs:=#[.tmp 61,.tmp 67]) rfl ?_);at_builtin;refine Kd.R_append_rows (Kd.raw 1) (Rr:=fun x cs=>cs=x∧cs.length=1∧∀ u∈cs,u.oneCell'=true) (w0:=wr) wr.heap.size rfl (.tmp 61) (.tmp 67) 24 30 (.slice none 0 0) 24 rfl Tryz.underlying24 qBx rfl (by decide) (by omega) v59 ([] ++ rows.take am ++ [[.slice A57 s.length c57]]) (rows.drop am) A10 m10 c10 (fun _=>True) (fun _=>False) rfl rfl ?aO ?aR (fun x cs h=>h) (fun _ hk=>hk.elim) (fun _ _=>trivial) ?aB ?aS ?aL ?_;(case aO=>exact HO59.out);(case aR=>have h:=Kd.C_drop (Kd.C_below HCR.out HB59.out) (m:=am) (c:=c1) (by rw [HRL.out];exact HAM2.out.1) (by rw [HRL.out];exact HCC.out);rw [show (Kd.raw 1).sz=1 from rfl,HA10.out,List.length_drop,HRL.out,← HM10.out] at h;exact h);(case aB=>exact HB59.out);(case aS=>exact HB59.out.size);(case aL=>have:=HAM2.out.2;have:=HAM2.out.1;have:=HRL.out;have:=HP1.out.1;have:=HM10.out;simp;omega);intro v68 w68 ho68 hb68 hg68 hat68;have HO68:=Zz.mk ho68;have HB68:=Zz.mk hb68;have HGR68:=Zz.mk hg68;have HAT68:=Zz.mk hat68;have hcell68:w68.cell? ⟨g,0,none⟩=some (.slice A1 C1.length c1):=(bC_ ((hb68.block g HGW2.out).trans HG2.out) 0).trans rfl;have hfroz68:w68.frozen? ⟨g,0,none⟩=false:=bF_ ((hb68.block g HGW2.out).trans HG2.out) 0;clear ho68 hb68 hg68 hat68;obtain ⟨A68,c68,e68⟩:=Kd.R_slice HO68.out;generalize hn68:([] ++ List.take am rows ++ [[Value.slice A57 s.length c57]] ++ List.drop am rows).length=n68 at e68;have HN68:=Zz.mk hn68;clear hn68;subst e68))
          go_end0
          refine ⟨rfl,⟨HC2.out.le,⟨.slice A68 n68 c68,?_,?_⟩,qAd (bT_ HC2.out.hb HB68.out) HC2.out.le⟩,Kept.set_ (Kept.then_ (Kept.then_ HK1.out (Kept.of_below (by rw [HQ.out];exact qAb (Below.refl _ _) q) (fun k=>k=g)) (fun k h=>.inl h)) (Kept.of_below HB68.out (fun k=>k=g)) (fun k h=>.inl h)) _⟩
          · refine bP_ (cs:=#[.slice A1 C1.length c1]) ?_ 0 _ rfl
            exact (HB68.out.block g HGW2.out).trans HG2.out
          rw [HGEN.out,qFx,← HAM.out.2]
          refine Kd.S_far (p:=⟨g,0,none⟩) ?_ HQ1.out _
          have hb54:=HB54.out.size
          have hgs:=HGR59.out.size
          have hu1:∀ k,(Value.slice A57 s.length c57).ownBlock=some k→w54.heap.size≤k∧k<w57.heap.size:=fun k hk=>⟨Kd.R_base HR57.out k hk,Kd.R_lt HR57.out k hk⟩
          have h54:∀ k,v54.ownBlock=some k→k<w54.heap.size:=Kd.R_lt HO54.out
          have hu2:=Kd.R_grown (Kd.R_grown (Kd.R_mono (ok':=fun k=>w54.heap.size≤k∧k<w57.heap.size) (Kd.R_bound HR57.out) (fun k hk=>⟨hk.2.1,hk.2.2.1⟩)) HGR59.out (fun k hk he=>by have:=h54 k he.symm;omega)) HGR68.out (fun k hk he=>by
            rcases HAT59.out with h | ⟨b,h,hb⟩
            · rw [h] at he;have:=h54 k he.symm;omega
            rw [h] at he;injection he with he;omega)
          refine qF0 (B:=wr.heap.size) (ok:=Q) (okx:=fun _=>True) (u:=.slice A57 s.length c57) HRL.out HM.out rfl HC2.out.hb.size (fun k _ hk=>HB68.out.block k hk) (Kd.R_lower (Kd.R_mono hu2 (fun _ _=>trivial)) hb54) (fun k hk=>HQ2.out k (Nat.le_trans HK1.out.1 (Nat.le_trans (by rw [HQ.out];exact Nat.le_refl _) hk))) (fun k hk he=>?_) (Kd.R_lower (Kd.raw_tight (ok:=fun _=>True) ?_) HC2.out.hb.size) (fun k hk=>Kd.R_base HO68.out k hk) HAM.out.1
          · have h1:=hu1 k hk
            rcases HAT68.out with h | ⟨b,h,hb⟩
            · rw [h] at he
              rcases HAT59.out with h2 | ⟨b,h2,hb⟩
              · rw [h2] at he;have:=h54 k he.symm;omega
              rw [h2] at he;injection he with he;omega
            rw [h] at he;injection he with he;omega
          have h:=HO68.out
          simp only [List.nil_append,List.append_assoc,List.singleton_append] at h
          exact h
      have hltz:(kk:Int)<(s.length:Int):=by omega
      have h1z:¬ (1:Int)<(s.length:Int):=by omega
      clear hk1 hk0
      go_wp2_with fail
      clear hltz h1z
      obtain ⟨W1,hW1⟩:∃ x:World,x=wr:=⟨_,rfl⟩
      subst hW1
      obtain ⟨am,ham⟩:∃ am,am=(C1.takeWhile fun x=>slt x s).length:=⟨_,rfl⟩
      have hamC:am≤C1.length:=by rw [ham];exact (List.takeWhile_sublist _).length_le
      have HAM:=Zz.mk (And.intro hamC ham)
      clear ham hamC
      go_loopg [5] C1.length (fun gg v5 w_=>∃ t:Nat,t≤am∧C1.length - t≤gg∧v5=.int .i64 t∧∃ q,w_=W1.drewN q)
      case atStart=>exact ⟨0,by omega,by omega,rfl,0,rfl⟩
      case round =>
        obtain ⟨t,ht,hg5,rfl,q,hQ⟩:=hrel
        have HC2:=Zz.mk (show StC w0 wr g Q C1 by rw [hQ];exact HC1.out.drewN q)
        have hcell2:wr.cell? ⟨g,0,none⟩=some (.slice A1 C1.length c1):=by rw [hQ];exact hcell1
        have HQ:=Zz.mk hQ
        clear hcell1 hQ
        rcases Nat.lt_or_ge t C1.length with htl | htl
        · have htz:(t:Int)<(C1.length:Int):=by omega
          have hel:∃ (gr:Nat) (A3:Option Addr) (c3:Nat),A1=some ⟨gr,0,none⟩∧wr.cell? ⟨gr,t,none⟩=some (.slice A3 (C1.getD t []).length c3)∧(C1.getD t []).length≤c3∧Kd.C (Kd.int .i64) wr A3 (C1.getD t []).length (C1.getD t []):=by
            obtain ⟨gr,gc,he,_⟩:=Kd.S_form HS1.out (by omega)
            injection he with he1 he2 he3
            subst he1
            obtain ⟨cc,hcl,hM,hcc⟩:=Kd.S_get HS1.out ([]:List Int) (t:Int) (by omega) (by omega)
            rw [Int.toNat_natCast] at hM hcc
            obtain ⟨A3,c3,rfl,hlc,hCx⟩:=(Kd.slice 2 (Kd.int .i64)).K_of_M hM
            have hcell:=hcc 0 _ rfl
            refine ⟨gr,A3,c3,rfl,?_,hlc,by rw [HQ.out];exact Kd.C_drewN hCx q⟩
            rw [HQ.out]
            simpa [show (Kd.slice 2 (Kd.int .i64)).sz=1 from rfl,qBa] using hcell
          obtain ⟨gr,A3,c3,rfl,hc3,hl3,hC3⟩:=hel
          have hrow3:(C1.getD t []).length≤1048576:=HP1.out.2 _ (by rw [List.getD_eq_getElem?_getD,List.getElem?_eq_getElem htl];exact List.getElem_mem _)
          obtain ⟨K3,hK3⟩:=(qGs (C1.getD t []) s (by omega)).rounds
          have HF3:=Zz.mk (show Kd.F (Kd.int .i64) wr (fun k=>k≠g) A s.length s by rw [HQ.out];exact Kd.F_drewN HF1.out q)
          have HC3:=Zz.mk (And.intro hl3 hC3)
          clear hl3 hC3 hrow3
          rcases Nat.lt_or_ge t am with hta | hta
          · have hsl3:slt (C1.getD t []) s=true:=qJq (p:=fun x=>slt x s) (by rw [← HAM.out.2];exact hta)
            rw [hsl3] at hK3
            have HK3:=Zz.mk hK3
            clear hK3 hsl3
            generalize C1.getD t []=x3 at HK3 HC3 hc3
            go_wp2_with (go_at_call 60;refine (z60.calls K3 A3 c3 x3 A c s _ _ HC3.out.2 HC3.out.1 (Kd.F_now HF3.out) HC.out HK3.out).mono ?_;rintro e w' ⟨rfl,⟨nd2,rfl⟩⟩)
            go_roundg (C1.length - (t+1))
            case measure=>omega
            case rel=>exact ⟨t+1,by omega,by omega,by rw [qAw (by have:=HP1.out.1;omega)],q+nd2,by rw [HQ.out,World.drewN_drewN]⟩
          have hte:am=t:=by omega
          subst hte
          have hsl3:slt (C1.getD am []) s=false:=by
            have h:=qHz (p:=fun x=>slt x s) (l:=C1) (by rw [← HAM.out.2];exact htl)
            rw [← HAM.out.2] at h
            exact h
          rw [hsl3] at hK3
          have HK3:=Zz.mk hK3
          clear hK3 hsl3
          generalize C1.getD am []=x3 at HK3 HC3 hc3
          have hst2:=HC2.out
          obtain ⟨v2,hg2,hS2⟩:=hst2.out
          obtain rfl:v2=.slice (some (⟨gr,0,none⟩:Addr)) C1.length c1:=by
            have h:=hcell2
            have h2:wr.cell? ⟨g,0,none⟩=some v2:=(bC_ hg2 0).trans rfl
            rw [h2] at h
            injection h
          obtain ⟨f,rows,hrl,hRaw,hr0,hrM⟩:=qK5 hS2
          have HG2:=Zz.mk hg2
          have HRaw:=Zz.mk hRaw
          have HM:=Zz.mk hrM
          have HRL:=Zz.mk hrl
          have hgw2:g<wr.heap.size:=(Array.getElem?_eq_some_iff.1 hg2).1
          have HGW2:=Zz.mk hgw2
          have hcc:C1.length≤c1:=(Kd.S_reads' hS2).2.1
          have HCR:=Zz.mk (show (Kd.raw 1).C wr (some (⟨gr,0,none⟩:Addr)) rows.length rows from (Kd.R_reads' (hrl ▸ hRaw:(Kd.raw 1).R 30 wr w0.heap.size (fun k=>some k=(Value.slice (some (⟨gr,0,none⟩:Addr)) rows.length c1).ownBlock) (.slice (some (⟨gr,0,none⟩:Addr)) rows.length c1) rows)).2.2)
          obtain ⟨i0,hi0,_,hisz,_⟩:=info_parts qBx
          have hamC:am≤C1.length:=HAM.out.1
          have ham2:am≤1048576:=by have:=HP1.out.1;omega
          have hcut8:=qHl (P:=Tryz.prog) 24 30 .i64 Tryz.underlying24 hi0 (some (⟨gr,0,none⟩:Addr)) C1.length c1 (am:Int) (by omega) (by omega) hcc
          have hcut10:=qDc (P:=Tryz.prog) 24 30 .i64 Tryz.underlying24 hi0 1 hisz (some (⟨gr,0,none⟩:Addr)) C1.length c1 (am:Int) (by omega) (by omega)
          rw [Int.toNat_natCast] at hcut8 hcut10
          obtain ⟨A10,hA10⟩:∃ A10,(if c1=am then (some (⟨gr,0,none⟩:Addr)) else (some (⟨gr,0,none⟩:Addr)).map (·.add (am * 1)))=A10:=⟨_,rfl⟩
          rw [hA10] at hcut10
          obtain ⟨m10,hm10⟩:∃ m,m=C1.length - am:=⟨_,rfl⟩
          obtain ⟨c10,hc10⟩:∃ m,m=c1 - am:=⟨_,rfl⟩
          rw [← hm10,← hc10] at hcut10
          have HM10:=Zz.mk hm10
          have HA10:=Zz.mk hA10
          have HCC:=Zz.mk hcc
          have HOW:=Zz.mk (show z97.f s=some s by
            have h1:=HL.out
            have h2:=HN.out.1
            unfold z97.f
            simp
            omega)
          have HF2:=Zz.mk (show Kd.F (Kd.int .i64) wr (fun k=>k≠g) A s.length s by rw [HQ.out];exact Kd.F_drewN HF1.out q)
          have HAM2:=Zz.mk (And.intro hamC ham2)
          clear hm10 hc10 hst2 hg2 hS2 hRaw hrM hrl hgw2 hcc hi0 hisz hA10 hamC ham2 hr0
          go_wp2_with (first
            | (go_at_call 60;refine (z60.calls K3 A3 c3 x3 A c s _ _ HC3.out.2 HC3.out.1 (Kd.F_now HF3.out) HC.out HK3.out).mono ?_;rintro e w' ⟨rfl,⟨nd2,rfl⟩⟩)
            | ((with_reducible refine qAm (N:=47) rfl ?_);refine Kd.R_lit (Kd.raw 1) _ 30 ?hg (N:=47) ?hd (xs:=([]:List (List Value))) (inner:=[]) (ok:=fun _=>True) (okp:=fun _=>True) ?hr ?hp (fun _ hk=>hk) trivial (Below.refl _ _) (Nat.le_refl _) (by simp) ?_;(case hd=>rfl);(case hg=>rfl);(case hr=>first | (go_simp;done) | (go_simp;rfl));(case hp=>exact Reps.none _ _);intro v47 w47 ho47 hb47 hg47 hn47;have HO47:=Zz.mk ho47;have HB47:=Zz.mk (show Below wr.heap.size wr w47 from bT_ (B_ (Below.refl wr.heap.size wr)) hb47);have hcell47:w47.cell? ⟨g,0,none⟩=some (.slice (some (⟨gr,0,none⟩:Addr)) C1.length c1):=(bC_ (bB_ HG2.out HB47.out) 0).trans rfl;clear ho47 hb47 hg47 hn47)
            | ((with_reducible refine qA0 (b:=.append) (xs:=#[.tmp 47,.tmp 53]) rfl ?_);at_builtin;refine Kd.R_append_rows (Kd.raw 1) (Rr:=fun x cs=>cs=x∧cs.length=1∧∀ u∈cs,u.oneCell'=true) (w0:=wr) wr.heap.size rfl (.tmp 47) (.tmp 53) 24 30 (.slice none 0 0) 24 rfl Tryz.underlying24 qBx rfl (by decide) (by omega) v47 [] (rows.take am) (some (⟨gr,0,none⟩:Addr)) am c1 (fun _=>True) (fun _=>False) rfl rfl ?aO ?aR (fun x cs h=>h) (fun _ hk=>hk.elim) (fun _ _=>trivial) ?aB ?aS ?aL ?_;(case aO=>exact HO47.out);(case aR=>have h:=Kd.C_take (Kd.C_below HCR.out HB47.out) (m:=am) (by rw [HRL.out];exact HAM2.out.1);rw [List.length_take,Nat.min_eq_left (by rw [HRL.out];exact HAM2.out.1)] at h;exact h);(case aB=>exact HB47.out);(case aS=>exact HB47.out.size);(case aL=>have:=HAM2.out.2;simp;omega);intro v54 w54 ho54 hb54 hg54 hat54;have HO54:=Zz.mk ho54;have HB54:=Zz.mk hb54;clear ho54 hb54 hg54 hat54)
            | (go_at_call 97;refine (z97.calls A c s s _ ?s1 HC.out HOW.out).mono ?_;(case s1=>exact Kd.F_now (Kd.F_below HF2.out HB54.out));rintro e w57 ⟨v57,rfl,hR57,hb57⟩;have HR57:=Zz.mk hR57;have HB57:=Zz.mk hb57;clear hR57 hb57;obtain ⟨A57,c57,e57⟩:=Kd.R_slice HR57.out;subst e57)
            | ((with_reducible refine qA0 (b:=.append) (xs:=#[.tmp 55,.tmp 58]) rfl ?_);at_builtin;refine Kd.R_append (Kd.raw 1) (w0:=wr) wr.heap.size rfl (.tmp 55) (.tmp 58) 24 30 (.slice none 0 0) 24 rfl Tryz.underlying24 qBx rfl (by decide) (by omega) v54 ([] ++ rows.take am) [.slice A57 s.length c57] [.slice A57 s.length c57] (fun _=>True) (fun _=>False) rfl rfl ⟨rfl,rfl,by simp [Value.oneCell']⟩ (fun _ hk=>hk.elim) (fun _ _=>trivial) ?aO ?aB ?aS ?aL ?_;(case aO=>exact Kd.R_below HO54.out HB57.out);(case aB=>exact bT_ HB54.out HB57.out);(case aS=>exact Nat.le_trans HB54.out.size HB57.out.size);(case aL=>have:=HAM2.out.2;have:=HAM2.out.1;have:=HRL.out;simp;omega);intro v59 w59 ho59 hb59 hg59 hat59;have HO59:=Zz.mk ho59;have HB59:=Zz.mk hb59;have HGR59:=Zz.mk hg59;have HAT59:=Zz.mk hat59;have hcell59:w59.cell? ⟨g,0,none⟩=some (.slice (some (⟨gr,0,none⟩:Addr)) C1.length c1):=(bC_ ((hb59.block g HGW2.out).trans HG2.out) 0).trans rfl;clear ho59 hb59 hg59 hat59)
            | ((with_reducible refine qA0 (b:=.append) (xs:=#[.tmp 61,.tmp 67]) rfl ?_);at_builtin;refine Kd.R_append_rows (Kd.raw 1) (Rr:=fun x cs=>cs=x∧cs.length=1∧∀ u∈cs,u.oneCell'=true) (w0:=wr) wr.heap.size rfl (.tmp 61) (.tmp 67) 24 30 (.slice none 0 0) 24 rfl Tryz.underlying24 qBx rfl (by decide) (by omega) v59 ([] ++ rows.take am ++ [[.slice A57 s.length c57]]) (rows.drop am) A10 m10 c10 (fun _=>True) (fun _=>False) rfl rfl ?aO ?aR (fun x cs h=>h) (fun _ hk=>hk.elim) (fun _ _=>trivial) ?aB ?aS ?aL ?_;(case aO=>exact HO59.out);(case aR=>have h:=Kd.C_drop (Kd.C_below HCR.out HB59.out) (m:=am) (c:=c1) (by rw [HRL.out];exact HAM2.out.1) (by rw [HRL.out];exact HCC.out);rw [show (Kd.raw 1).sz=1 from rfl,HA10.out,List.length_drop,HRL.out,← HM10.out] at h;exact h);(case aB=>exact HB59.out);(case aS=>exact HB59.out.size);(case aL=>have:=HAM2.out.2;have:=HAM2.out.1;have:=HRL.out;have:=HP1.out.1;have:=HM10.out;simp;omega);intro v68 w68 ho68 hb68 hg68 hat68;have HO68:=Zz.mk ho68;have HB68:=Zz.mk hb68;have HGR68:=Zz.mk hg68;have HAT68:=Zz.mk hat68;have hcell68:w68.cell? ⟨g,0,none⟩=some (.slice (some (⟨gr,0,none⟩:Addr)) C1.length c1):=(bC_ ((hb68.block g HGW2.out).trans HG2.out) 0).trans rfl;have hfroz68:w68.frozen? ⟨g,0,none⟩=false:=bF_ ((hb68.block g HGW2.out).trans HG2.out) 0;clear ho68 hb68 hg68 hat68;obtain ⟨A68,c68,e68⟩:=Kd.R_slice HO68.out;generalize hn68:([] ++ List.take am rows ++ [[Value.slice A57 s.length c57]] ++ List.drop am rows).length=n68 at e68;have HN68:=Zz.mk hn68;clear hn68;subst e68))
          go_end0
          refine ⟨rfl,⟨HC2.out.le,⟨.slice A68 n68 c68,?_,?_⟩,qAd (bT_ HC2.out.hb HB68.out) HC2.out.le⟩,Kept.set_ (Kept.then_ (Kept.then_ HK1.out (Kept.of_below (by rw [HQ.out];exact qAb (Below.refl _ _) q) (fun k=>k=g)) (fun k h=>.inl h)) (Kept.of_below HB68.out (fun k=>k=g)) (fun k h=>.inl h)) _⟩
          · refine bP_ (cs:=#[.slice (some (⟨gr,0,none⟩:Addr)) C1.length c1]) ?_ 0 _ rfl
            exact (HB68.out.block g HGW2.out).trans HG2.out
          rw [HGEN.out,qFx,← HAM.out.2]
          refine Kd.S_far (p:=⟨g,0,none⟩) ?_ HQ1.out _
          have hb54:=HB54.out.size
          have hgs:=HGR59.out.size
          have hu1:∀ k,(Value.slice A57 s.length c57).ownBlock=some k→w54.heap.size≤k∧k<w57.heap.size:=fun k hk=>⟨Kd.R_base HR57.out k hk,Kd.R_lt HR57.out k hk⟩
          have h54:∀ k,v54.ownBlock=some k→k<w54.heap.size:=Kd.R_lt HO54.out
          have hu2:=Kd.R_grown (Kd.R_grown (Kd.R_mono (ok':=fun k=>w54.heap.size≤k∧k<w57.heap.size) (Kd.R_bound HR57.out) (fun k hk=>⟨hk.2.1,hk.2.2.1⟩)) HGR59.out (fun k hk he=>by have:=h54 k he.symm;omega)) HGR68.out (fun k hk he=>by
            rcases HAT59.out with h | ⟨b,h,hb⟩
            · rw [h] at he;have:=h54 k he.symm;omega
            rw [h] at he;injection he with he;omega)
          refine qF0 (B:=wr.heap.size) (ok:=Q) (okx:=fun _=>True) (u:=.slice A57 s.length c57) HRL.out HM.out rfl HC2.out.hb.size (fun k _ hk=>HB68.out.block k hk) (Kd.R_lower (Kd.R_mono hu2 (fun _ _=>trivial)) hb54) (fun k hk=>HQ2.out k (Nat.le_trans HK1.out.1 (Nat.le_trans (by rw [HQ.out];exact Nat.le_refl _) hk))) (fun k hk he=>?_) (Kd.R_lower (Kd.raw_tight (ok:=fun _=>True) ?_) HC2.out.hb.size) (fun k hk=>Kd.R_base HO68.out k hk) HAM.out.1
          · have h1:=hu1 k hk
            rcases HAT68.out with h | ⟨b,h,hb⟩
            · rw [h] at he
              rcases HAT59.out with h2 | ⟨b,h2,hb⟩
              · rw [h2] at he;have:=h54 k he.symm;omega
              rw [h2] at he;injection he with he;omega
            rw [h] at he;injection he with he;omega
          have h:=HO68.out
          simp only [List.nil_append,List.append_assoc,List.singleton_append] at h
          exact h
        have hte:am=t:=by have:=HAM.out.1;omega
        subst hte
        have htz:¬ (am:Int)<(C1.length:Int):=by omega
        have hst2:=HC2.out
        obtain ⟨v2,hg2,hS2⟩:=hst2.out
        obtain rfl:v2=.slice A1 C1.length c1:=by
          have h:=hcell2
          have h2:wr.cell? ⟨g,0,none⟩=some v2:=(bC_ hg2 0).trans rfl
          rw [h2] at h
          injection h
        obtain ⟨f,rows,hrl,hRaw,hr0,hrM⟩:=qK5 hS2
        have HG2:=Zz.mk hg2
        have HRaw:=Zz.mk hRaw
        have HM:=Zz.mk hrM
        have HRL:=Zz.mk hrl
        have hgw2:g<wr.heap.size:=(Array.getElem?_eq_some_iff.1 hg2).1
        have HGW2:=Zz.mk hgw2
        have hcc:C1.length≤c1:=(Kd.S_reads' hS2).2.1
        have HCR:=Zz.mk (show (Kd.raw 1).C wr A1 rows.length rows from (Kd.R_reads' (hrl ▸ hRaw:(Kd.raw 1).R 30 wr w0.heap.size (fun k=>some k=(Value.slice A1 rows.length c1).ownBlock) (.slice A1 rows.length c1) rows)).2.2)
        obtain ⟨i0,hi0,_,hisz,_⟩:=info_parts qBx
        have hamC:am≤C1.length:=HAM.out.1
        have ham2:am≤1048576:=by have:=HP1.out.1;omega
        have hcut8:=qHl (P:=Tryz.prog) 24 30 .i64 Tryz.underlying24 hi0 A1 C1.length c1 (am:Int) (by omega) (by omega) hcc
        have hcut10:=qDc (P:=Tryz.prog) 24 30 .i64 Tryz.underlying24 hi0 1 hisz A1 C1.length c1 (am:Int) (by omega) (by omega)
        rw [Int.toNat_natCast] at hcut8 hcut10
        obtain ⟨A10,hA10⟩:∃ A10,(if c1=am then A1 else A1.map (·.add (am * 1)))=A10:=⟨_,rfl⟩
        rw [hA10] at hcut10
        obtain ⟨m10,hm10⟩:∃ m,m=C1.length - am:=⟨_,rfl⟩
        obtain ⟨c10,hc10⟩:∃ m,m=c1 - am:=⟨_,rfl⟩
        rw [← hm10,← hc10] at hcut10
        have HM10:=Zz.mk hm10
        have HA10:=Zz.mk hA10
        have HCC:=Zz.mk hcc
        have HOW:=Zz.mk (show z97.f s=some s by
          have h1:=HL.out
          have h2:=HN.out.1
          unfold z97.f
          simp
          omega)
        have HF2:=Zz.mk (show Kd.F (Kd.int .i64) wr (fun k=>k≠g) A s.length s by rw [HQ.out];exact Kd.F_drewN HF1.out q)
        have HAM2:=Zz.mk (And.intro hamC ham2)
        clear hm10 hc10 hst2 hg2 hS2 hRaw hrM hrl hgw2 hcc hi0 hisz hA10 hamC ham2 hr0
        go_wp2_with (first
          | ((with_reducible refine qAm (N:=47) rfl ?_);refine Kd.R_lit (Kd.raw 1) _ 30 ?hg (N:=47) ?hd (xs:=([]:List (List Value))) (inner:=[]) (ok:=fun _=>True) (okp:=fun _=>True) ?hr ?hp (fun _ hk=>hk) trivial (Below.refl _ _) (Nat.le_refl _) (by simp) ?_;(case hd=>rfl);(case hg=>rfl);(case hr=>first | (go_simp;done) | (go_simp;rfl));(case hp=>exact Reps.none _ _);intro v47 w47 ho47 hb47 hg47 hn47;have HO47:=Zz.mk ho47;have HB47:=Zz.mk (show Below wr.heap.size wr w47 from bT_ (B_ (Below.refl wr.heap.size wr)) hb47);have hcell47:w47.cell? ⟨g,0,none⟩=some (.slice A1 C1.length c1):=(bC_ (bB_ HG2.out HB47.out) 0).trans rfl;clear ho47 hb47 hg47 hn47)
          | ((with_reducible refine qA0 (b:=.append) (xs:=#[.tmp 47,.tmp 53]) rfl ?_);at_builtin;refine Kd.R_append_rows (Kd.raw 1) (Rr:=fun x cs=>cs=x∧cs.length=1∧∀ u∈cs,u.oneCell'=true) (w0:=wr) wr.heap.size rfl (.tmp 47) (.tmp 53) 24 30 (.slice none 0 0) 24 rfl Tryz.underlying24 qBx rfl (by decide) (by omega) v47 [] (rows.take am) A1 am c1 (fun _=>True) (fun _=>False) rfl rfl ?aO ?aR (fun x cs h=>h) (fun _ hk=>hk.elim) (fun _ _=>trivial) ?aB ?aS ?aL ?_;(case aO=>exact HO47.out);(case aR=>have h:=Kd.C_take (Kd.C_below HCR.out HB47.out) (m:=am) (by rw [HRL.out];exact HAM2.out.1);rw [List.length_take,Nat.min_eq_left (by rw [HRL.out];exact HAM2.out.1)] at h;exact h);(case aB=>exact HB47.out);(case aS=>exact HB47.out.size);(case aL=>have:=HAM2.out.2;simp;omega);intro v54 w54 ho54 hb54 hg54 hat54;have HO54:=Zz.mk ho54;have HB54:=Zz.mk hb54;clear ho54 hb54 hg54 hat54)
          | (go_at_call 97;refine (z97.calls A c s s _ ?s1 HC.out HOW.out).mono ?_;(case s1=>exact Kd.F_now (Kd.F_below HF2.out HB54.out));rintro e w57 ⟨v57,rfl,hR57,hb57⟩;have HR57:=Zz.mk hR57;have HB57:=Zz.mk hb57;clear hR57 hb57;obtain ⟨A57,c57,e57⟩:=Kd.R_slice HR57.out;subst e57)
          | ((with_reducible refine qA0 (b:=.append) (xs:=#[.tmp 55,.tmp 58]) rfl ?_);at_builtin;refine Kd.R_append (Kd.raw 1) (w0:=wr) wr.heap.size rfl (.tmp 55) (.tmp 58) 24 30 (.slice none 0 0) 24 rfl Tryz.underlying24 qBx rfl (by decide) (by omega) v54 ([] ++ rows.take am) [.slice A57 s.length c57] [.slice A57 s.length c57] (fun _=>True) (fun _=>False) rfl rfl ⟨rfl,rfl,by simp [Value.oneCell']⟩ (fun _ hk=>hk.elim) (fun _ _=>trivial) ?aO ?aB ?aS ?aL ?_;(case aO=>exact Kd.R_below HO54.out HB57.out);(case aB=>exact bT_ HB54.out HB57.out);(case aS=>exact Nat.le_trans HB54.out.size HB57.out.size);(case aL=>have:=HAM2.out.2;have:=HAM2.out.1;have:=HRL.out;simp;omega);intro v59 w59 ho59 hb59 hg59 hat59;have HO59:=Zz.mk ho59;have HB59:=Zz.mk hb59;have HGR59:=Zz.mk hg59;have HAT59:=Zz.mk hat59;have hcell59:w59.cell? ⟨g,0,none⟩=some (.slice A1 C1.length c1):=(bC_ ((hb59.block g HGW2.out).trans HG2.out) 0).trans rfl;clear ho59 hb59 hg59 hat59)
          | ((with_reducible refine qA0 (b:=.append) (xs:=#[.tmp 61,.tmp 67]) rfl ?_);at_builtin;refine Kd.R_append_rows (Kd.raw 1) (Rr:=fun x cs=>cs=x∧cs.length=1∧∀ u∈cs,u.oneCell'=true) (w0:=wr) wr.heap.size rfl (.tmp 61) (.tmp 67) 24 30 (.slice none 0 0) 24 rfl Tryz.underlying24 qBx rfl (by decide) (by omega) v59 ([] ++ rows.take am ++ [[.slice A57 s.length c57]]) (rows.drop am) A10 m10 c10 (fun _=>True) (fun _=>False) rfl rfl ?aO ?aR (fun x cs h=>h) (fun _ hk=>hk.elim) (fun _ _=>trivial) ?aB ?aS ?aL ?_;(case aO=>exact HO59.out);(case aR=>have h:=Kd.C_drop (Kd.C_below HCR.out HB59.out) (m:=am) (c:=c1) (by rw [HRL.out];exact HAM2.out.1) (by rw [HRL.out];exact HCC.out);rw [show (Kd.raw 1).sz=1 from rfl,HA10.out,List.length_drop,HRL.out,← HM10.out] at h;exact h);(case aB=>exact HB59.out);(case aS=>exact HB59.out.size);(case aL=>have:=HAM2.out.2;have:=HAM2.out.1;have:=HRL.out;have:=HP1.out.1;have:=HM10.out;simp;omega);intro v68 w68 ho68 hb68 hg68 hat68;have HO68:=Zz.mk ho68;have HB68:=Zz.mk hb68;have HGR68:=Zz.mk hg68;have HAT68:=Zz.mk hat68;have hcell68:w68.cell? ⟨g,0,none⟩=some (.slice A1 C1.length c1):=(bC_ ((hb68.block g HGW2.out).trans HG2.out) 0).trans rfl;have hfroz68:w68.frozen? ⟨g,0,none⟩=false:=bF_ ((hb68.block g HGW2.out).trans HG2.out) 0;clear ho68 hb68 hg68 hat68;obtain ⟨A68,c68,e68⟩:=Kd.R_slice HO68.out;generalize hn68:([] ++ List.take am rows ++ [[Value.slice A57 s.length c57]] ++ List.drop am rows).length=n68 at e68;have HN68:=Zz.mk hn68;clear hn68;subst e68))
        go_end0
        refine ⟨rfl,⟨HC2.out.le,⟨.slice A68 n68 c68,?_,?_⟩,qAd (bT_ HC2.out.hb HB68.out) HC2.out.le⟩,Kept.set_ (Kept.then_ (Kept.then_ HK1.out (Kept.of_below (by rw [HQ.out];exact qAb (Below.refl _ _) q) (fun k=>k=g)) (fun k h=>.inl h)) (Kept.of_below HB68.out (fun k=>k=g)) (fun k h=>.inl h)) _⟩
        · refine bP_ (cs:=#[.slice A1 C1.length c1]) ?_ 0 _ rfl
          exact (HB68.out.block g HGW2.out).trans HG2.out
        rw [HGEN.out,qFx,← HAM.out.2]
        refine Kd.S_far (p:=⟨g,0,none⟩) ?_ HQ1.out _
        have hb54:=HB54.out.size
        have hgs:=HGR59.out.size
        have hu1:∀ k,(Value.slice A57 s.length c57).ownBlock=some k→w54.heap.size≤k∧k<w57.heap.size:=fun k hk=>⟨Kd.R_base HR57.out k hk,Kd.R_lt HR57.out k hk⟩
        have h54:∀ k,v54.ownBlock=some k→k<w54.heap.size:=Kd.R_lt HO54.out
        have hu2:=Kd.R_grown (Kd.R_grown (Kd.R_mono (ok':=fun k=>w54.heap.size≤k∧k<w57.heap.size) (Kd.R_bound HR57.out) (fun k hk=>⟨hk.2.1,hk.2.2.1⟩)) HGR59.out (fun k hk he=>by have:=h54 k he.symm;omega)) HGR68.out (fun k hk he=>by
          rcases HAT59.out with h | ⟨b,h,hb⟩
          · rw [h] at he;have:=h54 k he.symm;omega
          rw [h] at he;injection he with he;omega)
        refine qF0 (B:=wr.heap.size) (ok:=Q) (okx:=fun _=>True) (u:=.slice A57 s.length c57) HRL.out HM.out rfl HC2.out.hb.size (fun k _ hk=>HB68.out.block k hk) (Kd.R_lower (Kd.R_mono hu2 (fun _ _=>trivial)) hb54) (fun k hk=>HQ2.out k (Nat.le_trans HK1.out.1 (Nat.le_trans (by rw [HQ.out];exact Nat.le_refl _) hk))) (fun k hk he=>?_) (Kd.R_lower (Kd.raw_tight (ok:=fun _=>True) ?_) HC2.out.hb.size) (fun k hk=>Kd.R_base HO68.out k hk) HAM.out.1
        · have h1:=hu1 k hk
          rcases HAT68.out with h | ⟨b,h,hb⟩
          · rw [h] at he
            rcases HAT59.out with h2 | ⟨b,h2,hb⟩
            · rw [h2] at he;have:=h54 k he.symm;omega
            rw [h2] at he;injection he with he;omega
          rw [h] at he;injection he with he;omega
        have h:=HO68.out
        simp only [List.nil_append,List.append_assoc,List.singleton_append] at h
        exact h
end Go.Proofs.YtpgjfppbbbnclaaGreat.B
