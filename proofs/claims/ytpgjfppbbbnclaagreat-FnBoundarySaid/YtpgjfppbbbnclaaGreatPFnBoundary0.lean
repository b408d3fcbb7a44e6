/- What the functions come to, for the law FnBoundary. -/
import Derived.Test.YtpgjfppbbbnclaaGreatKAGKMFE0
import Derived.Test.YtpgjfppbbbnclaaGreatKAJBCAN0
import Derived.Test.YtpgjfppbbbnclaaGreatKDIMFMD0
import Derived.Test.YtpgjfppbbbnclaaGreatKEAGLCD0
import Derived.Test.YtpgjfppbbbnclaaGreatKEEBGNA0
import Derived.Test.YtpgjfppbbbnclaaGreatKEGIDHC0
import Derived.Test.YtpgjfppbbbnclaaGreatKEJCOLG0
import Derived.Test.YtpgjfppbbbnclaaGreatKFKCHOJ0
import Derived.Test.YtpgjfppbbbnclaaGreatKGINPPF0
import Derived.Test.YtpgjfppbbbnclaaGreatKGPKNLE0
import Derived.Test.YtpgjfppbbbnclaaGreatKHPEJCO0
import Derived.Test.YtpgjfppbbbnclaaGreatKIAECDC0
import Derived.Test.YtpgjfppbbbnclaaGreatKIDNPCL0
import Derived.Test.YtpgjfppbbbnclaaGreatKIFGODB0
import Derived.Test.YtpgjfppbbbnclaaGreatKIFGODB1
import Derived.Test.YtpgjfppbbbnclaaGreatKJDJLDF0
import Derived.Test.YtpgjfppbbbnclaaGreatKJJPPCF0
import Derived.Test.YtpgjfppbbbnclaaGreatKJMJOJB0
import Derived.Test.YtpgjfppbbbnclaaGreatKKAHCEC0
import Derived.Test.YtpgjfppbbbnclaaGreatKLHEKGE0
import Derived.Test.YtpgjfppbbbnclaaGreatKMBKBJN0
import Derived.Test.YtpgjfppbbbnclaaGreatKMFMCKB0
import Derived.Test.YtpgjfppbbbnclaaGreatKOJCFEI0
import Derived.Test.YtpgjfppbbbnclaaGreatKW0
set_option linter.unusedVariables false
set_option linter.unusedSimpArgs false
namespace Go.Proofs.YtpgjfppbbbnclaaGreat.B
open Go.RowKit Go.ChangeShapes Go.WideShapes Go.Deep Go.Proofs.YtpgjfppbbbnclaaGreatW.PrintWords

def WfB (l:List Int):Prop:=l.length≤9223372036854775807∧∀ n∈l,0≤n∧n≤255
theorem qPc {n:Int} (h:(Lit.int .u8 n).wf=true):0≤n∧n≤255:=by
 simp [Lit.wf,IntKind.min,IntKind.max,IntKind.bits,IntKind.signed] at h
 omega
section
variable {H:Type} {enc:TypeId × Value→H} {P:Program} {w:World} {base:Nat} {held:Bool} {fuel:Nat}
theorem qFn {t e:TypeId} {v:Value} {x:DataW H × List MemPlace} (ht:P.underlying t=some (.slice e)) (he:P.underlying e=some (.int .u8)) (hc:P.cellsOf e=1) (h:DataW.trod enc P w base (fun _=>true) held fuel t [v]=some x) :
  ∃ A l c,v=.slice A l.length c∧(Kd.int .u8).C w A l.length l∧l.length≤c∧WfB l:=by
 rcases open_ints ht he hc h with ⟨hcs,_⟩ | ⟨a,l,c,zs,hcs,_,hl,hm,hz,_,hcell,hwz⟩
 ·refine ⟨none,[],0,by simpa using hcs,⟨rfl,by simp,fun h=>by simp at h⟩,by simp,by simp [WfB]⟩
 ·simp only [if_true] at hz
  have hlen:(zs.take l).length=l:=by rw [List.length_take];omega
  refine ⟨some a,zs.take l,c,by rw [hlen];simpa using hcs,⟨rfl,by rw [hlen];simp only [maxLen] at hm;omega,fun _=>⟨a,rfl,fun j p hj=>?_⟩⟩,by omega,?_,fun n hn=>qPc (hwz n (List.mem_of_mem_take hn))⟩
  ·have hjl:j<l:=by have:=(List.getElem?_eq_some_iff.1 hj).1;omega
   refine ⟨[.int .u8 p],rfl,rfl,fun i u hu=>?_⟩
   cases i with
   | zero =>
    simp only [List.getElem?_cons_zero,Option.some.injEq] at hu
    subst hu
    rw [Nat.add_zero,show j * (Kd.int .u8).sz=j from Nat.mul_one j,hcell j oM_]
    rw [List.getElem?_take,if_pos hjl] at hj
    rw [ya_,hj];rfl
   | succ i=>simp at hu
  ·rw [hlen];simp only [maxLen] at hm;omega
end
end Go.Proofs.YtpgjfppbbbnclaaGreat.B

namespace Go.Proofs.YtpgjfppbbbnclaaGreat.B
open Go.RowKit Go.Proofs.YtpgjfppbbbnclaaGreatW.PrintWords
end Go.Proofs.YtpgjfppbbbnclaaGreat.B
namespace Go.Proofs.YtpgjfppbbbnclaaGreat.B
open Go.RowKit Go.Proofs.YtpgjfppbbbnclaaGreatW.PrintWords
def Byt (l:List Int):Prop:=∀ n∈l,0≤n∧n≤255
theorem qEk (n:Int):0≤IntKind.u64.wrap n∧IntKind.u64.wrap n≤18446744073709551615:=by
 rw [show IntKind.u64.wrap n=n % 18446744073709551616 by simp [IntKind.wrap,IntKind.bits,IntKind.signed]];omega
theorem qNb {x:Int} (h0:0≤x) (h1:x≤18446744073709551615):0≤wrap64 (Go.bits .and .u64 (x / 1099511627776) 255)∧wrap64 (Go.bits .and .u64 (x / 1099511627776) 255)≤255:=by
 obtain ⟨m,hm⟩:=Int.eq_ofNat_of_zero_le (show 0≤x / 1099511627776 by omega)
 have hb:m<2 ^ 24:=by
  have:x / 1099511627776≤16777215:=by omega
  omega
 have h:=(bits_nat .u64 24 (by decide) (fun n a b=>by
  have e:(2:Int) ^ 24=16777216:=by decide
  rw [e] at b
  rw [show IntKind.u64.wrap n=n % 18446744073709551616 by simp [IntKind.wrap,IntKind.bits,IntKind.signed]];omega) m 255 hb (by decide)).1
 rw [hm,show (255:Int)=((255:Nat):Int) from rfl,h]
 have h2:m &&& 255≤255:=Nat.and_le_right
 rw [qAs oM_ oM_]
 omega
theorem qMg {l:List Int} (hl:Byt l) {a:Int} (z:Int) (h0:0≤a) (h1:a≤4611686018427387904):∃ v z',z63.f l a z=some (v,a+1,z')∧0≤v∧v≤255:=by
 unfold z63.f
 have hw:wrap64 (a+1)=a+1:=qAs oM_ oM_
 rw [hw]
 clear hw
 by_cases h:a<(l.length:Int)
 ·rw [if_pos h,if_pos h0,if_pos oM_]
  obtain ⟨i,rfl⟩:=Int.eq_ofNat_of_zero_le h0
  obtain ⟨b0,b1⟩:=hl _ (qA3 (i:=i) 0 (show i<l.length by omega))
  refine ⟨_,_,rfl,?_,?_⟩
  ·rw [qA4,qAs oM_ oM_];exact b0
  ·rw [qA4,qAs oM_ oM_];exact b1
 ·rw [if_neg h,if_neg oM_]
  exact ⟨_,_,rfl,(qNb (qEk _).1 (qEk _).2).1,(qNb (qEk _).1 (qEk _).2).2⟩
theorem qDn {l:List Int} (hl:Byt l) {a:Int} (z n:Int) (h0:0≤a) (h1:a≤4611686018427387000):∃ v a' z',z33.f l a z n=some (v,a',z')∧0≤v∧(n≤1→v=0)∧(1<n→v<n)∧a≤a'∧a'≤a+2:=by
 unfold z33.f
 by_cases h:n≤1
 ·rw [if_pos h]
  exact ⟨0,a,z,rfl,by omega,fun _=>rfl,fun h=>by omega,by omega,by omega⟩
 rw [if_neg h]
 obtain ⟨v,z1,e,hv,hv'⟩:=qMg hl z h0 oM_
 rw [e]
 show ∃ v' a' z',(if n > 200 then _ else _)=some (v',a',z')∧_
 by_cases h2:n > 200
 ·rw [if_pos h2]
  obtain ⟨u,z2,e2,hu,hu'⟩:=qMg (a:=a+1) hl z1 oM_ oM_
  rw [e2]
  have hx:wrap64 (wrap64 (v * 256)+u)=v * 256+u:=by
   rw [qAs (x:=v * 256) oM_ oM_,qAs oM_ oM_]
  show ∃ v' a' z',(if n=0 then none else some (Int.tmod (wrap64 (wrap64 (v * 256)+u)) n,a+1+1,z2))=some (v',a',z')∧_
  rw [if_neg oM_,hx]
  clear hx
  exact ⟨_,_,_,rfl,Int.tmod_nonneg _ oM_,fun h=>by omega,fun _=>Int.tmod_lt_of_pos _ oM_,by omega,by omega⟩
 ·rw [if_neg h2]
  show ∃ v' a' z',(if n=0 then none else some (Int.tmod v n,a+1,z1))=some (v',a',z')∧_
  rw [if_neg oM_]
  exact ⟨_,_,_,rfl,Int.tmod_nonneg _ hv,fun h=>by omega,fun _=>Int.tmod_lt_of_pos _ oM_,by omega,by omega⟩
theorem one_ok {l:List Int} (hl:Byt l) {a:Int} (z n:Int) (h0:0≤a) (h1:a≤4611686018427387000):∃ (v:Bool) (a' z':Int),z58.f l a z n=some (v,a',z')∧a≤a'∧a'≤a+2:=by
 obtain ⟨v,a',z',e,_,_,_,h2,h3⟩:=qDn hl z n h0 h1
 unfold z58.f
 rw [e]
 exact ⟨_,_,_,rfl,h2,h3⟩
end Go.Proofs.YtpgjfppbbbnclaaGreat.B
namespace Go.Proofs.YtpgjfppbbbnclaaGreat.B
open Go.RowKit Go.Proofs.YtpgjfppbbbnclaaGreatW.PrintWords
open SimT
theorem incR {l:List Int} (h:qCm l=true):Inc l:=by
 unfold qCm at h
 rw [yo_] at h
 have main:∀ d i,i+d+1<l.length→l.getD i 0<l.getD (i+d+1) 0:=by
  intro d
  induction d with
  | zero =>
   intro i hi
   have:=h (i+1) (yc_.2 hi)
   unfold qFc at this
   simpa using this
  | succ d ih =>
   intro i hi
   have h1:=ih i oM_
   have h2:=h (i+d+2) (yc_.2 oM_)
   unfold qFc at h2
   have h2:l.getD (i+d+1) 0<l.getD (i+d+2) 0:=by simpa using h2
   exact Int.lt_trans h1 h2
 refine List.pairwise_iff_getElem.2 (fun i j hi hj hij=>?_)
 have:=main (j - i - 1) i oM_
 rw [show i+(j - i - 1)+1=j by omega] at this
 simpa [ya_,yb_ hj,yb_ hi] using this
theorem qOt {l:List Int} (h:Inc l):qCm l=true:=by
 unfold qCm
 rw [yo_]
 intro i hi
 rw [yc_] at hi
 unfold qFc
 rcases Nat.eq_zero_or_pos i with h0 | h0
 ·subst h0;rfl
 ·have:=List.pairwise_iff_getElem.1 h (i - 1) i oM_ hi oM_
  have h2:l.getD (i - 1) 0<l.getD i 0:=by
   simpa [ya_,yb_ hi,yb_ (show i - 1<l.length by omega)] using this
  rw [decide_eq_true h2,Bool.or_true]
theorem qEr {s:List Int}:qBh s=true↔(1≤s.length∧s.length≤4)∧Inc s∧∀ v∈s,0≤v∧v≤9:=by
 unfold qBh
 simp only [ye_,decide_eq_true_eq,yo_]
 exact ⟨fun ⟨h1,h2,h3⟩=>⟨h1,incR h2,h3⟩,fun ⟨h1,h2,h3⟩=>⟨h1,qOt h2,h3⟩⟩
end Go.Proofs.YtpgjfppbbbnclaaGreat.B
namespace Go.Proofs.YtpgjfppbbbnclaaGreat.B
open Go.RowKit Go.Proofs.YtpgjfppbbbnclaaGreatW.PrintWords
open SimT
theorem qMn {σ α:Type} (G:σ→α→σ) (z:α) (xs:List α) (s:σ):∀ n,n≤xs.length→iter (fun j s=>G s (xs.getD j z)) 0 n s=(xs.take n).foldl G s:=by
 intro n
 induction n with
 | zero=>intro _;rfl
 | succ n ih =>
  intro hn
  rw [qE0,ih oM_,Nat.zero_add,List.take_succ_eq_append_getElem oM_,List.foldl_append,List.foldl_cons,List.foldl_nil,ya_,yb_ oM_]
  rfl
theorem cntF {n:Nat} (h:n≤4):cntN n≤41:=by
 rcases n with _ | _ | _ | _ | _ | n
 ·decide
 ·decide
 ·decide
 ·decide
 ·decide
 ·omega
theorem qOw {acc:List (List Int)} {s:List Int} (h1:1≤s.length) (h4:s.length≤4) (hl:acc.length≤1000000) (hr:∀ x∈acc,x.length≤1048576):spec_l05Put.f acc s=some (putN s.length acc s):=by
 have:=cntF h4
 unfold spec_l05Put.f
 rw [if_pos]
 simp only [ye_,decide_eq_true_eq,yo_]
 exact ⟨⟨h1,by omega⟩,by omega,hr⟩
end Go.Proofs.YtpgjfppbbbnclaaGreat.B
namespace Go.Proofs.YtpgjfppbbbnclaaGreat.B
open Go.RowKit Go.Proofs.YtpgjfppbbbnclaaGreatW.PrintWords
open SimT
def qCl (l:List (List Int)):List (List Int):=l.foldl (fun C s=>putN s.length C s) []
theorem qDr {l:List (List Int)} (h:∀ s∈l,s≠[]):Srt (qCl l)∧qDt (qCl l)∧∀ x,x∈qCl l↔(∃ s,s∈l∧x.Sublist s)∧x≠[]:=by
 obtain ⟨h1,h2,h3⟩:=qMb l (C:=[]) h List.Pairwise.nil (fun s hs=>by cases hs)
 refine ⟨h1,h2,fun x=>?_⟩
 unfold qCl
 rw [h3]
 exact ⟨fun h=>h.elim (fun h=>by cases h) id,.inr⟩
theorem qEy {s:List Int} (h:1≤s.length):s≠[]:=fun e=>by rw [e] at h;simp at h
theorem qCj (l:List (List Int)) (hl:l.length≤1000) (hr:∀ s∈l,1≤s.length∧s.length≤4):Ev (fun k=>z56.f k l) (qCl l):=by
 unfold z56.f
 obtain ⟨h1,_⟩:=qCh (fun acc j k=>z56.l0 k l (j:Int) acc) (fun j acc=>putN (l.getD j []).length acc (l.getD j [])) (fun j acc=>acc.length≤41 * j∧(∀ x∈acc,x.length≤4)∧Srt acc∧qDt acc) l.length 0 [] ⟨by simp,by simp,List.Pairwise.nil,fun s hs=>by cases hs⟩ (by
  intro j acc _ hj hI
  have hjl:j<l.length:=by omega
  obtain ⟨hm1,hm4⟩:=hr _ (qA3 ([]:List Int) hjl)
  obtain ⟨i1,i2,i3,i4⟩:=hI
  have hcn:=cntF (n:=(l.getD j []).length) hm4
  have hpl:=qH2 (l.getD j []).length acc (l.getD j []) (Nat.le_refl _)
  obtain ⟨p1,p2,p3⟩:=qGa (l.getD j []).length (Nat.le_refl _) (qEy hm1) i3 i4
  refine ⟨fun r hr'=>?_,by omega,fun x hx=>?_,p1,p2⟩
  ·refine Ev.step (fun k=>z56.l0.eq_2 ..) ?_
   rw [qA6,qAw oM_]
   exact qAc oM_ (qAc oM_ (Ev.bind (qA1 (qOw hm1 hm4 oM_ (fun x hx=>by have:=i2 x hx;omega))) hr'))
  ·rcases (p3 x).1 hx with h | ⟨h,_⟩
   ·exact i2 x h
   ·have:=h.length_le;omega)
 have hf:iter (fun j acc=>putN (l.getD j []).length acc (l.getD j [])) 0 l.length []=qCl l:=by
  have h5:=qMn (fun acc s=>putN s.length acc s) ([]:List Int) l [] l.length (Nat.le_refl _)
  rwa [List.take_length] at h5
 rw [hf,Nat.zero_add] at h1
 refine h1 _ ?_
 refine Ev.step (fun k=>z56.l0.eq_2 ..) ?_
 exact qAr oM_ (Ev.now _)
end Go.Proofs.YtpgjfppbbbnclaaGreat.B
namespace Go.Proofs.YtpgjfppbbbnclaaGreat.B
open Go.RowKit Go.Proofs.YtpgjfppbbbnclaaGreatW.PrintWords
open SimT
def putI (v:Int):List Int→List Int
 | []=>[v]
 | a :: s=>if v<a then v :: a :: s else if v=a then a :: s else a :: putI v s
theorem qH8 {v x:Int}:∀ {s:List Int},x∈putI v s↔x=v∨x∈s
 | []=>by simp [putI]
 | a :: s=>by
  unfold putI
  split
  ·simp
  ·split
   ·rename_i h
    subst h
    simp
   ·rw [List.mem_cons,qH8,List.mem_cons]
    constructor
    ·rintro (h | h | h)
     ·exact .inr (.inl h)
     ·exact .inl h
     ·exact .inr (.inr h)
    ·rintro (h | h | h)
     ·exact .inr (.inl h)
     ·exact .inl h
     ·exact .inr (.inr h)
theorem qKf (v:Int):∀ s:List Int,s.length≤(putI v s).length∧(putI v s).length≤s.length+1∧1≤(putI v s).length
 | []=>by simp [putI]
 | a :: s=>by
  have:=qKf v s
  unfold putI
  split
  ·simp
  ·split
   ·simp
   ·simp only [List.length_cons]
    omega
theorem qKj {v:Int}:∀ {s:List Int},Inc s→Inc (putI v s)
 | [],_=>List.pairwise_singleton _ _
 | a :: s,h=>by
  have h':=List.pairwise_cons.1 h
  unfold putI
  split
  ·rename_i hlt
   refine List.pairwise_cons.2 ⟨fun x hx=>?_,h⟩
   rcases List.mem_cons.1 hx with rfl | hx
   ·exact hlt
   ·exact Int.lt_trans hlt (h'.1 x hx)
  ·split
   ·exact h
   ·refine List.pairwise_cons.2 ⟨fun x hx=>?_,qKj h'.2⟩
    rcases qH8.1 hx with rfl | hx
    ·omega
    ·exact h'.1 x hx
theorem qLh {v:Int} {s:List Int} (hl:s.length≤1048576):Ev (fun k=>z96.f k s v) (putI v s):=by
 unfold z96.f
 have hdrop:∀ i,i<s.length→s.drop i=s.getD i 0 :: s.drop (i+1):=fun i hi=>by
  rw [List.drop_eq_getElem_cons hi,ya_,yb_ hi];rfl
 have hdone:∀ d i acc,i+d=s.length→acc.length≤i+1→Ev (fun k=>z96.l0 k s v acc true (i:Int)) (acc ++ s.drop i):=by
  intro d
  induction d with
  | zero =>
   intro i acc hi ha
   rw [List.drop_of_length_le oM_,List.append_nil]
   refine Ev.step (fun k=>z96.l0.eq_2 ..) ?_
   exact qAr oM_ (qAc rfl (Ev.now _))
  | succ d ih =>
   intro i acc hi ha
   rw [hdrop i oM_,show acc ++ s.getD i 0 :: s.drop (i+1)=(acc ++ [s.getD i 0]) ++ s.drop (i+1) by simp]
   refine Ev.step (fun k=>z96.l0.eq_2 ..) ?_
   refine qAc oM_ (qAc rfl ?_)
   refine Ev.step (fun k=>z96.j1.eq_2 ..) ?_
   rw [qA4,qAw oM_]
   exact qAr (by decide) (qAc oM_ (qAc oM_ (qAc oM_ (ih (i+1) _ oM_ (by simp;omega)))))
 have hnot:∀ d i acc,i+d=s.length→acc.length≤i→Ev (fun k=>z96.l0 k s v acc false (i:Int)) (acc ++ putI v (s.drop i)):=by
  intro d
  induction d with
  | zero =>
   intro i acc hi ha
   rw [List.drop_of_length_le oM_]
   refine Ev.step (fun k=>z96.l0.eq_2 ..) ?_
   exact qAr oM_ (qAr (by decide) (qAc oM_ (Ev.now _)))
  | succ d ih =>
   intro i acc hi ha
   rw [hdrop i oM_]
   refine Ev.step (fun k=>z96.l0.eq_2 ..) ?_
   rw [qA4]
   refine qAc oM_ (qAr (by decide) (qAc oM_ ?_))
   by_cases hlt:v<s.getD i 0
   ·rw [show putI v (s.getD i 0 :: s.drop (i+1))=v :: s.getD i 0 :: s.drop (i+1) by unfold putI;rw [if_pos hlt],show acc ++ v :: s.getD i 0 :: s.drop (i+1)=((acc ++ [v]) ++ [s.getD i 0]) ++ s.drop (i+1) by simp]
    rw [decide_eq_true (show s.getD i 0 ≥ v by omega)]
    refine Ev.step (fun k=>z96.j1.eq_2 ..) ?_
    rw [qA4,qAw oM_]
    refine qAc rfl (qAc oM_ (qAc oM_ (qAc oM_ (qAc oM_ (Ev.bind (Ev.now _) (qAc (by simp;omega) (hdone d (i+1) _ oM_ (by simp;omega))))))))
   ·by_cases he:v=s.getD i 0
    ·rw [show putI v (s.getD i 0 :: s.drop (i+1))=s.getD i 0 :: s.drop (i+1) by unfold putI;rw [if_neg hlt,if_pos he],show acc ++ s.getD i 0 :: s.drop (i+1)=(acc ++ [s.getD i 0]) ++ s.drop (i+1) by simp]
     rw [decide_eq_true (show s.getD i 0 ≥ v by omega)]
     refine Ev.step (fun k=>z96.j1.eq_2 ..) ?_
     rw [qA4,qAw oM_]
     exact qAc rfl (qAc oM_ (qAc oM_ (qAr oM_ (qAc oM_ (hdone d (i+1) _ oM_ (by simp;omega))))))
    ·rw [show putI v (s.getD i 0 :: s.drop (i+1))=s.getD i 0 :: putI v (s.drop (i+1)) by conv=>lhs;unfold putI;rw [if_neg hlt,if_neg he],show acc ++ s.getD i 0 :: putI v (s.drop (i+1))=(acc ++ [s.getD i 0]) ++ putI v (s.drop (i+1)) by simp]
     rw [decide_eq_false (show ¬ s.getD i 0 ≥ v by omega)]
     refine Ev.step (fun k=>z96.j1.eq_2 ..) ?_
     rw [qA4,qAw oM_]
     exact qAr (by decide) (qAc oM_ (qAc oM_ (qAc oM_ (ih (i+1) _ oM_ (by simp;omega)))))
 have:=hnot s.length 0 [] oM_ (by simp)
 simpa using this
def qEb (m:Int) (s:List Int):Prop:=Inc s∧1≤s.length∧s.length≤3∧∀ x∈s,0≤x∧x≤m
section
variable {l:List Int} (hl:Byt l)
include hl
theorem qDe (nv:Int) (h1:1≤nv) (h6:nv≤6):∀ (c:Nat) (s:List Int) (a z:Int),Inc s→s.length+c≤3→(1≤c∨1≤s.length)→(∀ x∈s,0≤x∧x≤5)→0≤a→a+2 * c≤1000000 →
  ∃ s' a' z',Ev (fun k=>z57.l0 k nv s (c:Int) l a z) (s',a',z')∧qEb 5 s'∧a≤a'∧a'≤a+2 * c
 | 0,s,a,z,hs,hc,h0,hr,ha,ha2=>⟨s,a,z,by
   refine Ev.step (fun k=>z57.l0.eq_2 ..) ?_
   exact qAr oM_ (Ev.now _),⟨hs,by omega,by omega,hr⟩,by omega,by omega⟩
 | c+1,s,a,z,hs,hc,h0,hr,ha,ha2=>by
  obtain ⟨v,a1,z1,e,v0,v1,v2,p1,p2⟩:=qDn hl z nv ha oM_
  have hp:=qKf v s
  have hv5:v≤5:=by
   by_cases h:nv≤1
   ·rw [v1 h];omega
   ·have:=v2 oM_;omega
  obtain ⟨s',a',z',e2,d,q1,q2⟩:=qDe nv h1 h6 c (putI v s) a1 z1 (qKj hs) oM_ oM_ (fun x hx=>by
   rcases qH8.1 hx with rfl | hx
   ·exact ⟨v0,hv5⟩
   ·exact hr x hx) oM_ oM_
  refine ⟨s',a',z',?_,d,by omega,by omega⟩
  refine Ev.step (fun k=>z57.l0.eq_2 ..) ?_
  rw [show wrap64 (((c+1:Nat):Int) - 1)=(c:Int) by rw [qAs oM_ oM_];omega]
  exact qAc oM_ (Ev.bind (qA1 e) (Ev.bind (qLh oM_) e2))
theorem qG4 (nv:Int) (h1:1≤nv) (h6:nv≤6) (a z:Int) (ha:0≤a) (ha2:a≤100000):∃ s a' z',Ev (fun k=>z57.f k l a z nv 3) (s,a',z')∧qEb 5 s∧a≤a'∧a'≤a+8:=by
 obtain ⟨v,a1,z1,e,v0,_,v2,p1,p2⟩:=qDn hl z 3 ha oM_
 have hv:=v2 (by decide)
 obtain ⟨n,rfl⟩:=Int.eq_ofNat_of_zero_le v0
 obtain ⟨s,a',z',e2,d,q1,q2⟩:=qDe hl nv h1 h6 (n+1) [] a1 z1 List.Pairwise.nil (by simp;omega) oM_ (by simp) oM_ oM_
 refine ⟨s,a',z',?_,d,by omega,by omega⟩
 unfold z57.f
 refine Ev.bind (qA1 e) ?_
 rw [show wrap64 (1+(n:Int))=((n+1:Nat):Int) by rw [qAs oM_ oM_];omega]
 exact e2
end
theorem qGc {α:Type} [DecidableEq α]:∀ {l m:List α},l.Nodup→(∀ x∈l,x∈m)→l.length≤m.length
 | [],m,_,_=>Nat.zero_le _
 | a :: l,m,h,hm=>by
  obtain ⟨h1,h2⟩:=List.nodup_cons.1 h
  have ha:=hm a List.mem_cons_self
  have:=qGc (l:=l) (m:=m.erase a) h2 (fun x hx=>(List.mem_erase_of_ne (fun (e:x=a)=>h1 (by rw [← e];exact hx))).2 (hm x (List.mem_cons_of_mem _ hx)))
  rw [List.length_erase_of_mem ha] at this
  have hp:0<m.length:=List.length_pos_of_mem ha
  simp only [List.length_cons]
  omega
def qF3:List Int:=[0,1,2,3]
def bigT:List (List Int):=qF3 :: qBf qF3 ++ (qBf qF3).flatMap qBf
def ones:List (List Int):=[[0],[1],[2],[3],[4],[5]]
def qJ7 (L:List (List Int)):List (List Int):=ones ++ (L.flatMap (fun s=>s :: qBf s) ++ bigT)
theorem qKk:∀ L:List (List Int),(∀ s∈L,s.length≤3)→(L.flatMap (fun s=>s :: qBf s)).length≤4 * L.length
 | [],_=>by simp
 | s :: L,h=>by
  have h1:=qKk L (fun t ht=>h t (List.mem_cons_of_mem _ ht))
  have h2:=qDp s
  have h3:=h s List.mem_cons_self
  rw [List.flatMap_cons,List.length_append,List.length_cons,List.length_cons]
  omega
theorem qOy {x s:List Int} (hx:x.Sublist s) (hl:x.length=1) (hr:∀ z∈s,0≤z∧z≤5):x∈ones:=by
 match x,hl with
 | [v],_ =>
  have hv:=hr v (hx.subset List.mem_cons_self)
  have:v=0∨v=1∨v=2∨v=3∨v=4∨v=5:=by omega
  unfold ones
  rcases this with rfl | rfl | rfl | rfl | rfl | rfl <;> simp
theorem qJ3 {x s:List Int} (hx:x.Sublist s) (h2:2≤x.length):x=s∨∃ f,f∈qBf s∧x.Sublist f:=by
 rcases qF4.1 hx with h | ⟨k,hk,h⟩
 ·exact .inl h
 ·refine .inr ⟨drp s k,qCd.2 ⟨?_,k,hk,rfl⟩,h⟩
  have:=hx.length_le
  omega
theorem qHo {L:List (List Int)} {M:List (List Int)} (hL:∀ s∈L,qEb 5 s) (hM:∀ s∈M,s∈L∨s=qF3):∀ x∈qCl M,x∈qJ7 L:=by
 have hne:∀ s∈M,s≠[]:=fun s hs=>by
  rcases hM s hs with h | rfl
  ·exact qEy (hL s h).2.1
  ·decide
 obtain ⟨c1,_,c3⟩:=qDr hne
 intro x hx
 obtain ⟨⟨s,hs,hxs⟩,hxne⟩:=(c3 x).1 hx
 have hxl:1≤x.length:=by
  cases x with
  | nil=>exact absurd rfl hxne
  | cons a x=>simp
 unfold qJ7
 rw [yv_,yv_]
 have hr:∀ z∈s,0≤z∧z≤5:=by
  rcases hM s hs with h | rfl
  ·exact (hL s h).2.2.2
  ·intro z hz
   unfold qF3 at hz
   simp at hz
   omega
 by_cases h1:x.length=1
 ·exact .inl (qOy hxs h1 hr)
 ·right
  rcases hM s hs with h | rfl
  ·left
   rw [List.mem_flatMap]
   refine ⟨s,h,?_⟩
   rcases qJ3 hxs oM_ with rfl | ⟨f,hf,hxf⟩
   ·exact List.mem_cons_self
   ·have h3:=(hL s h).2.2.1
    obtain ⟨_,k,hk,rfl⟩:=qCd.1 hf
    have h4:=qBc hk
    have:=hxf.eq_of_length_le oM_
    rw [this]
    exact List.mem_cons_of_mem _ hf
  ·right
   unfold bigT
   rcases qJ3 hxs oM_ with rfl | ⟨f,hf,hxf⟩
   ·simp
   ·rcases qJ3 hxf oM_ with rfl | ⟨g,hg,hxg⟩
    ·exact yv_.2 (.inl (List.mem_cons_of_mem _ hf))
    ·obtain ⟨_,k,hk,rfl⟩:=qCd.1 hf
     have h4:=qBc hk
     have hg':=hg
     obtain ⟨_,k2,hk2,rfl⟩:=qCd.1 hg
     have h5:=qBc hk2
     have ht:qF3.length=4:=rfl
     have:=hxg.eq_of_length_le oM_
     rw [this]
     exact yv_.2 (.inr (List.mem_flatMap.2 ⟨_,hf,hg'⟩))
theorem qIg {L:List (List Int)} {M:List (List Int)} (hL:∀ s∈L,qEb 5 s) (hl:L.length≤5) (hM:∀ s∈M,s∈L∨s=qF3):(qCl M).length≤48:=by
 have hne:∀ s∈M,s≠[]:=fun s hs=>by
  rcases hM s hs with h | rfl
  ·exact qEy (hL s h).2.1
  ·decide
 obtain ⟨c1,_,c3⟩:=qDr hne
 have h1:=qGc (m:=qJ7 L) (qIp c1) (qHo hL hM)
 have h2:=qKk L (fun s hs=>(hL s hs).2.2.1)
 have h3:(qJ7 L).length=6+((L.flatMap (fun s=>s :: qBf s)).length+17):=by
  unfold qJ7
  rw [List.length_append,List.length_append]
  rfl
 omega
theorem qNj:qBh qF3=true:=by decide
theorem qHn {L:List (List Int)} {M:List (List Int)} (hL:∀ s∈L,qEb 5 s) (hl:L.length≤5) (hM:∀ s∈M,s∈L∨s=qF3):okC (qCl M)=true:=by
 have hsx:∀ s∈M,qBh s=true:=fun s hs=>by
  rcases hM s hs with h | rfl
  ·obtain ⟨d1,d2,d3,d4⟩:=hL s h
   exact qEr.2 ⟨by omega,d1,fun v hv=>by have:=d4 v hv;omega⟩
  ·exact qNj
 obtain ⟨c1,c2,c3⟩:=qDr (l:=M) (fun s hs=>qEy (qCf (hsx s hs)).1)
 refine qCg.2 ⟨qIg hL hl hM,c1,fun x hx=>?_,c2⟩
 obtain ⟨⟨s,hs,hxs⟩,hxne⟩:=(c3 x).1 hx
 obtain ⟨r1,r2,r3⟩:=qEr.1 (hsx s hs)
 have hxl:1≤x.length:=by
  cases x with
  | nil=>exact absurd rfl hxne
  | cons a x=>simp
 have:=hxs.length_le
 exact qEr.2 ⟨by omega,qO3 hxs r2,fun v hv=>r3 v (hxs.subset hv)⟩
def qFr (C:List (List Int)):Prop:=∃ L M:List (List Int),(∀ s∈L,qEb 5 s)∧L.length≤5∧(∀ s∈M,s∈L∨s=qF3)∧C=qCl M
theorem qC7 {C:List (List Int)} (h:qFr C):okC C=true:=by
 obtain ⟨L,M,h1,h2,h3,rfl⟩:=h
 exact qHn h1 h2 h3
theorem qGr (k:Nat):∀ L:List (List Int),(∀ s∈L,s.length≤3)→(L.flatMap (fun s=>s :: qBf s)).countP (fun x=>decide (x.length=k))≤3 * L.length
 | [],_=>by simp
 | s :: L,h=>by
  have h1:=qGr k L (fun t ht=>h t (List.mem_cons_of_mem _ ht))
  have h3:=h s List.mem_cons_self
  have h4:(s :: qBf s).countP (fun x=>decide (x.length=k))≤3:=by
   rw [List.countP_cons]
   by_cases e:s.length=k
   ·have:(qBf s).countP (fun x=>decide (x.length=k))=0:=List.countP_eq_zero.2 fun x hx=>by
     obtain ⟨h5,j,hj,rfl⟩:=qCd.1 hx
     have:=qBc hj
     simp
     omega
    rw [this];split <;> omega
   ·rw [if_neg (by simpa using e)]
    exact Nat.le_trans List.countP_le_length (Nat.le_trans (qDp s) h3)
  rw [List.flatMap_cons,List.countP_append,List.length_cons]
  omega
theorem qM0 {L:List (List Int)} (h:∀ s∈L,s.length≤3) (hl:L.length≤5) (k:Nat):(qJ7 L).countP (fun x=>decide (x.length=k))≤32:=by
 have h1:=qGr k L h
 have h2:ones.countP (fun x=>decide (x.length=k))+bigT.countP (fun x=>decide (x.length=k))≤12:=by
  rcases k with _ | _ | _ | _ | _ | k
  ·decide
  ·decide
  ·decide
  ·decide
  ·decide
  ·have e1:ones.countP (fun x=>decide (x.length=k+1+1+1+1+1))=0:=List.countP_eq_zero.2 fun x hx=>by
    have:∀ x∈ones,x.length≤4:=by decide
    have:=this x hx
    simp
    omega
   have e2:bigT.countP (fun x=>decide (x.length=k+1+1+1+1+1))=0:=List.countP_eq_zero.2 fun x hx=>by
    have:∀ x∈bigT,x.length≤4:=by decide
    have:=this x hx
    simp
    omega
   omega
 unfold qJ7
 rw [List.countP_append,List.countP_append]
 omega
theorem qLm {α:Type} [DecidableEq α] {l m:List α} (p:α→Bool) (h:l.Nodup) (hm:∀ x∈l,x∈m):l.countP p≤m.countP p:=by
 rw [List.countP_eq_length_filter,List.countP_eq_length_filter]
 exact qGc (List.Pairwise.filter _ h) fun x hx=>by
  obtain ⟨h1,h2⟩:=List.mem_filter.1 hx
  exact List.mem_filter.2 ⟨hm x h1,h2⟩
theorem qJg {C:List (List Int)} (h:qFr C) (k:Nat):C.countP (fun x=>decide (x.length=k))≤32:=by
 obtain ⟨L,M,h1,h2,h3,rfl⟩:=h
 have hs:=(qCg.1 (qHn h1 h2 h3)).2.1
 exact Nat.le_trans (qLm _ (qIp hs) (qHo h1 h3)) (qM0 (fun s hs=>(h1 s hs).2.2.1) h2 k)
theorem qGp (s:List Int) (h:qBh s=true∧s.length≤3∧s.all (fun x=>decide (x≤5))=true):qEb 5 s:=by
 obtain ⟨h1,h2,h3⟩:=h
 obtain ⟨r1,r2,r3⟩:=qEr.1 h1
 rw [yo_] at h3
 exact ⟨r2,r1.1,h2,fun x hx=>⟨(r3 x hx).1,of_decide_eq_true (h3 x hx)⟩⟩
section
variable {l:List Int} (hl:Byt l)
include hl
theorem qJh (nv:Int) (h1:1≤nv) (h6:nv≤6):∀ (c:Nat) (acc:List (List Int)) (a z:Int),(∀ s∈acc,qEb 5 s)→acc.length+c≤5→0≤a→a+8 * c≤1000 →
  ∃ C a' z',Ev (fun k=>z28.l0 k acc nv (c:Int) l a z) (C,a',z')∧qFr C
 | 0,acc,a,z,hacc,hc,ha,ha2=>by
  obtain ⟨b,a1,z1,e,_,_⟩:=one_ok hl z 6 ha oM_
  cases b with
  | true =>
   refine ⟨qCl (acc ++ [qF3]),a1,z1,?_,⟨_,_,hacc,by omega,fun s hs=>?_,rfl⟩⟩
   ·refine Ev.step (fun k=>z28.l0.eq_2 ..) ?_
    refine qAr oM_ (Ev.bind (qA1 e) (qAc rfl (qAc oM_ (Ev.bind (qCj _ (by simp;omega) (fun s hs=>?_)) (Ev.now _)))))
    rcases yv_.1 hs with h | h
    ·have:=hacc s h
     exact ⟨this.2.1,by have:=this.2.2.1;omega⟩
    ·rw [List.mem_singleton] at h
     subst h
     decide
   ·rcases yv_.1 hs with h | h
    ·exact .inl h
    ·exact .inr (List.mem_singleton.1 h)
  | false =>
   refine ⟨qCl acc,a1,z1,?_,⟨_,_,hacc,by omega,fun s hs=>.inl hs,rfl⟩⟩
   refine Ev.step (fun k=>z28.l0.eq_2 ..) ?_
   exact qAr oM_ (Ev.bind (qA1 e) (qAr (by simp) (Ev.bind (qCj _ oM_ (fun s hs=>⟨(hacc s hs).2.1,by have:=(hacc s hs).2.2.1;omega⟩)) (Ev.now _))))
 | c+1,acc,a,z,hacc,hc,ha,ha2=>by
  obtain ⟨s,a1,z1,e,d,p1,p2⟩:=qG4 hl nv h1 h6 a z ha oM_
  obtain ⟨C,a',z',e2,hC⟩:=qJh nv h1 h6 c (acc ++ [s]) a1 z1 (fun t ht=>by
   rcases yv_.1 ht with h | h
   ·exact hacc t h
   ·rw [List.mem_singleton.1 h];exact d) (by simp;omega) oM_ oM_
  refine ⟨C,a',z',?_,hC⟩
  refine Ev.step (fun k=>z28.l0.eq_2 ..) ?_
  rw [show wrap64 (((c+1:Nat):Int) - 1)=(c:Int) by rw [qAs oM_ oM_];omega]
  exact qAc oM_ (Ev.bind e (qAc oM_ e2))
theorem qN0:∃ C,Ev (fun k=>z6.f k l) C∧qFr C:=by
 obtain ⟨v,a1,z1,e,v0,_,v2,p1,p2⟩:=qDn hl 0 6 (a:=0) oM_ oM_
 have hmain:∃ C a' z',Ev (fun k=>z28.f k l 0 0) (C,a',z')∧qFr C:=by
  unfold z28.f
  by_cases h0:v=0
  ·have hd:∀ s∈[[0,1],[1,2],[0,2],[2,3]],qEb 5 s:=fun s hs=>qGp s (by
    revert s
    decide)
   exact ⟨_,a1,z1,Ev.bind (qA1 e) (qAc h0 (Ev.bind (qCj _ (by decide) (fun s hs=>⟨(hd s hs).2.1,by have:=(hd s hs).2.2.1;omega⟩)) (Ev.now _))),⟨_,_,hd,by decide,fun s hs=>.inl hs,rfl⟩⟩
  ·by_cases h1:v=1
   ·have hd:∀ s∈[[0,1,2],[0,1,3],[0,2,3],[1,2,3]],qEb 5 s:=fun s hs=>qGp s (by
     revert s
     decide)
    exact ⟨_,a1,z1,Ev.bind (qA1 e) (qAr h0 (qAc h1 (Ev.bind (qCj _ (by decide) (fun s hs=>⟨(hd s hs).2.1,by have:=(hd s hs).2.2.1;omega⟩)) (Ev.now _)))),⟨_,_,hd,by decide,fun s hs=>.inl hs,rfl⟩⟩
   ·obtain ⟨n,a2,z2,e2,n0,_,n2,q1,q2⟩:=qDn hl z1 4 (a:=a1) oM_ oM_
    obtain ⟨c,a3,z3,e3,c0,_,c2,r1,r2⟩:=qDn hl z2 6 (a:=a2) oM_ oM_
    have hn:=n2 (by decide)
    have hc:=c2 (by decide)
    obtain ⟨cn,rfl⟩:=Int.eq_ofNat_of_zero_le c0
    obtain ⟨C,a',z',e4,hC⟩:=qJh hl (3+n) oM_ oM_ cn [] a3 z3 (by simp) (by simp;omega) oM_ oM_
    refine ⟨C,a',z',?_,hC⟩
    refine Ev.bind (qA1 e) (qAr h0 (qAr h1 (Ev.bind (qA1 e2) (Ev.bind (qA1 e3) ?_))))
    rw [qAs (x:=3+n) oM_ oM_]
    exact e4
 obtain ⟨C,a',z',e4,hC⟩:=hmain
 refine ⟨C,?_,hC⟩
 unfold z6.f
 exact Ev.bind (qA1 rfl) (Ev.bind e4 (Ev.now _))
end
end Go.Proofs.YtpgjfppbbbnclaaGreat.B
namespace Go.Proofs.YtpgjfppbbbnclaaGreat.B.LinT
abbrev Vec:=Nat→Int
theorem qA8 {p a:Int} (c:Int) (h:p ∣ a):p ∣ c * a:=Int.dvd_trans h (Int.dvd_mul_left c a)
def Zr (p:Int) (n:Nat) (v:Vec):Prop:=∀ i,i<n→p ∣ v i
structure Sub (p:Int) (n:Nat) (S:Vec→Prop):Prop where
 zero:∀ v,Zr p n v→S v
 add:∀ v w,S v→S w→S (fun i=>v i+w i)
 smul:∀ (c:Int) v,S v→S (fun i=>c * v i)
theorem Sub.congr {p:Int} {n:Nat} {S:Vec→Prop} (h:Sub p n S) {v w:Vec} (hv:S v) (e:∀ i,i<n→p ∣ w i - v i):S w:=by
 have:=h.add v (fun i=>w i - v i) hv (h.zero _ e)
 have e2:(fun i=>v i+(w i - v i))=w:=by funext i;omega
 rwa [e2] at this
theorem Sub.sub {p:Int} {n:Nat} {S:Vec→Prop} (h:Sub p n S) {v w:Vec} (hv:S v) (hw:S w):S (fun i=>v i - w i):=by
 have:=h.add v _ hv (h.smul (-1) w hw)
 have e2:(fun i=>v i+-1 * w i)=fun i=>v i - w i:=by funext i;omega
 rwa [e2] at this
def Ld (p:Int) (n:Nat) (v:Vec) (i:Nat):Prop:=i<n∧¬ p ∣ v i∧∀ j,j<i→p ∣ v j
theorem least' {q:Nat→Prop} (h:∃ j,q j):∃ j,q j∧∀ m,m<j→¬ q m:=by
 obtain ⟨j,hj⟩:=h
 induction j using Nat.strongRecOn with
 | _ j ih =>
  by_cases hm:∃ m,m<j∧q m
  ·obtain ⟨m,h1,h2⟩:=hm
   exact ih m h1 h2
  ·exact ⟨j,hj,fun m h1 h2=>hm ⟨m,h1,h2⟩⟩
theorem ld_nz {p:Int} {n:Nat} {v:Vec} {i:Nat} (h:Ld p n v i):¬ Zr p n v:=fun hz=>h.2.1 (hz i h.1)
def Pl (p:Int) (n:Nat) (S:Vec→Prop) (i:Nat):Prop:=∃ v,S v∧Ld p n v i
open Classical in
noncomputable def cnt (Q:Nat→Prop):Nat→Nat
 | 0=>0
 | n+1=>cnt Q n+(if Q n then 1 else 0)
theorem qFz {Q R:Nat→Prop}:∀ n,(∀ i,i<n→Q i→R i)→cnt Q n≤cnt R n
 | 0,_=>Nat.le_refl _
 | n+1,h=>by
  have ih:=qFz n (fun i hi=>h i oM_)
  have hn:=h n oM_
  simp only [cnt]
  by_cases hq:Q n
  ·rw [if_pos hq,if_pos (hn hq)];omega
  ·rw [if_neg hq];split <;> omega
theorem qJk {Q R:Nat→Prop} (n:Nat) (h:∀ i,i<n→(Q i↔R i)):cnt Q n=cnt R n :=
 Nat.le_antisymm (qFz n fun i hi=>(h i hi).1) (qFz n fun i hi=>(h i hi).2)
theorem qHm {Q R:Nat→Prop} (i0:Nat):∀ n,i0<n→¬ Q i0→(∀ i,i<n→(R i↔Q i∨i=i0))→cnt R n=cnt Q n+1
 | 0,h,_,_=>by omega
 | n+1,h,hq,he=>by
  simp only [cnt]
  rcases Nat.lt_or_ge i0 n with hl | hg
  ·rw [qHm i0 n hl hq (fun i hi=>he i oM_)]
   have e:=he n oM_
   have e2:R n↔Q n:=by
    rw [e]
    constructor
    ·rintro (h | h)
     ·exact h
     ·omega
    ·exact Or.inl
   by_cases hqn:Q n
   ·rw [if_pos hqn,if_pos (e2.2 hqn)]
   ·rw [if_neg hqn,if_neg (fun h=>hqn (e2.1 h))]
  ·have:i0=n:=by omega
   subst this
   rw [if_neg hq,if_pos ((he i0 oM_).2 (.inr rfl)),qJk (Q:=R) (R:=Q) i0 (fun i hi=>by
    rw [he i oM_];constructor
    ·rintro (h | h)
     ·exact h
     ·omega
    ·exact Or.inl)]
theorem qKw (Q:Nat→Prop):∀ n,(∀ i,i<n→¬ Q i)→cnt Q n=0
 | 0,_=>rfl
 | n+1,h=>by simp only [cnt];rw [qKw Q n (fun i hi=>h i oM_),if_neg (h n oM_)]
noncomputable def dim (p:Int) (n:Nat) (S:Vec→Prop):Nat:=cnt (Pl p n S) n
theorem qKs {p:Int} {n:Nat} {S T:Vec→Prop} (h:∀ v,S v→T v):dim p n S≤dim p n T :=
 qFz n fun i _ ⟨v,h1,h2⟩=>⟨v,h v h1,h2⟩
theorem qGq {p:Int} {n:Nat} {S T:Vec→Prop} (h:∀ v,S v↔T v):dim p n S=dim p n T :=
 Nat.le_antisymm (qKs fun v=>(h v).1) (qKs fun v=>(h v).2)
def Pr (p:Int):Prop:=(¬ p ∣ 1)∧∀ a,¬ p ∣ a→∃ b,p ∣ a * b - 1
def Ins (p:Int) (n:Nat) (S:Vec→Prop) (x v:Vec):Prop:=∃ (c:Int) (s:Vec),S s∧∀ i,i<n→p ∣ v i - (c * x i+s i)
theorem Ins.isSub {p:Int} {n:Nat} {S:Vec→Prop} (hS:Sub p n S) (x:Vec):Sub p n (Ins p n S x) where
 zero v hv:=⟨0,fun _=>0,hS.zero _ (fun i _=>yn_ p),fun i hi=>by simpa using hv i hi⟩
 add:=by
  rintro v w ⟨c,s,hs,h⟩ ⟨c',s',hs',h'⟩
  refine ⟨c+c',_,hS.add _ _ hs hs',fun i hi=>?_⟩
  have:=yq_ (h i hi) (h' i hi)
  have e:v i+w i - ((c+c') * x i+(s i+s' i))=(v i - (c * x i+s i))+(w i - (c' * x i+s' i)):=by grind
  rw [e];exact this
 smul:=by
  rintro d v ⟨c,s,hs,h⟩
  refine ⟨d * c,_,hS.smul d _ hs,fun i hi=>?_⟩
  have:=qA8 d (h i hi)
  have e:d * v i - (d * c * x i+d * s i)=d * (v i - (c * x i+s i)):=by grind
  rw [e];exact this
theorem Ins.old {p:Int} {n:Nat} {S:Vec→Prop} {x v:Vec} (h:S v):Ins p n S x v:=⟨0,v,h,fun i _=>by simp⟩
theorem Ins.new {p:Int} {n:Nat} {S:Vec→Prop} (hS:Sub p n S) {x:Vec}:Ins p n S x x:=⟨1,fun _=>0,hS.zero _ (fun i _=>yn_ p),fun i _=>by simp⟩
theorem Ins.least {p:Int} {n:Nat} {S T:Vec→Prop} (hT:Sub p n T) {x v:Vec} (h:∀ v,S v→T v) (hx:T x) (hv:Ins p n S x v):T v:=by
 obtain ⟨c,s,hs,he⟩:=hv
 exact hT.congr (hT.add _ _ (hT.smul c _ hx) (h s hs)) he
def Span (p:Int) (n:Nat):List Vec→Vec→Prop
 | []=>Zr p n
 | x :: L=>Ins p n (Span p n L) x
theorem zr_sub (p:Int) (n:Nat):Sub p n (Zr p n) where
 zero _ h:=h
 add _ _ h h' i hi:=yq_ (h i hi) (h' i hi)
 smul c _ h i hi:=qA8 c (h i hi)
theorem qB9 (p:Int) (n:Nat):∀ L,Sub p n (Span p n L)
 | []=>zr_sub p n
 | x :: L=>Ins.isSub (qB9 p n L) x
theorem qBn {p:Int} {n:Nat}:∀ {L:List Vec} {x:Vec},x∈L→Span p n L x
 | y :: L,x,h=>by
  rcases List.mem_cons.1 h with rfl | h
  ·exact Ins.new (qB9 p n L)
  ·exact Ins.old (qBn h)
theorem qDx {p:Int} {n:Nat} {T:Vec→Prop} (hT:Sub p n T):∀ {L:List Vec} {v:Vec},(∀ x,x∈L→T x)→Span p n L v→T v
 | [],v,_,hv=>hT.zero v hv
 | y :: L,v,h,hv=>Ins.least hT (fun v hv=>qDx hT (fun x hx=>h x (List.mem_cons_of_mem _ hx)) hv) (h y List.mem_cons_self) hv
theorem qC4 {p:Int} {n:Nat} {L M:List Vec} (h:∀ x,x∈L→Span p n M x) {v:Vec} (hv:Span p n L v):Span p n M v:=qDx (qB9 p n M) h hv
def behind (a:Nat) (w:Vec):Vec:=fun i=>if i<a then 0 else w (i - a)
structure Lmap (p:Int) (a b:Nat) (f:Vec→Vec):Prop where
 zr:∀ v,Zr p a v→Zr p b (f v)
 add:∀ v w j,j<b→p ∣ f (fun i=>v i+w i) j - (f v j+f w j)
 smul:∀ (c:Int) v j,j<b→p ∣ f (fun i=>c * v i) j - c * f v j
theorem Lmap.sub {p:Int} {a b:Nat} {f:Vec→Vec} (hf:Lmap p a b f) (v w:Vec) (j:Nat) (hj:j<b):p ∣ f (fun i=>v i - w i) j - (f v j - f w j):=by
 have h1:=hf.add v (fun i=>-1 * w i) j hj
 have h2:=hf.smul (-1) w j hj
 have e:(fun i=>v i+-1 * w i)=fun i=>v i - w i:=by funext i;omega
 simp only [e] at h1
 have:=yq_ h1 h2
 have e2:f (fun i=>v i - w i) j - (f v j - f w j)=f (fun i=>v i - w i) j - (f v j+f (fun i=>-1 * w i) j)+(f (fun i=>-1 * w i) j - -1 * f w j):=by omega
 rw [e2];exact this
def sm (f:Nat→Int):Nat→Int
 | 0=>0
 | n+1=>sm f n+f n
theorem qBe {f g:Nat→Int}:∀ n,(∀ i,i<n→f i=g i)→sm f n=sm g n
 | 0,_=>rfl
 | n+1,h=>by simp only [sm];rw [qBe n (fun i hi=>h i oM_),h n oM_]
theorem qFm (f g:Nat→Int):∀ n,sm (fun i=>f i+g i) n=sm f n+sm g n
 | 0=>rfl
 | n+1=>by simp only [sm];rw [qFm f g n];omega
theorem qFl (c:Int) (f:Nat→Int):∀ n,sm (fun i=>c * f i) n=c * sm f n
 | 0=>by simp [sm]
 | n+1=>by simp only [sm];rw [qFl c f n,Int.mul_add]
theorem qEo {p:Int} {f:Nat→Int}:∀ n,(∀ i,i<n→p ∣ f i)→p ∣ sm f n
 | 0,_=>yn_ p
 | n+1,h=>yq_ (qEo n fun i hi=>h i oM_) (h n oM_)
theorem qOa (f g:Nat→Int) (n:Nat):sm (fun i=>f i - g i) n=sm f n - sm g n:=by
 have h:=qFm f (fun i=>-1 * g i) n
 rw [qFl] at h
 rw [show (fun i=>f i - g i)=fun i=>f i+-1 * g i by funext i;omega,h];omega
theorem qF5:∀ n,sm (fun _=>0) n=0
 | 0=>rfl
 | n+1=>by simp only [sm];rw [qF5 n];rfl
theorem qDi {f:Nat→Int} {p:Int} (i0:Nat):∀ n,i0<n→(∀ i,i<n→i≠i0→p ∣ f i)→p ∣ sm f n - f i0
 | 0,h,_=>by omega
 | n+1,h,hz=>by
  simp only [sm]
  rcases Nat.lt_or_ge i0 n with hl | hg
  ·have:=yq_ (qDi i0 n hl (fun i hi=>hz i oM_)) (hz n oM_ oM_)
   rwa [show sm f n - f i0+f n=sm f n+f n - f i0 by omega] at this
  ·have:i0=n:=by omega
   subst this
   have:=qEo (p:=p) (f:=f) i0 (fun i hi=>hz i oM_ oM_)
   rwa [show sm f i0+f i0 - f i0=sm f i0 by omega]
theorem qJs (f:Nat→Nat→Int) (m:Nat):∀ n,sm (fun i=>sm (fun j=>f i j) m) n=sm (fun j=>sm (fun i=>f i j) n) m
 | 0=>by simp only [sm];rw [qF5]
 | n+1=>by
  simp only [sm]
  rw [qJs f m n,← qFm]
def dt (n:Nat) (v w:Vec):Int:=sm (fun i=>v i * w i) n
theorem qFi (n:Nat) (v w:Vec):dt n v w=dt n w v:=qBe n fun i _=>Int.mul_comm _ _
theorem dt_add (n:Nat) (v w x:Vec):dt n (fun i=>v i+w i) x=dt n v x+dt n w x:=by
 unfold dt;rw [← qFm];exact qBe n fun i _=>Int.add_mul _ _ _
theorem dt_mul (n:Nat) (c:Int) (v x:Vec):dt n (fun i=>c * v i) x=c * dt n v x:=by
 unfold dt;rw [← qFl];exact qBe n fun i _=>Int.mul_assoc _ _ _
theorem dt_zr {p:Int} {n:Nat} {v:Vec} (x:Vec) (h:Zr p n v):p ∣ dt n v x:=qEo n fun i hi=>Int.dvd_mul_of_dvd_left (h i hi)
def Perp (p:Int) (n:Nat) (S:Vec→Prop) (v:Vec):Prop:=∀ s,S s→p ∣ dt n v s
theorem qI4 (p:Int) (n:Nat) (v:Vec):Sub p n (fun s=>p ∣ dt n v s) where
 zero w hw:=by rw [qFi];exact dt_zr v hw
 add s t h h':=by rw [qFi,dt_add,qFi n s,qFi n t];exact yq_ h h'
 smul c s h:=by rw [qFi,dt_mul,qFi n s];exact qA8 c h
theorem qI3 {p:Int} {n:Nat} (L:List Vec) (v:Vec):Perp p n (Span p n L) v↔∀ x,x∈L→p ∣ dt n v x :=
 ⟨fun h x hx=>h x (qBn hx),fun h s hs=>qDx (qI4 p n v) h hs⟩
structure Rref (p:Int) (n r:Nat) (R:Nat→Vec) (q:Nat→Nat):Prop where
 lt:∀ i,i<r→q i<n
 mono:∀ i j,i<j→j<r→q i<q j
 one:∀ i,i<r→p ∣ R i (q i) - 1
 off:∀ i j,i<r→j<r→i≠j→p ∣ R i (q j)
 pre:∀ i c,i<r→c<q i→p ∣ R i c
def rows (R:Nat→Vec) (r:Nat):List Vec:=(List.range r).map R
theorem qBr {R:Nat→Vec} {r i:Nat} (h:i<r):R i∈rows R r:=List.mem_map_of_mem (yc_.2 h)
theorem qCn {R:Nat→Vec} {r:Nat} {x:Vec} (h:x∈rows R r):∃ i,i<r∧R i=x:=by
 obtain ⟨i,hi,he⟩:=ys_.1 h
 exact ⟨i,yc_.1 hi,he⟩
def comb (R:Nat→Vec) (r:Nat) (c:Nat→Int):Vec:=fun j=>sm (fun i=>c i * R i j) r
theorem qJj {p:Int} {n:Nat} {S:Vec→Prop} (hS:Sub p n S) (R:Nat→Vec) (c:Nat→Int):∀ r,(∀ i,i<r→S (R i))→S (comb R r c)
 | 0,_=>hS.zero _ (fun _ _=>yn_ p)
 | r+1,h=>hS.add _ _ (qJj hS R c r (fun i hi=>h i oM_)) (hS.smul (c r) _ (h r oM_))
theorem qLy {p:Int} {n:Nat} (R:Nat→Vec) (r:Nat) (v:Vec):Span p n (rows R r) v↔∃ c,∀ j,j<n→p ∣ v j - comb R r c j:=by
 constructor
 ·refine qDx (T:=fun v=>∃ c,∀ j,j<n→p ∣ v j - comb R r c j) ⟨?_,?_,?_⟩ (fun x hx=>?_)
  ·intro v hv
   refine ⟨fun _=>0,fun j hj=>?_⟩
   have e:comb R r (fun _=>0) j=0:=by
    unfold comb;rw [qBe (g:=fun _=>0) r (fun i _=>Int.zero_mul _),qF5]
   rw [e,Int.sub_zero];exact hv j hj
  ·rintro v w ⟨c,hc⟩ ⟨d,hd⟩
   refine ⟨fun i=>c i+d i,fun j hj=>?_⟩
   have e:comb R r (fun i=>c i+d i) j=comb R r c j+comb R r d j:=by
    unfold comb;rw [← qFm];exact qBe r fun i _=>Int.add_mul _ _ _
   have:=yq_ (hc j hj) (hd j hj)
   rwa [show v j - comb R r c j+(w j - comb R r d j)=v j+w j - (comb R r c j+comb R r d j) by omega,← e] at this
  ·rintro a v ⟨c,hc⟩
   refine ⟨fun i=>a * c i,fun j hj=>?_⟩
   have e:comb R r (fun i=>a * c i) j=a * comb R r c j:=by
    unfold comb;rw [← qFl];exact qBe r fun i _=>Int.mul_assoc _ _ _
   have:=qA8 a (hc j hj)
   rwa [Int.mul_sub,← e] at this
  ·obtain ⟨i0,hi0,rfl⟩:=qCn hx
   refine ⟨fun i=>if i=i0 then 1 else 0,fun j hj=>?_⟩
   have:=qDi (p:=p) (f:=fun i=>(if i=i0 then 1 else 0) * R i j) i0 r hi0 (fun i _ hne=>by simp [hne])
   simp only [if_pos,Int.one_mul] at this
   have:=Int.dvd_neg.2 this
   rwa [Int.neg_sub] at this
 ·rintro ⟨c,hc⟩
  exact (qB9 p n _).congr (qJj (qB9 p n _) R c r (fun i hi=>qBn (qBr hi))) hc
theorem Rref.coef {p:Int} {n r:Nat} {R:Nat→Vec} {q:Nat→Nat} (h:Rref p n r R q) {v:Vec} (hv:Span p n (rows R r) v) (j:Nat) (hj:j<n):p ∣ v j - comb R r (fun i=>v (q i)) j:=by
 obtain ⟨c,hc⟩:=(qLy R r v).1 hv
 have e:∀ i,i<r→p ∣ v (q i) - c i:=fun i hi=>by
  have h1:=hc (q i) (h.lt i hi)
  have h2:=qDi (p:=p) (f:=fun k=>c k * R k (q i)) i r hi (fun k hk hne=>qA8 _ (h.off k i hk hi hne))
  have h3:=qA8 (c i) (h.one i hi)
  have:=yq_ h1 (yq_ h2 h3)
  have e:v (q i) - comb R r c (q i)+(sm (fun k=>c k * R k (q i)) r - c i * R i (q i)+c i * (R i (q i) - 1))=v (q i) - c i:=by
   unfold comb;grind
  rwa [e] at this
 have h4:p ∣ comb R r c j - comb R r (fun i=>v (q i)) j:=by
  unfold comb
  rw [← qOa]
  refine qEo r fun i hi=>?_
  have:=qA8 (R i j) (e i hi)
  have:=Int.dvd_neg.2 this
  have e2:-(R i j * (v (q i) - c i))=c i * R i j - v (q i) * R i j:=by grind
  rwa [e2] at this
 have:=yq_ (hc j hj) h4
 rwa [show v j - comb R r c j+(comb R r c j - comb R r (fun i=>v (q i)) j)=v j - comb R r (fun i=>v (q i)) j by omega] at this
theorem Rref.zero {p:Int} {n r:Nat} {R:Nat→Vec} {q:Nat→Nat} (h:Rref p n r R q) {v:Vec} (hv:Span p n (rows R r) v) (hz:∀ i,i<r→p ∣ v (q i)):Zr p n v:=fun j hj=>by
 have h1:=h.coef hv j hj
 have h2:p ∣ comb R r (fun i=>v (q i)) j:=qEo r fun i hi=>Int.dvd_mul_of_dvd_left (hz i hi)
 have:=yq_ h1 h2
 rwa [Int.sub_add_cancel] at this
theorem Rref.pl {p:Int} {n r:Nat} {R:Nat→Vec} {q:Nat→Nat} (hp:Pr p) (h:Rref p n r R q) (c:Nat):Pl p n (Span p n (rows R r)) c↔∃ i,i<r∧q i=c:=by
 constructor
 ·rintro ⟨v,hv,hl⟩
  -- the first i with v (q i) not zero
  have hex:∃ i,i<r∧¬ p ∣ v (q i):=Classical.byContradiction fun hc=>by
   refine ld_nz hl (h.zero hv fun i hi=>Classical.byContradiction fun hd=>hc ⟨i,hi,hd⟩)
  obtain ⟨i,⟨hi,hni⟩,hmin⟩:=least' hex
  refine ⟨i,hi,?_⟩
  have hsm:∀ c,c<q i→p ∣ v c:=fun c hc=>by
   have h1:=h.coef hv c (by have:=h.lt i hi;omega)
   have h2:p ∣ comb R r (fun i=>v (q i)) c:=qEo r fun k hk=>by
    rcases Nat.lt_or_ge k i with hki | hki
    ·exact Int.dvd_mul_of_dvd_left (Classical.byContradiction fun hd=>hmin k hki ⟨hk,hd⟩)
    ·refine qA8 _ (h.pre k c hk ?_)
     rcases Nat.eq_or_lt_of_le hki with rfl | hlt
     ·exact hc
     ·have:=h.mono i k hlt hk;omega
   have:=yq_ h1 h2
   rwa [Int.sub_add_cancel] at this
  rcases Nat.lt_trichotomy (q i) c with h1 | h1 | h1
  ·exact absurd (hl.2.2 _ h1) hni
  ·exact h1
  ·exact absurd (hsm c h1) hl.2.1
 ·rintro ⟨i,hi,rfl⟩
  refine ⟨R i,qBn (qBr hi),h.lt i hi,fun hd=>hp.1 ?_,fun j hj=>h.pre i j hi hj⟩
  have:=Int.dvd_sub hd (h.one i hi)
  rwa [show R i (q i) - (R i (q i) - 1)=1 by omega] at this
theorem Rref.indep {p:Int} {n r:Nat} {R:Nat→Vec} {q:Nat→Nat} (hp:Pr p) (h:Rref p n r R q):dim p n (Span p n (rows R r))=r:=by
 have main:∀ k,k≤r→cnt (fun c=>∃ i,i<k∧q i=c) n=k:=by
  intro k
  induction k with
  | zero=>intro _;exact qKw _ n (fun c _ ⟨i,hi,_⟩=>by omega)
  | succ k ih =>
   intro hk
   rw [qHm (Q:=fun c=>∃ i,i<k∧q i=c) (q k) n (h.lt k oM_) (fun ⟨i,hi,he⟩=>by have:=h.mono i k hi oM_;omega) (fun c _=>⟨?_,?_⟩),ih oM_]
   ·rintro ⟨i,hi,he⟩
    rcases Nat.lt_or_ge i k with hl | hg
    ·exact .inl ⟨i,hl,he⟩
    ·have:i=k:=by omega
     subst this;exact .inr he.symm
   ·rintro (⟨i,hi,he⟩ | he)
    ·exact ⟨i,by omega,he⟩
    ·exact ⟨k,by omega,he.symm⟩
 unfold dim
 rw [qJk n (fun c _=>h.pl hp c)]
 exact main r (Nat.le_refl _)
theorem Rref.unique {p:Int} {n r r':Nat} {R R':Nat→Vec} {q q':Nat→Nat} (hp:Pr p) (h:Rref p n r R q) (h':Rref p n r' R' q') (hs:∀ v,Span p n (rows R r) v↔Span p n (rows R' r') v) :
  r=r'∧∀ i,i<r→q i=q' i∧∀ j,j<n→p ∣ R i j - R' i j:=by
 have hr:r=r':=by rw [← h.indep hp,← h'.indep hp];exact qGq hs
 subst hr
 have hpl:∀ c,(∃ i,i<r∧q i=c)↔∃ i,i<r∧q' i=c:=fun c=>by
  rw [← h.pl hp c,← h'.pl hp c]
  exact ⟨fun ⟨v,h1,h2⟩=>⟨v,(hs v).1 h1,h2⟩,fun ⟨v,h1,h2⟩=>⟨v,(hs v).2 h1,h2⟩⟩
 have hq:∀ i,i<r→q i=q' i:=by
  intro i
  induction i using Nat.strongRecOn with
  | _ i ih =>
   intro hi
   obtain ⟨j,hj,e1⟩:=(hpl (q i)).1 ⟨i,hi,rfl⟩
   obtain ⟨k,hk,e2⟩:=(hpl (q' i)).2 ⟨i,hi,rfl⟩
   rcases Nat.lt_trichotomy i j with hl | he | hl
   ·-- q' i<q' j=q i;k must be<i
    have h1:=h'.mono i j hl hj
    rcases Nat.lt_trichotomy k i with hk' | hk' | hk'
    ·have:=ih k hk' hk;have:=h'.mono k i hk' hi;omega
    ·subst hk';omega
    ·have:=h.mono i k hk' hk;omega
   ·subst he;omega
   ·have:=ih j hl hj;have:=h.mono j i hl hi;omega
 refine ⟨rfl,fun i hi=>⟨hq i hi,fun j hj=>?_⟩⟩
 have hd:Span p n (rows R r) (fun j=>R i j - R' i j):=(qB9 p n _).sub (qBn (qBr hi)) ((hs _).2 (qBn (qBr hi)))
 refine h.zero hd (fun k hk=>?_) j hj
 by_cases e:i=k
 ·subst e
  have h1:=h.one i hi
  have h2:=h'.one i hi
  rw [← hq i hi] at h2
  have:=Int.dvd_sub h1 h2
  rwa [show R i (q i) - 1 - (R' i (q i) - 1)=R i (q i) - R' i (q i) by omega] at this
 ·have h1:=h.off i k hi hk e
  have h2:=h'.off i k hi hk e
  rw [← hq k hk] at h2
  exact Int.dvd_sub h1 h2
structure GInv (p:Int) (n m c r:Nat) (R:Nat→Vec) (q:Nat→Nat):Prop where
 rm:r≤m
 lt:∀ i,i<r→q i<c
 mono:∀ i j,i<j→j<r→q i<q j
 one:∀ i,i<r→p ∣ R i (q i) - 1
 off:∀ i j,i<r→j<m→j≠i→p ∣ R j (q i)
 pre:∀ i k,i<r→k<q i→p ∣ R i k
 low:∀ i k,r≤i→i<m→k<c→p ∣ R i k
theorem GInv.start (p:Int) (n m:Nat) (R:Nat→Vec) (q:Nat→Nat):GInv p n m 0 0 R q :=
 ⟨Nat.zero_le _,fun i h=>by omega,fun i j _ h=>by omega,fun i h=>by omega,fun i j h=>by omega,fun i k h=>by omega,fun i k _ _ h=>by omega⟩
theorem GInv.none {p:Int} {n m c r:Nat} {R:Nat→Vec} {q:Nat→Nat} (h:GInv p n m c r R q) (hz:∀ i,r≤i→i<m→p ∣ R i c):GInv p n m (c+1) r R q :=
 ⟨h.rm,fun i hi=>by have:=h.lt i hi;omega,h.mono,h.one,h.off,h.pre,fun i k h1 h2 h3=>by
  rcases Nat.lt_or_ge k c with hl | hg
  ·exact h.low i k h1 h2 hl
  ·have:k=c:=by omega
   subst this;exact hz i h1 h2⟩
theorem GInv.swap {p:Int} {n m c r:Nat} {R R1:Nat→Vec} {q:Nat→Nat} (h:GInv p n m c r R q) {a:Nat} (ha:r≤a) (ham:a<m) (e1:∀ j,R1 r j=R a j) (e2:∀ j,R1 a j=R r j) (e3:∀ i j,i<m→i≠r→i≠a→R1 i j=R i j):GInv p n m c r R1 q:=by
 have e:∀ i,i<m→∃ k,k<m∧(r≤i→r≤k)∧(i<r→k=i)∧∀ j,R1 i j=R k j:=fun i hi=>by
  by_cases h1:i=r
  ·subst h1;exact ⟨a,ham,fun _=>ha,fun hh=>by omega,e1⟩
  ·by_cases h2:i=a
   ·subst h2;exact ⟨r,by omega,fun _=>Nat.le_refl _,fun hh=>by omega,e2⟩
   ·exact ⟨i,hi,fun hh=>hh,fun _=>rfl,fun j=>e3 i j hi h1 h2⟩
 refine ⟨h.rm,h.lt,h.mono,fun i hi=>?_,fun i j hi hj hne=>?_,fun i k hi hk=>?_,fun i k h1 h2 h3=>?_⟩
 ·obtain ⟨k,_,_,hk,he⟩:=e i oM_
  rw [he,hk hi];exact h.one i hi
 ·obtain ⟨k,hkm,hkr,hk,he⟩:=e j hj
  rw [he]
  refine h.off i k hi hkm ?_
  rcases Nat.lt_or_ge j r with hl | hg
  ·rw [hk hl];exact hne
  ·have:=hkr hg;omega
 ·obtain ⟨k',_,_,hk',he⟩:=e i oM_
  rw [he,hk' hi];exact h.pre i k hi hk
 ·obtain ⟨k',hkm,hkr,_,he⟩:=e i h2
  rw [he];exact h.low k' k (hkr h1) hkm h3
theorem GInv.step {p:Int} {n m c r:Nat} {R R':Nat→Vec} {q q':Nat→Nat} (h:GInv p n m c r R q) (hrm:r<m) {b:Int} (hb:p ∣ R r c * b - 1)
  (e1:∀ j,j≤c→p ∣ R' r j - b * R r j) (e2:∀ i j,i<m→i≠r→j≤c→p ∣ R' i j - (R i j - R i c * R' r j)) (hq:∀ i,i<r→q' i=q i) (hqr:q' r=c):GInv p n m (c+1) (r+1) R' q':=by
 have top0:∀ k,k<c→p ∣ R' r k:=fun k hk=>by
  have:=yq_ (e1 k oM_) (qA8 b (h.low r k (Nat.le_refl _) hrm hk))
  rwa [Int.sub_add_cancel] at this
 have top1:p ∣ R' r c - 1:=by
  have:=yq_ (e1 c (Nat.le_refl _)) hb
  rwa [show R' r c - b * R r c+(R r c * b - 1)=R' r c - 1 by grind] at this
 have same:∀ i k,i<m→i≠r→k<c→p ∣ R' i k - R i k:=fun i k hi hne hk=>by
  have:=Int.dvd_sub (e2 i k hi hne oM_) (qA8 (R i c) (top0 k hk))
  rwa [show R' i k - (R i k - R i c * R' r k) - R i c * R' r k=R' i k - R i k by omega] at this
 have clr:∀ i,i<m→i≠r→p ∣ R' i c:=fun i hi hne=>by
  have:=Int.dvd_sub (e2 i c hi hne (Nat.le_refl _)) (qA8 (R i c) top1)
  rwa [show R' i c - (R i c - R i c * R' r c) - R i c * (R' r c - 1)=R' i c by grind] at this
 refine ⟨by omega,fun i hi=>?_,fun i j hij hj=>?_,fun i hi=>?_,fun i j hi hj hne=>?_,fun i k hi hk=>?_,fun i k h1 h2 h3=>?_⟩
 ·rcases Nat.lt_or_ge i r with hl | hg
  ·rw [hq i hl];have:=h.lt i hl;omega
  ·have:i=r:=by omega
   subst this;omega
 ·rcases Nat.lt_or_ge j r with hl | hg
  ·rw [hq i oM_,hq j hl];exact h.mono i j hij hl
  ·have:j=r:=by omega
   subst this;rw [hq i hij,hqr];exact h.lt i hij
 ·rcases Nat.lt_or_ge i r with hl | hg
  ·rw [hq i hl]
   have:=yq_ (same i (q i) oM_ oM_ (h.lt i hl)) (h.one i hl)
   rwa [show R' i (q i) - R i (q i)+(R i (q i) - 1)=R' i (q i) - 1 by omega] at this
  ·have:i=r:=by omega
   subst this;rw [hqr];exact top1
 ·rcases Nat.lt_or_ge i r with hl | hg
  ·rw [hq i hl]
   by_cases hj':j=r
   ·subst hj';exact top0 _ (h.lt i hl)
   ·have:=yq_ (same j (q i) hj hj' (h.lt i hl)) (h.off i j hl hj hne)
    rwa [Int.sub_add_cancel] at this
  ·have:i=r:=by omega
   subst this;rw [hqr];exact clr j hj hne
 ·rcases Nat.lt_or_ge i r with hl | hg
  ·rw [hq i hl] at hk
   have:=h.lt i hl
   have:=yq_ (same i k oM_ oM_ oM_) (h.pre i k hl hk)
   rwa [Int.sub_add_cancel] at this
  ·have:i=r:=by omega
   subst this;rw [hqr] at hk;exact top0 k hk
 ·rcases Nat.lt_or_ge k c with hl | hg
  ·have:=yq_ (same i k h2 oM_ hl) (h.low i k oM_ h2 hl)
   rwa [Int.sub_add_cancel] at this
  ·have:k=c:=by omega
   subst this;exact clr i h2 oM_
theorem GInv.rref {p:Int} {n m r:Nat} {R:Nat→Vec} {q:Nat→Nat} (h:GInv p n m n r R q):Rref p n r R q :=
 ⟨h.lt,h.mono,h.one,fun i j hi hj hne=>h.off j i hj (by have:=h.rm;omega) hne,h.pre⟩
theorem GInv.span {p:Int} {n m r:Nat} {R:Nat→Vec} {q:Nat→Nat} (h:GInv p n m n r R q) (v:Vec):Span p n (rows R m) v↔Span p n (rows R r) v:=by
 constructor
 ·refine qC4 (fun x hx=>?_)
  obtain ⟨i,hi,rfl⟩:=qCn hx
  rcases Nat.lt_or_ge i r with hl | hg
  ·exact qBn (qBr hl)
  ·exact (qB9 p n _).zero _ (fun k hk=>h.low i k hg hi hk)
 ·refine qC4 (fun x hx=>?_)
  obtain ⟨i,hi,rfl⟩:=qCn hx
  exact qBn (qBr (by have:=h.rm;omega))
theorem qLv {p:Int} {n m r:Nat} {R R':Nat→Vec} (hrm:r<m) {a b:Int} (c:Nat→Int) (hb:p ∣ a * b - 1)
  (e1:∀ j,j<n→p ∣ R' r j - b * R r j) (e2:∀ i j,i<m→i≠r→j<n→p ∣ R' i j - (R i j - c i * R' r j)) (v:Vec):Span p n (rows R' m) v↔Span p n (rows R m) v:=by
 have sub:=qB9 p n (rows R m)
 have sub':=qB9 p n (rows R' m)
 have htop:Span p n (rows R m) (R' r):=sub.congr (sub.smul b _ (qBn (qBr hrm))) e1
 constructor
 ·refine qC4 (fun x hx=>?_)
  obtain ⟨i,hi,rfl⟩:=qCn hx
  by_cases h:i=r
  ·subst h;exact htop
  ·exact sub.congr (sub.sub (qBn (qBr hi)) (sub.smul (c i) _ htop)) (fun j hj=>e2 i j hi h hj)
 ·refine qC4 (fun x hx=>?_)
  obtain ⟨i,hi,rfl⟩:=qCn hx
  by_cases h:i=r
  ·subst h
   refine sub'.congr (sub'.smul a _ (qBn (qBr hi))) (fun j hj=>?_)
   have h1:=qA8 a (e1 j hj)
   have h2:=qA8 (R i j) hb
   have:=Int.dvd_neg.2 (yq_ h1 h2)
   rwa [show -(a * (R' i j - b * R i j)+R i j * (a * b - 1))=R i j - a * R' i j by grind] at this
  ·refine sub'.congr (sub'.add _ _ (qBn (qBr hi)) (sub'.smul (c i) _ (qBn (qBr hrm)))) (fun j hj=>?_)
   have:=Int.dvd_neg.2 (e2 i j hi h hj)
   rwa [show -(R' i j - (R i j - c i * R' r j))=R i j - (R' i j+c i * R' r j) by omega] at this
theorem qIt {p:Int} {n m:Nat} {R R':Nat→Vec} (h:∀ i,i<m→∃ k,k<m∧∀ j,j<n→p ∣ R' i j - R k j) (h':∀ i,i<m→∃ k,k<m∧∀ j,j<n→p ∣ R i j - R' k j) (v:Vec):Span p n (rows R' m) v↔Span p n (rows R m) v:=by
 constructor
 ·refine qC4 (fun x hx=>?_)
  obtain ⟨i,hi,rfl⟩:=qCn hx
  obtain ⟨k,hk,he⟩:=h i hi
  exact (qB9 p n _).congr (qBn (qBr hk)) he
 ·refine qC4 (fun x hx=>?_)
  obtain ⟨i,hi,rfl⟩:=qCn hx
  obtain ⟨k,hk,he⟩:=h' i hi
  exact (qB9 p n _).congr (qBn (qBr hk)) he
structure KerVec (p:Int) (n r:Nat) (R:Nat→Vec) (q:Nat→Nat) (c:Nat) (x:Vec):Prop where
 one:p ∣ x c - 1
 piv:∀ i,i<r→p ∣ x (q i)+R i c
 oth:∀ j,j<n→j≠c→(∀ i,i<r→q i≠j)→p ∣ x j
theorem Rref.perp_iff {p:Int} {n r:Nat} {R:Nat→Vec} {q:Nat→Nat} (h:Rref p n r R q) (v:Vec):Perp p n (Span p n (rows R r)) v↔∀ i,i<r→p ∣ dt n v (R i):=by
 rw [qI3]
 constructor
 ·exact fun h' i hi=>h' _ (qBr hi)
 ·intro h' x hx
  obtain ⟨i,hi,rfl⟩:=qCn hx
  exact h' i hi
theorem sm_two {f:Nat→Int} {p:Int} (a b:Nat) (hab:a≠b):∀ n,a<n→b<n→(∀ i,i<n→i≠a→i≠b→p ∣ f i)→p ∣ sm f n - (f a+f b):=by
 intro n ha hb hz
 have h1:=qDi (p:=p) (f:=fun i=>if i=a then 0 else f i) b n hb (fun i hi hne=>by
  by_cases h:i=a
  ·simp only [if_pos h];exact yn_ p
  ·simp only [if_neg h];exact hz i hi h hne)
 have h2:=qDi (p:=p) (f:=fun i=>if i=a then f i else 0) a n ha (fun i hi hne=>by
  simp only [if_neg hne];exact yn_ p)
 have e:sm f n=sm (fun i=>if i=a then 0 else f i) n+sm (fun i=>if i=a then f i else 0) n:=by
  rw [← qFm];exact qBe n fun i _=>by split <;> omega
 have:=yq_ h1 h2
 simp only [if_neg (Ne.symm hab),if_pos] at this
 rw [e]
 rwa [show sm (fun i=>if i=a then 0 else f i) n - f b+(sm (fun i=>if i=a then f i else 0) n - f a)=sm (fun i=>if i=a then 0 else f i) n+sm (fun i=>if i=a then f i else 0) n - (f a+f b) by omega] at this
theorem KerVec.perp {p:Int} {n r:Nat} {R:Nat→Vec} {q:Nat→Nat} (h:Rref p n r R q) {c:Nat} (hc:c<n) (hf:∀ i,i<r→q i≠c) {x:Vec} (hx:KerVec p n r R q c x):Perp p n (Span p n (rows R r)) x:=by
 rw [h.perp_iff]
 intro i hi
 have h1:=sm_two (p:=p) (f:=fun j=>x j * R i j) c (q i) (Ne.symm (hf i hi)) n hc (h.lt i hi) (fun j hj h1 h2=>by
  by_cases h3:∃ k,k<r∧q k=j
  ·obtain ⟨k,hk,rfl⟩:=h3
   exact qA8 _ (h.off i k hi hk (fun e=>by subst e;exact h2 rfl))
  ·exact Int.dvd_mul_of_dvd_left (hx.oth j hj h1 (fun k hk e=>h3 ⟨k,hk,e⟩)))
 have h2:=qA8 (R i c) hx.one
 have h3:=qA8 (R i (q i)) (hx.piv i hi)
 have h4:=qA8 (R i c) (h.one i hi)
 have:=Int.dvd_sub (yq_ h1 (yq_ h2 h3)) h4
 unfold dt
 rwa [show sm (fun j=>x j * R i j) n - (x c * R i c+x (q i) * R i (q i))+(R i c * (x c - 1)+R i (q i) * (x (q i)+R i c)) - R i c * (R i (q i) - 1)=sm (fun j=>x j * R i j) n by grind] at this
def isP (p:Nat):Bool:=decide (2≤p) && decide (p≤251) && (List.range 16).all fun d=>decide (d<2) || decide (p<d * d) || decide (p % d≠0)
theorem qLl:((List.range 252).all fun p=>!isP p || (List.range p).all fun a=>a == 0 || a * a ^ (p - 2) % p == 1)=true:=by decide +kernel
theorem qB3 {p:Nat} (h:isP p=true):2≤p∧p≤251:=by
 unfold isP at h
 rw [ye_,ye_,yf_,yf_] at h
 exact h.1
theorem fermat {p a:Nat} (h:isP p=true) (ha:a<p) (h0:a≠0):a * a ^ (p - 2) % p=1:=by
 have h1:=yo_.1 qLl p (yc_.2 (by have:=qB3 h;omega))
 rw [h] at h1
 have h2:∀ x,x<p→x=0∨x * x ^ (p - 2) % p=1:=by simpa using h1
 exact (h2 a ha).resolve_left h0
theorem qMr {p a:Nat} (h:isP p=true) (ha:a<p) (h0:a≠0):(p:Int) ∣ (a:Int) * ((a ^ (p - 2) % p:Nat):Int) - 1:=by
 have h1:=fermat h ha h0
 have h2:a * (a ^ (p - 2) % p) % p=1:=by rw [Nat.mul_mod,Nat.mod_mod,← Nat.mul_mod];exact h1
 have h3:=Nat.div_add_mod (a * (a ^ (p - 2) % p)) p
 rw [h2] at h3
 refine ⟨((a * (a ^ (p - 2) % p) / p:Nat):Int),?_⟩
 have h4:((a * (a ^ (p - 2) % p):Nat):Int)=((p * (a * (a ^ (p - 2) % p) / p)+1:Nat):Int):=by rw [h3]
 rw [yi_,Int.natCast_add,yi_] at h4
 omega
theorem pr_of {p:Nat} (h:isP p=true):Pr (p:Int):=by
 have h2:=qB3 h
 refine ⟨fun hd=>?_,fun a ha=>?_⟩
 ·have:=Int.le_of_dvd (by decide) hd;omega
 ·have hm:a % (p:Int)≠0:=fun he=>ha (Int.dvd_of_emod_eq_zero he)
  have h3:=Int.emod_nonneg a (b:=(p:Int)) oM_
  have h4:=Int.emod_lt_of_pos a (b:=(p:Int)) oM_
  obtain ⟨n,hn⟩:=Int.eq_ofNat_of_zero_le h3
  have h5:=qMr (a:=n) h oM_ oM_
  refine ⟨((n ^ (p - 2) % p:Nat):Int),?_⟩
  have h6:(p:Int) ∣ a - (n:Int):=by rw [← hn];exact Int.dvd_self_sub_emod
  have h7:=yq_ (show (p:Int) ∣ (a - (n:Int)) * ((n ^ (p - 2) % p:Nat):Int) from Int.dvd_mul_of_dvd_left h6) h5
  rwa [show (a - (n:Int)) * ((n ^ (p - 2) % p:Nat):Int)+((n:Int) * ((n ^ (p - 2) % p:Nat):Int) - 1)=a * ((n ^ (p - 2) % p:Nat):Int) - 1 by grind] at h7
structure El (p:Int) (n m:Nat) (R0:Nat→Vec) (c r:Nat) (R:Nat→Vec) (q:Nat→Nat):Prop where
 g:GInv p n m c r R q
 sp:∀ v,Span p n (rows R m) v↔Span p n (rows R0 m) v
 ge:∀ i j,i<m→j<n→0≤R i j
 lt:∀ i j,i<m→j<n→R i j<p
theorem El.start {p:Int} {n m:Nat} {R:Nat→Vec} (h0:∀ i j,i<m→j<n→0≤R i j) (h1:∀ i j,i<m→j<n→R i j<p) (q:Nat→Nat):El p n m R 0 0 R q :=
 ⟨GInv.start p n m R q,fun _=>Iff.rfl,h0,h1⟩
theorem El.none {p:Int} {n m c r:Nat} {R0 R:Nat→Vec} {q:Nat→Nat} (h:El p n m R0 c r R q) (hz:∀ i,r≤i→i<m→R i c=0):El p n m R0 (c+1) r R q :=
 ⟨h.g.none fun i h1 h2=>by rw [hz i h1 h2];exact yn_ p,h.sp,h.ge,h.lt⟩
theorem El.congr {p:Int} {n m c r:Nat} {R0 R R1:Nat→Vec} {q:Nat→Nat} (h:El p n m R0 c r R q) (hc:c≤n) (e:∀ i j,i<m→j<n→R1 i j=R i j):El p n m R0 c r R1 q:=by
 have hr:=h.g.rm
 refine ⟨⟨h.g.rm,h.g.lt,h.g.mono,fun i hi=>?_,fun i j hi hj hne=>?_,fun i k hi hk=>?_,fun i k h1 h2 h3=>?_⟩,fun v=>?_,fun i j hi hj=>by rw [e i j hi hj];exact h.ge i j hi hj,fun i j hi hj=>by rw [e i j hi hj];exact h.lt i j hi hj⟩
 ·have:=h.g.lt i hi
  rw [e i _ oM_ oM_];exact h.g.one i hi
 ·have:=h.g.lt i hi
  rw [e j _ hj oM_];exact h.g.off i j hi hj hne
 ·have:=h.g.lt i hi
  rw [e i _ oM_ oM_];exact h.g.pre i k hi hk
 ·rw [e i _ h2 oM_];exact h.g.low i k h1 h2 h3
 ·rw [← h.sp v]
  exact qIt (fun i hi=>⟨i,hi,fun j hj=>by rw [e i j hi hj,Int.sub_self];exact yn_ p⟩) (fun i hi=>⟨i,hi,fun j hj=>by rw [e i j hi hj,Int.sub_self];exact yn_ p⟩) v
theorem El.swap {p:Int} {n m c r:Nat} {R0 R R1:Nat→Vec} {q:Nat→Nat} (h:El p n m R0 c r R q) {a:Nat} (ha:r≤a) (ham:a<m) (e1:∀ j,R1 r j=R a j) (e2:∀ j,R1 a j=R r j) (e3:∀ i j,i<m→i≠r→i≠a→R1 i j=R i j):El p n m R0 c r R1 q:=by
 have e:∀ i,i<m→∃ k,k<m∧∀ j,R1 i j=R k j:=fun i hi=>by
  by_cases h1:i=r
  ·subst h1;exact ⟨a,ham,e1⟩
  ·by_cases h2:i=a
   ·subst h2;exact ⟨r,by omega,e2⟩
   ·exact ⟨i,hi,fun j=>e3 i j hi h1 h2⟩
 have e':∀ i,i<m→∃ k,k<m∧∀ j,R i j=R1 k j:=fun i hi=>by
  by_cases h1:i=r
  ·subst h1;exact ⟨a,ham,fun j=>(e2 j).symm⟩
  ·by_cases h2:i=a
   ·subst h2;exact ⟨r,by omega,fun j=>(e1 j).symm⟩
   ·exact ⟨i,hi,fun j=>(e3 i j hi h1 h2).symm⟩
 refine ⟨h.g.swap ha ham e1 e2 e3,fun v=>?_,fun i j hi hj=>?_,fun i j hi hj=>?_⟩
 ·rw [← h.sp v]
  refine qIt (fun i hi=>?_) (fun i hi=>?_) v
  ·obtain ⟨k,hk,he⟩:=e i hi
   exact ⟨k,hk,fun j _=>by rw [he j,Int.sub_self];exact yn_ p⟩
  ·obtain ⟨k,hk,he⟩:=e' i hi
   exact ⟨k,hk,fun j _=>by rw [he j,Int.sub_self];exact yn_ p⟩
 ·obtain ⟨k,hk,he⟩:=e i hi
  rw [he];exact h.ge k j hk hj
 ·obtain ⟨k,hk,he⟩:=e i hi
  rw [he];exact h.lt k j hk hj
theorem El.step {p:Int} {n m c r:Nat} {R0 R R':Nat→Vec} {q q':Nat→Nat} (h:El p n m R0 c r R q) (hc:c<n) (hrm:r<m) {b:Int} (hb:p ∣ R r c * b - 1)
  (e1:∀ j,j<n→p ∣ R' r j - b * R r j) (e2:∀ i j,i<m→i≠r→j<n→p ∣ R' i j - (R i j - R i c * R' r j)) (hq:∀ i,i<r→q' i=q i) (hqr:q' r=c)
  (h0:∀ i j,i<m→j<n→0≤R' i j) (h1:∀ i j,i<m→j<n→R' i j<p):El p n m R0 (c+1) (r+1) R' q' :=
 ⟨h.g.step hrm hb (fun j hj=>e1 j oM_) (fun i j hi hne hj=>e2 i j hi hne oM_) hq hqr,fun v=>by rw [← h.sp v];exact qLv hrm (fun i=>R i c) hb e1 e2 v,h0,h1⟩
theorem El.same {p:Int} {n m m' r r':Nat} {R0 R R0' R':Nat→Vec} {q q':Nat→Nat} (hp:Pr p) (h:El p n m R0 n r R q) (h':El p n m' R0' n r' R' q')
  (hs:∀ v,Span p n (rows R0 m) v↔Span p n (rows R0' m') v):r=r'∧∀ i,i<r→q i=q' i∧∀ j,j<n→R i j=R' i j:=by
 have hs2:∀ v,Span p n (rows R r) v↔Span p n (rows R' r') v:=fun v=>by rw [← h.g.span v,← h'.g.span v,h.sp v,h'.sp v,hs v]
 obtain ⟨e1,e2⟩:=h.g.rref.unique hp h'.g.rref hs2
 refine ⟨e1,fun i hi=>⟨(e2 i hi).1,fun j hj=>?_⟩⟩
 have hd:=(e2 i hi).2 j hj
 have hr:=h.g.rm
 have hr':=h'.g.rm
 have a1:=h.ge i j oM_ hj
 have a2:=h.lt i j oM_ hj
 have b1:=h'.ge i j oM_ hj
 have b2:=h'.lt i j oM_ hj
 obtain ⟨k,hk⟩:=hd
 have hp0:0<p:=by omega
 have:k=0:=by
  rcases Int.lt_trichotomy k 0 with hl | h0 | hg
  ·have:=Int.mul_le_mul_of_nonneg_left (show k≤-1 by omega) (Int.le_of_lt hp0);omega
  ·exact h0
  ·have:=Int.mul_le_mul_of_nonneg_left (show 1≤k by omega) (Int.le_of_lt hp0);omega
 rw [this] at hk;omega
theorem El.span {p:Int} {n m r:Nat} {R0 R:Nat→Vec} {q:Nat→Nat} (h:El p n m R0 n r R q) (v:Vec):Span p n (rows R r) v↔Span p n (rows R0 m) v:=by rw [← h.g.span v,h.sp v]
theorem El.dim {p:Int} {n m r:Nat} {R0 R:Nat→Vec} {q:Nat→Nat} (hp:Pr p) (h:El p n m R0 n r R q):dim p n (Span p n (rows R0 m))=r:=by
 rw [← h.g.rref.indep hp];exact qGq fun v=>(h.span v).symm
def vec (l:List Int):Vec:=fun j=>l.getD j 0
def rw' (L:List (List Int)):Nat→Vec:=fun i=>vec (L.getD i [])
theorem qCv (L:List (List Int)):rows (rw' L) L.length=L.map vec:=by
 unfold rows rw'
 refine List.ext_getElem (by simp) fun i h1 h2=>?_
 have hi:i<L.length:=by simpa using h1
 simp [ya_,yb_ hi]
def Vs (p:Int) (n:Nat) (L:List (List Int)):Prop:=∀ x,x∈L→x.length=n∧∀ y,y∈x→0≤y∧y<p
theorem qEj {p:Int} {n:Nat} {L:List (List Int)} (h:Vs p n L) {i j:Nat} (hi:i<L.length) (hj:j<n):0≤rw' L i j∧rw' L i j<p:=by
 have hm:L.getD i []∈L:=by rw [ya_,yb_ hi,Option.getD_some];exact List.getElem_mem hi
 obtain ⟨h1,h2⟩:=h _ hm
 unfold rw' vec
 have hjl:j<(L.getD i []).length:=by omega
 rw [ya_ (l:=L.getD i []),yb_ hjl,Option.getD_some]
 exact h2 _ (List.getElem_mem hjl)
theorem qO0 {L M:List (List Int)} {p:Int} {n:Nat} (hL:Vs p n L) (hM:Vs p n M) (hl:L.length=M.length) (h:∀ i,i<L.length→∀ j,j<n→rw' L i j=rw' M i j):L=M:=by
 refine List.ext_getElem hl fun i h1 h2=>?_
 have e1:=(hL _ (List.getElem_mem h1)).1
 have e2:=(hM _ (List.getElem_mem h2)).1
 refine List.ext_getElem oM_ fun j h3 h4=>?_
 have:=h i h1 j oM_
 unfold rw' vec at this
 simpa [ya_,yb_ h1,yb_ h2,yb_ h3,yb_ h4] using this
structure Red (p:Int) (n:Nat) (L B:List (List Int)) (q:List Int):Prop where
 vs:Vs p n B
 len:q.length=B.length
 rref:Rref p n B.length (rw' B) (fun i=>(q.getD i 0).toNat)
 span:∀ v,Span p n (B.map vec) v↔Span p n (L.map vec) v
 pos:∀ x,x∈q→0≤x
theorem Red.unique {p:Int} {n:Nat} {L L' B B':List (List Int)} {q q':List Int} (hp:Pr p) (h:Red p n L B q) (h':Red p n L' B' q') (hs:∀ v,Span p n (L.map vec) v↔Span p n (L'.map vec) v):B=B'∧q=q':=by
 have hp0:0<p∨p≤0:=by omega
 obtain ⟨e1,e2⟩:=h.rref.unique hp h'.rref (fun v=>by rw [qCv,qCv,h.span v,h'.span v,hs v])
 have hB:B=B':=qO0 h.vs h'.vs e1 fun i hi j hj=>by
  have hd:=(e2 i hi).2 j hj
  have a:=qEj h.vs hi hj
  have b:=qEj h'.vs (i:=i) oM_ hj
  obtain ⟨k,hk⟩:=hd
  have hp0:0<p:=by omega
  have:k=0:=by
   rcases Int.lt_trichotomy k 0 with hl | h0 | hg
   ·have:=Int.mul_le_mul_of_nonneg_left (show k≤-1 by omega) (Int.le_of_lt hp0);omega
   ·exact h0
   ·have:=Int.mul_le_mul_of_nonneg_left (show 1≤k by omega) (Int.le_of_lt hp0);omega
  rw [this] at hk;omega
 refine ⟨hB,List.ext_getElem (by rw [h.len,h'.len,e1]) fun i h1 h2=>?_⟩
 have h3:=(e2 i (by rw [← h.len];exact h1)).1
 have p1:=h.pos _ (List.getElem_mem h1)
 have p2:=h'.pos _ (List.getElem_mem h2)
 simp only [ya_,yb_ h1,yb_ h2,Option.getD_some] at h3
 omega
theorem Red.of {p:Int} {n:Nat} {L M:List (List Int)} {r:Nat} {q:List Int} (hl:M.length=L.length) (hv:Vs p n M) (hq:q.length=r) (hpos:∀ x,x∈q→0≤x)
  (h:El p n L.length (rw' L) n r (rw' M) (fun i=>(q.getD i 0).toNat)):Red p n L (M.take r) q:=by
 have hr:=h.g.rm
 have hlen:(M.take r).length=r:=by rw [List.length_take];omega
 have e:∀ i,i<r→rw' (M.take r) i=rw' M i:=fun i hi=>by
  unfold rw'
  rw [ya_,ya_,List.getElem?_take_of_lt hi]
 have hrr:=h.g.rref
 refine ⟨fun x hx=>hv x (List.mem_of_mem_take hx),by omega,?_,fun v=>?_,hpos⟩
 ·rw [hlen]
  exact ⟨hrr.lt,hrr.mono,fun i hi=>by rw [e i hi];exact hrr.one i hi,fun i j hi hj hne=>by rw [e i hi];exact hrr.off i j hi hj hne,fun i c hi hc=>by rw [e i hi];exact hrr.pre i c hi hc⟩
 ·rw [← qCv L,← h.span v,← qCv,hlen]
  have:rows (rw' (M.take r)) r=rows (rw' M) r:=List.map_congr_left fun i hi=>e i (yc_.1 hi)
  rw [this]
def fl (w:Nat) (X:List Int):Nat→Vec:=fun i j=>X.getD (i * w+j) 0
theorem qE2 {w i j m:Nat} (hi:i<m) (hj:j<w):i * w+j<m * w:=by
 have:=Nat.mul_le_mul_right w (show i+1≤m by omega)
 rw [Nat.add_mul,Nat.one_mul] at this;omega
theorem qO5 {w i j i' j':Nat} (hj:j<w) (hj':j'<w) (h:i * w+j=i' * w+j'):i=i'∧j=j':=by
 rcases Nat.lt_trichotomy i i' with hl | he | hg
 ·have:=qE2 hl hj;omega
 ·subst he;omega
 ·have:=qE2 hg hj';omega
theorem qD0 (X:List Int) (a b:Nat) (x:Int) (ha:a<X.length):(X.set a x).getD b 0=if b=a then x else X.getD b 0:=by
 rw [ya_,List.getElem?_set,ya_]
 by_cases h:b=a
 ·subst h;simp [ha]
 ·rw [if_neg (Ne.symm h),if_neg h]
theorem qKl {w:Nat} (X:List Int) {i j i' j':Nat} (x:Int) (hj:j<w) (hj':j'<w) (ha:i * w+j<X.length):fl w (X.set (i * w+j) x) i' j'=if i'=i∧j'=j then x else fl w X i' j':=by
 unfold fl
 rw [qD0 _ _ _ _ ha]
 by_cases h:i'=i∧j'=j
 ·rw [if_pos h,if_pos (by rw [h.1,h.2])]
 ·rw [if_neg h,if_neg (fun he=>h (qO5 hj' hj he))]
structure Upd (w:Nat) (X:List Int) (i0:Nat) (g:Nat→Int) (t:Nat) (Y:List Int):Prop where
 len:Y.length=X.length
 at_:∀ i j,j<w→fl w Y i j=if i=i0∧j<t then g j else fl w X i j
theorem Upd.start (w:Nat) (X:List Int) (i0:Nat) (g:Nat→Int):Upd w X i0 g 0 X:=⟨rfl,fun i j _=>by rw [if_neg oM_]⟩
theorem Upd.next {w:Nat} {X:List Int} {i0:Nat} {g:Nat→Int} {t:Nat} {Y:List Int} (h:Upd w X i0 g t Y) (ht:t<w) (hi:i0 * w+t<X.length) {x:Int} (hx:x=g t):Upd w X i0 g (t+1) (Y.set (i0 * w+t) x):=by
 refine ⟨by rw [ym_,h.len],fun i j hj=>?_⟩
 rw [qKl Y x ht hj (by rw [h.len];exact hi),h.at_ i j hj]
 by_cases h1:i=i0∧j=t
 ·rw [if_pos h1,if_pos oM_,hx,h1.2]
 ·rw [if_neg h1]
  by_cases h2:i=i0∧j<t
  ·rw [if_pos h2,if_pos oM_]
  ·rw [if_neg h2,if_neg oM_]
structure Swp (w:Nat) (X:List Int) (a b:Nat) (t:Nat) (Y:List Int):Prop where
 len:Y.length=X.length
 at_:∀ i j,j<w→fl w Y i j=if j<t then (if i=a then fl w X b j else if i=b then fl w X a j else fl w X i j) else fl w X i j
theorem Swp.start (w:Nat) (X:List Int) (a b:Nat):Swp w X a b 0 X:=⟨rfl,fun i j _=>by rw [if_neg oM_]⟩
theorem Swp.next {w:Nat} {X:List Int} {a b:Nat} {t:Nat} {Y:List Int} (h:Swp w X a b t Y) (hab:a≠b) (ht:t<w) (ha:a * w+t<X.length) (hb:b * w+t<X.length) :
  Swp w X a b (t+1) ((Y.set (b * w+t) (fl w Y a t)).set (a * w+t) (fl w Y b t)):=by
 refine ⟨by rw [ym_,ym_,h.len],fun i j hj=>?_⟩
 rw [qKl _ _ ht hj (by rw [ym_,h.len];exact ha),qKl _ _ ht hj (by rw [h.len];exact hb),h.at_ i j hj,h.at_ a t ht,h.at_ b t ht]
 rw [if_neg (Nat.lt_irrefl t),if_neg (Nat.lt_irrefl t)]
 rcases Nat.lt_trichotomy j t with hl | he | hg
 ·rw [if_neg (fun hh=>by omega),if_neg (fun hh=>by omega),if_pos hl,if_pos (show j<t+1 by omega)]
 ·subst he
  rw [if_neg (Nat.lt_irrefl j),if_pos (Nat.lt_succ_self j)]
  by_cases h1:i=a
  ·rw [if_pos ⟨h1,rfl⟩,if_pos h1]
  ·rw [if_neg (fun hh=>h1 hh.1),if_neg h1]
   by_cases h2:i=b
   ·rw [if_pos ⟨h2,rfl⟩,if_pos h2]
   ·rw [if_neg (fun hh=>h2 hh.1),if_neg h2]
 ·rw [if_neg (fun hh=>by omega),if_neg (fun hh=>by omega),if_neg (show ¬ j<t by omega),if_neg (show ¬ j<t+1 by omega)]
def unfl (w m:Nat) (X:List Int):List (List Int):=(List.range m).map fun i=>(X.drop (i * w)).take w
theorem qDv (w m:Nat) (X:List Int):(unfl w m X).length=m:=by simp [unfl]
theorem qNi {w m:Nat} (X:List Int) {i j:Nat} (hi:i<m) (hj:j<w):rw' (unfl w m X) i j=fl w X i j:=by
 unfold rw' vec unfl fl
 have h1:((List.range m).map fun i=>(X.drop (i * w)).take w).getD i []=(X.drop (i * w)).take w:=by
  rw [ya_,List.getElem?_map,List.getElem?_range hi];rfl
 rw [h1,ya_,List.getElem?_take_of_lt hj,List.getElem?_drop,← ya_]
theorem qOm {p:Int} {w m:Nat} {X:List Int} (hl:X.length=m * w) (h:∀ i j,i<m→j<w→0≤fl w X i j∧fl w X i j<p):Vs p w (unfl w m X):=by
 intro x hx
 obtain ⟨i,hi,rfl⟩:=ys_.1 hx
 have him:=yc_.1 hi
 have h2:=Nat.mul_le_mul_right w (show i+1≤m by omega)
 rw [Nat.add_mul,Nat.one_mul] at h2
 refine ⟨by rw [List.length_take,List.length_drop];omega,fun y hy=>?_⟩
 obtain ⟨j,hj,rfl⟩:=List.getElem_of_mem hy
 have hjw:j<w:=by rw [List.length_take] at hj;omega
 have h3:=h i j him hjw
 unfold fl at h3
 rw [List.getElem_take,List.getElem_drop]
 rwa [ya_,yb_ oM_,Option.getD_some] at h3
theorem qLt {w m r:Nat} (X:List Int) (h:r≤m):(unfl w m X).take r=unfl w r X:=by
 unfold unfl
 rw [← List.map_take,List.take_range,Nat.min_eq_left h]
structure FlInv (p:Int) (w m:Nat) (L:List (List Int)) (c:Nat) (X:List Int) (q:List Int):Prop where
 len:X.length=m * w
 pos:∀ x,x∈q→0≤x
 el:El p w m (rw' L) c q.length (fl w X) (fun i=>(q.getD i 0).toNat)
theorem FlInv.red {p:Int} {w:Nat} {L:List (List Int)} {X:List Int} {q:List Int} (h:FlInv p w L.length L w X q):Red p w L (unfl w q.length X) q:=by
 have hr:=h.el.g.rm
 rw [← qLt X hr]
 refine Red.of (qDv _ _ _) (qOm h.len fun i j hi hj=>⟨h.el.ge i j hi hj,h.el.lt i j hi hj⟩) rfl h.pos (h.el.congr (Nat.le_refl _) fun i j hi hj=>qNi X hi hj)
theorem in_rng {p a:Int} (h0:0≤a) (h1:a<p) (hd:p ∣ a):a=0:=by
 have:=Int.emod_eq_of_lt h0 h1
 rw [Int.emod_eq_zero_of_dvd hd] at this;omega
theorem qOb {p a b:Int} (h0:0≤a) (h1:a<p) (g0:0≤b) (g1:b<p) (hd:p ∣ a - b):a=b:=by
 have e1:=Int.emod_eq_of_lt h0 h1
 have e2:=Int.emod_eq_of_lt g0 g1
 have:=Int.emod_emod_of_dvd a (Int.dvd_refl p)
 have:=(Int.emod_eq_emod_iff_emod_sub_eq_zero).2 (Int.emod_eq_zero_of_dvd hd)
 omega
theorem Red.place {p:Int} {n:Nat} {L B:List (List Int)} {q:List Int} (h:Red p n L B q) (hp:1<p) {i:Nat} (hi:i<B.length) :
  (q.getD i 0).toNat<n∧(B.getD i []).getD (q.getD i 0).toNat 0=1∧∀ j,j<(q.getD i 0).toNat→(B.getD i []).getD j 0=0:=by
 have h1:=h.rref.lt i hi
 refine ⟨h1,?_,fun j hj=>?_⟩
 ·have a:=qEj h.vs hi h1
  exact qOb a.1 a.2 oM_ hp (h.rref.one i hi)
 ·have a:=qEj h.vs hi (j:=j) oM_
  exact in_rng a.1 a.2 (h.rref.pre i j hi hj)
theorem Red.dim {p:Int} {n:Nat} {L B:List (List Int)} {q:List Int} (hp:Pr p) (h:Red p n L B q):LinT.dim p n (Span p n (L.map vec))=B.length:=by
 rw [← h.rref.indep hp,qCv]
 exact qGq fun v=>(h.span v).symm
end Go.Proofs.YtpgjfppbbbnclaaGreat.B.LinT
namespace Go.Proofs.YtpgjfppbbbnclaaGreat.B
open Go.RowKit Go.Proofs.YtpgjfppbbbnclaaGreatW.PrintWords
open LinT
theorem qC8 {a:Int} {p:Nat} (h:0≤a):Int.tmod a (p:Int)=a % (p:Int):=Int.tmod_eq_emod_of_nonneg h
theorem qLd (p:Nat) (hp:2≤p) (hp2:p≤251):∀ (e x0 x7:Nat),e≤1000→x0<p→x7<p→Ev (fun k=>z129.l0 k (x0:Int) (e:Int) (p:Int) (x7:Int)) ((x7 * x0 ^ e % p:Nat):Int):=by
 intro e
 induction e using Nat.strongRecOn with
 | _ e ih =>
  intro x0 x7 he h0 h7
  refine Ev.step (fun k=>z129.l0.eq_2 ..) ?_
  rcases Nat.eq_zero_or_pos e with h | h
  ·subst h
   refine qAr oM_ (qBp (Ev.now _) ?_)
   rw [Nat.pow_zero,Nat.mul_one,Nat.mod_eq_of_lt h7]
  ·have hb:x0 * x0≤250 * 250:=yj_ oM_ oM_
   have hb2:x7 * x0≤250 * 250:=yj_ oM_ oM_
   have e1:Int.tmod (wrap64 ((x0:Int) * (x0:Int))) (p:Int)=((x0 * x0 % p:Nat):Int):=by
    rw [← yi_,qAs oM_ oM_,qC8 oM_];simp
   have e2:wrap64 (Int.tdiv (e:Int) 2)=((e / 2:Nat):Int):=by
    have:Int.tdiv (e:Int) 2=((e / 2:Nat):Int):=by rw [Int.tdiv_eq_ediv_of_nonneg oM_];simp
    rw [this,qAs oM_ oM_]
   have e3:Int.tmod (e:Int) 2=((e % 2:Nat):Int):=by rw [Int.tmod_eq_emod_of_nonneg oM_];simp
   have e4:Int.tmod (wrap64 ((x7:Int) * (x0:Int))) (p:Int)=((x7 * x0 % p:Nat):Int):=by
    rw [← yi_,qAs oM_ oM_,qC8 oM_];simp
   have hpow:x0 ^ e=(x0 * x0) ^ (e / 2) * x0 ^ (e % 2):=by
    rw [← Nat.pow_two,← Nat.pow_mul,← Nat.pow_add,Nat.div_add_mod]
   have hm:∀ y,y % p * (x0 * x0 % p) ^ (e / 2) % p=y * (x0 * x0) ^ (e / 2) % p:=fun y=>by
    rw [Nat.mul_mod,Nat.pow_mod,Nat.mod_mod,Nat.mod_mod,← Nat.pow_mod,← Nat.mul_mod]
   refine qAc oM_ ?_
   rw [e1,e2,e3,e4]
   have hp0:0<p:=by omega
   rcases Nat.mod_two_eq_zero_or_one e with h2 | h2
   ·refine qAr (by rw [h2];decide) (qAr oM_ ?_)
    refine qBp (ih (e / 2) oM_ (x0 * x0 % p) x7 oM_ (Nat.mod_lt _ hp0) h7) ?_
    have:=hm x7
    rw [Nat.mod_eq_of_lt h7] at this
    rw [this,hpow,h2,Nat.pow_zero,Nat.mul_one]
   ·refine qAc (by rw [h2];decide) (qAr oM_ ?_)
    refine qBp (ih (e / 2) oM_ (x0 * x0 % p) (x7 * x0 % p) oM_ (Nat.mod_lt _ hp0) (Nat.mod_lt _ hp0)) ?_
    rw [hm,hpow,h2,Nat.pow_one,Nat.mul_assoc,Nat.mul_comm x0]
theorem qLj {p a:Nat} (hp:isP p=true) (ha:a<p):Ev (fun k=>z118.f k (a:Int) (p:Int)) ((a ^ (p - 2) % p:Nat):Int):=by
 have h2:=qB3 hp
 unfold z118.f z129.f
 have e:wrap64 ((p:Int) - 2)=((p - 2:Nat):Int):=by rw [qAs oM_ oM_];omega
 rw [e]
 have h:=qLd p h2.1 h2.2 (p - 2) a 1 oM_ ha oM_
 rw [Nat.one_mul] at h
 exact Ev.bind h (Ev.now _)
def addT (p:Nat) (x y:List Int) (c:Int):List Int:=(List.range x.length).map fun j=>(x.getD j 0+c * y.getD j 0) % (p:Int)
def Rng (p:Nat) (x:List Int):Prop:=∀ y,y∈x→0≤y∧y<(p:Int)
theorem qCw {p:Nat} {x:List Int} (h:Rng p x) {j:Nat} (hj:j<x.length):0≤x.getD j 0∧x.getD j 0<(p:Int):=h _ (qA3 0 hj)
theorem qK3 (p:Nat) (x y:List Int) (c:Int):(addT p x y c).length=x.length:=by simp [addT]
theorem qK4 {p:Nat} {x y:List Int} {c:Int} {j:Nat} (hj:j<x.length):(addT p x y c).getD j 0=(x.getD j 0+c * y.getD j 0) % (p:Int):=by
 unfold addT
 rw [ya_,List.getElem?_map,List.getElem?_range hj];rfl
theorem qK2 {p:Nat} (hp:0<p) (x y:List Int) (c:Int):Rng p (addT p x y c):=by
 intro z hz
 obtain ⟨j,_,rfl⟩:=ys_.1 hz
 exact ⟨Int.emod_nonneg _ oM_,Int.emod_lt_of_pos _ oM_⟩
theorem qGu {p:Nat} (hp0:0<p) (hp:p≤251) (x y:List Int) (c:Int) (hx:Rng p x) (hy:Rng p y) (hl:x.length≤y.length) (hm:x.length≤1048576) (hc0:0≤c) (hc:c≤251) :
  Ev (fun k=>z55.f k x y c (p:Int)) (addT p x y c):=by
 unfold z55.f
 refine qHk (fun s i k=>z55.l0 k x y c (p:Int) s (x.length:Int) (i:Int)) (fun j=>(x.getD j 0+c * y.getD j 0) % (p:Int)) x.length (fun j s hj hs r hr=>?_) _ ?_
 ·have hsl:s.length=j:=by rw [hs];simp
  have a:=qCw hx hj
  have b:=qCw hy (j:=j) oM_
  have hcb:0≤c * y.getD j 0:=Int.mul_nonneg hc0 b.1
  have hcb2:c * y.getD j 0≤251 * 251:=Int.mul_le_mul hc oM_ b.1 (by decide)
  refine Ev.step (fun k=>z55.l0.eq_2 ..) ?_
  (repeat (first | refine qAc oM_ ?_ | refine qAr oM_ ?_))
  rw [qAw oM_,qA4,qA4,qAs (x:=c * y.getD j 0) oM_ oM_,qAs oM_ oM_,qC8 oM_]
  exact hr
 ·refine Ev.step (fun k=>z55.l0.eq_2 ..) ?_
  exact qAr oM_ (Ev.now _)
end Go.Proofs.YtpgjfppbbbnclaaGreat.B
namespace Go.Proofs.YtpgjfppbbbnclaaGreat.B
open Go.RowKit Go.Proofs.YtpgjfppbbbnclaaGreatW.PrintWords
open LinT
theorem qL5 (p:Int) {m n:Nat} {X:List Int} (hl:X.length=m * n) (hm:m≤1024) (hn:n≤1024) {i:Nat} (hi:i<m):impl_Matrix_row.f p (m:Int) (n:Int) X (i:Int)=some ((X.drop (i * n)).take n):=by
 have hb:m * n≤1024 * 1024:=yj_ hm hn
 have h2:=Nat.mul_le_mul_right n (show i+1≤m by omega)
 have h1:(i+1) * n=i * n+n:=by rw [Nat.add_mul,Nat.one_mul]
 unfold impl_Matrix_row.f
 have e1:wrap64 ((i:Int) * (n:Int))=((i * n:Nat):Int):=by rw [← yi_,qAs oM_ oM_]
 have e2:wrap64 (wrap64 ((i:Int)+1) * (n:Int))=((i * n+n:Nat):Int):=by
  rw [qAw oM_,← yi_,h1,qAs oM_ oM_]
 rw [e1,e2,if_pos oM_,yd_,yd_,List.drop_take]
 rw [show i * n+n - i * n=n by omega]
theorem qKd {n:Nat} (X:List Int) (i:Nat) {j:Nat} (hj:j<n):((X.drop (i * n)).take n).getD j 0=fl n X i j:=by
 unfold fl
 rw [ya_,List.getElem?_take_of_lt hj,List.getElem?_drop,← ya_]
theorem qEu {m n:Nat} {X:List Int} (hl:X.length=m * n) {i:Nat} (hi:i<m):((X.drop (i * n)).take n).length=n:=by
 have h2:=Nat.mul_le_mul_right n (show i+1≤m by omega)
 rw [Nat.add_mul,Nat.one_mul] at h2
 rw [List.length_take,List.length_drop];omega
end Go.Proofs.YtpgjfppbbbnclaaGreat.B
namespace Go.Proofs.YtpgjfppbbbnclaaGreat.B
open Go.RowKit Go.Proofs.YtpgjfppbbbnclaaGreatW.PrintWords
open LinT
theorem qOl (p:Int) (m n:Nat) (hm:m≤1048576) (hn:n≤1048576):Ev (fun k=>z67.f k p (m:Int) (n:Int)) (p,(m:Int),(n:Int),List.replicate (m * n) 0):=by
 unfold z67.f z158.f
 have hin:∀ (i t:Nat),t≤1048576 * 1048576→Le (fun k=>z158.l0 k (n:Int) (m:Int) (wrap64 ((i:Int)+1)) p (m:Int) (n:Int) (List.replicate (t+n) 0)) (fun k=>z158.l1 k (n:Int) (i:Int) (m:Int) (i:Int) (n:Int) 0 p (m:Int) (n:Int) (List.replicate t 0)):=by
  intro i t ht
  have main:∀ (d j:Nat),j+d=n→Le (fun k=>z158.l0 k (n:Int) (m:Int) (wrap64 ((i:Int)+1)) p (m:Int) (n:Int) (List.replicate (t+n) 0)) (fun k=>z158.l1 k (n:Int) (i:Int) (m:Int) (i:Int) (n:Int) (j:Int) p (m:Int) (n:Int) (List.replicate (t+j) 0)):=by
   intro d
   induction d with
   | zero =>
    intro j hj r hr
    have:j=n:=by omega
    subst this
    refine Ev.step (fun k=>z158.l1.eq_2 ..) ?_
    exact qAr oM_ hr
   | succ d ih =>
    intro j hj r hr
    have:=ih (j+1) oM_ r hr
    refine Ev.step (fun k=>z158.l1.eq_2 ..) ?_
    refine qAc oM_ (Ev.bind (qA1 (r:=(0:Int)) rfl) (qAc (by rw [yk_];omega) ?_))
    rw [qAw oM_]
    have e:List.replicate (t+j) (0:Int) ++ [0]=List.replicate (t+(j+1)) 0:=by rw [show t+(j+1)=t+j+1 by omega,List.replicate_succ']
    rw [e];exact this
  exact main n 0 oM_
 have out:∀ (d i:Nat),i+d=m→Ev (fun k=>z158.l0 k (n:Int) (m:Int) (i:Int) p (m:Int) (n:Int) (List.replicate (i * n) 0)) (p,(m:Int),(n:Int),List.replicate (m * n) 0):=by
  intro d
  induction d with
  | zero =>
   intro i hi
   have:i=m:=by omega
   subst this
   refine Ev.step (fun k=>z158.l0.eq_2 ..) ?_
   exact qAr oM_ (Ev.now _)
  | succ d ih =>
   intro i hi
   have hb:i * n≤1048576 * 1048576:=yj_ oM_ hn
   have h:=ih (i+1) oM_
   rw [Nat.add_mul,Nat.one_mul] at h
   refine Ev.step (fun k=>z158.l0.eq_2 ..) ?_
   refine qAc oM_ (hin i (i * n) hb _ ?_)
   rw [qAw oM_];exact h
 have h:=out m 0 oM_
 rw [Nat.zero_mul] at h
 exact Ev.bind h (Ev.now _)
theorem qLq (p:Int) (m n:Nat) (hm:m≤1024) (hn:n≤1024):z74.f p (m:Int) (n:Int)=some (p,(m:Int),(n:Int),List.replicate (m * n) 0):=by
 have hb:m * n≤1024 * 1024:=yj_ hm hn
 unfold z74.f
 rw [← yi_,qAs oM_ oM_,if_pos oM_,if_pos (by rw [yd_];omega),yd_]
end Go.Proofs.YtpgjfppbbbnclaaGreat.B
namespace Go.Proofs.YtpgjfppbbbnclaaGreat.B
open Go.RowKit Go.Proofs.YtpgjfppbbbnclaaGreatW.PrintWords
theorem qNc {l:List Int} (hl:Byt l) {a:Int} (z:Int) (s:List Int) (hs:0<s.length) (h0:0≤a) (h1:a≤4611686018427387000):∃ (v a' z':Int),z59.f l a z s=some (v,a',z')∧v∈s∧a≤a'∧a'≤a+2:=by
 obtain ⟨v,a',z',e,hv,hv1,hv2,h2,h3⟩:=qDn hl z (s.length:Int) h0 h1
 unfold z59.f
 rw [e]
 have hlt:v<(s.length:Int):=by
  by_cases h:(s.length:Int)≤1
  ·rw [hv1 h];omega
  ·exact hv2 oM_
 show ∃ v' a'' z'',(if 0≤v then (if v<(s.length:Int) then some (rd s v,a',z') else none) else none)=some (v',a'',z'')∧_
 rw [if_pos hv,if_pos hlt]
 refine ⟨_,_,_,rfl,?_,h2,h3⟩
 obtain ⟨i,rfl⟩:=Int.eq_ofNat_of_zero_le hv
 rw [qA4]
 exact qA3 0 oM_
section
variable {l:List Int} (hl:Byt l)
include hl
theorem qJi (a z:Int) (h0:0≤a) (h1:a≤1000):∃ (p a' z':Int),z29.f l a z=some (p,a',z')∧p∈([2,2,3,5,7,31,251]:List Int)∧a≤a'∧a'≤a+2:=by
 obtain ⟨p,a',z',e,hm,h2,h3⟩:=qNc hl z [2,2,3,5,7,31,251] (by decide) h0 oM_
 refine ⟨p,a',z',?_,hm,h2,h3⟩
 unfold z29.f
 rw [e];rfl
end
end Go.Proofs.YtpgjfppbbbnclaaGreat.B
namespace Go.Proofs.YtpgjfppbbbnclaaGreat.B
open Go.RowKit Go.Proofs.YtpgjfppbbbnclaaGreatW.PrintWords
open SimT
section
variable {C:List (List Int)} (hl:C.length≤1048576) (hr:∀ x∈C,x.length≤1048576)
include hl hr
omit hl hr in
theorem qEq (l:List Int):z50.f l=some (l.length:Int):=rfl
omit hl hr in
def qAv (C:List (List Int)) (d:Int):List Int:=filt (fun i=>decide (((C.getD i []).length:Int)=d+1)) C.length
omit hr in
theorem qBm {d:Int} (h0:-1000≤d) (h1:d≤1000):Ev (fun k=>z42.f k C d) (qAv C d):=by
 unfold z42.f
 refine qJ4 (fun (s:List Int) (j:Nat) k=>z42.l0 k d s C (C.length:Int) (j:Int)) (fun i=>decide (((C.getD i []).length:Int)=d+1)) C.length (fun j s hj hs hp r hr'=>?_) (fun j s hj hs hp r hr'=>?_) _ ?_
 ·refine Ev.step (fun k=>z42.l0.eq_2 ..) ?_
  rw [qA6,qAw oM_,qAs (x:=d+1) oM_ oM_]
  exact qAc oM_ (qAc oM_ (qAc oM_ (Ev.bind (qA1 (qEq _)) (qAc (of_decide_eq_true hp) (qAc oM_ hr')))))
 ·refine Ev.step (fun k=>z42.l0.eq_2 ..) ?_
  rw [qA6,qAw oM_,qAs (x:=d+1) oM_ oM_]
  exact qAc oM_ (qAc oM_ (qAc oM_ (Ev.bind (qA1 (qEq _)) (qAr (of_decide_eq_false hp) hr'))))
 ·refine Ev.step (fun k=>z42.l0.eq_2 ..) ?_
  exact qAr oM_ (Ev.now _)
omit hr in
theorem qLx {d:Int} (h0:-1000≤d) (h1:d≤1000):Ev (fun k=>z32.f k C d) (qAv C d):=by
 unfold z32.f
 refine qJ4 (fun (s:List Int) (j:Nat) k=>z32.l0 k d s (j:Int) C) (fun i=>decide (((C.getD i []).length:Int)=d+1)) C.length (fun j s hj hs hp r hr'=>?_) (fun j s hj hs hp r hr'=>?_) _ ?_
 ·refine Ev.step (fun k=>z32.l0.eq_2 ..) ?_
  rw [qA6,qAw oM_,qAs (x:=d+1) oM_ oM_]
  exact qAc oM_ (qAc oM_ (qAc (of_decide_eq_true hp) (qAc oM_ hr')))
 ·refine Ev.step (fun k=>z32.l0.eq_2 ..) ?_
  rw [qA6,qAw oM_,qAs (x:=d+1) oM_ oM_]
  exact qAc oM_ (qAc oM_ (qAr (of_decide_eq_false hp) hr'))
 ·refine Ev.step (fun k=>z32.l0.eq_2 ..) ?_
  exact qAr oM_ (Ev.now _)
omit hl hr in
def qEe (C:List (List Int)) (s:List Int):List Int:=(qBf s).map (idx C)
theorem qG3 (hs:Srt C) {i:Nat} (hi:i<C.length):Ev (fun k=>z68.f k C (i:Int)) (qEe C (C.getD i [])):=by
 unfold z68.f
 have hrow:=hr _ (qA3 ([]:List Int) hi)
 rw [qA6]
 refine qAc oM_ (qAc oM_ (Ev.bind (qHi _ oM_) ?_))
 have hfl:=qDp (C.getD i [])
 have e:qEe C (C.getD i [])=(List.range (qBf (C.getD i [])).length).map fun j=>idx C ((qBf (C.getD i [])).getD j []):=qI8 [] (idx C) _
 rw [e]
 refine qHk (fun (s:List Int) (j:Nat) k=>z68.l0 k s (qBf (C.getD i [])) ((qBf (C.getD i [])).length:Int) (j:Int) C) (fun j=>idx C ((qBf (C.getD i [])).getD j [])) (qBf (C.getD i [])).length (fun j s hj hs' r hr'=>?_) _ ?_
 ·refine Ev.step (fun k=>z68.l0.eq_2 ..) ?_
  have hsl:s.length=j:=by rw [hs'];simp
  have hf:=qJe (qA3 ([]:List Int) hj)
  rw [qA6,qAw oM_]
  exact qAc oM_ (qAc oM_ (qAc oM_ (Ev.bind (qFf C _ oM_ (fun x hx=>by have:=hr x hx;omega) oM_ hs) (qAc oM_ hr'))))
 ·refine Ev.step (fun k=>z68.l0.eq_2 ..) ?_
  exact qAr oM_ (Ev.now _)
end
end Go.Proofs.YtpgjfppbbbnclaaGreat.B
namespace Go.Proofs.YtpgjfppbbbnclaaGreat.B
open Go.RowKit Go.Proofs.YtpgjfppbbbnclaaGreatW.PrintWords
open LinT
def okP (p:Int):Bool:=(decide (2≤p) && decide (p≤251)) && isP p.toNat
theorem qMp {n:Nat} (h0:2≤n) (h1:n≤251):isP n=true↔∀ d,2≤d→d<16→n<d * d∨n % d≠0:=by
 unfold isP
 rw [ye_,ye_,yf_,yf_,yo_]
 constructor
 ·rintro ⟨_,h⟩ d hd hd2
  have:=h d (yc_.2 hd2)
  rw [Bool.or_eq_true,Bool.or_eq_true,yf_,yf_,yf_] at this
  rcases this with (h3 | h3) | h3
  ·omega
  ·exact .inl h3
  ·exact .inr h3
 ·intro h
  refine ⟨⟨h0,h1⟩,fun d hd=>?_⟩
  rw [Bool.or_eq_true,Bool.or_eq_true,yf_,yf_,yf_]
  by_cases h2:d<2
  ·exact .inl (.inl h2)
  ·rcases h d oM_ (yc_.1 hd) with h3 | h3
   ·exact .inl (.inr h3)
   ·exact .inr h3
theorem qD4 {n:Nat} (h0:2≤n) (h1:n≤251):∀ (e d:Nat),d+e=16→2≤d→∃ b,Ev (fun k=>z70.l0 k (n:Int) (d:Int)) b∧(b=true↔∀ d',d≤d'→d'<16→n<d' * d'∨n % d'≠0):=by
 intro e
 induction e with
 | zero =>
  intro d hd h2
  have:d=16:=by omega
  subst this
  refine ⟨true,?_,by simp;omega⟩
  refine Ev.step (fun k=>z70.l0.eq_2 ..) ?_
  rw [← yi_,qAs oM_ oM_]
  exact qAr oM_ (Ev.now _)
 | succ e ih =>
  intro d hd h2
  have hdd:d * d≤16 * 16:=yj_ oM_ oM_
  have hw:wrap64 ((d:Int) * (d:Int))=((d * d:Nat):Int):=by rw [← yi_,qAs oM_ oM_]
  have hm:Int.tmod (n:Int) (d:Int)=((n % d:Nat):Int):=by rw [Int.tmod_eq_emod_of_nonneg oM_];simp
  by_cases hl:n<d * d
  ·refine ⟨true,?_,?_⟩
   ·refine Ev.step (fun k=>z70.l0.eq_2 ..) ?_
    rw [hw]
    exact qAr oM_ (Ev.now _)
   ·simp only [true_iff]
    intro d' h3 _
    have:=yj_ h3 h3
    left;omega
  ·by_cases hz:n % d=0
   ·refine ⟨false,?_,?_⟩
    ·refine Ev.step (fun k=>z70.l0.eq_2 ..) ?_
     rw [hw,hm]
     exact qAc oM_ (qAr oM_ (qAc oM_ (Ev.now _)))
    ·simp only [Bool.false_eq_true,false_iff]
     intro h
     rcases h d (Nat.le_refl _) oM_ with h3 | h3
     ·exact hl h3
     ·exact h3 hz
   ·obtain ⟨b,hb,hi⟩:=ih (d+1) oM_ oM_
    refine ⟨b,?_,hi.trans ⟨fun h d' h3 h4=>?_,fun h d' h3 h4=>h d' oM_ h4⟩⟩
    ·refine Ev.step (fun k=>z70.l0.eq_2 ..) ?_
     rw [hw,hm]
     refine qAc oM_ (qAr oM_ (qAr oM_ ?_))
     rw [qAw oM_];exact hb
    ·rcases Nat.lt_or_ge d d' with h5 | h5
     ·exact h d' oM_ h4
     ·have:d'=d:=by omega
      subst this;exact .inr hz
theorem qEm {n:Nat} (h0:2≤n) (h1:n≤251):∀ (e d:Nat),d+e=16→2≤d→∃ b,Ev (fun k=>z124.l0 k (n:Int) (d:Int)) b∧(b=true↔∀ d',d≤d'→d'<16→n<d' * d'∨n % d'≠0):=by
 intro e
 induction e with
 | zero =>
  intro d hd h2
  have:d=16:=by omega
  subst this
  refine ⟨true,?_,by simp;omega⟩
  refine Ev.step (fun k=>z124.l0.eq_2 ..) ?_
  rw [← yi_,qAs oM_ oM_]
  exact qAr oM_ (Ev.now _)
 | succ e ih =>
  intro d hd h2
  have hdd:d * d≤16 * 16:=yj_ oM_ oM_
  have hw:wrap64 ((d:Int) * (d:Int))=((d * d:Nat):Int):=by rw [← yi_,qAs oM_ oM_]
  have hm:Int.tmod (n:Int) (d:Int)=((n % d:Nat):Int):=by rw [Int.tmod_eq_emod_of_nonneg oM_];simp
  by_cases hl:n<d * d
  ·refine ⟨true,?_,?_⟩
   ·refine Ev.step (fun k=>z124.l0.eq_2 ..) ?_
    rw [hw]
    exact qAr oM_ (Ev.now _)
   ·simp only [true_iff]
    intro d' h3 _
    have:=yj_ h3 h3
    left;omega
  ·by_cases hz:n % d=0
   ·refine ⟨false,?_,?_⟩
    ·refine Ev.step (fun k=>z124.l0.eq_2 ..) ?_
     rw [hw,hm]
     exact qAc oM_ (qAr oM_ (qAc oM_ (Ev.now _)))
    ·simp only [Bool.false_eq_true,false_iff]
     intro h
     rcases h d (Nat.le_refl _) oM_ with h3 | h3
     ·exact hl h3
     ·exact h3 hz
   ·obtain ⟨b,hb,hi⟩:=ih (d+1) oM_ oM_
    refine ⟨b,?_,hi.trans ⟨fun h d' h3 h4=>?_,fun h d' h3 h4=>h d' oM_ h4⟩⟩
    ·refine Ev.step (fun k=>z124.l0.eq_2 ..) ?_
     rw [hw,hm]
     refine qAc oM_ (qAr oM_ (qAr oM_ ?_))
     rw [qAw oM_];exact hb
    ·rcases Nat.lt_or_ge d d' with h5 | h5
     ·exact h d' oM_ h4
     ·have:d'=d:=by omega
      subst this;exact .inr hz
theorem qJc (p:Int):Ev (fun k=>z70.f k p) (okP p):=by
 unfold z70.f okP
 refine Ev.bind (qA1 (qDu _ _ _)) ?_
 cases h:decide (2≤p) && decide (p≤251) with
 | false=>exact qAr (by decide) (Ev.now _)
 | true =>
  rw [ye_,yf_,yf_] at h
  obtain ⟨n,rfl⟩:=Int.eq_ofNat_of_zero_le (show 0≤p by omega)
  obtain ⟨b,hb,hi⟩:=qD4 (n:=n) oM_ oM_ 14 2 oM_ oM_
  refine qAc rfl (qBp hb ?_)
  rw [Bool.true_and,yd_,Bool.eq_iff_iff,qMp oM_ oM_,hi]
theorem qH0 (p:Int):Ev (fun k=>z124.f k p) (okP p):=by
 unfold z124.f okP
 refine Ev.bind (qA1 (qE1 _ _ _)) ?_
 cases h:decide (2≤p) && decide (p≤251) with
 | false=>exact qAr (by decide) (Ev.now _)
 | true =>
  rw [ye_,yf_,yf_] at h
  obtain ⟨n,rfl⟩:=Int.eq_ofNat_of_zero_le (show 0≤p by omega)
  obtain ⟨b,hb,hi⟩:=qEm (n:=n) oM_ oM_ 14 2 oM_ oM_
  refine qAc rfl (qBp hb ?_)
  rw [Bool.true_and,yd_,Bool.eq_iff_iff,qMp oM_ oM_,hi]
theorem qH6 {p:Int}:okP p=true↔∃ n:Nat,p=(n:Int)∧isP n=true:=by
 unfold okP
 rw [ye_,ye_,yf_,yf_]
 constructor
 ·rintro ⟨⟨h0,h1⟩,h⟩
  exact ⟨p.toNat,by omega,h⟩
 ·rintro ⟨n,rfl,h⟩
  have:=qB3 h
  exact ⟨⟨by omega,by omega⟩,by rw [yd_];exact h⟩
end Go.Proofs.YtpgjfppbbbnclaaGreat.B
namespace Go.Proofs.YtpgjfppbbbnclaaGreat.B
open Go.RowKit Go.Proofs.YtpgjfppbbbnclaaGreatW.PrintWords
open LinT
theorem qIr (p:Int):Ev (fun k=>z104.f k p) (okP p):=by
 unfold z104.f
 exact Ev.bind (qH0 p) (Ev.now _)
end Go.Proofs.YtpgjfppbbbnclaaGreat.B
namespace Go.Proofs.YtpgjfppbbbnclaaGreat.B
open Go.RowKit Go.Proofs.YtpgjfppbbbnclaaGreatW.PrintWords
open SimT LinT
def run (a m:Nat):List Int:=(List.range m).map fun j=>((a+j:Nat):Int)
theorem qB2 (a m:Nat):(run a m).length=m:=by simp [run]
theorem qC2 {a m j:Nat} (h:j<m):(run a m).getD j 0=((a+j:Nat):Int):=by
 unfold run
 rw [ya_,List.getElem?_map,List.getElem?_range h];rfl
theorem qNn (a m:Nat):run a (m+1)=run a m ++ [((a+m:Nat):Int)]:=by
 unfold run
 rw [List.range_succ,List.map_append];rfl
theorem qKm {p:Nat→Bool} (h:∀ i j k,i≤j→j≤k→p i=true→p k=true→p j=true):∀ n,∃ a m,filt p n=run a m∧(m=0∨a+m≤n)∧∀ j,j<m→p (a+j)=true
 | 0=>⟨0,0,rfl,.inl rfl,fun j hj=>by omega⟩
 | n+1=>by
  obtain ⟨a,m,h1,h2,h3⟩:=qKm h n
  rw [qDo]
  cases hp:p n with
  | false=>exact ⟨a,m,by simpa using h1,by omega,h3⟩
  | true =>
   rcases Nat.eq_zero_or_pos m with h0 | h0
   ·refine ⟨n,1,?_,by omega,fun j hj=>by rw [show n+j=n by omega];exact hp⟩
    rw [h1,h0];rfl
   ·have hlt:a+m=n:=by
     rcases Nat.lt_or_ge (a+m) n with hl | hg
     ·have hpm:p (a+m)=true:=h a (a+m) n oM_ oM_ (by have:=h3 0 h0;simpa using this) hp
      have hmem:((a+m:Nat):Int)∈filt p n:=qCo.2 ⟨a+m,hl,hpm,rfl⟩
      rw [h1] at hmem
      unfold run at hmem
      obtain ⟨j,hj,he⟩:=ys_.1 hmem
      have:=yc_.1 hj
      omega
     ·omega
    refine ⟨a,m+1,?_,by omega,fun j hj=>?_⟩
    ·rw [h1,qNn,hlt];rfl
    ·rcases Nat.lt_or_ge j m with hl | hg
     ·exact h3 j hl
     ·rw [show a+j=n by omega];exact hp
theorem qLw {C:List (List Int)} (hs:Srt C) {i j:Nat} (hij:i≤j) (hj:j<C.length):(C.getD i []).length≤(C.getD j []).length:=by
 rcases Nat.lt_or_ge i j with hl | hg
 ·have:=(qEd _ _).1 (qEc hs hl hj);omega
 ·have:i=j:=by omega
  rw [this];exact Nat.le_refl _
theorem qCc {C:List (List Int)} (hs:Srt C) (d:Int):∃ a m,qAv C d=run a m∧(m=0∨a+m≤C.length)∧∀ j,j<m→((C.getD (a+j) []).length:Int)=d+1:=by
 have e:qAv C d=filt (fun i=>decide (i<C.length) && decide (((C.getD i []).length:Int)=d+1)) C.length:=qHh _ fun i hi=>by simp [hi]
 obtain ⟨a,m,h1,h2,h3⟩:=qKm (p:=fun i=>decide (i<C.length) && decide (((C.getD i []).length:Int)=d+1)) (fun i j k hij hjk hi hk=>by
  rw [ye_,yf_,yf_] at hi hk ⊢
  have a1:=qLw hs hij oM_
  have a2:=qLw hs hjk hk.1
  exact ⟨by omega,by omega⟩) C.length
 refine ⟨a,m,e.trans h1,h2,fun j hj=>?_⟩
 have:=h3 j hj
 rw [ye_,yf_,yf_] at this
 exact this.2
theorem qKi (l:List Int) (x:Int) (hl:l.length<9223372036854775807):(x ∉ l→Ev (fun k=>z43.f k l x) (-1))∧∀ i,i<l.length→l.getD i 0=x→(∀ j,j<i→l.getD j 0≠x)→Ev (fun k=>z43.f k l x) (i:Int):=by
 unfold z43.f
 have skip:∀ j,j<l.length→l.getD j 0≠x→Le (fun k=>z43.l0 k l x (l.length:Int) ((j+1:Nat):Int)) (fun k=>z43.l0 k l x (l.length:Int) (j:Int)):=fun j hj hne r hr=>by
  refine Ev.step (fun k=>z43.l0.eq_2 ..) ?_
  refine qAc oM_ (qAc oM_ (qAc oM_ (qAr (by rw [qA4];exact fun e=>hne e.symm) ?_)))
  rw [qAw oM_];exact hr
 constructor
 ·intro hx
  have main:∀ (d i:Nat),i+d=l.length→Ev (fun k=>z43.l0 k l x (l.length:Int) (i:Int)) (-1):=by
   intro d
   induction d with
   | zero =>
    intro i hi
    refine Ev.step (fun k=>z43.l0.eq_2 ..) ?_
    exact qAr oM_ (Ev.now _)
   | succ d ih=>exact fun i hi=>skip i oM_ (fun e=>hx (e ▸ qA3 0 oM_)) _ (ih (i+1) oM_)
  exact main l.length 0 oM_
 ·intro i hi he hb
  have main:∀ (d j:Nat),j+d=i→Ev (fun k=>z43.l0 k l x (l.length:Int) (j:Int)) (i:Int):=by
   intro d
   induction d with
   | zero =>
    intro j hj
    have:j=i:=by omega
    subst this
    refine Ev.step (fun k=>z43.l0.eq_2 ..) ?_
    exact qAc oM_ (qAc oM_ (qAc oM_ (qAc (by rw [qA4];exact he.symm) (Ev.now _))))
   | succ d ih=>exact fun j hj=>skip j oM_ (hb j oM_) _ (ih (j+1) oM_)
  exact main i 0 oM_
theorem qJa {a m:Nat} (hm:m<9223372036854775807) {j:Nat} (hj:j<m):Ev (fun k=>z43.f k (run a m) ((a+j:Nat):Int)) (j:Int):=by
 refine (qKi (run a m) _ (by rw [qB2];exact hm)).2 j (by rw [qB2];exact hj) (qC2 hj) (fun i hi=>?_)
 rw [qC2 oM_];omega
def askD (C:List (List Int)) (d p:Int):Int :=
 if (okC C && okP p)=true then (if (decide (0≤d) && decide (d≤3))=true then (if (qAv C (d - 1)).length≤32∧(qAv C d).length≤32∧(qAv C (d+1)).length≤32 then 0 else 5) else 2) else 1
section
variable {C:List (List Int)} (hl:C.length≤1048576) (hr:∀ x∈C,x.length≤1048576)
include hl hr
theorem qFj (d p:Int):Ev (fun k=>z37.f k C d p) (askD C d p):=by
 unfold z37.f askD
 have hj:∀ b,Ev (fun k=>z37.j0 k d (!b) C) (if b=true then (if (decide (0≤d) && decide (d≤3))=true then (if (qAv C (d - 1)).length≤32∧(qAv C d).length≤32∧(qAv C (d+1)).length≤32 then 0 else 5) else 2) else 1):=fun b=>by
  refine Ev.step (fun k=>z37.j0.eq_2 ..) ?_
  cases b with
  | false=>exact qAc rfl (Ev.now _)
  | true =>
   refine qAr (by decide) ?_
   unfold z71.f
   refine Ev.bind (a:=decide (0≤d) && decide (d≤3)) (Ev.bind (qA1 (qDu _ _ _)) (Ev.now _)) ?_
   cases hd:decide (0≤d) && decide (d≤3) with
   | false=>exact qAr (by decide) (Ev.now _)
   | true =>
    rw [ye_,yf_,yf_] at hd
    refine qAc rfl ?_
    have w0:wrap64 (d - 1)=d - 1:=qAs oM_ oM_
    have w1:wrap64 (d+1)=d+1:=qAs oM_ oM_
    rw [w0,if_pos rfl,if_pos rfl]
    refine Ev.step (fun k=>z37.l0.eq_2 ..) ?_
    rw [w1,show wrap64 (d - 1+1)=d by rw [qAs oM_ oM_];omega]
    refine qAc oM_ (Ev.bind (qBm hl oM_ oM_) ?_)
    by_cases h0:(qAv C (d - 1)).length≤32
    ·refine qAr oM_ ?_
     refine Ev.step (fun k=>z37.l0.eq_2 ..) ?_
     rw [w1]
     refine qAc oM_ (Ev.bind (qBm hl oM_ oM_) ?_)
     by_cases h1:(qAv C d).length≤32
     ·refine qAr oM_ ?_
      refine Ev.step (fun k=>z37.l0.eq_2 ..) ?_
      rw [w1]
      refine qAc oM_ (Ev.bind (qBm hl oM_ oM_) ?_)
      by_cases h2:(qAv C (d+1)).length≤32
      ·refine qAr oM_ ?_
       refine Ev.step (fun k=>z37.l0.eq_2 ..) ?_
       rw [w1,if_pos ⟨h0,h1,h2⟩,show wrap64 (d+1+1)=d+1+1 from qAs oM_ oM_]
       exact qAr oM_ (Ev.now _)
      ·rw [if_neg (fun h=>h2 h.2.2)]
       exact qAc oM_ (Ev.now _)
     ·rw [if_neg (fun h=>h1 h.2.1)]
      exact qAc oM_ (Ev.now _)
    ·rw [if_neg (fun h=>h0 h.1)]
     exact qAc oM_ (Ev.now _)
 refine Ev.bind (qJb C hl hr) ?_
 cases ho:okC C with
 | false=>exact qAr (by decide) (by simpa using hj false)
 | true=>exact qAc rfl (Ev.bind (qJc p) (by simpa using hj (okP p)))
end
theorem qJn {C:List (List Int)} {d p:Int} (h:askD C d p=0):okC C=true∧okP p=true∧0≤d∧d≤3∧(qAv C (d - 1)).length≤32∧(qAv C d).length≤32∧(qAv C (d+1)).length≤32:=by
 unfold askD at h
 split at h
 ·rename_i h1
  rw [ye_] at h1
  split at h
  ·rename_i h2
   rw [ye_,yf_,yf_] at h2
   split at h
   ·rename_i h3
    exact ⟨h1.1,h1.2,h2.1,h2.2,h3⟩
   ·omega
  ·omega
 ·omega
end Go.Proofs.YtpgjfppbbbnclaaGreat.B
namespace Go.Proofs.YtpgjfppbbbnclaaGreat.B
open Go.RowKit Go.Proofs.YtpgjfppbbbnclaaGreatW.PrintWords
open SimT LinT
def sgn (p:Int) (i:Nat):Int:=if i % 2=0 then 1 else p - 1
theorem qNm {p:Nat} (hp:p≤251) (i:Nat):z69.f (i:Int) (p:Int)=some (sgn (p:Int) i):=by
 unfold z69.f sgn
 rw [Int.tmod_eq_emod_of_nonneg oM_,qAs oM_ oM_]
 by_cases h:i % 2=0
 ·rw [if_pos h,if_pos oM_]
 ·rw [if_neg h,if_neg oM_]
theorem qOs {p:Nat} (hp0:2≤p) (i:Nat):0≤sgn (p:Int) i∧sgn (p:Int) i<(p:Int):=by
 unfold sgn;split <;> omega
def colF (C:List (List Int)) (d:Int) (j:Nat):List Int:=qEe C (C.getD ((qAv C d).getD j 0).toNat [])
def colG (C:List (List Int)) (d p:Int) (n j:Nat) (s:List Int):List Int :=
 iter (fun i s=>s.set (((colF C d j).getD i 0 - (qAv C (d - 1)).getD 0 0).toNat * n+j) (sgn p i)) 0 (colF C d j).length s
def qBd (C:List (List Int)) (d p:Int):List Int :=
 iter (colG C d p (qAv C d).length) 0 (qAv C d).length (List.replicate ((qAv C (d - 1)).length * (qAv C d).length) 0)
def bMat (C:List (List Int)) (d p:Int):Int × Int × Int × List Int:=(p,((qAv C (d - 1)).length:Int),((qAv C d).length:Int),qBd C d p)
theorem qKu {C:List (List Int)} (ho:okC C=true) {d:Int} {a m b n:Nat} (ha:qAv C (d - 1)=run a m) (hb:qAv C d=run b n) {j i:Nat} (hj:j<n) (hi:i<(colF C d j).length):∃ r,r<m∧(colF C d j).getD i 0=((a+r:Nat):Int):=by
 unfold colF at hi ⊢
 rw [hb,qC2 hj,yd_] at hi ⊢
 have hmem:((b+j:Nat):Int)∈qAv C d:=by rw [hb];unfold run;exact ys_.2 ⟨j,yc_.2 hj,rfl⟩
 obtain ⟨i0,hi0,hp0,he0⟩:=qCo.1 hmem
 have:i0=b+j:=by omega
 subst this
 have hlen:=of_decide_eq_true hp0
 have hsC:C.getD (b+j) []∈C:=qA3 [] hi0
 generalize C.getD (b+j) []=s at hi hlen hsC ⊢
 unfold qEe at hi ⊢
 have hi':i<(qBf s).length:=by simpa using hi
 have e:((qBf s).map (idx C)).getD i 0=idx C ((qBf s).getD i []):=by
  rw [ya_,List.getElem?_map,ya_,yb_ hi'];rfl
 rw [e]
 have hf:(qBf s).getD i []∈qBf s:=qA3 [] hi'
 obtain ⟨h1,k,hk,hd⟩:=qCd.1 hf
 have hin:=(qCg.1 ho).2.2.2 s hsC h1 k hk
 obtain ⟨q,hq,hq1,hq2,_⟩:=qC3 hin
 rw [← hd,hq1]
 have hdl:(drp s k).length=s.length - 1:=qBc hk
 have hqm:((q:Nat):Int)∈qAv C (d - 1):=qCo.2 ⟨q,hq,decide_eq_true (by rw [hq2,hdl];omega),rfl⟩
 rw [ha] at hqm
 unfold run at hqm
 obtain ⟨r,hr,h3⟩:=ys_.1 hqm
 exact ⟨r,yc_.1 hr,by omega⟩
theorem qN1 {C:List (List Int)} (ho:okC C=true) (d:Int) (j:Nat):(colF C d j).length≤4:=by
 unfold colF qEe
 rw [List.length_map]
 by_cases h:((qAv C d).getD j 0).toNat<C.length
 ·have:=(qCf ((qCg.1 ho).2.2.1 _ (qA3 [] h))).2
  exact Nat.le_trans (qDp _) this
 ·rw [ya_,List.getElem?_eq_none oM_]
  simp [qBf]
theorem qKt {C:List (List Int)} {d p:Int} {n j:Nat} {s:List Int} {q:Nat} (hq:2≤q) (hp:p=(q:Int)) (h:s.length=q∨True) (hr:Rng q s):(colG C d p n j s).length=s.length∧Rng q (colG C d p n j s):=by
 have:=qIb (fun i s=>s.set (((colF C d j).getD i 0 - (qAv C (d - 1)).getD 0 0).toNat * n+j) (sgn p i)) (fun _ t=>t.length=s.length∧Rng q t) (colF C d j).length 0 s ⟨rfl,hr⟩ (fun i t _ _ ht=>⟨by rw [ym_];exact ht.1,fun z hz=>by
  rcases List.mem_or_eq_of_mem_set hz with h1 | h1
  ·exact ht.2 z h1
  ·rw [h1,hp];exact qOs hq i⟩)
 exact this
theorem qDs (C:List (List Int)) (d:Int) {p:Nat} (hp:2≤p):(qBd C d (p:Int)).length=(qAv C (d - 1)).length * (qAv C d).length∧Rng p (qBd C d (p:Int)):=by
 have:=qIb (colG C d (p:Int) (qAv C d).length) (fun _ t=>t.length=(qAv C (d - 1)).length * (qAv C d).length∧Rng p t) (qAv C d).length 0 (List.replicate ((qAv C (d - 1)).length * (qAv C d).length) 0) ⟨by rw [yk_],fun z hz=>by rw [(List.mem_replicate.1 hz).2];omega⟩ (fun j t _ _ ht=>by
  have:=qKt (C:=C) (d:=d) (n:=(qAv C d).length) (j:=j) hp (p:=(p:Int)) rfl (.inr trivial) ht.2
  exact ⟨this.1.trans ht.1,this.2⟩)
 exact this
section
variable {C:List (List Int)} (hl:C.length≤1048576) (hr:∀ x∈C,x.length≤1048576)
include hl hr
theorem qFy {p:Nat} (hp:isP p=true) (ho:okC C=true) {d:Int} (h0:0≤d) (h3:d≤4) (hm:(qAv C (d - 1)).length≤48) (hn:(qAv C d).length≤48):Ev (fun k=>z36.f k C d (p:Int)) (bMat C d (p:Int)):=by
 have h2:=qB3 hp
 have hs:=(qCg.1 ho).2.1
 obtain ⟨a,m,ha,ham,_⟩:=qCc hs (d - 1)
 obtain ⟨b,n,hb,hbn,_⟩:=qCc hs d
 have hml:(qAv C (d - 1)).length=m:=by rw [ha,qB2]
 have hnl:(qAv C d).length=n:=by rw [hb,qB2]
 unfold z36.f bMat
 have ew:wrap64 (d - 1)=d - 1:=qAs oM_ oM_
 rw [ew]
 clear ew
 refine Ev.bind (qBm hl oM_ oM_) (Ev.bind (qBm hl oM_ oM_) (Ev.bind (qA1 (qEq _)) (Ev.bind (qA1 (qEq _)) (Ev.bind (qOl (p:Int) _ _ oM_ oM_) ?_))))
 dsimp only
 have hcol:∀ (j:Nat) (s:List Int),j<n→s.length=m * n→Le (fun k=>z36.l0 k (p:Int) (qAv C (d - 1)) (qAv C d) ((qAv C d).length:Int) (wrap64 ((j:Int)+1)) C (p:Int) ((qAv C (d - 1)).length:Int) ((qAv C d).length:Int) (colG C d (p:Int) n j s))
   (fun k=>z36.l1 k (p:Int) (qAv C (d - 1)) (qAv C d) (j:Int) ((qAv C d).length:Int) (j:Int) (colF C d j) ((colF C d j).length:Int) 0 C (p:Int) ((qAv C (d - 1)).length:Int) ((qAv C d).length:Int) s):=by
  intro j s hj hsl
  have hcl:=qN1 ho d j
  have h:=(qCh (fun (t:List Int) (i:Nat) k=>z36.l1 k (p:Int) (qAv C (d - 1)) (qAv C d) (j:Int) ((qAv C d).length:Int) (j:Int) (colF C d j) ((colF C d j).length:Int) (i:Int) C (p:Int) ((qAv C (d - 1)).length:Int) ((qAv C d).length:Int) t)
   (fun i s=>s.set (((colF C d j).getD i 0 - (qAv C (d - 1)).getD 0 0).toNat * n+j) (sgn (p:Int) i)) (fun _ t=>t.length=m * n) (colF C d j).length 0 s hsl (fun i t _ hi ht=>⟨fun r hr'=>?_,by rw [ym_];exact ht⟩)).1
  ·refine Le.trans (fun r hr'=>?_) h
   refine Ev.step (fun k=>z36.l1.eq_2 ..) ?_
   exact qAr oM_ hr'
  ·have hi':i<(colF C d j).length:=by omega
   obtain ⟨r0,hr0,hf⟩:=qKu ho ha hb hj hi'
   have hlt:r0 * n+j<m * n:=qE2 hr0 hj
   have hmn:m * n≤48 * 48:=yj_ oM_ oM_
   have hix:=qJa (a:=a) (m:=m) oM_ hr0
   rw [← ha,← hf] at hix
   refine Ev.step (fun k=>z36.l1.eq_2 ..) ?_
   refine qAc oM_ (qAc oM_ (qAc oM_ ?_))
   rw [qA4]
   refine Ev.bind hix (Ev.bind (qA1 (qNm h2.2 i)) ?_)
   have e1:wrap64 (wrap64 ((r0:Int) * ((qAv C d).length:Int))+(j:Int))=((r0 * n+j:Nat):Int):=by
    rw [hnl,← yi_,qAs (x:=((r0 * n:Nat):Int)) oM_ oM_,qAs oM_ oM_];omega
   have e2:(((colF C d j).getD i 0) - (qAv C (d - 1)).getD 0 0).toNat=r0:=by
    rw [hf,ha,qC2 oM_];omega
   rw [e2] at hr'
   rw [e1]
   clear e1 e2 hf hix
   refine qAc oM_ (qAc oM_ ?_)
   rw [qAw oM_,yd_]
   exact hr'
 have hall:=(qCh (fun (t:List Int) (j:Nat) k=>z36.l0 k (p:Int) (qAv C (d - 1)) (qAv C d) ((qAv C d).length:Int) (j:Int) C (p:Int) ((qAv C (d - 1)).length:Int) ((qAv C d).length:Int) t)
  (colG C d (p:Int) n) (fun _ t=>t.length=m * n∧Rng p t) n 0 (List.replicate (m * n) 0) ⟨by rw [yk_],fun z hz=>by rw [(List.mem_replicate.1 hz).2];omega⟩ (fun j t _ hj ht=>⟨fun r hr'=>?_,?_⟩)).1
 ·have h:Ev (fun k=>z36.l0 k (p:Int) (qAv C (d - 1)) (qAv C d) ((qAv C d).length:Int) ((0+n:Nat):Int) C (p:Int) ((qAv C (d - 1)).length:Int) ((qAv C d).length:Int) (iter (colG C d (p:Int) n) 0 n (List.replicate (m * n) 0))) (p,((qAv C (d - 1)).length:Int),((qAv C d).length:Int),qBd C d (p:Int)):=by
   unfold qBd
   rw [hml,hnl]
   refine Ev.step (fun k=>z36.l0.eq_2 ..) ?_
   exact qAr oM_ (Ev.now _)
  have:=hall _ h
  rw [hml,hnl] at this ⊢
  exact this
 ·have hj':j<n:=by omega
  have hup:rd (qAv C d) (j:Int)=((b+j:Nat):Int):=by rw [qA4,hb,qC2 hj']
  have hbC:b+j<C.length:=by omega
  have hcF:qEe C (C.getD (b+j) [])=colF C d j:=by
   unfold colF;rw [hb,qC2 hj',yd_]
  refine Ev.step (fun k=>z36.l0.eq_2 ..) ?_
  refine qAc oM_ (qAc oM_ (qAc oM_ ?_))
  rw [hup]
  have hfi:=qG3 hl hr hs hbC
  rw [hcF] at hfi
  refine Ev.bind hfi (hcol j t hj' ht.1 r ?_)
  rw [qAw oM_];exact hr'
 ·have:=qKt (C:=C) (d:=d) (n:=n) (j:=j) h2.1 (p:=(p:Int)) rfl (.inr trivial) ht.2
  exact ⟨this.1.trans ht.1,this.2⟩
end
end Go.Proofs.YtpgjfppbbbnclaaGreat.B
namespace Go.Proofs.YtpgjfppbbbnclaaGreat.B
open Go.RowKit Go.Proofs.YtpgjfppbbbnclaaGreatW.PrintWords
open SimT LinT
theorem qL1 {n j m K:Nat} {F:Nat→Nat} {g:Nat→Int} (hj:j<n) (hF:∀ k,k<K→F k<m) (hinj:∀ k k',k<K→k'<K→F k=F k'→k=k') {s:List Int} (hs:s.length=m * n) (hz:∀ i,i<m→fl n s i j=0) :
  ∀ t,t≤K→(iter (fun k s=>s.set (F k * n+j) (g k)) 0 t s).length=m * n∧∀ i j',i<m→j'<n→fl n (iter (fun k s=>s.set (F k * n+j) (g k)) 0 t s) i j'=if j'=j then sm (fun k=>if F k=i then g k else 0) t else fl n s i j'
 | 0,_=>⟨hs,fun i j' hi hj'=>by
  show fl n s i j'=_
  by_cases e:j'=j
  ·rw [if_pos e,e,hz i hi];rfl
  ·rw [if_neg e]⟩
 | t+1,ht=>by
  obtain ⟨h1,h2⟩:=qL1 (g:=g) hj hF hinj hs hz t oM_
  have hFt:=hF t oM_
  have hlt:=qE2 hFt hj
  rw [qE0,Nat.zero_add]
  refine ⟨by rw [ym_,h1],fun i j' hi hj'=>?_⟩
  rw [qKl _ _ hj hj' (by rw [h1];exact hlt),h2 i j' hi hj']
  by_cases e:j'=j
  ·rw [if_pos e,if_pos e]
   show _=sm (fun k=>if F k=i then g k else 0) t+(if F t=i then g t else 0)
   by_cases e2:i=F t
   ·have hzz:sm (fun k=>if F k=i then g k else 0) t=0:=by
     rw [qBe t (g:=fun _=>0) (fun k hk=>by rw [if_neg];intro h;have:=hinj k t oM_ oM_ (by rw [h,e2]);omega)]
     exact qF5 t
    rw [if_pos ⟨e2,e⟩,hzz,if_pos e2.symm,Int.zero_add]
   ·rw [if_neg (fun h=>e2 h.1),if_neg (fun h=>e2 h.symm),Int.add_zero]
  ·rw [if_neg (fun h=>e h.2),if_neg e,if_neg e]
theorem qPa {s:List Int} (hs:Inc s) {k k':Nat} (hk:k<s.length) (hk':k'<s.length) (h:drp s k=drp s k'):k=k':=by
 rcases Nat.lt_trichotomy k k' with hl | he | hg
 ·exfalso
  have hm:s[k]∈drp s k':=by
   rw [qGo];exact List.mem_eraseIdx_iff_getElem.2 ⟨k,hk,by omega,rfl⟩
  rw [← h,qGo] at hm
  obtain ⟨i,hi,hne,e⟩:=List.mem_eraseIdx_iff_getElem.1 hm
  rcases Nat.lt_or_gt_of_ne hne with h1 | h1
  ·have:=List.pairwise_iff_getElem.1 hs i k hi hk h1;omega
  ·have:=List.pairwise_iff_getElem.1 hs k i hk hi h1;omega
 ·exact he
 ·exfalso
  have hm:s[k]∈drp s k':=by
   rw [qGo];exact List.mem_eraseIdx_iff_getElem.2 ⟨k,hk,by omega,rfl⟩
  rw [← h,qGo] at hm
  obtain ⟨i,hi,hne,e⟩:=List.mem_eraseIdx_iff_getElem.1 hm
  rcases Nat.lt_or_gt_of_ne hne with h1 | h1
  ·have:=List.pairwise_iff_getElem.1 hs i k hi hk h1;omega
  ·have:=List.pairwise_iff_getElem.1 hs k i hk hi h1;omega
def bEnt (p:Int) (u s:List Int):Int:=sm (fun k=>if drp s k=u then sgn p k else 0) s.length
theorem qKv {C:List (List Int)} (ho:okC C=true) {d:Int} (hd:1≤d) {a m b n:Nat} (ha:qAv C (d - 1)=run a m) (hb:qAv C d=run b n) {j:Nat} (hj:j<n) :
  (colF C d j).length=(C.getD (b+j) []).length∧∀ k,k<(C.getD (b+j) []).length→∃ r,r<m∧(colF C d j).getD k 0=((a+r:Nat):Int)∧C.getD (a+r) []=drp (C.getD (b+j) []) k:=by
 have hmem:((b+j:Nat):Int)∈qAv C d:=by rw [hb];unfold run;exact ys_.2 ⟨j,yc_.2 hj,rfl⟩
 obtain ⟨i0,hi0,hp0,he0⟩:=qCo.1 hmem
 have:i0=b+j:=by omega
 subst this
 have hlen:=of_decide_eq_true hp0
 have e:colF C d j=(List.range (C.getD (b+j) []).length).map fun k=>idx C (drp (C.getD (b+j) []) k):=by
  unfold colF qEe qBf
  rw [hb,qC2 hj,yd_,if_pos oM_,List.map_map];rfl
 have hlc:(colF C d j).length=(C.getD (b+j) []).length:=by rw [e];simp
 refine ⟨hlc,fun k hk=>?_⟩
 obtain ⟨r,hr,hf⟩:=qKu ho ha hb hj (i:=k) oM_
 refine ⟨r,hr,hf,?_⟩
 have hin:=(qCg.1 ho).2.2.2 _ (qA3 [] hi0) oM_ k hk
 obtain ⟨q,hq,hq1,hq2,_⟩:=qC3 hin
 have:(colF C d j).getD k 0=idx C (drp (C.getD (b+j) []) k):=by
  rw [e,ya_,List.getElem?_map,List.getElem?_range hk];rfl
 rw [hf,hq1] at this
 have:a+r=q:=by omega
 rw [this,hq2]
theorem qBq {C:List (List Int)} {d:Int} {b n:Nat} (hb:qAv C d=run b n) {j:Nat} (hj:j<n):b+j<C.length∧((C.getD (b+j) []).length:Int)=d+1:=by
 have hmem:((b+j:Nat):Int)∈qAv C d:=by rw [hb];unfold run;exact ys_.2 ⟨j,yc_.2 hj,rfl⟩
 obtain ⟨i0,hi0,hp0,he0⟩:=qCo.1 hmem
 have:i0=b+j:=by omega
 subst this
 exact ⟨hi0,of_decide_eq_true hp0⟩
theorem qGd {C:List (List Int)} (hs:Srt C) {i j:Nat} (hi:i<C.length) (hj:j<C.length) (h:C.getD i []=C.getD j []):i=j:=by
 rcases Nat.lt_trichotomy i j with hl | he | hg
 ·exact absurd h (qL0 (qEc hs hl hj))
 ·exact he
 ·exact absurd h.symm (qL0 (qEc hs hg hi))
theorem qD2 {C:List (List Int)} (ho:okC C=true) {d:Int} (hd:1≤d) {p:Nat} {a m b n:Nat} (ha:qAv C (d - 1)=run a m) (hb:qAv C d=run b n) {i j:Nat} (hi:i<m) (hj:j<n) :
  fl n (qBd C d (p:Int)) i j=bEnt (p:Int) (C.getD (a+i) []) (C.getD (b+j) []):=by
 have hml:(qAv C (d - 1)).length=m:=by rw [ha,qB2]
 have hnl:(qAv C d).length=n:=by rw [hb,qB2]
 obtain ⟨_,hsrt,hsx,_⟩:=qCg.1 ho
 have hbase:(qAv C (d - 1)).getD 0 0=(a:Int):=by rw [ha,qC2 oM_];rfl
 have main:∀ t,t≤n→(iter (colG C d (p:Int) n) 0 t (List.replicate (m * n) 0)).length=m * n∧∀ i j',i<m→j'<n→fl n (iter (colG C d (p:Int) n) 0 t (List.replicate (m * n) 0)) i j'=if j'<t then bEnt (p:Int) (C.getD (a+i) []) (C.getD (b+j') []) else 0:=by
  intro t
  induction t with
  | zero =>
   intro _
   refine ⟨by simp [iter],fun i j' hi hj'=>?_⟩
   rw [if_neg (Nat.not_lt_zero _)]
   show (List.replicate (m * n) (0:Int)).getD (i * n+j') 0=0
   rw [ya_,List.getElem?_replicate]
   split <;> rfl
  | succ t ih =>
   intro ht
   obtain ⟨h1,h2⟩:=ih oM_
   obtain ⟨c1,c2⟩:=qKv ho hd ha hb (j:=t) oM_
   obtain ⟨hbt,hbl⟩:=qBq hb (j:=t) oM_
   have hinc:=(qEr.1 (hsx _ (qA3 [] hbt))).2.1
   have hFr:∀ k,k<(colF C d t).length→((colF C d t).getD k 0 - (qAv C (d - 1)).getD 0 0).toNat<m∧C.getD (a+((colF C d t).getD k 0 - (qAv C (d - 1)).getD 0 0).toNat) []=drp (C.getD (b+t) []) k:=fun k hk=>by
    obtain ⟨r,r1,r2,r3⟩:=c2 k oM_
    rw [r2,hbase,show (((a+r:Nat):Int) - (a:Int)).toNat=r by omega]
    exact ⟨r1,r3⟩
   have hset:=qL1 (n:=n) (j:=t) (m:=m) (K:=(colF C d t).length) (F:=fun k=>((colF C d t).getD k 0 - (qAv C (d - 1)).getD 0 0).toNat) (g:=fun k=>sgn (p:Int) k) oM_ (fun k hk=>(hFr k hk).1) (fun k k' hk hk' e=>by
    have e1:=(hFr k hk).2
    have e2:=(hFr k' hk').2
    have e':((colF C d t).getD k 0 - (qAv C (d - 1)).getD 0 0).toNat=((colF C d t).getD k' 0 - (qAv C (d - 1)).getD 0 0).toNat:=e
    rw [e'] at e1
    exact qPa hinc oM_ oM_ (e1.symm.trans e2)) h1 (fun i hi=>by rw [h2 i t hi oM_,if_neg (Nat.lt_irrefl _)]) (colF C d t).length (Nat.le_refl _)
   have estep:iter (colG C d (p:Int) n) 0 (t+1) (List.replicate (m * n) 0)=colG C d (p:Int) n t (iter (colG C d (p:Int) n) 0 t (List.replicate (m * n) 0)):=by rw [qE0,Nat.zero_add]
   rw [estep]
   refine ⟨hset.1,fun i j' hi hj'=>?_⟩
   have:=hset.2 i j' hi hj'
   refine this.trans ?_
   by_cases e:j'=t
   ·rw [if_pos e,if_pos oM_,e]
    unfold bEnt
    rw [c1]
    refine qBe _ fun k hk=>?_
    obtain ⟨f1,f2⟩:=hFr k oM_
    obtain ⟨hai,_⟩:=qBq ha hi
    obtain ⟨haf,_⟩:=qBq ha f1
    by_cases e3:drp (C.getD (b+t) []) k=C.getD (a+i) []
    ·rw [if_pos e3,if_pos]
     have:=qGd hsrt haf hai (by rw [f2,e3])
     show ((colF C d t).getD k 0 - (qAv C (d - 1)).getD 0 0).toNat=i
     omega
    ·rw [if_neg e3,if_neg]
     intro h
     have h':((colF C d t).getD k 0 - (qAv C (d - 1)).getD 0 0).toNat=i:=h
     rw [h'] at f2
     exact e3 f2.symm
   ·rw [if_neg e,h2 i j' hi hj']
    by_cases e2:j'<t
    ·rw [if_pos e2,if_pos oM_]
    ·rw [if_neg e2,if_neg oM_]
 unfold qBd
 rw [hml,hnl,(main n (Nat.le_refl _)).2 i j hi hj,if_pos hj]
theorem qFb {f:Nat→Int} (i0:Nat):∀ n,i0<n→(∀ i,i<n→i≠i0→f i=0)→sm f n=f i0
 | 0,h,_=>absurd h (Nat.not_lt_zero _)
 | n+1,h,hz=>by
  show sm f n+f n=f i0
  by_cases e:i0=n
  ·rw [qBe n (g:=fun _=>0) (fun i hi=>hz i oM_ oM_),qF5,e,Int.zero_add]
  ·rw [qFb i0 n oM_ (fun i hi=>hz i oM_),hz n oM_ oM_,Int.add_zero]
theorem qJf (p:Int) (u t:List Int) (h:t.length=3∨t.length=4):p ∣ sm (fun k=>sgn p k * bEnt p u (drp t k)) t.length:=by
 have ind:∀ l:List Int,(if l=u then p - 1 else 0)=(p - 1) * (if l=u then 1 else 0):=fun l=>by split <;> simp
 have s0:sgn p 0=1:=rfl
 have s1:sgn p 1=p - 1:=rfl
 have s2:sgn p 2=1:=rfl
 have s3:sgn p 3=p - 1:=rfl
 rcases h with h | h
 ·obtain ⟨a,b,c,rfl⟩:∃ a b c,t=[a,b,c]:=by
   match t,h with
   | [a,b,c],_=>exact ⟨a,b,c,rfl⟩
  show p ∣ (((0+sgn p 0 * ((0+(if [c]=u then sgn p 0 else 0))+(if [b]=u then sgn p 1 else 0)))+sgn p 1 * ((0+(if [c]=u then sgn p 0 else 0))+(if [a]=u then sgn p 1 else 0)))+sgn p 2 * ((0+(if [b]=u then sgn p 0 else 0))+(if [a]=u then sgn p 1 else 0)))
  rw [s0,s1,s2]
  simp only [ind]
  generalize (if [c]=u then (1:Int) else 0)=x0
  generalize (if [b]=u then (1:Int) else 0)=x1
  generalize (if [a]=u then (1:Int) else 0)=x2
  exact ⟨x0 * 1+x1 * 1+x2 * (p - 1),by grind⟩
 ·obtain ⟨a,b,c,e,rfl⟩:∃ a b c e,t=[a,b,c,e]:=by
   match t,h with
   | [a,b,c,e],_=>exact ⟨a,b,c,e,rfl⟩
  show p ∣ ((((0+sgn p 0 * (((0+(if [c,e]=u then sgn p 0 else 0))+(if [b,e]=u then sgn p 1 else 0))+(if [b,c]=u then sgn p 2 else 0)))+sgn p 1 * (((0+(if [c,e]=u then sgn p 0 else 0))+(if [a,e]=u then sgn p 1 else 0))+(if [a,c]=u then sgn p 2 else 0)))+sgn p 2 * (((0+(if [b,e]=u then sgn p 0 else 0))+(if [a,e]=u then sgn p 1 else 0))+(if [a,b]=u then sgn p 2 else 0)))+sgn p 3 * (((0+(if [b,c]=u then sgn p 0 else 0))+(if [a,c]=u then sgn p 1 else 0))+(if [a,b]=u then sgn p 2 else 0)))
  rw [s0,s1,s2,s3]
  simp only [ind]
  generalize (if [c,e]=u then (1:Int) else 0)=x0
  generalize (if [b,e]=u then (1:Int) else 0)=x1
  generalize (if [b,c]=u then (1:Int) else 0)=x2
  generalize (if [a,e]=u then (1:Int) else 0)=x3
  generalize (if [a,c]=u then (1:Int) else 0)=x4
  generalize (if [a,b]=u then (1:Int) else 0)=x5
  exact ⟨x0 * 1+x1 * 1+x2 * 1+x3 * (p - 1)+x4 * (p - 1)+x5 * 1,by grind⟩
theorem qPb {C:List (List Int)} (ho:okC C=true) {d:Int} (h0:0≤d) {p:Nat} {i j:Nat} (hi:i<(qAv C (d - 1)).length) (hj:j<(qAv C (d+1)).length) :
  (p:Int) ∣ sm (fun l=>fl (qAv C d).length (qBd C d (p:Int)) i l * fl (qAv C (d+1)).length (qBd C (d+1) (p:Int)) l j) (qAv C d).length:=by
 obtain ⟨_,hsrt,hsx,hcl⟩:=qCg.1 ho
 obtain ⟨a,m,ha,_,_⟩:=qCc hsrt (d - 1)
 obtain ⟨b,n,hb,_,_⟩:=qCc hsrt d
 obtain ⟨c,k,hc,_,_⟩:=qCc hsrt (d+1)
 have e1:d+1 - 1=d:=by omega
 have hml:(qAv C (d - 1)).length=m:=by rw [ha,qB2]
 have hnl:(qAv C d).length=n:=by rw [hb,qB2]
 have hkl:(qAv C (d+1)).length=k:=by rw [hc,qB2]
 rw [hml] at hi
 rw [hkl] at hj
 rw [hnl,hkl]
 obtain ⟨hai,hail⟩:=qBq ha hi
 obtain ⟨hcj,hcjl⟩:=qBq hc hj
 have hl1:=(qCf (hsx _ (qA3 [] hai)))
 have hl2:=(qCf (hsx _ (qA3 [] hcj)))
 have hd1:1≤d:=by omega
 -- the first matrix by its simplices,summed over the qBf
 have h2:∀ l,l<n→fl k (qBd C (d+1) (p:Int)) l j=bEnt (p:Int) (C.getD (b+l) []) (C.getD (c+j) []):=fun l hl=>qD2 ho (d:=d+1) oM_ (by rw [e1];exact hb) hc hl hj
 have h1:∀ l,l<n→fl n (qBd C d (p:Int)) i l=bEnt (p:Int) (C.getD (a+i) []) (C.getD (b+l) []):=fun l hl=>qD2 ho hd1 ha hb hi hl
 obtain ⟨_,hcol⟩:=qKv ho (d:=d+1) oM_ (by rw [e1];exact hb) hc hj
 have e2:sm (fun l=>fl n (qBd C d (p:Int)) i l * fl k (qBd C (d+1) (p:Int)) l j) n=sm (fun f=>sgn (p:Int) f * bEnt (p:Int) (C.getD (a+i) []) (drp (C.getD (c+j) []) f)) (C.getD (c+j) []).length:=by
  rw [qBe n (g:=fun l=>sm (fun f=>bEnt (p:Int) (C.getD (a+i) []) (C.getD (b+l) []) * (if drp (C.getD (c+j) []) f=C.getD (b+l) [] then sgn (p:Int) f else 0)) (C.getD (c+j) []).length) (fun l hl=>by
   rw [h1 l hl,h2 l hl]
   show bEnt _ _ _ * sm (fun k=>if drp (C.getD (c+j) []) k=C.getD (b+l) [] then sgn (p:Int) k else 0) (C.getD (c+j) []).length=_
   rw [← qFl]),qJs]
  refine qBe _ fun f hf=>?_
  obtain ⟨r,r1,r2,r3⟩:=hcol f hf
  rw [qFb r n r1 (fun l hl hne=>by
   rw [if_neg,Int.mul_zero]
   intro h
   have hbl:=(qBq hb hl).1
   have hbr:=(qBq hb r1).1
   have:=qGd hsrt hbr hbl (r3.trans h)
   omega),r3,if_pos rfl,Int.mul_comm]
 rw [e2]
 exact qJf _ _ _ oM_
end Go.Proofs.YtpgjfppbbbnclaaGreat.B
namespace Go.Proofs.YtpgjfppbbbnclaaGreat.B
open Go.RowKit Go.Proofs.YtpgjfppbbbnclaaGreatW.PrintWords
open LinT
theorem qO4 (l:List (List Int)) (c:Nat) (hc:∀ x,x∈l→c<x.length) (hl:l.length≤1048576) :
  ∃ t:Int,Ev (fun k=>z161.f k l (c:Int)) t∧((t=-1∧∀ i,i<l.length→rw' l i c=0)∨∃ i:Nat,t=(i:Int)∧i<l.length∧rw' l i c≠0):=by
 unfold z161.f
 have main:∀ (d i:Nat),i+d=l.length→(∀ j,j<i→rw' l j c=0)→∃ t:Int,Ev (fun k=>z161.l0 k l (l.length:Int) (i:Int) (c:Int)) t∧((t=-1∧∀ i,i<l.length→rw' l i c=0)∨∃ i:Nat,t=(i:Int)∧i<l.length∧rw' l i c≠0):=by
  intro d
  induction d with
  | zero =>
   intro i hi hz
   refine ⟨-1,?_,.inl ⟨rfl,fun j hj=>hz j oM_⟩⟩
   refine Ev.step (fun k=>z161.l0.eq_2 ..) ?_
   exact qAr oM_ (Ev.now _)
  | succ d ih =>
   intro i hi hz
   have hlen:=hc (l.getD i []) (qA3 [] oM_)
   have hv:z117.f (rI_ l (i:Int)) (c:Int)=some (rw' l i c != 0):=by
    unfold z117.f
    rw [qA6,if_pos oM_,if_pos oM_,qA4];rfl
   by_cases h:rw' l i c=0
   ·obtain ⟨t,ht,hh⟩:=ih (i+1) oM_ (fun j hj=>by
     rcases Nat.lt_or_ge j i with h1 | h1
     ·exact hz j h1
     ·have:j=i:=by omega
      rw [this];exact h)
    refine ⟨t,?_,hh⟩
    refine Ev.step (fun k=>z161.l0.eq_2 ..) ?_
    (repeat (first | refine qAc oM_ ?_ | refine qAr oM_ ?_))
    refine Ev.bind (qA1 hv) (qAr (by rw [h];decide) ?_)
    rw [qAw oM_];exact ht
   ·refine ⟨(i:Int),?_,.inr ⟨i,rfl,by omega,h⟩⟩
    refine Ev.step (fun k=>z161.l0.eq_2 ..) ?_
    (repeat (first | refine qAc oM_ ?_ | refine qAr oM_ ?_))
    exact Ev.bind (qA1 hv) (qAc (by simpa using h) (Ev.now _))
 exact main l.length 0 oM_ (fun j hj=>by omega)
theorem qDg {p:Int} {n:Nat} {R:List (List Int)} (h:Vs p n R) {i:Nat} (hi:i<R.length):(R.getD i []).length=n:=(h _ (qA3 [] hi)).1
theorem qD5 {p:Nat} {n:Nat} {R:List (List Int)} (h:Vs (p:Int) n R) {i:Nat} (hi:i<R.length):Rng p (R.getD i []):=(h _ (qA3 [] hi)).2
theorem qLr {p:Int} {n:Nat} {R:List (List Int)} (h:Vs p n R) (i:Nat) {x:List Int} (hx:x.length=n) (hr:∀ y,y∈x→0≤y∧y<p):Vs p n (R.set i x):=by
 intro y hy
 rcases List.mem_or_eq_of_mem_set hy with h1 | h1
 ·exact h y h1
 ·rw [h1];exact ⟨hx,hr⟩
theorem qCe {R:List (List Int)} {a:Nat} (b:Nat) (x:List Int) (ha:a<R.length):(R.set a x).getD b []=if b=a then x else R.getD b []:=by
 rw [ya_,List.getElem?_set,ya_]
 by_cases h:b=a
 ·subst h;simp [ha]
 ·rw [if_neg (Ne.symm h),if_neg h]
def clr (p top c:Nat) (R:List (List Int)) (i:Nat):List Int :=
 if i=top then R.getD i [] else if rw' R i c=0 then R.getD i [] else addT p (R.getD i []) (R.getD top []) ((p:Int) - rw' R i c)
structure Clr (p n top c:Nat) (R0:List (List Int)) (i:Nat) (R:List (List Int)):Prop where
 len:R.length=R0.length
 at_:∀ j,j<R0.length→R.getD j []=if j<i then clr p top c R0 j else R0.getD j []
theorem clr_ok {p n:Nat} (hp:0<p) {top c:Nat} {R:List (List Int)} (h:Vs (p:Int) n R) {i:Nat} (hi:i<R.length):(clr p top c R i).length=n∧Rng p (clr p top c R i):=by
 unfold clr
 split
 ·exact ⟨qDg h hi,qD5 h hi⟩
 ·split
  ·exact ⟨qDg h hi,qD5 h hi⟩
  ·exact ⟨by rw [qK3,qDg h hi],qK2 hp _ _ _⟩
theorem Clr.vs {p n:Nat} (hp:0<p) {top c:Nat} {R0 R:List (List Int)} {i:Nat} (h0:Vs (p:Int) n R0) (h:Clr p n top c R0 i R):Vs (p:Int) n R:=by
 intro x hx
 obtain ⟨j,hj,rfl⟩:=List.getElem_of_mem hx
 have e:R[j]=R.getD j []:=by rw [ya_,yb_ hj];rfl
 have hj0:j<R0.length:=by rw [← h.len];exact hj
 rw [e,h.at_ j hj0]
 split
 ·exact clr_ok hp h0 hj0
 ·exact ⟨qDg h0 hj0,qD5 h0 hj0⟩
theorem qN4 {p n:Nat} (hp:isP p=true) (hn:n≤1048576) {top c:Nat} (hc:c<n) {R0:List (List Int)} (hv:Vs (p:Int) n R0) (ht:top<R0.length) (hm:R0.length≤1048576) (q:List Int) (hq:q.length≤1048576) (det:Int) {β:Int × Int} :
  ∃ R,Clr p n top c R0 R0.length R∧∀ r,Ev (fun k=>z87.l0 k R (n:Int) (p:Int) (q ++ [(c:Int)]) det (n:Int) ((c+1:Nat):Int)) r →
   Ev (fun k=>z87.l1 k R0 (n:Int) (p:Int) q det (top:Int) (n:Int) (c:Int) (R0.length:Int) 0 (c:Int)) r:=by
 have h2:=qB3 hp
 have main:∀ (d i:Nat) (R:List (List Int)),i+d=R0.length→Clr p n top c R0 i R→∃ R',Clr p n top c R0 R0.length R'∧∀ r,Ev (fun k=>z87.l0 k R' (n:Int) (p:Int) (q ++ [(c:Int)]) det (n:Int) ((c+1:Nat):Int)) r →
   Ev (fun k=>z87.l1 k R (n:Int) (p:Int) q det (top:Int) (n:Int) (c:Int) (R0.length:Int) (i:Int) (c:Int)) r:=by
  intro d
  induction d with
  | zero =>
   intro i R hi hR
   have:i=R0.length:=by omega
   subst this
   refine ⟨R,hR,fun r hr=>?_⟩
   refine Ev.step (fun k=>z87.l1.eq_2 ..) ?_
   refine qAr oM_ (qAc oM_ ?_)
   rw [qAw oM_];exact hr
  | succ d ih =>
   intro i R hi hR
   have hRv:=hR.vs oM_ hv
   have hRl:=hR.len
   have hrow:R.getD i []=R0.getD i []:=by rw [hR.at_ i oM_,if_neg oM_]
   have htop:R.getD top []=R0.getD top []:=by
    rw [hR.at_ top ht]
    split
    ·unfold clr;rw [if_pos rfl]
    ·rfl
   have hlen:=qDg hv (i:=i) oM_
   have hval:rd (rI_ R (i:Int)) (c:Int)=rw' R0 i c:=by rw [qA6,qA4,hrow];rfl
   by_cases h1:i=top
   ·obtain ⟨R',h3,h4⟩:=ih (i+1) R oM_ ⟨hRl,fun j hj=>by
     rw [hR.at_ j hj]
     by_cases hji:j=i
     ·rw [hji,if_neg (Nat.lt_irrefl i),if_pos (Nat.lt_succ_self i)];unfold clr;rw [if_pos h1]
     ·by_cases hjl:j<i
      ·rw [if_pos hjl,if_pos oM_]
      ·rw [if_neg hjl,if_neg oM_]⟩
    refine ⟨R',h3,fun r hr=>?_⟩
    refine Ev.step (fun k=>z87.l1.eq_2 ..) ?_
    refine qAc oM_ (qAc oM_ (qAc oM_ (qAc oM_ ?_)))
    rw [qAw oM_];exact h4 r hr
   ·by_cases h0:rw' R0 i c=0
    ·obtain ⟨R',h3,h4⟩:=ih (i+1) R oM_ ⟨hRl,fun j hj=>by
      rw [hR.at_ j hj]
      by_cases hji:j=i
      ·rw [hji,if_neg (Nat.lt_irrefl i),if_pos (Nat.lt_succ_self i)];unfold clr;rw [if_neg h1,if_pos h0]
      ·by_cases hjl:j<i
       ·rw [if_pos hjl,if_pos oM_]
       ·rw [if_neg hjl,if_neg oM_]⟩
     refine ⟨R',h3,fun r hr=>?_⟩
     refine Ev.step (fun k=>z87.l1.eq_2 ..) ?_
     rw [hval]
     refine qAc oM_ (qAc oM_ (qAc oM_ (qAr oM_ (qAc oM_ (qAc (by rw [qA6,hrow,hlen];omega) (qAc h0 ?_))))))
     rw [qAw oM_];exact h4 r hr
    ·have hb:=qCw (qD5 hv (i:=i) oM_) (j:=c) oM_
     have hb':0≤rw' R0 i c∧rw' R0 i c<(p:Int):=hb
     have hadd:=qGu (p:=p) oM_ h2.2 (R0.getD i []) (R0.getD top []) ((p:Int) - rw' R0 i c) (qD5 hv oM_) (qD5 hv ht) (by rw [qDg hv ht,hlen];exact Nat.le_refl _) oM_ oM_ oM_
     obtain ⟨R',h3,h4⟩:=ih (i+1) (R.set i (addT p (R0.getD i []) (R0.getD top []) ((p:Int) - rw' R0 i c))) oM_ ⟨by rw [ym_,hRl],fun j hj=>by
      rw [qCe j _ oM_]
      by_cases hji:j=i
      ·rw [if_pos hji,hji,if_pos (Nat.lt_succ_self i)];unfold clr;rw [if_neg h1,if_neg h0]
      ·rw [if_neg hji,hR.at_ j hj]
       by_cases hjl:j<i
       ·rw [if_pos hjl,if_pos oM_]
       ·rw [if_neg hjl,if_neg oM_]⟩
     refine ⟨R',h3,fun r hr=>?_⟩
     refine Ev.step (fun k=>z87.l1.eq_2 ..) ?_
     rw [hval]
     refine qAc oM_ (qAc oM_ (qAc oM_ (qAr oM_ (qAc oM_ (qAc (by rw [qA6,hrow,hlen];omega) (qAr h0 (qAc oM_ (qAc oM_ ?_))))))))
     rw [qA6,qA6,hrow,htop,qAs oM_ oM_,qAw oM_]
     exact Ev.bind hadd (h4 r hr)
 obtain ⟨R',h1,h3⟩:=main R0.length 0 R0 oM_ ⟨rfl,fun j hj=>by rw [if_neg oM_]⟩
 exact ⟨R',h1,h3⟩
structure StI (p n:Nat) (L:List (List Int)) (c:Nat) (R:List (List Int)) (q:List Int):Prop where
 len:R.length=L.length
 vs:Vs (p:Int) n R
 pos:∀ x,x∈q→0≤x
 el:El (p:Int) n L.length (rw' L) c q.length (rw' R) (fun i=>(q.getD i 0).toNat)
theorem qKp (a:Int) (p:Int):p ∣ a % p - a:=by
 have:=Int.dvd_neg.2 (Int.dvd_self_sub_emod (x:=a) (m:=p))
 rwa [show -(a - a % p)=a % p - a by omega] at this
theorem qMk {p n:Nat} (hp:isP p=true) (hn:n≤1048576) {L:List (List Int)} (hm:L.length≤1048576) {c:Nat} (hc:c<n) {R:List (List Int)} {q:List Int} (h:StI p n L c R q) (hq:q.length≤c) (hqm:q.length<L.length) (hne:rw' R q.length c≠0) (det:Int) :
  ∃ R' det',StI p n L (c+1) R' (q ++ [(c:Int)])∧∀ r,Ev (fun k=>z87.l0 k R' (n:Int) (p:Int) (q ++ [(c:Int)]) det' (n:Int) ((c+1:Nat):Int)) r →
   Ev (fun k=>z87.j1 k R (n:Int) (p:Int) q det (q.length:Int) (n:Int) (c:Int) (c:Int)) r:=by
 have h2:=qB3 hp
 have hRl:=h.len
 have htop:=qDg h.vs (i:=q.length) oM_
 have hb:0≤rw' R q.length c∧rw' R q.length c<(p:Int):=qCw (qD5 h.vs (i:=q.length) oM_) (j:=c) oM_
 obtain ⟨a,ha⟩:=Int.eq_ofNat_of_zero_le hb.1
 have hap:a<p:=by omega
 have hinv:=qLj hp hap
 have hcong:=qMr hp hap oM_
 have hbp:a ^ (p - 2) % p<p:=Nat.mod_lt _ oM_
 generalize hbe:a ^ (p - 2) % p=b at hinv hcong hbp
 have hz:Rng p (List.replicate n 0):=fun y hy=>by rw [(List.mem_replicate.1 hy).2];omega
 have hadd:=qGu (p:=p) oM_ h2.2 (List.replicate n 0) (R.getD q.length []) (b:Int) hz (qD5 h.vs oM_) (by rw [htop];simp) (by simpa using hn) oM_ oM_
 generalize hR1:addT p (List.replicate n 0) (R.getD q.length []) (b:Int)=x1 at hadd
 have hx1l:x1.length=n:=by rw [← hR1,qK3];simp
 have hx1r:Rng p x1:=by rw [← hR1];exact qK2 oM_ _ _ _
 have hx1:∀ j,j<n→(p:Int) ∣ x1.getD j 0 - (b:Int) * rw' R q.length j:=fun j hj=>by
  have e:x1.getD j 0=((b:Int) * rw' R q.length j) % (p:Int):=by
   rw [← hR1,qK4 (by simpa using hj)]
   have:(List.replicate n (0:Int)).getD j 0=0:=by simp [ya_,hj]
   rw [this,Int.zero_add];rfl
  rw [e];exact qKp _ _
 have hv1:Vs (p:Int) n (R.set q.length x1):=qLr h.vs _ hx1l hx1r
 obtain ⟨R2,hclr,hgo⟩:=qN4 (β:=(0,0)) hp hn hc hv1 (top:=q.length) (by rw [ym_];omega) (by rw [ym_];omega) q oM_ (Int.tmod (wrap64 (det * (a:Int))) (p:Int))
 have hR2v:=hclr.vs oM_ hv1
 have hR2l:R2.length=L.length:=by rw [hclr.len,ym_,hRl]
 have htop2:R2.getD q.length []=x1:=by
  rw [hclr.at_ _ (by rw [ym_];omega),if_pos (by rw [ym_];omega)]
  unfold clr
  rw [if_pos rfl,qCe _ _ oM_,if_pos rfl]
 have hoth:∀ i,i<L.length→i≠q.length→∀ j,j<n→(p:Int) ∣ rw' R2 i j - (rw' R i j - rw' R i c * rw' R2 q.length j):=fun i hi hne j hj=>by
  have e0:∀ t,rw' (R.set q.length x1) i t=rw' R i t:=fun t=>by unfold rw';rw [qCe _ _ oM_,if_neg hne]
  have e1:R2.getD i []=clr p q.length c (R.set q.length x1) i:=by rw [hclr.at_ _ (by rw [ym_];omega),if_pos (by rw [ym_];omega)]
  have e2:(R.set q.length x1).getD i []=R.getD i []:=by rw [qCe _ _ oM_,if_neg hne]
  have e3:(R.set q.length x1).getD q.length []=x1:=by rw [qCe _ _ oM_,if_pos rfl]
  have e4:rw' R2 q.length j=x1.getD j 0:=by unfold rw' vec;rw [htop2]
  unfold clr at e1
  rw [if_neg hne,e0 c,e2,e3] at e1
  by_cases hz:rw' R i c=0
  ·rw [if_pos hz] at e1
   have:rw' R2 i j=rw' R i j:=by unfold rw';rw [e1]
   rw [this,hz,Int.zero_mul];simp
  ·rw [if_neg hz] at e1
   have:rw' R2 i j=(rw' R i j+((p:Int) - rw' R i c) * x1.getD j 0) % (p:Int):=by
    unfold rw' vec
    rw [e1,qK4 (by rw [qDg h.vs oM_];exact hj)]
    rfl
   rw [this,e4]
   have h5:=qKp (rw' R i j+((p:Int) - rw' R i c) * x1.getD j 0) (p:Int)
   have h6:=yq_ h5 (Int.dvd_mul_right (p:Int) (x1.getD j 0))
   rwa [show (rw' R i j+((p:Int) - rw' R i c) * x1.getD j 0) % (p:Int) - (rw' R i j+((p:Int) - rw' R i c) * x1.getD j 0)+(p:Int) * x1.getD j 0=(rw' R i j+((p:Int) - rw' R i c) * x1.getD j 0) % (p:Int) - (rw' R i j - rw' R i c * x1.getD j 0) by grind] at h6
 have hqs:∀ i,i<q.length→((q ++ [(c:Int)]).getD i 0)=q.getD i 0:=fun i hi=>by
  rw [ya_,List.getElem?_append_left hi,ya_]
 refine ⟨R2,Int.tmod (wrap64 (det * (a:Int))) (p:Int),⟨hR2l,hR2v,fun x hx=>?_,?_⟩,fun r hr=>?_⟩
 ·rcases yv_.1 hx with h1 | h1
  ·exact h.pos x h1
  ·rw [List.mem_singleton.1 h1];omega
 ·rw [List.length_append]
  refine h.el.step hc hqm (b:=(b:Int)) (by rw [ha];exact hcong) (fun j hj=>?_) (fun i j hi hne hj=>hoth i hi hne j hj) (fun i hi=>by rw [hqs i hi]) (by simp) (fun i j hi hj=>?_) (fun i j hi hj=>?_)
  ·have:rw' R2 q.length j=x1.getD j 0:=by unfold rw' vec;rw [htop2]
   rw [this];exact hx1 j hj
  ·exact (qEj hR2v oM_ hj).1
  ·exact (qEj hR2v oM_ hj).2
 ·refine Ev.step (fun k=>z87.j1.eq_2 ..) ?_
  have hrd:rd (rI_ R (q.length:Int)) (c:Int)=(a:Int):=by rw [qA6,qA4,← ha];rfl
  rw [hrd]
  refine qAc oM_ (qAc oM_ (qAc oM_ (qAc (by rw [qA6,htop];omega) (qAr oM_ (qAc oM_ (qAc oM_ (Ev.bind hinv ?_)))))))
  rw [qA6]
  refine Ev.bind (by simpa using hadd) ?_
  have:=hgo r hr
  rw [ym_] at this
  simpa using this
theorem qO8 {p n:Nat} (hp:isP p=true) (hn:n≤1048576) {L:List (List Int)} (hm:L.length≤1048576) (hL:Vs (p:Int) n L) :
  ∃ R q det,Ev (fun k=>z87.f k L (n:Int) (p:Int)) (q,det,R)∧StI p n L n R q:=by
 have h2:=qB3 hp
 unfold z87.f
 have main:∀ (d c:Nat) (R:List (List Int)) (q:List Int) (det:Int),c+d=n→q.length≤c→StI p n L c R q →
   ∃ R' q' det',Ev (fun k=>z87.l0 k R (n:Int) (p:Int) q det (n:Int) (c:Int)) (q',det',R')∧StI p n L n R' q':=by
  intro d
  induction d with
  | zero =>
   intro c R q det hc hq h
   have:c=n:=by omega
   subst this
   refine ⟨R,q,det,?_,h⟩
   refine Ev.step (fun k=>z87.l0.eq_2 ..) ?_
   exact qAr oM_ (Ev.now _)
  | succ d ih =>
   intro c R q det hc hq h
   have hrm:=h.el.g.rm
   have hRl:=h.len
   obtain ⟨t,ht,hd⟩:=qO4 (R.drop q.length) c (fun x hx=>by have:=(h.vs x (List.mem_of_mem_drop hx)).1;omega) (by rw [List.length_drop];omega)
   have hdrop:∀ i,i<(R.drop q.length).length→rw' (R.drop q.length) i c=rw' R (q.length+i) c:=fun i hi=>by
    unfold rw' vec
    rw [ya_ (l:=R.drop q.length),List.getElem?_drop,← ya_]
   have hdl:(R.drop q.length).length=L.length - q.length:=by rw [List.length_drop,hRl]
   rcases hd with ⟨e,hz⟩ | ⟨i,e,hi,hne⟩
   ·subst e
    obtain ⟨R',q',det',h3,h4⟩:=ih (c+1) R q 0 oM_ oM_ ⟨h.len,h.vs,h.pos,h.el.none (fun i h1 h3=>by
     have:=hz (i - q.length) oM_
     rw [hdrop _ oM_,show q.length+(i - q.length)=i by omega] at this;exact this)⟩
    refine ⟨R',q',det',?_,h4⟩
    refine Ev.step (fun k=>z87.l0.eq_2 ..) ?_
    refine qAc oM_ (qAc oM_ (qAc oM_ (Ev.bind (by simpa using ht) (qAc (by decide) ?_))))
    rw [qAw oM_];exact h3
   ·subst e
    rw [hdrop i hi] at hne
    have hqm:q.length<L.length:=by omega
    rcases Nat.eq_zero_or_pos i with h0 | h0
    ·subst h0
     rw [Nat.add_zero] at hne
     obtain ⟨R1,det1,hst,hgo⟩:=qMk hp hn hm oM_ h hq hqm hne det
     obtain ⟨R',q',det',h3,h4⟩:=ih (c+1) R1 (q ++ [(c:Int)]) det1 oM_ (by simp;omega) hst
     refine ⟨R',q',det',?_,h4⟩
     refine Ev.step (fun k=>z87.l0.eq_2 ..) ?_
     refine qAc oM_ (qAc oM_ (qAc oM_ (Ev.bind (by simpa using ht) (qAr (by decide) (qAr (by decide) ?_)))))
     exact hgo _ h3
    ·have g1:(c:Int)<(n:Int):=by omega
     have g2:(0:Int)≤(q.length:Int):=by omega
     have g3:(q.length:Int)≤(R.length:Int):=by omega
     have g4:¬ ((i:Int)<0):=by omega
     have g5:(i:Int) > 0:=by omega
     have g6:(0:Int)≤((q.length+i:Nat):Int):=by omega
     have g7:((q.length+i:Nat):Int)<(R.length:Int):=by omega
     have g8:(q.length:Int)<(R.length:Int):=by omega
     have hs:StI p n L c ((R.set q.length (R.getD (q.length+i) [])).set (q.length+i) (R.getD q.length [])) q:=by
      refine ⟨by simp [hRl],qLr (qLr h.vs _ (qDg h.vs oM_) (qD5 h.vs oM_)) _ (qDg h.vs oM_) (qD5 h.vs oM_),h.pos,?_⟩
      have hat:∀ j,((R.set q.length (R.getD (q.length+i) [])).set (q.length+i) (R.getD q.length [])).getD j []=if j=q.length+i then R.getD q.length [] else if j=q.length then R.getD (q.length+i) [] else R.getD j []:=fun j=>by
       rw [qCe _ _ (by rw [ym_];omega),qCe _ _ oM_]
      refine h.el.swap (a:=q.length+i) oM_ oM_ (fun j=>?_) (fun j=>?_) (fun k j hk h1 h3=>?_)
      ·unfold rw';rw [hat,if_neg oM_,if_pos rfl]
      ·unfold rw';rw [hat,if_pos rfl]
      ·unfold rw';rw [hat,if_neg h3,if_neg h1]
     have hne':rw' ((R.set q.length (R.getD (q.length+i) [])).set (q.length+i) (R.getD q.length [])) q.length c≠0:=by
      have:((R.set q.length (R.getD (q.length+i) [])).set (q.length+i) (R.getD q.length [])).getD q.length []=R.getD (q.length+i) []:=by
       rw [qCe _ _ (by rw [ym_];omega),if_neg oM_,qCe _ _ oM_,if_pos rfl]
      unfold rw';rw [this];exact hne
     have hred:∃ d2,z89.f (wrap64 (-det)) (p:Int)=some d2:=⟨_,by unfold z89.f;rw [if_neg oM_]⟩
     obtain ⟨d2,hd2⟩:=hred
     obtain ⟨R1,det1,hst,hgo⟩:=qMk hp hn hm oM_ hs hq hqm hne' d2
     obtain ⟨R',q',det',h3,h4⟩:=ih (c+1) R1 (q ++ [(c:Int)]) det1 oM_ (by simp;omega) hst
     refine ⟨R',q',det',?_,h4⟩
     refine Ev.step (fun k=>z87.l0.eq_2 ..) ?_
     have hw:wrap64 ((q.length:Int)+(i:Int))=((q.length+i:Nat):Int):=by rw [qAs oM_ oM_];omega
     refine qAc g1 (qAc g2 (qAc g3 (Ev.bind (by simpa using ht) (qAr g4 (qAc g5 ?_)))))
     rw [hw]
     refine qAc g6 (qAc g7 (qAc g8 (Ev.bind (qA1 hd2) ?_)))
     rw [qA6,qA6,yd_,yd_]
     exact hgo _ h3
 obtain ⟨R',q',det',h3,h4⟩:=main n 0 L [] 1 oM_ (by simp) ⟨rfl,hL,fun x hx=>by simp at hx,El.start (fun i j hi hj=>(qEj hL hi hj).1) (fun i j hi hj=>(qEj hL hi hj).2) _⟩
 exact ⟨R',q',det',h3,h4⟩
theorem StI.red {p n:Nat} {L R:List (List Int)} {q:List Int} (h:StI p n L n R q):Red (p:Int) n L (R.take q.length) q:=Red.of h.len h.vs rfl h.pos h.el
end Go.Proofs.YtpgjfppbbbnclaaGreat.B
namespace Go.Proofs.YtpgjfppbbbnclaaGreat.B
open Go.RowKit Go.Proofs.YtpgjfppbbbnclaaGreatW.PrintWords
open LinT
theorem ix {i w j:Nat} (hi:i≤1024) (hw:w≤1024) (hj:j≤1024):wrap64 (wrap64 ((i:Int) * (w:Int))+(j:Int))=((i * w+j:Nat):Int):=by
 have hb:i * w≤1024 * 1024:=yj_ hi hw
 rw [← yi_,qAs (x:=((i * w:Nat):Int)) oM_ oM_,qAs oM_ oM_];omega
theorem rdfl (w:Nat) (X:List Int) (i j:Nat):rd X ((i * w+j:Nat):Int)=fl w X i j:=qA4 X _
section
variable {p w m:Nat} (hp:isP p=true) (hw:w≤1024) (hm:m≤1024) (X0:List Int) (q:List Int) (det:Int)
include hp hw hm
omit hp in
omit hp in
end
end Go.Proofs.YtpgjfppbbbnclaaGreat.B
namespace Go.Proofs.YtpgjfppbbbnclaaGreat.B
open Go.RowKit Go.Proofs.YtpgjfppbbbnclaaGreatW.PrintWords
open LinT
theorem qM4 (l:List Int) (hl:l.length≤1048576):slices_Clone_int64_int64.f l=some l:=by
 unfold slices_Clone_int64_int64.f
 simp
 omega
theorem qL4 {p m n:Nat} {X:List Int} (hX:X.length=m * n) (hm:m≤1024) (hn:n≤1024):Ev (fun k=>z86.f k (p:Int) (m:Int) (n:Int) X) (unfl n m X):=by
 unfold z86.f
 refine qHk (fun s i k=>z86.l0 k s (m:Int) (i:Int) (p:Int) (m:Int) (n:Int) X) (fun i=>(X.drop (i * n)).take n) m (fun i s hi hs r hr=>?_) _ ?_
 ·have hsl:s.length=i:=by rw [hs];simp
  have hrl:=qEu hX hi
  refine Ev.step (fun k=>z86.l0.eq_2 ..) ?_
  refine qAc oM_ (Ev.bind (qA1 (qL5 _ hX hm hn hi)) (Ev.bind (qA1 (qM4 _ oM_)) (qAc oM_ ?_)))
  rw [qAw oM_];exact hr
 ·refine Ev.step (fun k=>z86.l0.eq_2 ..) ?_
  exact qAr oM_ (Ev.now _)
theorem qMt {α:Type} (z:α) (L:List α) {r i:Nat} (h:i<r):(L.take r).getD i z=L.getD i z:=by
 rw [ya_,ya_,List.getElem?_take_of_lt h]
theorem qOv {p:Int} {n:Nat} {L B:List (List Int)} {q:List Int} (h:Red p n L B q) {i:Nat} (hi:i<q.length):0≤q.getD i 0∧q.getD i 0<(n:Int):=by
 have h1:=h.pos _ (qA3 0 hi)
 have h2:=h.rref.lt i (by rw [← h.len];exact hi)
 exact ⟨h1,by omega⟩
end Go.Proofs.YtpgjfppbbbnclaaGreat.B
namespace Go.Proofs.YtpgjfppbbbnclaaGreat.B
open Go.RowKit Go.Proofs.YtpgjfppbbbnclaaGreatW.PrintWords
open LinT
def augL (m n:Nat) (X b:List Int):List (List Int):=(List.range m).map fun i=>(X.drop (i * n)).take n ++ [b.getD i 0]
theorem qCr (m n:Nat) (X b:List Int):(augL m n X b).length=m:=by simp [augL]
theorem qN6 {m n:Nat} {X b:List Int} {i:Nat} (hi:i<m):(augL m n X b).getD i []=(X.drop (i * n)).take n ++ [b.getD i 0]:=by
 unfold augL
 rw [ya_,List.getElem?_map,List.getElem?_range hi];rfl
theorem qPe {p m n:Nat} {X b:List Int} (hX:X.length=m * n) (hR:Rng p X) (hb:b.length=m) (hbr:Rng p b):Vs (p:Int) (n+1) (augL m n X b):=by
 intro x hx
 obtain ⟨i,hi,rfl⟩:=ys_.1 hx
 have him:=yc_.1 hi
 refine ⟨by rw [List.length_append,qEu hX him];rfl,fun y hy=>?_⟩
 rcases yv_.1 hy with h | h
 ·exact hR y (List.mem_of_mem_drop (List.mem_of_mem_take h))
 ·rw [List.mem_singleton.1 h];exact qCw hbr oM_
def solG (B:List (List Int)) (q:List Int) (n:Nat):Nat→Nat→List Int→List Int × Bool
 | 0,_,s=>(s,true)
 | d+1,i,s=>if q.getD i 0=(n:Int) then ([],false) else solG B q n d (i+1) (s.set (q.getD i 0).toNat ((B.getD i []).getD n 0))
def solC (B:List (List Int)) (q:List Int) (n:Nat):List Int × Bool:=solG B q n q.length 0 (List.replicate n 0)
theorem qLz {p m n:Nat} (hp:isP p=true) {X b:List Int} (hX:X.length=m * n) (hR:Rng p X) (hb:b.length=m) (hbr:Rng p b) (hm:m≤1000) (hn:n≤1000) :
  ∃ B q,Red (p:Int) (n+1) (augL m n X b) B q∧Ev (fun k=>z75.f k (p:Int) (m:Int) (n:Int) X b) (solC B q n):=by
 have hvs:=qPe hX hR hb hbr
 obtain ⟨R,q,det,hE,hst⟩:=qO8 hp (n:=n+1) (L:=augL m n X b) oM_ (by rw [qCr];omega) hvs
 have hred:=hst.red
 refine ⟨R.take q.length,q,hred,?_⟩
 have hRl:=hst.len
 rw [qCr] at hRl
 have hqm:=hst.el.g.rm
 rw [qCr] at hqm
 unfold z75.f
 refine Ev.bind (qL4 hX oM_ oM_) ?_
 -- the last part
 have hl1:∀ (d i:Nat) (s:List Int),i+d=q.length→s.length=n→Ev (fun k=>z75.l1 k R s q (q.length:Int) (i:Int) (p:Int) (m:Int) (n:Int) X) (solG (R.take q.length) q n d i s):=by
  intro d
  induction d with
  | zero =>
   intro i s hi hs
   refine Ev.step (fun k=>z75.l1.eq_2 ..) ?_
   exact qAr oM_ (Ev.now _)
  | succ d ih =>
   intro i s hi hs
   have hqi:=qOv hred (i:=i) oM_
   have hrl:=qDg hst.vs (i:=i) oM_
   unfold solG
   refine Ev.step (fun k=>z75.l1.eq_2 ..) ?_
   rw [qA4,qA6,qA4]
   by_cases h:q.getD i 0=(n:Int)
   ·rw [if_pos h]
    exact qAc oM_ (qAc oM_ (qAc oM_ (qAc h (Ev.now _))))
   ·rw [if_neg h]
    refine qAc oM_ (qAc oM_ (qAc oM_ (qAr h (qAc oM_ (qAc oM_ (qAc oM_ (qAc oM_ (qAc oM_ ?_))))))))
    rw [qAw oM_,qMt [] R (show i<q.length by omega)]
    exact ih (i+1) _ oM_ (by rw [ym_];exact hs)
 -- the rows get a further number
 have hl0:∀ (d i:Nat) (W:List (List Int)),i+d=m→W=(augL i n X b) ++ (unfl n m X).drop i→Ev (fun k=>z75.l0 k b W (m:Int) (i:Int) (p:Int) (m:Int) (n:Int) X) (solC (R.take q.length) q n):=by
  intro d
  induction d with
  | zero =>
   intro i W hi hW
   have:i=m:=by omega
   subst this
   have hWe:W=augL i n X b:=by
    rw [hW,List.drop_of_length_le (by rw [qDv];exact Nat.le_refl _),List.append_nil]
   rw [hWe]
   have e:wrap64 ((n:Int)+1)=((n+1:Nat):Int):=qAw oM_
   refine Ev.step (fun k=>z75.l0.eq_2 ..) ?_
   rw [e]
   clear e
   refine qAr oM_ (Ev.bind hE (qAc oM_ (qAc oM_ ?_)))
   rw [yd_]
   exact hl1 q.length 0 _ oM_ (by simp)
  | succ d ih =>
   intro i W hi hW
   have hWi:W.getD i []=(X.drop (i * n)).take n:=by
    rw [hW,ya_,List.getElem?_append_right (by rw [qCr];exact Nat.le_refl _),qCr,Nat.sub_self,List.getElem?_drop,Nat.add_zero]
    unfold unfl
    rw [List.getElem?_map,List.getElem?_range oM_];rfl
   have hrl:=qEu hX (show i<m by omega)
   have hWl:W.length=m:=by rw [hW,List.length_append,qCr,List.length_drop,qDv];omega
   have hnext:=ih (i+1) (W.set i ((X.drop (i * n)).take n ++ [b.getD i 0])) oM_ (by
    rw [hW,List.set_append_right _ _ (by rw [qCr];exact Nat.le_refl _),qCr,Nat.sub_self]
    have hd:(unfl n m X).drop i=((unfl n m X).getD i []) :: (unfl n m X).drop (i+1):=by
     rw [List.drop_eq_getElem_cons (by rw [qDv];omega),ya_,yb_ (by rw [qDv];omega)];rfl
    rw [hd,List.set_cons_zero]
    have ha:augL (i+1) n X b=augL i n X b ++ [(X.drop (i * n)).take n ++ [b.getD i 0]]:=by
     unfold augL
     rw [List.range_succ,List.map_append];rfl
    rw [ha,List.append_assoc];rfl)
   refine Ev.step (fun k=>z75.l0.eq_2 ..) ?_
   rw [qA6,qA4,hWi]
   refine qAc oM_ (qAc oM_ (qAc oM_ (qAc oM_ (qAc oM_ ?_))))
   rw [qAw oM_,yd_]
   exact hnext
 have h:=hl0 m 0 (unfl n m X) oM_ (by simp [augL])
 rw [qDv]
 exact h
end Go.Proofs.YtpgjfppbbbnclaaGreat.B
namespace Go.Proofs.YtpgjfppbbbnclaaGreat.B
open Go.RowKit Go.Proofs.YtpgjfppbbbnclaaGreatW.PrintWords
def has (s:List Int) (x:Int):Bool:=s.any (fun z=>z == x)
end Go.Proofs.YtpgjfppbbbnclaaGreat.B
namespace Go.Proofs.YtpgjfppbbbnclaaGreat.B
open Go.RowKit Go.Proofs.YtpgjfppbbbnclaaGreatW.PrintWords
open LinT
end Go.Proofs.YtpgjfppbbbnclaaGreat.B
namespace Go.Proofs.YtpgjfppbbbnclaaGreat.B
open Go.RowKit Go.Proofs.YtpgjfppbbbnclaaGreatW.PrintWords
open LinT
theorem qG8 {P:Nat→Nat} {g:Nat→Int}:∀ (t:Nat) (s:List Int),(∀ i,i<t→P i<s.length)→(∀ i j,i<t→j<t→P i=P j→i=j) →
  (iter (fun i s=>s.set (P i) (g i)) 0 t s).length=s.length∧(∀ i,i<t→(iter (fun i s=>s.set (P i) (g i)) 0 t s).getD (P i) 0=g i)∧∀ j,(∀ i,i<t→P i≠j)→(iter (fun i s=>s.set (P i) (g i)) 0 t s).getD j 0=s.getD j 0
 | 0,s,_,_=>⟨rfl,fun i hi=>absurd hi (Nat.not_lt_zero i),fun _ _=>rfl⟩
 | t+1,s,hP,hinj=>by
  obtain ⟨h1,h2,h3⟩:=qG8 (P:=P) (g:=g) t s (fun i hi=>hP i oM_) (fun i j hi hj=>hinj i j oM_ oM_)
  have hl:=hP t oM_
  rw [qE0,Nat.zero_add]
  refine ⟨by rw [ym_,h1],fun i hi=>?_,fun j hj=>?_⟩
  ·rw [qD0 _ _ _ _ (by rw [h1];exact hl)]
   by_cases e:i=t
   ·subst e;rw [if_pos rfl]
   ·rw [if_neg (fun h=>e (hinj i t hi oM_ h)),h2 i oM_]
  ·rw [qD0 _ _ _ _ (by rw [h1];exact hl),if_neg (fun h=>hj t oM_ h.symm),h3 j (fun i hi=>hj i oM_)]
theorem qHd {p:Int} {n:Nat} {S T:Vec→Prop} (h:∀ v,S v↔T v) (v:Vec):Perp p n S v↔Perp p n T v :=
 ⟨fun hv s hs=>hv s ((h s).2 hs),fun hv s hs=>hv s ((h s).1 hs)⟩
end Go.Proofs.YtpgjfppbbbnclaaGreat.B
namespace Go.Proofs.YtpgjfppbbbnclaaGreat.B
open Go.RowKit Go.Proofs.YtpgjfppbbbnclaaGreatW.PrintWords
open LinT
theorem qIu (B:List (List Int)) (q:List Int) (n:Nat):∀ (d i:Nat) (s:List Int),(∀ j,i≤j→j<i+d→q.getD j 0≠(n:Int))→solG B q n d i s=(iter (fun i s=>s.set (q.getD i 0).toNat ((B.getD i []).getD n 0)) i d s,true)
 | 0,_,_,_=>rfl
 | d+1,i,s,h=>by
  unfold solG
  rw [if_neg (h i (Nat.le_refl _) oM_),qIu B q n d (i+1) _ (fun j h1 h2=>h j oM_ oM_)]
  rfl
theorem qG7 (B:List (List Int)) (q:List Int) (n:Nat):∀ (d i:Nat) (s:List Int),(∃ j,i≤j∧j<i+d∧q.getD j 0=(n:Int))→solG B q n d i s=([],false)
 | 0,i,s,h=>by obtain ⟨j,h1,h2,_⟩:=h;omega
 | d+1,i,s,h=>by
  unfold solG
  by_cases e:q.getD i 0=(n:Int)
  ·rw [if_pos e]
  ·rw [if_neg e]
   obtain ⟨j,h1,h2,h3⟩:=h
   exact qG7 B q n d (i+1) _ ⟨j,by
    rcases Nat.eq_or_lt_of_le h1 with h4 | h4
    ·subst h4;exact absurd h3 e
    ·exact h4,by omega,h3⟩
theorem qPd {m n:Nat} {X b:List Int} (hX:X.length=m * n) {i:Nat} (hi:i<m):(∀ j,j<n→rw' (augL m n X b) i j=fl n X i j)∧rw' (augL m n X b) i n=b.getD i 0:=by
 have hl:=qEu hX hi
 unfold rw' vec
 rw [qN6 hi]
 refine ⟨fun j hj=>?_,?_⟩
 ·rw [ya_,List.getElem?_append_left oM_,← ya_]
  exact qKd X i hj
 ·rw [ya_,List.getElem?_append_right oM_,hl,Nat.sub_self];rfl
theorem qKz {p:Int} {m n:Nat} {X b:List Int} (hX:X.length=m * n) (z:Vec):Perp p (n+1) (Span p (n+1) ((augL m n X b).map vec)) z↔∀ i,i<m→p ∣ sm (fun j=>fl n X i j * z j) n+z n * b.getD i 0:=by
 have e:∀ i,i<m→dt (n+1) z (rw' (augL m n X b) i)=sm (fun j=>fl n X i j * z j) n+z n * b.getD i 0:=fun i hi=>by
  obtain ⟨h1,h2⟩:=qPd (b:=b) hX hi
  show sm (fun j=>z j * rw' (augL m n X b) i j) n+z n * rw' (augL m n X b) i n=_
  rw [h2,qBe n (g:=fun j=>fl n X i j * z j) fun j hj=>by rw [h1 j hj,Int.mul_comm]]
 rw [← qCv,qCr,qI3]
 constructor
 ·intro h i hi
  have:=h _ (qBr (R:=rw' (augL m n X b)) hi)
  rwa [e i hi] at this
 ·intro h x hx
  obtain ⟨i,hi,rfl⟩:=qCn hx
  rw [e i hi]
  exact h i hi
theorem qK9 {p m n:Nat} (hp:isP p=true) {X b:List Int} (hX:X.length=m * n) {B:List (List Int)} {q:List Int} (h:Red (p:Int) (n+1) (augL m n X b) B q) :
  (∃ y,solC B q n=(y,true)∧y.length=n∧Rng p y∧∀ i,i<m→(p:Int) ∣ sm (fun j=>fl n X i j * y.getD j 0) n - b.getD i 0) ∨
  (solC B q n=([],false)∧¬ ∃ x:Vec,∀ i,i<m→(p:Int) ∣ sm (fun j=>fl n X i j * x j) n - b.getD i 0):=by
 have hr:=h.rref
 have hql:=h.len
 have h2:=qB3 hp
 by_cases hpiv:∃ j,j<q.length∧q.getD j 0=(n:Int)
 ·right
  obtain ⟨j,hj,hjn⟩:=hpiv
  refine ⟨qG7 B q n q.length 0 _ ⟨j,Nat.zero_le _,by omega,hjn⟩,?_⟩
  rintro ⟨x,hx⟩
  have hz:=(qKz (p:=(p:Int)) (b:=b) hX (fun t=>if t<n then x t else -1)).2 (fun i hi=>by
   have:=hx i hi
   rw [if_neg (Nat.lt_irrefl n),qBe n (g:=fun t=>fl n X i t * x t) fun t ht=>by rw [if_pos ht]]
   rwa [show sm (fun t=>fl n X i t * x t) n+-1 * b.getD i 0=sm (fun t=>fl n X i t * x t) n - b.getD i 0 by omega])
  rw [← qHd h.span] at hz
  have hrow:=hz _ (qBn (List.mem_map_of_mem (qA3 ([]:List Int) (show j<B.length by omega))))
  have hpre:=hr.pre j
  have hone:=hr.one j oM_
  have hq0:(q.getD j 0).toNat=n:=by omega
  have hone':(p:Int) ∣ rw' B j n - 1:=by
   have h9:(p:Int) ∣ rw' B j ((q.getD j 0).toNat) - 1:=hone
   rwa [hq0] at h9
  have hsum:(p:Int) ∣ sm (fun t=>(if t<n then x t else -1) * rw' B j t) n:=qEo n fun t ht=>qA8 _ (hr.pre j t oM_ (by show t<(q.getD j 0).toNat;omega))
  have e:dt (n+1) (fun t=>if t<n then x t else -1) (rw' B j)=sm (fun t=>(if t<n then x t else -1) * rw' B j t) n+-1 * rw' B j n:=by
   show sm _ n+(if n<n then x n else -1) * rw' B j n=_
   rw [if_neg (Nat.lt_irrefl n)]
  have hrow':(p:Int) ∣ dt (n+1) (fun t=>if t<n then x t else -1) (rw' B j):=hrow
  rw [e] at hrow'
  have h5:=Int.dvd_sub hsum hrow'
  rw [show sm (fun t=>(if t<n then x t else -1) * rw' B j t) n - (sm (fun t=>(if t<n then x t else -1) * rw' B j t) n+-1 * rw' B j n)=rw' B j n by omega] at h5
  have h6:=Int.dvd_sub h5 hone'
  rw [show rw' B j n - (rw' B j n - 1)=1 by omega] at h6
  exact (pr_of hp).1 h6
 ·left
  have hne:∀ j,j<q.length→q.getD j 0≠(n:Int):=fun j hj e=>hpiv ⟨j,hj,e⟩
  have hlt:∀ j,j<q.length→(q.getD j 0).toNat<n:=fun j hj=>by
   have h1:=(qOv h (i:=j) hj)
   have:=hne j hj
   omega
  obtain ⟨s1,s2,s3⟩:=qG8 (P:=fun i=>(q.getD i 0).toNat) (g:=fun i=>(B.getD i []).getD n 0) q.length (List.replicate n 0) (fun i hi=>by rw [yk_];exact hlt i hi) (fun i j hi hj e=>by
   have e':(q.getD i 0).toNat=(q.getD j 0).toNat:=e
   rcases Nat.lt_trichotomy i j with hl | he | hg
   ·have h9:(q.getD i 0).toNat<(q.getD j 0).toNat:=hr.mono i j hl oM_
    omega
   ·exact he
   ·have h9:(q.getD j 0).toNat<(q.getD i 0).toNat:=hr.mono j i hg oM_
    omega)
  have hsol:solC B q n=(iter (fun i s=>s.set (q.getD i 0).toNat ((B.getD i []).getD n 0)) 0 q.length (List.replicate n 0),true):=qIu B q n q.length 0 _ (fun j _ hj=>hne j oM_)
  generalize hy:iter (fun i s=>s.set (q.getD i 0).toNat ((B.getD i []).getD n 0)) 0 q.length (List.replicate n 0)=y at s1 s2 s3 hsol
  rw [yk_] at s1
  have hrep:∀ j,(List.replicate n (0:Int)).getD j 0=0:=fun j=>by
   rw [ya_,List.getElem?_replicate]
   split <;> rfl
  have hrng:Rng p y:=by
   intro v hv
   obtain ⟨j,hj,rfl⟩:=List.mem_iff_getElem.1 hv
   have e:y[j]=y.getD j 0:=by rw [ya_,yb_ hj];rfl
   rw [e]
   by_cases hp2:∃ i,i<q.length∧(q.getD i 0).toNat=j
   ·obtain ⟨i,hi,rfl⟩:=hp2
    rw [s2 i hi]
    exact qEj h.vs (i:=i) (j:=n) oM_ oM_
   ·rw [s3 j (fun i hi e=>hp2 ⟨i,hi,e⟩),hrep]
    omega
  refine ⟨y,hsol,s1,hrng,?_⟩
  have hker:KerVec (p:Int) (n+1) B.length (rw' B) (fun i=>(q.getD i 0).toNat) n (fun t=>if t<n then -(y.getD t 0) else 1):=by
   refine ⟨?_,fun i hi=>?_,fun j hj hne2 hq=>?_⟩
   ·show (p:Int) ∣ (if n<n then -(y.getD n 0) else 1) - 1
    rw [if_neg (Nat.lt_irrefl n)]
    exact yn_ _
   ·show (p:Int) ∣ (if (q.getD i 0).toNat<n then -(y.getD (q.getD i 0).toNat 0) else 1)+rw' B i n
    rw [if_pos (hlt i oM_),s2 i oM_]
    have:rw' B i n=(B.getD i []).getD n 0:=rfl
    rw [this,show -(B.getD i []).getD n 0+(B.getD i []).getD n 0=0 by omega]
    exact yn_ _
   ·show (p:Int) ∣ (if j<n then -(y.getD j 0) else 1)
    rw [if_pos oM_,s3 j (fun i hi=>hq i oM_),hrep]
    exact yn_ _
  have hperp:=hker.perp hr (show n<n+1 by omega) (fun i hi e=>hne i oM_ (by
   have h1:=(qOv h (i:=i) oM_)
   have e':(q.getD i 0).toNat=n:=e
   omega))
  rw [qCv,qHd h.span] at hperp
  intro i hi
  have:=(qKz (b:=b) hX _).1 hperp i hi
  rw [if_neg (Nat.lt_irrefl n),qBe n (g:=fun t=>(-1) * (fl n X i t * y.getD t 0)) fun t ht=>by rw [if_pos ht,Int.mul_neg,Int.neg_mul,Int.one_mul],qFl] at this
  have h9:=Int.dvd_neg.2 this
  rwa [show -(-1 * sm (fun t=>fl n X i t * y.getD t 0) n+1 * b.getD i 0)=sm (fun t=>fl n X i t * y.getD t 0) n - b.getD i 0 by omega] at h9
end Go.Proofs.YtpgjfppbbbnclaaGreat.B
namespace Go.Proofs.YtpgjfppbbbnclaaGreat.B
open Go.RowKit Go.Proofs.YtpgjfppbbbnclaaGreatW.PrintWords
open LinT
def mulV (p:Nat) (m n:Nat) (X v:List Int):List Int:=(List.range m).map fun i=>sm (fun j=>fl n X i j * v.getD j 0) n % (p:Int)
theorem qH1 {f:Nat→Int} {b:Int}:∀ n,(∀ j,j<n→0≤f j∧f j≤b)→0≤sm f n∧sm f n≤(n:Int) * b
 | 0,_=>by simp [sm]
 | n+1,h=>by
  have h1:=qH1 n (fun j hj=>h j oM_)
  have h2:=h n oM_
  show 0≤sm f n+f n∧sm f n+f n≤_
  have e:((n+1:Nat):Int) * b=(n:Int) * b+b:=by rw [Int.natCast_add,Int.add_mul];simp
  rw [e];omega
theorem qHc {p:Nat} (hp:p≤251) {a b:Int} (ha:0≤a∧a<(p:Int)) (hb:0≤b∧b<(p:Int)):0≤a * b∧a * b≤62500 :=
 ⟨Int.mul_nonneg ha.1 hb.1,Int.le_trans (Int.mul_le_mul (show a≤250 by omega) (show b≤250 by omega) hb.1 (by decide)) (by decide)⟩
theorem dot_ev {p:Nat} (hp0:2≤p) (hp:p≤251) (x y:List Int) (hx:Rng p x) (hy:Rng p y) (hl:x.length≤y.length) (hm:x.length≤1048576) :
  Ev (fun k=>z65.f k x y (p:Int)) (sm (fun j=>x.getD j 0 * y.getD j 0) x.length % (p:Int)):=by
 unfold z65.f
 have main:∀ (d j:Nat),j+d=x.length→Ev (fun k=>z65.l0 k x y (p:Int) (sm (fun j=>x.getD j 0 * y.getD j 0) j % (p:Int)) (x.length:Int) (j:Int)) (sm (fun j=>x.getD j 0 * y.getD j 0) x.length % (p:Int)):=by
  intro d
  induction d with
  | zero =>
   intro j hj
   have:j=x.length:=by omega
   subst this
   refine Ev.step (fun k=>z65.l0.eq_2 ..) ?_
   exact qAr oM_ (Ev.now _)
  | succ d ih =>
   intro j hj
   have h:=ih (j+1) oM_
   have hb:=qHc hp (qCw hx (j:=j) oM_) (qCw hy (j:=j) oM_)
   have h1:=Int.emod_nonneg (sm (fun j=>x.getD j 0 * y.getD j 0) j) (b:=(p:Int)) oM_
   have h2:=Int.emod_lt_of_pos (sm (fun j=>x.getD j 0 * y.getD j 0) j) (b:=(p:Int)) oM_
   refine Ev.step (fun k=>z65.l0.eq_2 ..) ?_
   rw [qA4,qA4]
   (repeat (first | refine qAc oM_ ?_ | refine qAr oM_ ?_))
   rw [qAw oM_,qAs (x:=x.getD j 0 * y.getD j 0) oM_ oM_,qAs oM_ oM_,qC8 oM_,Int.emod_add_emod]
   exact h
 have h:=main x.length 0 oM_
 simpa [sm] using h
theorem qK0 {p m n:Nat} (hp0:2≤p) (hp:p≤251) {X v:List Int} (hX:X.length=m * n) (hr:Rng p X) (hv:v.length=n) (hvr:Rng p v) (hm:m≤1024) (hn:n≤1024) :
  Ev (fun k=>z35.f k (p:Int) (m:Int) (n:Int) X v) (mulV p m n X v):=by
 unfold z35.f
 refine qHk (fun s i k=>z35.l0 k v s (m:Int) (i:Int) (p:Int) (m:Int) (n:Int) X) (fun i=>sm (fun j=>fl n X i j * v.getD j 0) n % (p:Int)) m (fun i s hi hs r hr'=>?_) _ ?_
 ·have hsl:s.length=i:=by rw [hs];simp
  have hrl:=qEu hX hi
  have hd:=dot_ev (p:=p) hp0 hp ((X.drop (i * n)).take n) v (fun y hy=>hr y (List.mem_of_mem_drop (List.mem_of_mem_take hy))) hvr oM_ oM_
  rw [hrl,qBe n (fun j hj=>by rw [qKd X i hj])] at hd
  refine Ev.step (fun k=>z35.l0.eq_2 ..) ?_
  refine qAc oM_ (Ev.bind (qA1 (qL5 _ hX hm hn hi)) (Ev.bind hd (qAc oM_ ?_)))
  rw [qAw oM_];exact hr'
 ·refine Ev.step (fun k=>z35.l0.eq_2 ..) ?_
  exact qAr oM_ (Ev.now _)
end Go.Proofs.YtpgjfppbbbnclaaGreat.B
namespace Go.Proofs.YtpgjfppbbbnclaaGreat.B
open Go.RowKit Go.Proofs.YtpgjfppbbbnclaaGreatW.PrintWords
open LinT
def vecC (l:List Int) (n p:Int):Bool:=decide ((l.length:Int)=n) && l.all fun y=>decide (0≤y) && decide (y≤p - 1)
theorem qKc {l:List Int} {n p:Nat}:vecC l (n:Int) (p:Int)=true↔l.length=n∧Rng p l:=by
 unfold vecC Rng
 rw [ye_,yf_,yo_]
 constructor
 ·rintro ⟨h1,h2⟩
  refine ⟨by omega,fun y hy=>?_⟩
  have:=h2 y hy
  rw [ye_,yf_,yf_] at this
  omega
 ·rintro ⟨h1,h2⟩
  refine ⟨by omega,fun y hy=>?_⟩
  have:=h2 y hy
  rw [ye_,yf_,yf_]
  omega
theorem qEx {p:Nat} (hp:p≤251) (a:Int):Ev (fun k=>z130.f a (p:Int)) (!(decide (0≤a) && decide (a≤(p:Int) - 1))):=by
 unfold z130.f z131.f
 rw [qAs oM_ oM_]
 exact Ev.bind (a:=decide (0≤a) && decide (a≤(p:Int) - 1)) (Ev.bind (qA1 (qDu _ _ _)) (Ev.now _)) (Ev.now _)
theorem qIl {p:Nat} (hq:p≤251) (l:List Int) (hl:l.length≤1048576):Ev (fun k=>z156.f k l (p:Int)) (l.any fun a=>!(decide (0≤a) && decide (a≤(p:Int) - 1))):=by
 obtain ⟨t,ht,hd⟩:=qCq (l) 0 (fun i k=>z157.l0 k (l) ((l).length:Int) (i:Int) (p:Int)) (fun a=>!(decide (0≤a) && decide (a≤(p:Int) - 1))) (fun j hj hp r hr=>by
   refine Ev.step (fun k=>z157.l0.eq_2 ..) ?_
   refine qAc oM_ (qAc oM_ (qAc oM_ ?_))
   rw [qA4,qAw oM_]
   exact Ev.bind (qEx hq _) (qAr (by rw [hp];decide) hr)) (fun j hj hp=>by
   refine Ev.step (fun k=>z157.l0.eq_2 ..) ?_
   refine qAc oM_ (qAc oM_ (qAc oM_ ?_))
   rw [qA4]
   exact Ev.bind (qEx hq _) (qAc hp (Ev.now _))) (by
   refine Ev.step (fun k=>z157.l0.eq_2 ..) ?_
   exact qAr oM_ (Ev.now _))
 unfold z156.f z157.f
 refine Ev.bind ht (qBp (Ev.now _) hd)
theorem qG5 {p:Nat} (hp:p≤251) (l:List Int) (hl:l.length≤1048576):Ev (fun k=>z122.f k l (p:Int)) (l.all fun y=>decide (0≤y) && decide (y≤(p:Int) - 1)):=by
 unfold z122.f
 refine Ev.bind (qIl hp l hl) (qBp (Ev.now _) ?_)
 rw [List.any_eq_not_all_not];simp
theorem qJz {p:Nat} (hp:p≤251) (l:List Int) (n:Int) (hl:l.length≤1048576):Ev (fun k=>z98.f k l n (p:Int)) (vecC l n (p:Int)):=by
 unfold z98.f vecC
 refine Ev.bind (qA1 (r:=(l.length:Int)) rfl) ?_
 by_cases h:(l.length:Int)=n
 ·refine qAc h (Ev.bind (qG5 hp l hl) (qBp (Ev.now _) ?_))
  rw [decide_eq_true h,Bool.true_and]
 ·refine qBp (qAr h (Ev.now _)) ?_
  rw [decide_eq_false h,Bool.false_and]
end Go.Proofs.YtpgjfppbbbnclaaGreat.B
namespace Go.Proofs.YtpgjfppbbbnclaaGreat.B
open Go.RowKit Go.Proofs.YtpgjfppbbbnclaaGreatW.PrintWords
open LinT
theorem qM2 {p:Nat} (hp:p≤251) (l:List Int) (n:Int) (hl:l.length≤1048576):Ev (fun k=>z105.f k l n (p:Int)) (vecC l n (p:Int)):=by
 unfold z105.f vecC
 rw [Bool.and_comm,← qE9 l 0]
 have hw:wrap64 ((p:Int) - 1)=(p:Int) - 1:=qAs oM_ oM_
 refine qEg (fun (i:Nat) k=>z105.l0 k l n (p:Int) (i:Int)) (fun i=>decide (0≤l.getD i 0) && decide (l.getD i 0≤(p:Int) - 1)) (decide ((l.length:Int)=n)) l.length (fun j hj _ hp' r hr=>?_) (fun j hj _ hp'=>?_) (fun _=>?_)
 ·refine Ev.step (fun k=>z105.l0.eq_2 ..) ?_
  rw [hw,qA4]
  clear hw
  refine qAc oM_ (qAc oM_ (Ev.bind (qA1 (qE1 _ _ _)) (qAc hp' ?_)))
  rw [qAw oM_];exact hr
 ·refine Ev.step (fun k=>z105.l0.eq_2 ..) ?_
  rw [hw,qA4]
  clear hw
  exact qAc oM_ (qAc oM_ (Ev.bind (qA1 (qE1 _ _ _)) (qAr (by rw [hp'];decide) (Ev.now _))))
 ·refine Ev.step (fun k=>z105.l0.eq_2 ..) ?_
  exact qBp (qAr oM_ (Ev.now _)) (by rw [Bool.beq_eq_decide_eq])
end Go.Proofs.YtpgjfppbbbnclaaGreat.B
namespace Go.Proofs.YtpgjfppbbbnclaaGreat.B
open Go.RowKit Go.Proofs.YtpgjfppbbbnclaaGreatW.PrintWords
open LinT
end Go.Proofs.YtpgjfppbbbnclaaGreat.B
namespace Go.Proofs.YtpgjfppbbbnclaaGreat.B
open Go.RowKit Go.Proofs.YtpgjfppbbbnclaaGreatW.PrintWords
theorem qHe (a:Int):Ev (fun k=>z103.f a) (a != 0):=qA1 rfl
theorem qIj (l:List Int) (hl:l.length≤1048576):Ev (fun k=>z159.f k l) (l.any fun a=>a != 0):=by
 obtain ⟨t,ht,hd⟩:=qCq (l) 0 (fun i k=>z160.l0 k (l) ((l).length:Int) (i:Int) ) (fun a=>a != 0) (fun j hj hp r hr=>by
   refine Ev.step (fun k=>z160.l0.eq_2 ..) ?_
   refine qAc oM_ (qAc oM_ (qAc oM_ ?_))
   rw [qA4,qAw oM_]
   exact Ev.bind (qHe _) (qAr (by rw [hp];decide) hr)) (fun j hj hp=>by
   refine Ev.step (fun k=>z160.l0.eq_2 ..) ?_
   refine qAc oM_ (qAc oM_ (qAc oM_ ?_))
   rw [qA4]
   exact Ev.bind (qHe _) (qAc hp (Ev.now _))) (by
   refine Ev.step (fun k=>z160.l0.eq_2 ..) ?_
   exact qAr oM_ (Ev.now _))
 unfold z159.f z160.f
 refine Ev.bind ht (qBp (Ev.now _) hd)
theorem qMo (l:List Int) (hl:l.length≤1048576):Ev (fun k=>z72.f k l) (l.all fun a=>a == 0):=by
 unfold z72.f
 refine Ev.bind (qIj l hl) (qBp (Ev.now _) ?_)
 rw [List.any_eq_not_all_not];simp [bne]
end Go.Proofs.YtpgjfppbbbnclaaGreat.B
namespace Go.Proofs.YtpgjfppbbbnclaaGreat.B
open Go.RowKit Go.Proofs.YtpgjfppbbbnclaaGreatW.PrintWords
open SimT LinT
def askV (C:List (List Int)) (d p:Int) (ch:List Int):Int:=if askD C d p=0 then (if vecC ch ((qAv C d).length:Int) p=true then 0 else 7) else askD C d p
section
variable {C:List (List Int)} (hl:C.length≤1048576) (hr:∀ x∈C,x.length≤1048576)
include hl hr
theorem qDf (d p:Int) (ch:List Int) (hc:ch.length≤1048576):Ev (fun k=>z34.f k C d p ch) (askV C d p ch):=by
 unfold z34.f askV
 refine Ev.bind (qFj hl hr d p) ?_
 by_cases hz:askD C d p=0
 ·obtain ⟨ho,hpp,h0,h3,_⟩:=qJn hz
  obtain ⟨n,rfl,hp1⟩:=qH6.1 hpp
  refine qBp (qAc hz ?_) (if_pos hz).symm
  unfold z64.f
  refine Ev.bind (a:=vecC ch ((qAv C d).length:Int) (n:Int)) (Ev.bind (qBm hl oM_ oM_) (Ev.bind (qA1 (qEq _)) (Ev.bind (qJz (qB3 hp1).2 ch _ hc) (Ev.now _)))) ?_
  cases hv:vecC ch ((qAv C d).length:Int) (n:Int) with
  | true=>exact qAc rfl (Ev.now _)
  | false=>exact qAr (by decide) (Ev.now _)
 ·exact qBp (qAr hz (Ev.now _)) (if_neg hz).symm
end
end Go.Proofs.YtpgjfppbbbnclaaGreat.B
namespace Go.Proofs.YtpgjfppbbbnclaaGreat.B
open Go.RowKit Go.Proofs.YtpgjfppbbbnclaaGreatW.PrintWords
end Go.Proofs.YtpgjfppbbbnclaaGreat.B
namespace Go.Proofs.YtpgjfppbbbnclaaGreat.B
open Go.RowKit Go.Proofs.YtpgjfppbbbnclaaGreatW.PrintWords
end Go.Proofs.YtpgjfppbbbnclaaGreat.B
namespace Go.Proofs.YtpgjfppbbbnclaaGreat.B
open Go.RowKit Go.Proofs.YtpgjfppbbbnclaaGreatW.PrintWords
end Go.Proofs.YtpgjfppbbbnclaaGreat.B
namespace Go.Proofs.YtpgjfppbbbnclaaGreat.B
open Go.RowKit Go.Proofs.YtpgjfppbbbnclaaGreatW.PrintWords
end Go.Proofs.YtpgjfppbbbnclaaGreat.B
namespace Go.Proofs.YtpgjfppbbbnclaaGreat.B
open Go.RowKit Go.Proofs.YtpgjfppbbbnclaaGreatW.PrintWords
open SimT
section
variable {C:List (List Int)} (hl:C.length≤1048576) (hr:∀ x∈C,x.length≤1048576)
def part (a b:List Int):Bool:=a.all fun v=>has b v
include hl hr
end
end Go.Proofs.YtpgjfppbbbnclaaGreat.B
namespace Go.Proofs.YtpgjfppbbbnclaaGreat.B
open Go.RowKit Go.Proofs.YtpgjfppbbbnclaaGreatW.PrintWords
def qDj (C:List (List Int)) (d:Int):List Int × Int:=if okC C=true then (if (decide (0≤d) && decide (d≤3))=true then (qAv C d,0) else ([],2)) else ([],1)
theorem qEn {C:List (List Int)} (hl:C.length≤1048576) (hr:∀ x∈C,x.length≤1048576) (d:Int):Ev (fun k=>z9.f k C d) (qDj C d):=by
 unfold z9.f qDj z31.f
 refine Ev.bind (qIs C hl hr) ?_
 cases ho:okC C with
 | false=>exact qAr (by decide) (qBp (Ev.now _) (by simp))
 | true =>
  refine qAc rfl (Ev.bind (a:=decide (0≤d) && decide (d≤3)) (Ev.bind (qA1 (qE1 _ _ _)) (Ev.now _)) ?_)
  cases hd:decide (0≤d) && decide (d≤3) with
  | false=>exact qAr (by decide) (qBp (Ev.now _) (by simp))
  | true =>
   rw [ye_,yf_,yf_] at hd
   exact qAc rfl (Ev.bind (qLx hl oM_ oM_) (qBp (Ev.now _) (by simp)))
end Go.Proofs.YtpgjfppbbbnclaaGreat.B
namespace Go.Proofs.YtpgjfppbbbnclaaGreat.B
open Go.RowKit Go.Proofs.YtpgjfppbbbnclaaGreatW.PrintWords
open SimT LinT
def edge (a b:Int):List Int:=[mn a b,mx a b]
def qEz (C:List (List Int)) (p:Int) (path:List Int):Nat→Nat→List Int→List Int × Int
 | 0,_,s=>(s,0)
 | d+1,i,s =>
  if idx C (edge (path.getD (i - 1) 0) (path.getD i 0))<0 then ([],3)
  else qEz C p path d (i+1) (s.set (idx C (edge (path.getD (i - 1) 0) (path.getD i 0)) - (qAv C 1).getD 0 0).toNat
   ((s.getD (idx C (edge (path.getD (i - 1) 0) (path.getD i 0)) - (qAv C 1).getD 0 0).toNat 0+if path.getD (i - 1) 0<path.getD i 0 then 1 else p - 1) % p))
def qMj (C:List (List Int)) (p:Int) (path:List Int):List Int × Int :=
 if askD C 1 p=0 then (if path.length<2∨64<path.length∨path.getD 0 0≠path.getD (path.length - 1) 0 then ([],7) else qEz C p path (path.length - 1) 1 (List.replicate (qAv C 1).length 0)) else ([],askD C 1 p)
theorem qKq {C:List (List Int)} (ho:okC C=true) {a b:Int} (hk:¬ idx C (edge a b)<0) {e m:Nat} (he:qAv C 1=run e m):a≠b∧∃ r,r<m∧idx C (edge a b)=((e+r:Nat):Int):=by
 have hmem:edge a b∈C:=Classical.byContradiction fun h=>hk ((qFh C _).2 h)
 obtain ⟨i,hi,h1,h2,_⟩:=qC3 hmem
 have hs:=(qCg.1 ho).2.2.1 _ hmem
 refine ⟨fun hab=>?_,?_⟩
 ·subst hab
  unfold edge mn mx qBh at hs
  simp [qCm] at hs
  have:=hs.1 1 oM_
  simp [qFc] at this
 ·have hd:((i:Nat):Int)∈qAv C 1:=qCo.2 ⟨i,hi,by rw [h2];rfl,rfl⟩
  rw [he] at hd
  unfold run at hd
  obtain ⟨r,hr,h3⟩:=ys_.1 hd
  exact ⟨r,yc_.1 hr,by rw [h1,← h3]⟩
section
variable {C:List (List Int)} (hl:C.length≤1048576) (hr:∀ x∈C,x.length≤1048576)
include hl hr
theorem qJd {p:Nat} (hp:isP p=true) (ho:okC C=true) {path:List Int} (hpl:path.length≤64) {e m:Nat} (he:qAv C 1=run e m) (hm:m≤32):∀ (d i:Nat) (s:List Int),i+d=path.length→1≤i→s.length=m→Rng p s →
  Ev (fun k=>z18.l0 k (p:Int) path (qAv C 1) s (i:Int) C) (qEz C (p:Int) path d i s):=by
 have h2:=qB3 hp
 intro d
 induction d with
 | zero =>
  intro i s hi h1 hs hsr
  refine Ev.step (fun k=>z18.l0.eq_2 ..) ?_
  exact qAr oM_ (Ev.now _)
 | succ d ih =>
  intro i s hi h1 hs hsr
  have e1:wrap64 ((i:Int) - 1)=((i - 1:Nat):Int):=by rw [qAs oM_ oM_];omega
  refine Ev.step (fun k=>z18.l0.eq_2 ..) ?_
  rw [e1]
  refine qAc oM_ (qAc oM_ (qAc oM_ (qAc oM_ ?_)))
  rw [qA4,qA4]
  refine Ev.bind (qFf C (edge (path.getD (i - 1) 0) (path.getD i 0)) oM_ (fun x hx=>by have:=hr x hx;omega) (by unfold edge;simp) (qCg.1 ho).2.1) ?_
  unfold qEz
  by_cases hk:idx C (edge (path.getD (i - 1) 0) (path.getD i 0))<0
  ·rw [if_pos hk]
   have hne:idx C (edge (path.getD (i - 1) 0) (path.getD i 0)) ∉ qAv C 1:=fun hm'=>by
    obtain ⟨j,_,_,h3⟩:=qCo.1 hm'
    omega
   refine Ev.bind ((qKi (qAv C 1) _ (by rw [he,qB2];omega)).1 hne) ?_
   have hj:Ev (fun k=>z18.j2 k (p:Int) path (qAv C 1) s (i:Int) (path.getD (i - 1) 0) (path.getD i 0) (-1) true C) ([],3):=by
    refine Ev.step (fun k=>z18.j2.eq_2 ..) ?_
    exact qAc rfl (Ev.now _)
   by_cases hab:path.getD (i - 1) 0=path.getD i 0
   ·exact qAc hab hj
   ·exact qAr hab (by simpa using hj)
  ·rw [if_neg hk]
   obtain ⟨hab,r,hrm,hx⟩:=qKq ho hk he
   rw [hx]
   have hix:=qJa (a:=e) (m:=m) oM_ hrm
   rw [← he] at hix
   refine Ev.bind hix (qAr hab ?_)
   have hsg:=qCw hsr (j:=r) oM_
   have e0:(((e+r:Nat):Int) - (qAv C 1).getD 0 0).toNat=r:=by
    rw [he,qC2 oM_];omega
   have d0:(decide ((r:Int)<0))=false:=decide_eq_false oM_
   rw [d0,e0]
   have hset:∀ y:Int,Rng p (s.set r (y % (p:Int))):=fun y z hz=>by
    rcases List.mem_or_eq_of_mem_set hz with h | h
    ·exact hsr z h
    ·rw [h];exact ⟨Int.emod_nonneg _ oM_,Int.emod_lt_of_pos _ oM_⟩
   refine Ev.step (fun k=>z18.j2.eq_2 ..) ?_
   refine qAr (by decide) ?_
   rw [qA4,yd_,qAs (x:=(p:Int) - 1) oM_ oM_,qAs (x:=s.getD r 0+((p:Int) - 1)) oM_ oM_,qAs (x:=s.getD r 0+1) oM_ oM_,qC8 oM_,qC8 oM_,qAw oM_]
   by_cases hlt:path.getD (i - 1) 0<path.getD i 0
   ·rw [if_pos hlt]
    exact qAr oM_ (qAc oM_ (qAc oM_ (qAr oM_ (ih (i+1) _ oM_ oM_ (by rw [ym_];exact hs) (hset _)))))
   ·rw [if_neg hlt]
    exact qAc oM_ (qAc oM_ (qAc oM_ (qAr oM_ (ih (i+1) _ oM_ oM_ (by rw [ym_];exact hs) (hset _)))))
theorem qFg (p:Int) (path:List Int) (hpth:path.length≤1048576):Ev (fun k=>z18.f k C p path) (qMj C p path):=by
 unfold z18.f qMj
 refine Ev.bind (qFj hl hr 1 p) ?_
 by_cases hz:askD C 1 p=0
 ·refine qBp (qAc hz ?_) (if_pos hz).symm
  obtain ⟨ho,hpp,_,_,_,hle,_⟩:=qJn hz
  obtain ⟨n,rfl,hp1⟩:=qH6.1 hpp
  obtain ⟨e,m,he,hem,_⟩:=qCc (qCg.1 ho).2.1 1
  have hm:m≤32:=by rw [he,qB2] at hle;exact hle
  have hstop:Ev (fun k=>z18.j0 k (n:Int) path true C) ([],7):=by
   refine Ev.step (fun k=>z18.j0.eq_2 ..) ?_
   exact qAc rfl (Ev.now _)
  by_cases c1:path.length<2
  ·exact qBp (qAc oM_ hstop) (if_pos (.inl c1)).symm
  ·refine qAr oM_ ?_
   by_cases c2:64<path.length
   ·exact qBp (qAc oM_ hstop) (if_pos (.inr (.inl c2))).symm
   ·have hpl:path.length≤64:=by omega
    have ew:wrap64 ((path.length:Int) - 1)=((path.length - 1:Nat):Int):=by rw [qAs oM_ oM_];omega
    have e0:rd path 0=path.getD 0 0:=qA4 path 0
    rw [ew]
    refine qAr oM_ (qAc oM_ (qAc oM_ (qAc oM_ ?_)))
    rw [qA4,e0]
    by_cases c3:path.getD 0 0=path.getD (path.length - 1) 0
    ·have c3':(path.getD 0 0 != path.getD (path.length - 1) 0)=false:=by rw [c3];simp
     refine qBp (r:=qEz C (n:Int) path (path.length - 1) 1 (List.replicate (qAv C 1).length 0)) ?_ (if_neg (fun h=>by rcases h with h | h | h <;> omega)).symm
     rw [c3']
     refine Ev.step (fun k=>z18.j0.eq_2 ..) ?_
     refine qAr (by decide) (Ev.bind (qBm hl oM_ oM_) (qAc oM_ (qAc oM_ ?_)))
     rw [yd_]
     have hG:=qJd hl hr hp1 ho hpl he hm (path.length - 1) 1 (List.replicate (qAv C 1).length 0) oM_ oM_ (by rw [yk_,he,qB2]) (fun y hy=>by rw [(List.mem_replicate.1 hy).2];have:=qB3 hp1;omega)
     exact hG
    ·have c3':(path.getD 0 0 != path.getD (path.length - 1) 0)=true:=by simpa using c3
     rw [c3']
     exact qBp hstop (if_pos (.inr (.inr c3))).symm
 ·exact qBp (qAr hz (Ev.now _)) (if_neg hz).symm
end
end Go.Proofs.YtpgjfppbbbnclaaGreat.B
namespace Go.Proofs.YtpgjfppbbbnclaaGreat.B
open Go.RowKit Go.Proofs.YtpgjfppbbbnclaaGreatW.PrintWords
open SimT LinT
theorem qNp {l:List Int} (hl:Byt l) {n:Nat} (h0:0<n) (hn:n≤1000):∃ i:Nat,i<n∧z8.f l 0 (n:Int)=some (i:Int):=by
 unfold z8.f
 by_cases h1:(n:Int)≤1
 ·exact ⟨0,h0,by rw [if_pos h1];rfl⟩
 ·rw [if_neg h1]
  by_cases h2:(0:Int) ≥ (l.length:Int)
  ·exact ⟨0,h0,by rw [if_pos h2];rfl⟩
  ·rw [if_neg h2,if_pos oM_,if_pos oM_,if_neg oM_]
   obtain ⟨b0,b1⟩:=hl _ (qA3 (i:=0) 0 (show 0<l.length by omega))
   have e:rd l 0=l.getD 0 0:=qA4 l 0
   rw [e,qAs oM_ oM_]
   have h3:=Int.tmod_nonneg (n:Int) b0
   have h4:=Int.tmod_lt_of_pos (l.getD 0 0) (show (0:Int)<(n:Int) by omega)
   obtain ⟨i,hi⟩:=Int.eq_ofNat_of_zero_le h3
   exact ⟨i,by omega,by rw [hi]⟩
theorem qL7 (l:List Int) (hl:l.length≤1048576):Ev (fun k=>z17.f k l l) true:=by
 unfold z17.f
 refine qAc rfl ?_
 have main:∀ (d i:Nat),i+d=l.length→Ev (fun k=>z17.l0 k l l (i:Int)) true:=by
  intro d
  induction d with
  | zero =>
   intro i hi
   refine Ev.step (fun k=>z17.l0.eq_2 ..) ?_
   exact qAr oM_ (Ev.now _)
  | succ d ih =>
   intro i hi
   refine Ev.step (fun k=>z17.l0.eq_2 ..) ?_
   rw [qAw oM_]
   exact qAc oM_ (qAc oM_ (qAc oM_ (qAc rfl (ih (i+1) oM_))))
 exact main l.length 0 oM_
theorem qLc {l:List Int} (hl:Byt l):∃ q:Nat,isP q=true∧z7.f l=some (q:Int):=by
 obtain ⟨p,a',z',e,hm,_,_⟩:=qJi hl 0 0 (by decide) (by decide)
 have:∃ q:Nat,isP q=true∧p=(q:Int):=by
  have hall:∀ p∈([2,2,3,5,7,31,251]:List Int),isP p.toNat=true∧p=((p.toNat:Nat):Int):=by decide +kernel
  exact ⟨p.toNat,hall p hm⟩
 obtain ⟨q,hq,rfl⟩:=this
 refine ⟨q,hq,?_⟩
 unfold z7.f
 show (z29.f l 0 0).bind _=_
 rw [e];rfl
theorem qL8 {l:List Int} (hl:Byt l) (n:Nat) (hn:n≤1000) {q:Nat} (hq:2≤q):∃ x:List Int,Ev (fun k=>z10.f k l (n:Int) (q:Int)) x∧x.length=n∧Rng q x:=by
 have main:∀ (d i:Nat) (x:List Int) (a z:Int),i+d=n→x.length=i→Rng q x→0≤a→a+2 * d≤10000→∃ x':List Int,Ev (fun k=>z10.l0 k (n:Int) (q:Int) x (i:Int) l a z) x'∧x'.length=n∧Rng q x':=by
  intro d
  induction d with
  | zero =>
   intro i x a z hi hx hr _ _
   refine ⟨x,?_,by omega,hr⟩
   refine Ev.step (fun k=>z10.l0.eq_2 ..) ?_
   exact qAr oM_ (Ev.now _)
  | succ d ih =>
   intro i x a z hi hx hr h0 h1
   obtain ⟨v,a1,z1,e,v0,_,v2,e1,e2⟩:=qDn hl z (q:Int) h0 oM_
   have v3:=v2 oM_
   obtain ⟨x',f1,f2,f3⟩:=ih (i+1) (x ++ [v]) a1 z1 oM_ (by simp;omega) (fun y hy=>by
    rcases yv_.1 hy with h | h
    ·exact hr y h
    ·rw [List.mem_singleton.1 h];exact ⟨v0,v3⟩) oM_ oM_
   refine ⟨x',?_,f2,f3⟩
   refine Ev.step (fun k=>z10.l0.eq_2 ..) ?_
   rw [qAw oM_]
   exact qAc oM_ (Ev.bind (qA1 e) (qAc oM_ f1))
 obtain ⟨x',f1,f2,f3⟩:=main n 0 [] 0 0 oM_ rfl (fun y hy=>absurd hy List.not_mem_nil) (by decide) oM_
 refine ⟨x',?_,f2,f3⟩
 unfold z10.f
 exact Ev.bind (qA1 (r:=(l,0,0)) rfl) f1
theorem qH7 {p m n:Nat} {X v:List Int} {i:Nat} (hi:i<m):(mulV p m n X v).getD i 0=sm (fun j=>fl n X i j * v.getD j 0) n % (p:Int):=by
 unfold mulV
 rw [ya_,List.getElem?_map,List.getElem?_range hi];rfl
theorem qC5 (p m n:Nat) (X v:List Int):(mulV p m n X v).length=m:=by simp [mulV]
theorem qMi {p:Nat} (hp:2≤p) (m n:Nat) (X v:List Int):Rng p (mulV p m n X v):=fun y hy=>by
 obtain ⟨i,_,rfl⟩:=ys_.1 hy
 exact ⟨Int.emod_nonneg _ oM_,Int.emod_lt_of_pos _ oM_⟩
theorem qGn (p a:Int):p ∣ a % p - a:=⟨-(a / p),by rw [Int.emod_def];grind⟩
theorem mul_zero {p r m n:Nat} {Y X v:List Int} (hz:∀ i j,i<r→j<n→(p:Int) ∣ sm (fun l=>fl m Y i l * fl n X l j) m):((mulV p r m Y (mulV p m n X v)).all fun a=>a == 0)=true:=by
 rw [yo_]
 intro y hy
 obtain ⟨i,hi,rfl⟩:=ys_.1 hy
 have hi:=yc_.1 hi
 have h1:(p:Int) ∣ sm (fun l=>fl m Y i l * (mulV p m n X v).getD l 0) m - sm (fun l=>fl m Y i l * sm (fun j=>fl n X l j * v.getD j 0) n) m:=by
  rw [← qOa]
  refine qEo m fun l hl=>?_
  rw [qH7 hl,show ∀ a b c:Int,a * b - a * c=a * (b - c) by intro a b c;rw [Int.mul_sub]]
  exact qA8 _ (qGn _ _)
 have h2:sm (fun l=>fl m Y i l * sm (fun j=>fl n X l j * v.getD j 0) n) m=sm (fun j=>v.getD j 0 * sm (fun l=>fl m Y i l * fl n X l j) m) n:=by
  rw [qBe m (g:=fun l=>sm (fun j=>v.getD j 0 * (fl m Y i l * fl n X l j)) n) (fun l _=>by
   rw [← qFl]
   exact qBe n fun j _=>by grind),qJs]
  exact qBe n fun j _=>by rw [qFl]
 have h3:(p:Int) ∣ sm (fun j=>v.getD j 0 * sm (fun l=>fl m Y i l * fl n X l j) m) n:=qEo n fun j hj=>qA8 _ (hz i j hi hj)
 rw [h2] at h1
 have h4:=yq_ h1 h3
 rw [show ∀ a b:Int,a - b+b=a by intro a b;omega] at h4
 have h5:=Int.emod_eq_zero_of_dvd h4
 show ((sm (fun l=>fl m Y i l * (mulV p m n X v).getD l 0) m % (p:Int)) == 0)=true
 rw [h5];rfl
theorem qOu (N t:Nat):(List.replicate N (0:Int)).set t 0=List.replicate N 0:=by
 refine List.ext_getElem (by simp) fun i h1 h2=>?_
 rw [List.getElem_set]
 split <;> simp
theorem wprod {t:Int} (t0:0≤t) (t1:t≤62500):wrap64 t=t:=qAs oM_ oM_
theorem wsum {s t:Int} {l:Nat} (s0:0≤s) (s1:s≤(l:Int) * 62500) (hl:l≤32) (t0:0≤t) (t1:t≤62500):wrap64 (s+t)=s+t:=qAs oM_ oM_
theorem qK7 {p r m n:Nat} (hp0:2≤p) (hp:p≤251) {Y X:List Int} (hY:Y.length=r * m) (hYr:Rng p Y) (hX:X.length=m * n) (hXr:Rng p X) (hr:r≤32) (hm:m≤32) (hn:n≤32)
  (hz:∀ i j,i<r→j<n→(p:Int) ∣ sm (fun l=>fl m Y i l * fl n X l j) m) :
  Ev (fun k=>z40.f k (p:Int) (r:Int) (m:Int) Y (p:Int) (m:Int) (n:Int) X) ((p:Int),(r:Int),(n:Int),List.replicate (r * n) 0):=by
 unfold z40.f
 refine Ev.bind (qA1 (qLq (p:Int) r n oM_ oM_)) ?_
 have hrn:r * n≤32 * 32:=yj_ hr hn
 dsimp only
 have h2:∀ (i j:Nat),i<r→j<n→Le (fun k=>z40.l1 k (i:Int) ((j+1:Nat):Int) (p:Int) (r:Int) (m:Int) Y (p:Int) (m:Int) (n:Int) X (p:Int) (r:Int) (n:Int) (List.replicate (r * n) 0)) (fun k=>z40.l2 k (i:Int) (j:Int) 0 0 (p:Int) (r:Int) (m:Int) Y (p:Int) (m:Int) (n:Int) X (p:Int) (r:Int) (n:Int) (List.replicate (r * n) 0)):=by
  intro i j hi hj
  have hpr:∀ l,l<m→0≤fl m Y i l * fl n X l j∧fl m Y i l * fl n X l j≤62500:=fun l hl=>by
   have a1:=qE2 hi hl
   have a2:=qE2 hl hj
   exact qHc hp (by unfold fl;exact qCw hYr oM_) (by unfold fl;exact qCw hXr oM_)
  have main:∀ (d l:Nat),l+d=m→Le (fun k=>z40.l1 k (i:Int) ((j+1:Nat):Int) (p:Int) (r:Int) (m:Int) Y (p:Int) (m:Int) (n:Int) X (p:Int) (r:Int) (n:Int) (List.replicate (r * n) 0)) (fun k=>z40.l2 k (i:Int) (j:Int) (sm (fun l=>fl m Y i l * fl n X l j) l) (l:Int) (p:Int) (r:Int) (m:Int) Y (p:Int) (m:Int) (n:Int) X (p:Int) (r:Int) (n:Int) (List.replicate (r * n) 0)):=by
   intro d
   induction d with
   | zero =>
    intro l hl s hs
    have:l=m:=by omega
    subst this
    have hsb:=qH1 (b:=62500) l hpr
    have hlt:=qE2 hi hj
    have jb:j<9223372036854775807:=by omega
    have lr:i * n+j<(List.replicate (r * n) (0:Int)).length:=by rw [yk_];exact hlt
    have e:=ix (i:=i) (w:=n) (j:=j) oM_ oM_ oM_
    have ht:Int.tmod (sm (fun t=>fl l Y i t * fl n X t j) l) (p:Int)=0:=by
     rw [qC8 hsb.1]
     exact Int.emod_eq_zero_of_dvd (hz i j hi hj)
    refine Ev.step (fun k=>z40.l2.eq_2 ..) ?_
    rw [e,qAw (i:=j) jb,yd_,ht,qOu]
    clear e hsb hpr hz hYr hXr ht
    exact qAr oM_ (qAr oM_ (qAc (Int.natCast_nonneg _) (qAc (Int.ofNat_lt.2 lr) hs)))
   | succ d ih =>
    intro l hl s hs
    have next:=ih (l+1) oM_ s hs
    have hsb:=qH1 (b:=62500) l (fun t ht=>hpr t oM_)
    have hq:=hpr l oM_
    have a1:=qE2 hi (show l<m by omega)
    have a2:=qE2 (show l<m by omega) hj
    have g1:i * m+l<Y.length:=by rw [hY];exact a1
    have g2:l * n+j<X.length:=by rw [hX];exact a2
    have lm:l<m:=by omega
    have i3:i≤1024:=by omega
    have l3:l≤1024:=by omega
    have j3:j≤1024:=by omega
    have m3:m≤1024:=by omega
    have n3:n≤1024:=by omega
    have l32:l≤32:=by omega
    have lb:l<9223372036854775807:=by omega
    refine Ev.step (fun k=>z40.l2.eq_2 ..) ?_
    rw [ix (i:=i) (w:=m) (j:=l) i3 m3 l3,ix (i:=l) (w:=n) (j:=j) l3 n3 j3,rdfl,rdfl,qAw (i:=l) lb]
    rw [wprod hq.1 hq.2,wsum hsb.1 hsb.2 l32 hq.1 hq.2]
    clear hq hsb hpr hz hYr hXr
    exact qAc (Int.ofNat_lt.2 lm) (qAc (Int.natCast_nonneg _) (qAc (Int.ofNat_lt.2 g1) (qAc (Int.natCast_nonneg _) (qAc (Int.ofNat_lt.2 g2) next))))
  exact main m 0 oM_
 have h1:∀ (i:Nat),i<r→∀ (d j:Nat),j+d=n→Le (fun k=>z40.l0 k ((i+1:Nat):Int) (p:Int) (r:Int) (m:Int) Y (p:Int) (m:Int) (n:Int) X (p:Int) (r:Int) (n:Int) (List.replicate (r * n) 0)) (fun k=>z40.l1 k (i:Int) (j:Int) (p:Int) (r:Int) (m:Int) Y (p:Int) (m:Int) (n:Int) X (p:Int) (r:Int) (n:Int) (List.replicate (r * n) 0)):=by
  intro i hi d
  induction d with
  | zero =>
   intro j hj s hs
   refine Ev.step (fun k=>z40.l1.eq_2 ..) ?_
   rw [qAw oM_]
   exact qAr oM_ hs
  | succ d ih =>
   intro j hj s hs
   have next:=ih (j+1) oM_ s hs
   refine Ev.step (fun k=>z40.l1.eq_2 ..) ?_
   exact qAc oM_ (h2 i j hi oM_ s next)
 have h0:∀ (d i:Nat),i+d=r→Ev (fun k=>z40.l0 k (i:Int) (p:Int) (r:Int) (m:Int) Y (p:Int) (m:Int) (n:Int) X (p:Int) (r:Int) (n:Int) (List.replicate (r * n) 0)) ((p:Int),(r:Int),(n:Int),List.replicate (r * n) 0):=by
  intro d
  induction d with
  | zero =>
   intro i hi
   refine Ev.step (fun k=>z40.l0.eq_2 ..) ?_
   exact qAr oM_ (Ev.now _)
  | succ d ih =>
   intro i hi
   have next:=ih (i+1) oM_
   refine Ev.step (fun k=>z40.l0.eq_2 ..) ?_
   exact qAc oM_ (h1 i oM_ n 0 oM_ _ next)
 exact h0 r 0 oM_
theorem qJx (C:List (List Int)) (d:Nat):(qAv C (d:Int)).length=C.countP (fun x=>decide (x.length=d+1)):=by
 unfold qAv filt
 have e:C.countP (fun x=>decide (x.length=d+1))=(List.range C.length).countP (fun i=>decide ((C.getD i []).length=d+1)):=by
  have:=qI8 ([]:List Int) (fun x:List Int=>decide (x.length=d+1)) C
  have h2:C.countP (fun x=>decide (x.length=d+1))=(C.map fun x=>decide (x.length=d+1)).countP (fun b=>b):=by rw [List.countP_map];rfl
  rw [h2,this,List.countP_map];rfl
 rw [e,List.length_map,← List.countP_eq_length_filter]
 exact List.countP_congr fun i _=>by
  rw [yf_,yf_];omega
theorem qMf {C:List (List Int)} (ho:okC C=true):qAv C (-1)=[]:=by
 unfold qAv
 refine List.eq_nil_iff_forall_not_mem.2 fun x hx=>?_
 obtain ⟨i,hi,hp,_⟩:=qCo.1 hx
 have:=(qCf ((qCg.1 ho).2.2.1 _ (qA3 [] hi))).1
 have:=of_decide_eq_true hp
 omega
theorem qB7 {C:List (List Int)} (h:qFr C) {q:Nat} (hq:isP q=true) {d:Int} (h0:0≤d) (h3:d≤3):askD C d (q:Int)=0∧(qAv C (d - 1)).length≤32∧(qAv C d).length≤32∧(qAv C (d+1)).length≤32:=by
 have ho:=qC7 h
 have hs:∀ e:Int,-1≤e→(qAv C e).length≤32:=fun e he=>by
  by_cases h1:e=-1
  ·subst h1;rw [qMf ho];simp
  ·obtain ⟨n,rfl⟩:=Int.eq_ofNat_of_zero_le (show 0≤e by omega)
   rw [qJx]
   exact qJg h _
 have a:=hs (d - 1) oM_
 have b:=hs d oM_
 have c:=hs (d+1) oM_
 refine ⟨?_,a,b,c⟩
 unfold askD
 rw [ho,qH6.2 ⟨q,rfl,hq⟩,Bool.and_self,if_pos rfl,decide_eq_true h0,decide_eq_true h3,Bool.and_self,if_pos rfl,if_pos ⟨a,b,c⟩]
theorem qFk {C:List (List Int)} (hD:qFr C) {q:Nat} (hq:isP q=true) {d:Int} (h0:0≤d) (h3:d≤3) {ch:List Int} (hc:ch.length=(qAv C d).length) (hcr:Rng q ch):askV C d (q:Int) ch=0:=by
 unfold askV
 rw [if_pos (qB7 hD hq h0 h3).1,if_pos (qKc.2 ⟨hc,hcr⟩)]
section
variable {C:List (List Int)} (hl:C.length≤1048576) (hr:∀ x∈C,x.length≤1048576) (hD:qFr C) {q:Nat} (hq:isP q=true)
include hl hr hD hq
theorem qM8 {d:Int} (h0:0≤d) (h3:d≤3) {ch:List Int} (hc:ch.length=(qAv C d).length) (hcr:Rng q ch):Ev (fun k=>z11.f k C d (q:Int) ch) (mulV q (qAv C (d - 1)).length (qAv C d).length (qBd C d (q:Int)) ch,0):=by
 obtain ⟨_,s1,s2,s3⟩:=qB7 hD hq h0 h3
 have h2:=qB3 hq
 have hb:=qDs C d h2.1
 unfold z11.f
 exact Ev.bind (qDf hl hr d (q:Int) ch oM_) (qAc (qFk hD hq h0 h3 hc hcr) (Ev.bind (qFy hl hr hq (qC7 hD) h0 oM_ oM_ oM_) (Ev.bind (qK0 h2.1 h2.2 hb.1 hb.2 hc hcr oM_ oM_) (Ev.now _))))
theorem qKy {d:Int} (h0:0≤d) (h3:d≤3):Ev (fun k=>z12.f k C d (q:Int)) ((q:Int),((qAv C (d - 1)).length:Int),((qAv C d).length:Int),qBd C d (q:Int),0):=by
 obtain ⟨s0,s1,s2,s3⟩:=qB7 hD hq h0 h3
 unfold z12.f
 exact Ev.bind (qFj hl hr d (q:Int)) (qAc s0 (Ev.bind (qFy hl hr hq (qC7 hD) h0 oM_ oM_ oM_) (Ev.now _)))
theorem qMz {d:Int} (h0:0≤d) (h3:d≤3) {ch:List Int} (hc:ch.length=(qAv C d).length) (hcr:Rng q ch) (hz:((mulV q (qAv C (d - 1)).length (qAv C d).length (qBd C d (q:Int)) ch).all fun a=>a == 0)=true):Ev (fun k=>z13.f k C d (q:Int) ch) true:=by
 obtain ⟨_,s1,s2,s3⟩:=qB7 hD hq h0 h3
 have h2:=qB3 hq
 have hb:=qDs C d h2.1
 unfold z13.f z38.f
 exact Ev.bind (qDf hl hr d (q:Int) ch oM_) (qAc (qFk hD hq h0 h3 hc hcr) (Ev.bind (Ev.bind (qFy hl hr hq (qC7 hD) h0 oM_ oM_ oM_) (Ev.bind (qK0 h2.1 h2.2 hb.1 hb.2 hc hcr oM_ oM_) (Ev.bind (qBp (qMo _ (by rw [qC5];omega)) hz) (Ev.now _)))) (Ev.now _)))
theorem qKn {d:Int} (h0:0≤d) (h3:d≤3) {ch:List Int} (hc:ch.length=(qAv C d).length) (hcr:Rng q ch)
  (hx:∃ x:Vec,∀ i,i<(qAv C d).length→(q:Int) ∣ sm (fun j=>fl (qAv C (d+1)).length (qBd C (d+1) (q:Int)) i j * x j) (qAv C (d+1)).length - ch.getD i 0) :
  ∃ y:List Int,Ev (fun k=>z16.f k C d (q:Int) ch) (y,0)∧y.length=(qAv C (d+1)).length∧Rng q y∧∀ i,i<(qAv C d).length→(q:Int) ∣ sm (fun j=>fl (qAv C (d+1)).length (qBd C (d+1) (q:Int)) i j * y.getD j 0) (qAv C (d+1)).length - ch.getD i 0:=by
 obtain ⟨_,s1,s2,s3⟩:=qB7 hD hq h0 h3
 have h2:=qB3 hq
 have e1:d+1 - 1=d:=by omega
 have hb:=qDs C (d+1) h2.1
 have hI:=qFy hl hr hq (qC7 hD) (d:=d+1) oM_ oM_ (by rw [e1];omega) oM_
 unfold bMat at hI
 rw [e1] at hb hI
 obtain ⟨B,t,red,hs⟩:=qLz hq hb.1 hb.2 hc hcr oM_ oM_
 rcases qK9 hq hb.1 red with ⟨y,e,y1,y2,y3⟩ | ⟨_,hno⟩
 ·refine ⟨y,?_,y1,y2,y3⟩
  rw [e] at hs
  have ew:wrap64 (d+1)=d+1:=qAs oM_ oM_
  unfold z16.f z41.f
  rw [ew]
  exact Ev.bind (qDf hl hr d (q:Int) ch oM_) (qAc (qFk hD hq h0 h3 hc hcr) (Ev.bind (Ev.bind hI (Ev.bind hs (Ev.now _))) (qAc rfl (Ev.now _))))
 ·exact absurd hx hno
theorem qMq {d:Int} (h0:0≤d) (h3:d≤3) {ch:List Int} (hc:ch.length=(qAv C d).length) (hcr:Rng q ch)
  (hx:∃ x:Vec,∀ i,i<(qAv C d).length→(q:Int) ∣ sm (fun j=>fl (qAv C (d+1)).length (qBd C (d+1) (q:Int)) i j * x j) (qAv C (d+1)).length - ch.getD i 0):Ev (fun k=>z14.f k C d (q:Int) ch) true:=by
 obtain ⟨y,h,_⟩:=qKn hl hr hD hq h0 h3 hc hcr hx
 unfold z14.f
 exact Ev.bind h (Ev.now _)
end
theorem qIf {C:List (List Int)} (ho:okC C=true) {a b:Int} (hk:¬ idx C (edge a b)<0) {e m:Nat} (he:qAv C 1=run e m):∃ r,r<m∧idx C (edge a b)=((e+r:Nat):Int)∧C.getD (e+r) []=edge a b:=by
 obtain ⟨_,r,hr,h1⟩:=qKq ho hk he
 have hmem:edge a b∈C:=Classical.byContradiction fun h=>hk ((qFh C _).2 h)
 obtain ⟨i,hi,h2,h3,_⟩:=qC3 hmem
 have:i=e+r:=by omega
 exact ⟨r,hr,h1,by rw [← this];exact h3⟩
theorem qNv {C:List (List Int)} (ho:okC C=true) {q:Nat} (hq:2≤q) (ha:askD C 1 (q:Int)=0) {e m:Nat} (he:qAv C 1=run e m) :
  qMj C (q:Int) [0,1,2,0]=([],3)∨∃ (z:List Int) (a b c:Nat),qMj C (q:Int) [0,1,2,0]=(z,0)∧z.length=m∧Rng q z∧a<m∧b<m∧c<m∧C.getD (e+a) []=[0,1]∧C.getD (e+b) []=[1,2]∧C.getD (e+c) []=[0,2] ∧
   ∀ l,z.getD l 0=(if l=a then 1 else 0)+(if l=b then 1 else 0)+(if l=c then (q:Int) - 1 else 0):=by
 have hml:(qAv C 1).length=m:=by rw [he,qB2]
 unfold qMj
 rw [if_pos ha,if_neg (by decide),hml]
 show qEz C (q:Int) [0,1,2,0] 3 1 (List.replicate m 0)=_∨∃ z a b c,qEz C (q:Int) [0,1,2,0] 3 1 (List.replicate m 0)=_∧_
 unfold qEz
 by_cases h1:idx C (edge 0 1)<0
 ·left;exact if_pos h1
 by_cases h2:idx C (edge 1 2)<0
 ·left
  rw [show ([0,1,2,0]:List Int).getD (1 - 1) 0=0 from rfl,show ([0,1,2,0]:List Int).getD 1 0=1 from rfl,if_neg h1]
  unfold qEz
  exact if_pos h2
 by_cases h3:idx C (edge 2 0)<0
 ·left
  rw [show ([0,1,2,0]:List Int).getD (1 - 1) 0=0 from rfl,show ([0,1,2,0]:List Int).getD 1 0=1 from rfl,if_neg h1]
  unfold qEz
  rw [show ([0,1,2,0]:List Int).getD (1+1 - 1) 0=1 from rfl,show ([0,1,2,0]:List Int).getD (1+1) 0=2 from rfl,if_neg h2]
  unfold qEz
  exact if_pos h3
 right
 obtain ⟨a,a1,a2,a3⟩:=qIf ho h1 he
 obtain ⟨b,b1,b2,b3⟩:=qIf ho h2 he
 obtain ⟨c,c1,c2,c3⟩:=qIf ho h3 he
 have hbase:(qAv C 1).getD 0 0=(e:Int):=by rw [he,qC2 oM_];rfl
 have hab:a≠b:=fun h=>by rw [h,b3] at a3;revert a3;decide
 have hac:a≠c:=fun h=>by rw [h,c3] at a3;revert a3;decide
 have hbc:b≠c:=fun h=>by rw [h,c3] at b3;revert b3;decide
 rw [show ([0,1,2,0]:List Int).getD (1 - 1) 0=0 from rfl,show ([0,1,2,0]:List Int).getD 1 0=1 from rfl,if_neg h1,a2,hbase,show (((e+a:Nat):Int) - (e:Int)).toNat=a by omega]
 unfold qEz
 rw [show ([0,1,2,0]:List Int).getD (1+1 - 1) 0=1 from rfl,show ([0,1,2,0]:List Int).getD (1+1) 0=2 from rfl,if_neg h2,b2,hbase,show (((e+b:Nat):Int) - (e:Int)).toNat=b by omega]
 unfold qEz
 rw [show ([0,1,2,0]:List Int).getD (1+1+1 - 1) 0=2 from rfl,show ([0,1,2,0]:List Int).getD (1+1+1) 0=0 from rfl,if_neg h3,c2,hbase,show (((e+c:Nat):Int) - (e:Int)).toNat=c by omega]
 unfold qEz
 have hrep:∀ j,(List.replicate m (0:Int)).getD j 0=0:=fun j=>by
  rw [ya_,List.getElem?_replicate]
  split <;> rfl
 have q1:(0+1:Int) % (q:Int)=1:=Int.emod_eq_of_lt oM_ oM_
 have q2:(0+((q:Int) - 1)) % (q:Int)=(q:Int) - 1:=by rw [Int.zero_add];exact Int.emod_eq_of_lt oM_ oM_
 have l1:(List.replicate m (0:Int)).length=m:=yk_
 rw [if_pos (show (0:Int)<1 by decide),if_pos (show (1:Int)<2 by decide),if_neg (show ¬ (2:Int)<0 by decide),hrep,q1]
 have g1:∀ j,((List.replicate m (0:Int)).set a 1).getD j 0=if j=a then 1 else 0:=fun j=>by rw [qD0 _ _ _ _ oM_,hrep]
 rw [g1,if_neg (Ne.symm hab),q1]
 have g2:∀ j,(((List.replicate m (0:Int)).set a 1).set b 1).getD j 0=if j=b then 1 else if j=a then 1 else 0:=fun j=>by rw [qD0 _ _ _ _ (by rw [ym_];omega),g1]
 rw [g2,if_neg (Ne.symm hbc),if_neg (Ne.symm hac),q2]
 refine ⟨_,a,b,c,rfl,by simp,fun y hy=>?_,a1,b1,c1,a3,b3,c3,fun l=>?_⟩
 ·rcases List.mem_or_eq_of_mem_set hy with h | h
  ·rcases List.mem_or_eq_of_mem_set h with h | h
   ·rcases List.mem_or_eq_of_mem_set h with h | h
    ·rw [(List.mem_replicate.1 h).2];omega
    ·rw [h];omega
   ·rw [h];omega
  ·rw [h];omega
 ·rw [qD0 _ _ _ _ (by rw [ym_,ym_];omega),g2]
  by_cases e1:l=c
  ·rw [if_pos e1,if_pos e1,if_neg oM_,if_neg oM_];omega
  ·rw [if_neg e1,if_neg e1]
   by_cases e2:l=b
   ·rw [if_pos e2,if_pos e2,if_neg oM_];omega
   ·rw [if_neg e2,if_neg e2];omega
theorem qNl {f:Nat→Int} {n a b c:Nat} (w:Int) (ha:a<n) (hb:b<n) (hc:c<n):sm (fun l=>f l * ((if l=a then 1 else 0)+(if l=b then 1 else 0)+(if l=c then w else 0))) n=f a+f b+f c * w:=by
 rw [qBe n (g:=fun l=>(if l=a then f l else 0)+(if l=b then f l else 0)+(if l=c then f l * w else 0)) fun l _=>by
  split <;> split <;> split <;> grind]
 rw [qFm,qFm,qFb a n ha (fun i _ h=>if_neg h),qFb b n hb (fun i _ h=>if_neg h),qFb c n hc (fun i _ h=>if_neg h),if_pos rfl,if_pos rfl,if_pos rfl]
theorem qLf (p:Int) (u:List Int):p ∣ bEnt p u [0,1]+bEnt p u [1,2]+bEnt p u [0,2] * (p - 1):=by
 have ind:∀ l:List Int,(if l=u then p - 1 else 0)=(p - 1) * (if l=u then 1 else 0):=fun l=>by split <;> simp
 have s0:sgn p 0=1:=rfl
 have s1:sgn p 1=p - 1:=rfl
 show p ∣ (0+(if [1]=u then sgn p 0 else 0)+(if [0]=u then sgn p 1 else 0))+(0+(if [2]=u then sgn p 0 else 0)+(if [1]=u then sgn p 1 else 0))+(0+(if [2]=u then sgn p 0 else 0)+(if [0]=u then sgn p 1 else 0)) * (p - 1)
 rw [s0,s1]
 simp only [ind]
 generalize (if [1]=u then (1:Int) else 0)=x
 generalize (if [0]=u then (1:Int) else 0)=y
 generalize (if [2]=u then (1:Int) else 0)=z
 exact ⟨x+z+y * (p - 1),by grind⟩
theorem qMs (a b:List Int) (x:Int):(if a=b then x else 0)=if b=a then x else 0:=by
 by_cases h:b=a
 ·rw [if_pos h,if_pos h.symm]
 ·rw [if_neg h,if_neg (fun e=>h e.symm)]
theorem qOn (p:Int) (u:List Int):bEnt p u [0,1,2]=(if u=[0,1] then 1 else 0)+(if u=[1,2] then 1 else 0)+(if u=[0,2] then p - 1 else 0):=by
 have s0:sgn p 0=1:=rfl
 have s1:sgn p 1=p - 1:=rfl
 have s2:sgn p 2=1:=rfl
 show 0+(if [1,2]=u then sgn p 0 else 0)+(if [0,2]=u then sgn p 1 else 0)+(if [0,1]=u then sgn p 2 else 0)=_
 rw [s0,s1,s2,qMs [1,2] u,qMs [0,2] u,qMs [0,1] u]
 omega
theorem qGb {l0 l1:List Int} (h0:WfB l0) (h1:WfB l1):∃ k,z3.f k l0 l1=some true:=by
 refine Ev.rounds (g:=fun k=>z3.f k l0 l1) ?_
 unfold z3.f
 have hb0:Byt l0:=h0.2
 have hb1:Byt l1:=h1.2
 have hlong:∃ b,z5.f l0 l1=some b:=by
  unfold z5.f
  split
  ·exact ⟨_,rfl⟩
  ·exact ⟨_,rfl⟩
 obtain ⟨b,hb⟩:=hlong
 refine Ev.bind (qA1 hb) ?_
 cases b with
 | true=>exact qAc rfl (Ev.now _)
 | false =>
 obtain ⟨C,hC,hD⟩:=qN0 hb0
 have ho:=qC7 hD
 obtain ⟨q,hq,hp⟩:=qLc hb1
 have h2:=qB3 hq
 obtain ⟨i,hi,hat⟩:=qNp hb1 (n:=3) (by decide) (by decide)
 obtain ⟨c48,csrt,csx,ccl⟩:=qCg.1 ho
 have hl:C.length≤1048576:=by omega
 have hr:∀ x∈C,x.length≤1048576:=fun x hx=>by have:=(qCf (csx x hx)).2;omega
 have ew:wrap64 (1+(i:Int))=((i+1:Nat):Int):=by rw [qAs oM_ oM_];omega
 have ew2:wrap64 (((i+1:Nat):Int) - 1)=(i:Int):=by rw [qAs oM_ oM_];omega
 refine qAr (by decide) (Ev.bind hC (Ev.bind (qA1 hp) (Ev.bind (qA1 hat) ?_)))
 rw [ew,ew2]
 obtain ⟨_,s0,s1,s2⟩:=qB7 hD hq (d:=((i+1:Nat):Int)) oM_ oM_
 have em:((i+1:Nat):Int) - 1=(i:Int):=by omega
 have hsim:Ev (fun k=>z9.f k C ((i+1:Nat):Int)) (qAv C ((i+1:Nat):Int),0):=by
  have:=qEn hl hr ((i+1:Nat):Int)
  unfold qDj at this
  rwa [if_pos ho,if_pos (by rw [ye_,yf_,yf_];omega)] at this
 obtain ⟨ch,hch,hcl,hcr⟩:=qL8 hb1 (qAv C ((i+1:Nat):Int)).length oM_ h2.1
 have hlow:=qM8 hl hr hD hq (d:=((i+1:Nat):Int)) oM_ oM_ hcl hcr
 have hm1:=qKy hl hr hD hq (d:=((i+1:Nat):Int)) oM_ oM_
 have hm0:=qKy hl hr hD hq (d:=(i:Int)) oM_ oM_
 have hB:=qDs C ((i+1:Nat):Int) h2.1
 have hA:=qDs C (i:Int) h2.1
 have hdd:=fun a b ha hb=>qPb ho (d:=(i:Int)) oM_ (p:=q) (i:=a) (j:=b) ha hb
 have ep:(i:Int)+1=((i+1:Nat):Int):=by omega
 rw [ep] at hdd
 rw [em] at hlow hm1 hB s0
 obtain ⟨_,t0,t1,_⟩:=qB7 hD hq (d:=(i:Int)) oM_ oM_
 have hlowl:(mulV q (qAv C (i:Int)).length (qAv C ((i+1:Nat):Int)).length (qBd C ((i+1:Nat):Int) (q:Int)) ch).length=(qAv C (i:Int)).length:=qC5 _ _ _ _ _
 have hlowr:=qMi h2.1 (qAv C (i:Int)).length (qAv C ((i+1:Nat):Int)).length (qBd C ((i+1:Nat):Int) (q:Int)) ch
 have hzz:=mul_zero (p:=q) (Y:=qBd C (i:Int) (q:Int)) (X:=qBd C ((i+1:Nat):Int) (q:Int)) (v:=ch) hdd
 have hfx:∀ a,a<(qAv C (i:Int)).length→(q:Int) ∣ sm (fun j=>fl (qAv C ((i+1:Nat):Int)).length (qBd C ((i+1:Nat):Int) (q:Int)) a j * (vec ch) j) (qAv C ((i+1:Nat):Int)).length - (mulV q (qAv C (i:Int)).length (qAv C ((i+1:Nat):Int)).length (qBd C ((i+1:Nat):Int) (q:Int)) ch).getD a 0:=fun a ha=>by
  rw [qH7 ha]
  have:=qGn (q:Int) (sm (fun j=>fl (qAv C ((i+1:Nat):Int)).length (qBd C ((i+1:Nat):Int) (q:Int)) a j * ch.getD j 0) (qAv C ((i+1:Nat):Int)).length)
  have h9:=Int.dvd_neg.2 this
  rwa [Int.neg_sub] at h9
 generalize hlowe:mulV q (qAv C (i:Int)).length (qAv C ((i+1:Nat):Int)).length (qBd C ((i+1:Nat):Int) (q:Int)) ch=low at hlow hlowl hlowr hzz hfx
 have hcyc:=qMz hl hr hD hq (d:=(i:Int)) oM_ oM_ hlowl hlowr hzz
 have hbd:=qMq hl hr hD hq (d:=(i:Int)) oM_ oM_ hlowl hlowr (by rw [ep];exact ⟨vec ch,hfx⟩)
 obtain ⟨y,hfill,yl,yr,hy⟩:=qKn hl hr hD hq (d:=(i:Int)) oM_ oM_ hlowl hlowr (by rw [ep];exact ⟨vec ch,hfx⟩)
 rw [ep] at yl hy
 have hback:=qM8 hl hr hD hq (d:=((i+1:Nat):Int)) oM_ oM_ yl yr
 rw [em] at hback
 have hbe:mulV q (qAv C (i:Int)).length (qAv C ((i+1:Nat):Int)).length (qBd C ((i+1:Nat):Int) (q:Int)) y=low:=by
  refine List.ext_getElem (by rw [qC5];omega) fun a ha hb'=>?_
  rw [qC5] at ha
  have e1:(mulV q (qAv C (i:Int)).length (qAv C ((i+1:Nat):Int)).length (qBd C ((i+1:Nat):Int) (q:Int)) y)[a]'(by rw [qC5];exact ha)=sm (fun j=>fl (qAv C ((i+1:Nat):Int)).length (qBd C ((i+1:Nat):Int) (q:Int)) a j * y.getD j 0) (qAv C ((i+1:Nat):Int)).length % (q:Int):=by
   rw [← qH7 (p:=q) ha,ya_,yb_ (by rw [qC5];exact ha)];rfl
  have e2:low[a]=low.getD a 0:=by rw [ya_,yb_ hb'];rfl
  rw [e1,e2]
  have r1:=qCw hlowr (j:=a) oM_
  refine qOb (p:=(q:Int)) (Int.emod_nonneg _ oM_) (Int.emod_lt_of_pos _ oM_) r1.1 r1.2 ?_
  have h3:=yq_ (qGn (q:Int) (sm (fun j=>fl (qAv C ((i+1:Nat):Int)).length (qBd C ((i+1:Nat):Int) (q:Int)) a j * y.getD j 0) (qAv C ((i+1:Nat):Int)).length)) (hy a ha)
  rwa [show ∀ x y z:Int,x - y+(y - z)=x - z by intro x y z;omega] at h3
 rw [hbe] at hback
 have hmul:Ev (fun k=>z15.f k (q:Int) ((qAv C ((i:Int) - 1)).length:Int) ((qAv C (i:Int)).length:Int) (qBd C (i:Int) (q:Int)) (q:Int) ((qAv C (i:Int)).length:Int) ((qAv C ((i+1:Nat):Int)).length:Int) (qBd C ((i+1:Nat):Int) (q:Int))) ((q:Int),((qAv C ((i:Int) - 1)).length:Int),((qAv C ((i+1:Nat):Int)).length:Int),List.replicate ((qAv C ((i:Int) - 1)).length * (qAv C ((i+1:Nat):Int)).length) 0,0):=by
  have mok:∀ (m n:Nat) (X:List Int),m≤32→n≤32→X.length=m * n→Rng q X→Ev (fun k=>z73.f k (q:Int) (m:Int) (n:Int) X) true:=fun m n X hm hn hX hXr=>by
   have hbb:m * n≤32 * 32:=yj_ hm hn
   have e:wrap64 ((m:Int) * (n:Int))=((m * n:Nat):Int):=by rw [← yi_,qAs oM_ oM_]
   unfold z73.f
   rw [e]
   clear e
   refine Ev.bind (qBp (qIr (q:Int)) (qH6.2 ⟨q,rfl,hq⟩)) (qAc rfl (Ev.bind (a:=true) (qA1 ?_) (qAc rfl (Ev.bind (a:=true) (qA1 ?_) (qAc rfl (Ev.bind (qBp (qM2 h2.2 X ((m * n:Nat):Int) oM_) (qKc.2 ⟨hX,hXr⟩)) (Ev.now _)))))))
   ·rw [qE1,decide_eq_true (show (0:Int)≤(m:Int) by omega),decide_eq_true (show (m:Int)≤32 by omega)];rfl
   ·rw [qE1,decide_eq_true (show (0:Int)≤(n:Int) by omega),decide_eq_true (show (n:Int)≤32 by omega)];rfl
  unfold z15.f
  refine Ev.bind (a:=true) ?_ (qAc rfl (qAc rfl (qAc rfl (Ev.bind (qK7 h2.1 h2.2 hA.1 hA.2 hB.1 hB.2 t0 t1 s1 hdd) (Ev.now _)))))
  unfold z39.f
  exact Ev.bind (mok _ _ _ t0 t1 hA.1 hA.2) (qAc rfl (Ev.bind (mok _ _ _ t1 s1 hB.1 hB.2) (Ev.now _)))
 refine Ev.bind hsim (Ev.bind hch (Ev.bind hlow (Ev.bind hm1 (Ev.bind hm0 (qAc rfl (qAc rfl (qAc rfl (Ev.bind hcyc (qAc rfl (Ev.bind hbd ?_))))))))))
 dsimp only
 refine Ev.step (fun k=>z3.j0.eq_2 ..) ?_
 rw [ew2]
 refine qAr (by decide) (Ev.bind hmul (Ev.bind hfill (Ev.bind hback (qAc rfl (qAc rfl (qAc rfl (Ev.bind (qL7 low oM_) ?_)))))))
 dsimp only
 refine Ev.step (fun k=>z3.j1.eq_2 ..) ?_
 refine qAr (by decide) ?_
 have hNb:(qAv C ((i:Int) - 1)).length * (qAv C ((i+1:Nat):Int)).length≤32 * 32:=yj_ t0 s1
 generalize (qAv C ((i:Int) - 1)).length * (qAv C ((i+1:Nat):Int)).length=N at hNb
 -- the loop
 have hone:=qB7 hD hq (d:=1) (by decide) (by decide)
 obtain ⟨e,m,he,_,_⟩:=qCc csrt 1
 have hml:(qAv C 1).length=m:=by rw [he,qB2]
 have hloop:=qFg hl hr (q:Int) [0,1,2,0] (by decide)
 have htail:∀ (x145000 x145001 x145002:Int),Ev (fun k=>(z18.f k C (q:Int) (([0,1,2,0]:List Int))).bind fun bt158=>(if bt158.2=0 then ((z19.f k C (([0,1,2]:List Int))).bind fun bt165=>((z13.f k C 1 (q:Int) bt158.1).bind fun t167=>(if t167=true then (if bt165.2=0 then ((z14.f k C 1 (q:Int) bt158.1).bind fun t168=>(some t168)) else (some true)) else (some false)))) else (some (bt158.2 == 3)))) true:=fun _ _ _=>by
  refine Ev.bind hloop ?_
  rcases qNv ho h2.1 hone.1 he with h3 | ⟨z,a,b,c,h3,zl,zr,a1,b1,c1,a2,b2,c2,hz⟩
  ·rw [h3]
   exact qAr (by decide) (Ev.now _)
  ·rw [h3]
   refine qAc rfl ?_
   obtain ⟨e0,m0,he0,_,_⟩:=qCc csrt 0
   have hm0l:(qAv C 0).length=m0:=by rw [he0,qB2]
   have hzz1:((mulV q (qAv C (1 - 1)).length (qAv C 1).length (qBd C 1 (q:Int)) z).all fun a=>a == 0)=true:=by
    rw [yo_]
    intro y hy
    obtain ⟨u,hu,rfl⟩:=ys_.1 hy
    have hu:=yc_.1 hu
    rw [show (1:Int) - 1=0 by decide,hm0l] at hu
    have hs3:sm (fun j=>fl (qAv C 1).length (qBd C 1 (q:Int)) u j * z.getD j 0) (qAv C 1).length=bEnt (q:Int) (C.getD (e0+u) []) [0,1]+bEnt (q:Int) (C.getD (e0+u) []) [1,2]+bEnt (q:Int) (C.getD (e0+u) []) [0,2] * ((q:Int) - 1):=by
     rw [hml,qBe m (fun j _=>by rw [hz j]),qNl ((q:Int) - 1) a1 b1 c1]
     have hg:∀ j,j<m→fl m (qBd C 1 (q:Int)) u j=bEnt (q:Int) (C.getD (e0+u) []) (C.getD (e+j) []):=fun j hj=>qD2 ho (d:=1) (by decide) he0 he hu hj
     rw [hg a a1,hg b b1,hg c c1,a2,b2,c2]
    have h5:=Int.emod_eq_zero_of_dvd (qLf (q:Int) (C.getD (e0+u) []))
    rw [← hs3] at h5
    show (sm (fun j=>fl (qAv C 1).length (qBd C 1 (q:Int)) u j * z.getD j 0) (qAv C 1).length % (q:Int) == 0)=true
    rw [h5];rfl
   have hcy1:=qMz hl hr hD hq (d:=1) (by decide) (by decide) (by rw [zl,hml]) zr hzz1
   have hix:∃ g:Int × Int,Ev (fun k=>z19.f k C [0,1,2]) g∧(g.2=0→[0,1,2]∈C):=by
    unfold z19.f
    have hfind:=qIe C [0,1,2] oM_ (fun x hx=>by have:=hr x hx;omega)
    have hss:Ev (fun k=>z45.f k [0,1,2]) true:=qBp (qD7 [0,1,2] (by decide)) (by decide)
    have hok':=qBp (qIs C hl hr) ho
    by_cases hn:idx C [0,1,2]<0
    ·refine ⟨(0,3),Ev.bind hok' (qAc rfl (Ev.bind hss ?_)),fun h=>by cases h⟩
     refine Ev.step (fun k=>z19.j0.eq_2 ..) ?_
     exact qAr (by decide) (Ev.bind hfind (qAc hn (Ev.now _)))
    ·refine ⟨(idx C [0,1,2],0),Ev.bind hok' (qAc rfl (Ev.bind hss ?_)),fun _=>Classical.byContradiction fun h=>hn ((qFh C _).2 h)⟩
     refine Ev.step (fun k=>z19.j0.eq_2 ..) ?_
     exact qAr (by decide) (Ev.bind hfind (qAr hn (Ev.now _)))
   obtain ⟨g,hg,hg2⟩:=hix
   refine Ev.bind hg (Ev.bind hcy1 (qAc rfl ?_))
   by_cases h0':g.2=0
   ·refine qAc h0' (Ev.bind (qMq hl hr hD hq (d:=1) (by decide) (by decide) (by rw [zl,hml]) zr ?_) (Ev.now _))
    have hmem:=hg2 h0'
    obtain ⟨e2,m2,he2,_,_⟩:=qCc csrt 2
    have hm2l:(qAv C 2).length=m2:=by rw [he2,qB2]
    obtain ⟨k0,k1,_,k3,_⟩:=qC3 hmem
    have hk:((k0:Nat):Int)∈qAv C 2:=qCo.2 ⟨k0,k1,by rw [k3];rfl,rfl⟩
    rw [he2] at hk
    unfold run at hk
    obtain ⟨r,hr',k4⟩:=ys_.1 hk
    have hr':=yc_.1 hr'
    have k5:k0=e2+r:=by omega
    rw [k5] at k3
    refine ⟨fun j=>if j=r then 1 else 0,fun u hu=>?_⟩
    rw [hml] at hu
    rw [show (1:Int)+1=2 by decide,hm2l]
    have hg3:fl m2 (qBd C 2 (q:Int)) u r=bEnt (q:Int) (C.getD (e+u) []) (C.getD (e2+r) []):=qD2 ho (d:=2) (by decide) he he2 hu hr'
    rw [qFb r m2 hr' (fun j _ h=>by dsimp only;rw [if_neg h,Int.mul_zero])]
    dsimp only
    rw [if_pos rfl,Int.mul_one,hg3,k3,qOn,hz u]
    have hxa:∀ (t:Nat) (s:List Int),t<m→C.getD (e+t) []=s→((C.getD (e+u) []=s)=(u=t)):=fun t s ht hs=>propext ⟨fun h=>by
     have hu1:=(qBq he hu).1
     have ht1:=(qBq he ht).1
     have:=qGd csrt hu1 ht1 (h.trans hs.symm)
     omega,fun h=>by rw [h];exact hs⟩
    simp only [hxa a [0,1] a1 a2,hxa b [1,2] b1 b2,hxa c [0,2] c1 c2]
    rw [Int.sub_self]
    exact yn_ _
   ·exact qAr h0' (Ev.now _)
 have hcells:∀ (d j:Nat),j+d=N→Ev (fun k=>z3.l0 k (q:Int) (j:Int) C (q:Int) ((qAv C ((i:Int) - 1)).length:Int) ((qAv C ((i+1:Nat):Int)).length:Int) (List.replicate N 0)) true:=by
  intro d
  induction d with
  | zero =>
   intro j hj
   refine Ev.step (fun k=>z3.l0.eq_2 ..) ?_
   exact qAr (by rw [yk_];omega) (htail 0 0 0)
  | succ d ih =>
   intro j hj
   have next:=ih (j+1) oM_
   refine Ev.step (fun k=>z3.l0.eq_2 ..) ?_
   rw [qA4,show (List.replicate N (0:Int)).getD j 0=0 by rw [ya_,List.getElem?_replicate];split <;> rfl]
   rw [qAw oM_]
   exact qAc (by rw [yk_];omega) (qAc oM_ (qAc rfl next))
 exact hcells N 0 oM_
end Go.Proofs.YtpgjfppbbbnclaaGreat.B
