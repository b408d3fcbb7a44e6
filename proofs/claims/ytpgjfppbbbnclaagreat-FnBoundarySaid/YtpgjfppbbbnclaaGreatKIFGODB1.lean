/- Printed by a program of this work over the kit's printer. -/
import Derived.Test.YtpgjfppbbbnclaaGreatKIFGODB0
import Derived.Test.YtpgjfppbbbnclaaGreatKW0
import Derived.Below
import Derived.ChangeOld
import Derived.Deep.Matrix
import Derived.Lib.SmallJoins
import Derived.OpenShut
import Derived.ProofKit
import Derived.ShutString
import Derived.SizedLaws
import Derived.WalkKit
set_option linter.unusedVariables false
set_option linter.unusedSimpArgs false
set_option maxHeartbeats 8000000
set_option maxRecDepth 100000
namespace Go.Proofs.YtpgjfppbbbnclaaGreat.B
open Go.RowKit Go.Proofs.YtpgjfppbbbnclaaGreatW.PrintWords Go.Proofs.YtpgjfppbbbnclaaGreatW.PrintLast Go.Proofs.YtpgjfppbbbnclaaGreatW.PrintMore
attribute [local go_sem] qAq qAo qAu qAt qAl qAk qAp qAn
def z58.f (s0_0:List Int) (s0_1:Int) (s0_2:Int) (a1:Int):Option (Bool × Int × Int):=(z33.f s0_0 s0_1 s0_2 a1).bind fun bt101=>(some ((bt101.1 == 0),bt101.2.1,bt101.2.2))
theorem z58.calls (g:Nat) (s0_0:List Int) (s0_1:Int) (s0_2:Int) (a1:Int) (r1:Bool) (r2:Int) (r3:Int) (w0 w:World) (hI:qAa w0 w g s0_0 s0_1 s0_2) (hB:Below w0.heap.size w0 w) (h:z58.f s0_0 s0_1 s0_2 a1=some (r1,r2,r3)) :
  Calls Tryz.prog 58 #[.pointer (some ⟨g,0,none⟩),.int .i64 a1] w fun e w'=>e=.returned (.bool r1)∧qAa w0 w' g s0_0 r2 r3∧Below w0.heap.size w0 w'∧qAf w w' g none:=by
 have HI0:=Zz.mk hI
 have HK:=Zz.mk (qAf.refl w g none)
 have HL:=Zz.mk hB.size
 clear hI
 have HW0:=Zz.mk hB.size
 have HB:=Zz.mk hB
 clear hB
 have H:((z33.f s0_0 s0_1 s0_2 a1).bind fun bt101=>(some ((bt101.1 == 0),bt101.2.1,bt101.2.2)))=some (r1,r2,r3):=h
 clear h
 replace H:=OB_ H
 obtain ⟨⟨t101,t102,t103⟩,A30,H⟩:=H
 replace H:(some ((t101 == 0),t102,t103))=some (r1,r2,r3):=H
 have A3:=Zz.mk A30
 clear A30
 simp only [Option.some.injEq,Prod.mk.injEq] at H
 obtain ⟨rfl,rfl,rfl⟩:=H
 go_enter Tryz.func58,Tryz.ntmps58
 go_wp2_with (first | ((with_reducible refine gC_ (f:=33) rfl ?_);refine GL_ (some 7) rfl rfl Tryz.func33 #[.pointer (some ⟨g,0,none⟩),.int .i64 a1] rfl (h:=?_);(with_reducible refine (z33.calls g s0_0 s0_1 s0_2 a1 t101 t102 t103 w0 _ ?side1 ?side2 A3.out).mono ?_);(case side1=>exact rW2_ HI0.out);(case side2=>exact rW4_ HB.out HI0.out);rintro e w4 ⟨rfl,hi,hb,hk⟩;refine ⟨_,rfl,?_⟩;replace HK:=Zz.mk (qAf.trans (rW5_ HK.out) hk (.inl rfl));replace HB:=Zz.mk (hb);replace HI0:=Zz.mk (hi);(try clear hb);(try clear hk);(try clear hi)))
 go_ret
 exact ⟨F_,rW2_ HI0.out,rW4_ HB.out HI0.out,rW5_ HK.out⟩
end Go.Proofs.YtpgjfppbbbnclaaGreat.B
namespace Go.Proofs.YtpgjfppbbbnclaaGreat.B
open Go.RowKit Go.Proofs.YtpgjfppbbbnclaaGreatW.PrintWords Go.Proofs.YtpgjfppbbbnclaaGreatW.PrintLast Go.Proofs.YtpgjfppbbbnclaaGreatW.PrintMore
section
variable {α:Type} {d:Kd α} {e base:Nat} {ok:Nat→Prop} {W:World} {v:Value} {C:List α}
theorem qK5 (h:Kd.S d e W base ok v C):∃ (f:Nat→Nat) (rows:List (List Value)),rows.length=C.length∧(Kd.raw d.sz).R e W base (fun k=>some k=v.ownBlock) v rows∧(∀ k,v.ownBlock=some k→ok k) ∧
    ∀ (j:Nat) (x:α) (c:List Value),C[j]?=some x→rows[j]?=some c→d.M W base (fun k=>(ok k∧some k≠v.ownBlock)∧f k=j) x c:=by
  obtain ⟨f,h0,inner,ho,hr⟩:=h
  have hr':=Kd.reps_raw hr (fun x c hp=>⟨(Kd.tag f d).K_len ((Kd.tag f d).K_of_M hp),(Kd.tag f d).K_one ((Kd.tag f d).K_of_M hp)⟩)
  refine ⟨f,Kd.chunks d.sz C.zipIdx.length inner,by rw [Kd.chunks_length,List.length_zipIdx],⟨fun k hk=>hk.symm,inner,by rw [Kd.chunks_length];exact ho,hr'⟩,h0,fun j x c hx hc=>?_⟩
  rw [Kd.chunks_get hc]
  exact hr.2 j (x,j) (Kd.zip_at hx)
theorem qPh {rows:List (List Value)} (f:Nat→Nat) (hl:rows.length=C.length) (hR:(Kd.raw d.sz).R e W base (fun k=>some k=v.ownBlock) v rows) (h0:∀ k,v.ownBlock=some k→ok k)
    (hM:∀ (j:Nat) (x:α) (c:List Value),C[j]?=some x→rows[j]?=some c→d.M W base (fun k=>(ok k∧some k≠v.ownBlock)∧f k=j) x c):Kd.S d e W base ok v C:=by
  obtain ⟨_,inner,ho,hr⟩:=hR
  refine ⟨f,h0,inner,?_,?_,?_⟩
  · rw [List.length_zipIdx,← hl];exact ho
  · have:=hr.1
    rw [List.length_zipIdx,← hl];exact this
  intro j p hj
  obtain ⟨hj1,hj2⟩:=List.getElem?_eq_some_iff.1 hj
  rw [List.length_zipIdx] at hj1
  have hx:C[j]?=some p.1∧p.2=j:=by
    rw [List.getElem?_zipIdx] at hj
    rw [List.getElem?_eq_getElem hj1] at hj ⊢
    simp only [Option.map_some,Option.some.injEq,Nat.zero_add] at hj
    rw [← hj];exact ⟨rfl,rfl⟩
  have hrj:rows[j]?=some (rows[j]'(by omega)):=List.getElem?_eq_getElem (by omega)
  have h1:=hr.2 j _ hrj
  have h2:=hM j p.1 _ hx.1 hrj
  show d.M W base (fun k=>_∧f k=p.2) p.1 _
  rw [hx.2]
  have e1:(inner.drop (j * d.sz)).take d.sz=rows[j]'(by omega):=h1.1
  show d.M W base _ p.1 ((inner.drop (j * d.sz)).take d.sz)
  rw [e1]
  exact h2
end
theorem qF0 {et er base B a:Nat} {ok okx:Nat→Prop} {w w':World} {v v' u:Value} {C:List (List Int)} {s:List Int} {f:Nat→Nat} {rows:List (List Value)}
    (hl:rows.length=C.length) (hM:∀ (j:Nat) (x:List Int) (c:List Value),C[j]?=some x→rows[j]?=some c→(Kd.slice et (Kd.int .i64)).M w base (fun k=>(ok k∧some k≠v.ownBlock)∧f k=j) x c)
    (hB:B=w.heap.size) (hbB:base≤B) (hmove:∀ k,ok k→k<B→w'.heap[k]?=w.heap[k]?)
    (hu:Kd.R (Kd.int .i64) et w' B okx u s) (hok:∀ k,B≤k→ok k) (hne:∀ k,u.ownBlock=some k→some k≠v'.ownBlock)
    (hR:(Kd.raw 1).R er w' base (fun k=>some k=v'.ownBlock) v' (rows.take a ++ [u] :: rows.drop a)) (hv':∀ k,v'.ownBlock=some k→B≤k) (ha:a≤C.length) :
    Kd.S (Kd.slice et (Kd.int .i64)) er w' base ok v' (C.take a ++ s :: C.drop a):=by
  have hold:∀ (j i:Nat) (x:List Int) (c:List Value),C[j]?=some x→rows[j]?=some c→(if j<a then j else j+1)=i→(Kd.slice et (Kd.int .i64)).M w' base (fun k=>(ok k∧some k≠v'.ownBlock)∧(if k<B then (if f k<a then f k else f k+1) else a)=i) x c:=by
    intro j i x c hx hc hi
    have h1:=(Kd.slice et (Kd.int .i64)).M_bound (hM j x c hx hc)
    have h2:=Kd.M_step h1 (w1:=w') (fun k hk hlt=>hmove k hk.1.1.1 (by omega))
    refine (Kd.slice et (Kd.int .i64)).M_mono (fun k hk=>⟨⟨hk.1.1.1,fun h=>?_⟩,?_⟩) h2
    · have:=hv' k h.symm
      have:=hk.2.2.1
      omega
    have h3:=hk.2.2.1
    rw [if_pos (by omega),hk.1.2]
    exact hi
  refine qPh (fun k=>if k<B then (if f k<a then f k else f k+1) else a) ?_ hR (fun k hk=>hok k (hv' k hk)) (fun j x c hx hc=>?_)
  · simp only [List.length_append,List.length_take,List.length_cons,List.length_drop]
    omega
  have la:(C.take a).length=a:=by rw [List.length_take];omega
  have ra:(rows.take a).length=a:=by rw [List.length_take];omega
  rcases Nat.lt_trichotomy j a with h | h | h
  · rw [List.getElem?_append_left (by omega),List.getElem?_take,if_pos h] at hx hc
    exact hold j j x c hx hc (if_pos h)
  · subst h
    rw [List.getElem?_append_right (by omega),la,Nat.sub_self] at hx
    rw [List.getElem?_append_right (by omega),ra,Nat.sub_self] at hc
    simp only [List.getElem?_cons_zero,Option.some.injEq] at hx hc
    subst hx;subst hc
    refine ⟨u,rfl,Kd.R_lower (Kd.R_reok rfl hu (fun k hk=>?_)) hbB⟩
    have hbk:B≤k:=Kd.R_base hu k hk
    exact ⟨⟨hok k hbk,hne k hk⟩,if_neg (by omega)⟩
  rw [List.getElem?_append_right (by omega),la] at hx
  rw [List.getElem?_append_right (by omega),ra] at hc
  obtain ⟨i,hi⟩:∃ i,j - a=i+1:=⟨j - a - 1,by omega⟩
  rw [hi,List.getElem?_cons_succ,List.getElem?_drop] at hx hc
  exact hold (a+i) j x c hx hc (by rw [if_neg (by omega)];omega)
end Go.Proofs.YtpgjfppbbbnclaaGreat.B
/- The order of simplices, qBf, closed sets of them: plain lists (for this claim, by hand). -/
namespace Go.Proofs.YtpgjfppbbbnclaaGreat.B.SimT
def qC6:List Int→List Int→Bool
  | [],[]=>false
  | [],_ :: _=>true
  | _ :: _,[]=>false
  | a :: l,b :: m=>if a<b then true else if b<a then false else qC6 l m
theorem qFo:∀ l,qC6 l l=false
  | []=>rfl
  | a :: l=>by simp [qC6,qFo l]
theorem qGj:∀ {a b c:List Int},qC6 a b=true→qC6 b c=true→qC6 a c=true
  | [],[],_,h,_=>by cases h
  | [],_ :: _,[],_,h=>by cases h
  | [],_ :: _,_ :: _,_,_=>rfl
  | _ :: _,[],_,h,_=>by cases h
  | _ :: _,_ :: _,[],_,h=>by cases h
  | a :: l,b :: m,c :: o,h,h'=>by
    simp only [qC6] at h h' ⊢
    by_cases h1:a<b
    · by_cases h2:b<c
      · rw [if_pos (by omega)]
      rw [if_neg h2] at h'
      by_cases h3:c<b
      · rw [if_pos h3] at h';cases h'
      rw [if_pos (by omega)]
    rw [if_neg h1] at h
    by_cases h2:b<a
    · rw [if_pos h2] at h;cases h
    rw [if_neg h2] at h
    have e:a=b:=by omega
    subst e
    by_cases h3:a<c
    · rw [if_pos h3]
    rw [if_neg h3] at h' ⊢
    by_cases h4:c<a
    · rw [if_pos h4] at h';cases h'
    rw [if_neg h4] at h' ⊢
    exact qGj h h'
theorem qI9:∀ a b:List Int,qC6 a b=true∨a=b∨qC6 b a=true
  | [],[]=>.inr (.inl rfl)
  | [],_ :: _=>.inl rfl
  | _ :: _,[]=>.inr (.inr rfl)
  | a :: l,b :: m=>by
    simp only [qC6]
    rcases Int.lt_trichotomy a b with h | h | h
    · rw [if_pos h];exact .inl rfl
    · subst h
      rw [if_neg (by omega),if_neg (by omega)]
      rcases qI9 l m with h | h | h
      · exact .inl h
      · subst h;exact .inr (.inl rfl)
      rw [if_neg (by omega),if_neg (by omega)];exact .inr (.inr h)
    rw [if_neg (by omega:¬ a<b),if_pos h]
    rw [if_pos h];exact .inr (.inr rfl)
def slt (a b:List Int):Bool:=decide (a.length<b.length) || (decide (a.length=b.length) && qC6 a b)
theorem qEd (a b:List Int):slt a b=true↔a.length<b.length∨(a.length=b.length∧qC6 a b=true):=by simp [slt]
theorem qB5 (a:List Int):slt a a=false:=by simp [slt,qFo]
theorem qEp {a b c:List Int} (h:slt a b=true) (h':slt b c=true):slt a c=true:=by
  rw [qEd] at *
  rcases h with h | ⟨h1,h2⟩ <;> rcases h' with h' | ⟨h1',h2'⟩
  · exact .inl (by omega)
  · exact .inl (by omega)
  · exact .inl (by omega)
  exact .inr ⟨by omega,qGj h2 h2'⟩
theorem qOr (a b:List Int):slt a b=true∨a=b∨slt b a=true:=by
  rw [qEd,qEd]
  rcases Nat.lt_trichotomy a.length b.length with h | h | h
  · exact .inl (.inl h)
  · rcases qI9 a b with h1 | h1 | h1
    · exact .inl (.inr ⟨h,h1⟩)
    · exact .inr (.inl h1)
    exact .inr (.inr (.inr ⟨h.symm,h1⟩))
  exact .inr (.inr (.inl h))
theorem qIv {a b:List Int} (h:slt a b=true):slt b a=false:=by
  cases h':slt b a with
  | false=>rfl
  | true=>have:=qEp h h';rw [qB5] at this;cases this
theorem qL0 {a b:List Int} (h:slt a b=true):a≠b:=fun e=>by subst e;rw [qB5] at h;cases h
def Srt (l:List (List Int)):Prop:=l.Pairwise fun a b=>slt a b=true
theorem qOq:∀ {l m:List (List Int)},Srt l→Srt m→(∀ x,x∈l↔x∈m)→l=m
  | [],[],_,_,_=>rfl
  | [],b :: m,_,_,h=>by have:=(h b).2 List.mem_cons_self;cases this
  | a :: l,[],_,_,h=>by have:=(h a).1 List.mem_cons_self;cases this
  | a :: l,b :: m,hl,hm,h=>by
    have hl':=List.pairwise_cons.1 hl
    have hm':=List.pairwise_cons.1 hm
    have e:a=b:=by
      rcases List.mem_cons.1 ((h a).1 List.mem_cons_self) with h1 | h1
      · exact h1
      rcases List.mem_cons.1 ((h b).2 List.mem_cons_self) with h2 | h2
      · exact h2.symm
      have h3:=hm'.1 a h1
      have h4:=hl'.1 b h2
      rw [qIv h3] at h4;cases h4
    subst e
    congr 1
    refine qOq hl'.2 hm'.2 (fun x=>⟨fun hx=>?_,fun hx=>?_⟩)
    · rcases List.mem_cons.1 ((h x).1 (List.mem_cons_of_mem _ hx)) with h1 | h1
      · subst h1;have:=hl'.1 _ hx;rw [qB5] at this;cases this
      exact h1
    rcases List.mem_cons.1 ((h x).2 (List.mem_cons_of_mem _ hx)) with h1 | h1
    · subst h1;have:=hm'.1 _ hx;rw [qB5] at this;cases this
    exact h1
theorem qEc {l:List (List Int)} (h:Srt l) {i j:Nat} (hij:i<j) (hj:j<l.length):slt (l.getD i []) (l.getD j [])=true:=by
  have:=List.pairwise_iff_getElem.1 h i j (by omega) hj hij
  simpa [List.getD_eq_getElem?_getD,List.getElem?_eq_getElem hj,List.getElem?_eq_getElem (show i<l.length by omega)] using this
theorem qK8 {l:List (List Int)} (h:∀ i,i+1<l.length→slt (l.getD i []) (l.getD (i+1) [])=true):Srt l:=by
  have main:∀ d i,i+d+1<l.length→slt (l.getD i []) (l.getD (i+d+1) [])=true:=by
    intro d
    induction d with
    | zero=>exact h
    | succ d ih =>
      intro i hi
      have h1:=ih i (by omega)
      have h2:=h (i+d+1) (by omega)
      exact qEp h1 h2
  refine List.pairwise_iff_getElem.2 (fun i j hi hj hij=>?_)
  have:=main (j - i - 1) i (by omega)
  rw [show i+(j - i - 1)+1=j by omega] at this
  simpa [List.getD_eq_getElem?_getD,List.getElem?_eq_getElem hj,List.getElem?_eq_getElem hi] using this
theorem qIp {l:List (List Int)} (h:Srt l):l.Nodup:=h.imp fun h=>qL0 h
def drp (s:List Int) (k:Nat):List Int:=s.take k ++ s.drop (k+1)
theorem qGo:∀ (s:List Int) (k:Nat),drp s k=s.eraseIdx k
  | [],k=>by cases k <;> rfl
  | a :: s,0=>by simp [drp]
  | a :: s,k+1=>by
    have:=qGo s k
    simp only [drp] at this
    simp [drp,this]
theorem qBc {s:List Int} {k:Nat} (h:k<s.length):(drp s k).length=s.length - 1:=by
  rw [qGo,List.length_eraseIdx,if_pos h]
theorem qMy (s:List Int) (k:Nat):(drp s k).Sublist s:=by rw [qGo];exact List.eraseIdx_sublist ..
theorem qO9 {s:List Int} {k:Nat} (h:k<s.length):slt (drp s k) s=true:=by
  rw [qEd,qBc h];exact .inl (by omega)
def Inc (s:List Int):Prop:=s.Pairwise fun a b=>a<b
theorem qJr:∀ {t s:List Int},t.Sublist s→t.length<s.length→∃ k,k<s.length∧t.Sublist (drp s k)
  | _,_,.slnil,h=>by simp at h
  | _,_,@List.Sublist.cons _ t s a h,hl=>⟨0,by simp,by simpa [drp] using h⟩
  | _,_,@List.Sublist.cons_cons _ t s a h,hl=>by
    obtain ⟨k,hk,hs⟩:=qJr h (by simpa using hl)
    exact ⟨k+1,by simpa using hk,by simpa [drp] using hs.cons_cons a⟩
def qDt (C:List (List Int)):Prop:=∀ s,s∈C→1<s.length→∀ k,k<s.length→drp s k∈C
theorem qHp {C:List (List Int)} (h:qDt C):∀ (d:Nat) {t s:List Int},s∈C→t.Sublist s→t≠[]→s.length=t.length+d→t∈C
  | 0,t,s,hs,hts,_,hl=>by have:=hts.eq_of_length (by omega);subst this;exact hs
  | d+1,t,s,hs,hts,hne,hl=>by
    obtain ⟨k,hk,hk2⟩:=qJr hts (by omega)
    have htp:0<t.length:=by cases t with | nil=>exact absurd rfl hne | cons a t=>simp
    exact qHp h d (h s hs (by omega) k hk) hk2 hne (by rw [qBc hk];omega)
theorem qLo {C:List (List Int)} (h:qDt C) {t s:List Int} (hs:s∈C) (hts:t.Sublist s) (hne:t≠[]):t∈C :=
  qHp h (s.length - t.length) hs hts hne (by have:=hts.length_le;omega)
theorem qO3 {t s:List Int} (h:t.Sublist s) (hs:Inc s):Inc t:=List.Pairwise.sublist h hs
theorem qDw:∀ {t s:List Int},Inc t→Inc s→(∀ x,x∈t→x∈s)→t.Sublist s
  | [],s,_,_,_=>List.nil_sublist s
  | a :: t,[],_,_,h=>by have:=h a List.mem_cons_self;cases this
  | a :: t,b :: s,ht,hs,h=>by
    have ht':=List.pairwise_cons.1 ht
    have hs':=List.pairwise_cons.1 hs
    by_cases e:a=b
    · subst e
      refine List.Sublist.cons_cons a (qDw ht'.2 hs'.2 (fun x hx=>?_))
      rcases List.mem_cons.1 (h x (List.mem_cons_of_mem _ hx)) with h1 | h1
      · subst h1;have:=ht'.1 _ hx;omega
      exact h1
    refine List.Sublist.cons b (qDw ht hs'.2 (fun x hx=>?_))
    rcases List.mem_cons.1 (h x hx) with h1 | h1
    · subst h1
      rcases List.mem_cons.1 hx with h2 | h2
      · exact absurd h2.symm e
      rcases List.mem_cons.1 (h a List.mem_cons_self) with h3 | h3
      · exact absurd h3 e
      have:=ht'.1 _ h2;have:=hs'.1 _ h3;omega
    exact h1
theorem inc_ext {t s:List Int} (ht:Inc t) (hs:Inc s) (h:∀ x,x∈t↔x∈s):t=s:=by
  have h1:=qDw ht hs (fun x=>(h x).1)
  have h2:=qDw hs ht (fun x=>(h x).2)
  exact h1.eq_of_length (Nat.le_antisymm h1.length_le h2.length_le)
def ins (C:List (List Int)) (s:List Int):List (List Int):=(C.takeWhile fun x=>slt x s) ++ s :: (C.dropWhile fun x=>slt x s)
theorem qFe {C:List (List Int)} {s x:List Int}:x∈ins C s↔x=s∨x∈C:=by
  unfold ins
  have h:x∈C↔x∈(C.takeWhile fun x=>slt x s)∨x∈(C.dropWhile fun x=>slt x s):=by
    rw [← List.mem_append,List.takeWhile_append_dropWhile]
  rw [h,List.mem_append,List.mem_cons]
  constructor
  · rintro (h | h | h)
    · exact .inr (.inl h)
    · exact .inl h
    exact .inr (.inr h)
  rintro (h | h | h)
  · exact .inr (.inl h)
  · exact .inl h
  exact .inr (.inr h)
theorem qJ1:∀ {C:List (List Int)} {s:List Int},Srt C→s ∉ C→Srt (ins C s)
  | [],s,_,_=>List.pairwise_singleton _ _
  | a :: C,s,h,hn=>by
    have h':=List.pairwise_cons.1 h
    have hne:s≠a:=fun e=>hn (by rw [e];exact List.mem_cons_self)
    have hnC:s ∉ C:=fun hm=>hn (List.mem_cons_of_mem _ hm)
    unfold ins
    by_cases hlt:slt a s=true
    · have e1:(a :: C).takeWhile (fun x=>slt x s)=a :: C.takeWhile (fun x=>slt x s):=by simp [List.takeWhile_cons,hlt]
      have e2:(a :: C).dropWhile (fun x=>slt x s)=C.dropWhile (fun x=>slt x s):=by simp [List.dropWhile_cons,hlt]
      rw [e1,e2,List.cons_append]
      refine List.pairwise_cons.2 ⟨fun x hx=>?_,qJ1 h'.2 hnC⟩
      rcases (qFe (C:=C)).1 hx with rfl | hx
      · exact hlt
      exact h'.1 x hx
    have hf:slt a s=false:=by simpa using hlt
    have e1:(a :: C).takeWhile (fun x=>slt x s)=[]:=by simp [List.takeWhile_cons,hf]
    have e2:(a :: C).dropWhile (fun x=>slt x s)=a :: C:=by simp [List.dropWhile_cons,hf]
    rw [e1,e2,List.nil_append]
    have hsa:slt s a=true:=by
      rcases qOr a s with h1 | h1 | h1
      · exact absurd h1 hlt
      · exact absurd h1.symm hne
      exact h1
    refine List.pairwise_cons.2 ⟨fun x hx=>?_,h⟩
    rcases List.mem_cons.1 hx with rfl | hx
    · exact hsa
    exact qEp hsa (h'.1 x hx)
def putN:Nat→List (List Int)→List Int→List (List Int)
  | 0,C,_=>C
  | n+1,C,s=>if s∈C then C else ins ((List.range s.length).foldl (fun C k=>if 1<s.length then putN n C (drp s k) else C) C) s
theorem qF4 {x s:List Int}:x.Sublist s↔x=s∨∃ k,k<s.length∧x.Sublist (drp s k):=by
  constructor
  · intro h
    rcases Nat.lt_or_ge x.length s.length with hl | hg
    · exact .inr (qJr h hl)
    exact .inl (h.eq_of_length (Nat.le_antisymm h.length_le hg))
  rintro (rfl | ⟨k,_,h⟩)
  · exact List.Sublist.refl _
  exact h.trans (qMy s k)
theorem qGa:∀ (n:Nat) {C:List (List Int)} {s:List Int},s.length≤n→s≠[]→Srt C→qDt C →
    Srt (putN n C s)∧qDt (putN n C s)∧∀ x,x∈putN n C s↔x∈C∨(x.Sublist s∧x≠[])
  | 0,C,s,hl,hne,_,_=>by
    cases s with
    | nil=>exact absurd rfl hne
    | cons a s=>simp at hl
  | n+1,C,s,hl,hne,hs,hc=>by
    simp only [putN]
    by_cases hm:s∈C
    · rw [if_pos hm]
      refine ⟨hs,hc,fun x=>⟨.inl,?_⟩⟩
      rintro (h | ⟨h1,h2⟩)
      · exact h
      exact qLo hc hm h1 h2
    rw [if_neg hm]
    by_cases h1:1<s.length
    · simp only [if_pos h1]
      have hfold:∀ (m:Nat),m≤s.length→Srt ((List.range m).foldl (fun C k=>putN n C (drp s k)) C)∧qDt ((List.range m).foldl (fun C k=>putN n C (drp s k)) C) ∧
          ∀ x,x∈(List.range m).foldl (fun C k=>putN n C (drp s k)) C↔x∈C∨((∃ k,k<m∧x.Sublist (drp s k))∧x≠[]):=by
        intro m
        induction m with
        | zero=>intro _;exact ⟨hs,hc,fun x=>⟨.inl,fun h=>h.elim id (fun ⟨⟨k,hk,_⟩,_⟩=>by omega)⟩⟩
        | succ m ih =>
          intro hm
          obtain ⟨i1,i2,i3⟩:=ih (by omega)
          rw [List.range_succ,List.foldl_append,List.foldl_cons,List.foldl_nil]
          have hdl:(drp s m).length=s.length - 1:=qBc (by omega)
          obtain ⟨j1,j2,j3⟩:=qGa n (s:=drp s m) (by omega) (fun e=>by rw [e] at hdl;simp at hdl;omega) i1 i2
          refine ⟨j1,j2,fun x=>?_⟩
          rw [j3,i3]
          constructor
          · rintro ((h | ⟨⟨k,hk,hx⟩,hne⟩) | ⟨hx,hne⟩)
            · exact .inl h
            · exact .inr ⟨⟨k,by omega,hx⟩,hne⟩
            exact .inr ⟨⟨m,by omega,hx⟩,hne⟩
          rintro (h | ⟨⟨k,hk,hx⟩,hne⟩)
          · exact .inl (.inl h)
          rcases Nat.lt_or_ge k m with hkm | hkm
          · exact .inl (.inr ⟨⟨k,hkm,hx⟩,hne⟩)
          have:k=m:=by omega
          subst this;exact .inr ⟨hx,hne⟩
      obtain ⟨i1,i2,i3⟩:=hfold s.length (Nat.le_refl _)
      generalize (List.range s.length).foldl (fun C k=>putN n C (drp s k)) C=C' at i1 i2 i3
      have hsC:s ∉ C':=fun hm'=>by
        rcases (i3 s).1 hm' with h | ⟨⟨k,hk,hx⟩,_⟩
        · exact hm h
        have:=hx.length_le
        rw [qBc hk] at this;omega
      refine ⟨qJ1 i1 hsC,fun t ht htl k hk=>?_,fun x=>?_⟩
      · rw [qFe] at ht ⊢
        right
        rcases ht with rfl | ht
        · refine (i3 _).2 (.inr ⟨⟨k,hk,List.Sublist.refl _⟩,fun e=>?_⟩)
          have:=qBc hk
          rw [e] at this;simp at this;omega
        exact i2 t ht htl k hk
      rw [qFe,i3,qF4 (x:=x) (s:=s)]
      constructor
      · rintro (rfl | h | ⟨h,hne⟩)
        · exact .inr ⟨.inl rfl,hne⟩
        · exact .inl h
        exact .inr ⟨.inr h,hne⟩
      rintro (h | ⟨h | h,hne⟩)
      · exact .inr (.inl h)
      · exact .inl h
      exact .inr (.inr ⟨h,hne⟩)
    simp only [if_neg h1]
    have hfold:∀ (l:List Nat),l.foldl (fun (C:List (List Int)) (_:Nat)=>C) C=C:=by
      intro l;induction l with
      | nil=>rfl
      | cons a l ih=>simpa using ih
    rw [hfold]
    refine ⟨qJ1 hs hm,fun t ht htl k hk=>?_,fun x=>?_⟩
    · rw [qFe] at ht ⊢
      rcases ht with rfl | ht
      · omega
      exact .inr (hc t ht htl k hk)
    rw [qFe,qF4 (x:=x) (s:=s)]
    constructor
    · rintro (rfl | h)
      · exact .inr ⟨.inl rfl,hne⟩
      exact .inl h
    rintro (h | ⟨h | ⟨k,hk,hx⟩,hx2⟩)
    · exact .inr h
    · exact .inl h
    have h3:=hx.length_le
    rw [qBc hk] at h3
    cases x with
    | nil=>exact absurd rfl hx2
    | cons a x=>simp at h3;omega
theorem qMb:∀ (L:List (List Int)) {C:List (List Int)},(∀ s,s∈L→s≠[])→Srt C→qDt C →
    Srt (L.foldl (fun C s=>putN s.length C s) C)∧qDt (L.foldl (fun C s=>putN s.length C s) C)∧∀ x,x∈L.foldl (fun C s=>putN s.length C s) C↔x∈C∨((∃ s,s∈L∧x.Sublist s)∧x≠[])
  | [],C,_,hs,hc=>⟨hs,hc,fun x=>⟨.inl,fun h=>h.elim id (fun ⟨⟨s,h,_⟩,_⟩=>by cases h)⟩⟩
  | s :: L,C,hne,hs,hc=>by
    obtain ⟨i1,i2,i3⟩:=qGa s.length (Nat.le_refl _) (hne s List.mem_cons_self) hs hc
    obtain ⟨j1,j2,j3⟩:=qMb L (fun t ht=>hne t (List.mem_cons_of_mem _ ht)) i1 i2
    refine ⟨j1,j2,fun x=>?_⟩
    rw [List.foldl_cons,j3,i3]
    constructor
    · rintro ((h | ⟨h,hx⟩) | ⟨⟨t,ht,h⟩,hx⟩)
      · exact .inl h
      · exact .inr ⟨⟨s,List.mem_cons_self,h⟩,hx⟩
      exact .inr ⟨⟨t,List.mem_cons_of_mem _ ht,h⟩,hx⟩
    rintro (h | ⟨⟨t,ht,h⟩,hx⟩)
    · exact .inl (.inl h)
    rcases List.mem_cons.1 ht with rfl | ht
    · exact .inl (.inr ⟨h,hx⟩)
    exact .inr ⟨⟨t,ht,h⟩,hx⟩
end Go.Proofs.YtpgjfppbbbnclaaGreat.B.SimT
/- Small tools for what the printed functions come to: pure Lean, no program in sight (for this claim, by hand). -/
namespace Go.Proofs.YtpgjfppbbbnclaaGreat.B
open Go.RowKit Go.Proofs.YtpgjfppbbbnclaaGreatW.PrintWords
theorem qAc {α:Type} {c:Prop} [Decidable c] {t f:Nat→Option α} {r:α} (h:c) (e:Ev t r):Ev (fun k=>if c then t k else f k) r:=by
  simp only [if_pos h];exact e
theorem qAr {α:Type} {c:Prop} [Decidable c] {t f:Nat→Option α} {r:α} (h:¬ c) (e:Ev f r):Ev (fun k=>if c then t k else f k) r:=by
  simp only [if_neg h];exact e
theorem qA1 {α:Type} {x:Option α} {r:α} (h:x=some r):Ev (fun _=>x) r:=⟨0,fun _ _=>h⟩
theorem qBp {α:Type} {g:Nat→Option α} {r r':α} (h:Ev g r) (e:r=r'):Ev g r':=e ▸ h
def Le {α:Type} (g f:Nat→Option α):Prop:=∀ r,Ev g r→Ev f r
theorem Le.refl {α:Type} (g:Nat→Option α):Le g g:=fun _ h=>h
theorem Le.trans {α:Type} {g f e:Nat→Option α} (h:Le g f) (h':Le f e):Le g e:=fun r hr=>h' r (h r hr)
def iter {σ:Type} (F:Nat→σ→σ):Nat→Nat→σ→σ
  | _,0,s=>s
  | i,d+1,s=>iter F (i+1) d (F i s)
theorem qO1 {σ β:Type} (L:σ→Nat→Nat→Option β) (F:Nat→σ→σ):∀ (d i:Nat) (s:σ),(∀ j s,i≤j→j<i+d→Le (L (F j s) (j+1)) (L s j))→Le (L (iter F i d s) (i+d)) (L s i)
  | 0,i,s,_=>Le.refl _
  | d+1,i,s,h=>by
    have ih:=qO1 L F d (i+1) (F i s) (fun j s h1 h2=>h j s (by omega) (by omega))
    rw [show i+1+d=i+(d+1) by omega] at ih
    exact ih.trans (h i s (Nat.le_refl _) (by omega))
theorem qCh {σ β:Type} (L:σ→Nat→Nat→Option β) (F:Nat→σ→σ) (I:Nat→σ→Prop):∀ (d i:Nat) (s:σ),I i s→(∀ j s,i≤j→j<i+d→I j s→Le (L (F j s) (j+1)) (L s j)∧I (j+1) (F j s))→Le (L (iter F i d s) (i+d)) (L s i)∧I (i+d) (iter F i d s)
  | 0,i,s,hI,_=>⟨Le.refl _,hI⟩
  | d+1,i,s,hI,h=>by
    obtain ⟨h0,hI1⟩:=h i s (Nat.le_refl _) (by omega) hI
    have ih:=qCh L F I d (i+1) (F i s) hI1 (fun j s h1 h2=>h j s (by omega) (by omega))
    rw [show i+1+d=i+(d+1) by omega] at ih
    exact ⟨ih.1.trans h0,ih.2⟩
theorem qIb {σ:Type} (F:Nat→σ→σ) (I:Nat→σ→Prop):∀ (d i:Nat) (s:σ),I i s→(∀ j s,i≤j→j<i+d→I j s→I (j+1) (F j s))→I (i+d) (iter F i d s)
  | 0,i,s,hI,_=>hI
  | d+1,i,s,hI,h=>by
    have ih:=qIb F I d (i+1) (F i s) (h i s (Nat.le_refl _) (by omega) hI) (fun j s h1 h2=>h j s (by omega) (by omega))
    rw [show i+1+d=i+(d+1) by omega] at ih
    exact ih
theorem qLi {σ:Type} {F G:Nat→σ→σ}:∀ (d i:Nat) (s:σ),(∀ j s,i≤j→j<i+d→F j s=G j s)→iter F i d s=iter G i d s
  | 0,i,s,_=>rfl
  | d+1,i,s,h=>by
    simp only [iter]
    rw [h i s (Nat.le_refl _) (by omega)]
    exact qLi d (i+1) _ (fun j s h1 h2=>h j s (by omega) (by omega))
theorem qKh {σ:Type} (F:Nat→σ→σ):∀ (d e i:Nat) (s:σ),iter F i (d+e) s=iter F (i+d) e (iter F i d s)
  | 0,e,i,s=>by simp [iter]
  | d+1,e,i,s=>by
    rw [show d+1+e=d+e+1 by omega]
    simp only [iter]
    rw [qKh F d e (i+1) (F i s),show i+1+d=i+(d+1) by omega]
theorem qE0 {σ:Type} (F:Nat→σ→σ) (d i:Nat) (s:σ):iter F i (d+1) s=F (i+d) (iter F i d s):=by
  rw [qKh F d 1 i s];rfl
theorem qEf {β:Type} {r:β} (L:Nat→Nat→Option β) (p:Nat→Bool):∀ (d i:Nat),(∀ j,i≤j→j<i+d→p j=false→Le (L (j+1)) (L j)) →
    (∀ j,i≤j→j<i+d→p j=true→(∀ m,i≤m→m<j→p m=false)→Ev (L j) r)→((∀ m,i≤m→m<i+d→p m=false)→Ev (L (i+d)) r)→Ev (L i) r
  | 0,i,_,_,he=>he (fun m h1 h2=>by omega)
  | d+1,i,h0,h1,he=>by
    cases hp:p i with
    | true=>exact h1 i (Nat.le_refl _) (by omega) hp (fun m h1 h2=>by omega)
    | false =>
      refine h0 i (Nat.le_refl _) (by omega) hp r (qEf L p d (i+1) (fun j a b=>h0 j (by omega) (by omega)) (fun j a b c e=>h1 j (by omega) (by omega) c (fun m u v=>?_)) (fun e=>?_))
      · rcases Nat.eq_or_lt_of_le u with rfl | u
        · exact hp
        exact e m u v
      rw [show i+1+d=i+(d+1) by omega]
      refine he (fun m u v=>?_)
      rcases Nat.eq_or_lt_of_le u with rfl | u
      · exact hp
      exact e m u (by omega)
theorem qE9 {α:Type} (xs:List α) (z:α) (p:α→Bool):(List.range xs.length).all (fun i=>p (xs.getD i z))=xs.all p:=by
  rw [Bool.eq_iff_iff,List.all_eq_true,List.all_eq_true]
  constructor
  · intro h x hx
    obtain ⟨i,hi,rfl⟩:=List.mem_iff_getElem.1 hx
    have:=h i (List.mem_range.2 hi)
    rwa [List.getD_eq_getElem?_getD,List.getElem?_eq_getElem hi] at this
  intro h i hi
  have hi:=List.mem_range.1 hi
  rw [List.getD_eq_getElem?_getD,List.getElem?_eq_getElem hi]
  exact h _ (List.getElem_mem hi)
theorem qKo (L:Nat→Nat→Option Bool) (p:Nat→Bool) (n:Nat) (h1:∀ j,j<n→p j=true→Le (L (j+1)) (L j)) (h0:∀ j,j<n→p j=false→Ev (L j) false) (he:Ev (L n) true):Ev (L 0) ((List.range n).all p):=by
  refine qEf L (fun j=>!p j) n 0 (fun j _ hj hp=>h1 j (by omega) (by simpa using hp)) (fun j _ hj hp _=>?_) (fun h=>?_)
  · have hp':p j=false:=by simpa using hp
    have:(List.range n).all p=false:=by
      rw [Bool.eq_false_iff]
      intro h
      have:=List.all_eq_true.1 h j (List.mem_range.2 (by omega))
      rw [hp'] at this;cases this
    rw [this]
    exact h0 j (by omega) hp'
  have:(List.range n).all p=true:=List.all_eq_true.2 (fun j hj=>by simpa using h j (Nat.zero_le _) (by have:=List.mem_range.1 hj;omega))
  rw [this,Nat.zero_add]
  exact he
theorem qO7 {α:Type} (xs:List α) (z:α) (L:Nat→Nat→Option Bool) (p:α→Bool) (h1:∀ j,j<xs.length→p (xs.getD j z)=true→Le (L (j+1)) (L j)) (h0:∀ j,j<xs.length→p (xs.getD j z)=false→Ev (L j) false) (he:Ev (L xs.length) true):Ev (L 0) (xs.all p):=by
  rw [← qE9 xs z]
  exact qKo L (fun j=>p (xs.getD j z)) xs.length h1 h0 he
theorem least {q:Nat→Prop} (h:∃ j,q j):∃ j,q j∧∀ m,m<j→¬ q m:=by
  obtain ⟨j,hj⟩:=h
  induction j using Nat.strongRecOn with
  | _ j ih =>
    by_cases hm:∃ m,m<j∧q m
    · obtain ⟨m,h1,h2⟩:=hm
      exact ih m h1 h2
    exact ⟨j,hj,fun m h1 h2=>hm ⟨m,h1,h2⟩⟩
theorem qNy (L:Nat→Nat→Option Int) (p:Nat→Bool) (n:Nat) (h0:∀ j,j<n→p j=false→Le (L (j+1)) (L j)) (h1:∀ j,j<n→p j=true→Ev (L j) (j:Int)) (he:Ev (L n) (-1)):∃ t:Int,Ev (L 0) t∧decide (t ≥ 0)=(List.range n).any p:=by
  by_cases h:∃ j,j<n∧p j=true
  · obtain ⟨j,⟨hj,hp⟩,hmin⟩:∃ j,(j<n∧p j=true)∧∀ m,m<j→¬ (m<n∧p m=true):=by
      exact least h
    refine ⟨j,?_,?_⟩
    · refine qEf L p n 0 (fun i _ hi hpi=>h0 i (by omega) hpi) (fun i _ hi hpi hbef=>?_) (fun hall=>?_)
      · have:i=j:=by
          rcases Nat.lt_trichotomy i j with hlt | he | hlt
          · exact absurd ⟨by omega,hpi⟩ (hmin i hlt)
          · exact he
          have:=hbef j (Nat.zero_le _) hlt;rw [hp] at this;cases this
        subst this
        exact h1 i hj hp
      have:=hall j (Nat.zero_le _) (by omega);rw [hp] at this;cases this
    have:(List.range n).any p=true:=List.any_eq_true.2 ⟨j,List.mem_range.2 hj,hp⟩
    rw [this];simp
  have hno:∀ j,j<n→p j=false:=fun j hj=>by
    cases hp:p j with
    | true=>exact absurd ⟨j,hj,hp⟩ h
    | false=>rfl
  refine ⟨-1,?_,?_⟩
  · refine qEf L p n 0 (fun i _ hi hpi=>h0 i (by omega) hpi) (fun i _ hi hpi hbef=>?_) (fun _=>by rw [Nat.zero_add];exact he)
    have:=hno i (by omega);rw [hpi] at this;cases this
  have:(List.range n).any p=false:=by
    rw [Bool.eq_false_iff]
    intro hc
    obtain ⟨j,hj,hp⟩:=List.any_eq_true.1 hc
    have:=hno j (List.mem_range.1 hj);rw [hp] at this;cases this
  rw [this];rfl
theorem qNa {α:Type} (xs:List α) (z:α) (p:α→Bool):(List.range xs.length).any (fun i=>p (xs.getD i z))=xs.any p:=by
  have h:=qE9 xs z (fun x=>!p x)
  rw [List.any_eq_not_all_not,List.any_eq_not_all_not,h]
theorem qCq {α:Type} (xs:List α) (z:α) (L:Nat→Nat→Option Int) (p:α→Bool) (h0:∀ j,j<xs.length→p (xs.getD j z)=false→Le (L (j+1)) (L j)) (h1:∀ j,j<xs.length→p (xs.getD j z)=true→Ev (L j) (j:Int)) (he:Ev (L xs.length) (-1)):∃ t:Int,Ev (L 0) t∧decide (t ≥ 0)=xs.any p:=by
  rw [← qNa xs z]
  exact qNy L (fun j=>p (xs.getD j z)) xs.length h0 h1 he
theorem qAs {x:Int} (h0:-9223372036854775808≤x) (h1:x≤9223372036854775807):wrap64 x=x:=by
  unfold wrap64;omega
theorem qAw {i:Nat} (h:i<9223372036854775807):wrap64 ((i:Int)+1)=((i+1:Nat):Int):=by
  unfold wrap64;omega
theorem qA4 (xs:List Int) (i:Nat):rd xs (i:Int)=xs.getD i 0:=by simp [rd]
theorem rdOf_nat {α:Type} (z:α) (xs:List α) (i:Nat):rdOf z xs (i:Int)=xs.getD i z:=by simp [rdOf]
theorem set_prefix {α:Type} (l:List α) (i:Nat) (z:α) (hi:i<l.length) (y:α) (hy:y=l.getD i z):(l.take i ++ List.replicate (l.length - i) z).set i y=l.take (i+1) ++ List.replicate (l.length - (i+1)) z:=by
  have h1:(l.take i).length=i:=by rw [List.length_take];omega
  rw [List.set_append_right _ _ (by omega),h1,Nat.sub_self,show l.length - i=(l.length - (i+1))+1 by omega,List.replicate_succ,List.set_cons_zero,List.take_succ_eq_append_getElem hi,List.append_assoc]
  subst hy
  simp [List.getElem?_eq_getElem hi]
def qCp:List Int→Int→List Int
  | [],_=>[]
  | _ :: l,a=>a :: qCp l (a+1)
def qC1:List (List Int)→Int→List (List Int)
  | [],_=>[]
  | l :: ls,a=>qCp l a :: qC1 ls (a+l.length)
def total:List (List Int)→Int
  | []=>0
  | l :: ls=>l.length+total ls
theorem qCz:∀ ls,0≤total ls
  | []=>Int.le_refl _
  | l :: ls=>by have:=qCz ls;simp only [total];omega
theorem qDh:∀ l m:List (List Int),total (l ++ m)=total l+total m
  | [],m=>by simp [total]
  | x :: l,m=>by simp only [List.cons_append,total,qDh l m];omega
theorem qGh:∀ (l:List Int) (a:Int),(qCp l a).length=l.length
  | [],_=>rfl
  | _ :: l,a=>by simp [qCp,qGh l]
theorem qGf:∀ (l:List (List Int)) (a:Int),(qC1 l a).length=l.length
  | [],_=>rfl
  | _ :: l,a=>by simp [qC1,qGf l]
theorem qGi:∀ (l m:List Int) (a:Int),qCp (l ++ m) a=qCp l a ++ qCp m (a+l.length)
  | [],m,a=>by simp [qCp]
  | _ :: l,m,a=>by simp only [List.cons_append,qCp,qGi l m,List.length_cons];congr 3;push_cast;omega
theorem qGg:∀ (l m:List (List Int)) (a:Int),qC1 (l ++ m) a=qC1 l a ++ qC1 m (a+total l)
  | [],m,a=>by simp [qC1,total]
  | x :: l,m,a=>by simp only [List.cons_append,qC1,qGg l m,total];congr 3;omega
end Go.Proofs.YtpgjfppbbbnclaaGreat.B
/- More loops: those that gather (for this claim, by hand). -/
namespace Go.Proofs.YtpgjfppbbbnclaaGreat.B
open Go.RowKit Go.Proofs.YtpgjfppbbbnclaaGreatW.PrintWords
def filt (p:Nat→Bool) (n:Nat):List Int:=((List.range n).filter p).map fun i:Nat=>(i:Int)
theorem qDo (p:Nat→Bool) (n:Nat):filt p (n+1)=filt p n ++ if p n then [(n:Int)] else []:=by
  unfold filt
  rw [List.range_succ,List.filter_append,List.map_append]
  congr 1
  cases h:p n <;> simp [List.filter_cons,h]
theorem qJ2 (p:Nat→Bool):∀ n,(filt p n).length≤n
  | 0=>Nat.le_refl _
  | n+1=>by
    have:=qJ2 p n
    rw [qDo,List.length_append]
    split <;> simp <;> omega
theorem qHh {p q:Nat→Bool}:∀ n,(∀ i,i<n→p i=q i)→filt p n=filt q n
  | 0,_=>rfl
  | n+1,h=>by rw [qDo,qDo,qHh n (fun i hi=>h i (by omega)),h n (by omega)]
theorem qCo {p:Nat→Bool} {n:Nat} {x:Int}:x∈filt p n↔∃ i,i<n∧p i=true∧x=(i:Int):=by
  unfold filt
  rw [List.mem_map]
  constructor
  · rintro ⟨i,hi,rfl⟩
    obtain ⟨h1,h2⟩:=List.mem_filter.1 hi
    exact ⟨i,List.mem_range.1 h1,h2,rfl⟩
  rintro ⟨i,hi,hp,rfl⟩
  exact ⟨i,List.mem_filter.2 ⟨List.mem_range.2 hi,hp⟩,rfl⟩
theorem qJ4 {β:Type} (L:List Int→Nat→Nat→Option β) (p:Nat→Bool):∀ (n:Nat),(∀ j s,j<n→s.length≤j→p j=true→Le (L (s ++ [(j:Int)]) (j+1)) (L s j))→(∀ j s,j<n→s.length≤j→p j=false→Le (L s (j+1)) (L s j))→Le (L (filt p n) n) (L [] 0)
  | 0,_,_=>Le.refl _
  | n+1,h1,h0=>by
    have ih:=qJ4 L p n (fun j s hj=>h1 j s (by omega)) (fun j s hj=>h0 j s (by omega))
    refine Le.trans ?_ ih
    rw [qDo]
    cases hp:p n with
    | true=>exact h1 n _ (by omega) (qJ2 p n) hp
    | false=>simpa using h0 n _ (by omega) (qJ2 p n) hp
theorem qHk {α β:Type} (L:List α→Nat→Nat→Option β) (g:Nat→α):∀ (n:Nat),(∀ j s,j<n→s=(List.range j).map g→Le (L (s ++ [g j]) (j+1)) (L s j))→Le (L ((List.range n).map g) n) (L [] 0)
  | 0,_=>Le.refl _
  | n+1,h=>by
    have ih:=qHk L g n (fun j s hj=>h j s (by omega))
    refine Le.trans ?_ ih
    rw [List.range_succ,List.map_append]
    exact h n _ (by omega) rfl
theorem qEg (L:Nat→Nat→Option Bool) (p:Nat→Bool) (b:Bool):∀ (n:Nat),(∀ j,j<n→(∀ m,m<j→p m=true)→p j=true→Le (L (j+1)) (L j))→(∀ j,j<n→(∀ m,m<j→p m=true)→p j=false→Ev (L j) false)→((∀ m,m<n→p m=true)→Ev (L n) b)→Ev (L 0) ((List.range n).all p && b):=by
  intro n h1 h0 he
  have main:∀ (d i:Nat),i+d=n→(∀ m,m<i→p m=true)→Ev (L i) ((List.range n).all p && b):=by
    intro d
    induction d with
    | zero =>
      intro i hi hall
      have:i=n:=by omega
      subst this
      have e:(List.range i).all p=true:=List.all_eq_true.2 (fun j hj=>hall j (List.mem_range.1 hj))
      rw [e,Bool.true_and];exact he hall
    | succ d ih =>
      intro i hi hall
      cases hp:p i with
      | true =>
        refine h1 i (by omega) hall hp _ (ih (i+1) (by omega) (fun m hm=>?_))
        rcases Nat.lt_or_ge m i with hl | hg
        · exact hall m hl
        have:m=i:=by omega
        subst this;exact hp
      | false =>
        have e:(List.range n).all p=false:=by
          rw [Bool.eq_false_iff]
          intro h
          have:=List.all_eq_true.1 h i (List.mem_range.2 (by omega))
          rw [hp] at this;cases this
        rw [e,Bool.false_and]
        exact h0 i (by omega) hall hp
  exact main n 0 (by omega) (fun m hm=>by omega)
theorem qI8 {α β:Type} (z:α) (g:α→β) (l:List α):l.map g=(List.range l.length).map fun j=>g (l.getD j z):=by
  apply List.ext_getElem
  · simp
  intro n h1 h2
  simp only [List.getElem_map,List.getElem_range,List.getD_eq_getElem?_getD]
  have:n<l.length:=by simpa using h1
  simp [List.getElem?_eq_getElem this]
end Go.Proofs.YtpgjfppbbbnclaaGreat.B
namespace Go.Proofs.YtpgjfppbbbnclaaGreat.B
open Go.RowKit Go.Proofs.YtpgjfppbbbnclaaGreatW.PrintWords Go.Proofs.YtpgjfppbbbnclaaGreatW.PrintLast Go.Proofs.YtpgjfppbbbnclaaGreatW.PrintMore
attribute [local go_sem] qAq qAo qAu qAt qAl qAk qAp qAn
def z62.f (a0:Int) (a1:Int) (a2:Int):Option (Bool):=if a0 ≥ a1 then (some (decide (a0≤a2))) else (some false)
theorem z62.calls (a0:Int) (a1:Int) (a2:Int) (r:Bool) (w:World) (h:z62.f a0 a1 a2=some r) :
  Calls Tryz.prog 62 #[.int .i64 a0,.int .i64 a1,.int .i64 a2] w fun e w'=>e=.returned (.bool r)∧Dz w w':=by
 have H:(if a0 ≥ a1 then (some (decide (a0≤a2))) else (some false))=some r:=h
 clear h
 by_cases c4:a0 ≥ a1
 ·rw [if_pos c4] at H
  have c4b0:decide (a1≤a0)=true:=decide_eq_true c4
  clear c4
  obtain rfl:=OI_ H
  go_enter Tryz.func62,Tryz.ntmps62
  go_wp2
  go_ret
  exact eD_
 rw [if_neg c4] at H
 have c4b0:decide (a1≤a0)=false:=decide_eq_false c4
 clear c4
 obtain rfl:=OI_ H
 go_enter Tryz.func62,Tryz.ntmps62
 go_wp2
 go_ret
 exact eD_
end Go.Proofs.YtpgjfppbbbnclaaGreat.B
/- Ranges and elements (for this claim, by hand). -/
namespace Go.Proofs.YtpgjfppbbbnclaaGreat.B
open Go.RowKit Go.Proofs.YtpgjfppbbbnclaaGreatW.PrintWords
theorem qDu (a b c:Int):z101.f a b c=some (decide (b≤a) && decide (a≤c)):=by
  unfold z101.f
  by_cases h:a ≥ b
  · rw [if_pos h];simp [h]
  rw [if_neg h];simp;omega
theorem qE1 (a b c:Int):z62.f a b c=some (decide (b≤a) && decide (a≤c)):=by
  unfold z62.f
  by_cases h:a ≥ b
  · rw [if_pos h];simp [h]
  rw [if_neg h];simp;omega
theorem qA3 {α:Type} {l:List α} {i:Nat} (z:α) (h:i<l.length):l.getD i z∈l:=by
  rw [List.getD_eq_getElem?_getD,List.getElem?_eq_getElem h];exact List.getElem_mem h
theorem qA6 (l:List (List Int)) (i:Nat):rI_ l (i:Int)=l.getD i []:=by simp [rI_]
end Go.Proofs.YtpgjfppbbbnclaaGreat.B
namespace Go.Proofs.YtpgjfppbbbnclaaGreat.B
open Go.RowKit Go.Proofs.YtpgjfppbbbnclaaGreatW.PrintWords Go.Proofs.YtpgjfppbbbnclaaGreatW.PrintLast Go.Proofs.YtpgjfppbbbnclaaGreatW.PrintMore
attribute [local go_sem] qAq qAo qAu qAt qAl qAk qAp qAn
def z60.l0:Nat→List Int→List Int→Int→Option (Bool)
 | 0,_,_,_=>none
 | k+1,x0,x1,x5=>if x5<(x0.length:Int) then (if 0≤x5 then (if x5<(x1.length:Int) then (if (rd x0 x5)=(rd x1 x5) then (z60.l0 k x0 x1 (wrap64 (x5+1))) else (some (decide ((rd x0 x5)<(rd x1 x5))))) else (none)) else (none)) else (some false)
def z60.f (k:Nat) (l0:List Int) (l1:List Int):Option (Bool):=if (l0.length:Int)=(l1.length:Int) then (z60.l0 k l0 l1 0) else (some (decide ((l0.length:Int)<(l1.length:Int))))
theorem z60.calls (k:Nat) (A0:Option Addr) (c0:Nat) (l0:List Int) (A1:Option Addr) (c1:Nat) (l1:List Int) (r:Bool) (w:World) (hr0:Kd.C (Kd.int .i64) w A0 l0.length l0) (hc0:l0.length≤c0) (hr1:Kd.C (Kd.int .i64) w A1 l1.length l1) (hc1:l1.length≤c1) (h:z60.f k l0 l1=some r) :
  Calls Tryz.prog 60 #[.slice A0 l0.length c0,.slice A1 l1.length c1] w fun e w'=>e=.returned (.bool r)∧Dz w w':=by
 have HR0:=Zz.mk hr0
 have HC0:=Zz.mk hc0
 clear hr0 hc0
 have HR1:=Zz.mk hr1
 have HC1:=Zz.mk hc1
 clear hr1 hc1
 have H:(if (l0.length:Int)=(l1.length:Int) then (z60.l0 k l0 l1 0) else (some (decide ((l0.length:Int)<(l1.length:Int)))))=some r:=h
 clear h
 by_cases c3:(l0.length:Int)=(l1.length:Int)
 ·rw [if_pos c3] at H
  have c3b0:((l0.length:Int) == (l1.length:Int))=true:=beq_iff_eq.mpr c3
  have c3b1:((l0.length:Int) != (l1.length:Int))=false:=bne_eq_false_iff_eq.mpr c3
  have c3b2:(l0.length == l1.length)=true:=by first | simpa using c3 | (simp at c3 ⊢;omega)
  clear c3
  have H':=Zz.mk H
  clear H
  go_enter Tryz.func60,Tryz.ntmps60
  go_wp2
  repeat (go_quiet (fail);try go_wp2)
  go_loopg [5] k (fun kq v5 w'=>∃ (x5_1:Int),v5=.int .i64 x5_1∧Zz (z60.l0 kq l0 l1 x5_1=some r)∧Zz (kq≤k)∧Dz w w')
  case atStart=>exact ⟨(0),E_,H',⟨Nat.le_refl _⟩,by repeat (first | exact Dz.refl _ | apply Dz.step)⟩
  case round =>
   clear H'
   (try clear c1);(try clear c3);(try clear c3b0);(try clear c3b1);(try clear c3b2)
   obtain ⟨x5_1,rfl,HA,HK1,⟨m1,rfl⟩⟩:=hrel
   cases gk with
   | zero=>exact absurd HA.out (by simp [z60.l0])
   | succ k1 =>
    have H:=HA.out
    clear HA
    simp only [z60.l0] at H
    by_cases c4:x5_1<(l0.length:Int)
    ·rw [if_pos c4] at H
     have c4b0:decide (x5_1<(l0.length:Int))=true:=decide_eq_true c4
     clear c4
     have c5b0:=O3_ H
     replace H:=O2_ H
     have c6b0:=O3_ H
     replace H:=O2_ H
     by_cases c7:(rd l0 x5_1)=(rd l1 x5_1)
     ·rw [if_pos c7] at H
      have c7b0:((rd l0 x5_1) == (rd l1 x5_1))=true:=beq_iff_eq.mpr c7
      have c7b1:((rd l0 x5_1) != (rd l1 x5_1))=false:=bne_eq_false_iff_eq.mpr c7
      clear c7
      have H':=Zz.mk H
      clear H
      have p101:0≤(x5_1:Int):=D_
      have q101:x5_1<(l0.length:Int):=D_
      obtain ⟨ad101,e101,hx101_0⟩:=Kd.at_int HR0.out x5_1 p101 q101
      cases e101
      replace p101:=eq_true p101
      replace q101:=eq_true q101
      have p102:0≤(x5_1:Int):=D_
      have q102:x5_1<(l1.length:Int):=D_
      obtain ⟨ad102,e102,hx102_0⟩:=Kd.at_int HR1.out x5_1 p102 q102
      cases e102
      replace p102:=eq_true p102
      replace q102:=eq_true q102
      go_wp2
      repeat (go_quiet (fail);try go_wp2)
      go_roundg k1
      case measure=>exact Q1_ HK1
      case rel=>exact ⟨(wrap64 (x5_1+1)),E_,H',⟨Q1_ HK1⟩,by repeat (first | exact Dz.refl _ | apply Dz.step)⟩
     rw [if_neg c7] at H
     have c7b0:((rd l0 x5_1) == (rd l1 x5_1))=false:=beq_eq_false_iff_ne.mpr c7
     have c7b1:((rd l0 x5_1) != (rd l1 x5_1))=true:=bne_iff_ne.mpr c7
     obtain rfl:=OI_ H
     have p101:0≤(x5_1:Int):=D_
     have q101:x5_1<(l0.length:Int):=D_
     obtain ⟨ad101,e101,hx101_0⟩:=Kd.at_int HR0.out x5_1 p101 q101
     cases e101
     replace p101:=eq_true p101
     replace q101:=eq_true q101
     have p102:0≤(x5_1:Int):=D_
     have q102:x5_1<(l1.length:Int):=D_
     obtain ⟨ad102,e102,hx102_0⟩:=Kd.at_int HR1.out x5_1 p102 q102
     cases e102
     replace p102:=eq_true p102
     replace q102:=eq_true q102
     have p103:0≤(x5_1:Int):=D_
     have q103:x5_1<(l0.length:Int):=D_
     obtain ⟨ad103,e103,hx103_0⟩:=Kd.at_int HR0.out x5_1 p103 q103
     obtain rfl:ad101=ad103:=(by injection e103)
     replace p103:=eq_true p103
     replace q103:=eq_true q103
     have p104:0≤(x5_1:Int):=D_
     have q104:x5_1<(l1.length:Int):=D_
     obtain ⟨ad104,e104,hx104_0⟩:=Kd.at_int HR1.out x5_1 p104 q104
     obtain rfl:ad102=ad104:=(by injection e104)
     replace p104:=eq_true p104
     replace q104:=eq_true q104
     go_wp2
     repeat (go_quiet (fail);try go_wp2)
     go_ret
     exact eD_
    rw [if_neg c4] at H
    have c4b0:decide (x5_1<(l0.length:Int))=false:=decide_eq_false c4
    clear c4
    obtain rfl:=OI_ H
    go_wp2
    repeat (go_quiet (fail);try go_wp2)
    go_ret
    exact eD_
 rw [if_neg c3] at H
 have c3b0:((l0.length:Int) == (l1.length:Int))=false:=beq_eq_false_iff_ne.mpr c3
 have c3b1:((l0.length:Int) != (l1.length:Int))=true:=bne_iff_ne.mpr c3
 have c3b2:(l0.length == l1.length)=false:=by first | simpa using c3 | (simp at c3 ⊢;omega)
 obtain rfl:=OI_ H
 go_enter Tryz.func60,Tryz.ntmps60
 go_wp2
 repeat (go_quiet (fail);try go_wp2)
 go_ret
 exact eD_
def z79.l0:Nat→List Int→List Int→Int→Option (Bool)
 | 0,_,_,_=>none
 | k+1,x0,x1,x5=>if x5<(x0.length:Int) then (if 0≤x5 then (if x5<(x1.length:Int) then (if (rd x0 x5)=(rd x1 x5) then (z79.l0 k x0 x1 (wrap64 (x5+1))) else (some false)) else (none)) else (none)) else (some true)
def z79.f (k:Nat) (l0:List Int) (l1:List Int):Option (Bool):=if (l0.length:Int)=(l1.length:Int) then (z79.l0 k l0 l1 0) else (some false)
theorem z79.calls (k:Nat) (A0:Option Addr) (c0:Nat) (l0:List Int) (A1:Option Addr) (c1:Nat) (l1:List Int) (r:Bool) (w:World) (hr0:Kd.C (Kd.int .i64) w A0 l0.length l0) (hc0:l0.length≤c0) (hr1:Kd.C (Kd.int .i64) w A1 l1.length l1) (hc1:l1.length≤c1) (h:z79.f k l0 l1=some r) :
  Calls Tryz.prog 79 #[.slice A0 l0.length c0,.slice A1 l1.length c1] w fun e w'=>e=.returned (.bool r)∧Dz w w':=by
 have HR0:=Zz.mk hr0
 have HC0:=Zz.mk hc0
 clear hr0 hc0
 have HR1:=Zz.mk hr1
 have HC1:=Zz.mk hc1
 clear hr1 hc1
 have H:(if (l0.length:Int)=(l1.length:Int) then (z79.l0 k l0 l1 0) else (some false))=some r:=h
 clear h
 by_cases c3:(l0.length:Int)=(l1.length:Int)
 ·rw [if_pos c3] at H
  have c3b0:((l0.length:Int) == (l1.length:Int))=true:=beq_iff_eq.mpr c3
  have c3b1:((l0.length:Int) != (l1.length:Int))=false:=bne_eq_false_iff_eq.mpr c3
  have c3b2:(l0.length == l1.length)=true:=by first | simpa using c3 | (simp at c3 ⊢;omega)
  clear c3
  have H':=Zz.mk H
  clear H
  go_enter Tryz.func79,Tryz.ntmps79
  go_wp2
  repeat (go_quiet (fail);try go_wp2)
  go_loopg [5] k (fun kq v5 w'=>∃ (x5_1:Int),v5=.int .i64 x5_1∧Zz (z79.l0 kq l0 l1 x5_1=some r)∧Zz (kq≤k)∧Dz w w')
  case atStart=>exact ⟨(0),E_,H',⟨Nat.le_refl _⟩,by repeat (first | exact Dz.refl _ | apply Dz.step)⟩
  case round =>
   clear H'
   (try clear c1);(try clear c3);(try clear c3b0);(try clear c3b1);(try clear c3b2)
   obtain ⟨x5_1,rfl,HA,HK1,⟨m1,rfl⟩⟩:=hrel
   cases gk with
   | zero=>exact absurd HA.out (by simp [z79.l0])
   | succ k1 =>
    have H:=HA.out
    clear HA
    simp only [z79.l0] at H
    by_cases c4:x5_1<(l0.length:Int)
    ·rw [if_pos c4] at H
     have c4b0:decide (x5_1<(l0.length:Int))=true:=decide_eq_true c4
     clear c4
     have c5b0:=O3_ H
     replace H:=O2_ H
     have c6b0:=O3_ H
     replace H:=O2_ H
     by_cases c7:(rd l0 x5_1)=(rd l1 x5_1)
     ·rw [if_pos c7] at H
      have c7b0:((rd l0 x5_1) == (rd l1 x5_1))=true:=beq_iff_eq.mpr c7
      have c7b1:((rd l0 x5_1) != (rd l1 x5_1))=false:=bne_eq_false_iff_eq.mpr c7
      clear c7
      have H':=Zz.mk H
      clear H
      have p101:0≤(x5_1:Int):=D_
      have q101:x5_1<(l0.length:Int):=D_
      obtain ⟨ad101,e101,hx101_0⟩:=Kd.at_int HR0.out x5_1 p101 q101
      cases e101
      replace p101:=eq_true p101
      replace q101:=eq_true q101
      have p102:0≤(x5_1:Int):=D_
      have q102:x5_1<(l1.length:Int):=D_
      obtain ⟨ad102,e102,hx102_0⟩:=Kd.at_int HR1.out x5_1 p102 q102
      cases e102
      replace p102:=eq_true p102
      replace q102:=eq_true q102
      go_wp2
      repeat (go_quiet (fail);try go_wp2)
      go_roundg k1
      case measure=>exact Q1_ HK1
      case rel=>exact ⟨(wrap64 (x5_1+1)),E_,H',⟨Q1_ HK1⟩,by repeat (first | exact Dz.refl _ | apply Dz.step)⟩
     rw [if_neg c7] at H
     have c7b0:((rd l0 x5_1) == (rd l1 x5_1))=false:=beq_eq_false_iff_ne.mpr c7
     have c7b1:((rd l0 x5_1) != (rd l1 x5_1))=true:=bne_iff_ne.mpr c7
     obtain rfl:=OI_ H
     have p101:0≤(x5_1:Int):=D_
     have q101:x5_1<(l0.length:Int):=D_
     obtain ⟨ad101,e101,hx101_0⟩:=Kd.at_int HR0.out x5_1 p101 q101
     cases e101
     replace p101:=eq_true p101
     replace q101:=eq_true q101
     have p102:0≤(x5_1:Int):=D_
     have q102:x5_1<(l1.length:Int):=D_
     obtain ⟨ad102,e102,hx102_0⟩:=Kd.at_int HR1.out x5_1 p102 q102
     cases e102
     replace p102:=eq_true p102
     replace q102:=eq_true q102
     go_wp2
     repeat (go_quiet (fail);try go_wp2)
     go_ret
     exact eD_
    rw [if_neg c4] at H
    have c4b0:decide (x5_1<(l0.length:Int))=false:=decide_eq_false c4
    clear c4
    obtain rfl:=OI_ H
    go_wp2
    repeat (go_quiet (fail);try go_wp2)
    go_ret
    exact eD_
 rw [if_neg c3] at H
 have c3b0:((l0.length:Int) == (l1.length:Int))=false:=beq_eq_false_iff_ne.mpr c3
 have c3b1:((l0.length:Int) != (l1.length:Int))=true:=bne_iff_ne.mpr c3
 have c3b2:(l0.length == l1.length)=false:=by first | simpa using c3 | (simp at c3 ⊢;omega)
 obtain rfl:=OI_ H
 go_enter Tryz.func79,Tryz.ntmps79
 go_wp2
 repeat (go_quiet (fail);try go_wp2)
 go_ret
 exact eD_
def z46.l0:Nat→List Int→Int→List (List Int)→Option (Int)
 | 0,_,_,_=>none
 | k+1,x1,x5,x51000=>if x5<(x51000.length:Int) then (if 0≤x5 then ((z79.f k (rI_ x51000 x5) x1).bind fun t102=>(if t102=true then (some x5) else (z46.l0 k x1 (wrap64 (x5+1)) x51000))) else (none)) else (some (-1))
def z46.f (k:Nat) (l0_0:List (List Int)) (l1:List Int):Option (Int):=z46.l0 k l1 0 l0_0
theorem z46.calls (k:Nat) (gp0:Nat) (A0_0:Option Addr) (c0_0:Nat) (l0_0:List (List Int)) (A1:Option Addr) (c1:Nat) (l1:List Int) (r:Int) (w:World) (hbp0:w.heap[gp0]?=some (.cells #[.slice A0_0 l0_0.length c0_0] 26 (0,0))) (hr0_0:Kd.C (Kd.slice 2 (Kd.int .i64)) w A0_0 l0_0.length l0_0) (hc0_0:l0_0.length≤c0_0) (hr1:Kd.C (Kd.int .i64) w A1 l1.length l1) (hc1:l1.length≤c1) (h:z46.f k l0_0 l1=some r) :
  Calls Tryz.prog 46 #[.pointer (some ⟨gp0,0,none⟩),.slice A1 l1.length c1] w fun e w'=>e=.returned (.int .i64 r)∧Dz w w':=by
 have HR0_0:=Zz.mk hr0_0
 have HC0_0:=Zz.mk hc0_0
 clear hr0_0 hc0_0
 have HR1:=Zz.mk hr1
 have HC1:=Zz.mk hc1
 clear hr1 hc1
 have BK50:=Zz.mk hbp0
 clear hbp0
 have H:(z46.l0 k l1 0 l0_0)=some r:=h
 clear h
 have H':=Zz.mk H
 clear H
 go_enter Tryz.func46,Tryz.ntmps46
 go_wp2
 go_loopg [5] k (fun kq v5 w'=>∃ (x5_1:Int),v5=.int .i64 x5_1∧Zz (z46.l0 kq l1 x5_1 l0_0=some r)∧Zz (kq≤k)∧Zz (w'.heap[gp0]?=some (.cells #[(.slice A0_0 l0_0.length c0_0)] 26 (0,0)))∧Dz w w')
 case atStart=>exact ⟨(0),E_,H',⟨Nat.le_refl _⟩,⟨KB_ BK50.out⟩,by repeat (first | exact Dz.refl _ | apply Dz.step)⟩
 case round =>
  clear H'
  (try clear c1)
  obtain ⟨x5_1,rfl,HA,HK1,BK50,⟨m1,rfl⟩⟩:=hrel
  cases gk with
  | zero=>exact absurd HA.out (by simp [z46.l0])
  | succ k1 =>
   have H:=HA.out
   clear HA
   simp only [z46.l0] at H
   by_cases c3:x5_1<(l0_0.length:Int)
   ·rw [if_pos c3] at H
    have c3b0:decide (x5_1<(l0_0.length:Int))=true:=decide_eq_true c3
    clear c3
    have c4b0:=O3_ H
    replace H:=O2_ H
    replace H:=OZ_ H
    obtain ⟨t102,A5,H⟩:=H
    by_cases c6:t102=true
    ·subst c6
     replace H:=T_ H
     obtain rfl:=OI_ H
     obtain ⟨hcz7_0,hfz7_0⟩:=Z1f_ BK50.out
     have p101:0≤(x5_1:Int):=D_
     have q101:x5_1<(l0_0.length:Int):=D_
     obtain ⟨ad101,A101_0,c101_0,e101,hx101_0,hl101_0,hi101_0⟩:=qA2 HR0_0.out x5_1 p101 q101
     cases e101
     have HR101_0:=Zz.mk hi101_0
     have HC101_0:=Zz.mk hl101_0
     clear hi101_0 hl101_0
     replace p101:=eq_true p101
     replace q101:=eq_true q101
     go_wp2_with (first | ((with_reducible refine gC_ (f:=79) rfl ?_);refine GL_ (some 23) rfl rfl Tryz.func79 #[.slice A101_0 (rI_ l0_0 x5_1).length c101_0,.slice A1 l1.length c1] rfl (h:=?_);(with_reducible refine (z79.calls k1 _ _ (rI_ l0_0 x5_1) _ _ l1 true _ ?side1 ?side2 ?side3 ?side4 A5.out).mono ?_);(case side1=>exact KC_ HR101_0.out);(case side2=>exact HC101_0.out);(case side3=>exact KC_ HR1.out);(case side4=>exact HC1.out);rintro e w' ⟨rfl,⟨nd,rfl⟩⟩;refine ⟨_,rfl,?_⟩))
     go_ret
     exact eD_
    replace c6:=Bool.eq_false_iff.mpr c6
    subst c6
    replace H:=N_ H
    have H':=Zz.mk H
    clear H
    obtain ⟨hcz8_0,hfz8_0⟩:=Z1f_ BK50.out
    have p101:0≤(x5_1:Int):=D_
    have q101:x5_1<(l0_0.length:Int):=D_
    obtain ⟨ad101,A101_0,c101_0,e101,hx101_0,hl101_0,hi101_0⟩:=qA2 HR0_0.out x5_1 p101 q101
    cases e101
    have HR101_0:=Zz.mk hi101_0
    have HC101_0:=Zz.mk hl101_0
    clear hi101_0 hl101_0
    replace p101:=eq_true p101
    replace q101:=eq_true q101
    go_wp2_with (first | ((with_reducible refine gC_ (f:=79) rfl ?_);refine GL_ (some 23) rfl rfl Tryz.func79 #[.slice A101_0 (rI_ l0_0 x5_1).length c101_0,.slice A1 l1.length c1] rfl (h:=?_);(with_reducible refine (z79.calls k1 _ _ (rI_ l0_0 x5_1) _ _ l1 false _ ?side1 ?side2 ?side3 ?side4 A5.out).mono ?_);(case side1=>exact KC_ HR101_0.out);(case side2=>exact HC101_0.out);(case side3=>exact KC_ HR1.out);(case side4=>exact HC1.out);rintro e w' ⟨rfl,⟨nd,rfl⟩⟩;refine ⟨_,rfl,?_⟩))
    go_roundg k1
    case measure=>exact Q1_ HK1
    case rel=>exact ⟨(wrap64 (x5_1+1)),E_,H',⟨Q1_ HK1⟩,⟨KB_ BK50.out⟩,by repeat (first | exact Dz.refl _ | apply Dz.step)⟩
   rw [if_neg c3] at H
   have c3b0:decide (x5_1<(l0_0.length:Int))=false:=decide_eq_false c3
   clear c3
   obtain rfl:=OI_ H
   obtain ⟨hcz9_0,hfz9_0⟩:=Z1f_ BK50.out
   go_wp2
   go_ret
   exact eD_
end Go.Proofs.YtpgjfppbbbnclaaGreat.B
namespace Go.Proofs.YtpgjfppbbbnclaaGreat.B
open Go.RowKit Go.ChangeShapes Go.WideShapes Go.Deep Go.Proofs.YtpgjfppbbbnclaaGreatW.PrintWords
section
variable {H:Type} {enc:TypeId × Value→H} {P:Program} {w:World} {base:Nat} {held:Bool} {fuel:Nat}
end
theorem own:ownKnob Tryz.prog.godebug=none:=by kernel_rfl
theorem qMl:laidOutB Tryz.prog=true:=by kernel_rfl
end Go.Proofs.YtpgjfppbbbnclaaGreat.B
/- What the laws' own helpers come to: sizes, copies, comparisons, marks (for this claim, by hand). -/
namespace Go.Proofs.YtpgjfppbbbnclaaGreat.B
open Go.RowKit Go.Proofs.YtpgjfppbbbnclaaGreatW.PrintWords
theorem qH9 {α:Type} [BEq α] [LawfulBEq α] (l m:List α) (z:α) (h:l.length=m.length):(List.range l.length).all (fun i=>l.getD i z == m.getD i z)=(l == m):=by
  rw [Bool.eq_iff_iff,List.all_eq_true,beq_iff_eq]
  constructor
  · intro e
    apply List.ext_getElem h
    intro i h1 h2
    have:=e i (List.mem_range.2 h1)
    simpa [List.getD_eq_getElem?_getD,List.getElem?_eq_getElem h1,List.getElem?_eq_getElem h2] using this
  rintro rfl i _
  exact beq_self_eq_true _
theorem qLg {α:Type} [BEq α] [LawfulBEq α] {l m:List α} (h:l.length≠m.length):(l == m)=false:=by
  rw [Bool.eq_false_iff];intro e;exact h (by rw [eq_of_beq e])
end Go.Proofs.YtpgjfppbbbnclaaGreat.B
/- Lists of numbers are compared (for this claim, by hand). -/
namespace Go.Proofs.YtpgjfppbbbnclaaGreat.B
open Go.RowKit Go.Proofs.YtpgjfppbbbnclaaGreatW.PrintWords
theorem qL3 (l m:List Int) (hl:l.length<9223372036854775807):Ev (fun k=>z79.f k l m) (l == m):=by
  unfold z79.f
  by_cases h:l.length=m.length
  · refine qAc (by omega) ?_
    rw [← qH9 l m 0 h]
    refine qKo (fun (i:Nat) k=>z79.l0 k l m (i:Int)) _ l.length (fun j hj hp r hr=>?_) (fun j hj hp=>?_) ?_
    · refine Ev.step (fun k=>z79.l0.eq_2 ..) ?_
      refine qAc (by omega) (qAc (by omega) (qAc (by omega) (qAc ?_ ?_)))
      · rw [qA4,qA4];exact eq_of_beq hp
      rw [qAw (by omega)];exact hr
    · refine Ev.step (fun k=>z79.l0.eq_2 ..) ?_
      refine qAc (by omega) (qAc (by omega) (qAc (by omega) (qAr ?_ (Ev.now _))))
      rw [qA4,qA4];exact ne_of_beq_false hp
    refine Ev.step (fun k=>z79.l0.eq_2 ..) ?_
    exact qAr (by omega) (Ev.now _)
  rw [qLg h]
  exact qAr (by omega) (Ev.now _)
end Go.Proofs.YtpgjfppbbbnclaaGreat.B
/- What the program's and the reference's orders of simplices come to (for this claim, by hand). -/
namespace Go.Proofs.YtpgjfppbbbnclaaGreat.B
open Go.RowKit Go.Proofs.YtpgjfppbbbnclaaGreatW.PrintWords
open SimT
def qCx:List Int→List Int→Int
  | [],[]=>0
  | [],_ :: _=>-1
  | _ :: _,[]=>1
  | a :: l,b :: m=>if a<b then -1 else if a > b then 1 else qCx l m
theorem qHg:∀ l m,qCx l m<0↔qC6 l m=true
  | [],[]=>by simp [qCx,qC6]
  | [],_ :: _=>by simp [qCx,qC6]
  | _ :: _,[]=>by simp [qCx,qC6]
  | a :: l,b :: m=>by
    simp only [qCx,qC6]
    by_cases h1:a<b
    · rw [if_pos h1,if_pos h1];simp
    rw [if_neg h1,if_neg h1]
    by_cases h2:b<a
    · rw [if_pos h2,if_pos h2];simp
    rw [if_neg h2,if_neg h2];exact qHg l m
theorem qGk:∀ l m,qCx l m=0↔l=m
  | [],[]=>by simp [qCx]
  | [],_ :: _=>by simp [qCx]
  | _ :: _,[]=>by simp [qCx]
  | a :: l,b :: m=>by
    simp only [qCx]
    by_cases h1:a<b
    · rw [if_pos h1]
      refine ⟨fun h=>by omega,fun h=>?_⟩
      injection h with h _;omega
    rw [if_neg h1]
    by_cases h2:a > b
    · rw [if_pos h2]
      refine ⟨fun h=>by omega,fun h=>?_⟩
      injection h with h _;omega
    rw [if_neg h2,qGk l m]
    have:a=b:=by omega
    subst this
    exact ⟨fun h=>by rw [h],fun h=>by injection h⟩
def icmp (a b:Int):Int:=if a<b then -1 else if a > b then 1 else 0
theorem qLn (a b:Int):z107.f a b=some (icmp a b):=by
  unfold z107.f z125.f icmp
  simp only [bne_self_eq_false,Option.bind_some,Bool.false_eq_true,if_false]
  split
  · rfl
  split <;> rfl
theorem qJl (a b:Int):z126.f a b=some (icmp a b):=by
  unfold z126.f z132.f icmp
  simp only [bne_self_eq_false,Option.bind_some,Bool.false_eq_true,if_false]
  split
  · rfl
  split <;> rfl
theorem qDq {l:List Int} {i:Nat} (h:i<l.length):l.drop i=l.getD i 0 :: l.drop (i+1):=by
  rw [List.drop_eq_getElem_cons h,List.getD_eq_getElem?_getD,List.getElem?_eq_getElem h];rfl
theorem qFs (l m:List Int) (hl:l.length<9223372036854775807) (hm:m.length<9223372036854775807):Ev (fun k=>z108.f k l m) (qCx l m):=by
  have main:∀ (d i:Nat),i+d=l.length→i≤m.length→Ev (fun k=>z108.l0 k l m l (l.length:Int) (i:Int)) (qCx (l.drop i) (m.drop i)):=by
    intro d
    induction d with
    | zero =>
      intro i hi him
      rw [List.drop_of_length_le (show l.length≤i by omega)]
      refine Ev.step (fun k=>z108.l0.eq_2 ..) ?_
      refine qAr (by omega) ?_
      by_cases h:i<m.length
      · rw [qDq h]
        exact qAc (by omega) (Ev.now _)
      rw [List.drop_of_length_le (show m.length≤i by omega)]
      exact qAr (by omega) (Ev.now _)
    | succ d ih =>
      intro i hi him
      rw [qDq (show i<l.length by omega)]
      refine Ev.step (fun k=>z108.l0.eq_2 ..) ?_
      refine qAc (by omega) (qAc (by omega) (qAc (by omega) ?_))
      by_cases h:i<m.length
      · rw [qDq h,qA4,qA4,qAw (by omega)]
        refine qAr (by omega) (qAc (by omega) (Ev.bind (qA1 (qJl _ _)) ?_))
        simp only [qCx]
        unfold icmp
        by_cases h1:l.getD i 0<m.getD i 0
        · rw [if_pos h1,if_pos h1];exact qAr (by omega) (Ev.now _)
        rw [if_neg h1,if_neg h1]
        by_cases h2:l.getD i 0 > m.getD i 0
        · rw [if_pos h2,if_pos h2];exact qAr (by omega) (Ev.now _)
        rw [if_neg h2,if_neg h2];exact qAc rfl (ih (i+1) (by omega) (by omega))
      rw [List.drop_of_length_le (show m.length≤i by omega)]
      exact qAc (by omega) (Ev.now _)
  have:=main l.length 0 (by omega) (by omega)
  simpa [z108.f] using this
def scmp (a b:List Int):Int:=if icmp (a.length:Int) (b.length:Int)=0 then qCx a b else icmp (a.length:Int) (b.length:Int)
theorem qFv (a b:List Int):scmp a b<0↔slt a b=true:=by
  rw [qEd]
  unfold scmp icmp
  rcases Nat.lt_trichotomy a.length b.length with h | h | h
  · rw [if_pos (show (a.length:Int)<b.length by omega)];simp [h]
  · rw [if_neg (show ¬ (a.length:Int)<b.length by omega),if_neg (show ¬ (a.length:Int) > b.length by omega),if_pos rfl,qHg]
    constructor
    · exact fun h'=>.inr ⟨h,h'⟩
    rintro (h' | h')
    · omega
    exact h'.2
  rw [if_neg (show ¬ (a.length:Int)<b.length by omega),if_pos (show (a.length:Int) > b.length by omega)]
  simp
  omega
theorem qIx (a b:List Int):scmp a b=0↔a=b:=by
  unfold scmp icmp
  rcases Nat.lt_trichotomy a.length b.length with h | h | h
  · rw [if_pos (show (a.length:Int)<b.length by omega)]
    simp
    intro e;subst e;omega
  · rw [if_neg (show ¬ (a.length:Int)<b.length by omega),if_neg (show ¬ (a.length:Int) > b.length by omega),if_pos rfl,qGk]
  rw [if_neg (show ¬ (a.length:Int)<b.length by omega),if_pos (show (a.length:Int) > b.length by omega)]
  simp
  intro e;subst e;omega
theorem qN3 (a b:Int):Ev (fun k=>z106.f k [a,b]) (if a=0 then b else a):=by
  unfold z106.f
  refine Ev.step (fun k=>z106.l0.eq_2 ..) ?_
  refine qAc (by simp) (qAc (by omega) (qAc (by simp) ?_))
  simp only [rd,Int.toNat_zero,List.getD_cons_zero]
  by_cases h:a=0
  · rw [if_pos h]
    refine qAc h ?_
    refine Ev.step (fun k=>z106.l0.eq_2 ..) ?_
    simp only [show wrap64 (0+1)=1 by unfold wrap64;omega]
    refine qAc (by simp) (qAc (by omega) (qAc (by simp) ?_))
    simp only [rd,show Int.toNat 1=1 from rfl,List.getD_cons_succ,List.getD_cons_zero]
    by_cases h2:b=0
    · refine qAc h2 ?_
      refine Ev.step (fun k=>z106.l0.eq_2 ..) ?_
      simp only [show wrap64 (1+1)=2 by unfold wrap64;omega]
      refine qAr (by simp) (qBp (Ev.now _) h2.symm)
    exact qAr h2 (Ev.now _)
  rw [if_neg h]
  exact qAr h (Ev.now _)
theorem qDd (a b:List Int) (ha:a.length<9223372036854775807) (hb:b.length<9223372036854775807):Ev (fun k=>z77.f k a b) (scmp a b):=by
  unfold z77.f
  refine Ev.bind (qA1 (qLn _ _)) (Ev.bind (qFs a b ha hb) (Ev.bind (qN3 _ _) ?_))
  exact Ev.now _
theorem qGs (a b:List Int) (ha:a.length<9223372036854775807):Ev (fun k=>z60.f k a b) (slt a b):=by
  unfold z60.f
  by_cases hab:a.length=b.length
  · refine qAc (by omega) ?_
    have e:slt a b=qC6 a b:=by simp [slt,hab]
    rw [e]
    have main:∀ (d i:Nat),i+d=a.length→Ev (fun k=>z60.l0 k a b (i:Int)) (qC6 (a.drop i) (b.drop i)):=by
      intro d
      induction d with
      | zero =>
        intro i hi
        rw [List.drop_of_length_le (show a.length≤i by omega),List.drop_of_length_le (show b.length≤i by omega)]
        refine Ev.step (fun k=>z60.l0.eq_2 ..) ?_
        exact qAr (by omega) (Ev.now _)
      | succ d ih =>
        intro i hi
        rw [qDq (show i<a.length by omega),qDq (show i<b.length by omega)]
        refine Ev.step (fun k=>z60.l0.eq_2 ..) ?_
        refine qAc (by omega) (qAc (by omega) (qAc (by omega) ?_))
        rw [qA4,qA4,qAw (by omega)]
        simp only [qC6]
        by_cases h:a.getD i 0=b.getD i 0
        · refine qAc h ?_
          rw [if_neg (by omega),if_neg (by omega)]
          exact ih (i+1) (by omega)
        refine qAr h ?_
        by_cases h1:a.getD i 0<b.getD i 0
        · rw [if_pos h1];exact qBp (Ev.now _) (decide_eq_true h1)
        rw [if_neg h1,if_pos (by omega)];exact qBp (Ev.now _) (decide_eq_false h1)
    have:=main a.length 0 (by omega)
    simpa using this
  refine qAr (by omega) (qBp (Ev.now _) ?_)
  rw [Bool.eq_iff_iff,qEd,decide_eq_true_iff]
  constructor
  · exact fun h=>.inl (by omega)
  rintro (h | h)
  · omega
  exact absurd h.1 hab
def idx (l:List (List Int)) (s:List Int):Int:=if s∈l then ((l.idxOf s:Nat):Int) else -1
theorem qFh (l:List (List Int)) (s:List Int):idx l s<0↔s ∉ l:=by
  unfold idx
  by_cases h:s∈l
  · rw [if_pos h]
    exact ⟨fun h'=>by omega,fun h'=>absurd h h'⟩
  rw [if_neg h]
  exact ⟨fun _=>h,fun _=>by omega⟩
theorem qC3 {l:List (List Int)} {s:List Int} (h:s∈l):∃ i,i<l.length∧idx l s=(i:Int)∧l.getD i []=s∧∀ j,j<i→l.getD j []≠s:=by
  refine ⟨l.idxOf s,List.idxOf_lt_length_of_mem h,by unfold idx;rw [if_pos h],?_,fun j hj e=>?_⟩
  · have hl:=List.idxOf_lt_length_of_mem h
    rw [List.getD_eq_getElem?_getD,List.getElem?_eq_getElem hl]
    exact List.getElem_idxOf hl
  have hl:=List.idxOf_lt_length_of_mem h
  have:=List.not_of_lt_findIdx (p:=fun x=>x == s) (xs:=l) (i:=j) hj
  have hjl:j<l.length:=by omega
  rw [List.getD_eq_getElem?_getD,List.getElem?_eq_getElem hjl] at e
  simp at e this
  exact this e
theorem qOd {l:List (List Int)} {s:List Int} {i:Nat} (hi:i<l.length) (he:l.getD i []=s) (hb:∀ j,j<i→l.getD j []≠s):idx l s=(i:Int):=by
  have hm:s∈l:=he ▸ qA3 [] hi
  obtain ⟨j,hj,e1,e2,e3⟩:=qC3 hm
  rw [e1]
  rcases Nat.lt_trichotomy i j with h | h | h
  · exact absurd he (e3 i h)
  · rw [h]
  exact absurd e2 (hb j h)
theorem qIe (l:List (List Int)) (s:List Int) (hl:l.length<9223372036854775807) (hr:∀ x∈l,x.length<9223372036854775807):Ev (fun k=>z46.f k l s) (idx l s):=by
  unfold z46.f
  refine qEf (fun (i:Nat) k=>z46.l0 k s (i:Int) l) (fun i=>l.getD i [] == s) l.length 0 (fun j _ hj hp r hr'=>?_) (fun j _ hj hp hb=>?_) (fun hall=>?_)
  · refine Ev.step (fun k=>z46.l0.eq_2 ..) ?_
    refine qAc (by omega) (qAc (by omega) ?_)
    rw [qA6,qAw (by omega)]
    exact Ev.bind (qL3 _ _ (hr _ (qA3 [] (by omega)))) (qAr (by rw [hp];decide) hr')
  · have e:idx l s=(j:Int):=qOd (by omega) (eq_of_beq hp) (fun m hm he=>by have:=hb m (Nat.zero_le _) hm;rw [he] at this;simp at this)
    rw [e]
    refine Ev.step (fun k=>z46.l0.eq_2 ..) ?_
    refine qAc (by omega) (qAc (by omega) ?_)
    rw [qA6]
    exact Ev.bind (qL3 _ _ (hr _ (qA3 [] (by omega)))) (qAc hp (Ev.now _))
  have e:idx l s=-1:=by
    unfold idx
    rw [if_neg]
    intro hm
    obtain ⟨i,hi,_,e2,_⟩:=qC3 hm
    have:=hall i (Nat.zero_le _) (by omega)
    rw [e2] at this;simp at this
  rw [e]
  refine Ev.step (fun k=>z46.l0.eq_2 ..) ?_
  exact qAr (by omega) (Ev.now _)
theorem srt_take {l:List (List Int)} (h:Srt l) (k:Nat):Srt (l.take k):=List.Pairwise.sublist (List.take_sublist k l) h
theorem qL2 (l:List (List Int)) (s:List Int) (hl:l.length<4611686018427387904) (hr:∀ x∈l,x.length<9223372036854775807) (hs:s.length<9223372036854775807) (hsrt:Srt l) :
    ∃ t,Ev (fun k=>z154.f k l s) t∧(if t.2=true then t.1 else -1)=idx l s:=by
  have lo_of:∀ i,i<l.length→slt (l.getD i []) s=true→∀ j,j≤i→slt (l.getD j []) s=true:=fun i hi h j hj=>by
    rcases Nat.eq_or_lt_of_le hj with rfl | hlt
    · exact h
    exact qEp (qEc hsrt hlt hi) h
  have hi_of:∀ i,i<l.length→slt (l.getD i []) s=false→∀ j,i≤j→j<l.length→slt (l.getD j []) s=false:=fun i hi h j hj hjl=>by
    cases hh:slt (l.getD j []) s with
    | false=>rfl
    | true=>rw [lo_of j hjl hh i hj] at h;cases h
  have main:∀ (d lo hi:Nat),lo≤hi→hi - lo≤d→hi≤l.length→(∀ j,j<lo→slt (l.getD j []) s=true)→(∀ j,hi≤j→j<l.length→slt (l.getD j []) s=false) →
      ∃ t,Ev (fun k=>z154.l0 k l s (l.length:Int) (lo:Int) (hi:Int)) t∧(if t.2=true then t.1 else -1)=idx l s:=by
    intro d
    induction d with
    | zero =>
      intro lo hi h1 h2 h3 hlo hhi
      have:lo=hi:=by omega
      subst this
      by_cases hn:lo<l.length
      · refine ⟨((lo:Int),(scmp (l.getD lo []) s == 0)),?_,?_⟩
        · refine Ev.step (fun k=>z154.l0.eq_2 ..) ?_
          refine qAr (by omega) (qAc (by omega) (qAc (by omega) (qAc (by omega) ?_)))
          rw [qA6]
          exact Ev.bind (qDd _ _ (hr _ (qA3 [] hn)) hs) (Ev.now _)
        by_cases he:l.getD lo []=s
        · have:(scmp (l.getD lo []) s == 0)=true:=by rw [beq_iff_eq,qIx];exact he
          simp only [this,if_true]
          exact (qOd hn he (fun j hj e=>by have:=hlo j hj;rw [e,qB5] at this;cases this)).symm
        have:(scmp (l.getD lo []) s == 0)=false:=by rw [beq_eq_false_iff_ne];exact fun h=>he ((qIx _ _).1 h)
        simp only [this,Bool.false_eq_true,if_false]
        have hnm:s ∉ l:=fun hm=>by
          obtain ⟨i,hi,_,e2,_⟩:=qC3 hm
          rcases Nat.lt_trichotomy i lo with h | h | h
          · have:=hlo i h;rw [e2,qB5] at this;cases this
          · subst h;exact he e2
          have h5:=qEc hsrt h hi
          rw [e2] at h5
          have:=hhi lo (Nat.le_refl _) hn
          rw [h5] at this;cases this
        unfold idx;rw [if_neg hnm]
      refine ⟨((lo:Int),false),?_,?_⟩
      · refine Ev.step (fun k=>z154.l0.eq_2 ..) ?_
        exact qAr (by omega) (qAr (by omega) (Ev.now _))
      simp only [Bool.false_eq_true,if_false]
      have hnm:s ∉ l:=fun hm=>by
        obtain ⟨i,hi,_,e2,_⟩:=qC3 hm
        have:=hlo i (by omega);rw [e2,qB5] at this;cases this
      unfold idx;rw [if_neg hnm]
    | succ d ih =>
      intro lo hi h1 h2 h3 hlo hhi
      by_cases hlt:lo<hi
      · have em:wrap64 (IntKind.u64.wrap (wrap64 ((lo:Int)+(hi:Int))) / 2)=(((lo+hi) / 2:Nat):Int):=by
          have e1:wrap64 ((lo:Int)+(hi:Int))=(lo:Int)+(hi:Int):=qAs (by omega) (by omega)
          have e2:IntKind.u64.wrap ((lo:Int)+(hi:Int))=(lo:Int)+(hi:Int):=by
            simp [IntKind.wrap,IntKind.bits,IntKind.signed];omega
          rw [e1,e2,qAs (by omega) (by omega)];omega
        have hm:(lo+hi) / 2<l.length:=by omega
        have hmr:=hr _ (qA3 ([]:List Int) hm)
        cases hc:slt (l.getD ((lo+hi) / 2) []) s with
        | true =>
          obtain ⟨t,ht,hv⟩:=ih ((lo+hi) / 2+1) hi (by omega) (by omega) h3 (fun j hj=>lo_of _ hm hc j (by omega)) hhi
          refine ⟨t,?_,hv⟩
          refine Ev.step (fun k=>z154.l0.eq_2 ..) ?_
          rw [em,qA6,qAw (by omega)]
          refine qAc (by omega) (qAc (by omega) (qAc (by omega) (Ev.bind (qDd _ _ hmr hs) (qAc ((qFv _ _).2 hc) ht))))
        | false =>
          obtain ⟨t,ht,hv⟩:=ih lo ((lo+hi) / 2) (by omega) (by omega) (by omega) hlo (fun j hj hjl=>hi_of _ hm hc j hj hjl)
          refine ⟨t,?_,hv⟩
          refine Ev.step (fun k=>z154.l0.eq_2 ..) ?_
          rw [em,qA6,qAw (by omega)]
          refine qAc (by omega) (qAc (by omega) (qAc (by omega) (Ev.bind (qDd _ _ hmr hs) (qAr (fun h=>?_) ht))))
          have:=(qFv _ _).1 h
          rw [hc] at this;cases this
      exact ih lo hi h1 (by omega) h3 hlo hhi
  exact main l.length 0 l.length (by omega) (by omega) (Nat.le_refl _) (fun j hj=>by omega) (fun j h1 h2=>by omega)
theorem qFf (l:List (List Int)) (s:List Int) (hl:l.length<4611686018427387904) (hr:∀ x∈l,x.length<9223372036854775807) (hs:s.length<9223372036854775807) (hsrt:Srt l):Ev (fun k=>z44.f k l s) (idx l s):=by
  obtain ⟨t,ht,hv⟩:=qL2 l s hl hr hs hsrt
  unfold z44.f
  refine Ev.bind ht ?_
  rw [← hv]
  cases h:t.2 with
  | true=>exact qAc rfl (qBp (Ev.now _) (by simp))
  | false=>exact qAr (by simp) (qBp (Ev.now _) (by simp))
end Go.Proofs.YtpgjfppbbbnclaaGreat.B
/- slices.Concat comes to the rows behind one another (for this claim, by hand). -/
namespace Go.Proofs.YtpgjfppbbbnclaaGreat.B
open Go.RowKit Go.Proofs.YtpgjfppbbbnclaaGreatW.PrintWords
theorem qF2 (l:List (List Int)) (k:Nat) (hk:k<l.length):total (l.take (k+1))=total (l.take k)+(l.getD k []).length:=by
  have ht:l.take (k+1)=l.take k ++ [l.getD k []]:=by
    rw [List.take_succ_eq_append_getElem hk,List.getD_eq_getElem?_getD,List.getElem?_eq_getElem hk];rfl
  rw [ht,qDh];simp [total]
theorem qD6 (l:List (List Int)) (k:Nat):total (l.take k)≤total l:=by
  have h:=qDh (l.take k) (l.drop k)
  rw [List.take_append_drop] at h
  have:=qCz (l.drop k)
  omega
theorem qD9:∀ l:List (List Int),(l.flatten.length:Int)=total l
  | []=>rfl
  | x :: l=>by rw [List.flatten_cons,List.length_append];have:=qD9 l;simp only [total];omega
theorem qId (l:List (List Int)) (k:Nat) (hk:k<l.length):(l.take (k+1)).flatten=(l.take k).flatten ++ l.getD k []:=by
  have ht:l.take (k+1)=l.take k ++ [l.getD k []]:=by
    rw [List.take_succ_eq_append_getElem hk,List.getD_eq_getElem?_getD,List.getElem?_eq_getElem hk];rfl
  rw [ht,List.flatten_append];simp
theorem qM1 (l:List (List Int)) (hl:l.length<9223372036854775807) (ht:total l≤17592186044415):Ev (fun k=>z115.f k l) l.flatten:=by
  unfold z115.f
  -- the second loop
  have h1:Ev (fun k=>z115.l1 k ([]:List Int) l (l.length:Int) 0) l.flatten:=by
    have:=(qCh (fun (s:List Int) (i:Nat) k=>z115.l1 k s l (l.length:Int) (i:Int)) (fun i s=>s ++ l.getD i []) (fun i s=>s=(l.take i).flatten) l.length 0 [] (by simp) (by
      intro j s _ hj hs
      have hj':j<l.length:=by omega
      refine ⟨fun r hr=>?_,by rw [qId l j hj',hs]⟩
      refine Ev.step (fun k=>z115.l1.eq_2 ..) ?_
      rw [qA6,qAw (by omega)]
      have e1:=qF2 l j hj'
      have e2:=qD6 l (j+1)
      have e3:=qD9 (l.take j)
      rw [← hs] at e3
      exact qAc (by omega) (qAc (by omega) (qAc (by omega) (qAc (by omega) hr)))))
    refine this.1 _ ?_
    refine Ev.step (fun k=>z115.l1.eq_2 ..) ?_
    refine qAr (by omega) (qBp (Ev.now _) ?_)
    rw [this.2,Nat.zero_add,List.take_length]
  have:=(qCh (fun (s:Int) (i:Nat) k=>z115.l0 k l s l (l.length:Int) (i:Int)) (fun i s=>s+(l.getD i []).length) (fun i s=>s=total (l.take i)) l.length 0 0 (by simp [total]) (by
    intro j s _ hj hs
    have hj':j<l.length:=by omega
    have e1:=qF2 l j hj'
    have e2:=qD6 l (j+1)
    have e3:=qCz (l.take j)
    refine ⟨fun r hr=>?_,by rw [e1,hs]⟩
    refine Ev.step (fun k=>z115.l0.eq_2 ..) ?_
    rw [qA6,qAw (by omega),qAs (x:=s+((l.getD j []).length:Int)) (by omega) (by omega)]
    exact qAc (by omega) (qAc (by omega) (qAc (by omega) (qAr (by omega) hr)))))
  refine this.1 _ ?_
  refine Ev.step (fun k=>z115.l0.eq_2 ..) ?_
  have e4:iter (fun i s=>s+((l.getD i []).length:Int)) 0 l.length 0=total l:=by
    rw [this.2,Nat.zero_add,List.take_length]
  rw [e4]
  have e5:=qCz l
  refine qAr (by omega) (Ev.bind (a:=[]) (qA1 ?_) h1)
  unfold slices_Grow_int64_int64.f
  rw [if_pos ⟨⟨rfl,e5⟩,ht⟩]
end Go.Proofs.YtpgjfppbbbnclaaGreat.B
namespace Go.Proofs.YtpgjfppbbbnclaaGreat.B
open Go.RowKit Go.Proofs.YtpgjfppbbbnclaaGreatW.PrintWords Go.Proofs.YtpgjfppbbbnclaaGreatW.PrintLast Go.Proofs.YtpgjfppbbbnclaaGreatW.PrintMore
attribute [local go_sem] qAq qAo qAu qAt qAl qAk qAp qAn
def z78.l0:Nat→List Int→Int→Int→Int→Option (Bool)
 | 0,_,_,_,_=>none
 | k+1,x0,x1,x2,x7=>if x7<(x0.length:Int) then (if 0≤x7 then ((z62.f (rd x0 x7) x1 x2).bind fun t102=>(if t102=true then (if x7 > 0 then (if 0≤(wrap64 (x7 - 1)) then (if (wrap64 (x7 - 1))<(x0.length:Int) then (if (rd x0 (wrap64 (x7 - 1))) ≥ (rd x0 x7) then (some false) else (z78.l0 k x0 x1 x2 (wrap64 (x7+1)))) else (none)) else (none)) else (z78.l0 k x0 x1 x2 (wrap64 (x7+1)))) else (some false))) else (none)) else (some true)
def z78.f (k:Nat) (l0:List Int) (a1:Int) (a2:Int):Option (Bool):=z78.l0 k l0 a1 a2 0
theorem z78.calls (k:Nat) (A0:Option Addr) (c0:Nat) (l0:List Int) (a1:Int) (a2:Int) (r:Bool) (w:World) (hr0:Kd.C (Kd.int .i64) w A0 l0.length l0) (hc0:l0.length≤c0) (h:z78.f k l0 a1 a2=some r) :
  Calls Tryz.prog 78 #[.slice A0 l0.length c0,.int .i64 a1,.int .i64 a2] w fun e w'=>e=.returned (.bool r)∧Dz w w':=by
 have HR0:=Zz.mk hr0
 have HC0:=Zz.mk hc0
 clear hr0 hc0
 have H:(z78.l0 k l0 a1 a2 0)=some r:=h
 clear h
 have H':=Zz.mk H
 clear H
 go_enter Tryz.func78,Tryz.ntmps78
 go_wp2
 repeat (go_quiet (fail);try go_wp2)
 go_loopg [7] k (fun kq v7 w'=>∃ (x7_1:Int),v7=.int .i64 x7_1∧Zz (z78.l0 kq l0 a1 a2 x7_1=some r)∧Zz (kq≤k)∧Dz w w')
 case atStart=>exact ⟨(0),E_,H',⟨Nat.le_refl _⟩,by repeat (first | exact Dz.refl _ | apply Dz.step)⟩
 case round =>
  clear H'
  obtain ⟨x7_1,rfl,HA,HK1,⟨m1,rfl⟩⟩:=hrel
  cases gk with
  | zero=>exact absurd HA.out (by simp [z78.l0])
  | succ k1 =>
   have H:=HA.out
   clear HA
   simp only [z78.l0] at H
   by_cases c4:x7_1<(l0.length:Int)
   ·rw [if_pos c4] at H
    have c4b0:decide (x7_1<(l0.length:Int))=true:=decide_eq_true c4
    clear c4
    have c5b0:=O3_ H
    replace H:=O2_ H
    replace H:=OZ_ H
    obtain ⟨t102,A6,H⟩:=H
    by_cases c7:t102=true
    ·subst c7
     replace H:=T_ H
     by_cases c8:x7_1 > 0
     ·rw [if_pos c8] at H
      have c8b0:decide (0<x7_1)=true:=decide_eq_true c8
      clear c8
      obtain ⟨ji9,hji9⟩:∃ j_:Int,(wrap64 (x7_1 - 1))=j_:=⟨_,rfl⟩
      replace H:(if 0≤(ji9) then (if (ji9)<(l0.length:Int) then (if (rd l0 (ji9)) ≥ (rd l0 x7_1) then (some false) else (z78.l0 k1 l0 a1 a2 (wrap64 (x7_1+1)))) else (none)) else (none))=some r:=by first | (rw [hji9] at H;exact H) | (simp only [hji9] at H ⊢;exact H)
      (try rw [hji9] at A6)
      have hji9w:(IntKind.i64.wrap (x7_1 - 1))=ji9:=(qBl _).trans hji9
      have c10b0:=O3_ H
      replace H:=O2_ H
      have c11b0:=O3_ H
      replace H:=O2_ H
      by_cases c12:(rd l0 (ji9)) ≥ (rd l0 x7_1)
      ·rw [if_pos c12] at H
       have c12b0:decide ((rd l0 x7_1)≤(rd l0 (ji9)))=true:=decide_eq_true c12
       clear c12
       obtain rfl:=OI_ H
       have p101:0≤(x7_1:Int):=D_
       have q101:x7_1<(l0.length:Int):=D_
       obtain ⟨ad101,e101,hx101_0⟩:=Kd.at_int HR0.out x7_1 p101 q101
       cases e101
       replace p101:=eq_true p101
       replace q101:=eq_true q101
       go_wp2_with (first | (go_at_call 62;(with_reducible refine (z62.calls (rd l0 x7_1) a1 a2 true _ A6.out).mono ?_);rintro e w' ⟨rfl,⟨nd,rfl⟩⟩;(try first | exact ⟨rfl,_,World.drewN_drewN _ _ _⟩ | exact ⟨rfl,_,Eq.trans (World.drewN_drewN _ _ _) (congrArg (World.drewN _) (Nat.add_assoc _ _ _))⟩);have p103:0≤((ji9):Int):=D_;have q103:(ji9)<(l0.length:Int):=D_;obtain ⟨ad103,e103,hx103_0⟩:=Kd.at_int HR0.out (ji9) p103 q103;obtain rfl:ad101=ad103:=(by injection e103);replace p103:=eq_true p103;replace q103:=eq_true q103;have p104:0≤(x7_1:Int):=D_;have q104:x7_1<(l0.length:Int):=D_;obtain ⟨ad104,e104,hx104_0⟩:=Kd.at_int HR0.out x7_1 p104 q104;obtain rfl:ad101=ad104:=(by injection e104);replace p104:=eq_true p104;replace q104:=eq_true q104))
       repeat (go_quiet (first | (go_at_call 62;(with_reducible refine (z62.calls (rd l0 x7_1) a1 a2 true _ A6.out).mono ?_);rintro e w' ⟨rfl,⟨nd,rfl⟩⟩;(try first | exact ⟨rfl,_,World.drewN_drewN _ _ _⟩ | exact ⟨rfl,_,Eq.trans (World.drewN_drewN _ _ _) (congrArg (World.drewN _) (Nat.add_assoc _ _ _))⟩);have p103:0≤((ji9):Int):=D_;have q103:(ji9)<(l0.length:Int):=D_;obtain ⟨ad103,e103,hx103_0⟩:=Kd.at_int HR0.out (ji9) p103 q103;obtain rfl:ad101=ad103:=(by injection e103);replace p103:=eq_true p103;replace q103:=eq_true q103;have p104:0≤(x7_1:Int):=D_;have q104:x7_1<(l0.length:Int):=D_;obtain ⟨ad104,e104,hx104_0⟩:=Kd.at_int HR0.out x7_1 p104 q104;obtain rfl:ad101=ad104:=(by injection e104);replace p104:=eq_true p104;replace q104:=eq_true q104));try go_wp2_with (first | (go_at_call 62;(with_reducible refine (z62.calls (rd l0 x7_1) a1 a2 true _ A6.out).mono ?_);rintro e w' ⟨rfl,⟨nd,rfl⟩⟩;(try first | exact ⟨rfl,_,World.drewN_drewN _ _ _⟩ | exact ⟨rfl,_,Eq.trans (World.drewN_drewN _ _ _) (congrArg (World.drewN _) (Nat.add_assoc _ _ _))⟩);have p103:0≤((ji9):Int):=D_;have q103:(ji9)<(l0.length:Int):=D_;obtain ⟨ad103,e103,hx103_0⟩:=Kd.at_int HR0.out (ji9) p103 q103;obtain rfl:ad101=ad103:=(by injection e103);replace p103:=eq_true p103;replace q103:=eq_true q103;have p104:0≤(x7_1:Int):=D_;have q104:x7_1<(l0.length:Int):=D_;obtain ⟨ad104,e104,hx104_0⟩:=Kd.at_int HR0.out x7_1 p104 q104;obtain rfl:ad101=ad104:=(by injection e104);replace p104:=eq_true p104;replace q104:=eq_true q104)))
       go_ret
       exact ⟨by first | rfl | (simp;done) | (simp only [← hji9] <;> (first | rfl | simp)) | (simp [*];done),by repeat (first | exact Dz.refl _ | apply Dz.step)⟩
      rw [if_neg c12] at H
      have c12b0:decide ((rd l0 x7_1)≤(rd l0 (ji9)))=false:=decide_eq_false c12
      clear c12
      have H':=Zz.mk H
      clear H
      have p101:0≤(x7_1:Int):=D_
      have q101:x7_1<(l0.length:Int):=D_
      obtain ⟨ad101,e101,hx101_0⟩:=Kd.at_int HR0.out x7_1 p101 q101
      cases e101
      replace p101:=eq_true p101
      replace q101:=eq_true q101
      go_wp2_with (first | (go_at_call 62;(with_reducible refine (z62.calls (rd l0 x7_1) a1 a2 true _ A6.out).mono ?_);rintro e w' ⟨rfl,⟨nd,rfl⟩⟩;(try first | exact ⟨rfl,_,World.drewN_drewN _ _ _⟩ | exact ⟨rfl,_,Eq.trans (World.drewN_drewN _ _ _) (congrArg (World.drewN _) (Nat.add_assoc _ _ _))⟩);have p103:0≤((ji9):Int):=D_;have q103:(ji9)<(l0.length:Int):=D_;obtain ⟨ad103,e103,hx103_0⟩:=Kd.at_int HR0.out (ji9) p103 q103;obtain rfl:ad101=ad103:=(by injection e103);replace p103:=eq_true p103;replace q103:=eq_true q103;have p104:0≤(x7_1:Int):=D_;have q104:x7_1<(l0.length:Int):=D_;obtain ⟨ad104,e104,hx104_0⟩:=Kd.at_int HR0.out x7_1 p104 q104;obtain rfl:ad101=ad104:=(by injection e104);replace p104:=eq_true p104;replace q104:=eq_true q104))
      repeat (go_quiet (first | (go_at_call 62;(with_reducible refine (z62.calls (rd l0 x7_1) a1 a2 true _ A6.out).mono ?_);rintro e w' ⟨rfl,⟨nd,rfl⟩⟩;(try first | exact ⟨rfl,_,World.drewN_drewN _ _ _⟩ | exact ⟨rfl,_,Eq.trans (World.drewN_drewN _ _ _) (congrArg (World.drewN _) (Nat.add_assoc _ _ _))⟩);have p103:0≤((ji9):Int):=D_;have q103:(ji9)<(l0.length:Int):=D_;obtain ⟨ad103,e103,hx103_0⟩:=Kd.at_int HR0.out (ji9) p103 q103;obtain rfl:ad101=ad103:=(by injection e103);replace p103:=eq_true p103;replace q103:=eq_true q103;have p104:0≤(x7_1:Int):=D_;have q104:x7_1<(l0.length:Int):=D_;obtain ⟨ad104,e104,hx104_0⟩:=Kd.at_int HR0.out x7_1 p104 q104;obtain rfl:ad101=ad104:=(by injection e104);replace p104:=eq_true p104;replace q104:=eq_true q104));try go_wp2_with (first | (go_at_call 62;(with_reducible refine (z62.calls (rd l0 x7_1) a1 a2 true _ A6.out).mono ?_);rintro e w' ⟨rfl,⟨nd,rfl⟩⟩;(try first | exact ⟨rfl,_,World.drewN_drewN _ _ _⟩ | exact ⟨rfl,_,Eq.trans (World.drewN_drewN _ _ _) (congrArg (World.drewN _) (Nat.add_assoc _ _ _))⟩);have p103:0≤((ji9):Int):=D_;have q103:(ji9)<(l0.length:Int):=D_;obtain ⟨ad103,e103,hx103_0⟩:=Kd.at_int HR0.out (ji9) p103 q103;obtain rfl:ad101=ad103:=(by injection e103);replace p103:=eq_true p103;replace q103:=eq_true q103;have p104:0≤(x7_1:Int):=D_;have q104:x7_1<(l0.length:Int):=D_;obtain ⟨ad104,e104,hx104_0⟩:=Kd.at_int HR0.out x7_1 p104 q104;obtain rfl:ad101=ad104:=(by injection e104);replace p104:=eq_true p104;replace q104:=eq_true q104)))
      go_roundg k1
      case measure=>exact Q1_ HK1
      case rel=>exact ⟨(wrap64 (x7_1+1)),E_,H',⟨Q1_ HK1⟩,by repeat (first | exact Dz.refl _ | apply Dz.step)⟩
     rw [if_neg c8] at H
     have c8b0:decide (0<x7_1)=false:=decide_eq_false c8
     clear c8
     have H':=Zz.mk H
     clear H
     have p101:0≤(x7_1:Int):=D_
     have q101:x7_1<(l0.length:Int):=D_
     obtain ⟨ad101,e101,hx101_0⟩:=Kd.at_int HR0.out x7_1 p101 q101
     cases e101
     replace p101:=eq_true p101
     replace q101:=eq_true q101
     go_wp2_with (first | (go_at_call 62;(with_reducible refine (z62.calls (rd l0 x7_1) a1 a2 true _ A6.out).mono ?_);rintro e w' ⟨rfl,⟨nd,rfl⟩⟩;(try first | exact ⟨rfl,_,World.drewN_drewN _ _ _⟩ | exact ⟨rfl,_,Eq.trans (World.drewN_drewN _ _ _) (congrArg (World.drewN _) (Nat.add_assoc _ _ _))⟩)))
     repeat (go_quiet (first | (go_at_call 62;(with_reducible refine (z62.calls (rd l0 x7_1) a1 a2 true _ A6.out).mono ?_);rintro e w' ⟨rfl,⟨nd,rfl⟩⟩;(try first | exact ⟨rfl,_,World.drewN_drewN _ _ _⟩ | exact ⟨rfl,_,Eq.trans (World.drewN_drewN _ _ _) (congrArg (World.drewN _) (Nat.add_assoc _ _ _))⟩)));try go_wp2_with (first | (go_at_call 62;(with_reducible refine (z62.calls (rd l0 x7_1) a1 a2 true _ A6.out).mono ?_);rintro e w' ⟨rfl,⟨nd,rfl⟩⟩;(try first | exact ⟨rfl,_,World.drewN_drewN _ _ _⟩ | exact ⟨rfl,_,Eq.trans (World.drewN_drewN _ _ _) (congrArg (World.drewN _) (Nat.add_assoc _ _ _))⟩))))
     go_roundg k1
     case measure=>exact Q1_ HK1
     case rel=>exact ⟨(wrap64 (x7_1+1)),E_,H',⟨Q1_ HK1⟩,by repeat (first | exact Dz.refl _ | apply Dz.step)⟩
    replace c7:=Bool.eq_false_iff.mpr c7
    subst c7
    replace H:=N_ H
    obtain rfl:=OI_ H
    have p101:0≤(x7_1:Int):=D_
    have q101:x7_1<(l0.length:Int):=D_
    obtain ⟨ad101,e101,hx101_0⟩:=Kd.at_int HR0.out x7_1 p101 q101
    cases e101
    replace p101:=eq_true p101
    replace q101:=eq_true q101
    go_wp2_with (first | (go_at_call 62;(with_reducible refine (z62.calls (rd l0 x7_1) a1 a2 false _ A6.out).mono ?_);rintro e w' ⟨rfl,⟨nd,rfl⟩⟩;(try first | exact ⟨rfl,_,World.drewN_drewN _ _ _⟩ | exact ⟨rfl,_,Eq.trans (World.drewN_drewN _ _ _) (congrArg (World.drewN _) (Nat.add_assoc _ _ _))⟩)))
    repeat (go_quiet (first | (go_at_call 62;(with_reducible refine (z62.calls (rd l0 x7_1) a1 a2 false _ A6.out).mono ?_);rintro e w' ⟨rfl,⟨nd,rfl⟩⟩;(try first | exact ⟨rfl,_,World.drewN_drewN _ _ _⟩ | exact ⟨rfl,_,Eq.trans (World.drewN_drewN _ _ _) (congrArg (World.drewN _) (Nat.add_assoc _ _ _))⟩)));try go_wp2_with (first | (go_at_call 62;(with_reducible refine (z62.calls (rd l0 x7_1) a1 a2 false _ A6.out).mono ?_);rintro e w' ⟨rfl,⟨nd,rfl⟩⟩;(try first | exact ⟨rfl,_,World.drewN_drewN _ _ _⟩ | exact ⟨rfl,_,Eq.trans (World.drewN_drewN _ _ _) (congrArg (World.drewN _) (Nat.add_assoc _ _ _))⟩))))
    go_ret
    exact eD_
   rw [if_neg c4] at H
   have c4b0:decide (x7_1<(l0.length:Int))=false:=decide_eq_false c4
   clear c4
   obtain rfl:=OI_ H
   go_wp2
   repeat (go_quiet (fail);try go_wp2)
   go_ret
   exact eD_
def z45.f (k:Nat) (l0:List Int):Option (Bool):=(z62.f (l0.length:Int) 1 4).bind fun t101=>(if t101=true then ((z78.f k l0 0 9).bind fun t102=>(some t102)) else (some false))
theorem z45.calls (k:Nat) (A0:Option Addr) (c0:Nat) (l0:List Int) (r:Bool) (w:World) (hr0:Kd.C (Kd.int .i64) w A0 l0.length l0) (hc0:l0.length≤c0) (h:z45.f k l0=some r) :
  Calls Tryz.prog 45 #[.slice A0 l0.length c0] w fun e w'=>e=.returned (.bool r)∧Dz w w':=by
 have HR0:=Zz.mk hr0
 have HC0:=Zz.mk hc0
 clear hr0 hc0
 have H:((z62.f (l0.length:Int) 1 4).bind fun t101=>(if t101=true then ((z78.f k l0 0 9).bind fun t102=>(some t102)) else (some false)))=some r:=h
 clear h
 replace H:=OZ_ H
 obtain ⟨t101,A2,H⟩:=H
 by_cases c3:t101=true
 ·subst c3
  replace H:=T_ H
  replace H:=OZ_ H
  obtain ⟨t102,A4,H⟩:=H
  obtain rfl:=OI_ H
  go_enter Tryz.func45,Tryz.ntmps45
  go_wp2_with (first | ((with_reducible refine gC_ (f:=62) rfl ?_);refine GL_ (some 5) rfl rfl Tryz.func62 #[.int .i64 (l0.length:Int),.int .i64 1,.int .i64 4] rfl (h:=?_);(with_reducible refine (z62.calls (l0.length:Int) 1 4 true _ A2.out).mono ?_);rintro e w' ⟨rfl,⟨nd,rfl⟩⟩;refine ⟨_,rfl,?_⟩) | (go_at_call 78;(with_reducible refine (z78.calls k _ _ l0 0 9 t102 _ ?side1 ?side2 A4.out).mono ?_);(case side1=>exact KC_ HR0.out);(case side2=>exact HC0.out);rintro e w' ⟨rfl,⟨nd,rfl⟩⟩))
  go_ret
  exact eD_
 replace c3:=Bool.eq_false_iff.mpr c3
 subst c3
 replace H:=N_ H
 obtain rfl:=OI_ H
 go_enter Tryz.func45,Tryz.ntmps45
 go_wp2_with (first | ((with_reducible refine gC_ (f:=62) rfl ?_);refine GL_ (some 5) rfl rfl Tryz.func62 #[.int .i64 (l0.length:Int),.int .i64 1,.int .i64 4] rfl (h:=?_);(with_reducible refine (z62.calls (l0.length:Int) 1 4 false _ A2.out).mono ?_);rintro e w' ⟨rfl,⟨nd,rfl⟩⟩;refine ⟨_,rfl,?_⟩))
 go_ret
 exact eD_
end Go.Proofs.YtpgjfppbbbnclaaGreat.B
/- Simplices: what the program's and the reference's tests come to (for this claim, by hand). -/
namespace Go.Proofs.YtpgjfppbbbnclaaGreat.B
open Go.RowKit Go.Proofs.YtpgjfppbbbnclaaGreatW.PrintWords
def qFc (l:List Int) (i:Nat):Bool:=i == 0 || decide (l.getD (i - 1) 0<l.getD i 0)
def qCm (l:List Int):Bool:=(List.range l.length).all (qFc l)
def qBh (l:List Int):Bool:=(decide (1≤l.length) && decide (l.length≤4)) && (qCm l && l.all fun v=>decide (0≤v) && decide (v≤9))
theorem qJ0 (l:List Int) (hl:l.length<9223372036854775807):Ev (fun k=>z111.f k l) (qCm l):=by
  unfold z111.f
  rcases Nat.eq_zero_or_pos l.length with h0 | h0
  · have:qCm l=true:=by unfold qCm;rw [h0];rfl
    rw [this]
    refine Ev.step (fun k=>z111.l0.eq_2 ..) ?_
    exact qAr (by omega) (Ev.now _)
  refine qEf (fun (i:Nat) k=>z111.l0 k l (i:Int)) (fun i=>!qFc l i) (l.length - 1) 1 (fun i hi hi2 hp r hr=>?_) (fun i hi hi2 hp _=>?_) (fun hall=>?_)
  · have hp:qFc l i=true:=by simpa using hp
    unfold qFc at hp
    have e:(i == 0)=false:=by simpa using (show i≠0 by omega)
    rw [e,Bool.false_or] at hp
    have hp:=of_decide_eq_true hp
    refine Ev.step (fun k=>z111.l0.eq_2 ..) ?_
    rw [show wrap64 ((i:Int) - 1)=((i - 1:Nat):Int) by rw [qAs (by omega) (by omega)];omega,qA4,qA4,qAw (by omega)]
    exact qAc (by omega) (qAc (by omega) (qAc (by omega) (qAc (by omega) (qAr (by omega) hr))))
  · have hp:qFc l i=false:=by simpa using hp
    have hf:qCm l=false:=by
      unfold qCm
      rw [Bool.eq_false_iff]
      intro h
      have:=List.all_eq_true.1 h i (List.mem_range.2 (by omega))
      rw [hp] at this;cases this
    rw [hf]
    unfold qFc at hp
    have e:(i == 0)=false:=by simpa using (show i≠0 by omega)
    rw [e,Bool.false_or] at hp
    have hp:=of_decide_eq_false hp
    refine Ev.step (fun k=>z111.l0.eq_2 ..) ?_
    rw [show wrap64 ((i:Int) - 1)=((i - 1:Nat):Int) by rw [qAs (by omega) (by omega)];omega,qA4,qA4]
    exact qAc (by omega) (qAc (by omega) (qAc (by omega) (qAc (by omega) (qAc (by omega) (Ev.now _)))))
  have hf:qCm l=true:=List.all_eq_true.2 (fun i hi=>by
    have hi:=List.mem_range.1 hi
    rcases Nat.eq_zero_or_pos i with h | h
    · subst h;rfl
    simpa using hall i h (by omega))
  rw [hf,show 1+(l.length - 1)=l.length by omega]
  refine Ev.step (fun k=>z111.l0.eq_2 ..) ?_
  exact qAr (by omega) (Ev.now _)
theorem qG6 (v:Int):z112.f v=some (!(decide (0≤v) && decide (v≤9))):=by
  unfold z112.f z113.f
  rw [qDu];rfl
theorem qJp (l:List Int) (hl:l.length<9223372036854775807):Ev (fun k=>z152.f k l) (l.any fun v=>!(decide (0≤v) && decide (v≤9))):=by
  obtain ⟨t,ht,hd⟩:=qCq (l) 0 (fun i k=>z153.l0 k (l) ((l).length:Int) (i:Int) ) (fun v=>!(decide (0≤v) && decide (v≤9))) (fun j hj hp r hr=>by
      refine Ev.step (fun k=>z153.l0.eq_2 ..) ?_
      refine qAc (by omega) (qAc (by omega) (qAc (by omega) ?_))
      rw [qA4,qAw (by omega)]
      exact Ev.bind (qA1 (qG6 _)) (qAr (by rw [hp];decide) hr)) (fun j hj hp=>by
      refine Ev.step (fun k=>z153.l0.eq_2 ..) ?_
      refine qAc (by omega) (qAc (by omega) (qAc (by omega) ?_))
      rw [qA4]
      exact Ev.bind (qA1 (qG6 _)) (qAc hp (Ev.now _))) (by
      refine Ev.step (fun k=>z153.l0.eq_2 ..) ?_
      exact qAr (by omega) (Ev.now _))
  unfold z152.f z153.f
  refine Ev.bind ht (qBp (Ev.now _) hd)
theorem qG2 (l:List Int) (hl:l.length<9223372036854775807):Ev (fun k=>z81.f k l) (qBh l):=by
  unfold z81.f qBh
  by_cases h1:1≤l.length
  · rw [decide_eq_true h1,Bool.true_and]
    refine qAc (by omega) ?_
    by_cases h4:l.length≤4
    · rw [decide_eq_true h4,Bool.true_and]
      refine qAc (by omega) (Ev.bind (qJ0 l hl) ?_)
      cases hr:qCm l with
      | false=>exact qAr (by decide) (Ev.now _)
      | true =>
        refine qAc rfl (Ev.bind (qJp l hl) (qBp (Ev.now _) ?_))
        rw [List.any_eq_not_all_not];simp
    rw [decide_eq_false h4,Bool.false_and]
    exact qAr (by omega) (Ev.now _)
  rw [decide_eq_false h1,Bool.false_and,Bool.false_and]
  exact qAr (by omega) (Ev.now _)
theorem qIq (l:List Int) (a b:Int) (hl:l.length<9223372036854775807):Ev (fun k=>z78.f k l a b) (qCm l && l.all fun v=>decide (a≤v) && decide (v≤b)):=by
  have e:(qCm l && l.all fun v=>decide (a≤v) && decide (v≤b))=(List.range l.length).all fun i=>(decide (a≤l.getD i 0) && decide (l.getD i 0≤b)) && qFc l i:=by
    rw [← qE9 l 0,qCm,Bool.eq_iff_iff,Bool.and_eq_true,List.all_eq_true,List.all_eq_true,List.all_eq_true]
    constructor
    · rintro ⟨h1,h2⟩ i hi
      rw [h1 i hi,h2 i hi];rfl
    intro h
    exact ⟨fun i hi=>((Bool.and_eq_true _ _).mp (h i hi)).2,fun i hi=>((Bool.and_eq_true _ _).mp (h i hi)).1⟩
  rw [e]
  unfold z78.f
  refine qKo (fun (i:Nat) k=>z78.l0 k l a b (i:Int)) _ l.length (fun i hi hp r hr=>?_) (fun i hi hp=>?_) ?_
  · obtain ⟨h1,h2⟩:=(Bool.and_eq_true _ _).mp hp
    refine Ev.step (fun k=>z78.l0.eq_2 ..) ?_
    rw [qA4,qAw (by omega)]
    refine qAc (by omega) (qAc (by omega) (Ev.bind (qA1 (qE1 _ _ _)) (qAc h1 ?_)))
    rcases Nat.eq_zero_or_pos i with h | h
    · exact qAr (by omega) hr
    have e:(i == 0)=false:=by simpa using (show i≠0 by omega)
    unfold qFc at h2
    rw [e,Bool.false_or] at h2
    have h2:=of_decide_eq_true h2
    rw [show wrap64 ((i:Int) - 1)=((i - 1:Nat):Int) by rw [qAs (by omega) (by omega)];omega,qA4]
    exact qAc (by omega) (qAc (by omega) (qAc (by omega) (qAr (by omega) hr)))
  · refine Ev.step (fun k=>z78.l0.eq_2 ..) ?_
    rw [qA4]
    refine qAc (by omega) (qAc (by omega) (Ev.bind (qA1 (qE1 _ _ _)) ?_))
    cases h1:decide (a≤l.getD i 0) && decide (l.getD i 0≤b) with
    | false=>exact qAr (by decide) (Ev.now _)
    | true =>
      rw [h1,Bool.true_and] at hp
      refine qAc rfl ?_
      rcases Nat.eq_zero_or_pos i with h | h
      · subst h;cases hp
      have e:(i == 0)=false:=by simpa using (show i≠0 by omega)
      unfold qFc at hp
      rw [e,Bool.false_or] at hp
      have hp:=of_decide_eq_false hp
      rw [show wrap64 ((i:Int) - 1)=((i - 1:Nat):Int) by rw [qAs (by omega) (by omega)];omega,qA4]
      exact qAc (by omega) (qAc (by omega) (qAc (by omega) (qAc (by omega) (Ev.now _))))
  refine Ev.step (fun k=>z78.l0.eq_2 ..) ?_
  exact qAr (by omega) (Ev.now _)
theorem qD7 (l:List Int) (hl:l.length<9223372036854775807):Ev (fun k=>z45.f k l) (qBh l):=by
  unfold z45.f qBh
  refine Ev.bind (qA1 (qE1 _ _ _)) ?_
  have e:(decide ((1:Int)≤(l.length:Int)) && decide ((l.length:Int)≤4))=(decide (1≤l.length) && decide (l.length≤4)):=by
    rw [Bool.eq_iff_iff];simp;omega
  rw [e]
  cases h:decide (1≤l.length) && decide (l.length≤4) with
  | false=>exact qAr (by decide) (Ev.now _)
  | true=>exact qAc rfl (Ev.bind (qIq l 0 9 hl) (Ev.now _))
end Go.Proofs.YtpgjfppbbbnclaaGreat.B
namespace Go.Proofs.YtpgjfppbbbnclaaGreat.B
open Go.RowKit Go.Proofs.YtpgjfppbbbnclaaGreatW.PrintWords Go.Proofs.YtpgjfppbbbnclaaGreatW.PrintLast Go.Proofs.YtpgjfppbbbnclaaGreatW.PrintMore
attribute [local go_sem] qAq qAo qAu qAt qAl qAk qAp qAn
def z97.f (l0:List Int):Option (List Int):=(some (([]:List Int):List Int)).bind fun y101=>(if y101.length+l0.length<17592186044416 then (some (y101 ++ l0)) else (none))
theorem z97.calls (A0:Option Addr) (c0:Nat) (l0:List Int) (r:List Int) (w:World) (hr0:Kd.C (Kd.int .i64) w A0 l0.length l0) (hc0:l0.length≤c0) (h:z97.f l0=some r) :
  Calls Tryz.prog 97 #[.slice A0 l0.length c0] w fun e w'=>∃ v0_:Value,e=.returned (v0_)∧Kd.R (Kd.int .i64) 2 w' w.heap.size (fun _=>True) v0_ r∧Below w.heap.size w w':=by
 have HR0:=Zz.mk hr0
 have HC0:=Zz.mk hc0
 clear hr0 hc0
 have HB:=Zz.mk (Below.refl w.heap.size w)
 have H:((some (([]:List Int):List Int)).bind fun y101=>(if y101.length+l0.length<17592186044416 then (some (y101 ++ l0)) else (none)))=some r:=h
 clear h
 obtain ⟨y101,hy101⟩:∃ y_:List Int,y_=(([]:List Int)):=⟨_,rfl⟩
 replace H:(if y101.length+l0.length<17592186044416 then (some (y101 ++ l0)) else (none))=some r:=Y_ hy101 H
 have Ny101:=Zz.mk hy101
 clear hy101
 have c2:=O1_ H
 replace H:=O2_ H
 have LMc2:=Zz.mk c2
 clear c2
 obtain ⟨y104,hy104⟩:∃ y_:List Int,y_=(y101 ++ l0):=⟨_,rfl⟩
 replace H:(some y104)=some r:=Y_ hy104 H
 have Ny104:=Zz.mk hy104
 clear hy104
 obtain rfl:=OI_ H
 go_enter Tryz.func97,Tryz.ntmps97
 go_wp2_with (first | ((with_reducible refine qAm (N:=3) rfl ?_);refine Kd.R_lit (Kd.int .i64) _ 2 ?hg (N:=3) ?hd (xs:=([]:List Int)) (inner:=[]) (ok:=fun _=>True) (okp:=fun _=>True) ?hr ?hp (fun _ hk=>hk) trivial (Below.refl _ _) (Nat.le_refl _) (by simp) ?_;(case hd=>rfl);(case hg=>rfl);(case hr=>first | (go_simp;done) | (go_simp;rfl));(case hp=>exact (Reps.none _ _));intro v102 w3 ho4 hb hg_ hnew_;clear hg_ hnew_;(first | rw [← Ny101.out] at ho4 | (simp only [Int.reduceToNat] at ho4;rw [← Ny101.out] at ho4));have HO103:=Zz.mk (Kd.R_lower ho4 (bS_ (B_ HB.out)));replace HB:=Zz.mk (bT_ (B_ HB.out) hb);clear hb ho4) | ((with_reducible refine qA0 (b:=.append) (xs:=#[.tmp 3,.tmp 4]) rfl ?_);at_builtin;refine Kd.R_append_rows (Kd.int .i64) (w0:=w) w.heap.size rfl (.tmp 3) (.tmp 4) 30 2 (.int .i64 0) 8 rfl Tryz.underlying30 qB4 rfl (by decide) (by omega) v102 y101 l0 _ _ _ (fun _=>True) (fun _=>False) rfl rfl ?aO ?aR (fun _ _ h=>h) (fun _ h=>h.elim) ?aF ?aB ?aS ?aL ?_;(case aR=>exact KC_ (Kd.C_below HR0.out HB.out));(case aB=>exact (B_ HB.out));(case aF=>exact (fun _ _=>trivial));(case aO=>exact (KR_ HO103.out));(case aS=>exact (bS_ (B_ HB.out)));(case aL=>have:=LMc2.out;omega);intro v105 w5 ho hb hg hat;rw [← Ny104.out] at ho;replace HB:=Zz.mk (hb);have HO106:=Zz.mk (ho);clear HO103;clear ho hb hg hat))
 go_ret
 exact ⟨_,F_,KR_ HO106.out,B_ HB.out⟩
def z61.f (l0:List Int) (a1:Int):Option (List Int):=if 0≤a1 then (if a1≤(l0.length:Int) then ((z97.f (l0.take (a1:Int).toNat)).bind fun t102=>(if 0≤(wrap64 (a1+1)) then (if (wrap64 (a1+1))≤(l0.length:Int) then (if t102.length+(l0.drop ((wrap64 (a1+1)):Int).toNat).length<17592186044416 then (some (t102 ++ (l0.drop ((wrap64 (a1+1)):Int).toNat))) else (none)) else (none)) else (none))) else (none)) else (none)
theorem z61.calls (A0:Option Addr) (c0:Nat) (l0:List Int) (a1:Int) (r:List Int) (w:World) (hr0:Kd.C (Kd.int .i64) w A0 l0.length l0) (hc0:l0.length≤c0) (h:z61.f l0 a1=some r) :
  Calls Tryz.prog 61 #[.slice A0 l0.length c0,.int .i64 a1] w fun e w'=>∃ v0_:Value,e=.returned (v0_)∧Kd.R (Kd.int .i64) 2 w' w.heap.size (fun _=>True) v0_ r∧Below w.heap.size w w':=by
 have HR0:=Zz.mk hr0
 have HC0:=Zz.mk hc0
 clear hr0 hc0
 have HB:=Zz.mk (Below.refl w.heap.size w)
 have H:(if 0≤a1 then (if a1≤(l0.length:Int) then ((z97.f (l0.take (a1:Int).toNat)).bind fun t102=>(if 0≤(wrap64 (a1+1)) then (if (wrap64 (a1+1))≤(l0.length:Int) then (if t102.length+(l0.drop ((wrap64 (a1+1)):Int).toNat).length<17592186044416 then (some (t102 ++ (l0.drop ((wrap64 (a1+1)):Int).toNat))) else (none)) else (none)) else (none))) else (none)) else (none))=some r:=h
 clear h
 have c3:=O1_ H
 replace H:=O2_ H
 have c3b0:=eq_true c3
 have c3b1:decide (0≤a1)=true:=decide_eq_true c3
 clear c3
 have c4:=O1_ H
 replace H:=O2_ H
 have c4b0:=eq_true c4
 have c4b1:decide (a1≤(l0.length:Int))=true:=decide_eq_true c4
 clear c4
 replace H:=OZ_ H
 obtain ⟨t102,A5,H⟩:=H
 obtain ⟨ji6,hji6⟩:∃ j_:Int,(wrap64 (a1+1))=j_:=⟨_,rfl⟩
 replace H:(if 0≤(ji6) then (if (ji6)≤(l0.length:Int) then (if t102.length+(l0.drop ((ji6):Int).toNat).length<17592186044416 then (some (t102 ++ (l0.drop ((ji6):Int).toNat))) else (none)) else (none)) else (none))=some r:=by first | (rw [hji6] at H;exact H) | (simp only [hji6] at H ⊢;exact H)
 (try rw [hji6] at A5)
 have hji6w:(IntKind.i64.wrap (a1+1))=ji6:=(qBl _).trans hji6
 have c7:=O1_ H
 replace H:=O2_ H
 have c7b0:=eq_true c7
 have c7b1:decide (0≤(ji6))=true:=decide_eq_true c7
 clear c7
 have c8:=O1_ H
 replace H:=O2_ H
 have c8b0:=eq_true c8
 have c8b1:decide ((ji6)≤(l0.length:Int))=true:=decide_eq_true c8
 clear c8
 have c9:=O1_ H
 replace H:=O2_ H
 have LMc9:=Zz.mk c9
 clear c9
 obtain ⟨y106,hy106⟩:∃ y_:List Int,y_=(t102 ++ (l0.drop ((ji6):Int).toNat)):=⟨_,rfl⟩
 replace H:(some y106)=some r:=Y_ hy106 H
 have Ny106:=Zz.mk hy106
 clear hy106
 obtain rfl:=OI_ H
 obtain ⟨i010,hi010,_,hsz10,_⟩:=info_parts qB4
 obtain ⟨hcut10,hA10,hC10⟩:=qH3 (P:=Tryz.prog) (Value.int .i64) 0 30 2 .i64 Tryz.underlying30 hi010 hsz10 A0 c0 l0 a1 (D_) (D_) HC0.out
 have HR101:=Zz.mk (Kd.C_of_reads (h1:=fun _=>rfl) (hA10 _ (Kd.reads_of_C HR0.out)))
 have HC101:=Zz.mk hC10
 clear hA10 hC10 hi010 hsz10
 go_enter Tryz.func61,Tryz.ntmps61
 go_wp2_with (first | ((with_reducible refine gC_ (f:=97) rfl ?_);refine qOe (some 9) rfl rfl Tryz.func97 (by kernel_rfl) rfl #[.slice A0 (l0.take (a1:Int).toNat).length c0] rfl (by (try simp only [List.map_toArray,List.map_cons,List.map_nil]);first | done | (rw [show (l0.take (a1:Int).toNat).length=a1.toNat from (by rw [List.length_take];have h_:(a1:Int)≤(l0.length:Int):=D_;omega)] <;> rfl) | rfl | (simp only [List.length_drop,List.length_take];rfl)) ?_;(with_reducible refine (z97.calls _ _ (l0.take (a1:Int).toNat) t102 _ ?side1 ?side2 A5.out).mono ?_);(case side1=>exact KC_ HR101.out);(case side2=>exact HC101.out);rintro e w11 ⟨v103,rfl,ho0,hb⟩;refine ⟨_,rfl,?_⟩;have HO104:=Zz.mk (Kd.R_lower ho0 (bS_ (B_ HB.out)));replace HB:=Zz.mk (bT_ (B_ HB.out) hb);(try clear hb);(try clear ho0);obtain ⟨i012,hi012,_,hsz12,_⟩:=info_parts qB4;obtain ⟨A12,hcut12,hA12,hC12⟩:=qH4 (P:=Tryz.prog) (Value.int .i64) 0 30 2 .i64 Tryz.underlying30 hi012 hsz12 A0 c0 l0 (ji6) (D_) (D_) HC0.out;have HR105:=Zz.mk (Kd.C_of_reads (h1:=fun _=>rfl) (hA12 _ (Kd.reads_of_C HR0.out)));have HC105:=Zz.mk hC12;clear hA12 hC12 hi012 hsz12) | ((with_reducible refine qA0 (b:=.append) (xs:=#[.tmp 10,.tmp 14]) rfl ?_);at_builtin;refine Kd.R_append_rows (Kd.int .i64) (w0:=w) w.heap.size rfl (.tmp 10) (.tmp 14) 30 2 (.int .i64 0) 8 rfl Tryz.underlying30 qB4 rfl (by decide) (by omega) v103 t102 (l0.drop ((ji6):Int).toNat) _ _ _ (fun _=>True) (fun _=>False) rfl rfl ?aO ?aR (fun _ _ h=>h) (fun _ h=>h.elim) ?aF ?aB ?aS ?aL ?_;(case aR=>first | (rw [← show (l0.drop ((ji6):Int).toNat).length=(l0.length - (ji6).toNat) from List.length_drop];repeat (first | exact (Kd.C_below HR105.out HB.out) | (with_reducible refine Kd.C_alloc ?_ _) | (with_reducible refine Kd.C_drewN ?_ _) | (with_reducible refine Kd.C_drew ?_))) | (repeat (first | exact (Kd.C_below HR105.out HB.out) | (with_reducible refine Kd.C_alloc ?_ _) | (with_reducible refine Kd.C_drewN ?_ _) | (with_reducible refine Kd.C_drew ?_))));(case aB=>exact (B_ HB.out));(case aF=>exact (fun _ _=>trivial));(case aO=>exact (KR_ HO104.out));(case aS=>exact (bS_ (B_ HB.out)));(case aL=>have:=LMc9.out;have hlx_:=(show (l0.drop ((ji6):Int).toNat).length=(l0.length - (ji6).toNat) from List.length_drop);omega);intro v107 w13 ho hb hg hat;rw [← Ny106.out] at ho;replace HB:=Zz.mk (hb);have HO108:=Zz.mk (ho);clear HO104;clear ho hb hg hat))
 go_ret
 exact ⟨_,by first | rfl | (simp [qBz,qBy] <;> rfl) | (simp only [← hji6];first | rfl | (simp [qBz,qBy] <;> rfl)) | (simp [*,qBz,qBy] <;> rfl),KR_ HO108.out,B_ HB.out⟩
mutual
def z96.l0:Nat→List Int→Int→List Int→Bool→Int→Option (List Int)
 | 0,_,_,_,_,_=>none
 | k+1,x0,x1,x5,x6,x7=>if x7<(x0.length:Int) then (if x6=true then (z96.j1 k x0 x1 x5 x6 x7 false) else (if 0≤x7 then (z96.j1 k x0 x1 x5 x6 x7 (decide ((rd x0 x7) ≥ x1))) else (none))) else (if x6=true then (some x5) else (if x5.length<17592186044416 then (some (x5 ++ [x1])) else (none)))
def z96.j1:Nat→List Int→Int→List Int→Bool→Int→Bool→Option (List Int)
 | 0,_,_,_,_,_,_=>none
 | k+1,x0,x1,x5,x6,x7,x24=>if x24=true then (if 0≤x7 then (if x7<(x0.length:Int) then (if (rd x0 x7) > x1 then (if x5.length<17592186044416 then ((some (x5 ++ [x1]:List Int)).bind fun y109=>(if y109.length<17592186044416 then (z96.l0 k x0 x1 (y109 ++ [rd x0 x7]) true (wrap64 (x7+1))) else (none))) else (none)) else (if x5.length<17592186044416 then (z96.l0 k x0 x1 (x5 ++ [rd x0 x7]) true (wrap64 (x7+1))) else (none))) else (none)) else (none)) else (if 0≤x7 then (if x7<(x0.length:Int) then (if x5.length<17592186044416 then (z96.l0 k x0 x1 (x5 ++ [rd x0 x7]) x6 (wrap64 (x7+1))) else (none)) else (none)) else (none))
end
def z96.f (k:Nat) (l0:List Int) (a1:Int):Option (List Int):=z96.l0 k l0 a1 (([]:List Int)) false 0
theorem z96.calls (k:Nat) (A0:Option Addr) (c0:Nat) (l0:List Int) (a1:Int) (r:List Int) (w:World) (hr0:Kd.C (Kd.int .i64) w A0 l0.length l0) (hc0:l0.length≤c0) (h:z96.f k l0 a1=some r) :
  Calls Tryz.prog 96 #[.slice A0 l0.length c0,.int .i64 a1] w fun e w'=>∃ v0_:Value,e=.returned (v0_)∧Kd.R (Kd.int .i64) 2 w' w.heap.size (fun _=>True) v0_ r∧Below w.heap.size w w':=by
 have HR0:=Zz.mk hr0
 have HC0:=Zz.mk hc0
 clear hr0 hc0
 have HB:=Zz.mk (Below.refl w.heap.size w)
 have H:(z96.l0 k l0 a1 (([]:List Int)) false 0)=some r:=h
 clear h
 obtain ⟨y101,hy101⟩:∃ y_:List Int,y_=(([]:List Int)):=⟨_,rfl⟩
 replace H:(z96.l0 k l0 a1 y101 false 0)=some r:=Y_ hy101 H
 have Ny101:=Zz.mk hy101
 clear hy101
 have H':=Zz.mk H
 clear H
 go_enter Tryz.func96,Tryz.ntmps96
 go_wp2_with (first | ((with_reducible refine qAm (N:=8) rfl ?_);refine Kd.R_lit (Kd.int .i64) _ 2 ?hg (N:=8) ?hd (xs:=([]:List Int)) (inner:=[]) (ok:=fun _=>True) (okp:=fun _=>True) ?hr ?hp (fun _ hk=>hk) trivial (Below.refl _ _) (Nat.le_refl _) (by simp) ?_;(case hd=>rfl);(case hg=>rfl);(case hr=>first | (go_simp;done) | (go_simp;rfl));(case hp=>exact (Reps.none _ _));intro v102 w3 ho4 hb hg_ hnew_;clear hg_ hnew_;(first | rw [← Ny101.out] at ho4 | (simp only [Int.reduceToNat] at ho4;rw [← Ny101.out] at ho4));have HO103:=Zz.mk (Kd.R_lower ho4 (bS_ (B_ HB.out)));replace HB:=Zz.mk (bT_ (B_ HB.out) hb);clear hb ho4))
 go_loopg [5,6,7] k (fun kq v5 v6 v7 w'=>∃ (x5_1:List Int) (x6_1:Bool) (x7_1:Int),v6=.bool x6_1∧v7=.int .i64 x7_1∧Zz (z96.l0 kq l0 a1 x5_1 x6_1 x7_1=some r)∧Zz (kq≤k)∧Zz (Kd.R (Kd.int .i64) 2 w' w.heap.size (fun _=>True) v5 x5_1)∧Zz (Below w.heap.size w w'))
 case atStart=>exact ⟨(y101),(false),(0),E_,E_,H',⟨Nat.le_refl _⟩,⟨KR_ HO103.out⟩,⟨B_ HB.out⟩⟩
 case round =>
  clear H'
  obtain ⟨x5_1,x6_1,x7_1,rfl,rfl,HA,HK1,HO_5,HB⟩:=hrel
  cases gk with
  | zero=>exact absurd HA.out (by simp [z96.l0])
  | succ k1 =>
   have H:=HA.out
   clear HA
   simp only [z96.l0] at H
   by_cases c5:x7_1<(l0.length:Int)
   ·rw [if_pos c5] at H
    have c5b0:decide (x7_1<(l0.length:Int))=true:=decide_eq_true c5
    clear c5
    have HC6:=Zz.mk H
    clear H
    go_upto_region 6 with (fail)
    go_cut [24] (fun v24 wc=>∃ (kq:Nat) (x24_5:Bool),v24=.bool x24_5∧Zz (z96.j1 kq l0 a1 x5_1 x6_1 x7_1 x24_5=some r)∧Zz (kq≤k1)∧Zz (Kd.R (Kd.int .i64) 2 wc w.heap.size (fun _=>True) u5 x5_1)∧Zz (Below w.heap.size w wc))
    case first =>
     have H:=HC6.out
     clear HC6
     by_cases c7:x6_1=true
     ·subst c7
      replace H:=T_ H
      have H':=Zz.mk H
      clear H
      go_wp2
      go_meet
      case rel=>exact ⟨_,(false),E_,H',⟨by have:=HK1.out;first | omega | exact Nat.le_refl _⟩,⟨KR_ HO_5.out⟩,⟨B_ HB.out⟩⟩
     replace c7:=Bool.eq_false_iff.mpr c7
     subst c7
     replace H:=N_ H
     have c8b0:=O3_ H
     replace H:=O2_ H
     (first | rw [c8b0] | (simp only [qBl,qCi];rw [c8b0]) | skip)
     have H':=Zz.mk H
     clear H
     have p107:0≤(x7_1:Int):=D_
     have q107:x7_1<(l0.length:Int):=D_
     obtain ⟨ad107,e107,hx107_0⟩:=Kd.at_int HR0.out x7_1 p107 q107
     cases e107
     replace hx107_0:=(HB.out.cell (World.block_lt_of_cell? w _ hx107_0)).trans hx107_0
     replace p107:=eq_true p107
     replace q107:=eq_true q107
     go_wp2
     go_meet
     case rel=>exact ⟨_,(decide ((rd l0 x7_1) ≥ a1)),E_,H',⟨by have:=HK1.out;first | omega | exact Nat.le_refl _⟩,⟨KR_ HO_5.out⟩,⟨B_ HB.out⟩⟩
    case rest =>
     clear HC6
     (try clear c5);(try clear c5b0)
     obtain ⟨kq,x24_5,rfl,HA,HJ5,HO_5,HB⟩:=hcut
     cases kq with
     | zero=>exact absurd HA.out (by simp [z96.j1])
     | succ kj5 =>
      have H:=HA.out
      clear HA
      simp only [z96.j1] at H
      by_cases c9:x24_5=true
      ·subst c9
       replace H:=T_ H
       have c10b0:=O3_ H
       replace H:=O2_ H
       have c11b0:=O3_ H
       replace H:=O2_ H
       by_cases c12:(rd l0 x7_1) > a1
       ·rw [if_pos c12] at H
        have c12b0:decide (a1<(rd l0 x7_1))=true:=decide_eq_true c12
        clear c12
        have c13:=O1_ H
        replace H:=O2_ H
        have LMc13:=Zz.mk c13
        clear c13
        obtain ⟨y109,hy109⟩:∃ y_:List Int,y_=(x5_1 ++ [a1]):=⟨_,rfl⟩
        replace H:(if y109.length<17592186044416 then (z96.l0 kj5 l0 a1 (y109 ++ [rd l0 x7_1]) true (wrap64 (x7_1+1))) else (none))=some r:=Y_ hy109 H
        have Ny109:=Zz.mk hy109
        clear hy109
        have c14:=O1_ H
        replace H:=O2_ H
        have LMc14:=Zz.mk c14
        clear c14
        obtain ⟨y113,hy113⟩:∃ y_:List Int,y_=(y109 ++ [rd l0 x7_1]):=⟨_,rfl⟩
        replace H:(z96.l0 kj5 l0 a1 y113 true (wrap64 (x7_1+1)))=some r:=Y_ hy113 H
        have Ny113:=Zz.mk hy113
        clear hy113
        have H':=Zz.mk H
        clear H
        have p108:0≤(x7_1:Int):=D_
        have q108:x7_1<(l0.length:Int):=D_
        obtain ⟨ad108,e108,hx108_0⟩:=Kd.at_int HR0.out x7_1 p108 q108
        cases e108
        replace hx108_0:=(HB.out.cell (World.block_lt_of_cell? w _ hx108_0)).trans hx108_0
        replace p108:=eq_true p108
        replace q108:=eq_true q108
        go_wp2_with (first | ((with_reducible refine qA0 (b:=.append) (xs:=#[.tmp 31,.tmp 33]) rfl ?_);at_builtin;refine Kd.R_append (Kd.int .i64) (w0:=w) w.heap.size rfl (.tmp 31) (.tmp 33) 30 2 (.int .i64 0) 8 rfl Tryz.underlying30 qB4 rfl (by decide) (by omega) u5 x5_1 a1 [.int .i64 a1] (fun _=>True) (fun _=>False) rfl rfl ?aP (fun _ hk=>hk.elim) ?aF ?aO ?aB ?aS ?aL ?_;(case aP=>exact rfl);(case aB=>exact (B_ HB.out));(case aF=>exact (fun _ _=>trivial));(case aO=>exact (KR_ HO_5.out));(case aS=>exact (bS_ (B_ HB.out)));(case aL=>have:=LMc13.out;omega);intro v110 w15 ho hb hg hat;rw [← Ny109.out] at ho;replace HB:=Zz.mk (hb);have HO111:=Zz.mk (ho);clear HO_5;clear ho hb hg hat;have p112:0≤(x7_1:Int):=D_;have q112:x7_1<(l0.length:Int):=D_;obtain ⟨ad112,e112,hx112_0⟩:=Kd.at_int HR0.out x7_1 p112 q112;obtain rfl:ad108=ad112:=(by injection e112);replace hx112_0:=(HB.out.cell (World.block_lt_of_cell? w _ hx112_0)).trans hx112_0;replace p112:=eq_true p112;replace q112:=eq_true q112) | ((with_reducible refine qA0 (b:=.append) (xs:=#[.tmp 35,.tmp 40]) rfl ?_);at_builtin;refine Kd.R_append (Kd.int .i64) (w0:=w) w.heap.size rfl (.tmp 35) (.tmp 40) 30 2 (.int .i64 0) 8 rfl Tryz.underlying30 qB4 rfl (by decide) (by omega) v110 y109 (rd l0 x7_1) [.int .i64 (rd l0 x7_1)] (fun _=>True) (fun _=>False) rfl rfl ?aP (fun _ hk=>hk.elim) ?aF ?aO ?aB ?aS ?aL ?_;(case aP=>exact rfl);(case aB=>exact (B_ HB.out));(case aF=>exact (fun _ _=>trivial));(case aO=>exact (KR_ HO111.out));(case aS=>exact (bS_ (B_ HB.out)));(case aL=>have:=LMc14.out;omega);intro v114 w16 ho hb hg hat;rw [← Ny113.out] at ho;replace HB:=Zz.mk (hb);have HO115:=Zz.mk (ho);clear HO111;clear ho hb hg hat))
        go_roundg kj5
        case measure=>have:=HK1.out;have:=HJ5.out;omega
        case rel=>exact ⟨(y113),(true),(wrap64 (x7_1+1)),E_,E_,H',⟨by have:=HK1.out;have:=HJ5.out;omega⟩,⟨KR_ HO115.out⟩,⟨B_ HB.out⟩⟩
       rw [if_neg c12] at H
       have c12b0:decide (a1<(rd l0 x7_1))=false:=decide_eq_false c12
       clear c12
       have c17:=O1_ H
       replace H:=O2_ H
       have LMc17:=Zz.mk c17
       clear c17
       obtain ⟨y117,hy117⟩:∃ y_:List Int,y_=(x5_1 ++ [rd l0 x7_1]):=⟨_,rfl⟩
       replace H:(z96.l0 kj5 l0 a1 y117 true (wrap64 (x7_1+1)))=some r:=Y_ hy117 H
       have Ny117:=Zz.mk hy117
       clear hy117
       have H':=Zz.mk H
       clear H
       have p108:0≤(x7_1:Int):=D_
       have q108:x7_1<(l0.length:Int):=D_
       obtain ⟨ad108,e108,hx108_0⟩:=Kd.at_int HR0.out x7_1 p108 q108
       cases e108
       replace hx108_0:=(HB.out.cell (World.block_lt_of_cell? w _ hx108_0)).trans hx108_0
       replace p108:=eq_true p108
       replace q108:=eq_true q108
       have p116:0≤(x7_1:Int):=D_
       have q116:x7_1<(l0.length:Int):=D_
       obtain ⟨ad116,e116,hx116_0⟩:=Kd.at_int HR0.out x7_1 p116 q116
       obtain rfl:ad108=ad116:=(by injection e116)
       replace hx116_0:=(HB.out.cell (World.block_lt_of_cell? w _ hx116_0)).trans hx116_0
       replace p116:=eq_true p116
       replace q116:=eq_true q116
       go_wp2_with (first | ((with_reducible refine qA0 (b:=.append) (xs:=#[.tmp 35,.tmp 40]) rfl ?_);at_builtin;refine Kd.R_append (Kd.int .i64) (w0:=w) w.heap.size rfl (.tmp 35) (.tmp 40) 30 2 (.int .i64 0) 8 rfl Tryz.underlying30 qB4 rfl (by decide) (by omega) u5 x5_1 (rd l0 x7_1) [.int .i64 (rd l0 x7_1)] (fun _=>True) (fun _=>False) rfl rfl ?aP (fun _ hk=>hk.elim) ?aF ?aO ?aB ?aS ?aL ?_;(case aP=>exact rfl);(case aB=>exact (B_ HB.out));(case aF=>exact (fun _ _=>trivial));(case aO=>exact (KR_ HO_5.out));(case aS=>exact (bS_ (B_ HB.out)));(case aL=>have:=LMc17.out;omega);intro v118 w18 ho hb hg hat;rw [← Ny117.out] at ho;replace HB:=Zz.mk (hb);have HO119:=Zz.mk (ho);clear HO_5;clear ho hb hg hat))
       go_roundg kj5
       case measure=>have:=HK1.out;have:=HJ5.out;omega
       case rel=>exact ⟨(y117),(true),(wrap64 (x7_1+1)),E_,E_,H',⟨by have:=HK1.out;have:=HJ5.out;omega⟩,⟨KR_ HO119.out⟩,⟨B_ HB.out⟩⟩
      replace c9:=Bool.eq_false_iff.mpr c9
      subst c9
      replace H:=N_ H
      have c19b0:=O3_ H
      replace H:=O2_ H
      have c20b0:=O3_ H
      replace H:=O2_ H
      have c21:=O1_ H
      replace H:=O2_ H
      have LMc21:=Zz.mk c21
      clear c21
      obtain ⟨y121,hy121⟩:∃ y_:List Int,y_=(x5_1 ++ [rd l0 x7_1]):=⟨_,rfl⟩
      replace H:(z96.l0 kj5 l0 a1 y121 x6_1 (wrap64 (x7_1+1)))=some r:=Y_ hy121 H
      have Ny121:=Zz.mk hy121
      clear hy121
      have H':=Zz.mk H
      clear H
      have p120:0≤(x7_1:Int):=D_
      have q120:x7_1<(l0.length:Int):=D_
      obtain ⟨ad120,e120,hx120_0⟩:=Kd.at_int HR0.out x7_1 p120 q120
      cases e120
      replace hx120_0:=(HB.out.cell (World.block_lt_of_cell? w _ hx120_0)).trans hx120_0
      replace p120:=eq_true p120
      replace q120:=eq_true q120
      go_wp2_with (first | ((with_reducible refine qA0 (b:=.append) (xs:=#[.tmp 35,.tmp 40]) rfl ?_);at_builtin;refine Kd.R_append (Kd.int .i64) (w0:=w) w.heap.size rfl (.tmp 35) (.tmp 40) 30 2 (.int .i64 0) 8 rfl Tryz.underlying30 qB4 rfl (by decide) (by omega) u5 x5_1 (rd l0 x7_1) [.int .i64 (rd l0 x7_1)] (fun _=>True) (fun _=>False) rfl rfl ?aP (fun _ hk=>hk.elim) ?aF ?aO ?aB ?aS ?aL ?_;(case aP=>exact rfl);(case aB=>exact (B_ HB.out));(case aF=>exact (fun _ _=>trivial));(case aO=>exact (KR_ HO_5.out));(case aS=>exact (bS_ (B_ HB.out)));(case aL=>have:=LMc21.out;omega);intro v122 w22 ho hb hg hat;rw [← Ny121.out] at ho;replace HB:=Zz.mk (hb);have HO123:=Zz.mk (ho);clear HO_5;clear ho hb hg hat))
      go_roundg kj5
      case measure=>have:=HK1.out;have:=HJ5.out;omega
      case rel=>exact ⟨(y121),(x6_1),(wrap64 (x7_1+1)),E_,E_,H',⟨by have:=HK1.out;have:=HJ5.out;omega⟩,⟨KR_ HO123.out⟩,⟨B_ HB.out⟩⟩
   rw [if_neg c5] at H
   have c5b0:decide (x7_1<(l0.length:Int))=false:=decide_eq_false c5
   clear c5
   by_cases c23:x6_1=true
   ·subst c23
    replace H:=T_ H
    obtain rfl:=OI_ H
    go_wp2
    go_ret
    exact ⟨_,F_,KR_ HO_5.out,B_ HB.out⟩
   replace c23:=Bool.eq_false_iff.mpr c23
   subst c23
   replace H:=N_ H
   have c24:=O1_ H
   replace H:=O2_ H
   have LMc24:=Zz.mk c24
   clear c24
   obtain ⟨y104,hy104⟩:∃ y_:List Int,y_=(x5_1 ++ [a1]):=⟨_,rfl⟩
   replace H:(some y104)=some r:=Y_ hy104 H
   have Ny104:=Zz.mk hy104
   clear hy104
   obtain rfl:=OI_ H
   go_wp2_with (first | ((with_reducible refine qA0 (b:=.append) (xs:=#[.tmp 44,.tmp 46]) rfl ?_);at_builtin;refine Kd.R_append (Kd.int .i64) (w0:=w) w.heap.size rfl (.tmp 44) (.tmp 46) 30 2 (.int .i64 0) 8 rfl Tryz.underlying30 qB4 rfl (by decide) (by omega) u5 x5_1 a1 [.int .i64 a1] (fun _=>True) (fun _=>False) rfl rfl ?aP (fun _ hk=>hk.elim) ?aF ?aO ?aB ?aS ?aL ?_;(case aP=>exact rfl);(case aB=>exact (B_ HB.out));(case aF=>exact (fun _ _=>trivial));(case aO=>exact (KR_ HO_5.out));(case aS=>exact (bS_ (B_ HB.out)));(case aL=>have:=LMc24.out;omega);intro v105 w25 ho hb hg hat;rw [← Ny104.out] at ho;replace HB:=Zz.mk (hb);have HO106:=Zz.mk (ho);clear HO_5;clear ho hb hg hat))
   go_ret
   exact ⟨_,F_,KR_ HO106.out,B_ HB.out⟩
def z57.l0:Nat→Int→List Int→Int→List Int→Int→Int→Option (List Int × Int × Int)
 | 0,_,_,_,_,_,_=>none
 | k+1,x1,x7,x8,x1000,x1001,x1002=>if x8 > 0 then ((z33.f x1000 x1001 x1002 x1).bind fun bt107=>((z96.f k x7 bt107.1).bind fun t110=>(z57.l0 k x1 t110 (wrap64 (x8 - 1)) x1000 bt107.2.1 bt107.2.2))) else (some (x7,x1001,x1002))
def z57.f (k:Nat) (s0_0:List Int) (s0_1:Int) (s0_2:Int) (a1:Int) (a2:Int):Option (List Int × Int × Int):=(z33.f s0_0 s0_1 s0_2 a2).bind fun bt104=>(z57.l0 k a1 (([]:List Int)) (wrap64 (1+bt104.1)) s0_0 bt104.2.1 bt104.2.2)
theorem z57.calls (k:Nat) (g:Nat) (s0_0:List Int) (s0_1:Int) (s0_2:Int) (a1:Int) (a2:Int) (r1:List Int) (r2:Int) (r3:Int) (w0 w:World) (hI:qAa w0 w g s0_0 s0_1 s0_2) (hB:Below w0.heap.size w0 w) (h:z57.f k s0_0 s0_1 s0_2 a1 a2=some (r1,r2,r3)) :
  Calls Tryz.prog 57 #[.pointer (some ⟨g,0,none⟩),.int .i64 a1,.int .i64 a2] w fun e w'=>∃ v0_:Value,e=.returned (v0_)∧Kd.R (Kd.int .i64) 2 w' w.heap.size (fun _=>True) v0_ r1∧qAa w0 w' g s0_0 r2 r3∧Below w0.heap.size w0 w'∧qAf w w' g none:=by
 have HI0:=Zz.mk hI
 have HK:=Zz.mk (qAf.refl w g none)
 have HL:=Zz.mk hB.size
 clear hI
 have HW0:=Zz.mk hB.size
 have HB:=Zz.mk hB
 clear hB
 have H:((z33.f s0_0 s0_1 s0_2 a2).bind fun bt104=>(z57.l0 k a1 (([]:List Int)) (wrap64 (1+bt104.1)) s0_0 bt104.2.1 bt104.2.2))=some (r1,r2,r3):=h
 clear h
 obtain ⟨y101,hy101⟩:∃ y_:List Int,y_=(([]:List Int)):=⟨_,rfl⟩
 replace H:((z33.f s0_0 s0_1 s0_2 a2).bind fun bt104=>(z57.l0 k a1 y101 (wrap64 (1+bt104.1)) s0_0 bt104.2.1 bt104.2.2))=some (r1,r2,r3):=Y_ hy101 H
 have Ny101:=Zz.mk hy101
 clear hy101
 replace H:=OB_ H
 obtain ⟨⟨t104,t105,t106⟩,A40,H⟩:=H
 replace H:(z57.l0 k a1 y101 (wrap64 (1+t104)) s0_0 t105 t106)=some (r1,r2,r3):=H
 have A4:=Zz.mk A40
 clear A40
 have H':=Zz.mk H
 clear H
 go_enter Tryz.func57,Tryz.ntmps57
 go_wp2_with (first | ((with_reducible refine qAm (N:=9) rfl ?_);refine Kd.R_lit (Kd.int .i64) _ 2 ?hg (N:=9) ?hd (xs:=([]:List Int)) (inner:=[]) (ok:=fun _=>True) (okp:=fun _=>True) ?hr ?hp (fun _ hk=>hk) trivial (Below.refl _ _) (Nat.le_refl _) (by simp) ?_;(case hd=>rfl);(case hg=>rfl);(case hr=>first | (go_simp;done) | (go_simp;rfl));(case hp=>exact (Reps.none _ _));intro v102 w5 ho6 hb hg_ hnew_;clear hg_ hnew_;(first | rw [← Ny101.out] at ho6 | (simp only [Int.reduceToNat] at ho6;rw [← Ny101.out] at ho6));have HO103:=Zz.mk (Kd.R_lower ho6 (qAz (w:=w) (g:=g) (row:=none) (rW5_ HK.out)));replace HK:=Zz.mk (qAf.trans (rW5_ HK.out) (qAf.of_below hb g none) (.inl rfl));replace HB:=Zz.mk (bT_ (rW4_ HB.out HI0.out) hb);replace HI0:=Zz.mk (qAa.below (rW2_ HI0.out) hb);clear hb ho6) | ((with_reducible refine gC_ (f:=33) rfl ?_);refine GL_ (some 12) rfl rfl Tryz.func33 #[.pointer (some ⟨g,0,none⟩),.int .i64 a2] rfl (h:=?_);(with_reducible refine (z33.calls g s0_0 s0_1 s0_2 a2 t104 t105 t106 w0 _ ?side1 ?side2 A4.out).mono ?_);(case side1=>exact rW2_ HI0.out);(case side2=>exact rW4_ HB.out HI0.out);rintro e w7 ⟨rfl,hi,hb,hk⟩;refine ⟨_,rfl,?_⟩;replace HO103:=Zz.mk (Kd.R_mono (Kd.R_keep (qAa.apart (show qAa w0 _ g s0_0 s0_1 s0_2 from by exact rW2_ HI0.out) (KR_ HO103.out) (by decide)) hk (fun _ h=>h.2)) (fun _ h=>h.1));replace HK:=Zz.mk (qAf.trans (rW5_ HK.out) hk (.inl rfl));replace HB:=Zz.mk (hb);replace HI0:=Zz.mk (hi);(try clear hb);(try clear hk);(try clear hi)))
 go_loopg [7,8] k (fun kq v7 v8 w'=>∃ (x7_1:List Int) (x8_1:Int) (x1001_1:Int) (x1002_1:Int),v8=.int .i64 x8_1∧Zz (z57.l0 kq a1 x7_1 x8_1 s0_0 x1001_1 x1002_1=some (r1,r2,r3))∧Zz (kq≤k)∧Zz (Kd.R (Kd.int .i64) 2 w' w.heap.size (fun _=>True) v7 x7_1)∧Zz (qAa w0 w' g s0_0 x1001_1 x1002_1)∧Zz (qAf w w' g none)∧Zz (Below w0.heap.size w0 w'))
 case atStart=>exact ⟨(y101),(wrap64 (1+t104)),(t105),(t106),E_,H',⟨Nat.le_refl _⟩,⟨KR_ HO103.out⟩,⟨rW2_ HI0.out⟩,⟨rW5_ HK.out⟩,⟨rW4_ HB.out HI0.out⟩⟩
 case round =>
  clear H'
  obtain ⟨x7_1,x8_1,x1001_1,x1002_1,rfl,HA,HK1,HO_7,HI0,HK,HB⟩:=hrel
  cases gk with
  | zero=>exact absurd HA.out (by simp [z57.l0])
  | succ k1 =>
   have H:=HA.out
   clear HA
   simp only [z57.l0] at H
   by_cases c8:x8_1 > 0
   ·rw [if_pos c8] at H
    have c8b0:decide (0<x8_1)=true:=decide_eq_true c8
    clear c8
    replace H:=OB_ H
    obtain ⟨⟨t107,t108,t109⟩,A90,H⟩:=H
    replace H:((z96.f k1 x7_1 t107).bind fun t110=>(z57.l0 k1 a1 t110 (wrap64 (x8_1 - 1)) s0_0 t108 t109))=some (r1,r2,r3):=H
    have A9:=Zz.mk A90
    clear A90
    replace H:=OB_ H
    obtain ⟨t110,A100,H⟩:=H
    replace H:(z57.l0 k1 a1 t110 (wrap64 (x8_1 - 1)) s0_0 t108 t109)=some (r1,r2,r3):=H
    have A10:=Zz.mk A100
    clear A100
    have H':=Zz.mk H
    clear H
    go_wp2_with (first | ((with_reducible refine gC_ (f:=33) rfl ?_);refine GL_ (some 21) rfl rfl Tryz.func33 #[.pointer (some ⟨g,0,none⟩),.int .i64 a1] rfl (h:=?_);(with_reducible refine (z33.calls g s0_0 x1001_1 x1002_1 a1 t107 t108 t109 w0 _ ?side1 ?side2 A9.out).mono ?_);(case side1=>exact rW2_ HI0.out);(case side2=>exact rW4_ HB.out HI0.out);rintro e w11 ⟨rfl,hi,hb,hk⟩;refine ⟨_,rfl,?_⟩;replace HO_7:=Zz.mk (Kd.R_mono (Kd.R_keep (qAa.apart (show qAa w0 _ g s0_0 x1001_1 x1002_1 from by exact rW2_ HI0.out) (KR_ HO_7.out) (by decide)) hk (fun _ h=>h.2)) (fun _ h=>h.1));replace HK:=Zz.mk (qAf.trans (rW5_ HK.out) hk (.inl rfl));replace HB:=Zz.mk (hb);replace HI0:=Zz.mk (hi);(try clear hb);(try clear hk);(try clear hi);obtain ⟨Ao12,co12,eo12⟩:=Kd.R_slice HO_7.out;subst eo12) | ((with_reducible refine gC_ (f:=96) rfl ?_);refine GL_ (some 22) rfl rfl Tryz.func96 #[.slice Ao12 x7_1.length co12,.int .i64 t107] rfl (h:=?_);(with_reducible refine (z96.calls k1 _ _ x7_1 t107 t110 _ ?side1 ?side2 A10.out).mono ?_);(case side1=>exact KC_ (Kd.R_reads' HO_7.out).2.2);(case side2=>exact (Kd.R_reads' HO_7.out).2.1);rintro e w13 ⟨v111,rfl,ho0,hb⟩;refine ⟨_,rfl,?_⟩;have HO112:=Zz.mk (Kd.R_lower (Kd.R_new' ho0 (Kd.R_lt (KR_ HO_7.out))) (qAz (w:=w) (g:=g) (row:=none) (rW5_ HK.out)));replace HO_7:=Zz.mk (Kd.R_elder' (KR_ HO_7.out) (Kd.R_base ho0) hb);replace HK:=Zz.mk (qAf.trans (rW5_ HK.out) (qAf.of_below hb g none) (.inl rfl));replace HB:=Zz.mk (bT_ (rW4_ HB.out HI0.out) hb);replace HI0:=Zz.mk (qAa.below (rW2_ HI0.out) hb);(try clear hb)))
    go_roundg k1
    case measure=>exact Q1_ HK1
    case rel=>exact ⟨(t110),(wrap64 (x8_1 - 1)),(t108),(t109),E_,H',⟨Q1_ HK1⟩,⟨by refine RW_ ?_;exact Kd.R_mono HO112.out (fun _ hk=>trivial)⟩,⟨rW2_ HI0.out⟩,⟨rW5_ HK.out⟩,⟨rW4_ HB.out HI0.out⟩⟩
   rw [if_neg c8] at H
   have c8b0:decide (0<x8_1)=false:=decide_eq_false c8
   clear c8
   simp only [Option.some.injEq,Prod.mk.injEq] at H
   obtain ⟨rfl,rfl,rfl⟩:=H
   go_wp2
   go_ret
   exact ⟨_,F_,KR_ HO_7.out,rW2_ HI0.out,rW4_ HB.out HI0.out,rW5_ HK.out⟩
def z10.l0:Nat→Int→Int→List Int→Int→List Int→Int→Int→Option (List Int)
 | 0,_,_,_,_,_,_,_=>none
 | k+1,x1,x2,x8,x9,x105000,x105001,x105002=>if x9<x1 then ((z33.f x105000 x105001 x105002 x2).bind fun bt108=>(if x8.length<17592186044416 then (z10.l0 k x1 x2 (x8 ++ [bt108.1]) (wrap64 (x9+1)) x105000 bt108.2.1 bt108.2.2) else (none))) else (some x8)
def z10.f (k:Nat) (l0:List Int) (a1:Int) (a2:Int):Option (List Int):=(z27.f l0).bind fun bt101=>(z10.l0 k a1 a2 (([]:List Int)) 0 bt101.1 bt101.2.1 bt101.2.2)
theorem z10.calls (k:Nat) (A0:Option Addr) (c0:Nat) (l0:List Int) (a1:Int) (a2:Int) (r:List Int) (w:World) (hr0:Kd.C (Kd.int .u8) w A0 l0.length l0) (hc0:l0.length≤c0) (h:z10.f k l0 a1 a2=some r) :
  Calls Tryz.prog 10 #[.slice A0 l0.length c0,.int .i64 a1,.int .i64 a2] w fun e w'=>∃ v0_:Value,e=.returned (v0_)∧Kd.R (Kd.int .i64) 2 w' w.heap.size (fun _=>True) v0_ r∧Below w.heap.size w w':=by
 have HR0:=Zz.mk hr0
 have HC0:=Zz.mk hc0
 clear hr0 hc0
 have HB:=Zz.mk (Below.refl w.heap.size w)
 have H:((z27.f l0).bind fun bt101=>(z10.l0 k a1 a2 (([]:List Int)) 0 bt101.1 bt101.2.1 bt101.2.2))=some r:=h
 clear h
 replace H:=OB_ H
 obtain ⟨⟨t101,t102,t103⟩,A40,H⟩:=H
 try dsimp only at H
 have A4:=Zz.mk A40
 clear A40
 obtain ⟨y105,hy105⟩:∃ y_:List Int,y_=(([]:List Int)):=⟨_,rfl⟩
 replace H:(z10.l0 k a1 a2 y105 0 t101 t102 t103)=some r:=Y_ hy105 H
 have Ny105:=Zz.mk hy105
 clear hy105
 have H':=Zz.mk H
 clear H
 go_enter Tryz.func10,Tryz.ntmps10
 go_wp2_with (first | ((with_reducible refine gC_ (f:=27) rfl ?_);refine GL_ (some 11) rfl rfl Tryz.func27 #[.slice A0 l0.length c0] rfl (h:=?_);(with_reducible refine (z27.calls _ _ l0 t101 t102 t103 w _ ?side1 ?side2 ?side3 A4.out).mono ?_);(case side1=>repeat (first | (with_reducible first | exact HB.out | apply qAg | apply qAb | apply qAe) | exact HB.out));(case side2=>exact HR0.out);(case side3=>exact HC0.out);rintro e w5 ⟨g104,rfl,hi,hb,hb2⟩;refine ⟨_,rfl,?_⟩;replace HB:=Zz.mk (hb);have HI104:=Zz.mk (hi);(try clear hb);(try clear hb2);(try clear hi)) | ((with_reducible refine qAm (N:=12) rfl ?_);refine Kd.R_lit (Kd.int .i64) _ 2 ?hg (N:=12) ?hd (xs:=([]:List Int)) (inner:=[]) (ok:=fun _=>True) (okp:=fun _=>True) ?hr ?hp (fun _ hk=>hk) trivial (Below.refl _ _) (Nat.le_refl _) (by simp) ?_;(case hd=>rfl);(case hg=>rfl);(case hr=>first | (go_simp;done) | (go_simp;rfl));(case hp=>exact (Reps.none _ _));intro v106 w6 ho7 hb hg_ hnew_;clear hg_ hnew_;(first | rw [← Ny105.out] at ho7 | (simp only [Int.reduceToNat] at ho7;rw [← Ny105.out] at ho7));have HO107:=Zz.mk (Kd.R_lower ho7 (bS_ (rW4_ HB.out HI104.out)));replace HB:=Zz.mk (bT_ (rW4_ HB.out HI104.out) hb);replace HI104:=Zz.mk (qAa.below (rW2_ HI104.out) hb);clear hb ho7))
 go_loopg [8,9] k (fun kq v8 v9 w'=>∃ (x8_1:List Int) (x9_1:Int) (x105001_1:Int) (x105002_1:Int),v9=.int .i64 x9_1∧Zz (z10.l0 kq a1 a2 x8_1 x9_1 t101 x105001_1 x105002_1=some r)∧Zz (kq≤k)∧Zz (Kd.R (Kd.int .i64) 2 w' w.heap.size (fun _=>True) v8 x8_1)∧Zz (qAa w w' g104 t101 x105001_1 x105002_1)∧Zz (Below w.heap.size w w'))
 case atStart=>exact ⟨(y105),(0),(t102),(t103),E_,H',⟨Nat.le_refl _⟩,⟨KR_ HO107.out⟩,⟨rW2_ HI104.out⟩,⟨rW4_ HB.out HI104.out⟩⟩
 case round =>
  clear H'
  obtain ⟨x8_1,x9_1,x105001_1,x105002_1,rfl,HA,HK1,HO_8,HI104,HB⟩:=hrel
  cases gk with
  | zero=>exact absurd HA.out (by simp [z10.l0])
  | succ k1 =>
   have H:=HA.out
   clear HA
   simp only [z10.l0] at H
   by_cases c8:x9_1<a1
   ·rw [if_pos c8] at H
    have c8b0:decide (x9_1<a1)=true:=decide_eq_true c8
    clear c8
    replace H:=OB_ H
    obtain ⟨⟨t108,t109,t110⟩,A90,H⟩:=H
    try dsimp only at H
    have A9:=Zz.mk A90
    clear A90
    have c10:=O1_ H
    replace H:=O2_ H
    have LMc10:=Zz.mk c10
    clear c10
    obtain ⟨y111,hy111⟩:∃ y_:List Int,y_=(x8_1 ++ [t108]):=⟨_,rfl⟩
    replace H:(z10.l0 k1 a1 a2 y111 (wrap64 (x9_1+1)) t101 t109 t110)=some r:=Y_ hy111 H
    have Ny111:=Zz.mk hy111
    clear hy111
    have H':=Zz.mk H
    clear H
    go_wp2_with (first | ((with_reducible refine gC_ (f:=33) rfl ?_);refine GL_ (some 21) rfl rfl Tryz.func33 #[.pointer (some ⟨g104,0,none⟩),.int .i64 a2] rfl (h:=?_);(with_reducible refine (z33.calls g104 t101 x105001_1 x105002_1 a2 t108 t109 t110 w _ ?side1 ?side2 A9.out).mono ?_);(case side1=>exact rW2_ HI104.out);(case side2=>exact rW4_ HB.out HI104.out);rintro e w11 ⟨rfl,hi,hb,hk⟩;refine ⟨_,rfl,?_⟩;replace HO_8:=Zz.mk (Kd.R_mono (Kd.R_keep (qAa.apart (show qAa w _ g104 t101 x105001_1 x105002_1 from by exact rW2_ HI104.out) (KR_ HO_8.out) (by decide)) hk (fun _ h=>h.2)) (fun _ h=>h.1));replace HB:=Zz.mk (hb);replace HI104:=Zz.mk (hi);(try clear hb);(try clear hk);(try clear hi)) | ((with_reducible refine qA0 (b:=.append) (xs:=#[.tmp 18,.tmp 22]) rfl ?_);at_builtin;refine Kd.R_append (Kd.int .i64) (w0:=w) w.heap.size rfl (.tmp 18) (.tmp 22) 30 2 (.int .i64 0) 8 rfl Tryz.underlying30 qB4 rfl (by decide) (by omega) u8 x8_1 t108 [.int .i64 t108] (fun _=>True) (fun _=>False) rfl rfl ?aP (fun _ hk=>hk.elim) ?aF ?aO ?aB ?aS ?aL ?_;(case aP=>exact rfl);(case aB=>exact (rW4_ HB.out HI104.out));(case aF=>exact (fun _ _=>trivial));(case aO=>exact (KR_ HO_8.out));(case aS=>exact (bS_ (rW4_ HB.out HI104.out)));(case aL=>have:=LMc10.out;omega);intro v112 w12 ho hb hg hat;rw [← Ny111.out] at ho;replace HI104:=Zz.mk (qAa.grown (rW2_ HI104.out) hg (qAa.own_ne HI104.out HO_8.out (by decide)));replace HB:=Zz.mk (hb);have HO113:=Zz.mk (ho);clear HO_8;clear ho hb hg hat))
    go_roundg k1
    case measure=>exact Q1_ HK1
    case rel=>exact ⟨(y111),(wrap64 (x9_1+1)),(t109),(t110),E_,H',⟨Q1_ HK1⟩,⟨KR_ HO113.out⟩,⟨rW2_ HI104.out⟩,⟨rW4_ HB.out HI104.out⟩⟩
   rw [if_neg c8] at H
   have c8b0:decide (x9_1<a1)=false:=decide_eq_false c8
   clear c8
   obtain rfl:=OI_ H
   go_wp2
   go_ret
   exact ⟨_,F_,KR_ HO_8.out,rW4_ HB.out HI104.out⟩
def z59.f (s0_0:List Int) (s0_1:Int) (s0_2:Int) (l1:List Int):Option (Int × Int × Int):=(z33.f s0_0 s0_1 s0_2 (l1.length:Int)).bind fun bt101=>(if 0≤bt101.1 then (if bt101.1<(l1.length:Int) then (some (rd l1 bt101.1,bt101.2.1,bt101.2.2)) else (none)) else (none))
theorem z59.calls (g:Nat) (s0_0:List Int) (s0_1:Int) (s0_2:Int) (A1:Option Addr) (c1:Nat) (l1:List Int) (r1:Int) (r2:Int) (r3:Int) (w0 w:World) (hI:qAa w0 w g s0_0 s0_1 s0_2) (hB:Below w0.heap.size w0 w) (hr1:Kd.C (Kd.int .i64) w A1 l1.length l1) (hc1:l1.length≤c1) (hf1:∀ ad,A1=some ad→0<l1.length→ad.block≠g) (h:z59.f s0_0 s0_1 s0_2 l1=some (r1,r2,r3)) :
  Calls Tryz.prog 59 #[.pointer (some ⟨g,0,none⟩),.slice A1 l1.length c1] w fun e w'=>e=.returned (.int .i64 r1)∧qAa w0 w' g s0_0 r2 r3∧Below w0.heap.size w0 w'∧qAf w w' g none:=by
 have HR1:=Zz.mk hr1
 have HC1:=Zz.mk hc1
 clear hr1 hc1
 have HI0:=Zz.mk hI
 have HK:=Zz.mk (qAf.refl w g none)
 have HL:=Zz.mk hB.size
 clear hI
 have HW0:=Zz.mk hB.size
 have HB:=Zz.mk hB
 clear hB
 have H:((z33.f s0_0 s0_1 s0_2 (l1.length:Int)).bind fun bt101=>(if 0≤bt101.1 then (if bt101.1<(l1.length:Int) then (some (rd l1 bt101.1,bt101.2.1,bt101.2.2)) else (none)) else (none)))=some (r1,r2,r3):=h
 clear h
 replace H:=OB_ H
 obtain ⟨⟨t101,t102,t103⟩,A30,H⟩:=H
 replace H:(if 0≤t101 then (if t101<(l1.length:Int) then (some (rd l1 t101,t102,t103)) else (none)) else (none))=some (r1,r2,r3):=H
 have A3:=Zz.mk A30
 clear A30
 have c4b0:=O3_ H
 replace H:=O2_ H
 have c5b0:=O3_ H
 replace H:=O2_ H
 simp only [Option.some.injEq,Prod.mk.injEq] at H
 obtain ⟨rfl,rfl,rfl⟩:=H
 go_enter Tryz.func59,Tryz.ntmps59
 go_wp2_with (first | ((with_reducible refine gC_ (f:=33) rfl ?_);refine GL_ (some 9) rfl rfl Tryz.func33 #[.pointer (some ⟨g,0,none⟩),.int .i64 (l1.length:Int)] rfl (h:=?_);(with_reducible refine (z33.calls g s0_0 s0_1 s0_2 (l1.length:Int) t101 t102 t103 w0 _ ?side1 ?side2 A3.out).mono ?_);(case side1=>exact rW2_ HI0.out);(case side2=>exact rW4_ HB.out HI0.out);rintro e w6 ⟨rfl,hi,hb,hk⟩;refine ⟨_,rfl,?_⟩;replace HK:=Zz.mk (qAf.trans (rW5_ HK.out) hk (.inl rfl));replace HB:=Zz.mk (hb);replace HI0:=Zz.mk (hi);(try clear hb);(try clear hk);(try clear hi);have p104:0≤(t101:Int):=D_;have q104:t101<(l1.length:Int):=D_;obtain ⟨ad104,e104,hx104_0⟩:=Kd.at_int HR1.out t101 p104 q104;cases e104;replace hx104_0:=qMm HK.out hx104_0 (by first | (rw [qCy];exact hf1 _ rfl (by omega)) | exact hf1 _ rfl (by omega) | exact hf1 ad104 rfl (by omega));replace p104:=eq_true p104;replace q104:=eq_true q104))
 go_ret
 exact ⟨F_,rW2_ HI0.out,rW4_ HB.out HI0.out,rW5_ HK.out⟩
def z29.f (s0_0:List Int) (s0_1:Int) (s0_2:Int):Option (Int × Int × Int):=(z59.f s0_0 s0_1 s0_2 (([2,2,3,5,7,31,251]:List Int))).bind fun bt104=>(some (bt104.1,bt104.2.1,bt104.2.2))
theorem z29.calls (g:Nat) (s0_0:List Int) (s0_1:Int) (s0_2:Int) (r1:Int) (r2:Int) (r3:Int) (w0 w:World) (hI:qAa w0 w g s0_0 s0_1 s0_2) (hB:Below w0.heap.size w0 w) (h:z29.f s0_0 s0_1 s0_2=some (r1,r2,r3)) :
  Calls Tryz.prog 29 #[.pointer (some ⟨g,0,none⟩)] w fun e w'=>e=.returned (.int .i64 r1)∧qAa w0 w' g s0_0 r2 r3∧Below w0.heap.size w0 w'∧qAf w w' g none:=by
 have HI0:=Zz.mk hI
 have HK:=Zz.mk (qAf.refl w g none)
 have HL:=Zz.mk hB.size
 clear hI
 have HW0:=Zz.mk hB.size
 have HB:=Zz.mk hB
 clear hB
 have H:((z59.f s0_0 s0_1 s0_2 (([2,2,3,5,7,31,251]:List Int))).bind fun bt104=>(some (bt104.1,bt104.2.1,bt104.2.2)))=some (r1,r2,r3):=h
 clear h
 obtain ⟨y101,hy101⟩:∃ y_:List Int,y_=(([2,2,3,5,7,31,251]:List Int)):=⟨_,rfl⟩
 replace H:((z59.f s0_0 s0_1 s0_2 y101).bind fun bt104=>(some (bt104.1,bt104.2.1,bt104.2.2)))=some (r1,r2,r3):=Y_ hy101 H
 have Ny101:=Zz.mk hy101
 clear hy101
 replace H:=OB_ H
 obtain ⟨⟨t104,t105,t106⟩,A20,H⟩:=H
 replace H:(some (t104,t105,t106))=some (r1,r2,r3):=H
 have A2:=Zz.mk A20
 clear A20
 simp only [Option.some.injEq,Prod.mk.injEq] at H
 obtain ⟨rfl,rfl,rfl⟩:=H
 go_enter Tryz.func29,Tryz.ntmps29
 go_wp2_with (first | ((with_reducible refine qAm (N:=4) rfl ?_);refine Kd.R_lit (Kd.int .i64) _ 2 ?hg (N:=4) ?hd (xs:=([2,2,3,5,7,31,251]:List Int)) (inner:=[.int .i64 2,.int .i64 2,.int .i64 3,.int .i64 5,.int .i64 7,.int .i64 31,.int .i64 251]) (ok:=fun _=>True) (okp:=fun _=>True) ?hr ?hp (fun _ hk=>hk) trivial (Below.refl _ _) (Nat.le_refl _) (by simp) ?_;(case hd=>rfl);(case hg=>rfl);(case hr=>first | (go_simp;done) | (go_simp;rfl));(case hp=>exact (Reps.one (show Kd.M (Kd.int .i64) _ _ _ 2 [.int .i64 2] from rfl) (Reps.one (show Kd.M (Kd.int .i64) _ _ _ 2 [.int .i64 2] from rfl) (Reps.one (show Kd.M (Kd.int .i64) _ _ _ 3 [.int .i64 3] from rfl) (Reps.one (show Kd.M (Kd.int .i64) _ _ _ 5 [.int .i64 5] from rfl) (Reps.one (show Kd.M (Kd.int .i64) _ _ _ 7 [.int .i64 7] from rfl) (Reps.one (show Kd.M (Kd.int .i64) _ _ _ 31 [.int .i64 31] from rfl) (Reps.one (show Kd.M (Kd.int .i64) _ _ _ 251 [.int .i64 251] from rfl) (Reps.none _ _)))))))));intro v102 w3 ho4 hb hg_ hnew_;clear hg_ hnew_;(first | rw [← Ny101.out] at ho4 | (simp only [Int.reduceToNat] at ho4;rw [← Ny101.out] at ho4));have HO103:=Zz.mk (Kd.R_lower ho4 (qAz (w:=w) (g:=g) (row:=none) (rW5_ HK.out)));replace HK:=Zz.mk (qAf.trans (rW5_ HK.out) (qAf.of_below hb g none) (.inl rfl));replace HB:=Zz.mk (bT_ (rW4_ HB.out HI0.out) hb);replace HI0:=Zz.mk (qAa.below (rW2_ HI0.out) hb);clear hb ho4;obtain ⟨Ao5,co5,eo5⟩:=Kd.R_slice HO103.out;subst eo5) | ((with_reducible refine gC_ (f:=59) rfl ?_);refine GL_ (some 5) rfl rfl Tryz.func59 #[.pointer (some ⟨g,0,none⟩),.slice Ao5 y101.length co5] rfl (h:=?_);(with_reducible refine (z59.calls g s0_0 s0_1 s0_2 _ _ y101 t104 t105 t106 w0 _ ?side1 ?side2 ?side3 ?side4 ?side5 A2.out).mono ?_);(case side1=>exact rW2_ HI0.out);(case side2=>exact rW4_ HB.out HI0.out);(case side3=>exact KC_ (Kd.R_reads' HO103.out).2.2);(case side4=>exact (Kd.R_reads' HO103.out).2.1);(case side5=>exact qMw (qAa.own_ne HI0.out HO103.out (by decide)));rintro e w6 ⟨rfl,hi,hb,hk⟩;refine ⟨_,rfl,?_⟩;replace HO103:=Zz.mk (Kd.R_mono (Kd.R_keep (qAa.apart (show qAa w0 _ g s0_0 s0_1 s0_2 from by exact rW2_ HI0.out) (KR_ HO103.out) (by decide)) hk (fun _ h=>h.2)) (fun _ h=>h.1));replace HK:=Zz.mk (qAf.trans (rW5_ HK.out) hk (.inl rfl));replace HB:=Zz.mk (hb);replace HI0:=Zz.mk (hi);(try clear hb);(try clear hk);(try clear hi)))
 go_ret
 exact ⟨F_,rW2_ HI0.out,rW4_ HB.out HI0.out,rW5_ HK.out⟩
def z7.f (l0:List Int):Option (Int):=(z27.f l0).bind fun bt101=>((z29.f bt101.1 bt101.2.1 bt101.2.2).bind fun bt105=>(some bt105.1))
theorem z7.calls (A0:Option Addr) (c0:Nat) (l0:List Int) (r:Int) (w:World) (hr0:Kd.C (Kd.int .u8) w A0 l0.length l0) (hc0:l0.length≤c0) (h:z7.f l0=some r) :
  Calls Tryz.prog 7 #[.slice A0 l0.length c0] w fun e w'=>e=.returned (.int .i64 r)∧Below w.heap.size w w':=by
 have HR0:=Zz.mk hr0
 have HC0:=Zz.mk hc0
 clear hr0 hc0
 have HB:=Zz.mk (Below.refl w.heap.size w)
 have H:((z27.f l0).bind fun bt101=>((z29.f bt101.1 bt101.2.1 bt101.2.2).bind fun bt105=>(some bt105.1)))=some r:=h
 clear h
 replace H:=OB_ H
 obtain ⟨⟨t101,t102,t103⟩,A20,H⟩:=H
 try dsimp only at H
 have A2:=Zz.mk A20
 clear A20
 replace H:=OB_ H
 obtain ⟨⟨t105,t106,t107⟩,A30,H⟩:=H
 try dsimp only at H
 have A3:=Zz.mk A30
 clear A30
 obtain rfl:=OI_ H
 go_enter Tryz.func7,Tryz.ntmps7
 go_wp2_with (first | ((with_reducible refine gC_ (f:=27) rfl ?_);refine GL_ (some 5) rfl rfl Tryz.func27 #[.slice A0 l0.length c0] rfl (h:=?_);(with_reducible refine (z27.calls _ _ l0 t101 t102 t103 w _ ?side1 ?side2 ?side3 A2.out).mono ?_);(case side1=>repeat (first | (with_reducible first | exact HB.out | apply qAg | apply qAb | apply qAe) | exact HB.out));(case side2=>exact HR0.out);(case side3=>exact HC0.out);rintro e w4 ⟨g104,rfl,hi,hb,hb2⟩;refine ⟨_,rfl,?_⟩;replace HB:=Zz.mk (hb);have HI104:=Zz.mk (hi);(try clear hb);(try clear hb2);(try clear hi)) | ((with_reducible refine gC_ (f:=29) rfl ?_);refine GL_ (some 7) rfl rfl Tryz.func29 #[.pointer (some ⟨g104,0,none⟩)] rfl (h:=?_);(with_reducible refine (z29.calls g104 t101 t102 t103 t105 t106 t107 w _ ?side1 ?side2 A3.out).mono ?_);(case side1=>exact rW2_ HI104.out);(case side2=>exact rW4_ HB.out HI104.out);rintro e w5 ⟨rfl,hi,hb,hk⟩;refine ⟨_,rfl,?_⟩;replace HB:=Zz.mk (hb);replace HI104:=Zz.mk (hi);(try clear hb);(try clear hk);(try clear hi)))
 go_ret
 exact ⟨F_,rW4_ HB.out HI104.out⟩
def z31.f (a0:Int):Option (Bool):=(z62.f a0 0 3).bind fun t101=>(some t101)
theorem z31.calls (a0:Int) (r:Bool) (w:World) (h:z31.f a0=some r) :
  Calls Tryz.prog 31 #[.int .i64 a0] w fun e w'=>e=.returned (.bool r)∧Dz w w':=by
 have H:((z62.f a0 0 3).bind fun t101=>(some t101))=some r:=h
 clear h
 replace H:=OZ_ H
 obtain ⟨t101,A2,H⟩:=H
 obtain rfl:=OI_ H
 go_enter Tryz.func31,Tryz.ntmps31
 go_wp2_with (first | ((with_reducible refine gC_ (f:=62) rfl ?_);refine GL_ (some 4) rfl rfl Tryz.func62 #[.int .i64 a0,.int .i64 0,.int .i64 3] rfl (h:=?_);(with_reducible refine (z62.calls a0 0 3 t101 _ A2.out).mono ?_);rintro e w' ⟨rfl,⟨nd,rfl⟩⟩;refine ⟨_,rfl,?_⟩))
 go_ret
 exact eD_
def z32.l0:Nat→Int→List Int→Int→List (List Int)→Option (List Int)
 | 0,_,_,_,_=>none
 | k+1,x1,x5,x6,x51000=>if x6<(x51000.length:Int) then (if 0≤x6 then (if ((rI_ x51000 x6).length:Int)=(wrap64 (x1+1)) then (if x5.length<17592186044416 then (z32.l0 k x1 (x5 ++ [x6]) (wrap64 (x6+1)) x51000) else (none)) else (z32.l0 k x1 x5 (wrap64 (x6+1)) x51000)) else (none)) else (some x5)
def z32.f (k:Nat) (l0_0:List (List Int)) (a1:Int):Option (List Int):=z32.l0 k a1 (([]:List Int)) 0 l0_0
theorem z32.calls (k:Nat) (gp0:Nat) (A0_0:Option Addr) (c0_0:Nat) (l0_0:List (List Int)) (a1:Int) (r:List Int) (w:World) (hbp0:w.heap[gp0]?=some (.cells #[.slice A0_0 l0_0.length c0_0] 26 (0,0))) (hr0_0:Kd.C (Kd.slice 2 (Kd.int .i64)) w A0_0 l0_0.length l0_0) (hc0_0:l0_0.length≤c0_0) (h:z32.f k l0_0 a1=some r) :
  Calls Tryz.prog 32 #[.pointer (some ⟨gp0,0,none⟩),.int .i64 a1] w fun e w'=>∃ v0_:Value,e=.returned (v0_)∧Kd.R (Kd.int .i64) 2 w' w.heap.size (fun _=>True) v0_ r∧Below w.heap.size w w':=by
 have HR0_0:=Zz.mk hr0_0
 have HC0_0:=Zz.mk hc0_0
 clear hr0_0 hc0_0
 have BK50:=Zz.mk hbp0
 clear hbp0
 have HB:=Zz.mk (Below.refl w.heap.size w)
 have H:(z32.l0 k a1 (([]:List Int)) 0 l0_0)=some r:=h
 clear h
 obtain ⟨y101,hy101⟩:∃ y_:List Int,y_=(([]:List Int)):=⟨_,rfl⟩
 replace H:(z32.l0 k a1 y101 0 l0_0)=some r:=Y_ hy101 H
 have Ny101:=Zz.mk hy101
 clear hy101
 have H':=Zz.mk H
 clear H
 go_enter Tryz.func32,Tryz.ntmps32
 go_wp2_with (first | ((with_reducible refine qAm (N:=7) rfl ?_);refine Kd.R_lit (Kd.int .i64) _ 2 ?hg (N:=7) ?hd (xs:=([]:List Int)) (inner:=[]) (ok:=fun _=>True) (okp:=fun _=>True) ?hr ?hp (fun _ hk=>hk) trivial (Below.refl _ _) (Nat.le_refl _) (by simp) ?_;(case hd=>rfl);(case hg=>rfl);(case hr=>first | (go_simp;done) | (go_simp;rfl));(case hp=>exact (Reps.none _ _));intro v102 w3 ho4 hb hg_ hnew_;clear hg_ hnew_;(first | rw [← Ny101.out] at ho4 | (simp only [Int.reduceToNat] at ho4;rw [← Ny101.out] at ho4));have HO103:=Zz.mk (Kd.R_lower ho4 (bS_ (B_ HB.out)));replace BK50:=Zz.mk (kb_ BK50.out hb);replace HB:=Zz.mk (bT_ (B_ HB.out) hb);clear hb ho4))
 go_loopg [5,6] k (fun kq v5 v6 w'=>∃ (x5_1:List Int) (x6_1:Int),v6=.int .i64 x6_1∧Zz (z32.l0 kq a1 x5_1 x6_1 l0_0=some r)∧Zz (kq≤k)∧Zz (Kd.R (Kd.int .i64) 2 w' w.heap.size (fun _=>True) v5 x5_1)∧Zz (w'.heap[gp0]?=some (.cells #[(.slice A0_0 l0_0.length c0_0)] 26 (0,0)))∧Zz (Below w.heap.size w w'))
 case atStart=>exact ⟨(y101),(0),E_,H',⟨Nat.le_refl _⟩,⟨KR_ HO103.out⟩,⟨KB_ BK50.out⟩,⟨B_ HB.out⟩⟩
 case round =>
  clear H'
  obtain ⟨x5_1,x6_1,rfl,HA,HK1,HO_5,BK50,HB⟩:=hrel
  cases gk with
  | zero=>exact absurd HA.out (by simp [z32.l0])
  | succ k1 =>
   have H:=HA.out
   clear HA
   simp only [z32.l0] at H
   by_cases c5:x6_1<(l0_0.length:Int)
   ·rw [if_pos c5] at H
    have c5b0:decide (x6_1<(l0_0.length:Int))=true:=decide_eq_true c5
    clear c5
    have c6b0:=O3_ H
    replace H:=O2_ H
    by_cases c7:((rI_ l0_0 x6_1).length:Int)=(wrap64 (a1+1))
    ·rw [if_pos c7] at H
     have c7b0:(((rI_ l0_0 x6_1).length:Int) == (wrap64 (a1+1)))=true:=beq_iff_eq.mpr c7
     have c7b1:(((rI_ l0_0 x6_1).length:Int) != (wrap64 (a1+1)))=false:=bne_eq_false_iff_eq.mpr c7
     clear c7
     have c8:=O1_ H
     replace H:=O2_ H
     have LMc8:=Zz.mk c8
     clear c8
     obtain ⟨y105,hy105⟩:∃ y_:List Int,y_=(x5_1 ++ [x6_1]):=⟨_,rfl⟩
     replace H:(z32.l0 k1 a1 y105 (wrap64 (x6_1+1)) l0_0)=some r:=Y_ hy105 H
     have Ny105:=Zz.mk hy105
     clear hy105
     have H':=Zz.mk H
     clear H
     obtain ⟨hcz9_0,hfz9_0⟩:=Z1f_ BK50.out
     have p104:0≤(x6_1:Int):=D_
     have q104:x6_1<(l0_0.length:Int):=D_
     obtain ⟨ad104,A104_0,c104_0,e104,hx104_0,hl104_0,hi104_0⟩:=qA2 HR0_0.out x6_1 p104 q104
     cases e104
     replace hx104_0:=(HB.out.cell (World.block_lt_of_cell? w _ hx104_0)).trans hx104_0
     have HR104_0:=Zz.mk hi104_0
     have HC104_0:=Zz.mk hl104_0
     clear hi104_0 hl104_0
     replace p104:=eq_true p104
     replace q104:=eq_true q104
     go_wp2_with (first | ((with_reducible refine qA0 (b:=.append) (xs:=#[.tmp 28,.tmp 30]) rfl ?_);at_builtin;refine Kd.R_append (Kd.int .i64) (w0:=w) w.heap.size rfl (.tmp 28) (.tmp 30) 30 2 (.int .i64 0) 8 rfl Tryz.underlying30 qB4 rfl (by decide) (by omega) u5 x5_1 x6_1 [.int .i64 x6_1] (fun _=>True) (fun _=>False) rfl rfl ?aP (fun _ hk=>hk.elim) ?aF ?aO ?aB ?aS ?aL ?_;(case aP=>exact rfl);(case aB=>exact (B_ HB.out));(case aF=>exact (fun _ _=>trivial));(case aO=>exact (KR_ HO_5.out));(case aS=>exact (bS_ (B_ HB.out)));(case aL=>have:=LMc8.out;omega);intro v106 w10 ho hb hg hat;rw [← Ny105.out] at ho;replace BK50:=Zz.mk (qA9 (g:=gp0) (o:=.cells #[.slice (some ad104) l0_0.length c0_0] 26 (0,0)) (KB_ BK50.out) hg (Kd.R_ne HO_5.out BK50.out (by decide)));replace HB:=Zz.mk (hb);have HO107:=Zz.mk (ho);clear HO_5;clear ho hb hg hat))
     go_roundg k1
     case measure=>exact Q1_ HK1
     case rel=>exact ⟨(y105),(wrap64 (x6_1+1)),E_,H',⟨Q1_ HK1⟩,⟨KR_ HO107.out⟩,⟨KB_ BK50.out⟩,⟨B_ HB.out⟩⟩
    rw [if_neg c7] at H
    have c7b0:(((rI_ l0_0 x6_1).length:Int) == (wrap64 (a1+1)))=false:=beq_eq_false_iff_ne.mpr c7
    have c7b1:(((rI_ l0_0 x6_1).length:Int) != (wrap64 (a1+1)))=true:=bne_iff_ne.mpr c7
    have H':=Zz.mk H
    clear H
    obtain ⟨hcz11_0,hfz11_0⟩:=Z1f_ BK50.out
    have p104:0≤(x6_1:Int):=D_
    have q104:x6_1<(l0_0.length:Int):=D_
    obtain ⟨ad104,A104_0,c104_0,e104,hx104_0,hl104_0,hi104_0⟩:=qA2 HR0_0.out x6_1 p104 q104
    cases e104
    replace hx104_0:=(HB.out.cell (World.block_lt_of_cell? w _ hx104_0)).trans hx104_0
    have HR104_0:=Zz.mk hi104_0
    have HC104_0:=Zz.mk hl104_0
    clear hi104_0 hl104_0
    replace p104:=eq_true p104
    replace q104:=eq_true q104
    go_wp2
    go_roundg k1
    case measure=>exact Q1_ HK1
    case rel=>exact ⟨(x5_1),(wrap64 (x6_1+1)),E_,H',⟨Q1_ HK1⟩,⟨KR_ HO_5.out⟩,⟨KB_ BK50.out⟩,⟨B_ HB.out⟩⟩
   rw [if_neg c5] at H
   have c5b0:decide (x6_1<(l0_0.length:Int))=false:=decide_eq_false c5
   clear c5
   obtain rfl:=OI_ H
   obtain ⟨hcz12_0,hfz12_0⟩:=Z1f_ BK50.out
   go_wp2
   go_ret
   exact ⟨_,F_,KR_ HO_5.out,B_ HB.out⟩
end Go.Proofs.YtpgjfppbbbnclaaGreat.B
