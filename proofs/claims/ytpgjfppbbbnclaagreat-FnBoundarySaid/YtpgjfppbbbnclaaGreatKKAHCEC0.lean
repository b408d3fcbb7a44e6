/- Printed by a program of this work over the kit's printer. -/
import Derived.Test.YtpgjfppbbbnclaaGreatKEJCOLG0
import Derived.Test.YtpgjfppbbbnclaaGreatKIFGODB1
import Derived.Test.YtpgjfppbbbnclaaGreatKJMJOJB0
import Derived.Test.YtpgjfppbbbnclaaGreatKMBKBJN0
import Derived.Test.YtpgjfppbbbnclaaGreatKW0
set_option linter.unusedVariables false
set_option linter.unusedSimpArgs false
open Go.RowKit Go.Proofs.YtpgjfppbbbnclaaGreatW.PrintWords
/- Which complexes are valid, by the program and by the reference (for this claim, by hand). -/
namespace Go.Proofs.YtpgjfppbbbnclaaGreat.B
open SimT
def qBf (s:List Int):List (List Int):=if 1<s.length then (List.range s.length).map (drp s) else []
theorem qDp (s:List Int):(qBf s).length≤s.length:=by
  unfold qBf
  split <;> simp
theorem qJe {s x:List Int} (h:x∈qBf s):x.length≤s.length:=by
  unfold qBf at h
  split at h
  · obtain ⟨i,hi,rfl⟩:=List.mem_map.1 h
    exact (qMy s i).length_le
  cases h
theorem qCd {s x:List Int}:x∈qBf s↔1<s.length∧∃ k,k<s.length∧drp s k=x:=by
  unfold qBf
  split
  · rename_i h
    rw [List.mem_map]
    exact ⟨fun ⟨k,hk,e⟩=>⟨h,k,List.mem_range.1 hk,e⟩,fun ⟨_,k,hk,e⟩=>⟨k,List.mem_range.2 hk,e⟩⟩
  rename_i h
  exact ⟨fun hx=>(by cases hx),fun hx=>absurd hx.1 h⟩
theorem faces_get {s:List Int} (h:1<s.length) {i:Nat} (hi:i<s.length):(qBf s).getD i []=drp s i:=by
  unfold qBf
  rw [if_pos h]
  simp [List.getD_eq_getElem?_getD,hi]
theorem qMx {s x:List Int} (h:x∈qBf s):slt x s=true:=by
  obtain ⟨_,k,hk,rfl⟩:=qCd.1 h
  exact qO9 hk
theorem qHi (s:List Int) (hs:s.length≤1000000000000):Ev (fun k=>z83.f k s) (qBf s):=by
  unfold z83.f
  by_cases h1:1<s.length
  · have:=qHk (fun (a:List (List Int)) (i:Nat) k=>z83.l0 k s a (s.length:Int) (i:Int)) (drp s) s.length (fun j a hj ha r hr=>by
      refine Ev.step (fun k=>z83.l0.eq_2 ..) ?_
      have hal:a.length=j:=by rw [ha];simp
      rw [qAw (by omega),Int.toNat_natCast,Int.toNat_natCast]
      refine qAc (by omega) (qAc (by omega) (qAc (by omega) (qAc (by omega) (qAc (by omega) (qAc (by omega) (Ev.bind (qM1 _ (by simp) ?_) (qAc (by omega) ?_)))))))
      · have h2:(s.take j).length≤s.length:=(List.take_sublist j s).length_le
        have h3:(s.drop (j+1)).length≤s.length:=(List.drop_sublist (j+1) s).length_le
        simp only [total];omega
      have e:[s.take j,s.drop (j+1)].flatten=drp s j:=by simp [drp]
      rw [e];exact hr)
    have e:qBf s=(List.range s.length).map (drp s):=by unfold qBf;rw [if_pos h1]
    rw [e]
    refine this _ ?_
    refine Ev.step (fun k=>z83.l0.eq_2 ..) ?_
    exact qAr (by omega) (Ev.now _)
  have e:qBf s=[]:=by unfold qBf;rw [if_neg h1]
  rw [e]
  refine qEf (fun (i:Nat) k=>z83.l0 k s ([]:List (List Int)) (s.length:Int) (i:Int)) (fun _=>false) s.length 0 (fun j _ hj _ r hr=>?_) (fun _ _ _ h=>by cases h) (fun _=>?_)
  · refine Ev.step (fun k=>z83.l0.eq_2 ..) ?_
    rw [qAw (by omega)]
    exact qAc (by omega) (qAr (by omega) hr)
  refine Ev.step (fun k=>z83.l0.eq_2 ..) ?_
  rw [Nat.zero_add]
  exact qAr (by omega) (Ev.now _)
theorem qKr (s:List Int) (i:Nat) (hi:i<s.length) (hs:s.length≤1000000000000):z61.f s (i:Int)=some (drp s i):=by
  unfold z61.f z97.f
  have h2:(s.take i).length≤s.length:=(List.take_sublist i s).length_le
  have h3:(s.drop (i+1)).length≤s.length:=(List.drop_sublist (i+1) s).length_le
  rw [qAw (by omega),Int.toNat_natCast,Int.toNat_natCast,if_pos (by omega),if_pos (by omega)]
  simp only [Option.bind_some,List.nil_append,List.length_nil,Nat.zero_add]
  rw [if_pos (by omega)]
  simp only [Option.bind_some]
  rw [if_pos (by omega),if_pos (by omega),if_pos (by omega)]
  rfl
def okAt (C:List (List Int)) (D:List (List Int)) (i:Nat):Bool:=(qBh (C.getD i []) && (i == 0 || slt (C.getD (i - 1) []) (C.getD i []))) && (qBf (C.getD i [])).all fun f=>decide (f∈D)
def okC (C:List (List Int)):Bool:=decide (C.length≤48) && (List.range C.length).all (okAt C C)
theorem qDz {C D:List (List Int)} {i:Nat}:okAt C D i=true↔qBh (C.getD i [])=true∧(i=0∨slt (C.getD (i - 1) []) (C.getD i [])=true)∧∀ f,f∈qBf (C.getD i [])→f∈D:=by
  unfold okAt
  rw [Bool.and_eq_true,Bool.and_eq_true,Bool.or_eq_true,List.all_eq_true,beq_iff_eq]
  simp only [decide_eq_true_eq]
  exact ⟨fun ⟨⟨a,b⟩,c⟩=>⟨a,b,c⟩,fun ⟨a,b,c⟩=>⟨⟨a,b⟩,c⟩⟩
theorem qFu {C D:Nat→List (List Int)} {L:List (List Int)} (n:Nat) (hn:n≤L.length) (h:∀ m,m<n→okAt L (D m) m=true):Srt (L.take n):=by
  refine qK8 (fun i hi=>?_)
  rw [List.length_take] at hi
  have hi':i+1<n:=by omega
  obtain ⟨_,h2,_⟩:=qDz.1 (h (i+1) hi')
  have e1:(L.take n).getD i []=L.getD i []:=by
    rw [List.getD_eq_getElem?_getD,List.getD_eq_getElem?_getD,List.getElem?_take,if_pos (by omega)]
  have e2:(L.take n).getD (i+1) []=L.getD (i+1) []:=by
    rw [List.getD_eq_getElem?_getD,List.getD_eq_getElem?_getD,List.getElem?_take,if_pos hi']
  rw [e1,e2]
  rcases h2 with h2 | h2
  · omega
  exact h2
theorem qCg {C:List (List Int)}:okC C=true↔C.length≤48∧Srt C∧(∀ s,s∈C→qBh s=true)∧qDt C:=by
  unfold okC
  rw [Bool.and_eq_true,decide_eq_true_iff,List.all_eq_true]
  constructor
  · rintro ⟨h1,h2⟩
    have h2':∀ m,m<C.length→okAt C C m=true:=fun m hm=>h2 m (List.mem_range.2 hm)
    have hs:=qFu (C:=fun _=>C) (D:=fun _=>C) C.length (Nat.le_refl _) h2'
    rw [List.take_length] at hs
    refine ⟨h1,hs,fun s hs=>?_,fun s hs hl k hk=>?_⟩
    · obtain ⟨i,hi,e⟩:=List.mem_iff_getElem.1 hs
      have:=(qDz.1 (h2' i hi)).1
      rw [List.getD_eq_getElem?_getD,List.getElem?_eq_getElem hi] at this
      simpa [e] using this
    obtain ⟨i,hi,e⟩:=List.mem_iff_getElem.1 hs
    have:=(qDz.1 (h2' i hi)).2.2
    rw [List.getD_eq_getElem?_getD,List.getElem?_eq_getElem hi] at this
    simp only [Option.getD_some,e] at this
    exact this _ (qCd.2 ⟨hl,k,hk,rfl⟩)
  rintro ⟨h1,h2,h3,h4⟩
  refine ⟨h1,fun i hi=>qDz.2 ⟨h3 _ (qA3 [] (List.mem_range.1 hi)),?_,fun f hf=>?_⟩⟩
  · rcases Nat.eq_zero_or_pos i with h | h
    · exact .inl h
    exact .inr (qEc h2 (by omega) (List.mem_range.1 hi))
  obtain ⟨hl,k,hk,rfl⟩:=qCd.1 hf
  exact h4 _ (qA3 [] (List.mem_range.1 hi)) hl k hk
theorem qCf {s:List Int} (h:qBh s=true):1≤s.length∧s.length≤4:=by
  unfold qBh at h
  rw [Bool.and_eq_true,Bool.and_eq_true,decide_eq_true_iff,decide_eq_true_iff] at h
  exact h.1
theorem qI6 {C:List (List Int)} (hs:Srt C) {i:Nat} (hi:i<C.length):okAt C (C.take i) i=okAt C C i:=by
  rw [Bool.eq_iff_iff,qDz,qDz]
  refine and_congr Iff.rfl (and_congr Iff.rfl ⟨fun h f hf=>List.mem_of_mem_take (h f hf),fun h f hf=>?_⟩)
  obtain ⟨j,hj,e⟩:=List.mem_iff_getElem.1 (h f hf)
  have hlt:=qMx hf
  have ej:C.getD j []=f:=by rw [List.getD_eq_getElem?_getD,List.getElem?_eq_getElem hj];exact e
  rcases Nat.lt_or_ge j i with hl | hg
  · rw [List.mem_iff_getElem]
    exact ⟨j,by rw [List.length_take];omega,by rw [List.getElem_take];exact e⟩
  rcases Nat.eq_or_lt_of_le hg with rfl | hl
  · rw [ej,qB5] at hlt;cases hlt
  have:=qEc hs hl hj
  rw [ej] at this
  rw [qIv this] at hlt;cases hlt
theorem qOz (C:List (List Int)):((List.range C.length).all (fun i=>okAt C (C.take i) i) && decide (C.length≤48))=okC C:=by
  unfold okC
  rw [Bool.and_comm]
  congr 1
  rw [Bool.eq_iff_iff,List.all_eq_true,List.all_eq_true]
  constructor
  · intro h
    have hs:=qFu (C:=fun _=>C) (D:=fun m=>C.take m) (L:=C) C.length (Nat.le_refl _) (fun m hm=>h m (List.mem_range.2 hm))
    rw [List.take_length] at hs
    intro i hi
    rw [← qI6 hs (List.mem_range.1 hi)];exact h i hi
  intro h
  have hs:=qFu (C:=fun _=>C) (D:=fun _=>C) (L:=C) C.length (Nat.le_refl _) (fun m hm=>h m (List.mem_range.2 hm))
  rw [List.take_length] at hs
  intro i hi
  rw [qI6 hs (List.mem_range.1 hi)];exact h i hi
theorem qHf (C:List (List Int)) (i:Nat) (hi:i≤C.length) (hl:C.length<4611686018427387904) (hr:∀ x∈C,x.length<9223372036854775807) (hs:Srt (C.take i)) (f:List Int) (hf:f.length<9223372036854775807) :
    Ev (fun k=>z84.f k f C (i:Int)) (!decide (f∈C.take i)):=by
  unfold z84.f
  rw [Int.toNat_natCast]
  have hlt:(C.take i).length≤C.length:=(List.take_sublist i C).length_le
  refine qAc (by omega) (qAc (by omega) (Ev.bind (qFf (C.take i) f (by omega) (fun x hx=>hr x (List.mem_of_mem_take hx)) hf hs) (qBp (Ev.now _) ?_)))
  rw [Bool.eq_iff_iff,decide_eq_true_iff,qFh];simp
theorem qIk (C:List (List Int)) (n0:Nat) (hi:n0≤C.length) (hl:C.length<4611686018427387904) (hrr:∀ x∈C,x.length<9223372036854775807) (hs:Srt (C.take n0)) (l:List (List Int)) (hll:l.length<9223372036854775807) (hf:∀ x∈l,x.length<9223372036854775807) :
    Ev (fun k=>z151.f k l C (n0:Int)) (l.any fun f=>!decide (f∈C.take n0)):=by
  obtain ⟨t,ht,hd⟩:=qCq (l) [] (fun i k=>z155.l0 k (l) ((l).length:Int) (i:Int) C (n0:Int)) (fun f=>!decide (f∈C.take n0)) (fun j hj hp r hr=>by
      refine Ev.step (fun k=>z155.l0.eq_2 ..) ?_
      refine qAc (by omega) (qAc (by omega) (qAc (by omega) ?_))
      rw [qA6,qAw (by omega)]
      exact Ev.bind (qHf C n0 hi hl hrr hs _ (hf _ (qA3 [] hj))) (qAr (by rw [hp];decide) hr)) (fun j hj hp=>by
      refine Ev.step (fun k=>z155.l0.eq_2 ..) ?_
      refine qAc (by omega) (qAc (by omega) (qAc (by omega) ?_))
      rw [qA6]
      exact Ev.bind (qHf C n0 hi hl hrr hs _ (hf _ (qA3 [] hj))) (qAc hp (Ev.now _))) (by
      refine Ev.step (fun k=>z155.l0.eq_2 ..) ?_
      exact qAr (by omega) (Ev.now _))
  unfold z151.f z155.f
  refine Ev.bind ht (qBp (Ev.now _) hd)
theorem qJb (C:List (List Int)) (hl:C.length≤1048576) (hr:∀ x∈C,x.length≤1048576):Ev (fun k=>z49.f k C) (okC C):=by
  rw [← qOz]
  unfold z49.f
  have hr':∀ x∈C,x.length<9223372036854775807:=fun x hx=>by have:=hr x hx;omega
  -- the rest of a round
  have hrest:∀ (j:Nat) (b:Bool),j<C.length→Srt (C.take j)→∀ v,(b=false→((qBf (C.getD j [])).all fun f=>decide (f∈C.take j))=true→Ev (fun k=>z49.l0 k C (C.length:Int) ((j+1:Nat):Int) C) v)→(b=true∨((qBf (C.getD j [])).all fun f=>decide (f∈C.take j))=false→v=false) →
      Ev (fun k=>z49.j1 k (C.getD j []) C (C.length:Int) (j:Int) b C (j:Int)) v:=by
    intro j b hj hs v h1 h2
    have hrow:=hr _ (qA3 ([]:List Int) hj)
    refine Ev.step (fun k=>z49.j1.eq_2 ..) ?_
    cases b with
    | true=>rw [h2 (.inl rfl)];exact qAc rfl (Ev.now _)
    | false =>
      refine qAr (by decide) (Ev.bind (qHi _ (by omega)) (Ev.bind (qIk C j (by omega) (by omega) hr' hs _ (by have:=qDp (C.getD j []);omega) (fun x hx=>by have:=qJe hx;omega)) ?_))
      cases ha:(qBf (C.getD j [])).all fun f=>decide (f∈C.take j) with
      | true =>
        refine qAr ?_ ?_
        · rw [List.any_eq_not_all_not];simp only [Bool.not_not,ha];decide
        rw [qAw (by omega)];exact h1 rfl ha
      | false =>
        rw [h2 (.inr ha)]
        refine qAc ?_ (Ev.now _)
        rw [List.any_eq_not_all_not];simp only [Bool.not_not,ha];rfl
  have hround:∀ (j:Nat),j<C.length→(∀ m,m<j→okAt C (C.take m) m=true)→∀ v,(okAt C (C.take j) j=true→Ev (fun k=>z49.l0 k C (C.length:Int) ((j+1:Nat):Int) C) v)→(okAt C (C.take j) j=false→v=false) →
      Ev (fun k=>z49.l0 k C (C.length:Int) (j:Int) C) v:=by
    intro j hj hall v h1 h2
    have hs:Srt (C.take j):=qFu (C:=fun _=>C) (D:=fun m=>C.take m) j (by omega) hall
    have hrow:=hr _ (qA3 ([]:List Int) hj)
    have key:=hrest j
    refine Ev.step (fun k=>z49.l0.eq_2 ..) ?_
    rw [qA6]
    refine qAc (by omega) (qAc (by omega) (qAc (by omega) (Ev.bind (qG2 _ (by omega)) ?_)))
    unfold okAt at h1 h2
    cases hi:qBh (C.getD j []) with
    | false =>
      rw [hi] at h1 h2
      refine qAr (by decide) (key true hj hs v (fun h=>by cases h) (fun _=>h2 rfl))
    | true =>
      rw [hi] at h1 h2
      refine qAc rfl ?_
      rcases Nat.eq_zero_or_pos j with h0 | h0
      · have e:(j == 0)=true:=by simpa using h0
        rw [e] at h1 h2
        simp only [Bool.true_or,Bool.true_and] at h1 h2
        exact qAr (by omega) (key false hj hs v (fun _ ha=>h1 ha) (fun h=>h2 (h.elim (fun h=>by cases h) id)))
      have e:(j == 0)=false:=by simpa using (show j≠0 by omega)
      rw [e] at h1 h2
      simp only [Bool.false_or,Bool.true_and] at h1 h2
      rw [show wrap64 ((j:Int) - 1)=((j - 1:Nat):Int) by rw [qAs (by omega) (by omega)];omega,qA6]
      have hrow2:=hr _ (qA3 ([]:List Int) (show j - 1<C.length by omega))
      refine qAc (by omega) (qAc (by omega) (qAc (by omega) (Ev.bind (qDd _ _ (by omega) (by omega)) ?_)))
      cases hc:slt (C.getD (j - 1) []) (C.getD j []) with
      | true =>
        have e2:decide (scmp (C.getD (j - 1) []) (C.getD j []) ≥ 0)=false:=decide_eq_false (by have:=(qFv _ _).2 hc;omega)
        rw [e2]
        rw [hc] at h1 h2
        simp only [Bool.true_and] at h1 h2
        exact key false hj hs v (fun _ ha=>h1 ha) (fun h=>h2 (h.elim (fun h=>by cases h) id))
      | false =>
        have e2:decide (scmp (C.getD (j - 1) []) (C.getD j []) ≥ 0)=true:=decide_eq_true (by
          have:¬ scmp (C.getD (j - 1) []) (C.getD j [])<0:=fun h=>by rw [(qFv _ _).1 h] at hc;cases hc
          omega)
        rw [e2]
        rw [hc] at h2
        exact key true hj hs v (fun h=>by cases h) (fun _=>h2 rfl)
  refine qEg (fun (i:Nat) k=>z49.l0 k C (C.length:Int) (i:Int) C) (fun i=>okAt C (C.take i) i) (decide (C.length≤48)) C.length (fun j hj hall hp r hr'=>?_) (fun j hj hall hp=>?_) (fun _=>?_)
  · exact hround j hj hall r (fun _=>hr') (fun h=>by rw [hp] at h;cases h)
  · exact hround j hj hall false (fun h=>by rw [hp] at h;cases h) (fun _=>rfl)
  refine Ev.step (fun k=>z49.l0.eq_2 ..) ?_
  exact qAr (by omega) (qBp (Ev.now _) (by rw [Bool.eq_iff_iff,decide_eq_true_iff,decide_eq_true_iff];omega))
theorem qIs (C:List (List Int)) (hl:C.length≤1048576) (hr:∀ x∈C,x.length≤1048576):Ev (fun k=>z30.f k C) (okC C):=by
  unfold z30.f okC
  have hr':∀ x∈C,x.length<9223372036854775807:=fun x hx=>by have:=hr x hx;omega
  by_cases h48:C.length≤48
  · rw [decide_eq_true h48,Bool.true_and]
    refine qAr (by omega) ?_
    -- the qBf
    have hfaces:∀ (j:Nat),j<C.length→∀ v,(((qBf (C.getD j [])).all fun f=>decide (f∈C))=true→Ev (fun k=>z30.l0 k ((j+1:Nat):Int) C) v)→(((qBf (C.getD j [])).all fun f=>decide (f∈C))=false→v=false) →
        Ev (fun k=>z30.l1 k (j:Int) (C.getD j []) 0 C) v:=by
      intro j hj v h1 h2
      have hrow:=hr _ (qA3 ([]:List Int) hj)
      by_cases hlen:1<(C.getD j []).length
      · have hstep:∀ (m:Nat),m<(C.getD j []).length→∀ u,(drp (C.getD j []) m∈C→Ev (fun k=>z30.l1 k (j:Int) (C.getD j []) ((m+1:Nat):Int) C) u)→(drp (C.getD j []) m ∉ C→u=false)→Ev (fun k=>z30.l1 k (j:Int) (C.getD j []) (m:Int) C) u:=by
          intro m hm u g1 g2
          refine Ev.step (fun k=>z30.l1.eq_2 ..) ?_
          refine qAc (by omega) ?_
          refine Ev.step (fun k=>z30.j3.eq_2 ..) ?_
          refine qAc (decide_eq_true (by omega)) (Ev.bind (qA1 (qKr _ m hm (by omega))) (Ev.bind (qIe C _ (by omega) hr') ?_))
          by_cases hin:drp (C.getD j []) m∈C
          · rw [qAw (by omega)]
            exact qAr (fun h=>(qFh C _).1 h hin) (g1 hin)
          rw [g2 hin]
          exact qAc ((qFh C _).2 hin) (Ev.now _)
        have hall:=qEg (fun (m:Nat) k=>(z30.l1 k (j:Int) (C.getD j []) (m:Int) C).map fun b=>b) (fun m=>decide (drp (C.getD j []) m∈C)) v (C.getD j []).length ?_ ?_ ?_
        · have e:((List.range (C.getD j []).length).all (fun m=>decide (drp (C.getD j []) m∈C)) && v)=v:=by
            cases v with
            | false=>simp
            | true =>
              have:((qBf (C.getD j [])).all fun f=>decide (f∈C))=true:=by
                cases hc:(qBf (C.getD j [])).all fun f=>decide (f∈C) with
                | true=>rfl
                | false=>have:=h2 hc;cases this
              unfold qBf at this
              rw [if_pos hlen,List.all_map] at this
              rw [Bool.and_true];exact this
          rw [e] at hall
          simpa using hall
        · intro m hm _ hp u hu
          simp only [Option.map_id'] at hu ⊢
          exact hstep m hm u (fun _=>hu) (fun h=>absurd (of_decide_eq_true hp) h)
        · intro m hm _ hp
          simp only [Option.map_id']
          exact hstep m hm false (fun h=>absurd h (of_decide_eq_false hp)) (fun _=>rfl)
        intro hall
        simp only [Option.map_id']
        have hfa:((qBf (C.getD j [])).all fun f=>decide (f∈C))=true:=by
          unfold qBf
          rw [if_pos hlen,List.all_map,List.all_eq_true]
          exact fun m hm=>hall m (List.mem_range.1 hm)
        refine Ev.step (fun k=>z30.l1.eq_2 ..) ?_
        refine qAr (by omega) ?_
        refine Ev.step (fun k=>z30.j3.eq_2 ..) ?_
        rw [qAw (i:=j) (by omega)]
        exact qAr (by decide) (h1 hfa)
      have hfa:((qBf (C.getD j [])).all fun f=>decide (f∈C))=true:=by
        unfold qBf;rw [if_neg hlen];rfl
      refine Ev.step (fun k=>z30.l1.eq_2 ..) ?_
      by_cases h0:0<(C.getD j []).length
      · refine qAc (by omega) ?_
        refine Ev.step (fun k=>z30.j3.eq_2 ..) ?_
        rw [qAw (i:=j) (by omega)]
        exact qAr (by rw [decide_eq_false (by omega)];decide) (h1 hfa)
      refine qAr (by omega) ?_
      refine Ev.step (fun k=>z30.j3.eq_2 ..) ?_
      rw [qAw (i:=j) (by omega)]
      exact qAr (by decide) (h1 hfa)
    have hround:∀ (j:Nat),j<C.length→∀ v,(okAt C C j=true→Ev (fun k=>z30.l0 k ((j+1:Nat):Int) C) v)→(okAt C C j=false→v=false)→Ev (fun k=>z30.l0 k (j:Int) C) v:=by
      intro j hj v h1 h2
      have hrow:=hr _ (qA3 ([]:List Int) hj)
      have key:=hfaces j hj v
      have stop:v=false→Ev (fun k=>z30.j1 k (j:Int) (C.getD j []) true C) v:=fun e=>by
        refine Ev.step (fun k=>z30.j1.eq_2 ..) ?_
        rw [e];exact qAc rfl (Ev.now _)
      have go:Ev (fun k=>z30.l1 k (j:Int) (C.getD j []) 0 C) v→Ev (fun k=>z30.j1 k (j:Int) (C.getD j []) false C) v:=fun e=>by
        refine Ev.step (fun k=>z30.j1.eq_2 ..) ?_
        exact qAr (by decide) e
      refine Ev.step (fun k=>z30.l0.eq_2 ..) ?_
      rw [qA6]
      refine qAc (by omega) (qAc (by omega) (Ev.bind (qD7 _ (by omega)) ?_))
      unfold okAt at h1 h2
      cases hi:qBh (C.getD j []) with
      | false=>rw [hi] at h2;exact qAr (by decide) (stop (h2 rfl))
      | true =>
        rw [hi] at h1 h2
        refine qAc rfl ?_
        rcases Nat.eq_zero_or_pos j with h0 | h0
        · have e:(j == 0)=true:=by simpa using h0
          rw [e] at h1 h2
          simp only [Bool.true_or,Bool.true_and] at h1 h2
          exact qAr (by omega) (go (key h1 h2))
        have e:(j == 0)=false:=by simpa using (show j≠0 by omega)
        rw [e] at h1 h2
        simp only [Bool.false_or,Bool.true_and] at h1 h2
        have hrow2:=hr _ (qA3 ([]:List Int) (show j - 1<C.length by omega))
        rw [show wrap64 ((j:Int) - 1)=((j - 1:Nat):Int) by rw [qAs (by omega) (by omega)];omega,qA6]
        refine qAc (by omega) (qAc (by omega) (qAc (by omega) (Ev.bind (qGs _ _ (by omega)) ?_)))
        cases hc:slt (C.getD (j - 1) []) (C.getD j []) with
        | true =>
          rw [hc] at h1 h2
          simp only [Bool.true_and] at h1 h2
          exact go (key h1 h2)
        | false=>rw [hc] at h2;exact stop (h2 rfl)
    refine qKo (fun (i:Nat) k=>z30.l0 k (i:Int) C) (okAt C C) C.length (fun j hj hp r hr'=>?_) (fun j hj hp=>?_) ?_
    · exact hround j hj r (fun _=>hr') (fun h=>by rw [hp] at h;cases h)
    · exact hround j hj false (fun h=>by rw [hp] at h;cases h) (fun _=>rfl)
    refine Ev.step (fun k=>z30.l0.eq_2 ..) ?_
    exact qAr (by omega) (Ev.now _)
  rw [decide_eq_false h48,Bool.false_and]
  exact qAc (by omega) (Ev.now _)
end Go.Proofs.YtpgjfppbbbnclaaGreat.B
