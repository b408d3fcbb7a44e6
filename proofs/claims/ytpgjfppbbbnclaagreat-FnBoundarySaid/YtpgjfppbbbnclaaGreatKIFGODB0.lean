/- Printed by a program of this work over the kit's printer. -/
import Derived.Test.YtpgjfppbbbnclaaGreatKW0
import Derived.ArgAppend
import Derived.Below
import Derived.BigQuiet
import Derived.Deep.AppendLies
import Derived.Deep.CutBlock
import Derived.Deep.DeepCutAuto
import Derived.Deep.Draws
import Derived.Deep.LoopGhost
import Derived.Deep.OwnRows
import Derived.Deep.QuietTactic
import Derived.Deep.RegionHeld3
import Derived.KernelRfl
import Derived.Laws.BitsLemmas
import Derived.Laws.BytesArg
import Derived.Laws.IdiomCopy
import Derived.Laws.MakeOwn
import Derived.Laws.OwnMore
import Derived.Laws.Rows
import Derived.Laws.Slices
import Derived.Lib.AppendStr
import Derived.Lib.ConvBytes
import Derived.Lib.SliceRun
import Derived.Maps.AppendAt
import Derived.OrdersHeld
import Derived.OwnWalk
import Derived.RowKit
import Derived.RowKit3
import Derived.Tactics
import Derived.Test.YtpgjfppbbbnclaaGreatProg
import Derived.WalkKit
import Derived.WideLaws
set_option linter.unusedVariables false
set_option linter.unusedSimpArgs false
set_option maxHeartbeats 8000000
set_option maxRecDepth 100000
namespace Go.Proofs.YtpgjfppbbbnclaaGreatW.PrintWords.Kd
open Go.RowKit
section
variable {α:Type} {d:Kd α} {e base n B g t:Nat} {ok:Nat→Prop} {W w1:World} {u v:Value} {xs:List α}
theorem size_letter {w0:World} (_:Below W.heap.size w0 w1):∃ n:Nat,n=W.heap.size:=⟨_,rfl⟩
theorem S_oldN (h:S d e W base ok u xs) (hb:Below W.heap.size W w1) (hn:n=W.heap.size):S d e w1 base (fun k=>ok k∧k<n) u xs:=by subst hn;exact S_old h hb
theorem R_oldN (h:d.R e W base ok u xs) (hb:Below W.heap.size W w1) (hn:n=W.heap.size):d.R e w1 base (fun k=>ok k∧k<n) u xs:=by subst hn;exact R_mono (R_below (R_bound h) hb) (fun _ hk=>⟨hk.1,hk.2.2.1⟩)
theorem S_baseN (h:S d e w1 B ok v xs) (hn:n=B):∀ k,v.ownBlock=some k→n≤k:=by subst hn;exact S_base h
theorem R_baseN (h:d.R e w1 B ok v xs) (hn:n=B):∀ k,v.ownBlock=some k→n≤k:=by subst hn;exact R_base h
theorem R_geN (h:d.R e w1 B ok v xs) (hn:n=B):d.R e w1 B (fun k=>ok k∧n≤k) v xs:=by subst hn;exact R_mono (R_bound h) (fun _ hk=>⟨hk.1,hk.2.1⟩)
theorem S_pin (h:S d e W base ok v xs):S d e W base (fun k=>ok k∧∃ q,q∈e :: d.E∧∃ cells,W.heap[k]?=some (.cells cells q (0,0))) v xs:=S_mono (S_bound h) (fun _ hk=>⟨hk.1,hk.2.2.2⟩)
theorem typed_ne {E:List Nat} {cs:Array Value} {fr:Nat × Nat} (hb:W.heap[g]?=some (.cells cs t fr)) (hs:∃ q,q∈E∧∃ cells,W.heap[g]?=some (.cells cells q (0,0))) (ht:∀ q,q∈E→q≠t):False:=by
  obtain ⟨q,hq,cells,hc⟩:=hs
  rw [hb] at hc
  injection hc with hc
  injection hc with _ hc
  exact ht q hq hc.symm
end
end Go.Proofs.YtpgjfppbbbnclaaGreatW.PrintWords.Kd
namespace Go.Proofs.YtpgjfppbbbnclaaGreat.B
open Go.RowKit Go.Proofs.YtpgjfppbbbnclaaGreatW.PrintWords Go.Proofs.YtpgjfppbbbnclaaGreatW.PrintLast Go.Proofs.YtpgjfppbbbnclaaGreatW.PrintMore
attribute [local go_sem] qAq qAo qAu qAt qAl qAk qAp qAn
def errW:Option Int→Value
 | none=>.nilIface
 | some c=>.iface 0 (.int .i64 c)
theorem qBz:errW none=.nilIface:=rfl
theorem qBy (c:Int):errW (some c)=.iface 0 (.int .i64 c):=rfl
theorem E_ {p:Prop} (h:p:=by first | rfl | (simp;done) | (simp [*];done)):p:=h
theorem F_ {p:Prop} (h:p:=by first | rfl | (simp [qBz,qBy] <;> rfl) | (simp [*,qBz,qBy] <;> rfl)):p:=h
theorem D_ {c:Prop} [Decidable c] (h:decide c=true:=by first | (with_reducible assumption) | assumption):c:=of_decide_eq_true h
theorem B_ {p q:Prop} (x:q) (h:q→p:=by intro hx_;repeat (first | (with_reducible first | exact hx_ | apply qAg | apply qAb | apply qAe) | exact hx_)):p:=h x
theorem B1_ {p q g1:Prop} (x:q) (y1:g1) (h:q→g1→p:=by intro hx_ hy_;repeat (first | (with_reducible first | exact hx_ | apply qAg | apply qAb | apply qAe | refine qAd ?_ hy_) | exact hx_)):p:=h x y1
theorem B2_ {p q g1 g2:Prop} (x:q) (y1:g1) (y2:g2) (h:q→g1→g2→p:=by intro hx_ hy_ hz_;repeat (first | (with_reducible first | exact hx_ | apply qAg | apply qAb | apply qAe | refine qAd ?_ hy_ | refine qAd ?_ hz_) | exact hx_)):p:=h x y1 y2
theorem B3_ {p q g1 g2 g3:Prop} (x:q) (y1:g1) (y2:g2) (y3:g3) (h:q→g1→g2→g3→p:=by intro hx_ hy_ hz_ hu_;repeat (first | (with_reducible first | exact hx_ | apply qAg | apply qAb | apply qAe | refine qAd ?_ hy_ | refine qAd ?_ hz_ | refine qAd ?_ hu_) | exact hx_)):p:=h x y1 y2 y3
theorem KS_ {p q:Prop} (x:q) (h:q→p:=by intro hx_;(with_reducible repeat (first | apply Kd.S_alloc | apply Kd.S_drewN | apply Kd.S_drew));exact hx_):p:=h x
theorem KR_ {p q:Prop} (x:q) (h:q→p:=by intro hx_;(with_reducible repeat (first | apply Kd.R_alloc | apply Kd.R_drewN | apply Kd.R_drew));exact hx_):p:=h x
theorem KN_ {p q:Prop} (x:q) (h:q→p:=by intro hx_;(with_reducible repeat (first | apply Kd.N_alloc | apply Kd.N_drewN | apply Kd.N_drew));exact hx_):p:=h x
theorem KB_ {p q:Prop} (x:q) (h:q→p:=by intro hx_;(with_reducible repeat (first | refine bN_ ?_ _ | refine bD_ ?_ | refine bA_ ?_ _));exact hx_):p:=h x
theorem KC_ {p q:Prop} (x:q) (h:q→p:=by intro hx_;repeat (first | (with_reducible exact hx_) | (with_reducible refine Kd.C_alloc ?_ _) | (with_reducible refine Kd.C_drewN ?_ _) | (with_reducible refine Kd.C_drew ?_) | exact hx_)):p:=h x
theorem Bw4_ {p q g0 g1 g2 g3:Prop} (x:q) (y0:g0) (y1:g1) (y2:g2) (y3:g3) (h:q→g0→g1→g2→g3→p:=by intro hx_ hy0 hy1 hy2 hy3;repeat (first | (with_reducible first | exact hx_ | apply qAg | apply qAb | apply qAe | refine qAd ?_ hy0 | refine qAd ?_ hy1 | refine qAd ?_ hy2 | refine qAd ?_ hy3) | exact hx_)):p:=h x y0 y1 y2 y3
theorem Z1f_ {w:World} {g:Nat} {t:TypeId} {v0:Value} (h:w.heap[g]?=some (.cells #[v0] t (0,0))):w.cell? ⟨g,0,none⟩=some v0∧w.frozen? ⟨g,0,none⟩=false:=⟨(bC_ h 0).trans rfl,bF_ h 0⟩
theorem Z4a_ {w:World} {g:Nat} {t:TypeId} {v0 v1 v2 v3:Value} (h:w.heap[g]?=some (.cells #[v0,v1,v2,v3] t (0,0))) {q:Prop} (r:q):w.cell? ⟨g,0,none⟩=some v0∧w.cell? ⟨g,1,none⟩=some v1∧w.cell? ⟨g,2,none⟩=some v2∧w.cell? ⟨g,3,none⟩=some v3∧q:=⟨(bC_ h 0).trans rfl,(bC_ h 1).trans rfl,(bC_ h 2).trans rfl,(bC_ h 3).trans rfl,r⟩
theorem Z4_ {w:World} {g:Nat} {t:TypeId} {v0 v1 v2 v3:Value} (h:w.heap[g]?=some (.cells #[v0,v1,v2,v3] t (0,0))):w.cell? ⟨g,0,none⟩=some v0∧w.cell? ⟨g,1,none⟩=some v1∧w.cell? ⟨g,2,none⟩=some v2∧w.cell? ⟨g,3,none⟩=some v3:=⟨(bC_ h 0).trans rfl,(bC_ h 1).trans rfl,(bC_ h 2).trans rfl,(bC_ h 3).trans rfl⟩
theorem Z4f_ {w:World} {g:Nat} {t:TypeId} {v0 v1 v2 v3:Value} (h:w.heap[g]?=some (.cells #[v0,v1,v2,v3] t (0,0))):w.cell? ⟨g,0,none⟩=some v0∧w.cell? ⟨g,1,none⟩=some v1∧w.cell? ⟨g,2,none⟩=some v2∧w.cell? ⟨g,3,none⟩=some v3∧w.frozen? ⟨g,0,none⟩=false∧w.frozen? ⟨g,1,none⟩=false∧w.frozen? ⟨g,2,none⟩=false∧w.frozen? ⟨g,3,none⟩=false:=⟨(bC_ h 0).trans rfl,(bC_ h 1).trans rfl,(bC_ h 2).trans rfl,(bC_ h 3).trans rfl,bF_ h 0,bF_ h 1,bF_ h 2,bF_ h 3⟩
theorem BW_ {p q:Prop} (x:q) (h:q→p:=by intro hx_;(with_reducible repeat (first | refine bN_ ?_ _ | refine bD_ ?_ | refine bA_ ?_ _));exact hx_):p:=h x
theorem RW_ {p q:Prop} (x:q) (h:q→p:=by intro hx_;(with_reducible repeat (first | apply Kd.R_alloc | apply Kd.R_drewN | apply Kd.R_drew));exact hx_):p:=h x
theorem SW_ {p q:Prop} (x:q) (h:q→p:=by intro hx_;(with_reducible repeat (first | apply Kd.S_alloc | apply Kd.S_drewN | apply Kd.S_drew));exact hx_):p:=h x
theorem NW_ {p q:Prop} (x:q) (h:q→p:=by intro hx_;(with_reducible repeat (first | apply Kd.N_alloc | apply Kd.N_drewN | apply Kd.N_drew));exact hx_):p:=h x
theorem VW_ {p q:Prop} (x:q) (h:q→p:=by intro hx_;(with_reducible repeat (first | apply Kd.V_alloc | apply Kd.V_drewN | apply Kd.V_drew));exact hx_):p:=h x
theorem OB_ {α β:Type} {o:Option α} {f:α→Option β} {b:β} (h:o.bind f=some b):∃ a,o=some a∧f a=some b:=Option.bind_eq_some_iff.mp h
theorem OI_ {α:Type} {a b:α} (h:some a=some b):a=b:=Option.some.inj h
theorem ya_.{u} {α:Type u} {l:List α} {i:Nat} {a:α}:l.getD i a=l[i]?.getD a:=List.getD_eq_getElem?_getD
theorem yb_.{u} {α:Type u} {l:List α} {i:Nat} (h:i<l.length):l[i]?=some l[i]:=List.getElem?_eq_getElem h
theorem yc_ {m n:Nat}:m∈List.range n↔m<n:=List.mem_range
theorem yd_ (n:Nat):(n:Int).toNat=n:=Int.toNat_natCast n
theorem ye_ (a b:Bool):((a && b)=true)=(a=true∧b=true):=Bool.and_eq_true a b
theorem yf_ {p:Prop} [inst:Decidable p]:decide p=true↔p:=decide_eq_true_iff
theorem yi_ (n m:Nat):((n * m:Nat):Int)=(n:Int) * (m:Int):=Int.natCast_mul n m
theorem yj_ {p q m n:Nat} (h₁:p≤m) (h₂:q≤n):p * q≤m * n:=Nat.mul_le_mul h₁ h₂
theorem yk_.{u} {α:Type u} {n:Nat} {a:α}:(List.replicate n a).length=n:=List.length_replicate
theorem ym_.{u} {α:Type u} {l:List α} {i:Nat} {a:α}:(l.set i a).length=l.length:=List.length_set
theorem yn_ (n:Int):n ∣ 0:=Int.dvd_zero n
theorem yo_.{u} {α:Type u} {p:α→Bool} {l:List α}:l.all p=true↔∀ x,x∈l→p x=true:=List.all_eq_true
theorem yq_ {a b c:Int}:a ∣ b→a ∣ c→a ∣ b+c:=Int.dvd_add
theorem ys_.{u,v} {α:Type u} {β:Type v} {b:β} {f:α→β} {l:List α}:b∈List.map f l↔∃ a,a∈l∧f a=b:=List.mem_map
theorem yv_.{u} {α:Type u} {a:α} {s t:List α}:a∈s ++ t↔a∈s∨a∈t:=List.mem_append
theorem oM_ {p:Prop} (h:p:=by omega):p:=h
theorem rW0_ {p q a1:Prop} (x:q) (y1:a1) (h:q→a1→p:=by intro hx_ hy1_;repeat (first | (with_reducible first | exact hx_ | apply qAf.set_ | apply qAh | apply qAj | apply qAi | refine qAx ?_ hy1_ _) | exact hx_)):p:=h x y1
theorem rW5_ {p q:Prop} (x:q) (h:q→p:=by intro hx_;repeat (first | (with_reducible first | exact hx_ | apply qAf.set_ | apply qAh | apply qAj | apply qAi) | exact hx_)):p:=h x
theorem rW6_ {p q a1:Prop} (x:q) (y1:a1) (h:q→a1→p:=by intro hx_ hy1_;repeat (first | (with_reducible first | exact hx_ | apply Kept.alloc | apply Kept.drewN | apply Kept.drew | refine Kept.setCell ?_ (.inr hy1_) _) | exact hx_)):p:=h x y1
theorem rW7_ {p q a1 a2 a3 a4:Prop} (x:q) (y1:a1) (y2:a2) (y3:a3) (y4:a4) (h:q→a1→a2→a3→a4→p:=by intro hx_ hy1_ hy2_ hy3_ hy4_;repeat (first | (with_reducible first | exact hx_ | apply qAg | apply qAb | apply qAe | refine qAd ?_ hy1_ | refine qAd ?_ hy2_ | refine qAd ?_ hy3_ | refine qAd ?_ hy4_) | exact hx_)):p:=h x y1 y2 y3 y4
theorem rW8_ {p q:Prop} (x:q) (h:q→p:=by intro hx_;repeat (first | (with_reducible first | exact hx_ | apply Kept.alloc | apply Kept.drewN | apply Kept.drew) | exact hx_)):p:=h x
theorem rW9_ {p q a1 a2:Prop} (x:q) (y1:a1) (y2:a2) (h:q→a1→a2→p:=by intro hx_ hy1_ hy2_;repeat (first | (with_reducible first | exact hx_ | apply Kept.alloc | apply Kept.drewN | apply Kept.drew | refine Kept.setCell ?_ hy1_ _ | refine Kept.setCell ?_ (.inr hy2_) _) | exact hx_)):p:=h x y1 y2
theorem O1_ {α:Type} {c:Prop} {i:Decidable c} {t:Option α} {r:α} (h:(@ite _ c i t none)=some r):c:=by
 by_cases hc:c
 ·exact hc
 rw [if_neg hc] at h;cases h
theorem O2_ {α:Type} {c:Prop} {i:Decidable c} {t:Option α} {r:α} (h:(@ite _ c i t none)=some r):t=some r:=by
 by_cases hc:c
 ·rw [if_pos hc] at h;exact h
 rw [if_neg hc] at h;cases h
theorem T_ {α:Type} {i:Decidable (true=true)} {t f x:α} (h:(@ite _ (true=true) i t f)=x):t=x:=by rw [if_pos rfl] at h;exact h
theorem N_ {α:Type} {i:Decidable (false=true)} {t f x:α} (h:(@ite _ (false=true) i t f)=x):f=x:=by rw [if_neg Bool.false_ne_true] at h;exact h
theorem X_ {α:Type} {r:α} {p:Prop} (h:(none:Option α)=some r):p:=by cases h
theorem Y_ {a b e:Prop} (x:e) (y:a) (h:e→a→b:=by intro hy_ H;first | (rw [hy_];with_reducible exact H) | (have H2_:=(Option.bind_some _ _).symm.trans H;rw [hy_];with_reducible exact H2_) | (have H2_:=(Option.bind_some _ _).symm.trans H;with_reducible exact H2_) | with_reducible exact H | (rw [hy_];exact H) | exact H):b:=h x y
theorem Q1_ {p a:Prop} (x:Zz a) (h:a→p:=by intros;omega):p:=h x.out
theorem Q2_ {p a b:Prop} (x:Zz a) (y:Zz b) (h:a→b→p:=by intros;omega):p:=h x.out y.out
theorem Q3_ {p a b c:Prop} (x:Zz a) (y:Zz b) (z:Zz c) (h:a→b→c→p:=by intros;omega):p:=h x.out y.out z.out
theorem Q4_ {p a b c d:Prop} (x:Zz a) (y:Zz b) (z:Zz c) (u:Zz d) (h:a→b→c→d→p:=by intros;omega):p:=h x.out y.out z.out u.out
theorem Q5_ {p a b c d e:Prop} (x:Zz a) (y:Zz b) (z:Zz c) (u:Zz d) (v:Zz e) (h:a→b→c→d→e→p:=by intros;omega):p:=h x.out y.out z.out u.out v.out
theorem L1_ {p a:Prop} (x:a) (h:a→p:=by intro h1_;repeat' first | (with_reducible apply h1_) | (with_reducible exact LeO.refl _) | (with_reducible exact LeO.none _) | (with_reducible refine LeO.ite ?_ ?_) | (with_reducible refine LeO.bind ?_ (fun _=>?_)) | exact LeO.none _ | refine LeO.ite ?_ ?_ | refine LeO.bind ?_ (fun _=>?_)):p:=h x
def tbl_:Nat→Nat→List Bool
 | 0,_=>[]
 | n+1,m=>(m % 2 == 1) :: tbl_ n (m / 2)
def tb_ (n m:Nat):Array Bool:=(tbl_ n m).toArray
section
open Go.RowKit
variable {P:Program} {md:Region.Mode} {ops:Array Oper} {ds:List Nat} {Q:Exit→Act→World→Prop} {S:World→Prop} {T:Bool × List (List Nat × List Nat)} {B:List Nat}
theorem O3_ {c:Prop} [Decidable c] {α:Type} {x:Option α} {y:α} (h:(if c then x else none)=some y):decide c=true:=decide_eq_true (O1_ h)
theorem OZ_ {α β:Type} {o:Option α} {f:α→Option β} {b:β} (h:o.bind f=some b):∃ a,Zz (o=some a)∧f a=some b:=(Option.bind_eq_some_iff.mp h).imp fun _ h=>⟨Zz.mk h.1,h.2⟩
theorem bx_ {P:Program} {ops:Array Oper} {o:Oper} {rest:List Oper} {a:Act} {Q:Exit→Act→World→Prop} {W:World} (N:Tmp) (cs:Array Value) (t:TypeId) (h:∀ g,g=W.heap.size→∀ w1,w1.heap[g]?=some (.cells cs t (0,0))→Below W.heap.size W w1→wpList P ops Q rest (a.put o.dst (.pointer (some ⟨g,0,none⟩))) w1) (hgd:o.guard=none:=by rfl) (_hd:o.dst=some N:=by rfl) (hrun:(execOp a.eval o).run P W=.ok (.value (.pointer (some ⟨W.heap.size,0,none⟩))) (W.alloc (.cells cs t (0,0))):=by first | (go_simp;done) | (go_simp;rfl)):wpList P ops Q (o :: rest) a W:=qM7 hgd _hd hrun h
theorem by_ {P:Program} {ops:Array Oper} {o:Oper} {a:Act} {Q:Exit→Act→World→Prop} {Kc:Act→World→Prop} {W:World} (N:Tmp) (cs:Array Value) (t:TypeId) (h:∀ g,g=W.heap.size→∀ w1,w1.heap[g]?=some (.cells cs t (0,0))→Below W.heap.size W w1→Kc (a.put o.dst (.pointer (some ⟨g,0,none⟩))) w1) (hw:Region.wanted o (yielded ops a.tmps)=true:=by rfl) (_hd:o.dst=some N:=by rfl) (hrun:(execOp a.eval o).run P W=.ok (.value (.pointer (some ⟨W.heap.size,0,none⟩))) (W.alloc (.cells cs t (0,0))):=by first | (go_simp;done) | (go_simp;rfl)):if Region.wanted o (yielded ops a.tmps)=true then Oper.wp P o a W Kc Q else Kc (a.put o.dst undef) W:=qN5 hw _hd hrun h
theorem eD_ {p q:Prop} (h:p:=by first | rfl | (simp;done) | (simp [*];done)) (h2:q:=by repeat (first | exact Dz.refl _ | apply Dz.step)):p∧q:=⟨h,h2⟩
theorem gw_ {g:Nat} {w w1:World} (hg:g=w1.heap.size) (h:Below w.heap.size w w1):w.heap.size≤g:=by rw [hg];exact bS_ h
theorem kb_ {g:Nat} {o:Obj} {w w1 w2:World} (h:w.heap[g]?=some o) (hb:Below w1.heap.size w1 w2) (hw:w.heap[g]?=some o→w1.heap[g]?=some o:=by intro hx_;(with_reducible repeat (first | refine bN_ ?_ _ | refine bD_ ?_ | refine bA_ ?_ _));exact hx_):w2.heap[g]?=some o:=bB_ (hw h) hb
theorem nb_ {g g':Nat} {o:Obj} {w w1:World} (h:w.heap[g]?=some o) (hg:g'=w1.heap.size) (hw:w.heap[g]?=some o→w1.heap[g]?=some o:=by intro hx_;(with_reducible repeat (first | refine bN_ ?_ _ | refine bD_ ?_ | refine bA_ ?_ _));exact hx_):g≠g':=by rw [hg];exact Nat.ne_of_lt (qE8 (hw h))
theorem pj_ {P Q:Prop} (p:P) (h:P→Q:=by intro h_;(try dsimp only at h_);(try dsimp only);simp only [h_,ne_eq,not_false_eq_true,and_self,true_and,and_true]):Q:=h p
theorem sl_ {A A':Option Addr} {n n' c c':Nat} (h:Value.slice A n c=Value.slice A' n' c'):A'=A∧c'=c:=by injection h with h1 h2 h3;exact ⟨h1.symm,h3.symm⟩
theorem PV_ {i:Nat} {N:Option Tmp} {oi:Oper} {v:Value} {fuel:Nat} {l:Array Bool} {a a':Act} {w:World} (l':Array Bool) (HT:Zz (rtab md ops=T)) (hi:ops[i]?=some oi) (hN:oi.dst=N) (hc:anyT T l.toList l'.toList i=true:=by kernel_rfl)
  (hQ:∀ c a w,Q (.panic c) (a.put oi.dst v) w→Q (.panic c) a w:=by exact fun _ _ _ h=>h) (h1:Region.wanted oi (yielded ops a.tmps)=true:=by rfl) (h2:∀ w,(execOp a.eval oi).run P w=.ok (.value v) w:=by intro w';go_simp;with_reducible rfl) (ha:a.put N v=a':=by simp only [Act.put,List.setIfInBounds_toArray,List.set_cons_zero,List.set_cons_succ,qBl,qCi];rfl)
  (h:qAy P md ops Q S ds fuel l' a' w):qAy P md ops Q S ds (fuel+1) l a w:=qNs l' hi hN (qK1 HT.out hc) hQ (Or.inl ⟨h1,h2⟩) ha h
theorem PU_ {i:Nat} {N:Option Tmp} {oi:Oper} {fuel:Nat} {l:Array Bool} {a a':Act} {w:World} (l':Array Bool) (HT:Zz (rtab md ops=T)) (hi:ops[i]?=some oi) (hN:oi.dst=N) (hc:anyT T l.toList l'.toList i=true:=by kernel_rfl)
  (hQ:∀ c a w,Q (.panic c) (a.put oi.dst undef) w→Q (.panic c) a w:=by exact fun _ _ _ h=>h) (h1:Region.wanted oi (yielded ops a.tmps)=false:=by rfl) (ha:a.put N undef=a':=by simp only [Act.put,List.setIfInBounds_toArray,List.set_cons_zero,List.set_cons_succ,qBl,qCi];rfl)
  (h:qAy P md ops Q S ds fuel l' a' w):qAy P md ops Q S ds (fuel+1) l a w:=qNs l' hi hN (qK1 HT.out hc) hQ (Or.inr ⟨h1,rfl⟩) ha h
theorem PX_ {oi:Oper} {v:Value} {fuel:Nat} {l:Array Bool} {a a':Act} {w:World} (i:Nat) (n:Tmp) (l':Array Bool) (HT:Zz (rtab md ops=T)) (hi:ops[i]?=some oi) (hN:oi.dst=some n) (h:qAy P md ops Q S ds fuel l' a' w) (hc:anyT T l.toList l'.toList i=true:=by kernel_rfl)
  (hQ:∀ c a w,Q (.panic c) (a.put oi.dst v) w→Q (.panic c) a w:=by exact fun _ _ _ h=>h) (h1:Region.wanted oi (yielded ops a.tmps)=true:=by rfl) (h2:∀ w,(execOp a.eval oi).run P w=.ok (.value v) w:=by intro w';go_simp;with_reducible rfl) (ha:a.put (some n) v=a':=by simp only [Act.put,List.setIfInBounds_toArray,List.set_cons_zero,List.set_cons_succ,qBl,qCi];rfl)
  : qAy P md ops Q S ds (fuel+1) l a w:=qNs l' hi hN (qK1 HT.out hc) hQ (Or.inl ⟨h1,h2⟩) ha h
theorem PY_ {oi:Oper} {fuel:Nat} {l:Array Bool} {a a':Act} {w:World} (i:Nat) (n:Tmp) (l':Array Bool) (HT:Zz (rtab md ops=T)) (hi:ops[i]?=some oi) (hN:oi.dst=some n) (h:qAy P md ops Q S ds fuel l' a' w) (hc:anyT T l.toList l'.toList i=true:=by kernel_rfl)
  (hQ:∀ c a w,Q (.panic c) (a.put oi.dst undef) w→Q (.panic c) a w:=by exact fun _ _ _ h=>h) (h1:Region.wanted oi (yielded ops a.tmps)=false:=by rfl) (ha:a.put (some n) undef=a':=by simp only [Act.put,List.setIfInBounds_toArray,List.set_cons_zero,List.set_cons_succ,qBl,qCi];rfl)
  : qAy P md ops Q S ds (fuel+1) l a w:=qNs l' hi hN (qK1 HT.out hc) hQ (Or.inr ⟨h1,rfl⟩) ha h
theorem TV_ {i:Nat} {N:Option Tmp} {oi:Oper} {v:Value} {fuel:Nat} {l:Array Bool} {a a':Act} {w:World} (l':Array Bool) (HT:Zz (rtab md ops=T)) (HW:Zz (qBj T.2 B=true)) (hi:ops[i]?=some oi) (hN:oi.dst=N) (hS:S w) (h2:∀ w,S w→(execOp a.eval oi).run P w=.ok (.value v) w) (hc:qNk T B ds l.toList l'.toList i=true:=by kernel_rfl)
  (hQ:∀ c a w,Q (.panic c) (a.put oi.dst v) w→Q (.panic c) a w:=by exact fun _ _ _ h=>h) (h1:Region.wanted oi (yielded ops a.tmps)=true:=by rfl) (ha:a.put N v=a':=by simp only [Act.put,List.setIfInBounds_toArray,List.set_cons_zero,List.set_cons_succ,qBl,qCi];rfl)
  (h:qAy P md ops Q S ds fuel l' a' w):qAy P md ops Q S ds (fuel+1) l a w:=take_ l' hi hN (qEl HT.out HW.out hc) hQ (Or.inl ⟨h1,h2⟩) hS ha h
theorem TX_ {oi:Oper} {v:Value} {fuel:Nat} {l:Array Bool} {a a':Act} {w:World} (i:Nat) (n:Tmp) (l':Array Bool) (HT:Zz (rtab md ops=T)) (HW:Zz (qBj T.2 B=true)) (hi:ops[i]?=some oi) (hN:oi.dst=some n) (hS:S w) (h:qAy P md ops Q S ds fuel l' a' w) (h2:∀ w,S w→(execOp a.eval oi).run P w=.ok (.value v) w:=by rintro w' ⟨s0,s1,s2⟩;go_simp;with_reducible rfl) (hc:qNk T B ds l.toList l'.toList i=true:=by kernel_rfl)
  (hQ:∀ c a w,Q (.panic c) (a.put oi.dst v) w→Q (.panic c) a w:=by exact fun _ _ _ h=>h) (h1:Region.wanted oi (yielded ops a.tmps)=true:=by rfl) (ha:a.put (some n) v=a':=by simp only [Act.put,List.setIfInBounds_toArray,List.set_cons_zero,List.set_cons_succ,qBl,qCi];rfl)
  : qAy P md ops Q S ds (fuel+1) l a w:=take_ l' hi hN (qEl HT.out HW.out hc) hQ (Or.inl ⟨h1,h2⟩) hS ha h
theorem GO_ {oi : Oper} {N : Option Tmp} {a : Act} {w : World} {K : Act → World → Prop} {f : FuncId} {fn : Func} {as_ : Array Operand} {ts : Array TypeId} (hf : P.funcs[f]? = some fn) (args : Array Value) (hname : (fn.name == "runtime.NumGoroutine") = false := by kernel_rfl) (hb : fn.body.isSome = true := by exact rfl)
  (hw:Region.wanted oi (yielded ops a.tmps)=true:=by rfl) (hN:oi.dst=N:=by exact rfl) (hop:oi.op=.call { callee:=.value (.func f),args:=as_,argTypes:=ts }:=by exact rfl) (hargs:as_.map a.eval=args:=by (try simp only [List.map_toArray,List.map_cons,List.map_nil]);first | done | rfl | (simp only [List.length_drop,List.length_take];rfl))
  (h:Calls P f args w fun e w'=>∃ v,e=.returned v∧K (a.put N v) w'):if Region.wanted oi (yielded ops a.tmps)=true then Oper.wp P oi a w K Q else K (a.put N undef) w:=goes_ hf hname hb args hw hN hop hargs h
theorem GL_ {rest : List Oper} {oi : Oper} {a : Act} {w : World} (N : Option Tmp) {f : FuncId} {fn : Func} {as_ : Array Operand} {ts : Array TypeId} (hd : oi.dst = N) (hg : oi.guard = none) (hf : P.funcs[f]? = some fn) (args : Array Value) (hop : oi.op = .call { callee := .value (.func f), args := as_, argTypes := ts }) (hname : (fn.name == "runtime.NumGoroutine") = false := by kernel_rfl) (hb : fn.body.isSome = true := by exact rfl)
  (hargs:as_.map a.eval=args:=by (try simp only [List.map_toArray,List.map_cons,List.map_nil]);first | done | rfl | (simp only [List.length_drop,List.length_take];rfl))
  (h:Calls P f args w fun e w'=>∃ v,e=.returned v∧wpList P ops Q rest (a.put N v) w'):wpList P ops Q (oi :: rest) a w:=qOe N hd hg hf hname hb args hop hargs h
theorem NM_ {N:Option Tmp} {v:Value} {fuel:Nat} {l:Array Bool} {a a':Act} {w:World} (ha:a.put N v=a':=by simp only [Act.put,List.setIfInBounds_toArray,List.set_cons_zero,List.set_cons_succ,qBl,qCi];rfl)
  (h:qAy P md ops Q S ds fuel l a' w):qAy P md ops Q S ds fuel l (a.put N v) w:=qJy ha h
end
theorem qB4:(Tryz.prog.info? 2).map (fun i=>(i.zero,i.size,i.bytes))=some (some (.int .i64 0),1,8):=by kernel_rfl
theorem info3:(Tryz.prog.info? 3).map (fun i=>(i.zero,i.size,i.bytes))=some (some (.int .i64 0),1,8):=by kernel_rfl
theorem info24:(Tryz.prog.info? 24).map (fun i=>(i.zero,i.size,i.bytes))=some (some (.slice none 0 0),1,24):=by kernel_rfl
theorem qBx:(Tryz.prog.info? 30).map (fun i=>(i.zero,i.size,i.bytes))=some (some (.slice none 0 0),1,24):=by kernel_rfl
def rI_ (xs:List (List Int)) (i:Int):(List Int):=xs.getD i.toNat ([]:List Int)
theorem qA2 {w:World} {A:Option Addr} {n:Nat} {xs:List (List Int)} (h:Kd.C (Kd.slice 2 (Kd.int .i64)) w A n xs) (i:Int) (h0:0≤i) (h1:i<n):∃ ad A0 c0,A=some ad∧w.cell? (ad.add i.toNat)=some (.slice A0 (rI_ xs i).length c0)∧(rI_ xs i).length≤c0∧(Kd.int .i64).C w A0 (rI_ xs i).length (rI_ xs i):=by
 obtain ⟨ad,c,e,_,hK,hc0⟩:=Kd.C_get h ([]:List Int) i h0 h1
 have hc:∀ j u,c[j]?=some u→w.cell? (ad.add (i.toNat * 1+j))=some u:=hc0
 obtain ⟨A0,c0,rfl,l0,g0⟩:=hK
 exact ⟨ad,A0,c0,e,by have hq:=hc 0 _ rfl;rwa [Nat.mul_one,Nat.add_zero] at hq,l0,g0⟩
def qCk (xs:List (List (List Int))) (i:Int):(List (List Int)):=xs.getD i.toNat ([]:List (List Int))
theorem qNg {w:World} {A:Option Addr} {n:Nat} {xs:List (List (List Int))} (h:Kd.C (Kd.slice 30 (Kd.slice 2 (Kd.int .i64))) w A n xs) (i:Int) (h0:0≤i) (h1:i<n):∃ ad A0 c0,A=some ad∧w.cell? (ad.add i.toNat)=some (.slice A0 (qCk xs i).length c0)∧(qCk xs i).length≤c0∧(Kd.slice 2 (Kd.int .i64)).C w A0 (qCk xs i).length (qCk xs i):=by
 obtain ⟨ad,c,e,_,hK,hc0⟩:=Kd.C_get h ([]:List (List Int)) i h0 h1
 have hc:∀ j u,c[j]?=some u→w.cell? (ad.add (i.toNat * 1+j))=some u:=hc0
 obtain ⟨A0,c0,rfl,l0,g0⟩:=hK
 exact ⟨ad,A0,c0,e,by have hq:=hc 0 _ rfl;rwa [Nat.mul_one,Nat.add_zero] at hq,l0,g0⟩
end Go.Proofs.YtpgjfppbbbnclaaGreat.B
namespace Go.Proofs.YtpgjfppbbbnclaaGreat.B
open Go.RowKit Go.Proofs.YtpgjfppbbbnclaaGreatW.PrintWords Go.Proofs.YtpgjfppbbbnclaaGreatW.PrintLast Go.Proofs.YtpgjfppbbbnclaaGreatW.PrintMore
attribute [local go_sem] qAq qAo qAu qAt qAl qAk qAp qAn
def z101.f (a0:Int) (a1:Int) (a2:Int):Option (Bool):=if a0 ≥ a1 then (some (decide (a0≤a2))) else (some false)
theorem z101.calls (a0:Int) (a1:Int) (a2:Int) (r:Bool) (w:World) (h:z101.f a0 a1 a2=some r) :
  Calls Tryz.prog 101 #[.int .i64 a0,.int .i64 a1,.int .i64 a2] w fun e w'=>e=.returned (.bool r)∧Dz w w':=by
 have H:(if a0 ≥ a1 then (some (decide (a0≤a2))) else (some false))=some r:=h
 clear h
 by_cases c4:a0 ≥ a1
 ·rw [if_pos c4] at H
  have c4b0:decide (a1≤a0)=true:=decide_eq_true c4
  clear c4
  obtain rfl:=OI_ H
  go_enter Tryz.func101,Tryz.ntmps101
  go_wp2
  go_ret
  exact eD_
 rw [if_neg c4] at H
 have c4b0:decide (a1≤a0)=false:=decide_eq_false c4
 clear c4
 obtain rfl:=OI_ H
 go_enter Tryz.func101,Tryz.ntmps101
 go_wp2
 go_ret
 exact eD_
def z71.f (a0:Int):Option (Bool):=(z101.f a0 0 3).bind fun t101=>(some t101)
theorem z71.calls (a0:Int) (r:Bool) (w:World) (h:z71.f a0=some r) :
  Calls Tryz.prog 71 #[.int .i64 a0] w fun e w'=>e=.returned (.bool r)∧Dz w w':=by
 have H:((z101.f a0 0 3).bind fun t101=>(some t101))=some r:=h
 clear h
 replace H:=OZ_ H
 obtain ⟨t101,A2,H⟩:=H
 obtain rfl:=OI_ H
 go_enter Tryz.func71,Tryz.ntmps71
 go_wp2_with (first | ((with_reducible refine gC_ (f:=101) rfl ?_);refine GL_ (some 4) rfl rfl Tryz.func101 #[.int .i64 a0,.int .i64 0,.int .i64 3] rfl (h:=?_);(with_reducible refine (z101.calls a0 0 3 t101 _ A2.out).mono ?_);rintro e w' ⟨rfl,⟨nd,rfl⟩⟩;refine ⟨_,rfl,?_⟩))
 go_ret
 exact eD_
def z50.f (l0:List Int):Option (Int):=some (l0.length:Int)
theorem z50.calls (A0:Option Addr) (c0:Nat) (l0:List Int) (r:Int) (w:World) (hr0:Kd.C (Kd.int .i64) w A0 l0.length l0) (hc0:l0.length≤c0) (h:z50.f l0=some r) :
  Calls Tryz.prog 50 #[.slice A0 l0.length c0] w fun e w'=>e=.returned (.int .i64 r)∧Dz w w':=by
 have HR0:=Zz.mk hr0
 have HC0:=Zz.mk hc0
 clear hr0 hc0
 have H:(some (l0.length:Int))=some r:=h
 clear h
 obtain rfl:=OI_ H
 go_enter Tryz.func50,Tryz.ntmps50
 go_wp2
 go_ret
 exact eD_
def z42.l0:Nat→Int→List Int→List (List Int)→Int→Int→Option (List Int)
 | 0,_,_,_,_,_=>none
 | k+1,x1,x5,x9,x10,x11=>if x11<x10 then (if 0≤x11 then (if x11<(x9.length:Int) then ((z50.f (rI_ x9 x11)).bind fun t103=>(if t103=(wrap64 (x1+1)) then (if x5.length<17592186044416 then (z42.l0 k x1 (x5 ++ [x11]) x9 x10 (wrap64 (x11+1))) else (none)) else (z42.l0 k x1 x5 x9 x10 (wrap64 (x11+1))))) else (none)) else (none)) else (some x5)
def z42.f (k:Nat) (l0_0:List (List Int)) (a1:Int):Option (List Int):=z42.l0 k a1 ([]:List Int) l0_0 (l0_0.length:Int) 0
theorem z42.calls (k:Nat) (A0_0:Option Addr) (c0_0:Nat) (l0_0:List (List Int)) (a1:Int) (r:List Int) (w:World) (hr0_0:Kd.C (Kd.slice 2 (Kd.int .i64)) w A0_0 l0_0.length l0_0) (hc0_0:l0_0.length≤c0_0) (h:z42.f k l0_0 a1=some r) :
  Calls Tryz.prog 42 #[.agg #[.slice A0_0 l0_0.length c0_0],.int .i64 a1] w fun e w'=>∃ v0_:Value,e=.returned (v0_)∧Kd.R (Kd.int .i64) 2 w' w.heap.size (fun _=>True) v0_ r∧Below w.heap.size w w':=by
 have hu26:=Tryz.underlying26
 have HR0_0:=Zz.mk hr0_0
 have HC0_0:=Zz.mk hc0_0
 clear hr0_0 hc0_0
 have HB:=Zz.mk (Below.refl w.heap.size w)
 have H:(z42.l0 k a1 ([]:List Int) l0_0 (l0_0.length:Int) 0)=some r:=h
 clear h
 have H':=Zz.mk H
 clear H
 go_enter Tryz.func42,Tryz.ntmps42
 go_wp2_with (first | ((with_reducible refine qAm (N:=2) rfl ?_);refine bx_ 2 #[.slice A0_0 l0_0.length c0_0] 26 ?_;intro gb101 hg w3 hbox hb;have BK101:=Zz.mk (hbox);have GW101:=Zz.mk ((gw_ hg (B_ HB.out)));have GE101:=GW101;replace HB:=Zz.mk (bT_ (B_ HB.out) hb);clear hb hbox hg;obtain ⟨hcz4_0,hfz4_0⟩:=Z1f_ BK101.out))
 go_loopg [5,11] k (fun kq v5 v11 w'=>∃ (x5_1:List Int) (x11_1:Int),v11=.int .i64 x11_1∧Zz (z42.l0 kq a1 x5_1 l0_0 (l0_0.length:Int) x11_1=some r)∧Zz (kq≤k)∧Zz (Kd.R (Kd.int .i64) 2 w' w.heap.size (fun _=>True) v5 x5_1)∧Zz (w'.heap[gb101]?=some (.cells #[(.slice A0_0 l0_0.length c0_0)] 26 (0,0)))∧Zz (Below w.heap.size w w'))
 case atStart=>exact ⟨(([]:List Int)),(0),E_,H',⟨Nat.le_refl _⟩,⟨by first | exact Kd.R_nil _ _ _ _ _ | exact Kd.N_nil _ _ _ _ _ | exact Kd.V_nil _ _ _ _ _ | exact Kd.Q_nil _ _ _ _ _ | exact Kd.S_nil _ _ _ _ _⟩,⟨KB_ BK101.out⟩,⟨B1_ HB.out GE101.out⟩⟩
 case round =>
  clear H'
  (try clear hcz4_0);(try clear hfz4_0)
  obtain ⟨x5_1,x11_1,rfl,HA,HK1,HO_5,BK101,HB⟩:=hrel
  cases gk with
  | zero=>exact absurd HA.out (by simp [z42.l0])
  | succ k1 =>
   have H:=HA.out
   clear HA
   simp only [z42.l0] at H
   by_cases c5:x11_1<(l0_0.length:Int)
   ·rw [if_pos c5] at H
    have c5b0:decide (x11_1<(l0_0.length:Int))=true:=decide_eq_true c5
    clear c5
    have c6b0:=O3_ H
    replace H:=O2_ H
    have c7b0:=O3_ H
    replace H:=O2_ H
    replace H:=OZ_ H
    obtain ⟨t103,A8,H⟩:=H
    by_cases c9:t103=(wrap64 (a1+1))
    ·rw [if_pos c9] at H
     have c9b0:(t103 == (wrap64 (a1+1)))=true:=beq_iff_eq.mpr c9
     have c9b1:(t103 != (wrap64 (a1+1)))=false:=bne_eq_false_iff_eq.mpr c9
     clear c9
     have c10:=O1_ H
     replace H:=O2_ H
     have LMc10:=Zz.mk c10
     clear c10
     obtain ⟨y104,hy104⟩:∃ y_:List Int,y_=(x5_1 ++ [x11_1]):=⟨_,rfl⟩
     replace H:(z42.l0 k1 a1 y104 l0_0 (l0_0.length:Int) (wrap64 (x11_1+1)))=some r:=Y_ hy104 H
     have Ny104:=Zz.mk hy104
     clear hy104
     have H':=Zz.mk H
     clear H
     have p102:0≤(x11_1:Int):=D_
     have q102:x11_1<(l0_0.length:Int):=D_
     obtain ⟨ad102,A102_0,c102_0,e102,hx102_0,hl102_0,hi102_0⟩:=qA2 HR0_0.out x11_1 p102 q102
     cases e102
     replace hx102_0:=(HB.out.cell (World.block_lt_of_cell? w _ hx102_0)).trans hx102_0
     have HR102_0:=Zz.mk hi102_0
     have HC102_0:=Zz.mk hl102_0
     clear hi102_0 hl102_0
     replace p102:=eq_true p102
     replace q102:=eq_true q102
     go_wp2_with (first | ((with_reducible refine gC_ (f:=50) rfl ?_);refine GL_ (some 17) rfl rfl Tryz.func50 #[.slice A102_0 (rI_ l0_0 x11_1).length c102_0] rfl (h:=?_);(with_reducible refine (z50.calls _ _ (rI_ l0_0 x11_1) t103 _ ?side1 ?side2 A8.out).mono ?_);(case side1=>exact KC_ (Kd.C_below HR102_0.out HB.out));(case side2=>exact HC102_0.out);rintro e w' ⟨rfl,⟨nd,rfl⟩⟩;refine ⟨_,rfl,?_⟩) | ((with_reducible refine qA0 (b:=.append) (xs:=#[.tmp 21,.tmp 23]) rfl ?_);at_builtin;refine Kd.R_append (Kd.int .i64) (w0:=w) w.heap.size rfl (.tmp 21) (.tmp 23) 30 2 (.int .i64 0) 8 rfl Tryz.underlying30 qB4 rfl (by decide) (by omega) u5 x5_1 x11_1 [.int .i64 x11_1] (fun _=>True) (fun _=>False) rfl rfl ?aP (fun _ hk=>hk.elim) ?aF ?aO ?aB ?aS ?aL ?_;(case aP=>exact rfl);(case aB=>exact (B1_ HB.out GE101.out));(case aF=>exact (fun _ _=>trivial));(case aO=>exact (KR_ HO_5.out));(case aS=>exact (bS_ (B1_ HB.out GE101.out)));(case aL=>have:=LMc10.out;omega);intro v105 w11 ho hb hg hat;rw [← Ny104.out] at ho;replace BK101:=Zz.mk (qA9 (g:=gb101) (o:=.cells #[.slice (some ad102) l0_0.length c0_0] 26 (0,0)) (KB_ BK101.out) hg (Kd.R_ne HO_5.out BK101.out (by decide)));replace HB:=Zz.mk (hb);have HO106:=Zz.mk (ho);clear HO_5;clear ho hb hg hat))
     go_roundg k1
     case measure=>exact Q1_ HK1
     case rel=>exact ⟨(y104),(wrap64 (x11_1+1)),E_,H',⟨Q1_ HK1⟩,⟨KR_ HO106.out⟩,⟨KB_ BK101.out⟩,⟨B1_ HB.out GE101.out⟩⟩
    rw [if_neg c9] at H
    have c9b0:(t103 == (wrap64 (a1+1)))=false:=beq_eq_false_iff_ne.mpr c9
    have c9b1:(t103 != (wrap64 (a1+1)))=true:=bne_iff_ne.mpr c9
    have H':=Zz.mk H
    clear H
    have p102:0≤(x11_1:Int):=D_
    have q102:x11_1<(l0_0.length:Int):=D_
    obtain ⟨ad102,A102_0,c102_0,e102,hx102_0,hl102_0,hi102_0⟩:=qA2 HR0_0.out x11_1 p102 q102
    cases e102
    replace hx102_0:=(HB.out.cell (World.block_lt_of_cell? w _ hx102_0)).trans hx102_0
    have HR102_0:=Zz.mk hi102_0
    have HC102_0:=Zz.mk hl102_0
    clear hi102_0 hl102_0
    replace p102:=eq_true p102
    replace q102:=eq_true q102
    go_wp2_with (first | ((with_reducible refine gC_ (f:=50) rfl ?_);refine GL_ (some 17) rfl rfl Tryz.func50 #[.slice A102_0 (rI_ l0_0 x11_1).length c102_0] rfl (h:=?_);(with_reducible refine (z50.calls _ _ (rI_ l0_0 x11_1) t103 _ ?side1 ?side2 A8.out).mono ?_);(case side1=>exact KC_ (Kd.C_below HR102_0.out HB.out));(case side2=>exact HC102_0.out);rintro e w' ⟨rfl,⟨nd,rfl⟩⟩;refine ⟨_,rfl,?_⟩))
    go_roundg k1
    case measure=>exact Q1_ HK1
    case rel=>exact ⟨(x5_1),(wrap64 (x11_1+1)),E_,H',⟨Q1_ HK1⟩,⟨KR_ HO_5.out⟩,⟨KB_ BK101.out⟩,⟨B1_ HB.out GE101.out⟩⟩
   rw [if_neg c5] at H
   have c5b0:decide (x11_1<(l0_0.length:Int))=false:=decide_eq_false c5
   clear c5
   obtain rfl:=OI_ H
   go_wp2
   go_ret
   exact ⟨_,F_,KR_ HO_5.out,B1_ HB.out GE101.out⟩
def z125.f (a0:Int):Option (Bool):=some (a0 != a0)
theorem z125.calls (a0:Int) (r:Bool) (w:World) (h:z125.f a0=some r) :
  Calls Tryz.prog 125 #[.int .i64 a0] w fun e w'=>e=.returned (.bool r)∧Dz w w':=by
 have H:(some (a0 != a0))=some r:=h
 clear h
 obtain rfl:=OI_ H
 go_enter Tryz.func125,Tryz.ntmps125
 go_wp2
 go_ret
 exact eD_
def z107.f (a0:Int) (a1:Int):Option (Int):=(z125.f a0).bind fun t101=>((z125.f a1).bind fun t102=>(if t101=true then (if t102=true then (some 0) else (some (-1))) else (if t102=true then (some 1) else (if a0<a1 then (some (-1)) else (if a0 > a1 then (some 1) else (some 0))))))
theorem z107.calls (a0:Int) (a1:Int) (r:Int) (w:World) (h:z107.f a0 a1=some r) :
  Calls Tryz.prog 107 #[.int .i64 a0,.int .i64 a1] w fun e w'=>e=.returned (.int .i64 r)∧Dz w w':=by
 have H:((z125.f a0).bind fun t101=>((z125.f a1).bind fun t102=>(if t101=true then (if t102=true then (some 0) else (some (-1))) else (if t102=true then (some 1) else (if a0<a1 then (some (-1)) else (if a0 > a1 then (some 1) else (some 0)))))))=some r:=h
 clear h
 replace H:=OZ_ H
 obtain ⟨t101,A3,H⟩:=H
 replace H:=OZ_ H
 obtain ⟨t102,A4,H⟩:=H
 by_cases c5:t101=true
 ·subst c5
  replace H:=T_ H
  by_cases c6:t102=true
  ·subst c6
   replace H:=T_ H
   obtain rfl:=OI_ H
   go_enter Tryz.func107,Tryz.ntmps107
   go_wp2_with (first | ((with_reducible refine gC_ (f:=125) rfl ?_);refine GL_ (some 8) rfl rfl Tryz.func125 #[.int .i64 a0] rfl (h:=?_);(with_reducible refine (z125.calls a0 true _ A3.out).mono ?_);rintro e w' ⟨rfl,⟨nd,rfl⟩⟩;refine ⟨_,rfl,?_⟩) | ((with_reducible refine gC_ (f:=125) rfl ?_);refine GL_ (some 10) rfl rfl Tryz.func125 #[.int .i64 a1] rfl (h:=?_);(with_reducible refine (z125.calls a1 true _ A4.out).mono ?_);rintro e w' ⟨rfl,⟨nd,rfl⟩⟩;refine ⟨_,rfl,?_⟩))
   go_ret
   exact eD_
  replace c6:=Bool.eq_false_iff.mpr c6
  subst c6
  replace H:=N_ H
  obtain rfl:=OI_ H
  go_enter Tryz.func107,Tryz.ntmps107
  go_wp2_with (first | ((with_reducible refine gC_ (f:=125) rfl ?_);refine GL_ (some 8) rfl rfl Tryz.func125 #[.int .i64 a0] rfl (h:=?_);(with_reducible refine (z125.calls a0 true _ A3.out).mono ?_);rintro e w' ⟨rfl,⟨nd,rfl⟩⟩;refine ⟨_,rfl,?_⟩) | ((with_reducible refine gC_ (f:=125) rfl ?_);refine GL_ (some 10) rfl rfl Tryz.func125 #[.int .i64 a1] rfl (h:=?_);(with_reducible refine (z125.calls a1 false _ A4.out).mono ?_);rintro e w' ⟨rfl,⟨nd,rfl⟩⟩;refine ⟨_,rfl,?_⟩))
  go_ret
  exact eD_
 replace c5:=Bool.eq_false_iff.mpr c5
 subst c5
 replace H:=N_ H
 by_cases c7:t102=true
 ·subst c7
  replace H:=T_ H
  obtain rfl:=OI_ H
  go_enter Tryz.func107,Tryz.ntmps107
  go_wp2_with (first | ((with_reducible refine gC_ (f:=125) rfl ?_);refine GL_ (some 8) rfl rfl Tryz.func125 #[.int .i64 a0] rfl (h:=?_);(with_reducible refine (z125.calls a0 false _ A3.out).mono ?_);rintro e w' ⟨rfl,⟨nd,rfl⟩⟩;refine ⟨_,rfl,?_⟩) | ((with_reducible refine gC_ (f:=125) rfl ?_);refine GL_ (some 10) rfl rfl Tryz.func125 #[.int .i64 a1] rfl (h:=?_);(with_reducible refine (z125.calls a1 true _ A4.out).mono ?_);rintro e w' ⟨rfl,⟨nd,rfl⟩⟩;refine ⟨_,rfl,?_⟩))
  go_ret
  exact eD_
 replace c7:=Bool.eq_false_iff.mpr c7
 subst c7
 replace H:=N_ H
 by_cases c8:a0<a1
 ·rw [if_pos c8] at H
  have c8b0:decide (a0<a1)=true:=decide_eq_true c8
  clear c8
  obtain rfl:=OI_ H
  go_enter Tryz.func107,Tryz.ntmps107
  go_wp2_with (first | ((with_reducible refine gC_ (f:=125) rfl ?_);refine GL_ (some 8) rfl rfl Tryz.func125 #[.int .i64 a0] rfl (h:=?_);(with_reducible refine (z125.calls a0 false _ A3.out).mono ?_);rintro e w' ⟨rfl,⟨nd,rfl⟩⟩;refine ⟨_,rfl,?_⟩) | ((with_reducible refine gC_ (f:=125) rfl ?_);refine GL_ (some 10) rfl rfl Tryz.func125 #[.int .i64 a1] rfl (h:=?_);(with_reducible refine (z125.calls a1 false _ A4.out).mono ?_);rintro e w' ⟨rfl,⟨nd,rfl⟩⟩;refine ⟨_,rfl,?_⟩))
  go_ret
  exact eD_
 rw [if_neg c8] at H
 have c8b0:decide (a0<a1)=false:=decide_eq_false c8
 clear c8
 by_cases c9:a0 > a1
 ·rw [if_pos c9] at H
  have c9b0:decide (a1<a0)=true:=decide_eq_true c9
  clear c9
  obtain rfl:=OI_ H
  go_enter Tryz.func107,Tryz.ntmps107
  go_wp2_with (first | ((with_reducible refine gC_ (f:=125) rfl ?_);refine GL_ (some 8) rfl rfl Tryz.func125 #[.int .i64 a0] rfl (h:=?_);(with_reducible refine (z125.calls a0 false _ A3.out).mono ?_);rintro e w' ⟨rfl,⟨nd,rfl⟩⟩;refine ⟨_,rfl,?_⟩) | ((with_reducible refine gC_ (f:=125) rfl ?_);refine GL_ (some 10) rfl rfl Tryz.func125 #[.int .i64 a1] rfl (h:=?_);(with_reducible refine (z125.calls a1 false _ A4.out).mono ?_);rintro e w' ⟨rfl,⟨nd,rfl⟩⟩;refine ⟨_,rfl,?_⟩))
  go_ret
  exact eD_
 rw [if_neg c9] at H
 have c9b0:decide (a1<a0)=false:=decide_eq_false c9
 clear c9
 obtain rfl:=OI_ H
 go_enter Tryz.func107,Tryz.ntmps107
 go_wp2_with (first | ((with_reducible refine gC_ (f:=125) rfl ?_);refine GL_ (some 8) rfl rfl Tryz.func125 #[.int .i64 a0] rfl (h:=?_);(with_reducible refine (z125.calls a0 false _ A3.out).mono ?_);rintro e w' ⟨rfl,⟨nd,rfl⟩⟩;refine ⟨_,rfl,?_⟩) | ((with_reducible refine gC_ (f:=125) rfl ?_);refine GL_ (some 10) rfl rfl Tryz.func125 #[.int .i64 a1] rfl (h:=?_);(with_reducible refine (z125.calls a1 false _ A4.out).mono ?_);rintro e w' ⟨rfl,⟨nd,rfl⟩⟩;refine ⟨_,rfl,?_⟩))
 go_ret
 exact eD_
def z106.l0:Nat→Int→List Int→Int→Int→Option (Int)
 | 0,_,_,_,_=>none
 | k+1,x3,x6,x7,x8=>if x8<x7 then (if 0≤x8 then (if x8<(x6.length:Int) then (if (rd x6 x8)=x3 then (z106.l0 k x3 x6 x7 (wrap64 (x8+1))) else (some (rd x6 x8))) else (none)) else (none)) else (some x3)
def z106.f (k:Nat) (l0:List Int):Option (Int):=z106.l0 k 0 l0 (l0.length:Int) 0
theorem z106.calls (k:Nat) (A0:Option Addr) (c0:Nat) (l0:List Int) (r:Int) (w:World) (hr0:Kd.C (Kd.int .i64) w A0 l0.length l0) (hc0:l0.length≤c0) (h:z106.f k l0=some r) :
  Calls Tryz.prog 106 #[.slice A0 l0.length c0] w fun e w'=>e=.returned (.int .i64 r)∧Dz w w':=by
 have HR0:=Zz.mk hr0
 have HC0:=Zz.mk hc0
 clear hr0 hc0
 have H:(z106.l0 k 0 l0 (l0.length:Int) 0)=some r:=h
 clear h
 have H':=Zz.mk H
 clear H
 go_enter Tryz.func106,Tryz.ntmps106
 go_wp2
 go_loopg [8] k (fun kq v8 w'=>∃ (x8_1:Int),v8=.int .i64 x8_1∧Zz (z106.l0 kq 0 l0 (l0.length:Int) x8_1=some r)∧Zz (kq≤k)∧Dz w w')
 case atStart=>exact ⟨(0),E_,H',⟨Nat.le_refl _⟩,by repeat (first | exact Dz.refl _ | apply Dz.step)⟩
 case round =>
  clear H'
  obtain ⟨x8_1,rfl,HA,HK1,⟨m1,rfl⟩⟩:=hrel
  cases gk with
  | zero=>exact absurd HA.out (by simp [z106.l0])
  | succ k1 =>
   have H:=HA.out
   clear HA
   simp only [z106.l0] at H
   by_cases c2:x8_1<(l0.length:Int)
   ·rw [if_pos c2] at H
    have c2b0:decide (x8_1<(l0.length:Int))=true:=decide_eq_true c2
    clear c2
    have c3b0:=O3_ H
    replace H:=O2_ H
    have c4b0:=O3_ H
    replace H:=O2_ H
    by_cases c5:(rd l0 x8_1)=0
    ·rw [if_pos c5] at H
     have c5b0:((rd l0 x8_1) == 0)=true:=beq_iff_eq.mpr c5
     have c5b1:((rd l0 x8_1) != 0)=false:=bne_eq_false_iff_eq.mpr c5
     clear c5
     have H':=Zz.mk H
     clear H
     have p101:0≤(x8_1:Int):=D_
     have q101:x8_1<(l0.length:Int):=D_
     obtain ⟨ad101,e101,hx101_0⟩:=Kd.at_int HR0.out x8_1 p101 q101
     cases e101
     replace p101:=eq_true p101
     replace q101:=eq_true q101
     go_wp2
     go_roundg k1
     case measure=>exact Q1_ HK1
     case rel=>exact ⟨(wrap64 (x8_1+1)),E_,H',⟨Q1_ HK1⟩,by repeat (first | exact Dz.refl _ | apply Dz.step)⟩
    rw [if_neg c5] at H
    have c5b0:((rd l0 x8_1) == 0)=false:=beq_eq_false_iff_ne.mpr c5
    have c5b1:((rd l0 x8_1) != 0)=true:=bne_iff_ne.mpr c5
    obtain rfl:=OI_ H
    have p101:0≤(x8_1:Int):=D_
    have q101:x8_1<(l0.length:Int):=D_
    obtain ⟨ad101,e101,hx101_0⟩:=Kd.at_int HR0.out x8_1 p101 q101
    cases e101
    replace p101:=eq_true p101
    replace q101:=eq_true q101
    go_wp2
    go_ret
    exact eD_
   rw [if_neg c2] at H
   have c2b0:decide (x8_1<(l0.length:Int))=false:=decide_eq_false c2
   clear c2
   obtain rfl:=OI_ H
   go_wp2
   go_ret
   exact eD_
def z132.f (a0:Int):Option (Bool):=some (a0 != a0)
theorem z132.calls (a0:Int) (r:Bool) (w:World) (h:z132.f a0=some r) :
  Calls Tryz.prog 132 #[.int .i64 a0] w fun e w'=>e=.returned (.bool r)∧Dz w w':=by
 have H:(some (a0 != a0))=some r:=h
 clear h
 obtain rfl:=OI_ H
 go_enter Tryz.func132,Tryz.ntmps132
 go_wp2
 go_ret
 exact eD_
def z126.f (a0:Int) (a1:Int):Option (Int):=(z132.f a0).bind fun t101=>((z132.f a1).bind fun t102=>(if t101=true then (if t102=true then (some 0) else (some (-1))) else (if t102=true then (some 1) else (if a0<a1 then (some (-1)) else (if a0 > a1 then (some 1) else (some 0))))))
theorem z126.calls (a0:Int) (a1:Int) (r:Int) (w:World) (h:z126.f a0 a1=some r) :
  Calls Tryz.prog 126 #[.int .i64 a0,.int .i64 a1] w fun e w'=>e=.returned (.int .i64 r)∧Dz w w':=by
 have H:((z132.f a0).bind fun t101=>((z132.f a1).bind fun t102=>(if t101=true then (if t102=true then (some 0) else (some (-1))) else (if t102=true then (some 1) else (if a0<a1 then (some (-1)) else (if a0 > a1 then (some 1) else (some 0)))))))=some r:=h
 clear h
 replace H:=OZ_ H
 obtain ⟨t101,A3,H⟩:=H
 replace H:=OZ_ H
 obtain ⟨t102,A4,H⟩:=H
 by_cases c5:t101=true
 ·subst c5
  replace H:=T_ H
  by_cases c6:t102=true
  ·subst c6
   replace H:=T_ H
   obtain rfl:=OI_ H
   go_enter Tryz.func126,Tryz.ntmps126
   go_wp2_with (first | ((with_reducible refine gC_ (f:=132) rfl ?_);refine GL_ (some 8) rfl rfl Tryz.func132 #[.int .i64 a0] rfl (h:=?_);(with_reducible refine (z132.calls a0 true _ A3.out).mono ?_);rintro e w' ⟨rfl,⟨nd,rfl⟩⟩;refine ⟨_,rfl,?_⟩) | ((with_reducible refine gC_ (f:=132) rfl ?_);refine GL_ (some 10) rfl rfl Tryz.func132 #[.int .i64 a1] rfl (h:=?_);(with_reducible refine (z132.calls a1 true _ A4.out).mono ?_);rintro e w' ⟨rfl,⟨nd,rfl⟩⟩;refine ⟨_,rfl,?_⟩))
   go_ret
   exact eD_
  replace c6:=Bool.eq_false_iff.mpr c6
  subst c6
  replace H:=N_ H
  obtain rfl:=OI_ H
  go_enter Tryz.func126,Tryz.ntmps126
  go_wp2_with (first | ((with_reducible refine gC_ (f:=132) rfl ?_);refine GL_ (some 8) rfl rfl Tryz.func132 #[.int .i64 a0] rfl (h:=?_);(with_reducible refine (z132.calls a0 true _ A3.out).mono ?_);rintro e w' ⟨rfl,⟨nd,rfl⟩⟩;refine ⟨_,rfl,?_⟩) | ((with_reducible refine gC_ (f:=132) rfl ?_);refine GL_ (some 10) rfl rfl Tryz.func132 #[.int .i64 a1] rfl (h:=?_);(with_reducible refine (z132.calls a1 false _ A4.out).mono ?_);rintro e w' ⟨rfl,⟨nd,rfl⟩⟩;refine ⟨_,rfl,?_⟩))
  go_ret
  exact eD_
 replace c5:=Bool.eq_false_iff.mpr c5
 subst c5
 replace H:=N_ H
 by_cases c7:t102=true
 ·subst c7
  replace H:=T_ H
  obtain rfl:=OI_ H
  go_enter Tryz.func126,Tryz.ntmps126
  go_wp2_with (first | ((with_reducible refine gC_ (f:=132) rfl ?_);refine GL_ (some 8) rfl rfl Tryz.func132 #[.int .i64 a0] rfl (h:=?_);(with_reducible refine (z132.calls a0 false _ A3.out).mono ?_);rintro e w' ⟨rfl,⟨nd,rfl⟩⟩;refine ⟨_,rfl,?_⟩) | ((with_reducible refine gC_ (f:=132) rfl ?_);refine GL_ (some 10) rfl rfl Tryz.func132 #[.int .i64 a1] rfl (h:=?_);(with_reducible refine (z132.calls a1 true _ A4.out).mono ?_);rintro e w' ⟨rfl,⟨nd,rfl⟩⟩;refine ⟨_,rfl,?_⟩))
  go_ret
  exact eD_
 replace c7:=Bool.eq_false_iff.mpr c7
 subst c7
 replace H:=N_ H
 by_cases c8:a0<a1
 ·rw [if_pos c8] at H
  have c8b0:decide (a0<a1)=true:=decide_eq_true c8
  clear c8
  obtain rfl:=OI_ H
  go_enter Tryz.func126,Tryz.ntmps126
  go_wp2_with (first | ((with_reducible refine gC_ (f:=132) rfl ?_);refine GL_ (some 8) rfl rfl Tryz.func132 #[.int .i64 a0] rfl (h:=?_);(with_reducible refine (z132.calls a0 false _ A3.out).mono ?_);rintro e w' ⟨rfl,⟨nd,rfl⟩⟩;refine ⟨_,rfl,?_⟩) | ((with_reducible refine gC_ (f:=132) rfl ?_);refine GL_ (some 10) rfl rfl Tryz.func132 #[.int .i64 a1] rfl (h:=?_);(with_reducible refine (z132.calls a1 false _ A4.out).mono ?_);rintro e w' ⟨rfl,⟨nd,rfl⟩⟩;refine ⟨_,rfl,?_⟩))
  go_ret
  exact eD_
 rw [if_neg c8] at H
 have c8b0:decide (a0<a1)=false:=decide_eq_false c8
 clear c8
 by_cases c9:a0 > a1
 ·rw [if_pos c9] at H
  have c9b0:decide (a1<a0)=true:=decide_eq_true c9
  clear c9
  obtain rfl:=OI_ H
  go_enter Tryz.func126,Tryz.ntmps126
  go_wp2_with (first | ((with_reducible refine gC_ (f:=132) rfl ?_);refine GL_ (some 8) rfl rfl Tryz.func132 #[.int .i64 a0] rfl (h:=?_);(with_reducible refine (z132.calls a0 false _ A3.out).mono ?_);rintro e w' ⟨rfl,⟨nd,rfl⟩⟩;refine ⟨_,rfl,?_⟩) | ((with_reducible refine gC_ (f:=132) rfl ?_);refine GL_ (some 10) rfl rfl Tryz.func132 #[.int .i64 a1] rfl (h:=?_);(with_reducible refine (z132.calls a1 false _ A4.out).mono ?_);rintro e w' ⟨rfl,⟨nd,rfl⟩⟩;refine ⟨_,rfl,?_⟩))
  go_ret
  exact eD_
 rw [if_neg c9] at H
 have c9b0:decide (a1<a0)=false:=decide_eq_false c9
 clear c9
 obtain rfl:=OI_ H
 go_enter Tryz.func126,Tryz.ntmps126
 go_wp2_with (first | ((with_reducible refine gC_ (f:=132) rfl ?_);refine GL_ (some 8) rfl rfl Tryz.func132 #[.int .i64 a0] rfl (h:=?_);(with_reducible refine (z132.calls a0 false _ A3.out).mono ?_);rintro e w' ⟨rfl,⟨nd,rfl⟩⟩;refine ⟨_,rfl,?_⟩) | ((with_reducible refine gC_ (f:=132) rfl ?_);refine GL_ (some 10) rfl rfl Tryz.func132 #[.int .i64 a1] rfl (h:=?_);(with_reducible refine (z132.calls a1 false _ A4.out).mono ?_);rintro e w' ⟨rfl,⟨nd,rfl⟩⟩;refine ⟨_,rfl,?_⟩))
 go_ret
 exact eD_
def z108.l0:Nat→List Int→List Int→List Int→Int→Int→Option (Int)
 | 0,_,_,_,_,_=>none
 | k+1,x0,x1,x9,x10,x11=>if x11<x10 then (if 0≤x11 then (if x11<(x9.length:Int) then (if x11 ≥ (x1.length:Int) then (some 1) else (if x11<(x1.length:Int) then ((z126.f (rd x9 x11) (rd x1 x11)).bind fun t103=>(if t103=0 then (z108.l0 k x0 x1 x9 x10 (wrap64 (x11+1))) else (some t103))) else (none))) else (none)) else (none)) else (if (x0.length:Int)<(x1.length:Int) then (some (-1)) else (some 0))
def z108.f (k:Nat) (l0:List Int) (l1:List Int):Option (Int):=z108.l0 k l0 l1 l0 (l0.length:Int) 0
theorem z108.calls (k:Nat) (A0:Option Addr) (c0:Nat) (l0:List Int) (A1:Option Addr) (c1:Nat) (l1:List Int) (r:Int) (w:World) (hr0:Kd.C (Kd.int .i64) w A0 l0.length l0) (hc0:l0.length≤c0) (hr1:Kd.C (Kd.int .i64) w A1 l1.length l1) (hc1:l1.length≤c1) (h:z108.f k l0 l1=some r) :
  Calls Tryz.prog 108 #[.slice A0 l0.length c0,.slice A1 l1.length c1] w fun e w'=>e=.returned (.int .i64 r)∧Dz w w':=by
 have HR0:=Zz.mk hr0
 have HC0:=Zz.mk hc0
 clear hr0 hc0
 have HR1:=Zz.mk hr1
 have HC1:=Zz.mk hc1
 clear hr1 hc1
 have H:(z108.l0 k l0 l1 l0 (l0.length:Int) 0)=some r:=h
 clear h
 have H':=Zz.mk H
 clear H
 go_enter Tryz.func108,Tryz.ntmps108
 go_wp2
 go_loopg [11] k (fun kq v11 w'=>∃ (x11_1:Int),v11=.int .i64 x11_1∧Zz (z108.l0 kq l0 l1 l0 (l0.length:Int) x11_1=some r)∧Zz (kq≤k)∧Dz w w')
 case atStart=>exact ⟨(0),E_,H',⟨Nat.le_refl _⟩,by repeat (first | exact Dz.refl _ | apply Dz.step)⟩
 case round =>
  clear H'
  (try clear c1)
  obtain ⟨x11_1,rfl,HA,HK1,⟨m1,rfl⟩⟩:=hrel
  cases gk with
  | zero=>exact absurd HA.out (by simp [z108.l0])
  | succ k1 =>
   have H:=HA.out
   clear HA
   simp only [z108.l0] at H
   by_cases c3:x11_1<(l0.length:Int)
   ·rw [if_pos c3] at H
    have c3b0:decide (x11_1<(l0.length:Int))=true:=decide_eq_true c3
    clear c3
    have c4b0:=O3_ H
    replace H:=O2_ H
    have c5b0:=O3_ H
    replace H:=O2_ H
    by_cases c6:x11_1 ≥ (l1.length:Int)
    ·rw [if_pos c6] at H
     have c6b0:decide ((l1.length:Int)≤x11_1)=true:=decide_eq_true c6
     clear c6
     obtain rfl:=OI_ H
     have p101:0≤(x11_1:Int):=D_
     have q101:x11_1<(l0.length:Int):=D_
     obtain ⟨ad101,e101,hx101_0⟩:=Kd.at_int HR0.out x11_1 p101 q101
     cases e101
     replace p101:=eq_true p101
     replace q101:=eq_true q101
     go_wp2
     go_ret
     exact eD_
    rw [if_neg c6] at H
    have c6b0:decide ((l1.length:Int)≤x11_1)=false:=decide_eq_false c6
    clear c6
    have c7b0:=O3_ H
    replace H:=O2_ H
    replace H:=OZ_ H
    obtain ⟨t103,A8,H⟩:=H
    by_cases c9:t103=0
    ·rw [if_pos c9] at H
     have c9b0:(t103 == 0)=true:=beq_iff_eq.mpr c9
     have c9b1:(t103 != 0)=false:=bne_eq_false_iff_eq.mpr c9
     clear c9
     have H':=Zz.mk H
     clear H
     have p101:0≤(x11_1:Int):=D_
     have q101:x11_1<(l0.length:Int):=D_
     obtain ⟨ad101,e101,hx101_0⟩:=Kd.at_int HR0.out x11_1 p101 q101
     cases e101
     replace p101:=eq_true p101
     replace q101:=eq_true q101
     have p102:0≤(x11_1:Int):=D_
     have q102:x11_1<(l1.length:Int):=D_
     obtain ⟨ad102,e102,hx102_0⟩:=Kd.at_int HR1.out x11_1 p102 q102
     cases e102
     replace p102:=eq_true p102
     replace q102:=eq_true q102
     go_wp2_with (first | ((with_reducible refine gC_ (f:=126) rfl ?_);refine GL_ (some 26) rfl rfl Tryz.func126 #[.int .i64 (rd l0 x11_1),.int .i64 (rd l1 x11_1)] rfl (h:=?_);(with_reducible refine (z126.calls (rd l0 x11_1) (rd l1 x11_1) t103 _ A8.out).mono ?_);rintro e w' ⟨rfl,⟨nd,rfl⟩⟩;refine ⟨_,rfl,?_⟩))
     go_roundg k1
     case measure=>exact Q1_ HK1
     case rel=>exact ⟨(wrap64 (x11_1+1)),E_,H',⟨Q1_ HK1⟩,by repeat (first | exact Dz.refl _ | apply Dz.step)⟩
    rw [if_neg c9] at H
    have c9b0:(t103 == 0)=false:=beq_eq_false_iff_ne.mpr c9
    have c9b1:(t103 != 0)=true:=bne_iff_ne.mpr c9
    obtain rfl:=OI_ H
    have p101:0≤(x11_1:Int):=D_
    have q101:x11_1<(l0.length:Int):=D_
    obtain ⟨ad101,e101,hx101_0⟩:=Kd.at_int HR0.out x11_1 p101 q101
    cases e101
    replace p101:=eq_true p101
    replace q101:=eq_true q101
    have p102:0≤(x11_1:Int):=D_
    have q102:x11_1<(l1.length:Int):=D_
    obtain ⟨ad102,e102,hx102_0⟩:=Kd.at_int HR1.out x11_1 p102 q102
    cases e102
    replace p102:=eq_true p102
    replace q102:=eq_true q102
    go_wp2_with (first | ((with_reducible refine gC_ (f:=126) rfl ?_);refine GL_ (some 26) rfl rfl Tryz.func126 #[.int .i64 (rd l0 x11_1),.int .i64 (rd l1 x11_1)] rfl (h:=?_);(with_reducible refine (z126.calls (rd l0 x11_1) (rd l1 x11_1) t103 _ A8.out).mono ?_);rintro e w' ⟨rfl,⟨nd,rfl⟩⟩;refine ⟨_,rfl,?_⟩))
    go_ret
    exact eD_
   rw [if_neg c3] at H
   have c3b0:decide (x11_1<(l0.length:Int))=false:=decide_eq_false c3
   clear c3
   by_cases c10:(l0.length:Int)<(l1.length:Int)
   ·rw [if_pos c10] at H
    have c10b0:decide ((l0.length:Int)<(l1.length:Int))=true:=decide_eq_true c10
    have c10b1:decide (l0.length<l1.length)=true:=decide_eq_true (Int.ofNat_lt.mp c10)
    clear c10
    obtain rfl:=OI_ H
    go_wp2
    go_ret
    exact eD_
   rw [if_neg c10] at H
   have c10b0:decide ((l0.length:Int)<(l1.length:Int))=false:=decide_eq_false c10
   have c10b1:decide (l0.length<l1.length)=false:=decide_eq_false (fun h=>c10 (Int.ofNat_lt.mpr h))
   clear c10
   obtain rfl:=OI_ H
   go_wp2
   go_ret
   exact eD_
def z77.f (k:Nat) (l0:List Int) (l1:List Int):Option (Int):=(z107.f (l0.length:Int) (l1.length:Int)).bind fun t101=>((z108.f k l0 l1).bind fun t102=>((z106.f k (([t101,t102]:List Int))).bind fun t106=>(some t106)))
theorem z77.calls (k:Nat) (A0:Option Addr) (c0:Nat) (l0:List Int) (A1:Option Addr) (c1:Nat) (l1:List Int) (r:Int) (w:World) (hr0:Kd.C (Kd.int .i64) w A0 l0.length l0) (hc0:l0.length≤c0) (hr1:Kd.C (Kd.int .i64) w A1 l1.length l1) (hc1:l1.length≤c1) (h:z77.f k l0 l1=some r) :
  Calls Tryz.prog 77 #[.slice A0 l0.length c0,.slice A1 l1.length c1] w fun e w'=>e=.returned (.int .i64 r)∧Below w.heap.size w w':=by
 have HR0:=Zz.mk hr0
 have HC0:=Zz.mk hc0
 clear hr0 hc0
 have HR1:=Zz.mk hr1
 have HC1:=Zz.mk hc1
 clear hr1 hc1
 have HB:=Zz.mk (Below.refl w.heap.size w)
 have H:((z107.f (l0.length:Int) (l1.length:Int)).bind fun t101=>((z108.f k l0 l1).bind fun t102=>((z106.f k (([t101,t102]:List Int))).bind fun t106=>(some t106))))=some r:=h
 clear h
 replace H:=OZ_ H
 obtain ⟨t101,A3,H⟩:=H
 replace H:=OZ_ H
 obtain ⟨t102,A4,H⟩:=H
 obtain ⟨y103,hy103⟩:∃ y_:List Int,y_=(([t101,t102]:List Int)):=⟨_,rfl⟩
 replace H:((z106.f k y103).bind fun t106=>(some t106))=some r:=Y_ hy103 H
 have Ny103:=Zz.mk hy103
 clear hy103
 replace H:=OZ_ H
 obtain ⟨t106,A5,H⟩:=H
 obtain rfl:=OI_ H
 go_enter Tryz.func77,Tryz.ntmps77
 go_wp2_with (first | ((with_reducible refine gC_ (f:=107) rfl ?_);refine GL_ (some 9) rfl rfl Tryz.func107 #[.int .i64 (l0.length:Int),.int .i64 (l1.length:Int)] rfl (h:=?_);(with_reducible refine (z107.calls (l0.length:Int) (l1.length:Int) t101 _ A3.out).mono ?_);rintro e w' ⟨rfl,⟨nd,rfl⟩⟩;refine ⟨_,rfl,?_⟩) | ((with_reducible refine gC_ (f:=108) rfl ?_);refine GL_ (some 12) rfl rfl Tryz.func108 #[.slice A0 l0.length c0,.slice A1 l1.length c1] rfl (h:=?_);(with_reducible refine (z108.calls k _ _ l0 _ _ l1 t102 _ ?side1 ?side2 ?side3 ?side4 A4.out).mono ?_);(case side1=>exact KC_ HR0.out);(case side2=>exact HC0.out);(case side3=>exact KC_ HR1.out);(case side4=>exact HC1.out);rintro e w' ⟨rfl,⟨nd,rfl⟩⟩;refine ⟨_,rfl,?_⟩) | ((with_reducible refine qAm (N:=13) rfl ?_);refine Kd.R_lit (Kd.int .i64) _ 3 ?hg (N:=13) ?hd (xs:=([t101,t102]:List Int)) (inner:=[.int .i64 t101,.int .i64 t102]) (ok:=fun _=>True) (okp:=fun _=>True) ?hr ?hp (fun _ hk=>hk) trivial (Below.refl _ _) (Nat.le_refl _) (by simp) ?_;(case hd=>rfl);(case hg=>rfl);(case hr=>first | (go_simp;done) | (go_simp;rfl));(case hp=>exact (Reps.one (show Kd.M (Kd.int .i64) _ _ _ t101 [.int .i64 t101] from rfl) (Reps.one (show Kd.M (Kd.int .i64) _ _ _ t102 [.int .i64 t102] from rfl) (Reps.none _ _))));intro v104 w6 ho7 hb hg_ hnew_;clear hg_ hnew_;(first | rw [← Ny103.out] at ho7 | (simp only [Int.reduceToNat] at ho7;rw [← Ny103.out] at ho7));have HO105:=Zz.mk (Kd.R_lower ho7 (bS_ (B_ HB.out)));replace HB:=Zz.mk (bT_ (B_ HB.out) hb);clear hb ho7;obtain ⟨Ao8,co8,eo8⟩:=Kd.R_slice HO105.out;subst eo8) | ((with_reducible refine gC_ (f:=106) rfl ?_);refine GL_ (some 14) rfl rfl Tryz.func106 #[.slice Ao8 y103.length co8] rfl (h:=?_);(with_reducible refine (z106.calls k _ _ y103 t106 _ ?side1 ?side2 A5.out).mono ?_);(case side1=>exact KC_ (Kd.R_reads' HO105.out).2.2);(case side2=>exact (Kd.R_reads' HO105.out).2.1);rintro e w' ⟨rfl,⟨nd,rfl⟩⟩;refine ⟨_,rfl,?_⟩))
 go_ret
 exact ⟨F_,B_ HB.out⟩
end Go.Proofs.YtpgjfppbbbnclaaGreat.B
namespace Go.Proofs.YtpgjfppbbbnclaaGreat.B
open Go.RowKit Go.Proofs.YtpgjfppbbbnclaaGreatW.PrintWords Go.Proofs.YtpgjfppbbbnclaaGreatW.PrintLast Go.Proofs.YtpgjfppbbbnclaaGreatW.PrintMore
def slices_Grow_int64_int64.f (l0:List Int) (a1:Int):Option (List Int):=if (l0=[]∧0≤a1)∧a1≤17592186044415 then some [] else none
theorem slices_Grow_int64_int64.calls (A0:Option Addr) (c0:Nat) (l0:List Int) (a1:Int) (r:List Int) (w:World) (hr0:Kd.C (Kd.int .i64) w A0 l0.length l0) (hc0:l0.length≤c0) (h:slices_Grow_int64_int64.f l0 a1=some r) (hA:A0=none:=by rfl) (hC:c0=0:=by rfl) :
    Calls Tryz.prog 128 #[.slice A0 l0.length c0,.int .i64 a1] w fun e w'=>∃ v0_:Value,e=.returned (v0_)∧Kd.R (Kd.int .i64) 2 w' w.heap.size (fun _=>True) v0_ r∧Below w.heap.size w w':=by
  unfold slices_Grow_int64_int64.f at h
  have hc:=O1_ h
  obtain rfl:=Option.some.inj (O2_ h)
  obtain ⟨⟨rfl,h0⟩,hm⟩:=hc
  subst hA;subst hC
  clear h hr0 hc0
  have hw3:wrap64 a1=a1:=by unfold wrap64;omega
  have d0:decide (a1<0)=false:=decide_eq_false (by omega)
  by_cases hz:a1=0
  · subst hz
    clear hw3
    go_enter Tryz.func128,Tryz.ntmps128
    go_wp2
    go_ret
    exact ⟨_,rfl,Kd.R_nil _ _ _ _ _,Below.refl _ _⟩
  have d1:decide (0<wrap64 a1)=true:=decide_eq_true (by omega)
  have HM:=Zz.mk (show wrap64 a1≤17592186044415 by omega)
  have H0:=Zz.mk (show 0≤wrap64 a1 by omega)
  clear hz hm h0 hw3
  go_enter Tryz.func128,Tryz.ntmps128
  go_wp2_with ((with_reducible refine qA0 (b:=.append) (xs:=#[.tmp 20,.tmp 21]) rfl ?_);at_builtin;refine Kd.R_append_zeros (Kd.int .i64) (w0:=w) w.heap.size rfl (.tmp 20) (.tmp 21) 30 3 2 (.int .i64 0) 8 rfl Tryz.underlying30 Tryz.underlying3 qB4 rfl (by decide) (by omega) (.slice none 0 0) ([]:List Int) 0 (wrap64 a1) (fun _=>True) rfl rfl rfl (fun _ _=>trivial) (Kd.R_nil _ _ _ _ _) H0.out (Below.refl _ _) (Nat.le_refl _) (by have:=HM.out;have:=H0.out;simp only [List.length_nil];omega) ?_;intro v1 w1 ho hb hg hat;obtain ⟨A1,cc,rfl⟩:=Kd.R_slice ho;have HO:=Zz.mk (Kd.R_take ho (Nat.zero_le _));have HB:=Zz.mk hb;clear ho hb hg hat)
  go_ret
  exact ⟨_,rfl,by simpa using HO.out,HB.out⟩
end Go.Proofs.YtpgjfppbbbnclaaGreat.B
namespace Go.Proofs.YtpgjfppbbbnclaaGreat.B
open Go.RowKit Go.Proofs.YtpgjfppbbbnclaaGreatW.PrintWords Go.Proofs.YtpgjfppbbbnclaaGreatW.PrintLast Go.Proofs.YtpgjfppbbbnclaaGreatW.PrintMore
attribute [local go_sem] qAq qAo qAu qAt qAl qAk qAp qAn
mutual
def z115.l0:Nat→List (List Int)→Int→List (List Int)→Int→Int→Option (List Int)
 | 0,_,_,_,_,_=>none
 | k+1,x0,x3,x9,x10,x11=>if x11<x10 then (if 0≤x11 then (if x11<(x9.length:Int) then (if (wrap64 (x3+((rI_ x9 x11).length:Int)))<0 then (none) else (z115.l0 k x0 (wrap64 (x3+((rI_ x9 x11).length:Int))) x9 x10 (wrap64 (x11+1)))) else (none)) else (none)) else ((slices_Grow_int64_int64.f ([]:List Int) x3).bind fun t102=>(z115.l1 k t102 x0 (x0.length:Int) 0))
def z115.l1:Nat→List Int→List (List Int)→Int→Int→Option (List Int)
 | 0,_,_,_,_=>none
 | k+1,x6,x25,x26,x27=>if x27<x26 then (if 0≤x27 then (if x27<(x25.length:Int) then (if x6.length+(rI_ x25 x27).length<17592186044416 then (z115.l1 k (x6 ++ (rI_ x25 x27)) x25 x26 (wrap64 (x27+1))) else (none)) else (none)) else (none)) else (some x6)
end
def z115.f (k:Nat) (l0:List (List Int)):Option (List Int):=z115.l0 k l0 0 l0 (l0.length:Int) 0
theorem z115.calls (k:Nat) (A0:Option Addr) (c0:Nat) (l0:List (List Int)) (r:List Int) (w:World) (hr0:Kd.C (Kd.slice 2 (Kd.int .i64)) w A0 l0.length l0) (hc0:l0.length≤c0) (h:z115.f k l0=some r) :
  Calls Tryz.prog 115 #[.slice A0 l0.length c0] w fun e w'=>∃ v0_:Value,e=.returned (v0_)∧Kd.R (Kd.int .i64) 2 w' w.heap.size (fun _=>True) v0_ r∧Below w.heap.size w w':=by
 have HR0:=Zz.mk hr0
 have HC0:=Zz.mk hc0
 clear hr0 hc0
 have HB:=Zz.mk (Below.refl w.heap.size w)
 have H:(z115.l0 k l0 0 l0 (l0.length:Int) 0)=some r:=h
 clear h
 have H':=Zz.mk H
 clear H
 go_enter Tryz.func115,Tryz.ntmps115
 go_wp2
 go_loopg [3,11] k (fun kq v3 v11 w'=>∃ (x3_1:Int) (x11_1:Int),v3=.int .i64 x3_1∧v11=.int .i64 x11_1∧Zz (z115.l0 kq l0 x3_1 l0 (l0.length:Int) x11_1=some r)∧Zz (kq≤k)∧Zz (Below w.heap.size w w'))
 case atStart=>exact ⟨(0),(0),E_,E_,H',⟨Nat.le_refl _⟩,⟨B_ HB.out⟩⟩
 case round =>
  clear H'
  obtain ⟨x3_1,x11_1,rfl,rfl,HA,HK1,HB⟩:=hrel
  cases gk with
  | zero=>exact absurd HA.out (by simp [z115.l0])
  | succ k1 =>
   have H:=HA.out
   clear HA
   simp only [z115.l0] at H
   by_cases c2:x11_1<(l0.length:Int)
   ·rw [if_pos c2] at H
    have c2b0:decide (x11_1<(l0.length:Int))=true:=decide_eq_true c2
    clear c2
    have c3b0:=O3_ H
    replace H:=O2_ H
    have c4b0:=O3_ H
    replace H:=O2_ H
    by_cases c5:(wrap64 (x3_1+((rI_ l0 x11_1).length:Int)))<0
    ·rw [if_pos c5] at H
     exact X_ H
    rw [if_neg c5] at H
    have c5b0:decide ((wrap64 (x3_1+((rI_ l0 x11_1).length:Int)))<0)=false:=decide_eq_false c5
    clear c5
    have H':=Zz.mk H
    clear H
    have p101:0≤(x11_1:Int):=D_
    have q101:x11_1<(l0.length:Int):=D_
    obtain ⟨ad101,A101_0,c101_0,e101,hx101_0,hl101_0,hi101_0⟩:=qA2 HR0.out x11_1 p101 q101
    cases e101
    replace hx101_0:=(HB.out.cell (World.block_lt_of_cell? w _ hx101_0)).trans hx101_0
    have HR101_0:=Zz.mk hi101_0
    have HC101_0:=Zz.mk hl101_0
    clear hi101_0 hl101_0
    replace p101:=eq_true p101
    replace q101:=eq_true q101
    go_wp2
    go_roundg k1
    case measure=>exact Q1_ HK1
    case rel=>exact ⟨(wrap64 (x3_1+((rI_ l0 x11_1).length:Int))),(wrap64 (x11_1+1)),E_,E_,H',⟨Q1_ HK1⟩,⟨B_ HB.out⟩⟩
   rw [if_neg c2] at H
   have c2b0:decide (x11_1<(l0.length:Int))=false:=decide_eq_false c2
   clear c2
   replace H:=OZ_ H
   obtain ⟨t102,A6,H⟩:=H
   have H':=Zz.mk H
   clear H
   go_wp2_with (first | ((with_reducible refine gC_ (f:=128) rfl ?_);refine GL_ (some 24) rfl rfl Tryz.func128 #[.slice none 0 0,.int .i64 x3_1] rfl (h:=?_);(refine (slices_Grow_int64_int64.calls _ _ ([]:List Int) x3_1 t102 _ ?side1 ?side2 A6.out).mono ?_);(case side1=>exact Kd.C_nil _ _);(case side2=>exact Nat.le_refl _);rintro e w7 ⟨v103,rfl,ho0,hb⟩;refine ⟨_,rfl,?_⟩;have HO104:=Zz.mk (Kd.R_lower ho0 (bS_ (B_ HB.out)));replace HB:=Zz.mk (bT_ (B_ HB.out) hb);(try clear hb);(try clear ho0)))
   go_loopg [6,27] k1 (fun kq v6 v27 w'=>∃ (x6_2:List Int) (x27_2:Int),v27=.int .i64 x27_2∧Zz (z115.l1 kq x6_2 l0 (l0.length:Int) x27_2=some r)∧Zz (kq≤k1)∧Zz (Kd.R (Kd.int .i64) 2 w' w.heap.size (fun _=>True) v6 x6_2)∧Zz (Below w.heap.size w w'))
   case atStart=>exact ⟨(t102),(0),E_,H',⟨Nat.le_refl _⟩,⟨KR_ HO104.out⟩,⟨B_ HB.out⟩⟩
   case round =>
    clear H'
    (try clear c2);(try clear c2b0)
    obtain ⟨x6_2,x27_2,rfl,HA,HK2,HO_6,HB⟩:=hrel
    cases gk with
    | zero=>exact absurd HA.out (by simp [z115.l1])
    | succ k2 =>
     have H:=HA.out
     clear HA
     simp only [z115.l1] at H
     by_cases c8:x27_2<(l0.length:Int)
     ·rw [if_pos c8] at H
      have c8b0:decide (x27_2<(l0.length:Int))=true:=decide_eq_true c8
      clear c8
      have c9b0:=O3_ H
      replace H:=O2_ H
      have c10b0:=O3_ H
      replace H:=O2_ H
      have c11:=O1_ H
      replace H:=O2_ H
      have LMc11:=Zz.mk c11
      clear c11
      obtain ⟨y106,hy106⟩:∃ y_:List Int,y_=(x6_2 ++ (rI_ l0 x27_2)):=⟨_,rfl⟩
      replace H:(z115.l1 k2 y106 l0 (l0.length:Int) (wrap64 (x27_2+1)))=some r:=Y_ hy106 H
      have Ny106:=Zz.mk hy106
      clear hy106
      have H':=Zz.mk H
      clear H
      have p105:0≤(x27_2:Int):=D_
      have q105:x27_2<(l0.length:Int):=D_
      obtain ⟨ad105,A105_0,c105_0,e105,hx105_0,hl105_0,hi105_0⟩:=qA2 HR0.out x27_2 p105 q105
      cases e105
      replace hx105_0:=(HB.out.cell (World.block_lt_of_cell? w _ hx105_0)).trans hx105_0
      have HR105_0:=Zz.mk hi105_0
      have HC105_0:=Zz.mk hl105_0
      clear hi105_0 hl105_0
      replace p105:=eq_true p105
      replace q105:=eq_true q105
      go_wp2_with (first | ((with_reducible refine qA0 (b:=.append) (xs:=#[.tmp 31,.tmp 32]) rfl ?_);at_builtin;refine Kd.R_append_rows (Kd.int .i64) (w0:=w) w.heap.size rfl (.tmp 31) (.tmp 32) 30 2 (.int .i64 0) 8 rfl Tryz.underlying30 qB4 rfl (by decide) (by omega) u6 x6_2 (rI_ l0 x27_2) _ _ _ (fun _=>True) (fun _=>False) rfl rfl ?aO ?aR (fun _ _ h=>h) (fun _ h=>h.elim) ?aF ?aB ?aS ?aL ?_;(case aR=>exact KC_ (Kd.C_below HR105_0.out HB.out));(case aB=>exact (B_ HB.out));(case aF=>exact (fun _ _=>trivial));(case aO=>exact (KR_ HO_6.out));(case aS=>exact (bS_ (B_ HB.out)));(case aL=>have:=LMc11.out;omega);intro v107 w12 ho hb hg hat;rw [← Ny106.out] at ho;replace HB:=Zz.mk (hb);have HO108:=Zz.mk (ho);clear HO_6;clear ho hb hg hat))
      go_roundg k2
      case measure=>exact Q2_ HK1 HK2
      case rel=>exact ⟨(y106),(wrap64 (x27_2+1)),E_,H',⟨Q2_ HK1 HK2⟩,⟨KR_ HO108.out⟩,⟨B_ HB.out⟩⟩
     rw [if_neg c8] at H
     have c8b0:decide (x27_2<(l0.length:Int))=false:=decide_eq_false c8
     clear c8
     obtain rfl:=OI_ H
     go_wp2
     go_ret
     exact ⟨_,F_,KR_ HO_6.out,B_ HB.out⟩
def z111.l0:Nat→List Int→Int→Option (Bool)
 | 0,_,_=>none
 | k+1,x0,x3=>if x3<(x0.length:Int) then (if 0≤(wrap64 (x3 - 1)) then (if (wrap64 (x3 - 1))<(x0.length:Int) then (if 0≤x3 then (if (rd x0 (wrap64 (x3 - 1))) ≥ (rd x0 x3) then (some false) else (z111.l0 k x0 (wrap64 (x3+1)))) else (none)) else (none)) else (none)) else (some true)
def z111.f (k:Nat) (l0:List Int):Option (Bool):=z111.l0 k l0 1
theorem z111.calls (k:Nat) (A0:Option Addr) (c0:Nat) (l0:List Int) (r:Bool) (w:World) (hr0:Kd.C (Kd.int .i64) w A0 l0.length l0) (hc0:l0.length≤c0) (h:z111.f k l0=some r) :
  Calls Tryz.prog 111 #[.slice A0 l0.length c0] w fun e w'=>e=.returned (.bool r)∧Dz w w':=by
 have HR0:=Zz.mk hr0
 have HC0:=Zz.mk hc0
 clear hr0 hc0
 have H:(z111.l0 k l0 1)=some r:=h
 clear h
 have H':=Zz.mk H
 clear H
 go_enter Tryz.func111,Tryz.ntmps111
 go_wp2
 repeat (go_quiet (fail);try go_wp2)
 go_loopg [3] k (fun kq v3 w'=>∃ (x3_1:Int),v3=.int .i64 x3_1∧Zz (z111.l0 kq l0 x3_1=some r)∧Zz (kq≤k)∧Dz w w')
 case atStart=>exact ⟨(1),E_,H',⟨Nat.le_refl _⟩,by repeat (first | exact Dz.refl _ | apply Dz.step)⟩
 case round =>
  clear H'
  obtain ⟨x3_1,rfl,HA,HK1,⟨m1,rfl⟩⟩:=hrel
  cases gk with
  | zero=>exact absurd HA.out (by simp [z111.l0])
  | succ k1 =>
   have H:=HA.out
   clear HA
   simp only [z111.l0] at H
   by_cases c2:x3_1<(l0.length:Int)
   ·rw [if_pos c2] at H
    have c2b0:decide (x3_1<(l0.length:Int))=true:=decide_eq_true c2
    clear c2
    obtain ⟨ji3,hji3⟩:∃ j_:Int,(wrap64 (x3_1 - 1))=j_:=⟨_,rfl⟩
    replace H:(if 0≤(ji3) then (if (ji3)<(l0.length:Int) then (if 0≤x3_1 then (if (rd l0 (ji3)) ≥ (rd l0 x3_1) then (some false) else (z111.l0 k1 l0 (wrap64 (x3_1+1)))) else (none)) else (none)) else (none))=some r:=by first | (rw [hji3] at H;exact H) | (simp only [hji3] at H ⊢;exact H)
    have hji3w:(IntKind.i64.wrap (x3_1 - 1))=ji3:=(qBl _).trans hji3
    have c4b0:=O3_ H
    replace H:=O2_ H
    have c5b0:=O3_ H
    replace H:=O2_ H
    have c6b0:=O3_ H
    replace H:=O2_ H
    by_cases c7:(rd l0 (ji3)) ≥ (rd l0 x3_1)
    ·rw [if_pos c7] at H
     have c7b0:decide ((rd l0 x3_1)≤(rd l0 (ji3)))=true:=decide_eq_true c7
     clear c7
     obtain rfl:=OI_ H
     have p101:0≤((ji3):Int):=D_
     have q101:(ji3)<(l0.length:Int):=D_
     obtain ⟨ad101,e101,hx101_0⟩:=Kd.at_int HR0.out (ji3) p101 q101
     cases e101
     replace p101:=eq_true p101
     replace q101:=eq_true q101
     have p102:0≤(x3_1:Int):=D_
     have q102:x3_1<(l0.length:Int):=D_
     obtain ⟨ad102,e102,hx102_0⟩:=Kd.at_int HR0.out x3_1 p102 q102
     obtain rfl:ad101=ad102:=(by injection e102)
     replace p102:=eq_true p102
     replace q102:=eq_true q102
     go_wp2
     repeat (go_quiet (fail);try go_wp2)
     go_ret
     exact ⟨by first | rfl | (simp;done) | (simp only [← hji3] <;> (first | rfl | simp)) | (simp [*];done),by repeat (first | exact Dz.refl _ | apply Dz.step)⟩
    rw [if_neg c7] at H
    have c7b0:decide ((rd l0 x3_1)≤(rd l0 (ji3)))=false:=decide_eq_false c7
    clear c7
    have H':=Zz.mk H
    clear H
    have p101:0≤((ji3):Int):=D_
    have q101:(ji3)<(l0.length:Int):=D_
    obtain ⟨ad101,e101,hx101_0⟩:=Kd.at_int HR0.out (ji3) p101 q101
    cases e101
    replace p101:=eq_true p101
    replace q101:=eq_true q101
    have p102:0≤(x3_1:Int):=D_
    have q102:x3_1<(l0.length:Int):=D_
    obtain ⟨ad102,e102,hx102_0⟩:=Kd.at_int HR0.out x3_1 p102 q102
    obtain rfl:ad101=ad102:=(by injection e102)
    replace p102:=eq_true p102
    replace q102:=eq_true q102
    go_wp2
    repeat (go_quiet (fail);try go_wp2)
    go_roundg k1
    case measure=>exact Q1_ HK1
    case rel=>exact ⟨(wrap64 (x3_1+1)),E_,H',⟨Q1_ HK1⟩,by repeat (first | exact Dz.refl _ | apply Dz.step)⟩
   rw [if_neg c2] at H
   have c2b0:decide (x3_1<(l0.length:Int))=false:=decide_eq_false c2
   clear c2
   obtain rfl:=OI_ H
   go_wp2
   repeat (go_quiet (fail);try go_wp2)
   go_ret
   exact eD_
def z113.f (a0:Int):Option (Bool):=(z101.f a0 0 9).bind fun t101=>(some t101)
theorem z113.calls (a0:Int) (r:Bool) (w:World) (h:z113.f a0=some r) :
  Calls Tryz.prog 113 #[.int .i64 a0] w fun e w'=>e=.returned (.bool r)∧Dz w w':=by
 have H:((z101.f a0 0 9).bind fun t101=>(some t101))=some r:=h
 clear h
 replace H:=OZ_ H
 obtain ⟨t101,A2,H⟩:=H
 obtain rfl:=OI_ H
 go_enter Tryz.func113,Tryz.ntmps113
 go_wp2_with (first | ((with_reducible refine gC_ (f:=101) rfl ?_);refine GL_ (some 4) rfl rfl Tryz.func101 #[.int .i64 a0,.int .i64 0,.int .i64 9] rfl (h:=?_);(with_reducible refine (z101.calls a0 0 9 t101 _ A2.out).mono ?_);rintro e w' ⟨rfl,⟨nd,rfl⟩⟩;refine ⟨_,rfl,?_⟩))
 go_ret
 exact eD_
def z112.f (a0:Int):Option (Bool):=(z113.f a0).bind fun t101=>(some (!t101))
theorem z112.calls (a0:Int) (r:Bool) (w:World) (h:z112.f a0=some r) :
  Calls Tryz.prog 112 #[.int .i64 a0] w fun e w'=>e=.returned (.bool r)∧Dz w w':=by
 have H:((z113.f a0).bind fun t101=>(some (!t101)))=some r:=h
 clear h
 replace H:=OZ_ H
 obtain ⟨t101,A2,H⟩:=H
 obtain rfl:=OI_ H
 go_enter Tryz.func112,Tryz.ntmps112
 go_wp2_with (first | ((with_reducible refine gC_ (f:=113) rfl ?_);refine GL_ (some 4) rfl rfl Tryz.func113 #[.int .i64 a0] rfl (h:=?_);(with_reducible refine (z113.calls a0 t101 _ A2.out).mono ?_);rintro e w' ⟨rfl,⟨nd,rfl⟩⟩;refine ⟨_,rfl,?_⟩))
 go_ret
 exact eD_
def z153.l0:Nat→List Int→Int→Int→Option (Int)
 | 0,_,_,_=>none
 | k+1,x0,x7,x8=>if x8<x7 then (if 0≤x8 then (if x8<(x0.length:Int) then ((z112.f (rd x0 x8)).bind fun t102=>(if t102=true then (some x8) else (z153.l0 k x0 x7 (wrap64 (x8+1))))) else (none)) else (none)) else (some (-1))
def z153.f (k:Nat) (l0:List Int) :Option (Int):=z153.l0 k l0 (l0.length:Int) 0
theorem z153.calls (k:Nat) (A0:Option Addr) (c0:Nat) (l0:List Int)  (r:Int) (w:World) (hr0:Kd.C (Kd.int .i64) w A0 l0.length l0) (hc0:l0.length≤c0) (h:z153.f k l0=some r) :
  Calls Tryz.prog 123 #[.slice A0 l0.length c0,.func (.func 112) #[] #[]] w fun e w'=>e=.returned (.int .i64 r)∧Below w.heap.size w w':=by
 have HR0:=Zz.mk hr0
 have HC0:=Zz.mk hc0
 clear hr0 hc0
 have HB:=Zz.mk (Below.refl w.heap.size w)
 have H:(z153.l0 k l0 (l0.length:Int) 0)=some r:=h
 clear h
 have H':=Zz.mk H
 clear H
 go_enter Tryz.func123,Tryz.ntmps123
 go_wp2
 go_loopg [8] k (fun kq v8 w'=>∃ (x8_1:Int),v8=.int .i64 x8_1∧Zz (z153.l0 kq l0 (l0.length:Int) x8_1=some r)∧Zz (kq≤k)∧Zz (Below w.heap.size w w'))
 case atStart=>exact ⟨(0),E_,H',⟨Nat.le_refl _⟩,⟨B_ HB.out⟩⟩
 case round =>
  clear H'
  obtain ⟨x8_1,rfl,HA,HK1,HB⟩:=hrel
  cases gk with
  | zero=>exact absurd HA.out (by simp [z153.l0])
  | succ k1 =>
   have H:=HA.out
   clear HA
   simp only [z153.l0] at H
   by_cases c3:x8_1<(l0.length:Int)
   ·rw [if_pos c3] at H
    have c3b0:decide (x8_1<(l0.length:Int))=true:=decide_eq_true c3
    clear c3
    have c4b0:=O3_ H
    replace H:=O2_ H
    have c5b0:=O3_ H
    replace H:=O2_ H
    replace H:=OZ_ H
    obtain ⟨t102,A6,H⟩:=H
    by_cases c7:t102=true
    ·subst c7
     replace H:=T_ H
     obtain rfl:=OI_ H
     have p101:0≤(x8_1:Int):=D_
     have q101:x8_1<(l0.length:Int):=D_
     obtain ⟨ad101,e101,hx101_0⟩:=Kd.at_int HR0.out x8_1 p101 q101
     cases e101
     replace hx101_0:=(HB.out.cell (World.block_lt_of_cell? w _ hx101_0)).trans hx101_0
     replace p101:=eq_true p101
     replace q101:=eq_true q101
     go_wp2_with (first | (go_at_call 112;(with_reducible refine (z112.calls (rd l0 x8_1) true _ A6.out).mono ?_);rintro e w' ⟨rfl,⟨nd,rfl⟩⟩))
     go_ret
     exact ⟨F_,B_ HB.out⟩
    replace c7:=Bool.eq_false_iff.mpr c7
    subst c7
    replace H:=N_ H
    have H':=Zz.mk H
    clear H
    have p101:0≤(x8_1:Int):=D_
    have q101:x8_1<(l0.length:Int):=D_
    obtain ⟨ad101,e101,hx101_0⟩:=Kd.at_int HR0.out x8_1 p101 q101
    cases e101
    replace hx101_0:=(HB.out.cell (World.block_lt_of_cell? w _ hx101_0)).trans hx101_0
    replace p101:=eq_true p101
    replace q101:=eq_true q101
    go_wp2_with (first | (go_at_call 112;(with_reducible refine (z112.calls (rd l0 x8_1) false _ A6.out).mono ?_);rintro e w' ⟨rfl,⟨nd,rfl⟩⟩))
    go_roundg k1
    case measure=>exact Q1_ HK1
    case rel=>exact ⟨(wrap64 (x8_1+1)),E_,H',⟨Q1_ HK1⟩,⟨B_ HB.out⟩⟩
   rw [if_neg c3] at H
   have c3b0:decide (x8_1<(l0.length:Int))=false:=decide_eq_false c3
   clear c3
   obtain rfl:=OI_ H
   go_wp2
   go_ret
   exact ⟨F_,B_ HB.out⟩
def z152.f (k:Nat) (l0:List Int) :Option (Bool):=(z153.f k l0).bind fun t101=>(some (decide (t101 ≥ 0)))
theorem z152.calls (k:Nat) (A0:Option Addr) (c0:Nat) (l0:List Int)  (r:Bool) (w:World) (hr0:Kd.C (Kd.int .i64) w A0 l0.length l0) (hc0:l0.length≤c0) (h:z152.f k l0=some r) :
  Calls Tryz.prog 102 #[.slice A0 l0.length c0,.func (.func 112) #[] #[]] w fun e w'=>e=.returned (.bool r)∧Below w.heap.size w w':=by
 have HR0:=Zz.mk hr0
 have HC0:=Zz.mk hc0
 clear hr0 hc0
 have HB:=Zz.mk (Below.refl w.heap.size w)
 have H:((z153.f k l0).bind fun t101=>(some (decide (t101 ≥ 0))))=some r:=h
 clear h
 replace H:=OZ_ H
 obtain ⟨t101,A3,H⟩:=H
 obtain rfl:=OI_ H
 go_enter Tryz.func102,Tryz.ntmps102
 go_wp2_with (first | ((with_reducible refine gC_ (f:=123) rfl ?_);refine GL_ (some 7) rfl rfl Tryz.func123 #[.slice A0 l0.length c0,.func (.func 112) #[] #[]] rfl (h:=?_);(with_reducible refine (z153.calls k _ _ l0  t101 _ ?side1 ?side2 A3.out).mono ?_);(case side1=>exact KC_ HR0.out);(case side2=>exact HC0.out);rintro e w4 ⟨rfl,hb⟩;refine ⟨_,rfl,?_⟩;replace HB:=Zz.mk (bT_ (B_ HB.out) hb);(try clear hb)))
 go_ret
 exact ⟨F_,B_ HB.out⟩
def z81.f (k:Nat) (l0:List Int):Option (Bool):=if (l0.length:Int) ≥ 1 then (if (l0.length:Int)≤4 then ((z111.f k l0).bind fun t101=>(if t101=true then ((z152.f k l0).bind fun t102=>(some (!t102))) else (some false))) else (some false)) else (some false)
theorem z81.calls (k:Nat) (A0:Option Addr) (c0:Nat) (l0:List Int) (r:Bool) (w:World) (hr0:Kd.C (Kd.int .i64) w A0 l0.length l0) (hc0:l0.length≤c0) (h:z81.f k l0=some r) :
  Calls Tryz.prog 81 #[.slice A0 l0.length c0] w fun e w'=>e=.returned (.bool r)∧Below w.heap.size w w':=by
 have HR0:=Zz.mk hr0
 have HC0:=Zz.mk hc0
 clear hr0 hc0
 have HB:=Zz.mk (Below.refl w.heap.size w)
 have H:(if (l0.length:Int) ≥ 1 then (if (l0.length:Int)≤4 then ((z111.f k l0).bind fun t101=>(if t101=true then ((z152.f k l0).bind fun t102=>(some (!t102))) else (some false))) else (some false)) else (some false))=some r:=h
 clear h
 by_cases c2:(l0.length:Int) ≥ 1
 ·rw [if_pos c2] at H
  have c2b0:decide (1≤(l0.length:Int))=true:=decide_eq_true c2
  have c2b1:decide (1≤l0.length)=true:=decide_eq_true (by omega)
  clear c2
  by_cases c3:(l0.length:Int)≤4
  ·rw [if_pos c3] at H
   have c3b0:decide ((l0.length:Int)≤4)=true:=decide_eq_true c3
   have c3b1:decide (l0.length≤4)=true:=decide_eq_true (by omega)
   clear c3
   replace H:=OZ_ H
   obtain ⟨t101,A4,H⟩:=H
   by_cases c5:t101=true
   ·subst c5
    replace H:=T_ H
    replace H:=OZ_ H
    obtain ⟨t102,A6,H⟩:=H
    obtain rfl:=OI_ H
    go_enter Tryz.func81,Tryz.ntmps81
    go_wp2_with (first | (go_at_call 111;(with_reducible refine (z111.calls k _ _ l0 true _ ?side1 ?side2 A4.out).mono ?_);(case side1=>exact KC_ HR0.out);(case side2=>exact HC0.out);rintro e w' ⟨rfl,⟨nd,rfl⟩⟩) | (go_at_call 102;(with_reducible refine (z152.calls k _ _ l0  t102 _ ?side1 ?side2 A6.out).mono ?_);(case side1=>exact KC_ HR0.out);(case side2=>exact HC0.out);rintro e w7 ⟨rfl,hb⟩;replace HB:=Zz.mk (bT_ (B_ HB.out) hb);(try clear hb)))
    go_ret
    exact ⟨F_,B_ HB.out⟩
   replace c5:=Bool.eq_false_iff.mpr c5
   subst c5
   replace H:=N_ H
   obtain rfl:=OI_ H
   go_enter Tryz.func81,Tryz.ntmps81
   go_wp2_with (first | (go_at_call 111;(with_reducible refine (z111.calls k _ _ l0 false _ ?side1 ?side2 A4.out).mono ?_);(case side1=>exact KC_ HR0.out);(case side2=>exact HC0.out);rintro e w' ⟨rfl,⟨nd,rfl⟩⟩))
   go_ret
   exact ⟨F_,B_ HB.out⟩
  rw [if_neg c3] at H
  have c3b0:decide ((l0.length:Int)≤4)=false:=decide_eq_false c3
  have c3b1:decide (l0.length≤4)=false:=decide_eq_false (by omega)
  clear c3
  obtain rfl:=OI_ H
  go_enter Tryz.func81,Tryz.ntmps81
  go_wp2
  go_ret
  exact ⟨F_,B_ HB.out⟩
 rw [if_neg c2] at H
 have c2b0:decide (1≤(l0.length:Int))=false:=decide_eq_false c2
 have c2b1:decide (1≤l0.length)=false:=decide_eq_false (by omega)
 clear c2
 obtain rfl:=OI_ H
 go_enter Tryz.func81,Tryz.ntmps81
 go_wp2
 go_ret
 exact ⟨F_,B_ HB.out⟩
def z154.l0:Nat→List (List Int)→List Int→Int→Int→Int→Option (Int × Bool)
 | 0,_,_,_,_,_=>none
 | k+1,x0,x1,x8,x9,x10=>if x9<x10 then (if 0≤(wrap64 ((IntKind.u64.wrap (wrap64 (x9+x10))) / 2)) then (if (wrap64 ((IntKind.u64.wrap (wrap64 (x9+x10))) / 2))<(x0.length:Int) then ((z77.f k (rI_ x0 (wrap64 ((IntKind.u64.wrap (wrap64 (x9+x10))) / 2))) x1).bind fun t102=>(if t102<0 then (z154.l0 k x0 x1 x8 (wrap64 ((wrap64 ((IntKind.u64.wrap (wrap64 (x9+x10))) / 2))+1)) x10) else (z154.l0 k x0 x1 x8 x9 (wrap64 ((IntKind.u64.wrap (wrap64 (x9+x10))) / 2))))) else (none)) else (none)) else (if x9<x8 then (if 0≤x9 then (if x9<(x0.length:Int) then ((z77.f k (rI_ x0 x9) x1).bind fun t104=>(some (x9,(t104 == 0)))) else (none)) else (none)) else (some (x9,false)))
def z154.f (k:Nat) (l0:List (List Int)) (l1:List Int) :Option (Int × Bool):=z154.l0 k l0 l1 (l0.length:Int) 0 (l0.length:Int)
theorem z154.calls (k:Nat) (A0:Option Addr) (c0:Nat) (l0:List (List Int)) (A1:Option Addr) (c1:Nat) (l1:List Int)  (r1:Int) (r2:Bool) (w:World) (hr0:Kd.C (Kd.slice 2 (Kd.int .i64)) w A0 l0.length l0) (hc0:l0.length≤c0) (hr1:Kd.C (Kd.int .i64) w A1 l1.length l1) (hc1:l1.length≤c1) (h:z154.f k l0 l1=some (r1,r2)) :
  Calls Tryz.prog 76 #[.slice A0 l0.length c0,.slice A1 l1.length c1,.func (.func 77) #[] #[]] w fun e w'=>e=.returned (.tuple #[.int .i64 r1,.bool r2])∧Below w.heap.size w w':=by
 have HR0:=Zz.mk hr0
 have HC0:=Zz.mk hc0
 clear hr0 hc0
 have HR1:=Zz.mk hr1
 have HC1:=Zz.mk hc1
 clear hr1 hc1
 have HB:=Zz.mk (Below.refl w.heap.size w)
 have H:(z154.l0 k l0 l1 (l0.length:Int) 0 (l0.length:Int))=some (r1,r2):=h
 clear h
 have H':=Zz.mk H
 clear H
 go_enter Tryz.func76,Tryz.ntmps76
 go_wp2
 go_loopg [9,10] k (fun kq v9 v10 w'=>∃ (x9_1:Int) (x10_1:Int),v9=.int .i64 x9_1∧v10=.int .i64 x10_1∧Zz (z154.l0 kq l0 l1 (l0.length:Int) x9_1 x10_1=some (r1,r2))∧Zz (kq≤k)∧Zz (Below w.heap.size w w'))
 case atStart=>exact ⟨(0),((l0.length:Int)),E_,E_,H',⟨Nat.le_refl _⟩,⟨B_ HB.out⟩⟩
 case round =>
  clear H'
  (try clear c1)
  obtain ⟨x9_1,x10_1,rfl,rfl,HA,HK1,HB⟩:=hrel
  cases gk with
  | zero=>exact absurd HA.out (by simp [z154.l0])
  | succ k1 =>
   have H:=HA.out
   clear HA
   simp only [z154.l0] at H
   by_cases c4:x9_1<x10_1
   ·rw [if_pos c4] at H
    have c4b0:decide (x9_1<x10_1)=true:=decide_eq_true c4
    clear c4
    obtain ⟨ji5,hji5⟩:∃ j_:Int,(wrap64 ((IntKind.u64.wrap (wrap64 (x9_1+x10_1))) / 2))=j_:=⟨_,rfl⟩
    replace H:(if 0≤(ji5) then (if (ji5)<(l0.length:Int) then ((z77.f k1 (rI_ l0 (ji5)) l1).bind fun t102=>(if t102<0 then (z154.l0 k1 l0 l1 (l0.length:Int) (wrap64 ((ji5)+1)) x10_1) else (z154.l0 k1 l0 l1 (l0.length:Int) x9_1 ji5))) else (none)) else (none))=some (r1,r2):=by first | (rw [hji5] at H;exact H) | (simp only [hji5] at H ⊢;exact H)
    have hji5w:(IntKind.i64.wrap ((IntKind.u64.wrap (wrap64 (x9_1+x10_1))) / 2))=ji5:=(qBl _).trans hji5
    have c6b0:=O3_ H
    replace H:=O2_ H
    have c7b0:=O3_ H
    replace H:=O2_ H
    replace H:=OB_ H
    obtain ⟨t102,A80,H⟩:=H
    replace H:(if t102<0 then (z154.l0 k1 l0 l1 (l0.length:Int) (wrap64 ((ji5)+1)) x10_1) else (z154.l0 k1 l0 l1 (l0.length:Int) x9_1 ji5))=some (r1,r2):=H
    have A8:=Zz.mk A80
    clear A80
    by_cases c9:t102<0
    ·rw [if_pos c9] at H
     have c9b0:decide (t102<0)=true:=decide_eq_true c9
     clear c9
     have H':=Zz.mk H
     clear H
     have p101:0≤((ji5):Int):=D_
     have q101:(ji5)<(l0.length:Int):=D_
     obtain ⟨ad101,A101_0,c101_0,e101,hx101_0,hl101_0,hi101_0⟩:=qA2 HR0.out (ji5) p101 q101
     cases e101
     replace hx101_0:=(HB.out.cell (World.block_lt_of_cell? w _ hx101_0)).trans hx101_0
     have HR101_0:=Zz.mk hi101_0
     have HC101_0:=Zz.mk hl101_0
     clear hi101_0 hl101_0
     replace p101:=eq_true p101
     replace q101:=eq_true q101
     go_wp2_with (first | (go_at_call 77;(with_reducible refine (z77.calls k1 _ _ (rI_ l0 (ji5)) _ _ l1 t102 _ ?side1 ?side2 ?side3 ?side4 A8.out).mono ?_);(case side1=>exact KC_ (Kd.C_below HR101_0.out HB.out));(case side2=>exact HC101_0.out);(case side3=>exact KC_ (Kd.C_below HR1.out HB.out));(case side4=>exact HC1.out);rintro e w10 ⟨rfl,hb⟩;replace HB:=Zz.mk (bT_ (B_ HB.out) hb);(try clear hb)))
     go_roundg k1
     case measure=>exact Q1_ HK1
     case rel=>exact ⟨(wrap64 ((ji5)+1)),(x10_1),(by first | rfl | (simp;done) | (simp only [← hji5] <;> (first | rfl | simp)) | (simp [*];done)),E_,H',⟨Q1_ HK1⟩,⟨B_ HB.out⟩⟩
    rw [if_neg c9] at H
    have c9b0:decide (t102<0)=false:=decide_eq_false c9
    clear c9
    have H':=Zz.mk H
    clear H
    have p101:0≤((ji5):Int):=D_
    have q101:(ji5)<(l0.length:Int):=D_
    obtain ⟨ad101,A101_0,c101_0,e101,hx101_0,hl101_0,hi101_0⟩:=qA2 HR0.out (ji5) p101 q101
    cases e101
    replace hx101_0:=(HB.out.cell (World.block_lt_of_cell? w _ hx101_0)).trans hx101_0
    have HR101_0:=Zz.mk hi101_0
    have HC101_0:=Zz.mk hl101_0
    clear hi101_0 hl101_0
    replace p101:=eq_true p101
    replace q101:=eq_true q101
    go_wp2_with (first | (go_at_call 77;(with_reducible refine (z77.calls k1 _ _ (rI_ l0 (ji5)) _ _ l1 t102 _ ?side1 ?side2 ?side3 ?side4 A8.out).mono ?_);(case side1=>exact KC_ (Kd.C_below HR101_0.out HB.out));(case side2=>exact HC101_0.out);(case side3=>exact KC_ (Kd.C_below HR1.out HB.out));(case side4=>exact HC1.out);rintro e w11 ⟨rfl,hb⟩;replace HB:=Zz.mk (bT_ (B_ HB.out) hb);(try clear hb)))
    go_roundg k1
    case measure=>exact Q1_ HK1
    case rel=>exact ⟨(x9_1),(ji5),E_,(by first | rfl | (simp;done) | (simp only [← hji5] <;> (first | rfl | simp)) | (simp [*];done)),H',⟨Q1_ HK1⟩,⟨B_ HB.out⟩⟩
   rw [if_neg c4] at H
   have c4b0:decide (x9_1<x10_1)=false:=decide_eq_false c4
   clear c4
   by_cases c12:x9_1<(l0.length:Int)
   ·rw [if_pos c12] at H
    have c12b0:decide (x9_1<(l0.length:Int))=true:=decide_eq_true c12
    clear c12
    have c13b0:=O3_ H
    replace H:=O2_ H
    have c14b0:=O3_ H
    replace H:=O2_ H
    replace H:=OB_ H
    obtain ⟨t104,A150,H⟩:=H
    replace H:(some (x9_1,(t104 == 0)))=some (r1,r2):=H
    have A15:=Zz.mk A150
    clear A150
    simp only [Option.some.injEq,Prod.mk.injEq] at H
    obtain ⟨rfl,rfl⟩:=H
    have p103:0≤(x9_1:Int):=D_
    have q103:x9_1<(l0.length:Int):=D_
    obtain ⟨ad103,A103_0,c103_0,e103,hx103_0,hl103_0,hi103_0⟩:=qA2 HR0.out x9_1 p103 q103
    cases e103
    replace hx103_0:=(HB.out.cell (World.block_lt_of_cell? w _ hx103_0)).trans hx103_0
    have HR103_0:=Zz.mk hi103_0
    have HC103_0:=Zz.mk hl103_0
    clear hi103_0 hl103_0
    replace p103:=eq_true p103
    replace q103:=eq_true q103
    go_wp2_with (first | (go_at_call 77;(with_reducible refine (z77.calls k1 _ _ (rI_ l0 x9_1) _ _ l1 t104 _ ?side1 ?side2 ?side3 ?side4 A15.out).mono ?_);(case side1=>exact KC_ (Kd.C_below HR103_0.out HB.out));(case side2=>exact HC103_0.out);(case side3=>exact KC_ (Kd.C_below HR1.out HB.out));(case side4=>exact HC1.out);rintro e w16 ⟨rfl,hb⟩;replace HB:=Zz.mk (bT_ (B_ HB.out) hb);(try clear hb)))
    go_ret2
    exact ⟨F_,B_ HB.out⟩
   rw [if_neg c12] at H
   have c12b0:decide (x9_1<(l0.length:Int))=false:=decide_eq_false c12
   clear c12
   simp only [Option.some.injEq,Prod.mk.injEq] at H
   obtain ⟨rfl,rfl⟩:=H
   go_wp2
   go_ret2
   exact ⟨F_,B_ HB.out⟩
def z44.f (k:Nat) (l0_0:List (List Int)) (l1:List Int):Option (Int):=(z154.f k l0_0 l1).bind fun bt102=>(if bt102.2=true then (some bt102.1) else (some (-1)))
theorem z44.calls (k:Nat) (A0_0:Option Addr) (c0_0:Nat) (l0_0:List (List Int)) (A1:Option Addr) (c1:Nat) (l1:List Int) (r:Int) (w:World) (hr0_0:Kd.C (Kd.slice 2 (Kd.int .i64)) w A0_0 l0_0.length l0_0) (hc0_0:l0_0.length≤c0_0) (hr1:Kd.C (Kd.int .i64) w A1 l1.length l1) (hc1:l1.length≤c1) (h:z44.f k l0_0 l1=some r) :
  Calls Tryz.prog 44 #[.agg #[.slice A0_0 l0_0.length c0_0],.slice A1 l1.length c1] w fun e w'=>e=.returned (.int .i64 r)∧Below w.heap.size w w':=by
 have hu26:=Tryz.underlying26
 have HR0_0:=Zz.mk hr0_0
 have HC0_0:=Zz.mk hc0_0
 clear hr0_0 hc0_0
 have HR1:=Zz.mk hr1
 have HC1:=Zz.mk hc1
 clear hr1 hc1
 have HB:=Zz.mk (Below.refl w.heap.size w)
 have H:((z154.f k l0_0 l1).bind fun bt102=>(if bt102.2=true then (some bt102.1) else (some (-1))))=some r:=h
 clear h
 replace H:=OB_ H
 obtain ⟨⟨t102,t103⟩,A30,H⟩:=H
 try dsimp only at H
 have A3:=Zz.mk A30
 clear A30
 by_cases c4:t103=true
 ·subst c4
  replace H:=T_ H
  obtain rfl:=OI_ H
  go_enter Tryz.func44,Tryz.ntmps44
  go_wp2_with (first | ((with_reducible refine qAm (N:=2) rfl ?_);refine bx_ 2 #[.slice A0_0 l0_0.length c0_0] 26 ?_;intro gb101 hg w5 hbox hb;have BK101:=Zz.mk (hbox);have GW101:=Zz.mk ((gw_ hg (B_ HB.out)));have GE101:=GW101;replace HB:=Zz.mk (bT_ (B_ HB.out) hb);clear hb hbox hg;obtain ⟨hcz6_0,hfz6_0⟩:=Z1f_ BK101.out) | ((with_reducible refine gC_ (f:=76) rfl ?_);refine GL_ (some 11) rfl rfl Tryz.func76 #[.slice A0_0 l0_0.length c0_0,.slice A1 l1.length c1,.func (.func 77) #[] #[]] rfl (h:=?_);(with_reducible refine (z154.calls k _ _ l0_0 _ _ l1  t102 true _ ?side1 ?side2 ?side3 ?side4 A3.out).mono ?_);(case side1=>exact KC_ (Kd.C_below HR0_0.out HB.out));(case side2=>exact HC0_0.out);(case side3=>exact KC_ (Kd.C_below HR1.out HB.out));(case side4=>exact HC1.out);rintro e w7 ⟨rfl,hb⟩;refine ⟨_,rfl,?_⟩;replace BK101:=Zz.mk (kb_ BK101.out hb);replace HB:=Zz.mk (bT_ (B1_ HB.out GE101.out) hb);(try clear hb)))
  go_ret
  exact ⟨F_,B1_ HB.out GE101.out⟩
 replace c4:=Bool.eq_false_iff.mpr c4
 subst c4
 replace H:=N_ H
 obtain rfl:=OI_ H
 go_enter Tryz.func44,Tryz.ntmps44
 go_wp2_with (first | ((with_reducible refine qAm (N:=2) rfl ?_);refine bx_ 2 #[.slice A0_0 l0_0.length c0_0] 26 ?_;intro gb101 hg w8 hbox hb;have BK101:=Zz.mk (hbox);have GW101:=Zz.mk ((gw_ hg (B_ HB.out)));have GE101:=GW101;replace HB:=Zz.mk (bT_ (B_ HB.out) hb);clear hb hbox hg;obtain ⟨hcz9_0,hfz9_0⟩:=Z1f_ BK101.out) | ((with_reducible refine gC_ (f:=76) rfl ?_);refine GL_ (some 11) rfl rfl Tryz.func76 #[.slice A0_0 l0_0.length c0_0,.slice A1 l1.length c1,.func (.func 77) #[] #[]] rfl (h:=?_);(with_reducible refine (z154.calls k _ _ l0_0 _ _ l1  t102 false _ ?side1 ?side2 ?side3 ?side4 A3.out).mono ?_);(case side1=>exact KC_ (Kd.C_below HR0_0.out HB.out));(case side2=>exact HC0_0.out);(case side3=>exact KC_ (Kd.C_below HR1.out HB.out));(case side4=>exact HC1.out);rintro e w10 ⟨rfl,hb⟩;refine ⟨_,rfl,?_⟩;replace BK101:=Zz.mk (kb_ BK101.out hb);replace HB:=Zz.mk (bT_ (B1_ HB.out GE101.out) hb);(try clear hb)))
 go_ret
 exact ⟨F_,B1_ HB.out GE101.out⟩
def z84.f (k:Nat) (l0:List Int) (l1_0:List (List Int)) (a2_0:Int):Option (Bool):=if 0≤a2_0 then (if a2_0≤(l1_0.length:Int) then ((z44.f k (l1_0.take (a2_0:Int).toNat) l0).bind fun t105=>(some (decide (t105<0)))) else (none)) else (none)
theorem z84.calls (k:Nat) (A0:Option Addr) (c0:Nat) (l0:List Int) (gp1:Nat) (A1_0:Option Addr) (c1_0:Nat) (l1_0:List (List Int)) (gp2:Nat) (a2_0:Int) (r:Bool) (w:World) (hbp1:w.heap[gp1]?=some (.cells #[.slice A1_0 l1_0.length c1_0] 26 (0,0))) (hbp2:w.heap[gp2]?=some (.cells #[.int .i64 a2_0] 3 (0,0))) (hr0:Kd.C (Kd.int .i64) w A0 l0.length l0) (hc0:l0.length≤c0) (hr1_0:Kd.C (Kd.slice 2 (Kd.int .i64)) w A1_0 l1_0.length l1_0) (hc1_0:l1_0.length≤c1_0) (h:z84.f k l0 l1_0 a2_0=some r) :
  Calls Tryz.prog 84 #[.slice A0 l0.length c0,.pointer (some ⟨gp1,0,none⟩),.pointer (some ⟨gp2,0,none⟩)] w fun e w'=>e=.returned (.bool r)∧Below w.heap.size w w':=by
 have hu26:=Tryz.underlying26
 have HR0:=Zz.mk hr0
 have HC0:=Zz.mk hc0
 clear hr0 hc0
 have HR1_0:=Zz.mk hr1_0
 have HC1_0:=Zz.mk hc1_0
 clear hr1_0 hc1_0
 have BK51:=Zz.mk hbp1
 clear hbp1
 have BK52:=Zz.mk hbp2
 clear hbp2
 have HB:=Zz.mk (Below.refl w.heap.size w)
 have H:(if 0≤a2_0 then (if a2_0≤(l1_0.length:Int) then ((z44.f k (l1_0.take (a2_0:Int).toNat) l0).bind fun t105=>(some (decide (t105<0)))) else (none)) else (none))=some r:=h
 clear h
 have c4:=O1_ H
 replace H:=O2_ H
 have c4b0:=eq_true c4
 have c4b1:decide (0≤a2_0)=true:=decide_eq_true c4
 clear c4
 have c5:=O1_ H
 replace H:=O2_ H
 have c5b0:=eq_true c5
 have c5b1:decide (a2_0≤(l1_0.length:Int))=true:=decide_eq_true c5
 clear c5
 obtain ⟨y101,hy101⟩:∃ y_:List (List Int),y_=(l1_0.take (a2_0:Int).toNat):=⟨_,rfl⟩
 replace H:((z44.f k y101 l0).bind fun t105=>(some (decide (t105<0))))=some r:=Y_ hy101 H
 have Ny101:=Zz.mk hy101
 clear hy101
 replace H:=OZ_ H
 obtain ⟨t105,A6,H⟩:=H
 obtain rfl:=OI_ H
 obtain ⟨hcz7_0,hfz7_0⟩:=Z1f_ BK51.out
 obtain ⟨hcz8_0,hfz8_0⟩:=Z1f_ BK52.out
 have q9:(a2_0:Int)≤((l1_0.length:Int):Int):=D_
 obtain ⟨i09,hi09,_,hsz9,_⟩:=info_parts qBx
 have hroom9:l1_0.length≤c1_0:=HC1_0.out
 have hC9:Kd.C (Kd.slice 2 (Kd.int .i64)) _ A1_0 l1_0.length l1_0:=HR1_0.out
 have hcut9:=qHl (P:=Tryz.prog) 24 30 .i64 Tryz.underlying24 hi09 A1_0 l1_0.length c1_0 a2_0 (D_) q9 hroom9
 have hr9:=Kd.C_take (m:=(a2_0:Int).toNat) hC9 (by omega)
 have hy9:y101.length=(a2_0:Int).toNat:=(by rw [Ny101.out,List.length_take];omega)
 rw [← Ny101.out] at hr9
 rw [← hy9] at hcut9
 have HR104:=Zz.mk hr9
 have HC104:=Zz.mk (show y101.length≤c1_0 from by omega)
 clear hr9 hC9 hroom9 hi09 hsz9
 have KY9:=Zz.mk hy9
 clear hy9
 replace q9:=eq_true q9
 go_enter Tryz.func84,Tryz.ntmps84
 go_wp2_with (first | ((with_reducible refine gC_ (f:=44) rfl ?_);refine GL_ (some 11) rfl rfl Tryz.func44 #[.agg #[.slice A1_0 y101.length c1_0],.slice A0 l0.length c0] rfl (h:=?_);(with_reducible refine (z44.calls k _ _ y101 _ _ l0 t105 _ ?side1 ?side2 ?side3 ?side4 A6.out).mono ?_);(case side1=>exact KC_ HR104.out);(case side2=>exact HC104.out);(case side3=>exact KC_ HR0.out);(case side4=>exact HC0.out);rintro e w10 ⟨rfl,hb⟩;refine ⟨_,rfl,?_⟩;replace BK51:=Zz.mk (kb_ BK51.out hb);replace BK52:=Zz.mk (kb_ BK52.out hb);replace HB:=Zz.mk (bT_ (B_ HB.out) hb);(try clear hb)))
 go_ret
 exact ⟨F_,B_ HB.out⟩
def z155.l0:Nat→List (List Int)→Int→Int→List (List Int)→Int→Option (Int)
 | 0,_,_,_,_,_=>none
 | k+1,x0,x7,x8,x69000,x70000=>if x8<x7 then (if 0≤x8 then (if x8<(x0.length:Int) then ((z84.f k (rI_ x0 x8) x69000 x70000).bind fun t102=>(if t102=true then (some x8) else (z155.l0 k x0 x7 (wrap64 (x8+1)) x69000 x70000))) else (none)) else (none)) else (some (-1))
def z155.f (k:Nat) (l0:List (List Int)) (l1_0:List (List Int)) (a1_1:Int):Option (Int):=z155.l0 k l0 (l0.length:Int) 0 l1_0 a1_1
theorem z155.calls (k:Nat) (A0:Option Addr) (c0:Nat) (l0:List (List Int)) (gp1_0:Nat) (gp1_1:Nat) (A1_0:Option Addr) (c1_0:Nat) (l1_0:List (List Int)) (a1_1:Int) (r:Int) (w:World) (hbp1_0:w.heap[gp1_0]?=some (.cells #[.slice A1_0 l1_0.length c1_0] 26 (0,0))) (hbp1_1:w.heap[gp1_1]?=some (.cells #[.int .i64 a1_1] 3 (0,0))) (hr0:Kd.C (Kd.slice 2 (Kd.int .i64)) w A0 l0.length l0) (hc0:l0.length≤c0) (hr1_0:Kd.C (Kd.slice 2 (Kd.int .i64)) w A1_0 l1_0.length l1_0) (hc1_0:l1_0.length≤c1_0) (h:z155.f k l0 l1_0 a1_1=some r) :
  Calls Tryz.prog 114 #[.slice A0 l0.length c0,.func (.func 84) #[] #[.pointer (some ⟨gp1_0,0,none⟩),.pointer (some ⟨gp1_1,0,none⟩)]] w fun e w'=>e=.returned (.int .i64 r)∧Below w.heap.size w w':=by
 have HR0:=Zz.mk hr0
 have HC0:=Zz.mk hc0
 clear hr0 hc0
 have HR1_0:=Zz.mk hr1_0
 have HC1_0:=Zz.mk hc1_0
 clear hr1_0 hc1_0
 have BK68:=Zz.mk hbp1_0
 clear hbp1_0
 have BK69:=Zz.mk hbp1_1
 clear hbp1_1
 have HB:=Zz.mk (Below.refl w.heap.size w)
 have H:(z155.l0 k l0 (l0.length:Int) 0 l1_0 a1_1)=some r:=h
 clear h
 have H':=Zz.mk H
 clear H
 go_enter Tryz.func114,Tryz.ntmps114
 go_wp2
 go_loopg [8] k (fun kq v8 w'=>∃ (x8_1:Int),v8=.int .i64 x8_1∧Zz (z155.l0 kq l0 (l0.length:Int) x8_1 l1_0 a1_1=some r)∧Zz (kq≤k)∧Zz (w'.heap[gp1_0]?=some (.cells #[(.slice A1_0 l1_0.length c1_0)] 26 (0,0)))∧Zz (w'.heap[gp1_1]?=some (.cells #[.int .i64 a1_1] 3 (0,0)))∧Zz (Below w.heap.size w w'))
 case atStart=>exact ⟨(0),E_,H',⟨Nat.le_refl _⟩,⟨KB_ BK68.out⟩,⟨KB_ BK69.out⟩,⟨B_ HB.out⟩⟩
 case round =>
  clear H'
  obtain ⟨x8_1,rfl,HA,HK1,BK68,BK69,HB⟩:=hrel
  cases gk with
  | zero=>exact absurd HA.out (by simp [z155.l0])
  | succ k1 =>
   have H:=HA.out
   clear HA
   simp only [z155.l0] at H
   by_cases c3:x8_1<(l0.length:Int)
   ·rw [if_pos c3] at H
    have c3b0:decide (x8_1<(l0.length:Int))=true:=decide_eq_true c3
    clear c3
    have c4b0:=O3_ H
    replace H:=O2_ H
    have c5b0:=O3_ H
    replace H:=O2_ H
    replace H:=OZ_ H
    obtain ⟨t102,A6,H⟩:=H
    by_cases c7:t102=true
    ·subst c7
     replace H:=T_ H
     obtain rfl:=OI_ H
     have p101:0≤(x8_1:Int):=D_
     have q101:x8_1<(l0.length:Int):=D_
     obtain ⟨ad101,A101_0,c101_0,e101,hx101_0,hl101_0,hi101_0⟩:=qA2 HR0.out x8_1 p101 q101
     cases e101
     replace hx101_0:=(HB.out.cell (World.block_lt_of_cell? w _ hx101_0)).trans hx101_0
     have HR101_0:=Zz.mk hi101_0
     have HC101_0:=Zz.mk hl101_0
     clear hi101_0 hl101_0
     replace p101:=eq_true p101
     replace q101:=eq_true q101
     go_wp2_with (first | (go_at_call 84;(with_reducible refine (z84.calls k1 _ _ (rI_ l0 x8_1) gp1_0 A1_0 c1_0 l1_0 gp1_1 a1_1 true _ ?side1 ?side2 ?side3 ?side4 ?side5 ?side6 A6.out).mono ?_);(case side1=>refine BW_ ?_;exact BK68.out);(case side2=>refine BW_ ?_;exact BK69.out);(case side3=>exact KC_ (Kd.C_below HR101_0.out HB.out));(case side4=>exact HC101_0.out);(case side5=>exact KC_ (Kd.C_below HR1_0.out HB.out));(case side6=>exact HC1_0.out);rintro e w8 ⟨rfl,hb⟩;replace BK68:=Zz.mk (kb_ BK68.out hb);replace BK69:=Zz.mk (kb_ BK69.out hb);replace HB:=Zz.mk (bT_ (B_ HB.out) hb);(try clear hb)))
     go_ret
     exact ⟨F_,B_ HB.out⟩
    replace c7:=Bool.eq_false_iff.mpr c7
    subst c7
    replace H:=N_ H
    have H':=Zz.mk H
    clear H
    have p101:0≤(x8_1:Int):=D_
    have q101:x8_1<(l0.length:Int):=D_
    obtain ⟨ad101,A101_0,c101_0,e101,hx101_0,hl101_0,hi101_0⟩:=qA2 HR0.out x8_1 p101 q101
    cases e101
    replace hx101_0:=(HB.out.cell (World.block_lt_of_cell? w _ hx101_0)).trans hx101_0
    have HR101_0:=Zz.mk hi101_0
    have HC101_0:=Zz.mk hl101_0
    clear hi101_0 hl101_0
    replace p101:=eq_true p101
    replace q101:=eq_true q101
    go_wp2_with (first | (go_at_call 84;(with_reducible refine (z84.calls k1 _ _ (rI_ l0 x8_1) gp1_0 A1_0 c1_0 l1_0 gp1_1 a1_1 false _ ?side1 ?side2 ?side3 ?side4 ?side5 ?side6 A6.out).mono ?_);(case side1=>refine BW_ ?_;exact BK68.out);(case side2=>refine BW_ ?_;exact BK69.out);(case side3=>exact KC_ (Kd.C_below HR101_0.out HB.out));(case side4=>exact HC101_0.out);(case side5=>exact KC_ (Kd.C_below HR1_0.out HB.out));(case side6=>exact HC1_0.out);rintro e w9 ⟨rfl,hb⟩;replace BK68:=Zz.mk (kb_ BK68.out hb);replace BK69:=Zz.mk (kb_ BK69.out hb);replace HB:=Zz.mk (bT_ (B_ HB.out) hb);(try clear hb)))
    go_roundg k1
    case measure=>exact Q1_ HK1
    case rel=>exact ⟨(wrap64 (x8_1+1)),E_,H',⟨Q1_ HK1⟩,⟨KB_ BK68.out⟩,⟨KB_ BK69.out⟩,⟨B_ HB.out⟩⟩
   rw [if_neg c3] at H
   have c3b0:decide (x8_1<(l0.length:Int))=false:=decide_eq_false c3
   clear c3
   obtain rfl:=OI_ H
   go_wp2
   go_ret
   exact ⟨F_,B_ HB.out⟩
def z151.f (k:Nat) (l0:List (List Int)) (l1_0:List (List Int)) (a1_1:Int):Option (Bool):=(z155.f k l0 l1_0 a1_1).bind fun t101=>(some (decide (t101 ≥ 0)))
theorem z151.calls (k:Nat) (A0:Option Addr) (c0:Nat) (l0:List (List Int)) (gp1_0:Nat) (gp1_1:Nat) (A1_0:Option Addr) (c1_0:Nat) (l1_0:List (List Int)) (a1_1:Int) (r:Bool) (w:World) (hbp1_0:w.heap[gp1_0]?=some (.cells #[.slice A1_0 l1_0.length c1_0] 26 (0,0))) (hbp1_1:w.heap[gp1_1]?=some (.cells #[.int .i64 a1_1] 3 (0,0))) (hr0:Kd.C (Kd.slice 2 (Kd.int .i64)) w A0 l0.length l0) (hc0:l0.length≤c0) (hr1_0:Kd.C (Kd.slice 2 (Kd.int .i64)) w A1_0 l1_0.length l1_0) (hc1_0:l1_0.length≤c1_0) (h:z151.f k l0 l1_0 a1_1=some r) :
  Calls Tryz.prog 82 #[.slice A0 l0.length c0,.func (.func 84) #[] #[.pointer (some ⟨gp1_0,0,none⟩),.pointer (some ⟨gp1_1,0,none⟩)]] w fun e w'=>e=.returned (.bool r)∧Below w.heap.size w w':=by
 have HR0:=Zz.mk hr0
 have HC0:=Zz.mk hc0
 clear hr0 hc0
 have HR1_0:=Zz.mk hr1_0
 have HC1_0:=Zz.mk hc1_0
 clear hr1_0 hc1_0
 have BK68:=Zz.mk hbp1_0
 clear hbp1_0
 have BK69:=Zz.mk hbp1_1
 clear hbp1_1
 have HB:=Zz.mk (Below.refl w.heap.size w)
 have H:((z155.f k l0 l1_0 a1_1).bind fun t101=>(some (decide (t101 ≥ 0))))=some r:=h
 clear h
 replace H:=OZ_ H
 obtain ⟨t101,A3,H⟩:=H
 obtain rfl:=OI_ H
 go_enter Tryz.func82,Tryz.ntmps82
 go_wp2_with (first | ((with_reducible refine gC_ (f:=114) rfl ?_);refine GL_ (some 7) rfl rfl Tryz.func114 #[.slice A0 l0.length c0,.func (.func 84) #[] #[.pointer (some ⟨gp1_0,0,none⟩),.pointer (some ⟨gp1_1,0,none⟩)]] rfl (h:=?_);(with_reducible refine (z155.calls k _ _ l0 gp1_0 gp1_1 A1_0 c1_0 l1_0 a1_1 t101 _ ?side1 ?side2 ?side3 ?side4 ?side5 ?side6 A3.out).mono ?_);(case side1=>refine BW_ ?_;exact BK68.out);(case side2=>refine BW_ ?_;exact BK69.out);(case side3=>exact KC_ HR0.out);(case side4=>exact HC0.out);(case side5=>exact KC_ HR1_0.out);(case side6=>exact HC1_0.out);rintro e w4 ⟨rfl,hb⟩;refine ⟨_,rfl,?_⟩;replace BK68:=Zz.mk (kb_ BK68.out hb);replace BK69:=Zz.mk (kb_ BK69.out hb);replace HB:=Zz.mk (bT_ (B_ HB.out) hb);(try clear hb)))
 go_ret
 exact ⟨F_,B_ HB.out⟩
def z70.l0:Nat→Int→Int→Option (Bool)
 | 0,_,_=>none
 | k+1,x0,x3=>if (wrap64 (x3 * x3))≤x0 then (if x3=0 then (none) else (if (Int.tmod x0 x3)=0 then (some false) else (z70.l0 k x0 (wrap64 (x3+1))))) else (some true)
def z70.f (k:Nat) (a0:Int):Option (Bool):=(z101.f a0 2 251).bind fun t101=>(if t101=true then (z70.l0 k a0 2) else (some false))
theorem z70.calls (k:Nat) (a0:Int) (r:Bool) (w:World) (h:z70.f k a0=some r) :
  Calls Tryz.prog 70 #[.int .i64 a0] w fun e w'=>e=.returned (.bool r)∧Dz w w':=by
 have H:((z101.f a0 2 251).bind fun t101=>(if t101=true then (z70.l0 k a0 2) else (some false)))=some r:=h
 clear h
 replace H:=OZ_ H
 obtain ⟨t101,A2,H⟩:=H
 by_cases c3:t101=true
 ·subst c3
  replace H:=T_ H
  have H':=Zz.mk H
  clear H
  go_enter Tryz.func70,Tryz.ntmps70
  go_wp2_with (first | ((with_reducible refine gC_ (f:=101) rfl ?_);refine GL_ (some 5) rfl rfl Tryz.func101 #[.int .i64 a0,.int .i64 2,.int .i64 251] rfl (h:=?_);(with_reducible refine (z101.calls a0 2 251 true _ A2.out).mono ?_);rintro e w' ⟨rfl,⟨nd,rfl⟩⟩;refine ⟨_,rfl,?_⟩))
  go_loopg [3] k (fun kq v3 w'=>∃ (x3_1:Int),v3=.int .i64 x3_1∧Zz (z70.l0 kq a0 x3_1=some r)∧Zz (kq≤k)∧Dz w w')
  case atStart=>exact ⟨(2),E_,H',⟨Nat.le_refl _⟩,by repeat (first | exact Dz.refl _ | apply Dz.step)⟩
  case round =>
   clear H'
   (try clear c3)
   obtain ⟨x3_1,rfl,HA,HK1,⟨m1,rfl⟩⟩:=hrel
   cases gk with
   | zero=>exact absurd HA.out (by simp [z70.l0])
   | succ k1 =>
    have H:=HA.out
    clear HA
    simp only [z70.l0] at H
    by_cases c4:(wrap64 (x3_1 * x3_1))≤a0
    ·rw [if_pos c4] at H
     have c4b0:decide ((wrap64 (x3_1 * x3_1))≤a0)=true:=decide_eq_true c4
     clear c4
     by_cases c5:x3_1=0
     ·rw [if_pos c5] at H
      exact X_ H
     rw [if_neg c5] at H
     have c5b0:(x3_1 == 0)=false:=beq_eq_false_iff_ne.mpr c5
     have c5b1:(x3_1 != 0)=true:=bne_iff_ne.mpr c5
     by_cases c6:(Int.tmod a0 x3_1)=0
     ·rw [if_pos c6] at H
      have c6b0:((Int.tmod a0 x3_1) == 0)=true:=beq_iff_eq.mpr c6
      have c6b1:((Int.tmod a0 x3_1) != 0)=false:=bne_eq_false_iff_eq.mpr c6
      clear c6
      obtain rfl:=OI_ H
      go_wp2
      go_ret
      exact eD_
     rw [if_neg c6] at H
     have c6b0:((Int.tmod a0 x3_1) == 0)=false:=beq_eq_false_iff_ne.mpr c6
     have c6b1:((Int.tmod a0 x3_1) != 0)=true:=bne_iff_ne.mpr c6
     have H':=Zz.mk H
     clear H
     go_wp2
     go_roundg k1
     case measure=>exact Q1_ HK1
     case rel=>exact ⟨(wrap64 (x3_1+1)),E_,H',⟨Q1_ HK1⟩,by repeat (first | exact Dz.refl _ | apply Dz.step)⟩
    rw [if_neg c4] at H
    have c4b0:decide ((wrap64 (x3_1 * x3_1))≤a0)=false:=decide_eq_false c4
    clear c4
    obtain rfl:=OI_ H
    go_wp2
    go_ret
    exact eD_
 replace c3:=Bool.eq_false_iff.mpr c3
 subst c3
 replace H:=N_ H
 obtain rfl:=OI_ H
 go_enter Tryz.func70,Tryz.ntmps70
 go_wp2_with (first | ((with_reducible refine gC_ (f:=101) rfl ?_);refine GL_ (some 5) rfl rfl Tryz.func101 #[.int .i64 a0,.int .i64 2,.int .i64 251] rfl (h:=?_);(with_reducible refine (z101.calls a0 2 251 false _ A2.out).mono ?_);rintro e w' ⟨rfl,⟨nd,rfl⟩⟩;refine ⟨_,rfl,?_⟩))
 go_ret
 exact eD_
def z69.f (a0:Int) (a1:Int):Option (Int):=if (Int.tmod a0 2)=0 then (some 1) else (some (wrap64 (a1 - 1)))
theorem z69.calls (a0:Int) (a1:Int) (r:Int) (w:World) (h:z69.f a0 a1=some r) :
  Calls Tryz.prog 69 #[.int .i64 a0,.int .i64 a1] w fun e w'=>e=.returned (.int .i64 r)∧Dz w w':=by
 have H:(if (Int.tmod a0 2)=0 then (some 1) else (some (wrap64 (a1 - 1))))=some r:=h
 clear h
 by_cases c3:(Int.tmod a0 2)=0
 ·rw [if_pos c3] at H
  have c3b0:((Int.tmod a0 2) == 0)=true:=beq_iff_eq.mpr c3
  have c3b1:((Int.tmod a0 2) != 0)=false:=bne_eq_false_iff_eq.mpr c3
  clear c3
  obtain rfl:=OI_ H
  go_enter Tryz.func69,Tryz.ntmps69
  go_wp2
  go_ret
  exact eD_
 rw [if_neg c3] at H
 have c3b0:((Int.tmod a0 2) == 0)=false:=beq_eq_false_iff_ne.mpr c3
 have c3b1:((Int.tmod a0 2) != 0)=true:=bne_iff_ne.mpr c3
 obtain rfl:=OI_ H
 go_enter Tryz.func69,Tryz.ntmps69
 go_wp2
 go_ret
 exact eD_
end Go.Proofs.YtpgjfppbbbnclaaGreat.B
namespace Go.Proofs.YtpgjfppbbbnclaaGreat.B
open Go.RowKit Go.Proofs.YtpgjfppbbbnclaaGreatW.PrintWords Go.Proofs.YtpgjfppbbbnclaaGreatW.PrintLast Go.Proofs.YtpgjfppbbbnclaaGreatW.PrintMore
section
variable {P:Program} {ops:Array Oper} {Q:Exit→Act→World→Prop}
theorem GOF_ {oi : Oper} {N : Option Tmp} {a : Act} {w : World} {K : Act → World → Prop} {f : FuncId} {fn : Func} {as_ : Array Operand} {ts : Array TypeId} {op : Operand} {caps : Array Value} (hf : P.funcs[f]? = some fn) (args : Array Value) (hname : (fn.name == "runtime.NumGoroutine") = false := by kernel_rfl) (hb : fn.body.isSome = true := by exact rfl)
  (hw:Region.wanted oi (yielded ops a.tmps)=true:=by rfl) (hN:oi.dst=N:=by exact rfl) (hop:oi.op=.call { callee:=.value op,args:=as_,argTypes:=ts }:=by exact rfl) (heval:a.eval op=.func (.func f) #[] caps:=by exact rfl) (hargs:as_.map a.eval ++ caps=args:=by (try simp only [List.map_toArray,List.map_cons,List.map_nil]);first | done | rfl | (simp only [List.length_drop,List.length_take];rfl))
  (h:Calls P f args w fun e w'=>∃ v,e=.returned v∧K (a.put N v) w'):if Region.wanted oi (yielded ops a.tmps)=true then Oper.wp P oi a w K Q else K (a.put N undef) w:=by
  refine call_ f args hw hN ?_ h
  have he:=qJ5 hf hname hb args w
  unfold execOp
  simp [hop,resolve,Deferred.ofValue,invoke,heval,hargs,he]
end
end Go.Proofs.YtpgjfppbbbnclaaGreat.B
namespace Go.Proofs.YtpgjfppbbbnclaaGreat.B
open Go.RowKit Go.Proofs.YtpgjfppbbbnclaaGreatW.PrintWords Go.Proofs.YtpgjfppbbbnclaaGreatW.PrintLast Go.Proofs.YtpgjfppbbbnclaaGreatW.PrintMore
attribute [local go_sem] qAq qAo qAu qAt qAl qAk qAp qAn
def z100.f (a0:Int) (a1:Int):Option (Int):=some 0
theorem z100.calls (a0:Int) (a1:Int) (r:Int) (w:World) (h:z100.f a0 a1=some r) :
  Calls Tryz.prog 100 #[.int .i64 a0,.int .i64 a1] w fun e w'=>e=.returned (.int .i64 r)∧Dz w w':=by
 have H:(some 0)=some r:=h
 clear h
 obtain rfl:=OI_ H
 go_enter Tryz.func100,Tryz.ntmps100
 go_wp2
 go_ret
 exact eD_
def z43.l0:Nat→List Int→Int→Int→Int→Option (Int)
 | 0,_,_,_,_=>none
 | k+1,x0,x1,x7,x8=>if x8<x7 then (if 0≤x8 then (if x8<(x0.length:Int) then (if x1=(rd x0 x8) then (some x8) else (z43.l0 k x0 x1 x7 (wrap64 (x8+1)))) else (none)) else (none)) else (some (-1))
def z43.f (k:Nat) (l0:List Int) (a1:Int):Option (Int):=z43.l0 k l0 a1 (l0.length:Int) 0
theorem z43.calls (k:Nat) (A0:Option Addr) (c0:Nat) (l0:List Int) (a1:Int) (r:Int) (w:World) (hr0:Kd.C (Kd.int .i64) w A0 l0.length l0) (hc0:l0.length≤c0) (h:z43.f k l0 a1=some r) :
  Calls Tryz.prog 43 #[.slice A0 l0.length c0,.int .i64 a1] w fun e w'=>e=.returned (.int .i64 r)∧Dz w w':=by
 have HR0:=Zz.mk hr0
 have HC0:=Zz.mk hc0
 clear hr0 hc0
 have H:(z43.l0 k l0 a1 (l0.length:Int) 0)=some r:=h
 clear h
 have H':=Zz.mk H
 clear H
 go_enter Tryz.func43,Tryz.ntmps43
 go_wp2
 go_loopg [8] k (fun kq v8 w'=>∃ (x8_1:Int),v8=.int .i64 x8_1∧Zz (z43.l0 kq l0 a1 (l0.length:Int) x8_1=some r)∧Zz (kq≤k)∧Dz w w')
 case atStart=>exact ⟨(0),E_,H',⟨Nat.le_refl _⟩,by repeat (first | exact Dz.refl _ | apply Dz.step)⟩
 case round =>
  clear H'
  obtain ⟨x8_1,rfl,HA,HK1,⟨m1,rfl⟩⟩:=hrel
  cases gk with
  | zero=>exact absurd HA.out (by simp [z43.l0])
  | succ k1 =>
   have H:=HA.out
   clear HA
   simp only [z43.l0] at H
   by_cases c3:x8_1<(l0.length:Int)
   ·rw [if_pos c3] at H
    have c3b0:decide (x8_1<(l0.length:Int))=true:=decide_eq_true c3
    clear c3
    have c4b0:=O3_ H
    replace H:=O2_ H
    have c5b0:=O3_ H
    replace H:=O2_ H
    by_cases c6:a1=(rd l0 x8_1)
    ·rw [if_pos c6] at H
     have c6b0:(a1 == (rd l0 x8_1))=true:=beq_iff_eq.mpr c6
     have c6b1:(a1 != (rd l0 x8_1))=false:=bne_eq_false_iff_eq.mpr c6
     clear c6
     obtain rfl:=OI_ H
     have p101:0≤(x8_1:Int):=D_
     have q101:x8_1<(l0.length:Int):=D_
     obtain ⟨ad101,e101,hx101_0⟩:=Kd.at_int HR0.out x8_1 p101 q101
     cases e101
     replace p101:=eq_true p101
     replace q101:=eq_true q101
     go_wp2
     go_ret
     exact eD_
    rw [if_neg c6] at H
    have c6b0:(a1 == (rd l0 x8_1))=false:=beq_eq_false_iff_ne.mpr c6
    have c6b1:(a1 != (rd l0 x8_1))=true:=bne_iff_ne.mpr c6
    have H':=Zz.mk H
    clear H
    have p101:0≤(x8_1:Int):=D_
    have q101:x8_1<(l0.length:Int):=D_
    obtain ⟨ad101,e101,hx101_0⟩:=Kd.at_int HR0.out x8_1 p101 q101
    cases e101
    replace p101:=eq_true p101
    replace q101:=eq_true q101
    go_wp2
    go_roundg k1
    case measure=>exact Q1_ HK1
    case rel=>exact ⟨(wrap64 (x8_1+1)),E_,H',⟨Q1_ HK1⟩,by repeat (first | exact Dz.refl _ | apply Dz.step)⟩
   rw [if_neg c3] at H
   have c3b0:decide (x8_1<(l0.length:Int))=false:=decide_eq_false c3
   clear c3
   obtain rfl:=OI_ H
   go_wp2
   go_ret
   exact eD_
end Go.Proofs.YtpgjfppbbbnclaaGreat.B
namespace Go.Proofs.YtpgjfppbbbnclaaGreat.B
open Go.RowKit Go.Proofs.YtpgjfppbbbnclaaGreatW.PrintWords Go.Proofs.YtpgjfppbbbnclaaGreatW.PrintLast Go.Proofs.YtpgjfppbbbnclaaGreatW.PrintMore
def slices_Clone_int64_int64.f (l0:List Int):Option (List Int):=if l0.length<17592186044416 then some l0 else none
theorem slices_Clone_int64_int64.calls (A0:Option Addr) (c0:Nat) (l0:List Int) (r:List Int) (w:World) (hr0:Kd.C (Kd.int .i64) w A0 l0.length l0) (hc0:l0.length≤c0) (h:slices_Clone_int64_int64.f l0=some r) :
    Calls Tryz.prog 116 #[.slice A0 l0.length c0] w fun e w'=>∃ v0_:Value,e=.returned (v0_)∧Kd.R (Kd.int .i64) 2 w' w.heap.size (fun _=>True) v0_ r∧Below w.heap.size w w':=by
  unfold slices_Clone_int64_int64.f at h
  have hl:=O1_ h
  obtain rfl:=Option.some.inj (O2_ h)
  clear h
  have LM:=Zz.mk hl
  have HR0:=Zz.mk hr0
  have q22:∀ (w:World) (a:Option Addr) (n c n' c':Nat),(binOp .eql 30 (.slice a n c) (.slice none n' c')).run Tryz.prog w=.ok (.bool a.isNone) w:=fun w a n c n' c'=>Lib.run_eql_slice_nil w _ _ a n c n' c' Tryz.underlying30
  cases A0 with
  | none =>
    have h0:l0=[]:=by
      rcases Nat.eq_zero_or_pos l0.length with h | h
      · exact List.eq_nil_of_length_eq_zero h
      obtain ⟨ad,he,_⟩:=hr0.2.2 h
      cases he
    subst h0
    clear hr0 HR0
    go_enter Tryz.func116,Tryz.ntmps116
    go_wp2
    go_ret
    exact ⟨_,rfl,Kd.R_nil _ _ _ _ _,Below.refl _ _⟩
  | some ad =>
    have HB:=Zz.mk (Below.refl w.heap.size w)
    clear hr0
    obtain ⟨y101,hy101⟩:∃ y_:List Int,y_=([]:List Int):=⟨_,rfl⟩
    have Ny101:=Zz.mk hy101
    have hy2:=hy101
    clear hy101
    go_enter Tryz.func116,Tryz.ntmps116
    go_wp2_with (first | ((with_reducible refine qAm (N:=5) rfl ?_);refine Kd.R_lit (Kd.int .i64) _ 2 ?hg (N:=5) ?hd (xs:=([]:List Int)) (inner:=[]) (ok:=fun _=>True) (okp:=fun _=>True) ?hr ?hp (fun _ hk=>hk) trivial (Below.refl _ _) (Nat.le_refl _) (by simp) ?_;(case hd=>rfl);(case hg=>rfl);(case hr=>first | (go_simp;done) | (go_simp;rfl));(case hp=>exact (Reps.none _ _));intro v102 w3 ho4 hb hg_ hnew_;clear hg_ hnew_;rw [← Ny101.out] at ho4;have HO103:=Zz.mk (Kd.R_lower ho4 (bS_ (B_ HB.out)));replace HB:=Zz.mk (bT_ (B_ HB.out) hb);clear hb ho4) | ((with_reducible refine qA0 (b:=.append) (xs:=#[.tmp 5,.tmp 6]) rfl ?_);at_builtin;refine Kd.R_append_rows (Kd.int .i64) (w0:=w) w.heap.size rfl (.tmp 5) (.tmp 6) 30 2 (.int .i64 0) 8 rfl Tryz.underlying30 qB4 rfl (by decide) (by omega) v102 y101 l0 _ _ _ (fun _=>True) (fun _=>False) rfl rfl ?aO ?aR (fun _ _ h=>h) (fun _ h=>h.elim) ?aF ?aB ?aS ?aL ?_;(case aR=>exact KC_ (Kd.C_below HR0.out HB.out));(case aB=>exact (B_ HB.out));(case aF=>exact (fun _ _=>trivial));(case aO=>exact (KR_ HO103.out));(case aS=>exact (bS_ (B_ HB.out)));(case aL=>rw [Ny101.out];have:=LM.out;simp only [List.length_nil];omega);intro v105 w5 ho hb hg hat;replace HB:=Zz.mk (hb);have HO106:=Zz.mk (ho);clear HO103;clear ho hb hg hat))
    go_ret
    subst hy2
    exact ⟨_,rfl,KR_ HO106.out,B_ HB.out⟩
end Go.Proofs.YtpgjfppbbbnclaaGreat.B
namespace Go.Proofs.YtpgjfppbbbnclaaGreat.B
open Go.RowKit Go.Proofs.YtpgjfppbbbnclaaGreatW.PrintWords Go.Proofs.YtpgjfppbbbnclaaGreatW.PrintLast Go.Proofs.YtpgjfppbbbnclaaGreatW.PrintMore
def impl_Matrix_row.f (a0_0:Int) (a0_1:Int) (a0_2:Int) (l0_3:List Int) (a1:Int):Option (List Int) :=
  if (0≤wrap64 (a1 * a0_2)∧wrap64 (a1 * a0_2)≤wrap64 (wrap64 (a1+1) * a0_2))∧wrap64 (wrap64 (a1+1) * a0_2)≤(l0_3.length:Int) then some ((l0_3.take (wrap64 (wrap64 (a1+1) * a0_2)).toNat).drop (wrap64 (a1 * a0_2)).toNat) else none
theorem impl_Matrix_row.calls (a0_0:Int) (a0_1:Int) (a0_2:Int) (P0_3_:Nat→Prop) (A0_3:Option Addr) (c0_3:Nat) (l0_3:List Int) (a1:Int) (r:List Int) (w:World) (hs0_3:Kd.V (Kd.int .i64) 2 w w.heap.size (fun k_=>P0_3_ k_) (.slice A0_3 l0_3.length c0_3) l0_3) (h:impl_Matrix_row.f a0_0 a0_1 a0_2 l0_3 a1=some r) :
    Calls Tryz.prog 66 #[.agg #[.int .i64 a0_0,.int .i64 a0_1,.int .i64 a0_2,.slice A0_3 l0_3.length c0_3],.int .i64 a1] w fun e w'=>∃ v0_:Value,e=.returned (v0_)∧Kd.V (Kd.int .i64) 2 w' w.heap.size (fun k_=>(P0_3_ k_∨w.heap.size≤k_)) v0_ r∧Below w.heap.size w w':=by
  unfold impl_Matrix_row.f at h
  obtain ⟨⟨h0,h1⟩,h2⟩:=O1_ h
  obtain rfl:=Option.some.inj (O2_ h)
  clear h
  obtain ⟨_,hc,hF⟩:=Kd.V_at hs0_3
  have hu59:=Tryz.underlying36
  generalize hlo:wrap64 (a1 * a0_2)=lo at h0 h1 ⊢
  generalize hhi:wrap64 (wrap64 (a1+1) * a0_2)=hi at h1 h2 ⊢
  have hlow:IntKind.i64.wrap (a1 * a0_2)=lo:=(qBl _).trans hlo
  have hhiw:IntKind.i64.wrap (wrap64 (a1+1) * a0_2)=hi:=(qBl _).trans hhi
  have HF:=Zz.mk hF
  have HB:=Zz.mk (Below.refl w.heap.size w)
  obtain ⟨i0,hi0,_,hsz0,_⟩:=info_parts qB4
  obtain ⟨A',hcut,hA',hC'⟩:=qI1 (P:=Tryz.prog) (Value.int .i64) 0 30 2 .i64 .i64 Tryz.underlying30 hi0 hsz0 A0_3 c0_3 l0_3 lo hi h0 h1 h2 hc
  have HV:=Zz.mk (Kd.V_mk (d:=Kd.int .i64) (e:=2) (W:=w) (base:=w.heap.size) hC' (Kd.F_imp hF (fun W hC=>Kd.C_of_reads (h1:=fun _=>rfl) (hA' _ (Kd.reads_of_C hC)))))
  clear hs0_3 hF hA' hC' hi0 hsz0 HF
  have d0:=decide_eq_true h0
  have d1:=decide_eq_true h1
  go_enter Tryz.func66,Tryz.ntmps66
  go_wp2_with (first | ((with_reducible refine qAm (N:=2) rfl ?_);refine bx_ 2 #[.int .i64 a0_0,.int .i64 a0_1,.int .i64 a0_2,.slice A0_3 l0_3.length c0_3] 36 ?_;intro gb101 hg w7 hbox hb;have n0_:=Zz.mk (bT_ (B_ HB.out) hb);have n1_:=Zz.mk (hbox);have HV2:=Zz.mk (Kd.V_below HV.out hb);clear HV;clear HB;have HB:=n0_;have BK101:=n1_;clear n0_ n1_;clear hb hbox hg;obtain ⟨hcz8_0,hcz8_1,hcz8_2,hcz8_3⟩:=Z4_ BK101.out))
  go_ret
  have hlen:((l0_3.take hi.toNat).drop lo.toNat).length=hi.toNat - lo.toNat:=by
    rw [List.length_drop,List.length_take];omega
  have hv:=HV2.out
  rw [hlen] at hv
  exact ⟨_,rfl,Kd.V_mono hv (fun _ hk=>.inl hk),HB.out⟩
end Go.Proofs.YtpgjfppbbbnclaaGreat.B
namespace Go.Proofs.YtpgjfppbbbnclaaGreat.B
open Go.RowKit Go.Proofs.YtpgjfppbbbnclaaGreatW.PrintWords Go.Proofs.YtpgjfppbbbnclaaGreatW.PrintLast Go.Proofs.YtpgjfppbbbnclaaGreatW.PrintMore
attribute [local go_sem] qAq qAo qAu qAt qAl qAk qAp qAn
def z86.l0:Nat→List (List Int)→Int→Int→Int→Int→Int→List Int→Option ((List (List Int)))
 | 0,_,_,_,_,_,_,_=>none
 | k+1,x3,x6,x7,x102000,x102001,x102002,x102003=>if x7<x6 then ((impl_Matrix_row.f x102000 x102001 x102002 x102003 x7).bind fun t102=>((slices_Clone_int64_int64.f t102).bind fun t105=>(if x3.length<5864062014805 then (z86.l0 k (x3 ++ [t105]) x6 (wrap64 (x7+1)) x102000 x102001 x102002 x102003) else (none)))) else (some x3)
def z86.f (k:Nat) (a0_0:Int) (a0_1:Int) (a0_2:Int) (l0_3:List Int):Option ((List (List Int))):=z86.l0 k ([]:List (List Int)) a0_1 0 a0_0 a0_1 a0_2 l0_3
theorem z86.calls (k:Nat) (a0_0:Int) (a0_1:Int) (a0_2:Int) (A0_3:Option Addr) (c0_3:Nat) (l0_3:List Int) (r:List (List Int)) (w:World) (hr0_3:Kd.C (Kd.int .i64) w A0_3 l0_3.length l0_3) (hc0_3:l0_3.length≤c0_3) (h:z86.f k a0_0 a0_1 a0_2 l0_3=some r) :
  Calls Tryz.prog 86 #[.agg #[.int .i64 a0_0,.int .i64 a0_1,.int .i64 a0_2,.slice A0_3 l0_3.length c0_3]] w fun e w'=>∃ v0_:Value,e=.returned (v0_)∧Kd.S (Kd.slice 2 (Kd.int .i64)) 30 w' w.heap.size (fun _=>True) v0_ r∧Below w.heap.size w w':=by
 have hu36:=Tryz.underlying36
 have HR0_3:=Zz.mk hr0_3
 have HC0_3:=Zz.mk hc0_3
 clear hr0_3 hc0_3
 have HB:=Zz.mk (Below.refl w.heap.size w)
 have H:(z86.l0 k ([]:List (List Int)) a0_1 0 a0_0 a0_1 a0_2 l0_3)=some r:=h
 clear h
 have H':=Zz.mk H
 clear H
 go_enter Tryz.func86,Tryz.ntmps86
 go_wp2_with (first | ((with_reducible refine qAm (N:=1) rfl ?_);refine bx_ 1 #[.int .i64 a0_0,.int .i64 a0_1,.int .i64 a0_2,.slice A0_3 l0_3.length c0_3] 36 ?_;intro gb101 hg w2 hbox hb;have BK101:=Zz.mk (hbox);have GW101:=Zz.mk ((gw_ hg (B_ HB.out)));have GE101:=GW101;replace HB:=Zz.mk (bT_ (B_ HB.out) hb);clear hb hbox hg;obtain ⟨hcz3_0,hcz3_1,hcz3_2,hcz3_3,hfz3_0,hfz3_1,hfz3_2,hfz3_3⟩:=Z4f_ BK101.out))
 go_loopg [3,7] k (fun kq v3 v7 w'=>∃ (x3_1:List (List Int)) (x7_1:Int),v7=.int .i64 x7_1∧Zz (z86.l0 kq x3_1 a0_1 x7_1 a0_0 a0_1 a0_2 l0_3=some r)∧Zz (kq≤k)∧Zz (Kd.S (Kd.slice 2 (Kd.int .i64)) 30 w' w.heap.size (fun _=>True) v3 x3_1)∧Zz (w'.heap[gb101]?=some (.cells #[.int .i64 a0_0,.int .i64 a0_1,.int .i64 a0_2,(.slice A0_3 l0_3.length c0_3)] 36 (0,0)))∧Zz (Below w.heap.size w w'))
 case atStart=>exact ⟨(([]:List (List Int))),(0),E_,H',⟨Nat.le_refl _⟩,⟨by first | exact Kd.S_nil _ _ _ _ _ | exact Kd.N_nil _ _ _ _ _ | exact Kd.V_nil _ _ _ _ _ | exact Kd.Q_nil _ _ _ _ _ | exact Kd.R_nil _ _ _ _ _⟩,⟨KB_ BK101.out⟩,⟨B1_ HB.out GE101.out⟩⟩
 case round =>
  clear H'
  (try clear hcz3_0);(try clear hcz3_1);(try clear hcz3_2);(try clear hcz3_3);(try clear hfz3_0);(try clear hfz3_1);(try clear hfz3_2);(try clear hfz3_3)
  obtain ⟨x3_1,x7_1,rfl,HA,HK1,HO_3,BK101,HB⟩:=hrel
  cases gk with
  | zero=>exact absurd HA.out (by simp [z86.l0])
  | succ k1 =>
   have H:=HA.out
   clear HA
   simp only [z86.l0] at H
   by_cases c4:x7_1<a0_1
   ·rw [if_pos c4] at H
    have c4b0:decide (x7_1<a0_1)=true:=decide_eq_true c4
    clear c4
    replace H:=OZ_ H
    obtain ⟨t102,A5,H⟩:=H
    replace H:=OZ_ H
    obtain ⟨t105,A6,H⟩:=H
    have c7:=O1_ H
    replace H:=O2_ H
    have LMc7:=Zz.mk c7
    clear c7
    obtain ⟨y108,hy108⟩:∃ y_:List (List Int),y_=(x3_1 ++ [t105]):=⟨_,rfl⟩
    replace H:(z86.l0 k1 y108 a0_1 (wrap64 (x7_1+1)) a0_0 a0_1 a0_2 l0_3)=some r:=Y_ hy108 H
    have Ny108:=Zz.mk hy108
    clear hy108
    have H':=Zz.mk H
    clear H
    obtain ⟨hcz8_0,hcz8_1,hcz8_2,hcz8_3,hfz8_0,hfz8_1,hfz8_2,hfz8_3⟩:=Z4f_ BK101.out
    go_wp2_with (first | ((with_reducible refine gC_ (f:=66) rfl ?_);refine GL_ (some 13) rfl rfl Tryz.func66 #[.agg #[.int .i64 a0_0,.int .i64 a0_1,.int .i64 a0_2,.slice A0_3 l0_3.length c0_3],.int .i64 x7_1] rfl (h:=?_);(with_reducible refine (impl_Matrix_row.calls a0_0 a0_1 a0_2 (fun k_=>k_<w.heap.size) _ _ l0_3 x7_1 t102 _ ?side1 A5.out).mono ?_);(case side1=>exact Kd.V_mk HC0_3.out (Kd.F_below (Kd.C_F (Kd.heap_int .i64) HR0_3.out) (B1_ HB.out GE101.out)));rintro e w9 ⟨v103,rfl,ho0,hb⟩;refine ⟨_,rfl,?_⟩;have HO104:=Zz.mk (Kd.V_lower (Kd.V_mono (ok':=fun k_=>some k_≠(u3:Value).ownBlock∧k_≠gb101) ho0 (fun k_ hk_=>⟨Or.elim hk_ (fun hs_=>fun e_=>Nat.not_le.2 hs_ (Kd.S_base HO_3.out k_ e_.symm)) (fun hn_=>(Kd.fresh' (Kd.S_lt (KS_ HO_3.out)) k_ hn_)),Or.elim hk_ (fun hs_=>fun e_=>Nat.not_le.2 hs_ (by rw [e_];exact GW101.out)) (fun hn_=>(Kd.freshB (g:=gb101) (o:=.cells #[.int .i64 a0_0,.int .i64 a0_1,.int .i64 a0_2,.slice A0_3 l0_3.length c0_3] 36 (0,0)) (KB_ BK101.out) k_ hn_))⟩)) (bS_ (B1_ HB.out GE101.out)));replace HO_3:=Zz.mk (Kd.S_below (KS_ HO_3.out) hb);replace BK101:=Zz.mk (kb_ BK101.out hb);replace HB:=Zz.mk (bT_ (B1_ HB.out GE101.out) hb);(try clear hb);(try clear ho0);obtain ⟨Ao10,co10,eo10⟩:=Kd.V_slice HO104.out;subst eo10) | ((with_reducible refine gC_ (f:=116) rfl ?_);refine GL_ (some 14) rfl rfl Tryz.func116 #[.slice Ao10 t102.length co10] rfl (h:=?_);(with_reducible refine (slices_Clone_int64_int64.calls _ _ t102 t105 _ ?side1 ?side2 A6.out).mono ?_);(case side1=>exact KC_ (Kd.V_reads' HO104.out).2.2);(case side2=>exact (Kd.V_reads' HO104.out).2.1);rintro e w11 ⟨v106,rfl,ho0,hb⟩;refine ⟨_,rfl,?_⟩;replace HO_3:=Zz.mk (Kd.S_elder' (KS_ HO_3.out) (Kd.R_base ho0) hb);replace HO104:=Zz.mk (Kd.V_elder' (by refine VW_ ?_;exact HO104.out) (Kd.R_base ho0) hb);have HO107:=Zz.mk (Kd.R_lower ho0 (bS_ (B1_ HB.out GE101.out)));replace BK101:=Zz.mk (kb_ BK101.out hb);replace HB:=Zz.mk (bT_ (B1_ HB.out GE101.out) hb);(try clear hb);(try clear ho0);obtain ⟨Ao13,co13,eo13⟩:=Kd.R_slice HO107.out;subst eo13) | ((with_reducible refine qA0 (b:=.append) (xs:=#[.tmp 10,.tmp 15]) rfl ?_);at_builtin;refine Kd.S_append (Kd.slice 2 (Kd.int .i64)) (w0:=w) w.heap.size rfl (.tmp 10) (.tmp 15) 24 30 (.slice none 0 0) 24 rfl Tryz.underlying24 qBx rfl (by decide) (by omega) u3 x3_1 t105 [.slice Ao13 t105.length co13] (fun _=>True) (fun k_=>some k_=(.slice Ao13 t105.length co13:Value).ownBlock) rfl rfl ?aP (fun k_ hk_=>((Kd.R_mono (ok':=fun k_=>((fun _=>True)) k_∧some k_≠(u3:Value).ownBlock) (Kd.R_apart' (HO107.out) (Kd.S_typed HO_3.out) (by decide)) (fun k_ hk=>⟨trivial,hk.2⟩))).1 k_ hk_.symm) ?aF ?aO ?aB ?aS ?aL ?_;(case aP=>exact Kd.M_row (Kd.R_mono (Kd.R_tight rfl (Kd.R_mono (ok':=fun k_=>((fun _=>True)) k_∧some k_≠(u3:Value).ownBlock) (Kd.R_apart' (HO107.out) (Kd.S_typed HO_3.out) (by decide)) (fun k_ hk=>⟨trivial,hk.2⟩))) (fun _ h_=>h_)));(case aB=>exact (B1_ HB.out GE101.out));(case aF=>exact (fun _ _=>trivial));(case aO=>exact (by refine SW_ ?_;exact Kd.S_mono HO_3.out (fun k_ hk=>⟨trivial,fun e_=>hk.2 e_⟩)));(case aS=>exact (bS_ (B1_ HB.out GE101.out)));(case aL=>have:=LMc7.out;omega);intro v109 w12 ho hb hg hat;rw [← Ny108.out] at ho;replace BK101:=Zz.mk (qA9 (g:=gb101) (o:=.cells #[.int .i64 a0_0,.int .i64 a0_1,.int .i64 a0_2,.slice A0_3 l0_3.length c0_3] 36 (0,0)) (KB_ BK101.out) hg (Kd.S_ne HO_3.out BK101.out (by decide)));replace HO104:=Zz.mk (Kd.V_afterv (ok:=(fun k_=>some k_≠(.slice Ao13 t105.length co13:Value).ownBlock∧k_≠gb101)) (by refine VW_ ?_;exact Kd.V_mono HO104.out (fun _ hk=>⟨⟨hk.2,hk.1.2⟩,hk.1.1⟩)) hg hat);replace HB:=Zz.mk (hb);have HO110:=Zz.mk (ho);clear HO_3;clear HO107;clear ho hb hg hat))
    go_roundg k1
    case measure=>exact Q1_ HK1
    case rel=>exact ⟨(y108),(wrap64 (x7_1+1)),E_,H',⟨Q1_ HK1⟩,⟨KS_ HO110.out⟩,⟨KB_ BK101.out⟩,⟨B1_ HB.out GE101.out⟩⟩
   rw [if_neg c4] at H
   have c4b0:decide (x7_1<a0_1)=false:=decide_eq_false c4
   clear c4
   obtain rfl:=OI_ H
   go_wp2
   go_ret
   exact ⟨_,F_,KS_ HO_3.out,B1_ HB.out GE101.out⟩
end Go.Proofs.YtpgjfppbbbnclaaGreat.B
namespace Go.Proofs.YtpgjfppbbbnclaaGreatW.PrintWords.Kd
open Go.RowKit
section
variable {α:Type} {d:Kd α} {e base n B g t:Nat} {ok:Nat→Prop} {W w1:World} {u v:Value} {xs:List α}
theorem R_typesT (h:d.R e W base ok v xs) {t:Nat} {v':Value} (hb:∀ k,v'.ownBlock=some k→∃ cells,W.heap[k]?=some (.cells cells t (0,0))) (hv:v'.ownBlock=some g) (ht:∀ q,q∈e :: d.E→q≠t):d.R e W base (fun k=>ok k∧k≠g) v xs:=by
  obtain ⟨_,h'⟩:=hb g hv;exact R_types h h' ht
end
end Go.Proofs.YtpgjfppbbbnclaaGreatW.PrintWords.Kd
namespace Go.Proofs.YtpgjfppbbbnclaaGreat.B
open Go.RowKit Go.Proofs.YtpgjfppbbbnclaaGreatW.PrintWords Go.Proofs.YtpgjfppbbbnclaaGreatW.PrintLast Go.Proofs.YtpgjfppbbbnclaaGreatW.PrintMore
attribute [local go_sem] qAq qAo qAu qAt qAl qAk qAp qAn
def z55.l0:Nat→List Int→List Int→Int→Int→List Int→Int→Int→Option (List Int)
 | 0,_,_,_,_,_,_,_=>none
 | k+1,x0,x1,x2,x3,x9,x12,x13=>if x13<x12 then (if 0≤x13 then (if x13<(x0.length:Int) then (if x13<(x1.length:Int) then (if x3=0 then (none) else (if x9.length<17592186044416 then (z55.l0 k x0 x1 x2 x3 (x9 ++ [Int.tmod (wrap64 ((rd x0 x13)+(wrap64 (x2 * (rd x1 x13))))) x3]) x12 (wrap64 (x13+1))) else (none))) else (none)) else (none)) else (none)) else (some x9)
def z55.f (k:Nat) (l0:List Int) (l1:List Int) (a2:Int) (a3:Int):Option (List Int):=z55.l0 k l0 l1 a2 a3 ([]:List Int) (l0.length:Int) 0
def z55.T5:Bool × List (List Nat × List Nat):=(true,[([],[]),([],[]),([],[]),([1,2],[1,2]),([3],[3]),([],[]),([],[]),([],[]),([6,7],[6,7]),([8],[8]),([5,9],[5,9]),([4,10],[4,10]),([],[]),([11,12],[11,12]),([13],[13]),([0,14],[0,14]),([15,15,0,1,2,3,4,5,6,7,8,9,10,11,12,13,14,15],[0,15])])
def z55.B5:List Nat:=[0,0,0,6,14,0,0,0,192,448,992,2046,0,8190,16382,32767,65535]
theorem z55.tab5:rtab .any (qD3 Tryz.f55 5)=z55.T5:=by kernel_rfl
theorem z55.bits5:qBj z55.T5.2 z55.B5=true:=by kernel_rfl
theorem z55.calls (k:Nat) (A0:Option Addr) (c0:Nat) (l0:List Int) (A1:Option Addr) (c1:Nat) (l1:List Int) (a2:Int) (a3:Int) (r:List Int) (w:World) (hr0:Kd.C (Kd.int .i64) w A0 l0.length l0) (hc0:l0.length≤c0) (hr1:Kd.C (Kd.int .i64) w A1 l1.length l1) (hc1:l1.length≤c1) (h:z55.f k l0 l1 a2 a3=some r) :
  Calls Tryz.prog 55 #[.slice A0 l0.length c0,.slice A1 l1.length c1,.int .i64 a2,.int .i64 a3] w fun e w'=>∃ v0_:Value,e=.returned (v0_)∧Kd.R (Kd.int .i64) 2 w' w.heap.size (fun _=>True) v0_ r∧Below w.heap.size w w':=by
 have HR0:=Zz.mk hr0
 have HC0:=Zz.mk hc0
 clear hr0 hc0
 have HR1:=Zz.mk hr1
 have HC1:=Zz.mk hc1
 clear hr1 hc1
 have HB:=Zz.mk (Below.refl w.heap.size w)
 have H:(z55.l0 k l0 l1 a2 a3 ([]:List Int) (l0.length:Int) 0)=some r:=h
 clear h
 have H':=Zz.mk H
 clear H
 go_enter Tryz.func55,Tryz.ntmps55
 go_wp2
 go_loopg [9,13] k (fun kq v9 v13 w'=>∃ (x9_1:List Int) (x13_1:Int),v13=.int .i64 x13_1∧Zz (z55.l0 kq l0 l1 a2 a3 x9_1 (l0.length:Int) x13_1=some r)∧Zz (kq≤k)∧Zz (Kd.R (Kd.int .i64) 2 w' w.heap.size (fun _=>True) v9 x9_1)∧Zz (Below w.heap.size w w'))
 case atStart=>exact ⟨(([]:List Int)),(0),E_,H',⟨Nat.le_refl _⟩,⟨by first | exact Kd.R_nil _ _ _ _ _ | exact Kd.N_nil _ _ _ _ _ | exact Kd.V_nil _ _ _ _ _ | exact Kd.Q_nil _ _ _ _ _ | exact Kd.S_nil _ _ _ _ _⟩,⟨B_ HB.out⟩⟩
 case round =>
  clear H'
  (try clear c1)
  obtain ⟨x9_1,x13_1,rfl,HA,HK1,HO_9,HB⟩:=hrel
  cases gk with
  | zero=>exact absurd HA.out (by simp [z55.l0])
  | succ k1 =>
   have H:=HA.out
   clear HA
   simp only [z55.l0] at H
   by_cases c5:x13_1<(l0.length:Int)
   ·rw [if_pos c5] at H
    have c5b0:decide (x13_1<(l0.length:Int))=true:=decide_eq_true c5
    clear c5
    have c6b0:=O3_ H
    replace H:=O2_ H
    have c7b0:=O3_ H
    replace H:=O2_ H
    have c8b0:=O3_ H
    replace H:=O2_ H
    by_cases c9:a3=0
    ·rw [if_pos c9] at H
     exact X_ H
    rw [if_neg c9] at H
    have c9b0:(a3 == 0)=false:=beq_eq_false_iff_ne.mpr c9
    have c9b1:(a3 != 0)=true:=bne_iff_ne.mpr c9
    have c10:=O1_ H
    replace H:=O2_ H
    have LMc10:=Zz.mk c10
    clear c10
    obtain ⟨y103,hy103⟩:∃ y_:List Int,y_=(x9_1 ++ [Int.tmod (wrap64 ((rd l0 x13_1)+(wrap64 (a2 * (rd l1 x13_1))))) a3]):=⟨_,rfl⟩
    replace H:(z55.l0 k1 l0 l1 a2 a3 y103 (l0.length:Int) (wrap64 (x13_1+1)))=some r:=Y_ hy103 H
    have Ny103:=Zz.mk hy103
    clear hy103
    have H':=Zz.mk H
    clear H
    try go_wp2
    replace HO_9:=Zz.mk (Kd.R_drew HO_9.out)
    replace HB:=Zz.mk (qAe HB.out)
    have p101:0≤(x13_1:Int):=D_
    have q101:x13_1<(l0.length:Int):=D_
    obtain ⟨ad101,e101,hx101_0⟩:=Kd.at_int HR0.out x13_1 p101 q101
    have hw101_0:=hx101_0
    cases e101
    replace hx101_0:=(HB.out.cell (World.block_lt_of_cell? w _ hx101_0)).trans hx101_0
    replace p101:=eq_true p101
    replace q101:=eq_true q101
    have p102:0≤(x13_1:Int):=D_
    have q102:x13_1<(l1.length:Int):=D_
    obtain ⟨ad102,e102,hx102_0⟩:=Kd.at_int HR1.out x13_1 p102 q102
    have hw102_0:=hx102_0
    cases e102
    replace hx102_0:=(HB.out.cell (World.block_lt_of_cell? w _ hx102_0)).trans hx102_0
    replace p102:=eq_true p102
    replace q102:=eq_true q102
    refine qB8 (n:=17) (S:=fun w'=>w'.cell? (ad101.add (x13_1).toNat)=some (.int .i64 (rd l0 x13_1))∧w'.cell? (ad102.add (x13_1).toNat)=some (.int .i64 (rd l1 x13_1))) (ds:=[]) (tb_ 17 0) (by kernel_rfl) rfl rfl ⟨((HB.out.cell (World.block_lt_of_cell? w _ hw101_0)).trans hw101_0),((HB.out.cell (World.block_lt_of_cell? w _ hw102_0)).trans hw102_0)⟩ (fun hHeld=>?_);refine qBb z55.tab5 z55.bits5 (fun HT_ HW_=>?_)
    generalize wr.drew=w11 at HO_9 HB hx101_0 hx102_0 hHeld ⊢
    refine PX_ 0 16 (tb_ 17 1) HT_ rfl rfl ?_
    refine PX_ 1 17 (tb_ 17 3) HT_ rfl rfl ?_
    refine PX_ 2 18 (tb_ 17 7) HT_ rfl rfl ?_
    refine PX_ 3 19 (tb_ 17 15) HT_ rfl rfl ?_
    refine PX_ 5 21 (tb_ 17 47) HT_ rfl rfl ?_
    refine PX_ 6 22 (tb_ 17 111) HT_ rfl rfl ?_
    refine PX_ 7 23 (tb_ 17 239) HT_ rfl rfl ?_
    refine PX_ 8 24 (tb_ 17 495) HT_ rfl rfl ?_
    refine PX_ 12 28 (tb_ 17 4591) HT_ rfl rfl ?_
    refine TV_ (i:=4) (N:=some 20) (tb_ 17 4607) HT_ HW_ rfl rfl hHeld (by rintro w' ⟨s0,s1⟩;go_simp;with_reducible rfl) (h:=?_)
    refine TV_ (i:=9) (N:=some 25) (tb_ 17 5119) HT_ HW_ rfl rfl hHeld (by rintro w' ⟨s0,s1⟩;go_simp;with_reducible rfl) (h:=?_)
    refine PX_ 10 26 (tb_ 17 6143) HT_ rfl rfl ?_
    refine PX_ 11 27 (tb_ 17 8191) HT_ rfl rfl ?_
    refine PX_ 13 29 (tb_ 17 16383) HT_ rfl rfl ?_
    refine one_ (i:=14) (N:=some 30) (tb_ 17 32767) rfl rfl (qA7 HT_.out (by kernel_rfl)) (by decide) (fun K hK=>?_)
    refine qIo (w1:=?_) (v:=?_) (by rfl) rfl ?_ ?_
    rotate_left 2
    ·go_simp
     constructor
     ·rfl
     rfl
    refine hK.out _ _ ⟨(World.cell?_alloc_lt _ _ _ (World.block_lt_of_cell? _ _ (((HB.out.cell (World.block_lt_of_cell? w _ hw101_0)).trans hw101_0)))).trans (((HB.out.cell (World.block_lt_of_cell? w _ hw101_0)).trans hw101_0)),(World.cell?_alloc_lt _ _ _ (World.block_lt_of_cell? _ _ (((HB.out.cell (World.block_lt_of_cell? w _ hw102_0)).trans hw102_0)))).trans (((HB.out.cell (World.block_lt_of_cell? w _ hw102_0)).trans hw102_0))⟩ (fun hHeld=>?_)
    clear hK K
    refine NM_ (N:=(some 30)) (h:=?_)
    refine one_ (i:=15) (N:=some 31) (tb_ 17 65535) rfl rfl (qA7 HT_.out (by kernel_rfl)) (by decide) (fun K hK=>?_)
    refine Kd.R_append_step (Kd.int .i64) (w0:=w) w.heap.size (by rfl) (.tmp 16) (.tmp 30) 30 2 (.int .i64 0) 8 rfl Tryz.underlying30 qB4 rfl (by decide) (by omega) u9 x9_1 (Int.tmod (wrap64 ((rd l0 x13_1)+(wrap64 (a2 * (rd l1 x13_1))))) a3) [.int .i64 (Int.tmod (wrap64 ((rd l0 x13_1)+(wrap64 (a2 * (rd l1 x13_1))))) a3)] (fun _=>True) (fun _=>False) rfl rfl ?aP (fun _ hk=>hk.elim) ?aF ?aO ?aB ?aS ?aL ?_
    (case aP=>exact rfl)
    (case aB=>exact (B_ HB.out))
    (case aF=>exact (fun _ _=>trivial))
    (case aO=>exact (KR_ HO_9.out))
    (case aS=>exact (bS_ (B_ HB.out)))
    (case aL=>have:=LMc10.out;omega)
    intro v104 w12 ho hb hg hat
    rw [← Ny103.out] at ho
    replace HB:=Zz.mk (hb)
    have HO105:=Zz.mk (ho)
    clear HO_9
    clear ho hb hg hat
    refine hK.out _ _ ⟨((HB.out.cell (World.block_lt_of_cell? w _ hw101_0)).trans hw101_0),((HB.out.cell (World.block_lt_of_cell? w _ hw102_0)).trans hw102_0)⟩ (fun hHeld=>?_)
    clear hK K
    refine NM_ (N:=(some 31)) (h:=?_)
    refine PX_ 16 9 (tb_ 17 131071) HT_ rfl rfl ?_
    refine qDb (qBt HT_.out (by kernel_rfl)) ?_
    try go_wp2
    go_roundg k1
    case measure=>exact Q1_ HK1
    case rel=>exact ⟨(y103),(wrap64 (x13_1+1)),E_,H',⟨Q1_ HK1⟩,⟨KR_ HO105.out⟩,⟨B_ HB.out⟩⟩
   rw [if_neg c5] at H
   have c5b0:decide (x13_1<(l0.length:Int))=false:=decide_eq_false c5
   clear c5
   obtain rfl:=OI_ H
   go_wp2
   go_ret
   exact ⟨_,F_,KR_ HO_9.out,B_ HB.out⟩
def z129.l0:Nat→Int→Int→Int→Int→Option (Int)
 | 0,_,_,_,_=>none
 | k+1,x0,x1,x2,x7=>if x1 > 0 then (if (Int.tmod x1 2)=1 then (if x2=0 then (none) else (z129.l0 k (Int.tmod (wrap64 (x0 * x0)) x2) (wrap64 (Int.tdiv x1 2)) x2 (Int.tmod (wrap64 (x7 * x0)) x2))) else (if x2=0 then (none) else (z129.l0 k (Int.tmod (wrap64 (x0 * x0)) x2) (wrap64 (Int.tdiv x1 2)) x2 x7))) else (some x7)
def z129.f (k:Nat) (a0:Int) (a1:Int) (a2:Int):Option (Int):=z129.l0 k a0 a1 a2 1
theorem z129.calls (k:Nat) (a0:Int) (a1:Int) (a2:Int) (r:Int) (w:World) (h:z129.f k a0 a1 a2=some r) :
  Calls Tryz.prog 129 #[.int .i64 a0,.int .i64 a1,.int .i64 a2] w fun e w'=>e=.returned (.int .i64 r)∧Dz w w':=by
 have H:(z129.l0 k a0 a1 a2 1)=some r:=h
 clear h
 have H':=Zz.mk H
 clear H
 go_enter Tryz.func129,Tryz.ntmps129
 go_wp2
 go_loopg [0,1,7] k (fun kq v0 v1 v7 w'=>∃ (x0_1:Int) (x1_1:Int) (x7_1:Int),v0=.int .i64 x0_1∧v1=.int .i64 x1_1∧v7=.int .i64 x7_1∧Zz (z129.l0 kq x0_1 x1_1 a2 x7_1=some r)∧Zz (kq≤k)∧Dz w w')
 case atStart=>exact ⟨(a0),(a1),(1),E_,E_,E_,H',⟨Nat.le_refl _⟩,by repeat (first | exact Dz.refl _ | apply Dz.step)⟩
 case round =>
  clear H'
  obtain ⟨x0_1,x1_1,x7_1,rfl,rfl,rfl,HA,HK1,⟨m1,rfl⟩⟩:=hrel
  cases gk with
  | zero=>exact absurd HA.out (by simp [z129.l0])
  | succ k1 =>
   have H:=HA.out
   clear HA
   simp only [z129.l0] at H
   by_cases c4:x1_1 > 0
   ·rw [if_pos c4] at H
    have c4b0:decide (0<x1_1)=true:=decide_eq_true c4
    clear c4
    by_cases c5:(Int.tmod x1_1 2)=1
    ·rw [if_pos c5] at H
     have c5b0:((Int.tmod x1_1 2) == 1)=true:=beq_iff_eq.mpr c5
     have c5b1:((Int.tmod x1_1 2) != 1)=false:=bne_eq_false_iff_eq.mpr c5
     clear c5
     by_cases c6:a2=0
     ·rw [if_pos c6] at H
      exact X_ H
     rw [if_neg c6] at H
     have c6b0:(a2 == 0)=false:=beq_eq_false_iff_ne.mpr c6
     have c6b1:(a2 != 0)=true:=bne_iff_ne.mpr c6
     have H':=Zz.mk H
     clear H
     go_wp2
     go_roundg k1
     case measure=>exact Q1_ HK1
     case rel=>exact ⟨(Int.tmod (wrap64 (x0_1 * x0_1)) a2),(wrap64 (Int.tdiv x1_1 2)),(Int.tmod (wrap64 (x7_1 * x0_1)) a2),E_,E_,E_,H',⟨Q1_ HK1⟩,by repeat (first | exact Dz.refl _ | apply Dz.step)⟩
    rw [if_neg c5] at H
    have c5b0:((Int.tmod x1_1 2) == 1)=false:=beq_eq_false_iff_ne.mpr c5
    have c5b1:((Int.tmod x1_1 2) != 1)=true:=bne_iff_ne.mpr c5
    by_cases c7:a2=0
    ·rw [if_pos c7] at H
     exact X_ H
    rw [if_neg c7] at H
    have c7b0:(a2 == 0)=false:=beq_eq_false_iff_ne.mpr c7
    have c7b1:(a2 != 0)=true:=bne_iff_ne.mpr c7
    have H':=Zz.mk H
    clear H
    go_wp2
    go_roundg k1
    case measure=>exact Q1_ HK1
    case rel=>exact ⟨(Int.tmod (wrap64 (x0_1 * x0_1)) a2),(wrap64 (Int.tdiv x1_1 2)),(x7_1),E_,E_,E_,H',⟨Q1_ HK1⟩,by repeat (first | exact Dz.refl _ | apply Dz.step)⟩
   rw [if_neg c4] at H
   have c4b0:decide (0<x1_1)=false:=decide_eq_false c4
   clear c4
   obtain rfl:=OI_ H
   go_wp2
   go_ret
   exact eD_
def z118.f (k:Nat) (a0:Int) (a1:Int):Option (Int):=(z129.f k a0 (wrap64 (a1 - 2)) a1).bind fun t101=>(some t101)
theorem z118.calls (k:Nat) (a0:Int) (a1:Int) (r:Int) (w:World) (h:z118.f k a0 a1=some r) :
  Calls Tryz.prog 118 #[.int .i64 a0,.int .i64 a1] w fun e w'=>e=.returned (.int .i64 r)∧Dz w w':=by
 have H:((z129.f k a0 (wrap64 (a1 - 2)) a1).bind fun t101=>(some t101))=some r:=h
 clear h
 replace H:=OZ_ H
 obtain ⟨t101,A3,H⟩:=H
 obtain rfl:=OI_ H
 go_enter Tryz.func118,Tryz.ntmps118
 go_wp2_with (first | ((with_reducible refine gC_ (f:=129) rfl ?_);refine GL_ (some 9) rfl rfl Tryz.func129 #[.int .i64 a0,.int .i64 (wrap64 (a1 - 2)),.int .i64 a1] rfl (h:=?_);(with_reducible refine (z129.calls k a0 (wrap64 (a1 - 2)) a1 t101 _ A3.out).mono ?_);rintro e w' ⟨rfl,⟨nd,rfl⟩⟩;refine ⟨_,rfl,?_⟩))
 go_ret
 exact eD_
def z89.f (a0:Int) (a1:Int):Option (Int):=if a1=0 then (none) else (some (Int.tmod (wrap64 ((Int.tmod a0 a1)+a1)) a1))
theorem z89.calls (a0:Int) (a1:Int) (r:Int) (w:World) (h:z89.f a0 a1=some r) :
  Calls Tryz.prog 89 #[.int .i64 a0,.int .i64 a1] w fun e w'=>e=.returned (.int .i64 r)∧Dz w w':=by
 have H:(if a1=0 then (none) else (some (Int.tmod (wrap64 ((Int.tmod a0 a1)+a1)) a1)))=some r:=h
 clear h
 by_cases c3:a1=0
 ·rw [if_pos c3] at H
  exact X_ H
 rw [if_neg c3] at H
 have c3b0:(a1 == 0)=false:=beq_eq_false_iff_ne.mpr c3
 have c3b1:(a1 != 0)=true:=bne_iff_ne.mpr c3
 obtain rfl:=OI_ H
 go_enter Tryz.func89,Tryz.ntmps89
 go_wp2
 go_ret
 exact eD_
def z117.f (l0:List Int) (a1_0:Int):Option (Bool):=if 0≤a1_0 then (if a1_0<(l0.length:Int) then (some ((rd l0 a1_0) != 0)) else (none)) else (none)
theorem z117.calls (A0:Option Addr) (c0:Nat) (l0:List Int) (gp1:Nat) (a1_0:Int) (r:Bool) (w:World) (hbp1:w.heap[gp1]?=some (.cells #[.int .i64 a1_0] 2 (0,0))) (hr0:Kd.C (Kd.int .i64) w A0 l0.length l0) (hc0:l0.length≤c0) (h:z117.f l0 a1_0=some r) :
  Calls Tryz.prog 117 #[.slice A0 l0.length c0,.pointer (some ⟨gp1,0,none⟩)] w fun e w'=>e=.returned (.bool r)∧Dz w w':=by
 have HR0:=Zz.mk hr0
 have HC0:=Zz.mk hc0
 clear hr0 hc0
 have BK51:=Zz.mk hbp1
 clear hbp1
 have H:(if 0≤a1_0 then (if a1_0<(l0.length:Int) then (some ((rd l0 a1_0) != 0)) else (none)) else (none))=some r:=h
 clear h
 have c3b0:=O3_ H
 replace H:=O2_ H
 have c4b0:=O3_ H
 replace H:=O2_ H
 obtain rfl:=OI_ H
 obtain ⟨hcz5_0,hfz5_0⟩:=Z1f_ BK51.out
 have p101:0≤(a1_0:Int):=D_
 have q101:a1_0<(l0.length:Int):=D_
 obtain ⟨ad101,e101,hx101_0⟩:=Kd.at_int HR0.out a1_0 p101 q101
 cases e101
 replace p101:=eq_true p101
 replace q101:=eq_true q101
 go_enter Tryz.func117,Tryz.ntmps117
 go_wp2
 go_ret
 exact eD_
def z161.l0:Nat→List (List Int)→Int→Int→Int→Option (Int)
 | 0,_,_,_,_=>none
 | k+1,x0,x7,x8,x69000=>if x8<x7 then (if 0≤x8 then (if x8<(x0.length:Int) then ((z117.f (rI_ x0 x8) x69000).bind fun t102=>(if t102=true then (some x8) else (z161.l0 k x0 x7 (wrap64 (x8+1)) x69000))) else (none)) else (none)) else (some (-1))
def z161.f (k:Nat) (l0:List (List Int)) (a1_0:Int):Option (Int):=z161.l0 k l0 (l0.length:Int) 0 a1_0
theorem z161.calls (k:Nat) (A0:Option Addr) (c0:Nat) (l0:List (List Int)) (gp1_0:Nat) (a1_0:Int) (r:Int) (w:World) (hbp1_0:w.heap[gp1_0]?=some (.cells #[.int .i64 a1_0] 2 (0,0))) (hr0:Kd.C (Kd.slice 2 (Kd.int .i64)) w A0 l0.length l0) (hc0:l0.length≤c0) (h:z161.f k l0 a1_0=some r) :
  Calls Tryz.prog 114 #[.slice A0 l0.length c0,.func (.func 117) #[] #[.pointer (some ⟨gp1_0,0,none⟩)]] w fun e w'=>e=.returned (.int .i64 r)∧Below w.heap.size w w':=by
 have HR0:=Zz.mk hr0
 have HC0:=Zz.mk hc0
 clear hr0 hc0
 have BK68:=Zz.mk hbp1_0
 clear hbp1_0
 have HB:=Zz.mk (Below.refl w.heap.size w)
 have H:(z161.l0 k l0 (l0.length:Int) 0 a1_0)=some r:=h
 clear h
 have H':=Zz.mk H
 clear H
 go_enter Tryz.func114,Tryz.ntmps114
 go_wp2
 go_loopg [8] k (fun kq v8 w'=>∃ (x8_1:Int),v8=.int .i64 x8_1∧Zz (z161.l0 kq l0 (l0.length:Int) x8_1 a1_0=some r)∧Zz (kq≤k)∧Zz (w'.heap[gp1_0]?=some (.cells #[.int .i64 a1_0] 2 (0,0)))∧Zz (Below w.heap.size w w'))
 case atStart=>exact ⟨(0),E_,H',⟨Nat.le_refl _⟩,⟨KB_ BK68.out⟩,⟨B_ HB.out⟩⟩
 case round =>
  clear H'
  obtain ⟨x8_1,rfl,HA,HK1,BK68,HB⟩:=hrel
  cases gk with
  | zero=>exact absurd HA.out (by simp [z161.l0])
  | succ k1 =>
   have H:=HA.out
   clear HA
   simp only [z161.l0] at H
   by_cases c3:x8_1<(l0.length:Int)
   ·rw [if_pos c3] at H
    have c3b0:decide (x8_1<(l0.length:Int))=true:=decide_eq_true c3
    clear c3
    have c4b0:=O3_ H
    replace H:=O2_ H
    have c5b0:=O3_ H
    replace H:=O2_ H
    replace H:=OZ_ H
    obtain ⟨t102,A6,H⟩:=H
    by_cases c7:t102=true
    ·subst c7
     replace H:=T_ H
     obtain rfl:=OI_ H
     have p101:0≤(x8_1:Int):=D_
     have q101:x8_1<(l0.length:Int):=D_
     obtain ⟨ad101,A101_0,c101_0,e101,hx101_0,hl101_0,hi101_0⟩:=qA2 HR0.out x8_1 p101 q101
     cases e101
     replace hx101_0:=(HB.out.cell (World.block_lt_of_cell? w _ hx101_0)).trans hx101_0
     have HR101_0:=Zz.mk hi101_0
     have HC101_0:=Zz.mk hl101_0
     clear hi101_0 hl101_0
     replace p101:=eq_true p101
     replace q101:=eq_true q101
     go_wp2_with (first | (go_at_call 117;(with_reducible refine (z117.calls _ _ (rI_ l0 x8_1) gp1_0 a1_0 true _ ?side1 ?side2 ?side3 A6.out).mono ?_);(case side1=>refine BW_ ?_;exact BK68.out);(case side2=>exact KC_ (Kd.C_below HR101_0.out HB.out));(case side3=>exact HC101_0.out);rintro e w' ⟨rfl,⟨nd,rfl⟩⟩))
     go_ret
     exact ⟨F_,B_ HB.out⟩
    replace c7:=Bool.eq_false_iff.mpr c7
    subst c7
    replace H:=N_ H
    have H':=Zz.mk H
    clear H
    have p101:0≤(x8_1:Int):=D_
    have q101:x8_1<(l0.length:Int):=D_
    obtain ⟨ad101,A101_0,c101_0,e101,hx101_0,hl101_0,hi101_0⟩:=qA2 HR0.out x8_1 p101 q101
    cases e101
    replace hx101_0:=(HB.out.cell (World.block_lt_of_cell? w _ hx101_0)).trans hx101_0
    have HR101_0:=Zz.mk hi101_0
    have HC101_0:=Zz.mk hl101_0
    clear hi101_0 hl101_0
    replace p101:=eq_true p101
    replace q101:=eq_true q101
    go_wp2_with (first | (go_at_call 117;(with_reducible refine (z117.calls _ _ (rI_ l0 x8_1) gp1_0 a1_0 false _ ?side1 ?side2 ?side3 A6.out).mono ?_);(case side1=>refine BW_ ?_;exact BK68.out);(case side2=>exact KC_ (Kd.C_below HR101_0.out HB.out));(case side3=>exact HC101_0.out);rintro e w' ⟨rfl,⟨nd,rfl⟩⟩))
    go_roundg k1
    case measure=>exact Q1_ HK1
    case rel=>exact ⟨(wrap64 (x8_1+1)),E_,H',⟨Q1_ HK1⟩,⟨KB_ BK68.out⟩,⟨B_ HB.out⟩⟩
   rw [if_neg c3] at H
   have c3b0:decide (x8_1<(l0.length:Int))=false:=decide_eq_false c3
   clear c3
   obtain rfl:=OI_ H
   go_wp2
   go_ret
   exact ⟨F_,B_ HB.out⟩
def z103.f (a0:Int):Option (Bool):=some (a0 != 0)
theorem z103.calls (a0:Int) (r:Bool) (w:World) (h:z103.f a0=some r) :
  Calls Tryz.prog 103 #[.int .i64 a0] w fun e w'=>e=.returned (.bool r)∧Dz w w':=by
 have H:(some (a0 != 0))=some r:=h
 clear h
 obtain rfl:=OI_ H
 go_enter Tryz.func103,Tryz.ntmps103
 go_wp2
 go_ret
 exact eD_
def z160.l0:Nat→List Int→Int→Int→Option (Int)
 | 0,_,_,_=>none
 | k+1,x0,x7,x8=>if x8<x7 then (if 0≤x8 then (if x8<(x0.length:Int) then ((z103.f (rd x0 x8)).bind fun t102=>(if t102=true then (some x8) else (z160.l0 k x0 x7 (wrap64 (x8+1))))) else (none)) else (none)) else (some (-1))
def z160.f (k:Nat) (l0:List Int) :Option (Int):=z160.l0 k l0 (l0.length:Int) 0
theorem z160.calls (k:Nat) (A0:Option Addr) (c0:Nat) (l0:List Int)  (r:Int) (w:World) (hr0:Kd.C (Kd.int .i64) w A0 l0.length l0) (hc0:l0.length≤c0) (h:z160.f k l0=some r) :
  Calls Tryz.prog 123 #[.slice A0 l0.length c0,.func (.func 103) #[] #[]] w fun e w'=>e=.returned (.int .i64 r)∧Below w.heap.size w w':=by
 have HR0:=Zz.mk hr0
 have HC0:=Zz.mk hc0
 clear hr0 hc0
 have HB:=Zz.mk (Below.refl w.heap.size w)
 have H:(z160.l0 k l0 (l0.length:Int) 0)=some r:=h
 clear h
 have H':=Zz.mk H
 clear H
 go_enter Tryz.func123,Tryz.ntmps123
 go_wp2
 go_loopg [8] k (fun kq v8 w'=>∃ (x8_1:Int),v8=.int .i64 x8_1∧Zz (z160.l0 kq l0 (l0.length:Int) x8_1=some r)∧Zz (kq≤k)∧Zz (Below w.heap.size w w'))
 case atStart=>exact ⟨(0),E_,H',⟨Nat.le_refl _⟩,⟨B_ HB.out⟩⟩
 case round =>
  clear H'
  obtain ⟨x8_1,rfl,HA,HK1,HB⟩:=hrel
  cases gk with
  | zero=>exact absurd HA.out (by simp [z160.l0])
  | succ k1 =>
   have H:=HA.out
   clear HA
   simp only [z160.l0] at H
   by_cases c3:x8_1<(l0.length:Int)
   ·rw [if_pos c3] at H
    have c3b0:decide (x8_1<(l0.length:Int))=true:=decide_eq_true c3
    clear c3
    have c4b0:=O3_ H
    replace H:=O2_ H
    have c5b0:=O3_ H
    replace H:=O2_ H
    replace H:=OZ_ H
    obtain ⟨t102,A6,H⟩:=H
    by_cases c7:t102=true
    ·subst c7
     replace H:=T_ H
     obtain rfl:=OI_ H
     have p101:0≤(x8_1:Int):=D_
     have q101:x8_1<(l0.length:Int):=D_
     obtain ⟨ad101,e101,hx101_0⟩:=Kd.at_int HR0.out x8_1 p101 q101
     cases e101
     replace hx101_0:=(HB.out.cell (World.block_lt_of_cell? w _ hx101_0)).trans hx101_0
     replace p101:=eq_true p101
     replace q101:=eq_true q101
     go_wp2_with (first | (go_at_call 103;(with_reducible refine (z103.calls (rd l0 x8_1) true _ A6.out).mono ?_);rintro e w' ⟨rfl,⟨nd,rfl⟩⟩))
     go_ret
     exact ⟨F_,B_ HB.out⟩
    replace c7:=Bool.eq_false_iff.mpr c7
    subst c7
    replace H:=N_ H
    have H':=Zz.mk H
    clear H
    have p101:0≤(x8_1:Int):=D_
    have q101:x8_1<(l0.length:Int):=D_
    obtain ⟨ad101,e101,hx101_0⟩:=Kd.at_int HR0.out x8_1 p101 q101
    cases e101
    replace hx101_0:=(HB.out.cell (World.block_lt_of_cell? w _ hx101_0)).trans hx101_0
    replace p101:=eq_true p101
    replace q101:=eq_true q101
    go_wp2_with (first | (go_at_call 103;(with_reducible refine (z103.calls (rd l0 x8_1) false _ A6.out).mono ?_);rintro e w' ⟨rfl,⟨nd,rfl⟩⟩))
    go_roundg k1
    case measure=>exact Q1_ HK1
    case rel=>exact ⟨(wrap64 (x8_1+1)),E_,H',⟨Q1_ HK1⟩,⟨B_ HB.out⟩⟩
   rw [if_neg c3] at H
   have c3b0:decide (x8_1<(l0.length:Int))=false:=decide_eq_false c3
   clear c3
   obtain rfl:=OI_ H
   go_wp2
   go_ret
   exact ⟨F_,B_ HB.out⟩
def z159.f (k:Nat) (l0:List Int) :Option (Bool):=(z160.f k l0).bind fun t101=>(some (decide (t101 ≥ 0)))
theorem z159.calls (k:Nat) (A0:Option Addr) (c0:Nat) (l0:List Int)  (r:Bool) (w:World) (hr0:Kd.C (Kd.int .i64) w A0 l0.length l0) (hc0:l0.length≤c0) (h:z159.f k l0=some r) :
  Calls Tryz.prog 102 #[.slice A0 l0.length c0,.func (.func 103) #[] #[]] w fun e w'=>e=.returned (.bool r)∧Below w.heap.size w w':=by
 have HR0:=Zz.mk hr0
 have HC0:=Zz.mk hc0
 clear hr0 hc0
 have HB:=Zz.mk (Below.refl w.heap.size w)
 have H:((z160.f k l0).bind fun t101=>(some (decide (t101 ≥ 0))))=some r:=h
 clear h
 replace H:=OZ_ H
 obtain ⟨t101,A3,H⟩:=H
 obtain rfl:=OI_ H
 go_enter Tryz.func102,Tryz.ntmps102
 go_wp2_with (first | ((with_reducible refine gC_ (f:=123) rfl ?_);refine GL_ (some 7) rfl rfl Tryz.func123 #[.slice A0 l0.length c0,.func (.func 103) #[] #[]] rfl (h:=?_);(with_reducible refine (z160.calls k _ _ l0  t101 _ ?side1 ?side2 A3.out).mono ?_);(case side1=>exact KC_ HR0.out);(case side2=>exact HC0.out);rintro e w4 ⟨rfl,hb⟩;refine ⟨_,rfl,?_⟩;replace HB:=Zz.mk (bT_ (B_ HB.out) hb);(try clear hb)))
 go_ret
 exact ⟨F_,B_ HB.out⟩
def z72.f (k:Nat) (l0:List Int):Option (Bool):=(z159.f k l0).bind fun t101=>(some (!t101))
theorem z72.calls (k:Nat) (A0:Option Addr) (c0:Nat) (l0:List Int) (r:Bool) (w:World) (hr0:Kd.C (Kd.int .i64) w A0 l0.length l0) (hc0:l0.length≤c0) (h:z72.f k l0=some r) :
  Calls Tryz.prog 72 #[.slice A0 l0.length c0] w fun e w'=>e=.returned (.bool r)∧Below w.heap.size w w':=by
 have HR0:=Zz.mk hr0
 have HC0:=Zz.mk hc0
 clear hr0 hc0
 have HB:=Zz.mk (Below.refl w.heap.size w)
 have H:((z159.f k l0).bind fun t101=>(some (!t101)))=some r:=h
 clear h
 replace H:=OZ_ H
 obtain ⟨t101,A2,H⟩:=H
 obtain rfl:=OI_ H
 go_enter Tryz.func72,Tryz.ntmps72
 go_wp2_with (first | ((with_reducible refine gC_ (f:=102) rfl ?_);refine GL_ (some 4) rfl rfl Tryz.func102 #[.slice A0 l0.length c0,.func (.func 103) #[] #[]] rfl (h:=?_);(with_reducible refine (z159.calls k _ _ l0  t101 _ ?side1 ?side2 A2.out).mono ?_);(case side1=>exact KC_ HR0.out);(case side2=>exact HC0.out);rintro e w3 ⟨rfl,hb⟩;refine ⟨_,rfl,?_⟩;replace HB:=Zz.mk (bT_ (B_ HB.out) hb);(try clear hb)))
 go_ret
 exact ⟨F_,B_ HB.out⟩
def z65.l0:Nat→List Int→List Int→Int→Int→Int→Int→Option (Int)
 | 0,_,_,_,_,_,_=>none
 | k+1,x0,x1,x2,x7,x10,x11=>if x11<x10 then (if 0≤x11 then (if x11<(x0.length:Int) then (if x11<(x1.length:Int) then (if x2=0 then (none) else (z65.l0 k x0 x1 x2 (Int.tmod (wrap64 (x7+(wrap64 ((rd x0 x11) * (rd x1 x11))))) x2) x10 (wrap64 (x11+1)))) else (none)) else (none)) else (none)) else (some x7)
def z65.f (k:Nat) (l0:List Int) (l1:List Int) (a2:Int):Option (Int):=z65.l0 k l0 l1 a2 0 (l0.length:Int) 0
theorem z65.calls (k:Nat) (A0:Option Addr) (c0:Nat) (l0:List Int) (A1:Option Addr) (c1:Nat) (l1:List Int) (a2:Int) (r:Int) (w:World) (hr0:Kd.C (Kd.int .i64) w A0 l0.length l0) (hc0:l0.length≤c0) (hr1:Kd.C (Kd.int .i64) w A1 l1.length l1) (hc1:l1.length≤c1) (h:z65.f k l0 l1 a2=some r) :
  Calls Tryz.prog 65 #[.slice A0 l0.length c0,.slice A1 l1.length c1,.int .i64 a2] w fun e w'=>e=.returned (.int .i64 r)∧Dz w w':=by
 have HR0:=Zz.mk hr0
 have HC0:=Zz.mk hc0
 clear hr0 hc0
 have HR1:=Zz.mk hr1
 have HC1:=Zz.mk hc1
 clear hr1 hc1
 have H:(z65.l0 k l0 l1 a2 0 (l0.length:Int) 0)=some r:=h
 clear h
 have H':=Zz.mk H
 clear H
 go_enter Tryz.func65,Tryz.ntmps65
 go_wp2
 repeat (go_quiet (fail);try go_wp2)
 go_loopg [7,11] k (fun kq v7 v11 w'=>∃ (x7_1:Int) (x11_1:Int),v7=.int .i64 x7_1∧v11=.int .i64 x11_1∧Zz (z65.l0 kq l0 l1 a2 x7_1 (l0.length:Int) x11_1=some r)∧Zz (kq≤k)∧Dz w w')
 case atStart=>exact ⟨(0),(0),E_,E_,H',⟨Nat.le_refl _⟩,by repeat (first | exact Dz.refl _ | apply Dz.step)⟩
 case round =>
  clear H'
  (try clear c1)
  obtain ⟨x7_1,x11_1,rfl,rfl,HA,HK1,⟨m1,rfl⟩⟩:=hrel
  cases gk with
  | zero=>exact absurd HA.out (by simp [z65.l0])
  | succ k1 =>
   have H:=HA.out
   clear HA
   simp only [z65.l0] at H
   by_cases c4:x11_1<(l0.length:Int)
   ·rw [if_pos c4] at H
    have c4b0:decide (x11_1<(l0.length:Int))=true:=decide_eq_true c4
    clear c4
    have c5b0:=O3_ H
    replace H:=O2_ H
    have c6b0:=O3_ H
    replace H:=O2_ H
    have c7b0:=O3_ H
    replace H:=O2_ H
    by_cases c8:a2=0
    ·rw [if_pos c8] at H
     exact X_ H
    rw [if_neg c8] at H
    have c8b0:(a2 == 0)=false:=beq_eq_false_iff_ne.mpr c8
    have c8b1:(a2 != 0)=true:=bne_iff_ne.mpr c8
    have H':=Zz.mk H
    clear H
    have p101:0≤(x11_1:Int):=D_
    have q101:x11_1<(l0.length:Int):=D_
    obtain ⟨ad101,e101,hx101_0⟩:=Kd.at_int HR0.out x11_1 p101 q101
    cases e101
    replace p101:=eq_true p101
    replace q101:=eq_true q101
    have p102:0≤(x11_1:Int):=D_
    have q102:x11_1<(l1.length:Int):=D_
    obtain ⟨ad102,e102,hx102_0⟩:=Kd.at_int HR1.out x11_1 p102 q102
    cases e102
    replace p102:=eq_true p102
    replace q102:=eq_true q102
    go_wp2
    repeat (go_quiet (fail);try go_wp2)
    go_roundg k1
    case measure=>exact Q1_ HK1
    case rel=>exact ⟨(Int.tmod (wrap64 (x7_1+(wrap64 ((rd l0 x11_1) * (rd l1 x11_1))))) a2),(wrap64 (x11_1+1)),E_,E_,H',⟨Q1_ HK1⟩,by repeat (first | exact Dz.refl _ | apply Dz.step)⟩
   rw [if_neg c4] at H
   have c4b0:decide (x11_1<(l0.length:Int))=false:=decide_eq_false c4
   clear c4
   obtain rfl:=OI_ H
   go_wp2
   repeat (go_quiet (fail);try go_wp2)
   go_ret
   exact eD_
def z35.l0:Nat→List Int→List Int→Int→Int→Int→Int→Int→List Int→Option (List Int)
 | 0,_,_,_,_,_,_,_,_=>none
 | k+1,x1,x5,x8,x9,x102000,x102001,x102002,x102003=>if x9<x8 then ((impl_Matrix_row.f x102000 x102001 x102002 x102003 x9).bind fun t102=>((z65.f k t102 x1 x102000).bind fun t105=>(if x5.length<17592186044416 then (z35.l0 k x1 (x5 ++ [t105]) x8 (wrap64 (x9+1)) x102000 x102001 x102002 x102003) else (none)))) else (some x5)
def z35.f (k:Nat) (a0_0:Int) (a0_1:Int) (a0_2:Int) (l0_3:List Int) (l1:List Int):Option (List Int):=z35.l0 k l1 ([]:List Int) a0_1 0 a0_0 a0_1 a0_2 l0_3
def z35.T5:Bool × List (List Nat × List Nat):=(true,[([],[]),([],[]),([],[]),([1,2],[1,2]),([],[]),([],[]),([5],[5]),([3,4,6,3],[3,4,6]),([7],[7]),([0,8,7],[0,8]),([9,9,0,1,2,3,4,5,6,7,8,9],[0,9])])
def z35.B5:List Nat:=[0,0,0,6,0,0,32,126,254,511,1023]
theorem z35.tab5:rtab .any (qD3 Tryz.f35 5)=z35.T5:=by kernel_rfl
theorem z35.bits5:qBj z35.T5.2 z35.B5=true:=by kernel_rfl
theorem z35.calls (k:Nat) (a0_0:Int) (a0_1:Int) (a0_2:Int) (A0_3:Option Addr) (c0_3:Nat) (l0_3:List Int) (A1:Option Addr) (c1:Nat) (l1:List Int) (r:List Int) (w:World) (hr0_3:Kd.C (Kd.int .i64) w A0_3 l0_3.length l0_3) (hc0_3:l0_3.length≤c0_3) (hr1:Kd.C (Kd.int .i64) w A1 l1.length l1) (hc1:l1.length≤c1) (h:z35.f k a0_0 a0_1 a0_2 l0_3 l1=some r) :
  Calls Tryz.prog 35 #[.agg #[.int .i64 a0_0,.int .i64 a0_1,.int .i64 a0_2,.slice A0_3 l0_3.length c0_3],.slice A1 l1.length c1] w fun e w'=>∃ v0_:Value,e=.returned (v0_)∧Kd.R (Kd.int .i64) 2 w' w.heap.size (fun _=>True) v0_ r∧Below w.heap.size w w':=by
 have hu36:=Tryz.underlying36
 have HR0_3:=Zz.mk hr0_3
 have HC0_3:=Zz.mk hc0_3
 clear hr0_3 hc0_3
 have HR1:=Zz.mk hr1
 have HC1:=Zz.mk hc1
 clear hr1 hc1
 have HB:=Zz.mk (Below.refl w.heap.size w)
 have H:(z35.l0 k l1 ([]:List Int) a0_1 0 a0_0 a0_1 a0_2 l0_3)=some r:=h
 clear h
 have H':=Zz.mk H
 clear H
 go_enter Tryz.func35,Tryz.ntmps35
 go_wp2_with (first | ((with_reducible refine qAm (N:=2) rfl ?_);refine bx_ 2 #[.int .i64 a0_0,.int .i64 a0_1,.int .i64 a0_2,.slice A0_3 l0_3.length c0_3] 36 ?_;intro gb101 hg w3 hbox hb;have BK101:=Zz.mk (hbox);have GW101:=Zz.mk ((gw_ hg (B_ HB.out)));have GE101:=GW101;replace HB:=Zz.mk (bT_ (B_ HB.out) hb);clear hb hbox hg;obtain ⟨hcz4_0,hcz4_1,hcz4_2,hcz4_3,hfz4_0,hfz4_1,hfz4_2,hfz4_3⟩:=Z4f_ BK101.out))
 go_loopg [5,9] k (fun kq v5 v9 w'=>∃ (x5_1:List Int) (x9_1:Int),v9=.int .i64 x9_1∧Zz (z35.l0 kq l1 x5_1 a0_1 x9_1 a0_0 a0_1 a0_2 l0_3=some r)∧Zz (kq≤k)∧Zz (Kd.R (Kd.int .i64) 2 w' w.heap.size (fun _=>True) v5 x5_1)∧Zz (w'.heap[gb101]?=some (.cells #[.int .i64 a0_0,.int .i64 a0_1,.int .i64 a0_2,(.slice A0_3 l0_3.length c0_3)] 36 (0,0)))∧Zz (Below w.heap.size w w'))
 case atStart=>exact ⟨(([]:List Int)),(0),E_,H',⟨Nat.le_refl _⟩,⟨by first | exact Kd.R_nil _ _ _ _ _ | exact Kd.N_nil _ _ _ _ _ | exact Kd.V_nil _ _ _ _ _ | exact Kd.Q_nil _ _ _ _ _ | exact Kd.S_nil _ _ _ _ _⟩,⟨KB_ BK101.out⟩,⟨B1_ HB.out GE101.out⟩⟩
 case round =>
  clear H'
  (try clear c1);(try clear hcz4_0);(try clear hcz4_1);(try clear hcz4_2);(try clear hcz4_3);(try clear hfz4_0);(try clear hfz4_1);(try clear hfz4_2);(try clear hfz4_3)
  obtain ⟨x5_1,x9_1,rfl,HA,HK1,HO_5,BK101,HB⟩:=hrel
  cases gk with
  | zero=>exact absurd HA.out (by simp [z35.l0])
  | succ k1 =>
   have H:=HA.out
   clear HA
   simp only [z35.l0] at H
   by_cases c5:x9_1<a0_1
   ·rw [if_pos c5] at H
    have c5b0:decide (x9_1<a0_1)=true:=decide_eq_true c5
    clear c5
    replace H:=OZ_ H
    obtain ⟨t102,A6,H⟩:=H
    replace H:=OZ_ H
    obtain ⟨t105,A7,H⟩:=H
    have c8:=O1_ H
    replace H:=O2_ H
    have LMc8:=Zz.mk c8
    clear c8
    obtain ⟨y106,hy106⟩:∃ y_:List Int,y_=(x5_1 ++ [t105]):=⟨_,rfl⟩
    replace H:(z35.l0 k1 l1 y106 a0_1 (wrap64 (x9_1+1)) a0_0 a0_1 a0_2 l0_3)=some r:=Y_ hy106 H
    have Ny106:=Zz.mk hy106
    clear hy106
    have H':=Zz.mk H
    clear H
    try go_wp2
    replace HO_5:=Zz.mk (Kd.R_drew HO_5.out)
    replace BK101:=Zz.mk (bD_ BK101.out)
    replace HB:=Zz.mk (qAe HB.out)
    refine qB8 (n:=11) (S:=fun w'=>w'.cell? ⟨gb101,0,none⟩=some (.int .i64 a0_0)∧w'.cell? ⟨gb101,1,none⟩=some (.int .i64 a0_1)∧w'.cell? ⟨gb101,2,none⟩=some (.int .i64 a0_2)∧w'.cell? ⟨gb101,3,none⟩=some (.slice A0_3 l0_3.length c0_3)) (ds:=[]) (tb_ 11 0) (by kernel_rfl) rfl rfl (Z4_ BK101.out) (fun hHeld=>?_);refine qBb z35.tab5 z35.bits5 (fun HT_ HW_=>?_)
    generalize wr.drew=w9 at HO_5 BK101 HB hHeld ⊢
    refine PX_ 0 12 (tb_ 11 1) HT_ rfl rfl ?_
    refine PX_ 2 14 (tb_ 11 5) HT_ rfl rfl ?_
    refine PX_ 4 16 (tb_ 11 21) HT_ rfl rfl ?_
    refine PX_ 5 17 (tb_ 11 53) HT_ rfl rfl ?_
    refine TV_ (i:=1) (N:=some 13) (tb_ 11 55) HT_ HW_ rfl rfl hHeld (by rintro w' ⟨s0,s1,s2,s3⟩;go_simp;with_reducible rfl) (h:=?_)
    refine TV_ (i:=6) (N:=some 18) (tb_ 11 119) HT_ HW_ rfl rfl hHeld (by rintro w' ⟨s0,s1,s2,s3⟩;go_simp;with_reducible rfl) (h:=?_)
    refine one_ (i:=3) (N:=some 15) (tb_ 11 127) rfl rfl (qA7 HT_.out (by kernel_rfl)) (by decide) (fun K hK=>?_)
    refine GO_ Tryz.func66 #[.agg #[.int .i64 a0_0,.int .i64 a0_1,.int .i64 a0_2,.slice A0_3 l0_3.length c0_3],.int .i64 x9_1] (h:=?_)
    with_reducible refine (impl_Matrix_row.calls a0_0 a0_1 a0_2 (fun k_=>k_<w.heap.size) _ _ l0_3 x9_1 t102 _ ?side1 A6.out).mono ?_
    (case side1=>exact Kd.V_mk HC0_3.out (Kd.F_below (Kd.C_F (Kd.heap_int .i64) HR0_3.out) (B1_ HB.out GE101.out)))
    rintro e w10 ⟨v103,rfl,ho0,hb⟩
    refine ⟨_,rfl,?_⟩
    have HO104:=Zz.mk (Kd.V_lower (Kd.V_mono (ok':=fun k_=>some k_≠(u5:Value).ownBlock∧k_≠gb101) ho0 (fun k_ hk_=>⟨Or.elim hk_ (fun hs_=>fun e_=>Nat.not_le.2 hs_ (Kd.R_base HO_5.out k_ e_.symm)) (fun hn_=>(Kd.fresh' (Kd.R_lt (KR_ HO_5.out)) k_ hn_)),Or.elim hk_ (fun hs_=>fun e_=>Nat.not_le.2 hs_ (by rw [e_];exact GW101.out)) (fun hn_=>(Kd.freshB (g:=gb101) (o:=.cells #[.int .i64 a0_0,.int .i64 a0_1,.int .i64 a0_2,.slice A0_3 l0_3.length c0_3] 36 (0,0)) (KB_ BK101.out) k_ hn_))⟩)) (bS_ (B1_ HB.out GE101.out)))
    replace HO_5:=Zz.mk (Kd.R_below (KR_ HO_5.out) hb)
    replace BK101:=Zz.mk (kb_ BK101.out hb)
    replace HB:=Zz.mk (bT_ (B1_ HB.out GE101.out) hb)
    (try clear hb);(try clear ho0)
    obtain ⟨Ao11,co11,eo11⟩:=Kd.V_slice HO104.out
    (first | subst eo11 | obtain ⟨rfl,rfl⟩:=sl_ eo11)
    refine hK.out _ _ (Z4_ BK101.out) (fun hHeld=>?_)
    clear hK K
    refine NM_ (N:=(some 15)) (h:=?_)
    refine one_ (i:=7) (N:=some 19) (tb_ 11 255) rfl rfl (qA7 HT_.out (by kernel_rfl)) (by decide) (fun K hK=>?_)
    refine GO_ Tryz.func65 #[.slice Ao11 t102.length co11,.slice A1 l1.length c1,.int .i64 a0_0] (h:=?_)
    with_reducible refine (z65.calls k1 _ _ t102 _ _ l1 a0_0 t105 _ ?side1 ?side2 ?side3 ?side4 A7.out).mono ?_
    (case side1=>exact KC_ (Kd.V_reads' HO104.out).2.2)
    (case side2=>exact (Kd.V_reads' HO104.out).2.1)
    (case side3=>exact KC_ (Kd.C_below HR1.out HB.out))
    (case side4=>exact HC1.out)
    rintro e w' ⟨rfl,⟨nd,rfl⟩⟩
    refine ⟨_,rfl,?_⟩
    refine hK.out _ _ (Z4_ BK101.out) (fun hHeld=>?_)
    clear hK K
    refine NM_ (N:=(some 19)) (h:=?_)
    refine one_ (i:=8) (N:=some 20) (tb_ 11 511) rfl rfl (qA7 HT_.out (by kernel_rfl)) (by decide) (fun K hK=>?_)
    refine qIo (w1:=?_) (v:=?_) (by rfl) rfl ?_ ?_
    rotate_left 2
    ·go_simp
     constructor
     ·rfl
     rfl
    refine hK.out _ _ ⟨(bC_ (bA_ BK101.out _) 0).trans rfl,(bC_ (bA_ BK101.out _) 1).trans rfl,(bC_ (bA_ BK101.out _) 2).trans rfl,(bC_ (bA_ BK101.out _) 3).trans rfl⟩ (fun hHeld=>?_)
    clear hK K
    refine NM_ (N:=(some 20)) (h:=?_)
    refine one_ (i:=9) (N:=some 21) (tb_ 11 1023) rfl rfl (qA7 HT_.out (by kernel_rfl)) (by decide) (fun K hK=>?_)
    refine Kd.R_append_step (Kd.int .i64) (w0:=w) w.heap.size (by rfl) (.tmp 12) (.tmp 20) 30 2 (.int .i64 0) 8 rfl Tryz.underlying30 qB4 rfl (by decide) (by omega) u5 x5_1 t105 [.int .i64 t105] (fun _=>True) (fun _=>False) rfl rfl ?aP (fun _ hk=>hk.elim) ?aF ?aO ?aB ?aS ?aL ?_
    (case aP=>exact rfl)
    (case aB=>exact (B1_ HB.out GE101.out))
    (case aF=>exact (fun _ _=>trivial))
    (case aO=>exact (KR_ HO_5.out))
    (case aS=>exact (bS_ (B1_ HB.out GE101.out)))
    (case aL=>have:=LMc8.out;omega)
    intro v107 w12 ho hb hg hat
    rw [← Ny106.out] at ho
    replace BK101:=Zz.mk (qA9 (g:=gb101) (o:=.cells #[.int .i64 a0_0,.int .i64 a0_1,.int .i64 a0_2,.slice A0_3 l0_3.length c0_3] 36 (0,0)) (KB_ BK101.out) hg (Kd.R_ne HO_5.out BK101.out (by decide)))
    replace HO104:=Zz.mk (Kd.V_afterv (ok:=(fun k_=>k_≠gb101)) (by refine VW_ ?_;exact Kd.V_mono HO104.out (fun _ hk=>⟨hk.2,hk.1⟩)) hg hat)
    replace HB:=Zz.mk (hb)
    have HO108:=Zz.mk (ho)
    clear HO_5
    clear ho hb hg hat
    refine hK.out _ _ (Z4_ BK101.out) (fun hHeld=>?_)
    clear hK K
    refine NM_ (N:=(some 21)) (h:=?_)
    refine PX_ 10 5 (tb_ 11 2047) HT_ rfl rfl ?_
    refine qDb (qBt HT_.out (by kernel_rfl)) ?_
    try go_wp2
    go_roundg k1
    case measure=>exact Q1_ HK1
    case rel=>exact ⟨(y106),(wrap64 (x9_1+1)),E_,H',⟨Q1_ HK1⟩,⟨KR_ HO108.out⟩,⟨KB_ BK101.out⟩,⟨B1_ HB.out GE101.out⟩⟩
   rw [if_neg c5] at H
   have c5b0:decide (x9_1<a0_1)=false:=decide_eq_false c5
   clear c5
   obtain rfl:=OI_ H
   go_wp2
   go_ret
   exact ⟨_,F_,KR_ HO_5.out,B1_ HB.out GE101.out⟩
def z131.f (a0:Int) (a1:Int):Option (Bool):=(z101.f a0 0 (wrap64 (a1 - 1))).bind fun t101=>(some t101)
theorem z131.calls (a0:Int) (a1:Int) (r:Bool) (w:World) (h:z131.f a0 a1=some r) :
  Calls Tryz.prog 131 #[.int .i64 a0,.int .i64 a1] w fun e w'=>e=.returned (.bool r)∧Dz w w':=by
 have H:((z101.f a0 0 (wrap64 (a1 - 1))).bind fun t101=>(some t101))=some r:=h
 clear h
 replace H:=OZ_ H
 obtain ⟨t101,A3,H⟩:=H
 obtain rfl:=OI_ H
 go_enter Tryz.func131,Tryz.ntmps131
 go_wp2_with (first | ((with_reducible refine gC_ (f:=101) rfl ?_);refine GL_ (some 8) rfl rfl Tryz.func101 #[.int .i64 a0,.int .i64 0,.int .i64 (wrap64 (a1 - 1))] rfl (h:=?_);(with_reducible refine (z101.calls a0 0 (wrap64 (a1 - 1)) t101 _ A3.out).mono ?_);rintro e w' ⟨rfl,⟨nd,rfl⟩⟩;refine ⟨_,rfl,?_⟩))
 go_ret
 exact eD_
def z130.f (a0:Int) (a1_0:Int):Option (Bool):=(z131.f a0 a1_0).bind fun t101=>(some (!t101))
theorem z130.calls (a0:Int) (gp1:Nat) (a1_0:Int) (r:Bool) (w:World) (hbp1:w.heap[gp1]?=some (.cells #[.int .i64 a1_0] 2 (0,0))) (h:z130.f a0 a1_0=some r) :
  Calls Tryz.prog 130 #[.int .i64 a0,.pointer (some ⟨gp1,0,none⟩)] w fun e w'=>e=.returned (.bool r)∧Dz w w':=by
 have BK51:=Zz.mk hbp1
 clear hbp1
 have H:((z131.f a0 a1_0).bind fun t101=>(some (!t101)))=some r:=h
 clear h
 replace H:=OZ_ H
 obtain ⟨t101,A3,H⟩:=H
 obtain rfl:=OI_ H
 obtain ⟨hcz4_0,hfz4_0⟩:=Z1f_ BK51.out
 go_enter Tryz.func130,Tryz.ntmps130
 go_wp2_with (first | ((with_reducible refine gC_ (f:=131) rfl ?_);refine GL_ (some 6) rfl rfl Tryz.func131 #[.int .i64 a0,.int .i64 a1_0] rfl (h:=?_);(with_reducible refine (z131.calls a0 a1_0 t101 _ A3.out).mono ?_);rintro e w' ⟨rfl,⟨nd,rfl⟩⟩;refine ⟨_,rfl,?_⟩))
 go_ret
 exact eD_
def z157.l0:Nat→List Int→Int→Int→Int→Option (Int)
 | 0,_,_,_,_=>none
 | k+1,x0,x7,x8,x69000=>if x8<x7 then (if 0≤x8 then (if x8<(x0.length:Int) then ((z130.f (rd x0 x8) x69000).bind fun t102=>(if t102=true then (some x8) else (z157.l0 k x0 x7 (wrap64 (x8+1)) x69000))) else (none)) else (none)) else (some (-1))
def z157.f (k:Nat) (l0:List Int) (a1_0:Int):Option (Int):=z157.l0 k l0 (l0.length:Int) 0 a1_0
theorem z157.calls (k:Nat) (A0:Option Addr) (c0:Nat) (l0:List Int) (gp1_0:Nat) (a1_0:Int) (r:Int) (w:World) (hbp1_0:w.heap[gp1_0]?=some (.cells #[.int .i64 a1_0] 2 (0,0))) (hr0:Kd.C (Kd.int .i64) w A0 l0.length l0) (hc0:l0.length≤c0) (h:z157.f k l0 a1_0=some r) :
  Calls Tryz.prog 123 #[.slice A0 l0.length c0,.func (.func 130) #[] #[.pointer (some ⟨gp1_0,0,none⟩)]] w fun e w'=>e=.returned (.int .i64 r)∧Below w.heap.size w w':=by
 have HR0:=Zz.mk hr0
 have HC0:=Zz.mk hc0
 clear hr0 hc0
 have BK68:=Zz.mk hbp1_0
 clear hbp1_0
 have HB:=Zz.mk (Below.refl w.heap.size w)
 have H:(z157.l0 k l0 (l0.length:Int) 0 a1_0)=some r:=h
 clear h
 have H':=Zz.mk H
 clear H
 go_enter Tryz.func123,Tryz.ntmps123
 go_wp2
 go_loopg [8] k (fun kq v8 w'=>∃ (x8_1:Int),v8=.int .i64 x8_1∧Zz (z157.l0 kq l0 (l0.length:Int) x8_1 a1_0=some r)∧Zz (kq≤k)∧Zz (w'.heap[gp1_0]?=some (.cells #[.int .i64 a1_0] 2 (0,0)))∧Zz (Below w.heap.size w w'))
 case atStart=>exact ⟨(0),E_,H',⟨Nat.le_refl _⟩,⟨KB_ BK68.out⟩,⟨B_ HB.out⟩⟩
 case round =>
  clear H'
  obtain ⟨x8_1,rfl,HA,HK1,BK68,HB⟩:=hrel
  cases gk with
  | zero=>exact absurd HA.out (by simp [z157.l0])
  | succ k1 =>
   have H:=HA.out
   clear HA
   simp only [z157.l0] at H
   by_cases c3:x8_1<(l0.length:Int)
   ·rw [if_pos c3] at H
    have c3b0:decide (x8_1<(l0.length:Int))=true:=decide_eq_true c3
    clear c3
    have c4b0:=O3_ H
    replace H:=O2_ H
    have c5b0:=O3_ H
    replace H:=O2_ H
    replace H:=OZ_ H
    obtain ⟨t102,A6,H⟩:=H
    by_cases c7:t102=true
    ·subst c7
     replace H:=T_ H
     obtain rfl:=OI_ H
     have p101:0≤(x8_1:Int):=D_
     have q101:x8_1<(l0.length:Int):=D_
     obtain ⟨ad101,e101,hx101_0⟩:=Kd.at_int HR0.out x8_1 p101 q101
     cases e101
     replace hx101_0:=(HB.out.cell (World.block_lt_of_cell? w _ hx101_0)).trans hx101_0
     replace p101:=eq_true p101
     replace q101:=eq_true q101
     go_wp2_with (first | (go_at_call 130;(with_reducible refine (z130.calls (rd l0 x8_1) gp1_0 a1_0 true _ ?side1 A6.out).mono ?_);(case side1=>refine BW_ ?_;exact BK68.out);rintro e w' ⟨rfl,⟨nd,rfl⟩⟩))
     go_ret
     exact ⟨F_,B_ HB.out⟩
    replace c7:=Bool.eq_false_iff.mpr c7
    subst c7
    replace H:=N_ H
    have H':=Zz.mk H
    clear H
    have p101:0≤(x8_1:Int):=D_
    have q101:x8_1<(l0.length:Int):=D_
    obtain ⟨ad101,e101,hx101_0⟩:=Kd.at_int HR0.out x8_1 p101 q101
    cases e101
    replace hx101_0:=(HB.out.cell (World.block_lt_of_cell? w _ hx101_0)).trans hx101_0
    replace p101:=eq_true p101
    replace q101:=eq_true q101
    go_wp2_with (first | (go_at_call 130;(with_reducible refine (z130.calls (rd l0 x8_1) gp1_0 a1_0 false _ ?side1 A6.out).mono ?_);(case side1=>refine BW_ ?_;exact BK68.out);rintro e w' ⟨rfl,⟨nd,rfl⟩⟩))
    go_roundg k1
    case measure=>exact Q1_ HK1
    case rel=>exact ⟨(wrap64 (x8_1+1)),E_,H',⟨Q1_ HK1⟩,⟨KB_ BK68.out⟩,⟨B_ HB.out⟩⟩
   rw [if_neg c3] at H
   have c3b0:decide (x8_1<(l0.length:Int))=false:=decide_eq_false c3
   clear c3
   obtain rfl:=OI_ H
   go_wp2
   go_ret
   exact ⟨F_,B_ HB.out⟩
def z156.f (k:Nat) (l0:List Int) (a1_0:Int):Option (Bool):=(z157.f k l0 a1_0).bind fun t101=>(some (decide (t101 ≥ 0)))
theorem z156.calls (k:Nat) (A0:Option Addr) (c0:Nat) (l0:List Int) (gp1_0:Nat) (a1_0:Int) (r:Bool) (w:World) (hbp1_0:w.heap[gp1_0]?=some (.cells #[.int .i64 a1_0] 2 (0,0))) (hr0:Kd.C (Kd.int .i64) w A0 l0.length l0) (hc0:l0.length≤c0) (h:z156.f k l0 a1_0=some r) :
  Calls Tryz.prog 102 #[.slice A0 l0.length c0,.func (.func 130) #[] #[.pointer (some ⟨gp1_0,0,none⟩)]] w fun e w'=>e=.returned (.bool r)∧Below w.heap.size w w':=by
 have HR0:=Zz.mk hr0
 have HC0:=Zz.mk hc0
 clear hr0 hc0
 have BK68:=Zz.mk hbp1_0
 clear hbp1_0
 have HB:=Zz.mk (Below.refl w.heap.size w)
 have H:((z157.f k l0 a1_0).bind fun t101=>(some (decide (t101 ≥ 0))))=some r:=h
 clear h
 replace H:=OZ_ H
 obtain ⟨t101,A3,H⟩:=H
 obtain rfl:=OI_ H
 go_enter Tryz.func102,Tryz.ntmps102
 go_wp2_with (first | ((with_reducible refine gC_ (f:=123) rfl ?_);refine GL_ (some 7) rfl rfl Tryz.func123 #[.slice A0 l0.length c0,.func (.func 130) #[] #[.pointer (some ⟨gp1_0,0,none⟩)]] rfl (h:=?_);(with_reducible refine (z157.calls k _ _ l0 gp1_0 a1_0 t101 _ ?side1 ?side2 ?side3 A3.out).mono ?_);(case side1=>refine BW_ ?_;exact BK68.out);(case side2=>exact KC_ HR0.out);(case side3=>exact HC0.out);rintro e w4 ⟨rfl,hb⟩;refine ⟨_,rfl,?_⟩;replace BK68:=Zz.mk (kb_ BK68.out hb);replace HB:=Zz.mk (bT_ (B_ HB.out) hb);(try clear hb)))
 go_ret
 exact ⟨F_,B_ HB.out⟩
def z122.f (k:Nat) (l0:List Int) (a1:Int):Option (Bool):=(z156.f k l0 a1).bind fun t102=>(some (!t102))
theorem z122.calls (k:Nat) (A0:Option Addr) (c0:Nat) (l0:List Int) (a1:Int) (r:Bool) (w:World) (hr0:Kd.C (Kd.int .i64) w A0 l0.length l0) (hc0:l0.length≤c0) (h:z122.f k l0 a1=some r) :
  Calls Tryz.prog 122 #[.slice A0 l0.length c0,.int .i64 a1] w fun e w'=>e=.returned (.bool r)∧Below w.heap.size w w':=by
 have HR0:=Zz.mk hr0
 have HC0:=Zz.mk hc0
 clear hr0 hc0
 have HB:=Zz.mk (Below.refl w.heap.size w)
 have H:((z156.f k l0 a1).bind fun t102=>(some (!t102)))=some r:=h
 clear h
 replace H:=OZ_ H
 obtain ⟨t102,A3,H⟩:=H
 obtain rfl:=OI_ H
 go_enter Tryz.func122,Tryz.ntmps122
 go_wp2_with (first | ((with_reducible refine qAm (N:=3) rfl ?_);refine bx_ 3 #[.int .i64 a1] 2 ?_;intro gb101 hg w4 hbox hb;have BK101:=Zz.mk (hbox);have GW101:=Zz.mk ((gw_ hg (B_ HB.out)));have GE101:=GW101;replace HB:=Zz.mk (bT_ (B_ HB.out) hb);clear hb hbox hg) | ((with_reducible refine gC_ (f:=102) rfl ?_);refine GL_ (some 7) rfl rfl Tryz.func102 #[.slice A0 l0.length c0,.func (.func 130) #[] #[.pointer (some ⟨gb101,0,none⟩)]] rfl (h:=?_);(with_reducible refine (z156.calls k _ _ l0 gb101 a1 t102 _ ?side1 ?side2 ?side3 A3.out).mono ?_);(case side1=>refine BW_ ?_;exact BK101.out);(case side2=>exact KC_ (Kd.C_below HR0.out HB.out));(case side3=>exact HC0.out);rintro e w5 ⟨rfl,hb⟩;refine ⟨_,rfl,?_⟩;replace BK101:=Zz.mk (kb_ BK101.out hb);replace HB:=Zz.mk (bT_ (B1_ HB.out GE101.out) hb);(try clear hb)))
 go_ret
 exact ⟨F_,B1_ HB.out GE101.out⟩
def z98.f (k:Nat) (l0:List Int) (a1:Int) (a2:Int):Option (Bool):=(z50.f l0).bind fun t101=>(if t101=a1 then ((z122.f k l0 a2).bind fun t102=>(some t102)) else (some false))
theorem z98.calls (k:Nat) (A0:Option Addr) (c0:Nat) (l0:List Int) (a1:Int) (a2:Int) (r:Bool) (w:World) (hr0:Kd.C (Kd.int .i64) w A0 l0.length l0) (hc0:l0.length≤c0) (h:z98.f k l0 a1 a2=some r) :
  Calls Tryz.prog 98 #[.slice A0 l0.length c0,.int .i64 a1,.int .i64 a2] w fun e w'=>e=.returned (.bool r)∧Below w.heap.size w w':=by
 have HR0:=Zz.mk hr0
 have HC0:=Zz.mk hc0
 clear hr0 hc0
 have HB:=Zz.mk (Below.refl w.heap.size w)
 have H:((z50.f l0).bind fun t101=>(if t101=a1 then ((z122.f k l0 a2).bind fun t102=>(some t102)) else (some false)))=some r:=h
 clear h
 replace H:=OZ_ H
 obtain ⟨t101,A4,H⟩:=H
 by_cases c5:t101=a1
 ·rw [if_pos c5] at H
  have c5b0:(t101 == a1)=true:=beq_iff_eq.mpr c5
  have c5b1:(t101 != a1)=false:=bne_eq_false_iff_eq.mpr c5
  clear c5
  replace H:=OZ_ H
  obtain ⟨t102,A6,H⟩:=H
  obtain rfl:=OI_ H
  go_enter Tryz.func98,Tryz.ntmps98
  go_wp2_with (first | ((with_reducible refine gC_ (f:=50) rfl ?_);refine GL_ (some 8) rfl rfl Tryz.func50 #[.slice A0 l0.length c0] rfl (h:=?_);(with_reducible refine (z50.calls _ _ l0 t101 _ ?side1 ?side2 A4.out).mono ?_);(case side1=>exact KC_ HR0.out);(case side2=>exact HC0.out);rintro e w' ⟨rfl,⟨nd,rfl⟩⟩;refine ⟨_,rfl,?_⟩) | (go_at_call 122;(with_reducible refine (z122.calls k _ _ l0 a2 t102 _ ?side1 ?side2 A6.out).mono ?_);(case side1=>exact KC_ HR0.out);(case side2=>exact HC0.out);rintro e w7 ⟨rfl,hb⟩;replace HB:=Zz.mk (bT_ (B_ HB.out) hb);(try clear hb)))
  go_ret
  exact ⟨F_,B_ HB.out⟩
 rw [if_neg c5] at H
 have c5b0:(t101 == a1)=false:=beq_eq_false_iff_ne.mpr c5
 have c5b1:(t101 != a1)=true:=bne_iff_ne.mpr c5
 obtain rfl:=OI_ H
 go_enter Tryz.func98,Tryz.ntmps98
 go_wp2_with (first | ((with_reducible refine gC_ (f:=50) rfl ?_);refine GL_ (some 8) rfl rfl Tryz.func50 #[.slice A0 l0.length c0] rfl (h:=?_);(with_reducible refine (z50.calls _ _ l0 t101 _ ?side1 ?side2 A4.out).mono ?_);(case side1=>exact KC_ HR0.out);(case side2=>exact HC0.out);rintro e w' ⟨rfl,⟨nd,rfl⟩⟩;refine ⟨_,rfl,?_⟩))
 go_ret
 exact ⟨F_,B_ HB.out⟩
def z64.f (k:Nat) (l0_0:List (List Int)) (a1:Int) (a2:Int) (l3:List Int):Option (Bool):=(z42.f k l0_0 a1).bind fun t102=>((z50.f t102).bind fun t105=>((z98.f k l3 t105 a2).bind fun t106=>(some t106)))
theorem z64.calls (k:Nat) (A0_0:Option Addr) (c0_0:Nat) (l0_0:List (List Int)) (a1:Int) (a2:Int) (A3:Option Addr) (c3:Nat) (l3:List Int) (r:Bool) (w:World) (hr0_0:Kd.C (Kd.slice 2 (Kd.int .i64)) w A0_0 l0_0.length l0_0) (hc0_0:l0_0.length≤c0_0) (hr3:Kd.C (Kd.int .i64) w A3 l3.length l3) (hc3:l3.length≤c3) (h:z64.f k l0_0 a1 a2 l3=some r) :
  Calls Tryz.prog 64 #[.agg #[.slice A0_0 l0_0.length c0_0],.int .i64 a1,.int .i64 a2,.slice A3 l3.length c3] w fun e w'=>e=.returned (.bool r)∧Below w.heap.size w w':=by
 have hu26:=Tryz.underlying26
 have HR0_0:=Zz.mk hr0_0
 have HC0_0:=Zz.mk hc0_0
 clear hr0_0 hc0_0
 have HR3:=Zz.mk hr3
 have HC3:=Zz.mk hc3
 clear hr3 hc3
 have HB:=Zz.mk (Below.refl w.heap.size w)
 have H:((z42.f k l0_0 a1).bind fun t102=>((z50.f t102).bind fun t105=>((z98.f k l3 t105 a2).bind fun t106=>(some t106))))=some r:=h
 clear h
 replace H:=OZ_ H
 obtain ⟨t102,A5,H⟩:=H
 replace H:=OZ_ H
 obtain ⟨t105,A6,H⟩:=H
 replace H:=OZ_ H
 obtain ⟨t106,A7,H⟩:=H
 obtain rfl:=OI_ H
 go_enter Tryz.func64,Tryz.ntmps64
 go_wp2_with (first | ((with_reducible refine qAm (N:=4) rfl ?_);refine bx_ 4 #[.slice A0_0 l0_0.length c0_0] 26 ?_;intro gb101 hg w8 hbox hb;have BK101:=Zz.mk (hbox);have GW101:=Zz.mk ((gw_ hg (B_ HB.out)));have GE101:=GW101;replace HB:=Zz.mk (bT_ (B_ HB.out) hb);clear hb hbox hg;obtain ⟨hcz9_0,hfz9_0⟩:=Z1f_ BK101.out) | ((with_reducible refine gC_ (f:=42) rfl ?_);refine GL_ (some 12) rfl rfl Tryz.func42 #[.agg #[.slice A0_0 l0_0.length c0_0],.int .i64 a1] rfl (h:=?_);(with_reducible refine (z42.calls k _ _ l0_0 a1 t102 _ ?side1 ?side2 A5.out).mono ?_);(case side1=>exact KC_ (Kd.C_below HR0_0.out HB.out));(case side2=>exact HC0_0.out);rintro e w10 ⟨v103,rfl,ho0,hb⟩;refine ⟨_,rfl,?_⟩;have HO104:=Zz.mk (Kd.R_lower ho0 (bS_ (B1_ HB.out GE101.out)));replace BK101:=Zz.mk (kb_ BK101.out hb);replace HB:=Zz.mk (bT_ (B1_ HB.out GE101.out) hb);(try clear hb);(try clear ho0);obtain ⟨Ao11,co11,eo11⟩:=Kd.R_slice HO104.out;subst eo11) | ((with_reducible refine gC_ (f:=50) rfl ?_);refine GL_ (some 13) rfl rfl Tryz.func50 #[.slice Ao11 t102.length co11] rfl (h:=?_);(with_reducible refine (z50.calls _ _ t102 t105 _ ?side1 ?side2 A6.out).mono ?_);(case side1=>exact KC_ (Kd.R_reads' HO104.out).2.2);(case side2=>exact (Kd.R_reads' HO104.out).2.1);rintro e w' ⟨rfl,⟨nd,rfl⟩⟩;refine ⟨_,rfl,?_⟩) | ((with_reducible refine gC_ (f:=98) rfl ?_);refine GL_ (some 15) rfl rfl Tryz.func98 #[.slice A3 l3.length c3,.int .i64 t105,.int .i64 a2] rfl (h:=?_);(with_reducible refine (z98.calls k _ _ l3 t105 a2 t106 _ ?side1 ?side2 A7.out).mono ?_);(case side1=>repeat (first | exact (Kd.C_below HR3.out (B1_ HB.out GE101.out)) | (with_reducible refine Kd.C_alloc ?_ _) | (with_reducible refine Kd.C_drewN ?_ _) | (with_reducible refine Kd.C_drew ?_)));(case side2=>exact HC3.out);rintro e w12 ⟨rfl,hb⟩;refine ⟨_,rfl,?_⟩;replace HO104:=Zz.mk (Kd.R_below (KR_ HO104.out) hb);replace BK101:=Zz.mk (kb_ BK101.out hb);replace HB:=Zz.mk (bT_ (B1_ HB.out GE101.out) hb);(try clear hb)))
 go_ret
 exact ⟨F_,B1_ HB.out GE101.out⟩
def z8.f (l0:List Int) (a1:Int) (a2:Int):Option (Int):=if a2≤1 then (some 0) else (if a1 ≥ (l0.length:Int) then (some 0) else (if 0≤a1 then (if a1<(l0.length:Int) then (if a2=0 then (none) else (some (Int.tmod (wrap64 (rd l0 a1)) a2))) else (none)) else (none)))
theorem z8.calls (A0:Option Addr) (c0:Nat) (l0:List Int) (a1:Int) (a2:Int) (r:Int) (w:World) (hr0:Kd.C (Kd.int .u8) w A0 l0.length l0) (hc0:l0.length≤c0) (h:z8.f l0 a1 a2=some r) :
  Calls Tryz.prog 8 #[.slice A0 l0.length c0,.int .i64 a1,.int .i64 a2] w fun e w'=>e=.returned (.int .i64 r)∧Dz w w':=by
 have HR0:=Zz.mk hr0
 have HC0:=Zz.mk hc0
 clear hr0 hc0
 have H:(if a2≤1 then (some 0) else (if a1 ≥ (l0.length:Int) then (some 0) else (if 0≤a1 then (if a1<(l0.length:Int) then (if a2=0 then (none) else (some (Int.tmod (wrap64 (rd l0 a1)) a2))) else (none)) else (none))))=some r:=h
 clear h
 by_cases c4:a2≤1
 ·rw [if_pos c4] at H
  have c4b0:decide (a2≤1)=true:=decide_eq_true c4
  clear c4
  obtain rfl:=OI_ H
  go_enter Tryz.func8,Tryz.ntmps8
  go_wp2
  go_ret
  exact eD_
 rw [if_neg c4] at H
 have c4b0:decide (a2≤1)=false:=decide_eq_false c4
 clear c4
 by_cases c5:a1 ≥ (l0.length:Int)
 ·rw [if_pos c5] at H
  have c5b0:decide ((l0.length:Int)≤a1)=true:=decide_eq_true c5
  clear c5
  obtain rfl:=OI_ H
  go_enter Tryz.func8,Tryz.ntmps8
  go_wp2
  go_ret
  exact eD_
 rw [if_neg c5] at H
 have c5b0:decide ((l0.length:Int)≤a1)=false:=decide_eq_false c5
 clear c5
 have c6b0:=O3_ H
 replace H:=O2_ H
 have c7b0:=O3_ H
 replace H:=O2_ H
 by_cases c8:a2=0
 ·rw [if_pos c8] at H
  exact X_ H
 rw [if_neg c8] at H
 have c8b0:(a2 == 0)=false:=beq_eq_false_iff_ne.mpr c8
 have c8b1:(a2 != 0)=true:=bne_iff_ne.mpr c8
 obtain rfl:=OI_ H
 have p101:0≤(a1:Int):=D_
 have q101:a1<(l0.length:Int):=D_
 obtain ⟨ad101,e101,hx101_0⟩:=Kd.at_int HR0.out a1 p101 q101
 cases e101
 replace p101:=eq_true p101
 replace q101:=eq_true q101
 go_enter Tryz.func8,Tryz.ntmps8
 go_wp2
 go_ret
 exact eD_
def z5.f (l0:List Int) (l1:List Int):Option (Bool):=if (l0.length:Int) > 1048576 then (some true) else (some (decide ((l1.length:Int) > 1048576)))
theorem z5.calls (A0:Option Addr) (c0:Nat) (l0:List Int) (A1:Option Addr) (c1:Nat) (l1:List Int) (r:Bool) (w:World) (hr0:Kd.C (Kd.int .u8) w A0 l0.length l0) (hc0:l0.length≤c0) (hr1:Kd.C (Kd.int .u8) w A1 l1.length l1) (hc1:l1.length≤c1) (h:z5.f l0 l1=some r) :
  Calls Tryz.prog 5 #[.slice A0 l0.length c0,.slice A1 l1.length c1] w fun e w'=>e=.returned (.bool r)∧Dz w w':=by
 have HR0:=Zz.mk hr0
 have HC0:=Zz.mk hc0
 clear hr0 hc0
 have HR1:=Zz.mk hr1
 have HC1:=Zz.mk hc1
 clear hr1 hc1
 have H:(if (l0.length:Int) > 1048576 then (some true) else (some (decide ((l1.length:Int) > 1048576))))=some r:=h
 clear h
 by_cases c3:(l0.length:Int) > 1048576
 ·rw [if_pos c3] at H
  have c3b0:decide (1048576<(l0.length:Int))=true:=decide_eq_true c3
  have c3b1:decide (1048576<l0.length)=true:=decide_eq_true (by omega)
  clear c3
  obtain rfl:=OI_ H
  go_enter Tryz.func5,Tryz.ntmps5
  go_wp2
  go_ret
  exact eD_
 rw [if_neg c3] at H
 have c3b0:decide (1048576<(l0.length:Int))=false:=decide_eq_false c3
 have c3b1:decide (1048576<l0.length)=false:=decide_eq_false (by omega)
 clear c3
 obtain rfl:=OI_ H
 go_enter Tryz.func5,Tryz.ntmps5
 go_wp2
 go_ret
 exact eD_
def z17.l0:Nat→List Int→List Int→Int→Option (Bool)
 | 0,_,_,_=>none
 | k+1,x0,x1,x5=>if x5<(x0.length:Int) then (if 0≤x5 then (if x5<(x1.length:Int) then (if (rd x0 x5)=(rd x1 x5) then (z17.l0 k x0 x1 (wrap64 (x5+1))) else (some false)) else (none)) else (none)) else (some true)
def z17.f (k:Nat) (l0:List Int) (l1:List Int):Option (Bool):=if (l0.length:Int)=(l1.length:Int) then (z17.l0 k l0 l1 0) else (some false)
theorem z17.calls (k:Nat) (A0:Option Addr) (c0:Nat) (l0:List Int) (A1:Option Addr) (c1:Nat) (l1:List Int) (r:Bool) (w:World) (hr0:Kd.C (Kd.int .i64) w A0 l0.length l0) (hc0:l0.length≤c0) (hr1:Kd.C (Kd.int .i64) w A1 l1.length l1) (hc1:l1.length≤c1) (h:z17.f k l0 l1=some r) :
  Calls Tryz.prog 17 #[.slice A0 l0.length c0,.slice A1 l1.length c1] w fun e w'=>e=.returned (.bool r)∧Dz w w':=by
 have HR0:=Zz.mk hr0
 have HC0:=Zz.mk hc0
 clear hr0 hc0
 have HR1:=Zz.mk hr1
 have HC1:=Zz.mk hc1
 clear hr1 hc1
 have H:(if (l0.length:Int)=(l1.length:Int) then (z17.l0 k l0 l1 0) else (some false))=some r:=h
 clear h
 by_cases c3:(l0.length:Int)=(l1.length:Int)
 ·rw [if_pos c3] at H
  have c3b0:((l0.length:Int) == (l1.length:Int))=true:=beq_iff_eq.mpr c3
  have c3b1:((l0.length:Int) != (l1.length:Int))=false:=bne_eq_false_iff_eq.mpr c3
  have c3b2:(l0.length == l1.length)=true:=by first | simpa using c3 | (simp at c3 ⊢;omega)
  clear c3
  have H':=Zz.mk H
  clear H
  go_enter Tryz.func17,Tryz.ntmps17
  go_wp2
  repeat (go_quiet (fail);try go_wp2)
  go_loopg [5] k (fun kq v5 w'=>∃ (x5_1:Int),v5=.int .i64 x5_1∧Zz (z17.l0 kq l0 l1 x5_1=some r)∧Zz (kq≤k)∧Dz w w')
  case atStart=>exact ⟨(0),E_,H',⟨Nat.le_refl _⟩,by repeat (first | exact Dz.refl _ | apply Dz.step)⟩
  case round =>
   clear H'
   (try clear c1);(try clear c3);(try clear c3b0);(try clear c3b1);(try clear c3b2)
   obtain ⟨x5_1,rfl,HA,HK1,⟨m1,rfl⟩⟩:=hrel
   cases gk with
   | zero=>exact absurd HA.out (by simp [z17.l0])
   | succ k1 =>
    have H:=HA.out
    clear HA
    simp only [z17.l0] at H
    by_cases c4:x5_1<(l0.length:Int)
    ·rw [if_pos c4] at H
     have c4b0:decide (x5_1<(l0.length:Int))=true:=decide_eq_true c4
     clear c4
     have c5b0:=O3_ H
     replace H:=O2_ H
     have c6b0:=O3_ H
     replace H:=O2_ H
     by_cases c7:(rd l0 x5_1)=(rd l1 x5_1)
     ·rw [if_pos c7] at H
      have c7b0:((rd l0 x5_1) == (rd l1 x5_1))=true:=beq_iff_eq.mpr c7
      have c7b1:((rd l0 x5_1) != (rd l1 x5_1))=false:=bne_eq_false_iff_eq.mpr c7
      clear c7
      have H':=Zz.mk H
      clear H
      have p101:0≤(x5_1:Int):=D_
      have q101:x5_1<(l0.length:Int):=D_
      obtain ⟨ad101,e101,hx101_0⟩:=Kd.at_int HR0.out x5_1 p101 q101
      cases e101
      replace p101:=eq_true p101
      replace q101:=eq_true q101
      have p102:0≤(x5_1:Int):=D_
      have q102:x5_1<(l1.length:Int):=D_
      obtain ⟨ad102,e102,hx102_0⟩:=Kd.at_int HR1.out x5_1 p102 q102
      cases e102
      replace p102:=eq_true p102
      replace q102:=eq_true q102
      go_wp2
      repeat (go_quiet (fail);try go_wp2)
      go_roundg k1
      case measure=>exact Q1_ HK1
      case rel=>exact ⟨(wrap64 (x5_1+1)),E_,H',⟨Q1_ HK1⟩,by repeat (first | exact Dz.refl _ | apply Dz.step)⟩
     rw [if_neg c7] at H
     have c7b0:((rd l0 x5_1) == (rd l1 x5_1))=false:=beq_eq_false_iff_ne.mpr c7
     have c7b1:((rd l0 x5_1) != (rd l1 x5_1))=true:=bne_iff_ne.mpr c7
     obtain rfl:=OI_ H
     have p101:0≤(x5_1:Int):=D_
     have q101:x5_1<(l0.length:Int):=D_
     obtain ⟨ad101,e101,hx101_0⟩:=Kd.at_int HR0.out x5_1 p101 q101
     cases e101
     replace p101:=eq_true p101
     replace q101:=eq_true q101
     have p102:0≤(x5_1:Int):=D_
     have q102:x5_1<(l1.length:Int):=D_
     obtain ⟨ad102,e102,hx102_0⟩:=Kd.at_int HR1.out x5_1 p102 q102
     cases e102
     replace p102:=eq_true p102
     replace q102:=eq_true q102
     go_wp2
     repeat (go_quiet (fail);try go_wp2)
     go_ret
     exact eD_
    rw [if_neg c4] at H
    have c4b0:decide (x5_1<(l0.length:Int))=false:=decide_eq_false c4
    clear c4
    obtain rfl:=OI_ H
    go_wp2
    repeat (go_quiet (fail);try go_wp2)
    go_ret
    exact eD_
 rw [if_neg c3] at H
 have c3b0:((l0.length:Int) == (l1.length:Int))=false:=beq_eq_false_iff_ne.mpr c3
 have c3b1:((l0.length:Int) != (l1.length:Int))=true:=bne_iff_ne.mpr c3
 have c3b2:(l0.length == l1.length)=false:=by first | simpa using c3 | (simp at c3 ⊢;omega)
 obtain rfl:=OI_ H
 go_enter Tryz.func17,Tryz.ntmps17
 go_wp2
 repeat (go_quiet (fail);try go_wp2)
 go_ret
 exact eD_
def qAa (w0 W:World) (g:Nat) (f0:List Int) (f1:Int) (f2:Int):Prop:=∃ A0 c0,W.heap[g]?=some (.cells #[.slice A0 f0.length c0,.int .i64 f1,.int .u64 f2] 86 (0,0))∧w0.heap.size≤g∧Kd.C (Kd.int .u8) w0 A0 f0.length f0
theorem qAa.grown {w0 W:World} {g:Nat} {f0:List Int} {f1:Int} {f2:Int} {W1:World} {row:Option Nat} (h:qAa w0 W g f0 f1 f2) (hw:W.grownBy W1 row) (hne:some g≠row):qAa w0 W1 g f0 f1 f2:=by
 obtain ⟨A0,c0,hb,hg,hr0⟩:=h
 exact ⟨A0,c0,qA9 hb hw hne,hg,hr0⟩
theorem qAa.own_neN {w0 W:World} {g:Nat} {f0:List Int} {f1:Int} {f2:Int} {α:Type} {d:Kd α} {e:Nat} {base:Nat} {ok:Nat→Prop} {v:Value} {xs:List α} (h:qAa w0 W g f0 f1 f2) (ho:Kd.N d e W base ok v xs) (ht:e≠86):some g≠v.ownBlock:=by
 obtain ⟨A0,c0,hb,hg,hr0⟩:=h
 exact Kd.N_ne ho hb ht
theorem qAa.fresh {w0 W:World} {g:Nat} {f0:List Int} {f1:Int} {f2:Int} (h:qAa w0 W g f0 f1 f2):∀ k,W.heap.size≤k→k≠g:=by
 obtain ⟨A0,c0,hb,hg,hr0⟩:=h
 exact Kd.freshB hb
theorem qAa.kept {w0 W:World} {g:Nat} {f0:List Int} {f1:Int} {f2:Int} {W1:World} {S:Nat→Prop} (h:qAa w0 W g f0 f1 f2) (hk:Kept W W1 S) (hne:¬ S g):qAa w0 W1 g f0 f1 f2:=by
 obtain ⟨A0,c0,hb,hg,hr0⟩:=h
 exact ⟨A0,c0,qKx hb hk hne,hg,hr0⟩
theorem qAa.below {w0 W:World} {g:Nat} {f0:List Int} {f1:Int} {f2:Int} {W1:World} (h:qAa w0 W g f0 f1 f2) (hw:Below W.heap.size W W1):qAa w0 W1 g f0 f1 f2:=h.grown (qD8 hw none) (by simp)
theorem qAa.alloc {w0 W:World} {g:Nat} {f0:List Int} {f1:Int} {f2:Int} (h:qAa w0 W g f0 f1 f2) (o:Obj):qAa w0 (W.alloc o) g f0 f1 f2:=h.below (qAg (Below.refl _ _) o)
theorem qAa.drewN {w0 W:World} {g:Nat} {f0:List Int} {f1:Int} {f2:Int} (h:qAa w0 W g f0 f1 f2) (m:Nat):qAa w0 (W.drewN m) g f0 f1 f2:=h
theorem qAa.drew {w0 W:World} {g:Nat} {f0:List Int} {f1:Int} {f2:Int} (h:qAa w0 W g f0 f1 f2):qAa w0 W.drew g f0 f1 f2:=h
theorem qAa.at_ {w0 W:World} {g:Nat} {f0:List Int} {f1:Int} {f2:Int} {w':World} {m:Nat} (hq:W.drewN m=w') (h:qAa w0 W g f0 f1 f2):qAa w0 w' g f0 f1 f2:=by subst hq;exact qAa.drewN h m
theorem qAa.apart {w0 W:World} {g:Nat} {f0:List Int} {f1:Int} {f2:Int} {α:Type} {d:Kd α} {e:Nat} {base:Nat} {ok:Nat→Prop} {v:Value} {xs:List α} (h:qAa w0 W g f0 f1 f2) (ho:d.R e W base ok v xs) (ht:∀ q,q∈e :: d.E→q≠86):d.R e W base (fun k=>ok k∧k≠g) v xs:=by
 obtain ⟨A0,c0,hb,hg,hr0⟩:=h
 exact Kd.R_types ho hb ht
theorem qAa.own_ne {w0 W:World} {g:Nat} {f0:List Int} {f1:Int} {f2:Int} {α:Type} {d:Kd α} {e:Nat} {base:Nat} {ok:Nat→Prop} {v:Value} {xs:List α} (h:qAa w0 W g f0 f1 f2) (ho:d.R e W base ok v xs) (ht:e≠86):some g≠v.ownBlock:=by
 obtain ⟨A0,c0,hb,hg,hr0⟩:=h
 exact Kd.R_ne ho hb ht
theorem qAa.apartQ {w0 W:World} {g:Nat} {f0:List Int} {f1:Int} {f2:Int} {α:Type} {d:Kd α} {e:Nat} {base:Nat} {ok:Nat→Prop} {v:Value} {xs:List α} (h:qAa w0 W g f0 f1 f2) (ho:d.Q e W base ok v xs) (ht:∀ q,q∈e :: d.E→q≠86):d.Q e W base (fun k=>ok k∧k≠g) v xs:=by
 obtain ⟨A0,c0,hb,hg,hr0⟩:=h
 exact Kd.Q_types ho hb ht
theorem qAa.own_neQ {w0 W:World} {g:Nat} {f0:List Int} {f1:Int} {f2:Int} {α:Type} {d:Kd α} {e:Nat} {base:Nat} {ok:Nat→Prop} {v:Value} {xs:List α} (h:qAa w0 W g f0 f1 f2) (ho:d.Q e W base ok v xs) (ht:e≠86):some g≠v.ownBlock:=by
 obtain ⟨A0,c0,hb,hg,hr0⟩:=h
 exact Kd.Q_ne ho hb ht
theorem qAa.apartS {w0 W:World} {g:Nat} {f0:List Int} {f1:Int} {f2:Int} {α:Type} {d:Kd α} {e:Nat} {base:Nat} {ok:Nat→Prop} {v:Value} {xs:List α} (h:qAa w0 W g f0 f1 f2) (ho:d.S e W base ok v xs) (ht:∀ q,q∈e :: d.E→q≠86):d.S e W base (fun k=>ok k∧k≠g) v xs:=by
 obtain ⟨A0,c0,hb,hg,hr0⟩:=h
 exact Kd.S_types ho hb ht
theorem qAa.own_neS {w0 W:World} {g:Nat} {f0:List Int} {f1:Int} {f2:Int} {α:Type} {d:Kd α} {e:Nat} {base:Nat} {ok:Nat→Prop} {v:Value} {xs:List α} (h:qAa w0 W g f0 f1 f2) (ho:d.S e W base ok v xs) (ht:e≠86):some g≠v.ownBlock:=by
 obtain ⟨A0,c0,hb,hg,hr0⟩:=h
 exact Kd.S_ne ho hb ht
theorem qAa.lt {w0 W:World} {g:Nat} {f0:List Int} {f1:Int} {f2:Int} (h:qAa w0 W g f0 f1 f2):g<W.heap.size:=by
 obtain ⟨A0,c0,hb,hg,hr0⟩:=h
 exact qE8 hb
theorem qAa.ge {w0 W:World} {g:Nat} {f0:List Int} {f1:Int} {f2:Int} (h:qAa w0 W g f0 f1 f2):w0.heap.size≤g:=by
 obtain ⟨A0,c0,hb,hg,hr0⟩:=h
 exact hg
theorem rW3_ {p q a1 a2:Prop} (x:q) (y1:a1) (y2:a2) (h:q→a1→a2→p:=by intro hx_ hy1_ hy2_;repeat (first | (with_reducible first | exact hx_ | apply qAg | apply qAb | apply qAe | refine qAd ?_ (qAa.ge hy1_) | refine qAd ?_ hy2_) | exact hx_)):p:=h x y1 y2
theorem rW4_ {p q a1:Prop} (x:q) (y1:a1) (h:q→a1→p:=by intro hx_ hy1_;repeat (first | (with_reducible first | exact hx_ | apply qAg | apply qAb | apply qAe | refine qAd ?_ (qAa.ge hy1_)) | exact hx_)):p:=h x y1
theorem qAa.ne_blk {w0 W:World} {g:Nat} {f0:List Int} {f1:Int} {f2:Int} {a:Nat} {cs:Array Value} {t:TypeId} {fr:Nat × Nat} (h:qAa w0 W g f0 f1 f2) (hb2:W.heap[a]?=some (.cells cs t fr)) (ht:t≠86):g≠a:=by
 obtain ⟨A0,c0,hb,hg,hr0⟩:=h
 rintro rfl
 rw [hb] at hb2
 injection hb2 with hb2
 injection hb2 with _ ht2
 exact ht ht2.symm
theorem qAa.far {w0 W:World} {g:Nat} {f0:List Int} {f1:Int} {f2:Int} {p:Addr} (h:qAa w0 W g f0 f1 f2) (hne:g≠p.block) (u:Value):qAa w0 (W.setCell p u) g f0 f1 f2:=by
 obtain ⟨A0,c0,hb,hg,hr0⟩:=h
 exact ⟨A0,c0,bR_ hb hne u,hg,hr0⟩
theorem qE7 {W:World} {g:Nat} {A0:Option Addr} {c0:Nat} {f0:List Int} {f1:Int} {f2:Int} (h:W.heap[g]?=some (.cells #[.slice A0 f0.length c0,.int .i64 f1,.int .u64 f2] 86 (0,0))):W.cell? ⟨g,0,none⟩=some (.slice A0 f0.length c0):=(bC_ h 0).trans rfl
theorem qE6 {W:World} {g:Nat} {A0:Option Addr} {c0:Nat} {f0:List Int} {f1:Int} {f2:Int} (h:W.heap[g]?=some (.cells #[.slice A0 f0.length c0,.int .i64 f1,.int .u64 f2] 86 (0,0))):W.cell? ⟨g,1,none⟩=some (.int .i64 f1):=(bC_ h 1).trans rfl
theorem qAa.set_1 {w0 W:World} {g:Nat} {f0:List Int} {f1:Int} {f2:Int} (h:qAa w0 W g f0 f1 f2) (x:Int):qAa w0 (W.setCell ⟨g,1,none⟩ (.int .i64 x)) g f0 x f2:=by
 obtain ⟨A0,c0,hb,hg,hr0⟩:=h
 exact ⟨A0,c0,by simpa using qIi hb 1 (.int .i64 x),hg,hr0⟩
theorem qE5 {W:World} {g:Nat} {A0:Option Addr} {c0:Nat} {f0:List Int} {f1:Int} {f2:Int} (h:W.heap[g]?=some (.cells #[.slice A0 f0.length c0,.int .i64 f1,.int .u64 f2] 86 (0,0))):W.cell? ⟨g,2,none⟩=some (.int .u64 f2):=(bC_ h 2).trans rfl
theorem qAa.set_2 {w0 W:World} {g:Nat} {f0:List Int} {f1:Int} {f2:Int} (h:qAa w0 W g f0 f1 f2) (x:Int):qAa w0 (W.setCell ⟨g,2,none⟩ (.int .u64 x)) g f0 f1 x:=by
 obtain ⟨A0,c0,hb,hg,hr0⟩:=h
 exact ⟨A0,c0,by simpa using qIi hb 2 (.int .u64 x),hg,hr0⟩
theorem rW1_ {p q a1:Prop} (x:q) (y1:a1) (h:q→a1→p:=by intro hx_ hy1_;repeat (first | (with_reducible first | exact hx_ | apply qAa.alloc | apply qAa.drewN | apply qAa.drew | apply qAa.set_1 | apply qAa.set_2 | refine qAa.far ?_ hy1_ _) | exact hx_)):p:=h x y1
theorem rW2_ {p q:Prop} (x:q) (h:q→p:=by intro hx_;repeat (first | (with_reducible first | exact hx_ | apply qAa.alloc | apply qAa.drewN | apply qAa.drew | apply qAa.set_1 | apply qAa.set_2) | exact hx_)):p:=h x
theorem qAa.new (w0 W:World) (A0:Option Addr) (c0:Nat) (f0:List Int) (f1:Int) (f2:Int) (hB:Below w0.heap.size w0 W) (hr0:Kd.C (Kd.int .u8) w0 A0 f0.length f0):qAa w0 (W.alloc (.cells #[.slice A0 f0.length c0,.int .i64 f1,.int .u64 f2] 86)) W.heap.size f0 f1 f2:=⟨A0,c0,by simpa using heap_alloc_new W _,hB.size,hr0⟩
def z27.f (l0:List Int):Option (List Int × Int × Int):=some (l0,0,0)
theorem z27.calls (A0:Option Addr) (c0:Nat) (l0:List Int) (r1:List Int) (r2:Int) (r3:Int) (w0 w:World) (hB:Below w0.heap.size w0 w) (hr0:Kd.C (Kd.int .u8) w0 A0 l0.length l0) (hc0:l0.length≤c0) (h:z27.f l0=some (r1,r2,r3)) :
  Calls Tryz.prog 27 #[.slice A0 l0.length c0] w fun e w'=>∃ g_:Nat,e=.returned (.pointer (some ⟨g_,0,none⟩))∧qAa w0 w' g_ r1 r2 r3∧Below w0.heap.size w0 w'∧Below w.heap.size w w':=by
 have hu86:=Tryz.underlying86
 have HR0:=Zz.mk hr0
 have HC0:=Zz.mk hc0
 clear hr0 hc0
 have HBW:=Zz.mk (Below.refl w.heap.size w)
 have HW0:=Zz.mk hB.size
 have HB:=Zz.mk hB
 clear hB
 have H:(some (l0,0,0))=some (r1,r2,r3):=h
 clear h
 simp only [Option.some.injEq,Prod.mk.injEq] at H
 obtain ⟨rfl,rfl,rfl⟩:=H
 go_enter Tryz.func27,Tryz.ntmps27
 go_wp2_with (first | ((with_reducible refine qAm (N:=5) rfl ?_);refine bx_ 5 #[.slice A0 l0.length c0,.int .i64 0,.int .u64 0] 86 ?_;intro gb101 hg w2 hbox hb;have BK101:=Zz.mk (hbox);have GW101:=Zz.mk ((gw_ hg (B_ HBW.out)));have GE101:=Zz.mk ((Nat.le_trans HW0.out (gw_ hg (B_ HBW.out)):w0.heap.size≤gb101));replace HBW:=Zz.mk (bT_ HBW.out hb);replace HB:=Zz.mk (bT_ (B_ HB.out) hb);clear hb hbox hg))
 go_ret
 exact ⟨_,rfl,(show qAa w0 _ gb101 l0 0 0 from ⟨_,_,KB_ BK101.out,GE101.out,HR0.out⟩),B1_ HB.out GE101.out,B1_ HBW.out GW101.out⟩
def z63.f (s0_0:List Int) (s0_1:Int) (s0_2:Int):Option (Int × Int × Int):=if s0_1<(s0_0.length:Int) then (if 0≤s0_1 then (if (wrap64 (s0_1+1))≤(s0_0.length:Int) then (some (wrap64 (rd s0_0 s0_1),wrap64 (s0_1+1),IntKind.u64.wrap ((IntKind.u64.wrap ((IntKind.u64.wrap (s0_2 * 6364136223846793005))+(IntKind.u64.wrap (wrap64 (rd s0_0 s0_1)))))+1442695040888963407))) else (some (wrap64 (Go.bits .and .u64 ((IntKind.u64.wrap ((IntKind.u64.wrap ((IntKind.u64.wrap (s0_2 * 6364136223846793005))+(IntKind.u64.wrap (wrap64 (rd s0_0 s0_1)))))+1442695040888963407)) / 1099511627776) 255),wrap64 (s0_1+1),IntKind.u64.wrap ((IntKind.u64.wrap ((IntKind.u64.wrap (s0_2 * 6364136223846793005))+(IntKind.u64.wrap (wrap64 (rd s0_0 s0_1)))))+1442695040888963407)))) else (none)) else (if (wrap64 (s0_1+1))≤(s0_0.length:Int) then (some (0,wrap64 (s0_1+1),IntKind.u64.wrap ((IntKind.u64.wrap ((IntKind.u64.wrap (s0_2 * 6364136223846793005))+0))+1442695040888963407))) else (some (wrap64 (Go.bits .and .u64 ((IntKind.u64.wrap ((IntKind.u64.wrap ((IntKind.u64.wrap (s0_2 * 6364136223846793005))+0))+1442695040888963407)) / 1099511627776) 255),wrap64 (s0_1+1),IntKind.u64.wrap ((IntKind.u64.wrap ((IntKind.u64.wrap (s0_2 * 6364136223846793005))+0))+1442695040888963407))))
theorem z63.calls (g:Nat) (s0_0:List Int) (s0_1:Int) (s0_2:Int) (r1:Int) (r2:Int) (r3:Int) (w0 w:World) (hI:qAa w0 w g s0_0 s0_1 s0_2) (hB:Below w0.heap.size w0 w) (h:z63.f s0_0 s0_1 s0_2=some (r1,r2,r3)) :
  Calls Tryz.prog 63 #[.pointer (some ⟨g,0,none⟩)] w fun e w'=>e=.returned (.int .i64 r1)∧qAa w0 w' g s0_0 r2 r3∧Below w0.heap.size w0 w'∧qAf w w' g none:=by
 have HI0:=Zz.mk hI
 have HK:=Zz.mk (qAf.refl w g none)
 have HL:=Zz.mk hB.size
 clear hI
 have HW0:=Zz.mk hB.size
 have HB:=Zz.mk hB
 clear hB
 have H:(if s0_1<(s0_0.length:Int) then (if 0≤s0_1 then (if (wrap64 (s0_1+1))≤(s0_0.length:Int) then (some (wrap64 (rd s0_0 s0_1),wrap64 (s0_1+1),IntKind.u64.wrap ((IntKind.u64.wrap ((IntKind.u64.wrap (s0_2 * 6364136223846793005))+(IntKind.u64.wrap (wrap64 (rd s0_0 s0_1)))))+1442695040888963407))) else (some (wrap64 (Go.bits .and .u64 ((IntKind.u64.wrap ((IntKind.u64.wrap ((IntKind.u64.wrap (s0_2 * 6364136223846793005))+(IntKind.u64.wrap (wrap64 (rd s0_0 s0_1)))))+1442695040888963407)) / 1099511627776) 255),wrap64 (s0_1+1),IntKind.u64.wrap ((IntKind.u64.wrap ((IntKind.u64.wrap (s0_2 * 6364136223846793005))+(IntKind.u64.wrap (wrap64 (rd s0_0 s0_1)))))+1442695040888963407)))) else (none)) else (if (wrap64 (s0_1+1))≤(s0_0.length:Int) then (some (0,wrap64 (s0_1+1),IntKind.u64.wrap ((IntKind.u64.wrap ((IntKind.u64.wrap (s0_2 * 6364136223846793005))+0))+1442695040888963407))) else (some (wrap64 (Go.bits .and .u64 ((IntKind.u64.wrap ((IntKind.u64.wrap ((IntKind.u64.wrap (s0_2 * 6364136223846793005))+0))+1442695040888963407)) / 1099511627776) 255),wrap64 (s0_1+1),IntKind.u64.wrap ((IntKind.u64.wrap ((IntKind.u64.wrap (s0_2 * 6364136223846793005))+0))+1442695040888963407)))))=some (r1,r2,r3):=h
 clear h
 by_cases c2:s0_1<(s0_0.length:Int)
 ·rw [if_pos c2] at H
  have c2b0:decide (s0_1<(s0_0.length:Int))=true:=decide_eq_true c2
  clear c2
  have c3b0:=O3_ H
  replace H:=O2_ H
  by_cases c4:(wrap64 (s0_1+1))≤(s0_0.length:Int)
  ·rw [if_pos c4] at H
   have c4b0:decide ((wrap64 (s0_1+1))≤(s0_0.length:Int))=true:=decide_eq_true c4
   clear c4
   simp only [Option.some.injEq,Prod.mk.injEq] at H
   obtain ⟨rfl,rfl,rfl⟩:=H
   obtain ⟨ASz5_0,cSz5_0,HGz5,hgz5,HSz5_0⟩:=HI0.out
   have hcz5_0:=qE7 HGz5
   have hcz5_1:=qE6 HGz5
   have hcz5_2:=qE5 HGz5
   have hfz5_1:=bF_ HGz5 1
   have hfz5_2:=bF_ HGz5 2
   clear HGz5 hgz5
   have p101:0≤(s0_1:Int):=D_
   have q101:s0_1<(s0_0.length:Int):=D_
   obtain ⟨ad101,e101,hx101_0⟩:=Kd.at_int HSz5_0 s0_1 p101 q101
   cases e101
   replace hx101_0:=qCb HB.out hx101_0
   replace p101:=eq_true p101
   replace q101:=eq_true q101
   go_enter Tryz.func63,Tryz.ntmps63
   go_wp2
   repeat (go_quiet (fail);try go_wp2)
   go_ret
   exact ⟨F_,by (try simp only [Int.add_zero]);exact rW2_ HI0.out,rW4_ HB.out HI0.out,rW5_ HK.out⟩
  rw [if_neg c4] at H
  have c4b0:decide ((wrap64 (s0_1+1))≤(s0_0.length:Int))=false:=decide_eq_false c4
  clear c4
  simp only [Option.some.injEq,Prod.mk.injEq] at H
  obtain ⟨rfl,rfl,rfl⟩:=H
  obtain ⟨ASz6_0,cSz6_0,HGz6,hgz6,HSz6_0⟩:=HI0.out
  have hcz6_0:=qE7 HGz6
  have hcz6_1:=qE6 HGz6
  have hcz6_2:=qE5 HGz6
  have hfz6_1:=bF_ HGz6 1
  have hfz6_2:=bF_ HGz6 2
  clear HGz6 hgz6
  have p101:0≤(s0_1:Int):=D_
  have q101:s0_1<(s0_0.length:Int):=D_
  obtain ⟨ad101,e101,hx101_0⟩:=Kd.at_int HSz6_0 s0_1 p101 q101
  cases e101
  replace hx101_0:=qCb HB.out hx101_0
  replace p101:=eq_true p101
  replace q101:=eq_true q101
  go_enter Tryz.func63,Tryz.ntmps63
  go_wp2
  repeat (go_quiet (fail);try go_wp2)
  go_ret
  exact ⟨F_,by (try simp only [Int.add_zero]);exact rW2_ HI0.out,rW4_ HB.out HI0.out,rW5_ HK.out⟩
 rw [if_neg c2] at H
 have c2b0:decide (s0_1<(s0_0.length:Int))=false:=decide_eq_false c2
 clear c2
 by_cases c7:(wrap64 (s0_1+1))≤(s0_0.length:Int)
 ·rw [if_pos c7] at H
  have c7b0:decide ((wrap64 (s0_1+1))≤(s0_0.length:Int))=true:=decide_eq_true c7
  clear c7
  simp only [Option.some.injEq,Prod.mk.injEq] at H
  obtain ⟨rfl,rfl,rfl⟩:=H
  obtain ⟨ASz8_0,cSz8_0,HGz8,hgz8,HSz8_0⟩:=HI0.out
  have hcz8_0:=qE7 HGz8
  have hcz8_1:=qE6 HGz8
  have hcz8_2:=qE5 HGz8
  have hfz8_1:=bF_ HGz8 1
  have hfz8_2:=bF_ HGz8 2
  clear HGz8 hgz8
  go_enter Tryz.func63,Tryz.ntmps63
  go_wp2
  repeat (go_quiet (fail);try go_wp2)
  go_ret
  exact ⟨F_,by (try simp only [Int.add_zero]);exact rW2_ HI0.out,rW4_ HB.out HI0.out,rW5_ HK.out⟩
 rw [if_neg c7] at H
 have c7b0:decide ((wrap64 (s0_1+1))≤(s0_0.length:Int))=false:=decide_eq_false c7
 clear c7
 simp only [Option.some.injEq,Prod.mk.injEq] at H
 obtain ⟨rfl,rfl,rfl⟩:=H
 obtain ⟨ASz9_0,cSz9_0,HGz9,hgz9,HSz9_0⟩:=HI0.out
 have hcz9_0:=qE7 HGz9
 have hcz9_1:=qE6 HGz9
 have hcz9_2:=qE5 HGz9
 have hfz9_1:=bF_ HGz9 1
 have hfz9_2:=bF_ HGz9 2
 clear HGz9 hgz9
 go_enter Tryz.func63,Tryz.ntmps63
 go_wp2
 repeat (go_quiet (fail);try go_wp2)
 go_ret
 exact ⟨F_,by (try simp only [Int.add_zero]);exact rW2_ HI0.out,rW4_ HB.out HI0.out,rW5_ HK.out⟩
def z33.f (s0_0:List Int) (s0_1:Int) (s0_2:Int) (a1:Int):Option (Int × Int × Int):=if a1≤1 then (some (0,s0_1,s0_2)) else ((z63.f s0_0 s0_1 s0_2).bind fun bt101=>(if a1 > 200 then ((z63.f s0_0 bt101.2.1 bt101.2.2).bind fun bt104=>(if a1=0 then (none) else (some (Int.tmod (wrap64 ((wrap64 (bt101.1 * 256))+bt104.1)) a1,bt104.2.1,bt104.2.2)))) else (if a1=0 then (none) else (some (Int.tmod bt101.1 a1,bt101.2.1,bt101.2.2)))))
theorem z33.calls (g:Nat) (s0_0:List Int) (s0_1:Int) (s0_2:Int) (a1:Int) (r1:Int) (r2:Int) (r3:Int) (w0 w:World) (hI:qAa w0 w g s0_0 s0_1 s0_2) (hB:Below w0.heap.size w0 w) (h:z33.f s0_0 s0_1 s0_2 a1=some (r1,r2,r3)) :
  Calls Tryz.prog 33 #[.pointer (some ⟨g,0,none⟩),.int .i64 a1] w fun e w'=>e=.returned (.int .i64 r1)∧qAa w0 w' g s0_0 r2 r3∧Below w0.heap.size w0 w'∧qAf w w' g none:=by
 have HI0:=Zz.mk hI
 have HK:=Zz.mk (qAf.refl w g none)
 have HL:=Zz.mk hB.size
 clear hI
 have HW0:=Zz.mk hB.size
 have HB:=Zz.mk hB
 clear hB
 have H:(if a1≤1 then (some (0,s0_1,s0_2)) else ((z63.f s0_0 s0_1 s0_2).bind fun bt101=>(if a1 > 200 then ((z63.f s0_0 bt101.2.1 bt101.2.2).bind fun bt104=>(if a1=0 then (none) else (some (Int.tmod (wrap64 ((wrap64 (bt101.1 * 256))+bt104.1)) a1,bt104.2.1,bt104.2.2)))) else (if a1=0 then (none) else (some (Int.tmod bt101.1 a1,bt101.2.1,bt101.2.2))))))=some (r1,r2,r3):=h
 clear h
 by_cases c3:a1≤1
 ·rw [if_pos c3] at H
  have c3b0:decide (a1≤1)=true:=decide_eq_true c3
  clear c3
  simp only [Option.some.injEq,Prod.mk.injEq] at H
  obtain ⟨rfl,rfl,rfl⟩:=H
  go_enter Tryz.func33,Tryz.ntmps33
  go_wp2
  go_ret
  exact ⟨F_,rW2_ HI0.out,rW4_ HB.out HI0.out,rW5_ HK.out⟩
 rw [if_neg c3] at H
 have c3b0:decide (a1≤1)=false:=decide_eq_false c3
 clear c3
 replace H:=OB_ H
 obtain ⟨⟨t101,t102,t103⟩,A40,H⟩:=H
 replace H:(if a1 > 200 then ((z63.f s0_0 t102 t103).bind fun bt104=>(if a1=0 then (none) else (some (Int.tmod (wrap64 ((wrap64 (t101 * 256))+bt104.1)) a1,bt104.2.1,bt104.2.2)))) else (if a1=0 then (none) else (some (Int.tmod t101 a1,t102,t103))))=some (r1,r2,r3):=H
 have A4:=Zz.mk A40
 clear A40
 by_cases c5:a1 > 200
 ·rw [if_pos c5] at H
  have c5b0:decide (200<a1)=true:=decide_eq_true c5
  clear c5
  replace H:=OB_ H
  obtain ⟨⟨t104,t105,t106⟩,A60,H⟩:=H
  replace H:(if a1=0 then (none) else (some (Int.tmod (wrap64 ((wrap64 (t101 * 256))+t104)) a1,t105,t106)))=some (r1,r2,r3):=H
  have A6:=Zz.mk A60
  clear A60
  by_cases c7:a1=0
  ·rw [if_pos c7] at H
   exact X_ H
  rw [if_neg c7] at H
  have c7b0:(a1 == 0)=false:=beq_eq_false_iff_ne.mpr c7
  have c7b1:(a1 != 0)=true:=bne_iff_ne.mpr c7
  simp only [Option.some.injEq,Prod.mk.injEq] at H
  obtain ⟨rfl,rfl,rfl⟩:=H
  go_enter Tryz.func33,Tryz.ntmps33
  go_wp2_with (first | ((with_reducible refine gC_ (f:=63) rfl ?_);refine GL_ (some 9) rfl rfl Tryz.func63 #[.pointer (some ⟨g,0,none⟩)] rfl (h:=?_);(with_reducible refine (z63.calls g s0_0 s0_1 s0_2 t101 t102 t103 w0 _ ?side1 ?side2 A4.out).mono ?_);(case side1=>exact rW2_ HI0.out);(case side2=>exact rW4_ HB.out HI0.out);rintro e w8 ⟨rfl,hi,hb,hk⟩;refine ⟨_,rfl,?_⟩;replace HK:=Zz.mk (qAf.trans (rW5_ HK.out) hk (.inl rfl));replace HB:=Zz.mk (hb);replace HI0:=Zz.mk (hi);(try clear hb);(try clear hk);(try clear hi)) | ((with_reducible refine gC_ (f:=63) rfl ?_);refine GL_ (some 15) rfl rfl Tryz.func63 #[.pointer (some ⟨g,0,none⟩)] rfl (h:=?_);(with_reducible refine (z63.calls g s0_0 t102 t103 t104 t105 t106 w0 _ ?side1 ?side2 A6.out).mono ?_);(case side1=>exact rW2_ HI0.out);(case side2=>exact rW4_ HB.out HI0.out);rintro e w9 ⟨rfl,hi,hb,hk⟩;refine ⟨_,rfl,?_⟩;replace HK:=Zz.mk (qAf.trans (rW5_ HK.out) hk (.inl rfl));replace HB:=Zz.mk (hb);replace HI0:=Zz.mk (hi);(try clear hb);(try clear hk);(try clear hi)))
  go_ret
  exact ⟨F_,rW2_ HI0.out,rW4_ HB.out HI0.out,rW5_ HK.out⟩
 rw [if_neg c5] at H
 have c5b0:decide (200<a1)=false:=decide_eq_false c5
 clear c5
 by_cases c10:a1=0
 ·rw [if_pos c10] at H
  exact X_ H
 rw [if_neg c10] at H
 have c10b0:(a1 == 0)=false:=beq_eq_false_iff_ne.mpr c10
 have c10b1:(a1 != 0)=true:=bne_iff_ne.mpr c10
 simp only [Option.some.injEq,Prod.mk.injEq] at H
 obtain ⟨rfl,rfl,rfl⟩:=H
 go_enter Tryz.func33,Tryz.ntmps33
 go_wp2_with (first | ((with_reducible refine gC_ (f:=63) rfl ?_);refine GL_ (some 9) rfl rfl Tryz.func63 #[.pointer (some ⟨g,0,none⟩)] rfl (h:=?_);(with_reducible refine (z63.calls g s0_0 s0_1 s0_2 t101 t102 t103 w0 _ ?side1 ?side2 A4.out).mono ?_);(case side1=>exact rW2_ HI0.out);(case side2=>exact rW4_ HB.out HI0.out);rintro e w11 ⟨rfl,hi,hb,hk⟩;refine ⟨_,rfl,?_⟩;replace HK:=Zz.mk (qAf.trans (rW5_ HK.out) hk (.inl rfl));replace HB:=Zz.mk (hb);replace HI0:=Zz.mk (hi);(try clear hb);(try clear hk);(try clear hi)))
 go_ret
 exact ⟨F_,rW2_ HI0.out,rW4_ HB.out HI0.out,rW5_ HK.out⟩
end Go.Proofs.YtpgjfppbbbnclaaGreat.B
