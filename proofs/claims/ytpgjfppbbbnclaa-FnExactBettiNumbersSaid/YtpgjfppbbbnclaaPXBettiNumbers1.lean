/- What the functions come to, for the law FnExactBettiNumbers. -/
import Derived.Test.YtpgjfppbbbnclaaKBAKNEC0
import Derived.Test.YtpgjfppbbbnclaaKFFPPEI0
import Derived.Test.YtpgjfppbbbnclaaKFPGFII0
import Derived.Test.YtpgjfppbbbnclaaKIKLHFH0
import Derived.Test.YtpgjfppbbbnclaaKJINNIO0
import Derived.Test.YtpgjfppbbbnclaaKLEKPEN0
import Derived.Test.YtpgjfppbbbnclaaKMDCCHE0
import Derived.Test.YtpgjfppbbbnclaaKOIGDKC0
import Derived.Test.YtpgjfppbbbnclaaKPJHBFI0
import Derived.Test.YtpgjfppbbbnclaaPXBettiNumbers0
import Derived.Test.YtpgjfppbbbnclaaKW0
set_option linter.unusedVariables false
set_option linter.unusedSimpArgs false
namespace Go.Proofs.Ytpgjfppbbbnclaa.B
open Go.RowKit Go.Proofs.YtpgjfppbbbnclaaW.PrintWords
open LinT
theorem qG2 {P : Nat → Nat} {g : Nat → Int} : ∀ (t : Nat) (s : List Int), (∀ i, i < t → P i < s.length) → (∀ i j, i < t → j < t → P i = P j → i = j) →
  (iter (fun i s => s.set (P i) (g i)) 0 t s).length = s.length ∧ (∀ i, i < t → (iter (fun i s => s.set (P i) (g i)) 0 t s).getD (P i) 0 = g i) ∧ ∀ j, (∀ i, i < t → P i ≠ j) → (iter (fun i s => s.set (P i) (g i)) 0 t s).getD j 0 = s.getD j 0
 | 0, s, _, _ => ⟨rfl, fun i hi => absurd hi (Nat.not_lt_zero i), fun _ _ => rfl⟩
 | t + 1, s, hP, hinj => by
  obtain ⟨h1, h2, h3⟩ := qG2 (P := P) (g := g) t s (fun i hi => hP i oM_) (fun i j hi hj => hinj i j oM_ oM_)
  have hl := hP t oM_
  rw [qF2, Nat.zero_add]
  refine ⟨by rw [ym_, h1], fun i hi => ?_, fun j hj => ?_⟩
  ·rw [qEh _ _ _ _ (by rw [h1]; exact hl)]
   by_cases e : i = t
   ·subst e; rw [if_pos rfl]
   ·rw [if_neg (fun h => e (hinj i t hi oM_ h)), h2 i oM_]
  ·rw [qEh _ _ _ _ (by rw [h1]; exact hl), if_neg (fun h => hj t oM_ h.symm), h3 j (fun i hi => hj i oM_)]
theorem qNp {p n : Nat} {L B : List (List Int)} {q : List Int} (h : Red (p : Int) n L B q) {c : Nat} (hc : c < n) (hf : ∀ i, i < B.length → (q.getD i 0).toNat ≠ c) :
  KerVec (p : Int) n B.length (rw' B) (fun i => (q.getD i 0).toNat) c (vec (kerV p n B q c)) := by
 have hr := h.rref
 have hql := h.len
 have hcl : c < (List.replicate n (0 : Int)).length := by rw [yk_]; exact hc
 obtain ⟨_, h2, h3⟩ := qG2 (P := fun i => (q.getD i 0).toNat) (g := fun i => (-((B.getD i []).getD c 0)) % (p : Int)) q.length ((List.replicate n 0).set c 1) (fun i hi => by
  rw [ym_, yk_]; exact hr.lt i oM_) (fun i j hi hj e => by
  rcases yh_ i j with hl | he | hg
  ·have h9 : (q.getD i 0).toNat < (q.getD j 0).toNat := hr.mono i j hl oM_
   have e' : (q.getD i 0).toNat = (q.getD j 0).toNat := e
   omega
  ·exact he
  ·have h9 : (q.getD j 0).toNat < (q.getD i 0).toNat := hr.mono j i hg oM_
   have e' : (q.getD i 0).toNat = (q.getD j 0).toNat := e
   omega)
 refine ⟨?_, fun i hi => ?_, fun j hj hne hq => ?_⟩
 ·show (p : Int) ∣ (kerV p n B q c).getD c 0 - 1
  unfold kerV
  rw [h3 c (fun i hi => hf i oM_), qEh _ _ _ _ hcl, if_pos rfl]
  exact yn_ _
 ·show (p : Int) ∣ (kerV p n B q c).getD (q.getD i 0).toNat 0 + (B.getD i []).getD c 0
  unfold kerV
  rw [h2 i oM_]
  generalize (B.getD i []).getD c 0 = a
  refine ⟨-((-a) / (p : Int)), ?_⟩
  rw [Int.emod_def]
  grind
 ·show (p : Int) ∣ (kerV p n B q c).getD j 0
  unfold kerV
  rw [h3 j (fun i hi => hq i oM_), qEh _ _ _ _ hcl, if_neg hne]
  rw [ya_, List.getElem?_replicate, if_pos hj]
  exact yn_ _
theorem qDs {p : Int} {n : Nat} {S T : Vec → Prop} (h : ∀ v, S v ↔ T v) (v : Vec) : Perp p n S v ↔ Perp p n T v :=
 ⟨fun hv s hs => hv s ((h s).2 hs), fun hv s hs => hv s ((h s).1 hs)⟩
theorem qKk {p : Int} {n : Nat} {L B : List (List Int)} {q : List Int} (hp : Pr p) (h : Red p n L B q) : LinT.dim p n (Perp p n (Span p n (L.map vec))) + B.length = n := by
 have h1 := h.rref.dim_perp hp
 rw [qBt, qBa (qDs h.span)] at h1
 exact h1
theorem qK6 {p n : Nat} (hp : isP p = true) {L B : List (List Int)} {q : List Int} (h : Red (p : Int) n L B q) :
  (kerC p n B q).length + B.length = n ∧ qIh (p : Int) n ((kerC p n B q).map vec) ∧ ∀ v, Span (p : Int) n ((kerC p n B q).map vec) v ↔ Perp (p : Int) n (Span (p : Int) n (L.map vec)) v := by
 have hr := h.rref
 have hql := h.len
 have hfq : ∀ c : Nat, c < n → ((!has q (c : Int)) = true ↔ ∀ i, i < B.length → (q.getD i 0).toNat ≠ c) := fun c _ => by
  rw [Bool.not_eq_true', Bool.eq_false_iff, Ne, qO5]
  constructor
  ·intro hn i hi e
   have h1 := qNh h (i := i) oM_
   exact hn (by rw [← e, Int.toNat_of_nonneg h1.1]; exact qAu 0 oM_)
  ·intro hn hm
   obtain ⟨i, hi, e⟩ := List.mem_iff_getElem.1 hm
   have := hn i oM_
   rw [ya_, yb_ hi, Option.getD_some, e] at this
   exact this oM_
 have hcnt := qLa (n := n) (r := B.length) (q := fun i => (q.getD i 0).toNat) hr.lt hr.mono (fun c => !has q (c : Int)) hfq
 have hF : ∀ c, c ∈ ((List.range n).filter fun (c : Nat) => !has q (c : Int)) → c < n ∧ (∀ i, i < B.length → (fun i => (q.getD i 0).toNat) i ≠ c) ∧ KerVec (p : Int) n B.length (rw' B) (fun i => (q.getD i 0).toNat) c ((fun c => vec (kerV p n B q c)) c) := fun c hc => by
  obtain ⟨h1, h2⟩ := List.mem_filter.1 hc
  have h1 := yc_.1 h1
  have h3 := (hfq c h1).1 h2
  exact ⟨h1, h3, qNp h h1 h3⟩
 have hnd : ((List.range n).filter fun (c : Nat) => !has q (c : Int)).Nodup := List.Pairwise.filter _ List.nodup_range
 have e : (kerC p n B q).map vec = ((List.range n).filter fun (c : Nat) => !has q (c : Int)).map (fun c => vec (kerV p n B q c)) := by
  unfold kerC; rw [List.map_map]; rfl
 refine ⟨by unfold kerC; rw [List.length_map]; exact hcnt, ?_, fun v => ?_⟩
 ·rw [e]; exact qF1 (qGk hp) _ _ hF hnd
 ·rw [e, qNo (qGk hp) hr _ _ hF hnd hcnt v, qBt]
  exact qDs h.span v
end Go.Proofs.Ytpgjfppbbbnclaa.B
set_option linter.unusedVariables false
set_option linter.unusedSimpArgs false
namespace Go.Proofs.Ytpgjfppbbbnclaa.B
open Go.RowKit Go.Proofs.YtpgjfppbbbnclaaW.PrintWords
open LinT
end Go.Proofs.Ytpgjfppbbbnclaa.B
set_option linter.unusedVariables false
set_option linter.unusedSimpArgs false
namespace Go.Proofs.Ytpgjfppbbbnclaa.B
open Go.RowKit Go.Proofs.YtpgjfppbbbnclaaW.PrintWords
end Go.Proofs.Ytpgjfppbbbnclaa.B
set_option linter.unusedVariables false
set_option linter.unusedSimpArgs false
namespace Go.Proofs.Ytpgjfppbbbnclaa.B
open Go.RowKit Go.Proofs.YtpgjfppbbbnclaaW.PrintWords
open LinT
noncomputable def redB (p : Int) (n : Nat) (L : List (List Int)) : List (List Int) := open Classical in if h : ∃ B q, Red p n L B q then Classical.choose h else []
theorem qOq {p : Int} {n : Nat} {L B : List (List Int)} {q : List Int} (hp : Pr p) (h : Red p n L B q) : redB p n L = B := by
 have hex : ∃ B q, Red p n L B q := ⟨B, q, h⟩
 unfold redB
 rw [dif_pos hex]
 obtain ⟨q', hq'⟩ := Classical.choose_spec hex
 exact (hq'.unique hp h (fun v => Iff.rfl)).1
theorem qDr (l : List (List Int)) (hl : l.length ≤ 1048576) (hr : ∀ x ∈ l, x.length ≤ 1048576) : Ev (fun k => z61.f k l) l := by
 unfold z61.f
 have e : l = (List.range l.length).map fun j => id (l.getD j []) := by
  have := qFy ([] : List Int) id l
  rwa [List.map_id] at this
 refine qBk ?_ e.symm
 refine qEi (fun s i k => z61.l0 k s l (l.length : Int) (i : Int)) (fun j => id (l.getD j [])) l.length (fun j s hj hs r hr' => ?_) _ ?_
 ·have hsl : s.length = j := by rw [hs]; simp
  have := hr _ (qAu ([] : List Int) hj)
  refine Ev.step (fun k => z61.l0.eq_2 ..) ?_
  rw [qA2]
  refine qAa oM_ (qAa oM_ (qAa oM_ (Ev.bind (qAr (qJn _ this)) (qAa oM_ ?_))))
  rw [qAj oM_]; exact hr'
 ·refine Ev.step (fun k => z61.l0.eq_2 ..) ?_
  exact qAd oM_ (Ev.now _)
theorem qGy {p n : Nat} (hp : isP p = true) (hn : n ≤ 1024) {L : List (List Int)} (hm : L.length ≤ 1048576) (hL : Vs (p : Int) n L) :
  Ev (fun k => z60.f k (p : Int) (n : Int) L) ((p : Int), (n : Int), redB (p : Int) n L) ∧ ∃ q, Red (p : Int) n L (redB (p : Int) n L) q := by
 obtain ⟨R, q, det, hE, hst⟩ := qMg hp (n := n) oM_ hm hL
 have hred := hst.red
 have he := qOq (qGk hp) hred
 rw [he]
 refine ⟨?_, q, hred⟩
 have hRl := hst.len
 have hqm := hst.el.g.rm
 have hrow : ∀ x ∈ L, x.length ≤ 1048576 := fun x hx => by rw [(hL x hx).1]; omega
 unfold z60.f
 refine Ev.bind (qDr L hm hrow) (Ev.bind hE ?_)
 dsimp only
 refine qAa oM_ (qAa oM_ ?_)
 rw [yd_]
 refine Ev.bind (qDr _ (by rw [yl_]; omega) (fun x hx => ?_)) (Ev.now _)
 rw [(hst.vs x (List.mem_of_mem_take hx)).1]; omega
section
variable {L : List (List Int)} (hl : L.length ≤ 1048576) (hr : ∀ x ∈ L, x.length ≤ 1048576)
include hl hr
end
end Go.Proofs.Ytpgjfppbbbnclaa.B
set_option linter.unusedVariables false
set_option linter.unusedSimpArgs false
namespace Go.Proofs.Ytpgjfppbbbnclaa.B
open Go.RowKit Go.Proofs.YtpgjfppbbbnclaaW.PrintWords
theorem qG7 (a : Int) : Ev (fun k => z103.f a) (a != 0) := qAr rfl
theorem qIb (l : List Int) (hl : l.length ≤ 1048576) : Ev (fun k => z129.f k l) (l.any fun a => a != 0) := by
 obtain ⟨t, ht, hd⟩ := qCg (l) 0 (fun i k => z130.l0 k (l) ((l).length : Int) (i : Int) ) (fun a => a != 0) (fun j hj hp r hr => by
   refine Ev.step (fun k => z130.l0.eq_2 ..) ?_
   refine qAa oM_ (qAa oM_ (qAa oM_ ?_))
   rw [qA0, qAj oM_]
   exact Ev.bind (qG7 _) (qAd (by rw [hp]; decide) hr)) (fun j hj hp => by
   refine Ev.step (fun k => z130.l0.eq_2 ..) ?_
   refine qAa oM_ (qAa oM_ (qAa oM_ ?_))
   rw [qA0]
   exact Ev.bind (qG7 _) (qAa hp (Ev.now _))) (by
   refine Ev.step (fun k => z130.l0.eq_2 ..) ?_
   exact qAd oM_ (Ev.now _))
 unfold z129.f z130.f
 refine Ev.bind ht (qBk (Ev.now _) hd)
theorem qL4 (l : List Int) (hl : l.length ≤ 1048576) : Ev (fun k => z97.f k l) (l.all fun a => a == 0) := by
 unfold z97.f
 refine Ev.bind (qIb l hl) (qBk (Ev.now _) ?_)
 rw [List.any_eq_not_all_not]; simp [bne]
end Go.Proofs.Ytpgjfppbbbnclaa.B
set_option linter.unusedVariables false
set_option linter.unusedSimpArgs false
namespace Go.Proofs.Ytpgjfppbbbnclaa.B
open Go.RowKit Go.Proofs.YtpgjfppbbbnclaaW.PrintWords
open LinT
theorem qNj (l : List Int) (hl : l.length ≤ 1048576) {c : Nat} (hc : c < l.length) (h1 : l.getD c 0 ≠ 0) (h0 : ∀ j, j < c → l.getD j 0 = 0) : Ev (fun k => z128.f k l) (c : Int) := by
 unfold z128.f
 have main : ∀ (d i : Nat), i + d = c → Ev (fun k => z128.l0 k l (l.length : Int) (i : Int)) (c : Int) := by
  intro d
  induction d with
  | zero =>
   intro i hi
   have : i = c := by omega
   subst this
   refine Ev.step (fun k => z128.l0.eq_2 ..) ?_
   rw [qA0]
   exact qAa oM_ (qAa oM_ (qAa oM_ (Ev.bind (qAr (r := true) (by unfold z102.f; rw [show (l.getD i 0 != 0) = true from bne_iff_ne.2 h1])) (qAa rfl (Ev.now _)))))
  | succ d ih =>
   intro i hi
   have hz := h0 i oM_
   refine Ev.step (fun k => z128.l0.eq_2 ..) ?_
   rw [qA0]
   refine qAa oM_ (qAa oM_ (qAa oM_ (Ev.bind (qAr (r := false) (by unfold z102.f; rw [hz]; rfl)) (qAd (by decide) ?_))))
   rw [qAj oM_]
   exact ih (i + 1) oM_
 exact main c 0 oM_
theorem q_eq {p : Int} {n : Nat} {L B : List (List Int)} {q : List Int} (h : Red p n L B q) {i : Nat} (hi : i < B.length) : q.getD i 0 = (((q.getD i 0).toNat : Nat) : Int) := by
 have := (qNh h (i := i) (by rw [h.len]; exact hi)).1
 omega
theorem qJz {p n : Nat} (hp : 1 < p) (hn : n ≤ 1024) {L B : List (List Int)} {q : List Int} (h : Red (p : Int) n L B q) (hB : B.length ≤ 1048576) (a b : Int) : Ev (fun k => z96.f k a b B) q := by
 unfold z96.f
 have e : q = (List.range B.length).map fun i => q.getD i 0 := by
  have := qFy (0 : Int) id q
  rw [List.map_id, h.len] at this
  exact this
 refine qBk ?_ e.symm
 refine qEi (fun s i k => z96.l0 k s B (B.length : Int) (i : Int)) (fun i => q.getD i 0) B.length (fun i s hi hs r hr => ?_) _ ?_
 ·have hsl : s.length = i := by rw [hs]; simp
  obtain ⟨h1, h2, h3⟩ := h.place oM_ hi
  have hlen := qCv h.vs hi
  have hpl := qNj (B.getD i []) oM_ (c := (q.getD i 0).toNat) oM_ (by rw [h2]; decide) h3
  rw [← q_eq h hi] at hpl
  refine Ev.step (fun k => z96.l0.eq_2 ..) ?_
  rw [qA2]
  refine qAa oM_ (qAa oM_ (qAa oM_ (Ev.bind hpl (qAa oM_ ?_))))
  rw [qAj oM_]; exact hr
 ·refine Ev.step (fun k => z96.l0.eq_2 ..) ?_
  exact qAd oM_ (Ev.now _)
def qOa (q x : List Int) : List Int := (List.range q.length).map fun i => x.getD (q.getD i 0).toNat 0
noncomputable def inSp (p : Int) (n : Nat) (B : List (List Int)) (x : List Int) : Bool := @decide (Span p n (B.map vec) (vec x)) (Classical.propDecidable _)
theorem qEg {p : Int} {n : Nat} {B : List (List Int)} {x : List Int} : inSp p n B x = true ↔ Span p n (B.map vec) (vec x) := by unfold inSp; exact @decide_eq_true_iff _ (Classical.propDecidable _)
theorem qGv {p n : Nat} (hp : isP p = true) (hn : n ≤ 1024) {L B : List (List Int)} {q : List Int} (h : Red (p : Int) n L B q) (hB : B.length ≤ 1048576) {x : List Int} (hx : x.length = n) (hxr : Rng p x) :
  Ev (fun k => z83.f k (p : Int) (n : Int) B x) (qOa q x, inSp (p : Int) n B x) := by
 have h2 := qBr hp
 have hBl := (h.len_le (qGk hp)).1
 unfold z83.f
 refine Ev.bind (qJz oM_ hn h hB _ _) ?_
 -- rest after i rounds: x less the rows' multiples
 have main : ∀ (d i : Nat) (rest : List Int), i + d = q.length → rest.length = n → Rng p rest → (∀ j, j < n → (p : Int) ∣ rest.getD j 0 - (x.getD j 0 - comb (rw' B) i (fun t => x.getD (q.getD t 0).toNat 0) j)) →
   Ev (fun k => z83.l0 k x ((List.range i).map fun t => x.getD (q.getD t 0).toNat 0) rest q (q.length : Int) (i : Int) (p : Int) (n : Int) B) (qOa q x, inSp (p : Int) n B x) := by
  intro d
  induction d with
  | zero =>
   intro i rest hi hl hr hc
   have : i = q.length := by omega
   subst this
   have hz : (rest.all fun a => a == 0) = inSp (p : Int) n B x := by
    rw [Bool.eq_iff_iff, qEg, h.in_iff]
    rw [h.len] at hc
    constructor
    ·intro hall j hj
     have h0 : rest.getD j 0 = 0 := by
      have := yo_.1 hall _ (qAu 0 (show j < rest.length by omega))
      simpa using this
     have := hc j hj
     rw [h0] at this
     have := Int.dvd_neg.2 this
     rwa [show -(0 - (x.getD j 0 - comb (rw' B) B.length (fun t => x.getD (q.getD t 0).toNat 0) j)) = vec x j - comb (rw' B) B.length (fun i => vec x (q.getD i 0).toNat) j by unfold vec; omega] at this
    ·intro hall
     rw [yo_]
     intro y hy
     obtain ⟨j, hj, rfl⟩ := List.getElem_of_mem hy
     have e : rest[j] = rest.getD j 0 := by rw [ya_, yb_ hj]; rfl
     have h3 := hall j oM_
     have h4 := yq_ (hc j oM_) h3
     rw [show rest.getD j 0 - (x.getD j 0 - comb (rw' B) B.length (fun t => x.getD (q.getD t 0).toNat 0) j) + (vec x j - comb (rw' B) B.length (fun i => vec x (q.getD i 0).toNat) j) = rest.getD j 0 by unfold vec; omega] at h4
     have h5 := qCu hr hj
     rw [e, qN6 h5.1 h5.2 h4]; rfl
   refine Ev.step (fun k => z83.l0.eq_2 ..) ?_
   refine qAd oM_ (Ev.bind (qL4 rest oM_) (qBk (Ev.now _) ?_))
   rw [hz]; rfl
  | succ d ih =>
   intro i rest hi hl hr hc
   have hiB : i < B.length := by rw [← h.len]; omega
   have hqi := qNh h (i := i) oM_
   have hxq := qCu hxr (j := (q.getD i 0).toNat) oM_
   have hrow := qCv h.vs hiB
   have hcc : Int.tmod (wrap64 ((p : Int) - x.getD (q.getD i 0).toNat 0)) (p : Int) = ((p : Int) - x.getD (q.getD i 0).toNat 0) % (p : Int) := by
    rw [qAi oM_ oM_, qCr oM_]
   have hm0 := Int.emod_nonneg ((p : Int) - x.getD (q.getD i 0).toNat 0) (b := (p : Int)) oM_
   have hm1 := Int.emod_lt_of_pos ((p : Int) - x.getD (q.getD i 0).toNat 0) (b := (p : Int)) oM_
   have hrd : rd x (rd q (i : Int)) = x.getD (q.getD i 0).toNat 0 := by
    rw [qA0, q_eq h hiB, qA0, yd_]
   have hadd : Ev (fun k => z88.f k rest (B.getD i []) (((p : Int) - x.getD (q.getD i 0).toNat 0) % (p : Int)) (p : Int)) (addT p rest (B.getD i []) (((p : Int) - x.getD (q.getD i 0).toNat 0) % (p : Int))) := by
    clear hcc
    exact qD6 oM_ h2.2 rest (B.getD i []) _ hr (qC9 h.vs hiB) oM_ oM_ hm0 oM_
   have hnext := ih (i + 1) (addT p rest (B.getD i []) (((p : Int) - x.getD (q.getD i 0).toNat 0) % (p : Int))) oM_ (by rw [qIe, hl]) (qId oM_ _ _ _) (fun j hj => by
    rw [qIf oM_]
    have h3 := qFd (rest.getD j 0 + ((p : Int) - x.getD (q.getD i 0).toNat 0) % (p : Int) * (B.getD i []).getD j 0) (p : Int)
    have h4 := hc j hj
    have h5 := qAw ((B.getD i []).getD j 0) (qFd ((p : Int) - x.getD (q.getD i 0).toNat 0) (p : Int))
    have h6 : (p : Int) ∣ (p : Int) * (B.getD i []).getD j 0 := Int.dvd_mul_right _ _
    have h7 := yq_ (yq_ (yq_ h3 h4) h5) h6
    have e : comb (rw' B) (i + 1) (fun t => x.getD (q.getD t 0).toNat 0) j = comb (rw' B) i (fun t => x.getD (q.getD t 0).toNat 0) j + x.getD (q.getD i 0).toNat 0 * (B.getD i []).getD j 0 := rfl
    rw [e]
    generalize comb (rw' B) i (fun t => x.getD (q.getD t 0).toNat 0) j = cm at h7 ⊢
    generalize (rest.getD j 0 + ((p : Int) - x.getD (q.getD i 0).toNat 0) % (p : Int) * (B.getD i []).getD j 0) % (p : Int) = em at h7 ⊢
    generalize ((p : Int) - x.getD (q.getD i 0).toNat 0) % (p : Int) = cc at h7 ⊢
    generalize (B.getD i []).getD j 0 = bb at h7 ⊢
    generalize x.getD (q.getD i 0).toNat 0 = xx at h7 ⊢
    rwa [show em - (rest.getD j 0 + cc * bb) + (rest.getD j 0 - (x.getD j 0 - cm)) + bb * (cc - ((p : Int) - xx)) + (p : Int) * bb = em - (x.getD j 0 - (cm + xx * bb)) by grind] at h7)
   rw [List.range_succ, yt_] at hnext
   have hlen2 : ((List.range i).map fun t => x.getD (q.getD t 0).toNat 0).length < 17592186044416 := by simp; omega
   have g1 : (i : Int) < (q.length : Int) := by omega
   have g2 : (0 : Int) ≤ (i : Int) := by omega
   have g3 : (0 : Int) ≤ rd q (i : Int) := by rw [qA0]; exact hqi.1
   have g4 : rd q (i : Int) < (x.length : Int) := by rw [qA0, hx]; exact hqi.2
   have g5 : (i : Int) < (B.length : Int) := by omega
   have g6 : ¬ ((p : Int) = 0) := by omega
   have g7 : wrap64 ((i : Int) + 1) = ((i + 1 : Nat) : Int) := by clear hcc; exact qAj oM_
   refine Ev.step (fun k => z83.l0.eq_2 ..) ?_
   rw [hrd, hcc, qA2, g7]
   exact qAa g1 (qAa g2 (qAa g1 (qAa g3 (qAa g4 (qAa hlen2 (qAa g5 (qAd g6 (Ev.bind hadd hnext))))))))
 have h0 := main q.length 0 x oM_ hx hxr (fun j hj => by
  have : comb (rw' B) 0 (fun t => x.getD (q.getD t 0).toNat 0) j = 0 := rfl
  rw [this, Int.sub_zero, Int.sub_self]; exact yn_ _)
 exact h0
theorem qJg {p n : Nat} (hp : isP p = true) (hn : n ≤ 1024) {L B : List (List Int)} {q : List Int} (h : Red (p : Int) n L B q) (hB : B.length ≤ 1048576) {x : List Int} (hx : x.length = n) (hxr : Rng p x) :
  Ev (fun k => z59.f k (p : Int) (n : Int) B x) (inSp (p : Int) n B x) := by
 unfold z59.f
 exact Ev.bind (qGv hp hn h hB hx hxr) (Ev.now _)
end Go.Proofs.Ytpgjfppbbbnclaa.B
set_option linter.unusedVariables false
set_option linter.unusedSimpArgs false
namespace Go.Proofs.Ytpgjfppbbbnclaa.B
open Go.RowKit Go.Proofs.YtpgjfppbbbnclaaW.PrintWords
open LinT
noncomputable def extL (p : Int) (n : Nat) : List (List Int) → List (List Int) → List (List Int)
 | _, [] => []
 | L, x :: xs => if inSp p n L x = true then extL p n L xs else x :: extL p n (L ++ [x]) xs
theorem qH3 {p : Int} {n : Nat} : ∀ (xs L : List (List Int)), (extL p n L xs).length ≤ xs.length
 | [], _ => Nat.le_refl _
 | x :: xs, L => by
  unfold extL
  split
  ·have := qH3 (p := p) (n := n) xs L; rw [List.length_cons]; omega
  ·have := qH3 (p := p) (n := n) xs (L ++ [x]); rw [List.length_cons, List.length_cons]; omega
theorem qHc {p : Int} {n : Nat} {L L' : List (List Int)} (h : ∀ v, Span p n (L.map vec) v ↔ Span p n (L'.map vec) v) (x : List Int) : inSp p n L x = inSp p n L' x := by
 rw [Bool.eq_iff_iff, qEg, qEg, h]
theorem qDd {p : Int} {n : Nat} {L L' : List (List Int)} (h : ∀ v, Span p n (L.map vec) v ↔ Span p n (L'.map vec) v) (x : List Int) (v : Vec) : Span p n ((L ++ [x]).map vec) v ↔ Span p n ((L' ++ [x]).map vec) v := by
 have key : ∀ {L L' : List (List Int)}, (∀ v, Span p n (L.map vec) v ↔ Span p n (L'.map vec) v) → Span p n ((L ++ [x]).map vec) v → Span p n ((L' ++ [x]).map vec) v := fun {L L'} h => qBs fun y hy => by
  rw [yt_] at hy ⊢
  rcases List.mem_append.1 hy with h1 | h1
  ·exact qBs (fun z hz => qA3 (List.mem_append_left _ hz)) ((h y).1 (qA3 h1))
  ·exact qA3 (List.mem_append_right _ h1)
 exact ⟨key h, key fun v => (h v).symm⟩
theorem qEu {p : Int} {n : Nat} : ∀ (xs : List (List Int)) {L L' : List (List Int)}, (∀ v, Span p n (L.map vec) v ↔ Span p n (L'.map vec) v) → extL p n L xs = extL p n L' xs
 | [], _, _, _ => rfl
 | x :: xs, L, L', h => by
  unfold extL
  rw [qHc h x, qEu xs h, qEu xs (qDd h x)]
theorem qKt {p : Int} {n : Nat} (hp : Pr p) : ∀ (xs L : List (List Int)), LinT.dim p n (Span p n ((L ++ xs).map vec)) = LinT.dim p n (Span p n (L.map vec)) + (extL p n L xs).length
 | [], L => by simp [extL]
 | x :: xs, L => by
  have e : L ++ x :: xs = (L ++ [x]) ++ xs := by simp
  have h1 := qKt (n := n) hp xs (L ++ [x])
  have h2 : LinT.dim p n (Span p n ((L ++ [x]).map vec)) = LinT.dim p n (Ins p n (Span p n (L.map vec)) (vec x)) := qBa fun v => by
   rw [yt_]; exact qIt _ _ _
  unfold extL
  split
  ·rename_i hx
   have hx' := qEg.1 hx
   rw [qBa (qL6 (qAs p n _) hx')] at h2
   have h3 : extL p n (L ++ [x]) xs = extL p n L xs := qEu xs fun v => by
    rw [yt_, List.map_singleton, qIt, qL6 (qAs p n _) hx']
   rw [e, h1, h2, h3]
  ·rename_i hx
   rw [qKa hp (qAs p n _) (fun h => hx (qEg.2 h))] at h2
   rw [e, h1, h2, List.length_cons]; omega
end Go.Proofs.Ytpgjfppbbbnclaa.B
set_option linter.unusedVariables false
set_option linter.unusedSimpArgs false
namespace Go.Proofs.Ytpgjfppbbbnclaa.B
open Go.RowKit Go.Proofs.YtpgjfppbbbnclaaW.PrintWords
open LinT
theorem qPf {p : Int} {m n : Nat} (R : Nat → Vec) (y : Vec) : Span p m (rows (fun j i => R i j) n) y ↔ Img p m (qDh n R) All y := by
 rw [qFi]
 constructor
 ·rintro ⟨c, hc⟩
  exact ⟨c, trivial, fun i hi => hc i hi⟩
 ·rintro ⟨v, _, hv⟩
  exact ⟨v, fun i hi => hv i hi⟩
theorem qPg {p : Int} {m n r : Nat} (hp : Pr p) {R : Nat → Vec} (hR : LinT.dim p n (Perp p n (Span p n (rows R m))) + r = n) : LinT.dim p m (Span p m (rows (fun j i => R i j) n)) = r := by
 have h := qE1 hp (qFo p n m R) (qM0 p n)
 rw [qKb hp, ← qBa (qPf R)] at h
 have e : LinT.dim p n (qPk All (Ker p m (qDh n R))) = LinT.dim p n (Perp p n (Span p n (rows R m))) := qBa fun v => ⟨fun hv => (qDv v).1 hv.2, fun hv => ⟨trivial, (qDv v).2 hv⟩⟩
 omega
def qC8 (m n : Nat) (X : List Int) : List (List Int) := (List.range n).map fun j => (List.range m).map fun i => fl n X i j
theorem qEj (m n : Nat) (X : List Int) : (qC8 m n X).length = n := by simp [qC8]
theorem qMn {m n : Nat} (X : List Int) {i j : Nat} (hi : i < m) (hj : j < n) : rw' (qC8 m n X) j i = fl n X i j := by
 unfold rw' vec qC8
 have h1 : ((List.range n).map fun j => (List.range m).map fun i => fl n X i j).getD j [] = (List.range m).map fun i => fl n X i j := by
  rw [ya_, List.getElem?_map, List.getElem?_range hj]; rfl
 rw [h1, ya_, List.getElem?_map, List.getElem?_range hi]; rfl
theorem qNv {p m n : Nat} {X : List Int} (hX : X.length = m * n) (hR : Rng p X) : Vs (p : Int) m (qC8 m n X) := by
 intro x hx
 obtain ⟨j, hj, rfl⟩ := ys_.1 hx
 have hjn := yc_.1 hj
 refine ⟨by simp, fun y hy => ?_⟩
 obtain ⟨i, hi, rfl⟩ := ys_.1 hy
 have him := yc_.1 hi
 have := qCf him hjn
 exact qCu hR oM_
theorem qDe {p : Int} {n r : Nat} {R R' : Nat → Vec} (h : ∀ i j, i < r → j < n → R i j = R' i j) (v : Vec) : Span p n (rows R r) v ↔ Span p n (rows R' r) v :=
 qEa (fun i hi => ⟨i, hi, fun j hj => by rw [h i j hi hj, Int.sub_self]; exact yn_ _⟩) (fun i hi => ⟨i, hi, fun j hj => by rw [h i j hi hj, Int.sub_self]; exact yn_ _⟩) v
theorem qJj {p : Int} {m n : Nat} (X : List Int) (v : Vec) : Span p m ((qC8 m n X).map vec) v ↔ Span p m (rows (fun j i => fl n X i j) n) v := by
 rw [← qBt, qEj]
 exact qDe (fun j i hj hi => qMn X hi hj) v
theorem qIj {p : Int} {m n : Nat} (X : List Int) (v : Vec) : Span p n ((unfl n m X).map vec) v ↔ Span p n (rows (fl n X) m) v := by
 rw [← qBt, qCq]
 exact qDe (fun i j hi hj => qHs X hi hj) v
theorem qNu {p m n : Nat} (hp : isP p = true) {X : List Int} {B : List (List Int)} {q : List Int} (h : Red (p : Int) n (unfl n m X) B q) : LinT.dim (p : Int) m (Span (p : Int) m ((qC8 m n X).map vec)) = B.length := by
 rw [qBa (qJj X)]
 refine qPg (R := fl n X) (qGk hp) ?_
 have h1 := qKk (qGk hp) h
 rw [qBa (qDs (qIj X))] at h1
 exact h1
theorem qMm {p m n k : Nat} {X Y : List Int} (hz : ∀ i j, i < m → j < k → (p : Int) ∣ sm (fun l => fl n X i l * fl k Y l j) n) (v : Vec) (hv : Span (p : Int) n ((qC8 n k Y).map vec) v) : Perp (p : Int) n (Span (p : Int) n ((unfl n m X).map vec)) v := by
 refine qA9 (qHz _ _ _) (fun x hx => ?_) ((qJj Y v).1 hv)
 obtain ⟨j, hj, rfl⟩ := qB3 hx
 rw [qDs (qIj X), qFu]
 intro y hy
 obtain ⟨i, hi, rfl⟩ := qB3 hy
 have := hz i j hi hj
 rw [qD5]
 exact this
theorem qMf {p m n k : Nat} (hp : isP p = true) {X Y : List Int} {B B' K : List (List Int)} {q q' : List Int} (h : Red (p : Int) n (unfl n m X) B q) (h' : Red (p : Int) k (unfl k n Y) B' q')
  (hz : ∀ i j, i < m → j < k → (p : Int) ∣ sm (fun l => fl n X i l * fl k Y l j) n) (hK : ∀ v, Span (p : Int) n (K.map vec) v ↔ Perp (p : Int) n (Span (p : Int) n ((unfl n m X).map vec)) v) :
  (extL (p : Int) n (qC8 n k Y) K).length + B.length + B'.length = n := by
 have h1 := qKt (n := n) (qGk hp) K (qC8 n k Y)
 rw [qNu hp h'] at h1
 have h2 : LinT.dim (p : Int) n (Span (p : Int) n ((qC8 n k Y ++ K).map vec)) = LinT.dim (p : Int) n (Perp (p : Int) n (Span (p : Int) n ((unfl n m X).map vec))) := qBa fun v => by
  rw [← hK v, yt_, qJv]
  constructor
  ·rintro ⟨s, t, hs, ht, e⟩
   have hs' := (hK s).2 (qMm hz s hs)
   exact (qAs _ _ _).congr ((qAs _ _ _).add _ _ hs' ht) e
  ·intro hv
   exact ⟨fun _ => 0, v, (qAs _ _ _).zero _ (fun i _ => yn_ _), hv, fun i _ => by simp⟩
 have h3 := qKk (qGk hp) h
 omega
end Go.Proofs.Ytpgjfppbbbnclaa.B
set_option linter.unusedVariables false
set_option linter.unusedSimpArgs false
namespace Go.Proofs.Ytpgjfppbbbnclaa.B
open Go.RowKit Go.Proofs.YtpgjfppbbbnclaaW.PrintWords
open LinT
theorem at_val (p : Int) {m n : Nat} {X : List Int} (hX : X.length = m * n) (hm : m ≤ 1024) (hn : n ≤ 1024) {i j : Nat} (hi : i < m) (hj : j < n) : z99.f p (m : Int) (n : Int) X (i : Int) (j : Int) = some (fl n X i j) := by
 have hb : m * n ≤ 1024 * 1024 := yj_ hm hn
 have h2 := qCf hi hj
 unfold z99.f
 have e : wrap64 (wrap64 ((i : Int) * (n : Int)) + (j : Int)) = ((i * n + j : Nat) : Int) := by
  rw [← yi_, qAi (x := ((i * n : Nat) : Int)) oM_ oM_, qAi oM_ oM_]; omega
 rw [e, if_pos oM_, if_pos oM_, qA0]
 rfl
theorem qIk {w : Nat} : ∀ (L : List (List Int)), (∀ x ∈ L, x.length = w) → unfl w L.length L.flatten = L := by
 intro L h
 refine List.ext_getElem (by rw [qCq]) fun i h1 h2 => ?_
 have hi : i < L.length := h2
 show ((List.range L.length).map fun i => (L.flatten.drop (i * w)).take w)[i]'(by simpa using hi) = L[i]
 rw [List.getElem_map, List.getElem_range]
 have main : ∀ (L : List (List Int)), (∀ x ∈ L, x.length = w) → ∀ i (hi : i < L.length), (L.flatten.drop (i * w)).take w = L[i] := by
  intro L
  induction L with
  | nil => intro _ i hi; simp at hi
  | cons a L ih =>
   intro h i hi
   have ha := h a List.mem_cons_self
   cases i with
   | zero => simp [ha]
   | succ i =>
    rw [List.flatten_cons, List.drop_append, yu_ (by rw [ha, Nat.add_mul]; omega), List.nil_append, ha, show (i + 1) * w - w = i * w by rw [Nat.add_mul]; omega]
    exact ih (fun x hx => h x (List.mem_cons_of_mem _ hx)) i (by simpa using hi)
 exact main L h i hi
theorem qJk {m n : Nat} (X : List Int) (x : List Int) (hx : x ∈ qC8 m n X) : x.length = m := by
 obtain ⟨j, _, rfl⟩ := ys_.1 hx
 simp
theorem qIl (p : Int) {m n : Nat} {X : List Int} (hX : X.length = m * n) (hm : m ≤ 1024) (hn : n ≤ 1024) : Ev (fun k => z85.f k p (m : Int) (n : Int) X) (p, (n : Int), (m : Int), (qC8 m n X).flatten) := by
 unfold z85.f z126.f
 have hin : ∀ (j : Nat) (S : List Int), j < n → S.length ≤ 1024 * 1024 → Le (fun k => z126.l0 k (m : Int) (n : Int) (wrap64 ((j : Int) + 1)) p (m : Int) (n : Int) X p (n : Int) (m : Int) (S ++ (List.range m).map fun i => fl n X i j)) (fun k => z126.l1 k (m : Int) (j : Int) (n : Int) (j : Int) (m : Int) 0 p (m : Int) (n : Int) X p (n : Int) (m : Int) S) := by
  intro j S hj hS
  have h := qEi (fun (s : List Int) (i : Nat) k => z126.l1 k (m : Int) (j : Int) (n : Int) (j : Int) (m : Int) (i : Int) p (m : Int) (n : Int) X p (n : Int) (m : Int) (S ++ s)) (fun i => fl n X i j) m (fun i s hi hs r hr => by
   have hsl : s.length = i := by rw [hs]; simp
   refine Ev.step (fun k => z126.l1.eq_2 ..) ?_
   refine qAa oM_ (Ev.bind (a := fl n X i j) ?_ (qAa (by rw [yg_]; omega) ?_))
   ·refine qAr ?_
    unfold z98.f
    rw [at_val p hX hm hn hi hj]; rfl
   ·rw [qAj oM_, List.append_assoc]; exact hr)
  intro r hr
  have h2 := h r (by
   refine Ev.step (fun k => z126.l1.eq_2 ..) ?_
   exact qAd oM_ hr)
  simpa using h2
 have out : ∀ (d j : Nat), j + d = n → Ev (fun k => z126.l0 k (m : Int) (n : Int) (j : Int) p (m : Int) (n : Int) X p (n : Int) (m : Int) (((List.range j).map fun j => (List.range m).map fun i => fl n X i j).flatten)) (p, (n : Int), (m : Int), (qC8 m n X).flatten) := by
  intro d
  induction d with
  | zero =>
   intro j hj
   have : j = n := by omega
   subst this
   refine Ev.step (fun k => z126.l0.eq_2 ..) ?_
   exact qAd oM_ (Ev.now _)
  | succ d ih =>
   intro j hj
   have h := ih (j + 1) oM_
   have hl : (((List.range j).map fun j => (List.range m).map fun i => fl n X i j).flatten).length = j * m := by
    rw [qD4 (w := m) _ (fun x hx => by
     obtain ⟨_, _, rfl⟩ := ys_.1 hx
     simp)]
    simp
   have hb : j * m ≤ 1024 * 1024 := yj_ oM_ hm
   rw [List.range_succ, yt_, List.flatten_append, List.map_cons, List.map_nil, List.flatten_cons, List.flatten_nil, List.append_nil] at h
   refine Ev.step (fun k => z126.l0.eq_2 ..) ?_
   refine qAa oM_ (hin j _ oM_ oM_ _ ?_)
   rw [qAj oM_]
   exact h
 have h := out n 0 oM_
 exact Ev.bind h (Ev.now _)
theorem qJi {p m n : Nat} {X : List Int} (hX : X.length = m * n) (hm : m ≤ 1024) (hn : n ≤ 1024) : Ev (fun k => z62.f k (p : Int) (m : Int) (n : Int) X) (qC8 m n X) := by
 unfold z62.f
 refine Ev.bind (qIl (p : Int) hX hm hn) (Ev.bind (qIw (p := p) (m := n) (n := m) ?_ hn hm) ?_)
 ·rw [qD4 _ (qJk X), qEj]
 ·refine qBk (Ev.now _) ?_
  have := qIk (qC8 m n X) (qJk X)
  rw [qEj] at this
  exact this
end Go.Proofs.Ytpgjfppbbbnclaa.B
set_option linter.unusedVariables false
set_option linter.unusedSimpArgs false
namespace Go.Proofs.Ytpgjfppbbbnclaa.B
open Go.RowKit Go.Proofs.YtpgjfppbbbnclaaW.PrintWords
open LinT
theorem qFq {p n : Nat} (hp : isP p = true) (hn : n ≤ 1024) {L B : List (List Int)} {q : List Int} (h : Red (p : Int) n L B q) {x : List Int} (hB : B.length ≤ 1000) (hvx : Vs (p : Int) n [x]) (a b : Int) :
  ∃ B' q', Red (p : Int) n (L ++ [x]) B' q' ∧ Ev (fun k => z60.f k (p : Int) (n : Int) (B ++ [x])) ((p : Int), (n : Int), B') := by
 obtain ⟨h2, q', h1⟩ := qGy hp hn (L := B ++ [x]) (by rw [yg_]; simp; omega) (qLh h.vs hvx)
 refine ⟨_, q', h1.of_same fun v => qDd h.span x v, h2⟩
theorem qGq {p n : Nat} (hp : isP p = true) (hn : n ≤ 1000) (xs : List (List Int)) (hx : Vs (p : Int) n xs) (hxl : xs.length ≤ 1000) {L B : List (List Int)} {q : List Int} (h : Red (p : Int) n L B q) :
  Ev (fun k => z39.f k (p : Int) (n : Int) B xs) (extL (p : Int) n L xs) := by
 unfold z39.f
 have hpr := qGk hp
 have main : ∀ (d i : Nat) (T L B : List (List Int)) (q : List Int), i + d = xs.length → T.length ≤ i → Red (p : Int) n L B q → Ev (fun k => z39.l0 k T xs (xs.length : Int) (i : Int) (p : Int) (n : Int) B) (T ++ extL (p : Int) n L (xs.drop i)) := by
  intro d
  induction d with
  | zero =>
   intro i T L B q hi hT h
   rw [yu_ oM_]
   refine Ev.step (fun k => z39.l0.eq_2 ..) ?_
   exact qAd oM_ (qBk (Ev.now _) (by simp [extL]))
  | succ d ih =>
   intro i T L B q hi hT h
   have hil : i < xs.length := by omega
   have hdr : xs.drop i = xs.getD i [] :: xs.drop (i + 1) := by
    rw [List.drop_eq_getElem_cons hil, ya_, yb_ hil]; rfl
   obtain ⟨hxn, hxr⟩ := hx _ (qAu ([] : List Int) hil)
   have hB := (h.len_le hpr).1
   have hc := qJg hp oM_ h oM_ hxn hxr
   rw [qHc h.span] at hc
   refine Ev.step (fun k => z39.l0.eq_2 ..) ?_
   rw [qA2, qAj oM_]
   refine qAa oM_ (qAa oM_ (qAa oM_ (Ev.bind hc ?_)))
   rw [hdr]
   by_cases hin : inSp (p : Int) n L (xs.getD i []) = true
   ·refine qAa (by rw [hin]) (qBk (ih (i + 1) T L B q oM_ oM_ h) ?_)
    rw [show extL (p : Int) n L (xs.getD i [] :: xs.drop (i + 1)) = extL (p : Int) n L (xs.drop (i + 1)) by conv => lhs; unfold extL; rw [if_pos hin]]
   ·obtain ⟨B', q', r1, r2⟩ := qFq hp oM_ h (x := xs.getD i []) oM_ (vs_one hxn hxr) 0 0
    refine qAd (by rw [Bool.not_eq_true] at hin; rw [hin]; decide) (Ev.bind (qAr rfl) (qAa (by simp; omega) (Ev.bind (qDr B oM_ (fun x hx => by rw [(h.vs x hx).1]; omega)) (Ev.bind (qAr rfl) (qAa (by simp; omega) (Ev.bind r2 ?_))))))
    refine qBk (ih (i + 1) (T ++ [xs.getD i []]) (L ++ [xs.getD i []]) B' q' oM_ (by simp; omega) r1) ?_
    rw [show extL (p : Int) n L (xs.getD i [] :: xs.drop (i + 1)) = xs.getD i [] :: extL (p : Int) n (L ++ [xs.getD i []]) (xs.drop (i + 1)) by conv => lhs; unfold extL; rw [if_neg hin]]
    simp
 have := main xs.length 0 [] L B q oM_ (by simp) h
 simpa using this
end Go.Proofs.Ytpgjfppbbbnclaa.B
set_option linter.unusedVariables false
set_option linter.unusedSimpArgs false
namespace Go.Proofs.Ytpgjfppbbbnclaa.B
open Go.RowKit Go.Proofs.YtpgjfppbbbnclaaW.PrintWords
open LinT
end Go.Proofs.Ytpgjfppbbbnclaa.B
set_option linter.unusedVariables false
set_option linter.unusedSimpArgs false
namespace Go.Proofs.Ytpgjfppbbbnclaa.B
open Go.RowKit Go.Proofs.YtpgjfppbbbnclaaW.PrintWords
open SimT LinT
section
variable {C : List (List Int)} (hl : C.length ≤ 1048576) (hr : ∀ x ∈ C, x.length ≤ 1048576)
include hl hr
end
end Go.Proofs.Ytpgjfppbbbnclaa.B
set_option linter.unusedVariables false
set_option linter.unusedSimpArgs false
namespace Go.Proofs.Ytpgjfppbbbnclaa.B
open Go.RowKit Go.Proofs.YtpgjfppbbbnclaaW.PrintWords
open SimT LinT
theorem qKm {p m n : Nat} (hp : isP p = true) {X : List Int} (hX : X.length = m * n) (hR : Rng p X) (hm : m ≤ 1000) (hn : n ≤ 1000) {B : List (List Int)} {q : List Int} (h : Red (p : Int) n (unfl n m X) B q) :
  Ev (fun k => z33.f k (p : Int) (m : Int) (n : Int) X) (B.length : Int) := by
 obtain ⟨Y, q', det, hE, hst⟩ := qOp hp (w := n) (m := m) (X := X) oM_ oM_ hX hR (L := unfl n m X) (qCq _ _ _) (fun i j hi hj => qHs X hi hj)
 have hst' : FlInv (p : Int) n (unfl n m X).length (unfl n m X) n Y q' := by rw [qCq]; exact hst
 have e := hst'.red.unique (qGk hp) h (fun v => Iff.rfl)
 have h1 := h.len
 rw [← e.2] at h1
 unfold z33.f
 exact Ev.bind hE (qBk (Ev.now _) (by dsimp only; rw [h1]))
section
variable {C : List (List Int)} (hl : C.length ≤ 1048576) (hr : ∀ x ∈ C, x.length ≤ 1048576)
include hl hr
theorem qLd {p : Nat} (hp : isP p = true) (ho : okC C = true) {d : Int} (h0 : 0 ≤ d) (h3 : d ≤ 3) (hm0 : (qAn C (d - 1)).length ≤ 32) (hm : (qAn C d).length ≤ 32) (hn : (qAn C (d + 1)).length ≤ 32) :
  ∃ L : List (List Int), L.length ≤ 32 ∧ Ev (fun k => z21.f k C d (p : Int)) L ∧ Ev (fun k => z17.f k C d (p : Int)) (L.length : Int) := by
 have h2 := qBr hp
 have e1 : d + 1 - 1 = d := by omega
 have hb := qGb C d h2.1
 have hb1 := qGb C (d + 1) h2.1
 have hI := qKq hl hr hp ho (d := d) h0 oM_ oM_ oM_
 have hS := qKi hl hr hp ho (d := d) h0 oM_ oM_ oM_
 have hI1 := qKq hl hr hp ho (d := d + 1) oM_ oM_ (by rw [e1]; omega) oM_
 have hS1 := qKi hl hr hp ho (d := d + 1) oM_ oM_ (by rw [e1]; omega) oM_
 have hdd := fun i j hi hj => qPe ho h0 (p := p) (i := i) (j := j) hi hj
 unfold bMat at hI hS hI1 hS1
 rw [e1] at hb1 hI1 hS1
 generalize hX : qB8 C d (p : Int) = X at hb hI hS hdd
 generalize hY : qB8 C (d + 1) (p : Int) = Y at hb1 hI1 hS1 hdd
 generalize hnn : (qAn C d).length = n at *
 generalize hmm : (qAn C (d - 1)).length = m at *
 generalize hkk : (qAn C (d + 1)).length = l at *
 obtain ⟨B, q, r1, k1⟩ := qHa hp hb.1 hb.2 oM_ oM_
 obtain ⟨B', q', r2, _⟩ := qHa hp hb1.1 hb1.2 oM_ oM_
 have hcl := qJi (p := p) hb1.1 oM_ oM_
 obtain ⟨s1, qs, s2⟩ := qGy hp (n := n) oM_ (L := qC8 n l Y) (by rw [qEj]; omega) (qNv hb1.1 hb1.2)
 obtain ⟨c1, _, c3⟩ := qK6 hp r1
 have hcnt := qMf hp r1 r2 hdd c3
 have hxl := qH3 (p := (p : Int)) (n := n) (kerC p n B q) (qC8 n l Y)
 have hind := qGq hp (show n ≤ 1000 by omega) (kerC p n B q) (qO0 h2.1 B q) oM_ s2
 refine ⟨extL (p : Int) n (qC8 n l Y) (kerC p n B q), by omega, ?_, ?_⟩
 ·unfold z21.f z40.f
  have ew : wrap64 (d + 1) = d + 1 := qAi oM_ oM_
  rw [ew]
  exact Ev.bind (Ev.bind hI1 (Ev.bind hcl (Ev.bind s1 (Ev.now _)))) (Ev.bind hI (Ev.bind k1 (Ev.bind hind (Ev.now _))))
 ·unfold z17.f
  have ew : wrap64 (d + 1) = d + 1 := qAi oM_ oM_
  rw [ew]
  refine Ev.bind hS (Ev.bind hS1 (Ev.bind (qKm hp hb.1 hb.2 oM_ oM_ r1) (Ev.bind (qKm hp hb1.1 hb1.2 oM_ oM_ r2) (qBk (Ev.now _) ?_))))
  dsimp only
  rw [qAi (x := (n : Int) - (B.length : Int)) oM_ oM_, qAi oM_ oM_]
  omega
theorem qKd (p : Int) : ∃ g : List Int × Int, g.1.length ≤ 4 ∧ Ev (fun k => z7.f k C p) g ∧ Ev (fun k => z5.f k C p) g := by
 unfold z7.f z5.f
 by_cases hok : (okC C && okP p) = true
 ·obtain ⟨ho, hpp⟩ := (ye_ _ _).mp hok
  obtain ⟨n, rfl, hp⟩ := qOt.1 hpp
  have main : ∀ (d i : Nat) (s : List Int), i + d = 4 → s.length = i → ∃ g : List Int × Int, g.1.length ≤ 4 ∧ Ev (fun k => z7.l0 k (n : Int) s (i : Int) C) g ∧ Ev (fun k => z5.l0 k (n : Int) s (i : Int) C) g := by
   intro d
   induction d with
   | zero =>
    intro i s hi hs
    refine ⟨(s, 0), by show s.length ≤ 4; omega, ?_, ?_⟩
    ·refine Ev.step (fun k => z7.l0.eq_2 ..) ?_
     exact qAd oM_ (Ev.now _)
    ·refine Ev.step (fun k => z5.l0.eq_2 ..) ?_
     exact qAd oM_ (Ev.now _)
   | succ d ih =>
    intro i s hi hs
    have c1 := qHk hl hr (i : Int) (n : Int)
    have c2 := qJu hl hr (i : Int) (n : Int)
    by_cases hz : askD C (i : Int) (n : Int) = 0
    ·obtain ⟨_, _, h0, h3, h4, h5, h6⟩ := qMy hz
     obtain ⟨L, hL, b1, b2⟩ := qLd hl hr hp ho h0 h3 h4 h5 h6
     obtain ⟨g, g1, g2, g3⟩ := ih (i + 1) (s ++ [(L.length : Int)]) oM_ (by simp; omega)
     refine ⟨g, g1, ?_, ?_⟩
     ·refine Ev.step (fun k => z7.l0.eq_2 ..) ?_
      rw [qAj oM_]
      exact qAa oM_ (Ev.bind c1 (qAa hz (Ev.bind b1 (Ev.bind (qAr (r := (L.length : Int)) rfl) (qAa oM_ g2)))))
     ·refine Ev.step (fun k => z5.l0.eq_2 ..) ?_
      rw [qAj oM_]
      exact qAa oM_ (Ev.bind c2 (qAa hz (Ev.bind b2 (qAa oM_ g3))))
    ·have h5 : askD C (i : Int) (n : Int) = 5 := by
      unfold askD at hz ⊢
      rw [if_pos hok, if_pos (by rw [ye_, yf_, yf_]; omega)] at hz ⊢
      split at hz
      ·exact absurd rfl hz
      ·rename_i h; rw [if_neg h]
     refine ⟨([], 5), by simp, ?_, ?_⟩
     ·refine Ev.step (fun k => z7.l0.eq_2 ..) ?_
      exact qAa oM_ (Ev.bind c1 (qAd hz (qBk (Ev.now _) (by rw [h5]))))
     ·refine Ev.step (fun k => z5.l0.eq_2 ..) ?_
      exact qAa oM_ (Ev.bind c2 (qAd hz (Ev.now _)))
  obtain ⟨g, g1, g2, g3⟩ := main 4 0 [] rfl rfl
  refine ⟨g, g1, g2, ?_⟩
  refine Ev.bind (qFh C hl hr) (qAa ho (Ev.bind (qDb (n : Int)) ?_))
  rw [hpp]
  refine Ev.step (fun k => z5.j0.eq_2 ..) ?_
  exact qAd (by decide) g3
 ·have h1 : askD C 0 p = 1 := by unfold askD; rw [if_neg hok]
  have c1 := qHk hl hr 0 p
  rw [h1] at c1
  refine ⟨([], 1), by simp, ?_, ?_⟩
  ·refine Ev.step (fun k => z7.l0.eq_2 ..) ?_
   exact qAa oM_ (Ev.bind c1 (qAd (by decide) (Ev.now _)))
  ·refine Ev.bind (qFh C hl hr) ?_
   cases ho : okC C with
   | false =>
    refine qAd (by decide) ?_
    refine Ev.step (fun k => z5.j0.eq_2 ..) ?_
    exact qAa rfl (Ev.now _)
   | true =>
    refine qAa rfl (Ev.bind (qDb p) ?_)
    have : okP p = false := by
     cases h : okP p with
     | false => rfl
     | true => rw [ho, h] at hok; exact absurd rfl hok
    rw [this]
    refine Ev.step (fun k => z5.j0.eq_2 ..) ?_
    exact qAa rfl (Ev.now _)
end
theorem qEp {l0 : List (List Int)} {a1 : Int} (h0 : WfLL l0) (h1 : Wf a1) : ∃ k, z3.f k l0 a1 = some true := by
 refine Ev.rounds (g := fun k => z3.f k l0 a1) ?_
 unfold z3.f
 rcases qIq l0 1048576 h0 oM_ oM_ with ⟨t, ht, hn⟩ | ⟨ht, hb⟩
 ·exact Ev.bind ht (qAa hn (Ev.now _))
 have htn := qBo l0
 have hrow : ∀ x ∈ l0, x.length ≤ 1048576 := fun x hx => by have := qE0 l0 x hx; omega
 have hlen : l0.length ≤ 1048576 := by omega
 have hto := qIn l0 hlen hrow
 have heq := qGu l0 oM_ (fun x hx => by have := hrow x hx; omega)
 refine Ev.bind ht (qAd oM_ ?_)
 obtain ⟨g, hs, him, hsp⟩ := qKd hlen hrow a1
 obtain ⟨g0, g1⟩ := g
 dsimp only at hs
 have heg := qH4 g0 oM_
 have hm1 : laws_markComplex.f l0 1 = some (1 + total l0, qBg l0 1) := qNm l0 1 oM_ oM_
 have hm2 := qFx g0 1 oM_ oM_
 have hh := qH1 g0 1 oM_ oM_
 (repeat (first | exact Ev.now _ | refine qAa rfl ?_ | refine qAd (by simp only []; omega) ?_ | refine qAd oM_ ?_ | refine qAd (by simp) ?_ | refine Ev.bind (by assumption) ?_ | refine Ev.bind (qAr (by assumption)) ?_))
end Go.Proofs.Ytpgjfppbbbnclaa.B
