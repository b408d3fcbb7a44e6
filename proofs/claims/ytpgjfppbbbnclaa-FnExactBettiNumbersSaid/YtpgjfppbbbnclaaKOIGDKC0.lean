/- Printed proofs of functions of the program and of the reference, by a program of this work over the kit's printer. -/
import Derived.Test.YtpgjfppbbbnclaaKBAKNEC0
import Derived.Test.YtpgjfppbbbnclaaKCPGEII0
import Derived.Test.YtpgjfppbbbnclaaKIBNCAK0
import Derived.Test.YtpgjfppbbbnclaaKJINNIO0
import Derived.Test.YtpgjfppbbbnclaaKLEKPEN0
import Derived.Test.YtpgjfppbbbnclaaKMDCCHE0
import Derived.Test.YtpgjfppbbbnclaaKW0
set_option maxHeartbeats 8000000
set_option maxRecDepth 100000
namespace Go.Proofs.Ytpgjfppbbbnclaa.B
open Go.RowKit Go.Proofs.YtpgjfppbbbnclaaW.PrintWords Go.Proofs.YtpgjfppbbbnclaaW.PrintLast Go.Proofs.YtpgjfppbbbnclaaW.PrintMore
attribute [local go_sem] qAh qAf qAl qAk qAc qAb qAg qAe
set_option linter.unusedVariables false
set_option linter.unusedSimpArgs false
def z21.f (k : Nat) (l0_0 : List (List Int)) (a1 : Int) (a2 : Int) : Option ((List (List Int))) := (z40.f k l0_0 a1 a2).bind fun bt102 => ((z42.f k l0_0 a1 a2).bind fun bt107 => ((z41.f k bt107.1 bt107.2.1 bt107.2.2.1 bt107.2.2.2).bind fun t113 => ((z39.f k bt102.1 bt102.2.1 bt102.2.2 t113).bind fun t116 => (some t116))))
def z21.T1 : Bool × List (List Nat × List Nat) := (true, [([], []), ([], []), ([], []), ([0, 1, 2], [0, 1, 2]), ([], []), ([], []), ([], []), ([4, 5, 6, 3], [4, 5, 6]), ([7, 7], [7]), ([3, 8, 8], [3, 8]), ([9, 9, 0, 1, 2, 3, 4, 5, 6, 7, 8, 9], [9])])
def z21.B1 : List Nat := [0, 0, 0, 7, 0, 0, 0, 127, 255, 511, 1023]
theorem z21.tab1 : rtab .any (qC4 Try.f21 1) = z21.T1 := by kernel_rfl
theorem z21.bits1 : qBe z21.T1.2 z21.B1 = true := by kernel_rfl
theorem z21.calls (k : Nat) (A0_0 : Option Addr) (c0_0 : Nat) (l0_0 : List (List Int)) (a1 : Int) (a2 : Int) (r : List (List Int)) (w : World) (hr0_0 : Kd.C (Kd.slice 2 (Kd.int .i64)) w A0_0 l0_0.length l0_0) (hc0_0 : l0_0.length ≤ c0_0) (h : z21.f k l0_0 a1 a2 = some r) :
  Calls Try.prog 21 #[.agg #[.slice A0_0 l0_0.length c0_0], .int .i64 a1, .int .i64 a2] w fun e w' => ∃ v0_ : Value, e = .returned (v0_) ∧ Kd.N (Kd.slice 2 (Kd.int .i64)) 26 w' w.heap.size (fun k_ => (w.heap.size ≤ k_)) v0_ r ∧ Below w.heap.size w w' := by
 have hu29 := Try.underlying29
 have HR0_0 := Zz.mk hr0_0
 have HC0_0 := Zz.mk hc0_0
 clear hr0_0 hc0_0
 have HB := Zz.mk (Below.refl w.heap.size w)
 have H : ((z40.f k l0_0 a1 a2).bind fun bt102 => ((z42.f k l0_0 a1 a2).bind fun bt107 => ((z41.f k bt107.1 bt107.2.1 bt107.2.2.1 bt107.2.2.2).bind fun t113 => ((z39.f k bt102.1 bt102.2.1 bt102.2.2 t113).bind fun t116 => (some t116))))) = some r := h
 clear h
 replace H := OB_ H
 obtain ⟨⟨t102, t103, t104⟩, A40, H⟩ := H
 try dsimp only at H
 have A4 := Zz.mk A40
 clear A40
 replace H := OB_ H
 obtain ⟨⟨t107, t108, t109, t110⟩, A50, H⟩ := H
 try dsimp only at H
 have A5 := Zz.mk A50
 clear A50
 replace H := OZ_ H
 obtain ⟨t113, A6, H⟩ := H
 replace H := OZ_ H
 obtain ⟨t116, A7, H⟩ := H
 obtain rfl := OI_ H
 go_enter Try.func21, Try.ntmps21
 try go_wp2_with (first | ((with_reducible refine qAm (N := 3) rfl ?_); refine bx_ 3 #[.slice A0_0 l0_0.length c0_0] 29 ?_; intro gb101 hg w8 hbox hb; have BK101 := Zz.mk (hbox); have GW101 := Zz.mk ((gw_ hg (B_ HB.out))); have GE101 := GW101; replace HB := Zz.mk (bT_ (B_ HB.out) hb); clear hb hbox hg))
 replace BK101 := Zz.mk (bD_ BK101.out)
 replace HB := Zz.mk (qAq HB.out)
 refine qBx (n := 11) (S := fun w' => w'.cell? ⟨gb101, 0, none⟩ = some (.slice A0_0 l0_0.length c0_0)) (ds := []) (tb_ 11 0) (by kernel_rfl) rfl rfl ((bC_ BK101.out 0).trans rfl) (fun hHeld => ?_); refine qA7 z21.tab1 z21.bits1 (fun HT_ HW_ => ?_)
 generalize w8.drew = w9 at BK101 HB hHeld ⊢
 refine PX_ 1 8 (tb_ 11 2) HT_ rfl rfl ?_
 refine PX_ 2 9 (tb_ 11 6) HT_ rfl rfl ?_
 refine PX_ 5 12 (tb_ 11 38) HT_ rfl rfl ?_
 refine PX_ 6 13 (tb_ 11 102) HT_ rfl rfl ?_
 refine take_ (i := 0) (N := some 7) (v := ?_) (a' := ?_) (tb_ 11 103) rfl rfl (qCz HT_.out HW_.out (by kernel_rfl)) (fun _ _ _ h => h) (Or.inl ⟨by rfl, ?_⟩) hHeld ?_ ?_
 rotate_left
 ·intro w' s0
  go_simp
  with_reducible rfl
 rotate_left
 ·simp only [Act.put, List.setIfInBounds_toArray, List.set_cons_zero, List.set_cons_succ, qA6, qBh]
  rfl
 refine take_ (i := 4) (N := some 11) (v := ?_) (a' := ?_) (tb_ 11 119) rfl rfl (qCz HT_.out HW_.out (by kernel_rfl)) (fun _ _ _ h => h) (Or.inl ⟨by rfl, ?_⟩) hHeld ?_ ?_
 rotate_left
 ·intro w' s0
  go_simp
  with_reducible rfl
 rotate_left
 ·simp only [Act.put, List.setIfInBounds_toArray, List.set_cons_zero, List.set_cons_succ, qA6, qBh]
  rfl
 refine one_ (i := 3) (N := some 10) (tb_ 11 127) rfl rfl (qA5 HT_.out (by kernel_rfl)) (by decide) (fun K hK => ?_)
 refine GO_ Try.func40 #[.agg #[.slice A0_0 l0_0.length c0_0], .int .i64 a1, .int .i64 a2] (h := ?_)
 with_reducible refine (z40.calls k _ _ l0_0 a1 a2 t102 t103 t104 _ ?side1 ?side2 A4.out).mono ?_
 (case side1 => exact KC_ (Kd.C_below HR0_0.out HB.out))
 (case side2 => exact HC0_0.out)
 rintro e w10 ⟨v105, rfl, ho0, hb⟩
 refine ⟨_, rfl, ?_⟩
 have HO106 := Zz.mk (Kd.N_lower (Kd.N_mono (ok' := fun k_ => (w.heap.size ≤ k_) ∧ k_ ≠ gb101) (Kd.S_N (Kd.S_bound ho0)) (fun k_ hk_ => ⟨(Nat.le_trans (bS_ (B1_ HB.out GE101.out)) hk_.2.1), (Kd.freshB (g := gb101) (o := .cells #[.slice A0_0 l0_0.length c0_0] 29 (0, 0)) (KB_ BK101.out) k_ hk_.2.1)⟩)) (bS_ (B1_ HB.out GE101.out)))
 replace BK101 := Zz.mk (kb_ BK101.out hb)
 replace HB := Zz.mk (bT_ (B1_ HB.out GE101.out) hb)
 (try clear hb);(try clear ho0)
 refine hK.out _ _ ((bC_ BK101.out 0).trans rfl) (fun hHeld => ?_)
 clear hK K
 refine NM_ (N := (some 10)) (h := ?_)
 refine one_ (i := 7) (N := some 14) (tb_ 11 255) rfl rfl (qA5 HT_.out (by kernel_rfl)) (by decide) (fun K hK => ?_)
 refine GO_ Try.func42 #[.agg #[.slice A0_0 l0_0.length c0_0], .int .i64 a1, .int .i64 a2] (h := ?_)
 with_reducible refine (z42.calls k _ _ l0_0 a1 a2 t107 t108 t109 t110 _ ?side1 ?side2 A5.out).mono ?_
 (case side1 => exact KC_ (Kd.C_below HR0_0.out HB.out))
 (case side2 => exact HC0_0.out)
 rintro e w11 ⟨v111, rfl, ho0, hb⟩
 refine ⟨_, rfl, ?_⟩
 replace HO106 := Zz.mk (Kd.N_elder' (KN_ HO106.out) (Kd.R_base ho0) hb)
 have HO112 := Zz.mk (Kd.R_lower (Kd.R_newM (M := fun k_ => (w.heap.size ≤ k_)) ho0 (bS_ (B1_ HB.out GE101.out)) (fun k_ h_ => h_)) (bS_ (B1_ HB.out GE101.out)))
 replace BK101 := Zz.mk (kb_ BK101.out hb)
 replace HB := Zz.mk (bT_ (B1_ HB.out GE101.out) hb)
 (try clear hb);(try clear ho0)
 obtain ⟨Ao12, co12, eo12⟩ := Kd.R_slice HO112.out
 (first | subst eo12 | obtain ⟨rfl, rfl⟩ := sl_ eo12)
 refine hK.out _ _ ((bC_ BK101.out 0).trans rfl) (fun hHeld => ?_)
 clear hK K
 refine NM_ (N := (some 14)) (h := ?_)
 refine one_ (i := 8) (N := some 15) (tb_ 11 511) rfl rfl (qA5 HT_.out (by kernel_rfl)) (by decide) (fun K hK => ?_)
 refine GO_ Try.func41 #[.agg #[.int .i64 t107, .int .i64 t108, .int .i64 t109, .slice Ao12 t110.length co12]] (h := ?_)
 with_reducible refine (z41.calls k t107 t108 t109 _ _ t110 t113 _ ?side1 ?side2 A6.out).mono ?_
 (case side1 => exact KC_ (Kd.R_reads' HO112.out).2.2)
 (case side2 => exact (Kd.R_reads' HO112.out).2.1)
 rintro e w13 ⟨v114, rfl, ho0, hb⟩
 refine ⟨_, rfl, ?_⟩
 have HO115 := Zz.mk (Kd.N_lower (Kd.N_mono (ok' := fun k_ => (w.heap.size ≤ k_) ∧ some k_ ≠ (v105 : Value).ownBlock ∧ some k_ ≠ (.slice Ao12 t110.length co12 : Value).ownBlock ∧ k_ ≠ gb101) (Kd.S_N (Kd.S_bound ho0)) (fun k_ hk_ => ⟨(Nat.le_trans (bS_ (B1_ HB.out GE101.out)) hk_.2.1), (Kd.fresh' (Kd.N_lt (KN_ HO106.out)) k_ hk_.2.1), (Kd.fresh' (Kd.R_lt (KR_ HO112.out)) k_ hk_.2.1), (Kd.freshB (g := gb101) (o := .cells #[.slice A0_0 l0_0.length c0_0] 29 (0, 0)) (KB_ BK101.out) k_ hk_.2.1)⟩)) (bS_ (B1_ HB.out GE101.out)))
 replace HO106 := Zz.mk (Kd.N_elder' (KN_ HO106.out) (by first | exact Kd.N_base ho0 | exact Kd.S_base ho0) hb)
 replace HO112 := Zz.mk (Kd.R_below (KR_ HO112.out) hb)
 replace BK101 := Zz.mk (kb_ BK101.out hb)
 replace HB := Zz.mk (bT_ (B1_ HB.out GE101.out) hb)
 (try clear hb);(try clear ho0)
 obtain ⟨Ao14, co14, eo14⟩ := Kd.N_slice HO106.out
 (first | subst eo14 | obtain ⟨rfl, rfl⟩ := sl_ eo14)
 obtain ⟨Ao15, co15, eo15⟩ := Kd.N_slice HO115.out
 (first | subst eo15 | obtain ⟨rfl, rfl⟩ := sl_ eo15)
 refine hK.out _ _ ((bC_ BK101.out 0).trans rfl) (fun hHeld => ?_)
 clear hK K
 refine NM_ (N := (some 15)) (h := ?_)
 refine one_ (i := 9) (N := some 16) (tb_ 11 1023) rfl rfl (qA5 HT_.out (by kernel_rfl)) (by decide) (fun K hK => ?_)
 refine GO_ Try.func39 #[.agg #[.int .i64 t102, .int .i64 t103, .slice Ao14 t104.length co14], .slice Ao15 t113.length co15] (h := ?_)
 with_reducible refine (z39.calls k t102 t103 (fun k_ => ((((w.heap.size ≤ k_) ∧ k_ ≠ gb101) ∧ some k_ ≠ (.slice Ao12 t110.length co12 : Value).ownBlock) ∧ some k_ ≠ (.slice Ao15 t113.length co15 : Value).ownBlock)) _ _ t104 (fun k_ => ((w.heap.size ≤ k_) ∧ (some k_ ≠ (.slice Ao14 t104.length co14 : Value).ownBlock ∧ (some k_ ≠ (.slice Ao12 t110.length co12 : Value).ownBlock ∧ k_ ≠ gb101)))) _ _ t113 t116 _ ?side1 ?side2 A7.out).mono ?_
 (case side1 => exact Kd.N_V (HO106.out))
 (case side2 => exact Kd.N_V (HO115.out))
 rintro e w16 ⟨v117, rfl, ho0, hb⟩
 refine ⟨_, rfl, ?_⟩
 have HO118 := Zz.mk (Kd.N_lower (Kd.N_mono (ok' := fun k_ => (w.heap.size ≤ k_) ∧ some k_ ≠ (.slice Ao12 t110.length co12 : Value).ownBlock ∧ k_ ≠ gb101) ho0 (fun k_ hk_ => ⟨Or.elim hk_ (fun hs_ => Or.elim hs_ (fun hs_ => hs_.1.1.1) (fun hs_ => hs_.1)) (fun hn_ => (Nat.le_trans (bS_ (B1_ HB.out GE101.out)) hn_)), Or.elim hk_ (fun hs_ => Or.elim hs_ (fun hs_ => hs_.1.2) (fun hs_ => hs_.2.2.1)) (fun hn_ => (Kd.fresh' (Kd.R_lt (KR_ HO112.out)) k_ hn_)), Or.elim hk_ (fun hs_ => Or.elim hs_ (fun hs_ => hs_.1.1.2) (fun hs_ => hs_.2.2.2)) (fun hn_ => (Kd.freshB (g := gb101) (o := .cells #[.slice A0_0 l0_0.length c0_0] 29 (0, 0)) (KB_ BK101.out) k_ hn_))⟩)) (bS_ (B1_ HB.out GE101.out)))
 replace HO106 := Zz.mk (Kd.N_elder' (KN_ HO106.out) (by first | exact Kd.N_base ho0 | exact Kd.S_base ho0) hb)
 replace HO112 := Zz.mk (Kd.R_below (KR_ HO112.out) hb)
 replace HO115 := Zz.mk (Kd.N_elder' (KN_ HO115.out) (by first | exact Kd.N_base ho0 | exact Kd.S_base ho0) hb)
 replace BK101 := Zz.mk (kb_ BK101.out hb)
 replace HB := Zz.mk (bT_ (B1_ HB.out GE101.out) hb)
 (try clear hb);(try clear ho0)
 refine hK.out _ _ ((bC_ BK101.out 0).trans rfl) (fun hHeld => ?_)
 clear hK K
 refine NM_ (N := (some 16)) (h := ?_)
 refine PX_ 10 6 (tb_ 11 2047) HT_ rfl rfl ?_
 refine qCp (qBq HT_.out (by kernel_rfl)) ?_
 try go_wp2
 go_ret
 exact ⟨_, F_, by refine NW_ ?_; exact Kd.N_mono HO118.out (fun _ hk => hk.1), B1_ HB.out GE101.out⟩
def z7.l0 : Nat → Int → List Int → Int → List (List Int) → Option (List Int × Int)
 | 0, _, _, _, _ => none
 | k + 1, x1, x6, x9, x102000 => if x9 < 4 then ((z19.f k x102000 x9 x1).bind fun t102 => (if t102 = 0 then ((z21.f k x102000 x9 x1).bind fun t103 => ((z20.f t103).bind fun t106 => (if x6.length < 17592186044416 then (z7.l0 k x1 (x6 ++ [t106]) (wrap64 (x9 + 1)) x102000) else (none)))) else (some (([] : List Int), t102)))) else (some (x6, 0))
def z7.f (k : Nat) (l0_0 : List (List Int)) (a1 : Int) : Option (List Int × Int) := z7.l0 k a1 ([] : List Int) 0 l0_0
theorem z7.calls (k : Nat) (A0_0 : Option Addr) (c0_0 : Nat) (l0_0 : List (List Int)) (a1 : Int) (r1 : List Int) (r2 : Int) (w : World) (hr0_0 : Kd.C (Kd.slice 2 (Kd.int .i64)) w A0_0 l0_0.length l0_0) (hc0_0 : l0_0.length ≤ c0_0) (h : z7.f k l0_0 a1 = some (r1, r2)) :
  Calls Try.prog 7 #[.agg #[.slice A0_0 l0_0.length c0_0], .int .i64 a1] w fun e w' => ∃ v0_ : Value, e = .returned (.tuple #[v0_, .int .i64 r2]) ∧ Kd.R (Kd.int .i64) 2 w' w.heap.size (fun _ => True) v0_ r1 ∧ Below w.heap.size w w' := by
 have hu29 := Try.underlying29
 have HR0_0 := Zz.mk hr0_0
 have HC0_0 := Zz.mk hc0_0
 clear hr0_0 hc0_0
 have HB := Zz.mk (Below.refl w.heap.size w)
 have H : (z7.l0 k a1 ([] : List Int) 0 l0_0) = some (r1, r2) := h
 clear h
 have H' := Zz.mk H
 clear H
 go_enter Try.func7, Try.ntmps7
 go_wp2_with (first | ((with_reducible refine qAm (N := 2) rfl ?_); refine bx_ 2 #[.slice A0_0 l0_0.length c0_0] 29 ?_; intro gb101 hg w3 hbox hb; have BK101 := Zz.mk (hbox); have GW101 := Zz.mk ((gw_ hg (B_ HB.out))); have GE101 := GW101; replace HB := Zz.mk (bT_ (B_ HB.out) hb); clear hb hbox hg))
 go_loopg [6, 9] k (fun kq v6 v9 w' => ∃ (x6_1 : List Int) (x9_1 : Int), v9 = .int .i64 x9_1 ∧ Zz (z7.l0 kq a1 x6_1 x9_1 l0_0 = some (r1, r2)) ∧ Zz (kq ≤ k) ∧ Zz (Kd.R (Kd.int .i64) 2 w' w.heap.size (fun _ => True) v6 x6_1) ∧ Zz (w'.heap[gb101]? = some (.cells #[(.slice A0_0 l0_0.length c0_0)] 29 (0, 0))) ∧ Zz (Below w.heap.size w w'))
 case atStart => exact ⟨(([] : List Int)), (0), E_, H', ⟨Nat.le_refl _⟩, ⟨by first | exact Kd.R_nil _ _ _ _ _ | exact Kd.N_nil _ _ _ _ _ | exact Kd.V_nil _ _ _ _ _ | exact Kd.Q_nil _ _ _ _ _ | exact Kd.S_nil _ _ _ _ _⟩, ⟨KB_ BK101.out⟩, ⟨B1_ HB.out GE101.out⟩⟩
 case round =>
  clear H'
  obtain ⟨x6_1, x9_1, rfl, HA, HK1, HO_6, BK101, HB⟩ := hrel
  cases gk with
  | zero => exact absurd HA.out (by simp [z7.l0])
  | succ k1 =>
   have H := HA.out
   clear HA
   simp only [z7.l0] at H
   by_cases c4 : x9_1 < 4
   ·rw [if_pos c4] at H
    have c4b0 : decide (x9_1 < 4) = true := decide_eq_true c4
    clear c4
    replace H := OB_ H
    obtain ⟨t102, A50, H⟩ := H
    replace H : (if t102 = 0 then ((z21.f k1 l0_0 x9_1 a1).bind fun t103 => ((z20.f t103).bind fun t106 => (if x6_1.length < 17592186044416 then (z7.l0 k1 a1 (x6_1 ++ [t106]) (wrap64 (x9_1 + 1)) l0_0) else (none)))) else (some (([] : List Int), t102))) = some (r1, r2) := H
    have A5 := Zz.mk A50
    clear A50
    by_cases c6 : t102 = 0
    ·rw [if_pos c6] at H
     have c6b0 : (t102 == 0) = true := beq_iff_eq.mpr c6
     have c6b1 : (t102 != 0) = false := bne_eq_false_iff_eq.mpr c6
     clear c6
     replace H := OB_ H
     obtain ⟨t103, A70, H⟩ := H
     replace H : ((z20.f t103).bind fun t106 => (if x6_1.length < 17592186044416 then (z7.l0 k1 a1 (x6_1 ++ [t106]) (wrap64 (x9_1 + 1)) l0_0) else (none))) = some (r1, r2) := H
     have A7 := Zz.mk A70
     clear A70
     replace H := OB_ H
     obtain ⟨t106, A80, H⟩ := H
     replace H : (if x6_1.length < 17592186044416 then (z7.l0 k1 a1 (x6_1 ++ [t106]) (wrap64 (x9_1 + 1)) l0_0) else (none)) = some (r1, r2) := H
     have A8 := Zz.mk A80
     clear A80
     have c9 := O1_ H
     replace H := O2_ H
     have LMc9 := Zz.mk c9
     clear c9
     obtain ⟨y107, hy107⟩ : ∃ y_ : List Int, y_ = (x6_1 ++ [t106]) := ⟨_, rfl⟩
     replace H : (z7.l0 k1 a1 y107 (wrap64 (x9_1 + 1)) l0_0) = some (r1, r2) := Y_ hy107 H
     have Ny107 := Zz.mk hy107
     clear hy107
     have H' := Zz.mk H
     clear H
     obtain ⟨hcz10_0, hfz10_0⟩ := Z1f_ BK101.out
     go_wp2_with (first | ((with_reducible refine gC_ (f := 19) rfl ?_); refine GL_ (some 15) rfl rfl Try.func19 #[.agg #[.slice A0_0 l0_0.length c0_0], .int .i64 x9_1, .int .i64 a1] rfl (h := ?_); (with_reducible refine (z19.calls k1 _ _ l0_0 x9_1 a1 t102 _ ?side1 ?side2 A5.out).mono ?_); (case side1 => exact KC_ (Kd.C_below HR0_0.out HB.out)); (case side2 => exact HC0_0.out); rintro e w11 ⟨rfl, hb⟩; refine ⟨_, rfl, ?_⟩; replace HO_6 := Zz.mk (Kd.R_below (KR_ HO_6.out) hb); replace BK101 := Zz.mk (kb_ BK101.out hb); replace HB := Zz.mk (bT_ (B1_ HB.out GE101.out) hb); (try clear hb); obtain ⟨hcz12_0, hfz12_0⟩ := Z1f_ BK101.out) | ((with_reducible refine gC_ (f := 21) rfl ?_); refine GL_ (some 23) rfl rfl Try.func21 #[.agg #[.slice A0_0 l0_0.length c0_0], .int .i64 x9_1, .int .i64 a1] rfl (h := ?_); (with_reducible refine (z21.calls k1 _ _ l0_0 x9_1 a1 t103 _ ?side1 ?side2 A7.out).mono ?_); (case side1 => exact KC_ (Kd.C_below HR0_0.out HB.out)); (case side2 => exact HC0_0.out); rintro e w13 ⟨v104, rfl, ho0, hb⟩; refine ⟨_, rfl, ?_⟩; have HO105 := Zz.mk (Kd.N_lower (Kd.N_mono (ok' := fun k_ => some k_ ≠ (u6 : Value).ownBlock ∧ k_ ≠ gb101) ho0 (fun k_ hk_ => ⟨(Kd.fresh' (Kd.R_lt (KR_ HO_6.out)) k_ hk_), (Kd.freshB (g := gb101) (o := .cells #[.slice A0_0 l0_0.length c0_0] 29 (0, 0)) (KB_ BK101.out) k_ hk_)⟩)) (bS_ (B1_ HB.out GE101.out))); replace HO_6 := Zz.mk (Kd.R_below (KR_ HO_6.out) hb); replace BK101 := Zz.mk (kb_ BK101.out hb); replace HB := Zz.mk (bT_ (B1_ HB.out GE101.out) hb); (try clear hb); (try clear ho0); obtain ⟨Ao14, co14, eo14⟩ := Kd.N_slice HO105.out; subst eo14) | ((with_reducible refine gC_ (f := 20) rfl ?_); refine GL_ (some 24) rfl rfl Try.func20 #[.slice Ao14 t103.length co14] rfl (h := ?_); (with_reducible refine (z20.calls _ _ t103 t106 _ ?side1 ?side2 A8.out).mono ?_); (case side1 => exact KC_ (Kd.N_reads' HO105.out).2.2); (case side2 => exact (Kd.N_reads' HO105.out).2.1); rintro e w' ⟨rfl, ⟨nd, rfl⟩⟩; refine ⟨_, rfl, ?_⟩) | ((with_reducible refine qAv (b := .append) (xs := #[.tmp 19, .tmp 25]) rfl ?_); at_builtin; refine Kd.R_append (Kd.int .i64) (w0 := w) w.heap.size rfl (.tmp 19) (.tmp 25) 26 2 (.int .i64 0) 8 rfl Try.underlying26 qB9 rfl (by decide) (by omega) u6 x6_1 t106 [.int .i64 t106] (fun _ => True) (fun _ => False) rfl rfl ?aP (fun _ hk => hk.elim) ?aF ?aO ?aB ?aS ?aL ?_; (case aP => exact rfl); (case aB => exact (B1_ HB.out GE101.out)); (case aF => exact (fun _ _ => trivial)); (case aO => exact (KR_ HO_6.out)); (case aS => exact (bS_ (B1_ HB.out GE101.out))); (case aL => have := LMc9.out; omega); intro v108 w15 ho hb hg hat; rw [← Ny107.out] at ho; replace BK101 := Zz.mk (qAy (g := gb101) (o := .cells #[.slice A0_0 l0_0.length c0_0] 29 (0, 0)) (KB_ BK101.out) hg (Kd.R_ne HO_6.out BK101.out (by decide))); replace HO105 := Zz.mk (Kd.N_afterv (ok := (fun k_ => k_ ≠ gb101)) (by refine NW_ ?_; exact Kd.N_mono HO105.out (fun _ hk => ⟨hk.2, hk.1⟩)) hg hat); replace HB := Zz.mk (hb); have HO109 := Zz.mk (ho); clear HO_6; clear ho hb hg hat))
     go_roundg k1
     case measure => exact Q1_ HK1
     case rel => exact ⟨(y107), (wrap64 (x9_1 + 1)), E_, H', ⟨Q1_ HK1⟩, ⟨KR_ HO109.out⟩, ⟨KB_ BK101.out⟩, ⟨B1_ HB.out GE101.out⟩⟩
    rw [if_neg c6] at H
    have c6b0 : (t102 == 0) = false := beq_eq_false_iff_ne.mpr c6
    have c6b1 : (t102 != 0) = true := bne_iff_ne.mpr c6
    simp only [Option.some.injEq, Prod.mk.injEq] at H
    obtain ⟨rfl, rfl⟩ := H
    obtain ⟨hcz16_0, hfz16_0⟩ := Z1f_ BK101.out
    go_wp2_with (first | ((with_reducible refine gC_ (f := 19) rfl ?_); refine GL_ (some 15) rfl rfl Try.func19 #[.agg #[.slice A0_0 l0_0.length c0_0], .int .i64 x9_1, .int .i64 a1] rfl (h := ?_); (with_reducible refine (z19.calls k1 _ _ l0_0 x9_1 a1 t102 _ ?side1 ?side2 A5.out).mono ?_); (case side1 => exact KC_ (Kd.C_below HR0_0.out HB.out)); (case side2 => exact HC0_0.out); rintro e w17 ⟨rfl, hb⟩; refine ⟨_, rfl, ?_⟩; replace HO_6 := Zz.mk (Kd.R_below (KR_ HO_6.out) hb); replace BK101 := Zz.mk (kb_ BK101.out hb); replace HB := Zz.mk (bT_ (B1_ HB.out GE101.out) hb); (try clear hb)))
    go_ret2
    exact ⟨_, F_, by first | exact Kd.R_nil _ _ _ _ _ | exact Kd.N_nil _ _ _ _ _ | exact Kd.V_nil _ _ _ _ _ | exact Kd.Q_nil _ _ _ _ _ | exact Kd.S_nil _ _ _ _ _, B1_ HB.out GE101.out⟩
   rw [if_neg c4] at H
   have c4b0 : decide (x9_1 < 4) = false := decide_eq_false c4
   clear c4
   simp only [Option.some.injEq, Prod.mk.injEq] at H
   obtain ⟨rfl, rfl⟩ := H
   go_wp2
   go_ret2
   exact ⟨_, F_, KR_ HO_6.out, B1_ HB.out GE101.out⟩
end Go.Proofs.Ytpgjfppbbbnclaa.B
