/- Printed proofs of functions of the program and of the reference, by a program of this work over the kit's printer. -/
import Derived.Test.YtkgajpngeglkmaaKLBBOAD0
import Derived.Test.YtkgajpngeglkmaaKW0
namespace Go.Proofs.Ytkgajpngeglkmaa.B
open Go.RowKit Go.Proofs.YtkgajpngeglkmaaW.PrintWords Go.Proofs.YtkgajpngeglkmaaW.PrintLast Go.Proofs.YtkgajpngeglkmaaW.PrintMore
attribute [local go_sem] qAh qAf qAn qAm qAc qAb qAg qAe
set_option linter.unusedVariables false
set_option linter.unusedSimpArgs false
def z62.l0 : Nat → List Int → List Int → List Int → List Int → Int → Int → Int → Int → List (List Int) → Option (List Int × Bool)
 | 0, _, _, _, _, _, _, _, _, _ => none
 | k + 1, x1, x6, x7, x12, x13, x14, x102000, x102001, x102002 => if x14 < x13 then (if 0 ≤ x14 then (if x14 < (x12.length : Int) then (if 0 ≤ (rd x12 x14) then (if (rd x12 x14) < (x1.length : Int) then (if x6.length < 17592186044416 then (if x14 < (x102002.length : Int) then (if x102000 = 0 then (none) else ((z108.f k x7 (rI_ x102002 x14) (Int.tmod (wrap64 (x102000 - (rd x1 (rd x12 x14)))) x102000) x102000).bind fun t112 => (z62.l0 k x1 (x6 ++ [rd x1 (rd x12 x14)]) t112 x12 x13 (wrap64 (x14 + 1)) x102000 x102001 x102002))) else (none)) else (none)) else (none)) else (none)) else (none)) else (none)) else ((z109.f k x7).bind fun t115 => (some (x6, t115)))
def z62.f (k : Nat) (a0_0 : Int) (a0_1 : Int) (l0_2 : List (List Int)) (l1 : List Int) : Option (List Int × Bool) := (z55.f k a0_0 a0_1 l0_2).bind fun t102 => (z62.l0 k l1 ([] : List Int) l1 t102 (t102.length : Int) 0 a0_0 a0_1 l0_2)
def z62.T7 : Bool × List (List Nat × List Nat) := (true, [([], []), ([], []), ([1], [1]), ([], []), ([2, 3], [2, 3]), ([4], [4]), ([], []), ([6], [6]), ([], []), ([], []), ([8, 9], [8, 9]), ([10], [10]), ([7, 11], [7, 11]), ([], []), ([13], [13]), ([12, 14], [12, 14]), ([], []), ([16], [16]), ([0, 5, 15, 17], [0, 5, 15, 17]), ([18, 18, 0, 1, 2, 3, 4, 5, 6, 7, 8, 9, 10, 11, 12, 13, 14, 15, 16, 17, 18], [0, 18])])
def z62.B7 : List Nat := [0, 0, 2, 0, 14, 30, 0, 64, 0, 0, 768, 1792, 4032, 0, 8192, 32704, 0, 65536, 262143, 524287]
theorem z62.tab7 : rtab .any (qCk Try.f62 7) = z62.T7 := by kernel_rfl
theorem z62.bits7 : qA9 z62.T7.2 z62.B7 = true := by kernel_rfl
set_option maxHeartbeats 8000000 in
set_option maxRecDepth 100000 in
theorem z62.calls (k : Nat) (a0_0 : Int) (a0_1 : Int) (A0_2 : Option Addr) (c0_2 : Nat) (l0_2 : List (List Int)) (P1_ : Nat → Prop) (A1 : Option Addr) (c1 : Nat) (l1 : List Int) (r1 : List Int) (r2 : Bool) (w : World) (hr0_2 : Kd.C (Kd.slice 2 (Kd.int .i64)) w A0_2 l0_2.length l0_2) (hc0_2 : l0_2.length ≤ c0_2) (hs1 : Kd.V (Kd.int .i64) 2 w w.heap.size (fun k_ => P1_ k_) (.slice A1 l1.length c1) l1) (h : z62.f k a0_0 a0_1 l0_2 l1 = some (r1, r2)) :
  Calls Try.prog 62 #[.agg #[.int .i64 a0_0, .int .i64 a0_1, .slice A0_2 l0_2.length c0_2], .slice A1 l1.length c1] w fun e w' => ∃ v0_ : Value, e = .returned (.tuple #[v0_, .bool r2]) ∧ Kd.R (Kd.int .i64) 2 w' w.heap.size (fun k_ => (w.heap.size ≤ k_)) v0_ r1 ∧ Below w.heap.size w w' := by
 have hu28 := Try.underlying28
 have HR0_2 := Zz.mk hr0_2
 have HC0_2 := Zz.mk hc0_2
 clear hr0_2 hc0_2
 have HO1 := Zz.mk (show Kd.V (Kd.int .i64) 2 w w.heap.size (fun k_ => (P1_ k_ ∨ w.heap.size ≤ k_)) (.slice A1 l1.length c1) l1 from Kd.V_mono hs1 (fun k_ hk => .inl hk))
 have HB := Zz.mk (Below.refl w.heap.size w)
 have H : ((z55.f k a0_0 a0_1 l0_2).bind fun t102 => (z62.l0 k l1 ([] : List Int) l1 t102 (t102.length : Int) 0 a0_0 a0_1 l0_2)) = some (r1, r2) := h
 clear h
 replace H := OB_ H
 obtain ⟨t102, A30, H⟩ := H
 replace H : (z62.l0 k l1 ([] : List Int) l1 t102 (t102.length : Int) 0 a0_0 a0_1 l0_2) = some (r1, r2) := H
 have A3 := Zz.mk A30
 clear A30
 have H' := Zz.mk H
 clear H
 go_enter Try.func62, Try.ntmps62
 go_wp2_with (first | ((with_reducible refine qAi (N := 2) rfl ?_); refine bx_ 2 #[.int .i64 a0_0, .int .i64 a0_1, .slice A0_2 l0_2.length c0_2] 28 ?_; intro gb101 hg w4 hbox hb; have BK101 := Zz.mk (hbox); have GW101 := Zz.mk ((gw_ hg (B_ HB.out))); have GE101 := GW101; replace HO1 := Zz.mk (Kd.V_below (Kd.V_elderB (by refine VW_ ?_; exact HO1.out) gb101 (Nat.le_of_eq hg.symm)) hb); replace HB := Zz.mk (bT_ (B_ HB.out) hb); clear hb hbox hg; obtain ⟨hcz5_0, hcz5_1, hcz5_2, hfz5_0, hfz5_1, hfz5_2⟩ := Z3f_ BK101.out) | ((with_reducible refine gC_ (f := 55) rfl ?_); refine GL_ (some 12) rfl rfl Try.func55 #[.agg #[.int .i64 a0_0, .int .i64 a0_1, .slice A0_2 l0_2.length c0_2]] rfl (h := ?_); (with_reducible refine (z55.calls k a0_0 a0_1 _ _ l0_2 t102 _ ?side1 ?side2 A3.out).mono ?_); (case side1 => exact KC_ (Kd.C_below HR0_2.out HB.out)); (case side2 => exact HC0_2.out); rintro e w6 ⟨v103, rfl, ho0, hb⟩; refine ⟨_, rfl, ?_⟩; replace HO1 := Zz.mk (Kd.V_elder' (by refine VW_ ?_; exact HO1.out) (Kd.R_base ho0) hb); have HO104 := Zz.mk (Kd.R_lower (Kd.R_newM (M := fun k_ => (w.heap.size ≤ k_)) ho0 (bS_ (B1_ HB.out GE101.out)) (fun k_ h_ => h_)) (bS_ (B1_ HB.out GE101.out))); replace BK101 := Zz.mk (kb_ BK101.out hb); replace HB := Zz.mk (bT_ (B1_ HB.out GE101.out) hb); (try clear hb); (try clear ho0); obtain ⟨Ao7, co7, eo7⟩ := Kd.R_slice HO104.out; subst eo7))
 go_loopg [6, 7, 14] k (fun kq v6 v7 v14 w' => ∃ (x6_1 : List Int) (x7_1 : List Int) (x14_1 : Int), v14 = .int .i64 x14_1 ∧ Zz (z62.l0 kq l1 x6_1 x7_1 t102 (t102.length : Int) x14_1 a0_0 a0_1 l0_2 = some (r1, r2)) ∧ Zz (kq ≤ k) ∧ Zz (Kd.V (Kd.int .i64) 2 w' w.heap.size (fun k_ => (P1_ k_ ∨ w.heap.size ≤ k_) ∧ some k_ ≠ (v6 : Value).ownBlock ∧ some k_ ≠ ((.slice Ao7 t102.length co7) : Value).ownBlock ∧ k_ ≠ gb101) (.slice A1 l1.length c1) l1) ∧ Zz (Kd.R (Kd.int .i64) 2 w' w.heap.size (fun k_ => (w.heap.size ≤ k_)) v6 x6_1) ∧ Zz (Kd.V (Kd.int .i64) 2 w' w.heap.size (fun k_ => (P1_ k_ ∨ w.heap.size ≤ k_) ∧ some k_ ≠ (v6 : Value).ownBlock ∧ some k_ ≠ ((.slice Ao7 t102.length co7) : Value).ownBlock ∧ k_ ≠ gb101) v7 x7_1) ∧ Zz (Kd.R (Kd.int .i64) 3 w' w.heap.size (fun k_ => (w.heap.size ≤ k_)) (.slice Ao7 t102.length co7) t102) ∧ Zz (w'.heap[gb101]? = some (.cells #[.int .i64 a0_0, .int .i64 a0_1, (.slice A0_2 l0_2.length c0_2)] 28 (0, 0))) ∧ Zz (Below w.heap.size w w'))
 case atStart => exact ⟨(([] : List Int)), (l1), (0), E_, H', ⟨Nat.le_refl _⟩, ⟨by refine VW_ ?_; exact Kd.V_mono HO1.out (fun _ hk => ⟨hk.1.1, ⟨(by simp [Value.ownBlock]), ⟨hk.2, hk.1.2⟩⟩⟩)⟩, ⟨by first | exact Kd.R_nil _ _ _ _ _ | exact Kd.N_nil _ _ _ _ _ | exact Kd.V_nil _ _ _ _ _ | exact Kd.Q_nil _ _ _ _ _ | exact Kd.S_nil _ _ _ _ _⟩, ⟨by refine VW_ ?_; exact Kd.V_mono HO1.out (fun _ hk => ⟨hk.1.1, ⟨(by simp [Value.ownBlock]), ⟨hk.2, hk.1.2⟩⟩⟩)⟩, ⟨by refine RW_ ?_; exact Kd.R_mono HO104.out (fun _ hk => hk.1)⟩, ⟨KB_ BK101.out⟩, ⟨B1_ HB.out GE101.out⟩⟩
 case round =>
  clear H'
  (try clear c1);(try clear hcz5_0);(try clear hcz5_1);(try clear hcz5_2);(try clear hfz5_0);(try clear hfz5_1);(try clear hfz5_2)
  obtain ⟨x6_1, x7_1, x14_1, rfl, HA, HK1, HO_1, HO_6, HO_7, HO_12, BK101, HB⟩ := hrel
  cases gk with
  | zero => exact absurd HA.out (by simp [z62.l0])
  | succ k1 =>
   have H := HA.out
   clear HA
   simp only [z62.l0] at H
   by_cases c8 : x14_1 < (t102.length : Int)
   ·rw [if_pos c8] at H
    have c8b0 : decide (x14_1 < (t102.length : Int)) = true := decide_eq_true c8
    clear c8
    have c9b0 := O3_ H
    replace H := O2_ H
    have c10b0 := O3_ H
    replace H := O2_ H
    have c11b0 := O3_ H
    replace H := O2_ H
    have c12b0 := O3_ H
    replace H := O2_ H
    have c13 := O1_ H
    replace H := O2_ H
    have LMc13 := Zz.mk c13
    clear c13
    obtain ⟨y107, hy107⟩ : ∃ y_ : List Int, y_ = (x6_1 ++ [rd l1 (rd t102 x14_1)]) := ⟨_, rfl⟩
    replace H : (if x14_1 < (l0_2.length : Int) then (if a0_0 = 0 then (none) else ((z108.f k1 x7_1 (rI_ l0_2 x14_1) (Int.tmod (wrap64 (a0_0 - (rd l1 (rd t102 x14_1)))) a0_0) a0_0).bind fun t112 => (z62.l0 k1 l1 y107 t112 t102 (t102.length : Int) (wrap64 (x14_1 + 1)) a0_0 a0_1 l0_2))) else (none)) = some (r1, r2) := Y_ hy107 H
    have Ny107 := Zz.mk hy107
    clear hy107
    have c14b0 := O3_ H
    replace H := O2_ H
    by_cases c15 : a0_0 = 0
    ·rw [if_pos c15] at H
     exact X_ H
    rw [if_neg c15] at H
    have c15b0 : (a0_0 == 0) = false := beq_eq_false_iff_ne.mpr c15
    have c15b1 : (a0_0 != 0) = true := bne_iff_ne.mpr c15
    replace H := OB_ H
    obtain ⟨t112, A160, H⟩ := H
    replace H : (z62.l0 k1 l1 y107 t112 t102 (t102.length : Int) (wrap64 (x14_1 + 1)) a0_0 a0_1 l0_2) = some (r1, r2) := H
    have A16 := Zz.mk A160
    clear A160
    have H' := Zz.mk H
    clear H
    have p105 : 0 ≤ (x14_1 : Int) := D_
    have q105 : x14_1 < (t102.length : Int) := D_
    obtain ⟨ad105, e105, hx105_0⟩ := Kd.at_int (Kd.R_reads' HO_12.out).2.2 x14_1 p105 q105
    cases e105
    replace p105 := eq_true p105
    replace q105 := eq_true q105
    have p106 : 0 ≤ ((rd t102 x14_1) : Int) := D_
    have q106 : (rd t102 x14_1) < (l1.length : Int) := D_
    obtain ⟨ad106, e106, hx106_0⟩ := Kd.at_int (Kd.V_reads' HO_1.out).2.2 (rd t102 x14_1) p106 q106
    cases e106
    replace p106 := eq_true p106
    replace q106 := eq_true q106
    try go_wp2_with (first | ((with_reducible refine qA0 (b := .append) (xs := #[.tmp 19, .tmp 24]) rfl ?_); at_builtin; refine Kd.R_append (Kd.int .i64) (w0 := w) w.heap.size rfl (.tmp 19) (.tmp 24) 40 2 (.int .i64 0) 8 rfl Try.underlying40 qEl rfl (by decide) (by omega) u6 x6_1 (rd l1 (rd t102 x14_1)) [.int .i64 (rd l1 (rd t102 x14_1))] (fun k_ => (w.heap.size ≤ k_)) (fun _ => False) rfl rfl ?aP (fun _ hk => hk.elim) ?aF ?aO ?aB ?aS ?aL ?_; (case aP => exact rfl); (case aB => exact (B1_ HB.out GE101.out)); (case aF => exact (fun k_ hk => (Nat.le_trans (bS_ (B1_ HB.out GE101.out)) hk))); (case aO => exact (KR_ HO_6.out)); (case aS => exact (bS_ (B1_ HB.out GE101.out))); (case aL => have := LMc13.out; omega); intro v108 w17 ho hb hg hat; rw [← Ny107.out] at ho; replace HO_1 := Zz.mk (Kd.V_afterv (ok := (fun k_ => (P1_ k_ ∨ w.heap.size ≤ k_) ∧ some k_ ≠ (.slice (some ad105) t102.length co7 : Value).ownBlock ∧ k_ ≠ gb101)) (by refine VW_ ?_; exact Kd.V_mono HO_1.out (fun _ hk => ⟨⟨hk.1, ⟨hk.2.2.1, hk.2.2.2⟩⟩, hk.2.1⟩)) hg hat); replace HO_7 := Zz.mk (Kd.V_afterv (ok := (fun k_ => (P1_ k_ ∨ w.heap.size ≤ k_) ∧ some k_ ≠ (.slice (some ad105) t102.length co7 : Value).ownBlock ∧ k_ ≠ gb101)) (by refine VW_ ?_; exact Kd.V_mono HO_7.out (fun _ hk => ⟨⟨hk.1, ⟨hk.2.2.1, hk.2.2.2⟩⟩, hk.2.1⟩)) hg hat); replace HO_12 := Zz.mk (Kd.R_over' (KR_ HO_12.out) (Kd.R_typed (KR_ HO_6.out)) (by decide) hg); replace BK101 := Zz.mk (qAy (g := gb101) (o := .cells #[.int .i64 a0_0, .int .i64 a0_1, .slice A0_2 l0_2.length c0_2] 28 (0, 0)) (KB_ BK101.out) hg (Kd.R_ne HO_6.out BK101.out (by decide))); replace HB := Zz.mk (hb); have HO109 := Zz.mk (ho); clear HO_6; clear ho hb hg hat))
    replace HO_1 := Zz.mk (Kd.V_drew HO_1.out)
    replace HO_7 := Zz.mk (Kd.V_drew HO_7.out)
    replace HO_12 := Zz.mk (Kd.R_drew HO_12.out)
    replace HO109 := Zz.mk (Kd.R_drew HO109.out)
    replace BK101 := Zz.mk (bD_ BK101.out)
    replace HB := Zz.mk (qAj HB.out)
    have p110 : 0 ≤ (x14_1 : Int) := D_
    have q110 : x14_1 < (l0_2.length : Int) := D_
    obtain ⟨ad110, A110_0, c110_0, e110, hx110_0, hl110_0, hi110_0⟩ := qAk HR0_2.out x14_1 p110 q110
    have hw110_0 := hx110_0
    cases e110
    replace hx110_0 := (HB.out.cell (World.block_lt_of_cell? w _ hx110_0)).trans hx110_0
    have HR110_0 := Zz.mk hi110_0
    have HC110_0 := Zz.mk hl110_0
    clear hi110_0 hl110_0
    replace p110 := eq_true p110
    replace q110 := eq_true q110
    have p111 : 0 ≤ ((rd t102 x14_1) : Int) := D_
    have q111 : (rd t102 x14_1) < (l1.length : Int) := D_
    obtain ⟨ad111, e111, hx111_0⟩ := Kd.at_int (Kd.V_reads' HO_1.out).2.2 (rd t102 x14_1) p111 q111
    obtain rfl : ad106 = ad111 := (by injection e111)
    replace p111 := eq_true p111
    replace q111 := eq_true q111
    obtain ⟨Ao19, co19, eo19⟩ := Kd.V_slice HO_7.out
    (first | subst eo19 | obtain ⟨rfl, rfl⟩ := sl_ eo19)
    refine qBf (n := 20) (S := fun w' => w'.cell? ⟨gb101, 0, none⟩ = some (.int .i64 a0_0) ∧ w'.cell? ⟨gb101, 1, none⟩ = some (.int .i64 a0_1) ∧ w'.cell? ⟨gb101, 2, none⟩ = some (.slice (some ad110) l0_2.length c0_2) ∧ w'.cell? (ad110.add (x14_1).toNat) = some (.slice A110_0 (rI_ l0_2 x14_1).length c110_0) ∧ w'.cell? (ad106.add ((rd t102 x14_1)).toNat) = some (.int .i64 (rd l1 (rd t102 x14_1)))) (ds := []) (tb_ 20 0) (by kernel_rfl) rfl rfl ⟨(bC_ BK101.out 0).trans rfl, (bC_ BK101.out 1).trans rfl, (bC_ BK101.out 2).trans rfl, ((HB.out.cell (World.block_lt_of_cell? w _ hw110_0)).trans hw110_0), hx111_0⟩ (fun hHeld => ?_); refine qAv z62.tab7 z62.bits7 (fun HT_ HW_ => ?_)
    generalize w17.drew = w18 at HO_1 HO_7 HO_12 HO109 BK101 HB HR110_0 hx110_0 hx111_0 hHeld ⊢
    refine PX_ 0 26 (tb_ 20 1) HT_ rfl rfl ?_
    refine PX_ 1 27 (tb_ 20 3) HT_ rfl rfl ?_
    refine PX_ 3 29 (tb_ 20 11) HT_ rfl rfl ?_
    refine PX_ 6 32 (tb_ 20 75) HT_ rfl rfl ?_
    refine PX_ 8 34 (tb_ 20 331) HT_ rfl rfl ?_
    refine PX_ 9 35 (tb_ 20 843) HT_ rfl rfl ?_
    refine PX_ 10 36 (tb_ 20 1867) HT_ rfl rfl ?_
    refine PX_ 13 39 (tb_ 20 10059) HT_ rfl rfl ?_
    refine PX_ 16 42 (tb_ 20 75595) HT_ rfl rfl ?_
    refine TV_ (i := 2) (N := some 28) (tb_ 20 75599) HT_ HW_ rfl rfl hHeld (by rintro w' ⟨s0, s1, s2, s3, s4⟩; go_simp; with_reducible rfl) (h := ?_)
    refine PX_ 4 30 (tb_ 20 75615) HT_ rfl rfl ?_
    refine TV_ (i := 5) (N := some 31) (tb_ 20 75647) HT_ HW_ rfl rfl hHeld (by rintro w' ⟨s0, s1, s2, s3, s4⟩; go_simp; with_reducible rfl) (h := ?_)
    refine TV_ (i := 7) (N := some 33) (tb_ 20 75775) HT_ HW_ rfl rfl hHeld (by rintro w' ⟨s0, s1, s2, s3, s4⟩; go_simp; with_reducible rfl) (h := ?_)
    refine TV_ (i := 11) (N := some 37) (tb_ 20 77823) HT_ HW_ rfl rfl hHeld (by rintro w' ⟨s0, s1, s2, s3, s4⟩; go_simp; with_reducible rfl) (h := ?_)
    refine PX_ 12 38 (tb_ 20 81919) HT_ rfl rfl ?_
    refine TV_ (i := 14) (N := some 40) (tb_ 20 98303) HT_ HW_ rfl rfl hHeld (by rintro w' ⟨s0, s1, s2, s3, s4⟩; go_simp; with_reducible rfl) (h := ?_)
    refine PX_ 15 41 (tb_ 20 131071) HT_ rfl rfl ?_
    refine TV_ (i := 17) (N := some 43) (tb_ 20 262143) HT_ HW_ rfl rfl hHeld (by rintro w' ⟨s0, s1, s2, s3, s4⟩; go_simp; with_reducible rfl) (h := ?_)
    refine one_ (i := 18) (N := some 44) (tb_ 20 524287) rfl rfl (qAs HT_.out (by kernel_rfl)) (by decide) (fun K hK => ?_)
    refine GO_ Try.func108 #[.slice Ao19 x7_1.length co19, .slice A110_0 (rI_ l0_2 x14_1).length c110_0, .int .i64 (Int.tmod (wrap64 (a0_0 - (rd l1 (rd t102 x14_1)))) a0_0), .int .i64 a0_0] (h := ?_)
    with_reducible refine (z108.calls k1 _ _ x7_1 _ _ (rI_ l0_2 x14_1) (Int.tmod (wrap64 (a0_0 - (rd l1 (rd t102 x14_1)))) a0_0) a0_0 t112 _ ?side1 ?side2 ?side3 ?side4 A16.out).mono ?_
    (case side1 => exact KC_ (Kd.V_reads' HO_7.out).2.2)
    (case side2 => exact (Kd.V_reads' HO_7.out).2.1)
    (case side3 => exact KC_ (Kd.C_below HR110_0.out HB.out))
    (case side4 => exact HC110_0.out)
    rintro e w20 ⟨v113, rfl, ho0, hb⟩
    have HS4_ := (hb.cell (World.block_lt_of_cell? _ _ (hHeld.2.2.2.2))).trans (hHeld.2.2.2.2)
    refine ⟨_, rfl, ?_⟩
    have HO114 := Zz.mk (Kd.R_lower (Kd.R_new' (Kd.R_newM (M := fun k_ => (w.heap.size ≤ k_)) ho0 (bS_ (B1_ HB.out GE101.out)) (fun k_ h_ => h_)) (Kd.R_lt (KR_ HO109.out))) (bS_ (B1_ HB.out GE101.out)))
    replace HO_1 := Zz.mk (Kd.V_elder' (by refine VW_ ?_; exact HO_1.out) (Kd.R_base ho0) hb)
    replace HO_7 := Zz.mk (Kd.V_elder' (by refine VW_ ?_; exact HO_7.out) (Kd.R_base ho0) hb)
    replace HO_12 := Zz.mk (Kd.R_below (KR_ HO_12.out) hb)
    replace HO109 := Zz.mk (Kd.R_elder' (KR_ HO109.out) (Kd.R_base ho0) hb)
    replace BK101 := Zz.mk (kb_ BK101.out hb)
    replace HB := Zz.mk (bT_ (B1_ HB.out GE101.out) hb)
    (try clear hb);(try clear hk);(try clear ho0)
    refine hK.out _ _ ⟨(bC_ BK101.out 0).trans rfl, (bC_ BK101.out 1).trans rfl, (bC_ BK101.out 2).trans rfl, ((HB.out.cell (World.block_lt_of_cell? w _ hw110_0)).trans hw110_0), HS4_⟩ (fun hHeld => ?_)
    clear hK K
    refine NM_ (N := (some 44)) (h := ?_)
    refine PX_ 19 7 (tb_ 20 1048575) HT_ rfl rfl ?_
    refine qB0 (qA4 HT_.out (by kernel_rfl)) ?_
    try go_wp2
    go_roundg k1
    case measure => exact Q1_ HK1
    case rel => exact ⟨(y107), (t112), (wrap64 (x14_1 + 1)), E_, H', ⟨Q1_ HK1⟩, ⟨by refine VW_ ?_; exact Kd.V_mono HO_1.out (fun _ hk => ⟨hk.1.1.1, ⟨hk.1.2, ⟨hk.1.1.2.1, hk.1.1.2.2⟩⟩⟩)⟩, ⟨by refine RW_ ?_; exact Kd.R_mono HO109.out (fun _ hk => hk.1)⟩, ⟨Kd.V_mono (Kd.R_V (by refine RW_ ?_; exact Kd.R_mono (Kd.R_types (Kd.R_apart' HO114.out (Kd.R_typed HO_12.out) (by decide)) BK101.out (by decide)) (fun _ hk => (And.intro hk.1.1.1.1 (And.intro hk.1.1.2 (And.intro hk.1.2 hk.2)))))) (fun k_ hk => by first | exact ⟨(.inr (hk.1)), hk.2⟩ | exact (.inr (hk)))⟩, ⟨KR_ HO_12.out⟩, ⟨KB_ BK101.out⟩, ⟨B1_ HB.out GE101.out⟩⟩
   rw [if_neg c8] at H
   have c8b0 : decide (x14_1 < (t102.length : Int)) = false := decide_eq_false c8
   clear c8
   replace H := OB_ H
   obtain ⟨t115, A210, H⟩ := H
   replace H : (some (x6_1, t115)) = some (r1, r2) := H
   have A21 := Zz.mk A210
   clear A210
   simp only [Option.some.injEq, Prod.mk.injEq] at H
   obtain ⟨rfl, rfl⟩ := H
   obtain ⟨Ao22, co22, eo22⟩ := Kd.V_slice HO_7.out
   subst eo22
   go_wp2_with (first | ((with_reducible refine gC_ (f := 109) rfl ?_); refine GL_ (some 48) rfl rfl Try.func109 #[.slice Ao22 x7_1.length co22] rfl (h := ?_); (with_reducible refine (z109.calls k1 _ _ x7_1 t115 _ ?side1 ?side2 A21.out).mono ?_); (case side1 => exact KC_ (Kd.V_reads' HO_7.out).2.2); (case side2 => exact (Kd.V_reads' HO_7.out).2.1); rintro e w23 ⟨rfl, hb⟩; refine ⟨_, rfl, ?_⟩; replace HO_1 := Zz.mk (Kd.V_below (by refine VW_ ?_; exact HO_1.out) hb); replace HO_6 := Zz.mk (Kd.R_below (KR_ HO_6.out) hb); replace HO_7 := Zz.mk (Kd.V_below (by refine VW_ ?_; exact HO_7.out) hb); replace HO_12 := Zz.mk (Kd.R_below (KR_ HO_12.out) hb); replace BK101 := Zz.mk (kb_ BK101.out hb); replace HB := Zz.mk (bT_ (B1_ HB.out GE101.out) hb); (try clear hb)))
   go_ret2
   exact ⟨_, F_, KR_ HO_6.out, B1_ HB.out GE101.out⟩
end Go.Proofs.Ytkgajpngeglkmaa.B
