/- Printed proofs of functions of the program and of the reference, by a program of this work over the kit's printer. -/
import Derived.Test.YtabfflgoaalapaaKENHNJJ0
import Derived.Test.YtabfflgoaalapaaKMJGMHH0
import Derived.Test.YtabfflgoaalapaaKW0
set_option maxHeartbeats 8000000
set_option maxRecDepth 100000
namespace Go.Proofs.Ytabfflgoaalapaa.B
open Go.RowKit Go.Proofs.YtabfflgoaalapaaW.PrintWords Go.Proofs.YtabfflgoaalapaaW.PrintLast Go.Proofs.YtabfflgoaalapaaW.PrintMore
attribute [local go_sem] max2_int min2_int max_two min_two max_three min_three max_four min_four
set_option linter.unusedVariables false
set_option linter.unusedSimpArgs false
def z56.l0 : Nat → List Int → Int → Option (Int)
 | 0, _, _ => none
 | k + 1, x0, x3 => if x3 < (x0.length : Int) then (if 0 ≤ x3 then (if (rd x0 x3) = 0 then (z56.l0 k x0 (wrap64 (x3 + 1))) else (some x3)) else (none)) else (some x3)
def z56.f (k : Nat) (l0 : List Int) : Option (Int) := z56.l0 k l0 0
theorem z56.calls (k : Nat) (A0 : Option Addr) (c0 : Nat) (l0 : List Int) (r : Int) (w : World) (hr0 : Kd.C (Kd.int .i64) w A0 l0.length l0) (hc0 : l0.length ≤ c0) (h : z56.f k l0 = some r) :
  Calls Try.prog 56 #[.slice A0 l0.length c0] w fun e w' => e = .returned (.int .i64 r) ∧ Dz w w' := by
 have HR0 := Zz.mk hr0
 have HC0 := Zz.mk hc0
 clear hr0 hc0
 have H : (z56.l0 k l0 0) = some r := h
 clear h
 have H' := Zz.mk H
 clear H
 go_enter Try.func56, Try.ntmps56
 go_wp2
 go_loopg [3] k (fun kq v3 w' => ∃ (x3_1 : Int), v3 = .int .i64 x3_1 ∧ Zz (z56.l0 kq l0 x3_1 = some r) ∧ Zz (kq ≤ k) ∧ Dz w w')
 case atStart => exact ⟨(0), E_, H', ⟨Nat.le_refl _⟩, by repeat (first | exact Dz.refl _ | apply Dz.step)⟩
 case round =>
  clear H'
  obtain ⟨x3_1, rfl, HA, HK1, ⟨m1, rfl⟩⟩ := hrel
  cases gk with
  | zero => exact absurd HA.out (by simp [z56.l0])
  | succ k1 =>
   have H := HA.out
   clear HA
   simp only [z56.l0] at H
   by_cases c2 : x3_1 < (l0.length : Int)
   ·rw [if_pos c2] at H
    have c2b0 : decide (x3_1 < (l0.length : Int)) = true := decide_eq_true c2
    clear c2
    have c3b0 := O3_ H
    replace H := O2_ H
    by_cases c4 : (rd l0 x3_1) = 0
    ·rw [if_pos c4] at H
     have c4b0 : ((rd l0 x3_1) == 0) = true := beq_iff_eq.mpr c4
     have c4b1 : ((rd l0 x3_1) != 0) = false := bne_eq_false_iff_eq.mpr c4
     clear c4
     have H' := Zz.mk H
     clear H
     have p101 : 0 ≤ (x3_1 : Int) := D_
     have q101 : x3_1 < (l0.length : Int) := D_
     obtain ⟨ad101, e101, hx101_0⟩ := Kd.at_int HR0.out x3_1 p101 q101
     cases e101
     replace p101 := eq_true p101
     replace q101 := eq_true q101
     go_wp2
     go_roundg k1
     case measure => exact Q1_ HK1
     case rel => exact ⟨(wrap64 (x3_1 + 1)), E_, H', ⟨Q1_ HK1⟩, by repeat (first | exact Dz.refl _ | apply Dz.step)⟩
    rw [if_neg c4] at H
    have c4b0 : ((rd l0 x3_1) == 0) = false := beq_eq_false_iff_ne.mpr c4
    have c4b1 : ((rd l0 x3_1) != 0) = true := bne_iff_ne.mpr c4
    obtain rfl := OI_ H
    have p101 : 0 ≤ (x3_1 : Int) := D_
    have q101 : x3_1 < (l0.length : Int) := D_
    obtain ⟨ad101, e101, hx101_0⟩ := Kd.at_int HR0.out x3_1 p101 q101
    cases e101
    replace p101 := eq_true p101
    replace q101 := eq_true q101
    go_wp2
    go_ret
    exact ⟨by first | rfl | (simp; done) | (simp [*]; done), by repeat (first | exact Dz.refl _ | apply Dz.step)⟩
   rw [if_neg c2] at H
   have c2b0 : decide (x3_1 < (l0.length : Int)) = false := decide_eq_false c2
   clear c2
   obtain rfl := OI_ H
   go_wp2
   go_ret
   exact ⟨by first | rfl | (simp; done) | (simp [*]; done), by repeat (first | exact Dz.refl _ | apply Dz.step)⟩
def z55.f (k : Nat) (a0_0 : Int) (a0_1 : Int) (l0_2 : List (List Int)) (l1 : List Int) : Option (Bool) := (some (([] : List (List Int)) : List (List Int))).bind fun y101 => (if y101.length + l0_2.length < 5864062014805 then ((some (y101 ++ l0_2 : List (List Int))).bind fun y104 => (if y104.length < 5864062014805 then ((z104.f k a0_0 a0_1 (y104 ++ [l1])).bind fun t110 => (some ((t110.length : Int) == (l0_2.length : Int)))) else (none))) else (none))
def z55.T2 : Bool × List (List Nat × List Nat) := (true, [([], []), ([0], [0]), ([1], [1]), ([2], [2]), ([], []), ([4], [4]), ([5], [5]), ([6], [6]), ([], []), ([3, 7, 8], [3, 7, 8]), ([9], [9]), ([], []), ([11], [11]), ([12], [12]), ([13], [13]), ([14], [14]), ([10, 15], [10, 15]), ([16, 9, 0, 1, 2, 3, 4, 5, 6, 7, 8, 9, 10, 11, 12, 13, 14, 15, 16], [16])])
def z55.B2 : List Nat := [0, 1, 3, 7, 0, 16, 48, 112, 0, 511, 1023, 0, 2048, 6144, 14336, 30720, 65535, 131071]
theorem z55.tab2 : rtab .any (opsOf Try.f55 2) = z55.T2 := by kernel_rfl
theorem z55.bits2 : waitsOk z55.T2.2 z55.B2 = true := by kernel_rfl
theorem z55.calls (k : Nat) (gp0 : Nat) (a0_0 : Int) (a0_1 : Int) (P0_2_ : Nat → Prop) (A0_2 : Option Addr) (c0_2 : Nat) (l0_2 : List (List Int)) (P1_ : Nat → Prop) (A1 : Option Addr) (c1 : Nat) (l1 : List Int) (r : Bool) (w : World) (hbp0 : w.heap[gp0]? = some (.cells #[.int .i64 a0_0, .int .i64 a0_1, .slice A0_2 l0_2.length c0_2] 29 (0, 0))) (hs0_2 : Kd.V (Kd.slice 2 (Kd.int .i64)) 25 w w.heap.size (fun k_ => P0_2_ k_) (.slice A0_2 l0_2.length c0_2) l0_2) (hs1 : Kd.V (Kd.int .i64) 2 w w.heap.size (fun k_ => P1_ k_) (.slice A1 l1.length c1) l1) (h : z55.f k a0_0 a0_1 l0_2 l1 = some r) :
  Calls Try.prog 55 #[.pointer (some ⟨gp0, 0, none⟩), .slice A1 l1.length c1] w fun e w' => e = .returned (.bool r) ∧ Below w.heap.size w w' := by
 have HO0_2 := Zz.mk (show Kd.V (Kd.slice 2 (Kd.int .i64)) 25 w w.heap.size (fun k_ => ((P0_2_ k_ ∨ P1_ k_) ∨ w.heap.size ≤ k_)) (.slice A0_2 l0_2.length c0_2) l0_2 from Kd.V_mono hs0_2 (fun k_ hk => .inl (.inl hk)))
 have HO1 := Zz.mk (show Kd.V (Kd.int .i64) 2 w w.heap.size (fun k_ => ((P0_2_ k_ ∨ P1_ k_) ∨ w.heap.size ≤ k_)) (.slice A1 l1.length c1) l1 from Kd.V_mono hs1 (fun k_ hk => .inl (.inr hk)))
 have BK50 := Zz.mk hbp0
 clear hbp0
 have HB := Zz.mk (Below.refl w.heap.size w)
 have H : ((some (([] : List (List Int)) : List (List Int))).bind fun y101 => (if y101.length + l0_2.length < 5864062014805 then ((some (y101 ++ l0_2 : List (List Int))).bind fun y104 => (if y104.length < 5864062014805 then ((z104.f k a0_0 a0_1 (y104 ++ [l1])).bind fun t110 => (some ((t110.length : Int) == (l0_2.length : Int)))) else (none))) else (none))) = some r := h
 clear h
 obtain ⟨y101, hy101⟩ : ∃ y_ : List (List Int), y_ = (([] : List (List Int))) := ⟨_, rfl⟩
 replace H : (if y101.length + l0_2.length < 5864062014805 then ((some (y101 ++ l0_2 : List (List Int))).bind fun y104 => (if y104.length < 5864062014805 then ((z104.f k a0_0 a0_1 (y104 ++ [l1])).bind fun t110 => (some ((t110.length : Int) == (l0_2.length : Int)))) else (none))) else (none)) = some r := Y_ hy101 H
 have Ny101 := Zz.mk hy101
 clear hy101
 have c3 := O1_ H
 replace H := O2_ H
 have LMc3 := Zz.mk c3
 clear c3
 obtain ⟨y104, hy104⟩ : ∃ y_ : List (List Int), y_ = (y101 ++ l0_2) := ⟨_, rfl⟩
 replace H : (if y104.length < 5864062014805 then ((z104.f k a0_0 a0_1 (y104 ++ [l1])).bind fun t110 => (some ((t110.length : Int) == (l0_2.length : Int)))) else (none)) = some r := Y_ hy104 H
 have Ny104 := Zz.mk hy104
 clear hy104
 have c4 := O1_ H
 replace H := O2_ H
 have LMc4 := Zz.mk c4
 clear c4
 obtain ⟨y107, hy107⟩ : ∃ y_ : List (List Int), y_ = (y104 ++ [l1]) := ⟨_, rfl⟩
 replace H : ((z104.f k a0_0 a0_1 y107).bind fun t110 => (some ((t110.length : Int) == (l0_2.length : Int)))) = some r := Y_ hy107 H
 have Ny107 := Zz.mk hy107
 clear hy107
 replace H := OZ_ H
 obtain ⟨t110, A5, H⟩ := H
 obtain rfl := OI_ H
 go_enter Try.func55, Try.ntmps55
 try go_wp2_with (first | ((with_reducible refine gate_dst (N := 6) rfl ?_); refine Kd.N_lit (Kd.slice 2 (Kd.int .i64)) _ 25 ?hg (N' := 6) ?hd (xs := ([] : List (List Int))) (inner := []) (ok := (fun k_ => ((P0_2_ k_ ∨ P1_ k_) ∨ w.heap.size ≤ k_))) (okp := (fun k_ => ((P0_2_ k_ ∨ P1_ k_) ∨ w.heap.size ≤ k_))) ?hr ?hp (fun _ hk => hk) ((show ∀ k_, w.heap.size ≤ k_ → (fun k_ => ((P0_2_ k_ ∨ P1_ k_) ∨ w.heap.size ≤ k_)) k_ from fun k_ hk => (.inr (Nat.le_trans (bS_ (B_ HB.out)) hk))) _ (Nat.le_refl _)) (Below.refl _ _) (Nat.le_refl _) (by simp) ?_; (case hd => rfl); (case hg => rfl); (case hr => first | (go_simp; done) | (go_simp; rfl)); (case hp => exact (Reps.none _ _)); intro v102 w6 ho7 hb hg_ hnew_; clear hg_ hnew_; (first | rw [← Ny101.out] at ho7 | (simp only [Int.reduceToNat] at ho7; rw [← Ny101.out] at ho7)); replace HO0_2 := Zz.mk (Kd.V_elder' (by refine VW_ ?_; exact HO0_2.out) (by first | exact Kd.N_base ho7 | exact Kd.S_base ho7) hb); replace HO1 := Zz.mk (Kd.V_elder' (by refine VW_ ?_; exact HO1.out) (by first | exact Kd.N_base ho7 | exact Kd.S_base ho7) hb); have HO103 := Zz.mk (Kd.N_lower ho7 (bS_ (B_ HB.out))); replace BK50 := Zz.mk (bB_ (g := gp0) (o := .cells #[.int .i64 a0_0, .int .i64 a0_1, .slice A0_2 l0_2.length c0_2] 29 (0, 0)) (KB_ BK50.out) hb); replace HB := Zz.mk (bT_ (B_ HB.out) hb); clear hb ho7; obtain ⟨hcz8_0, hcz8_1, hcz8_2, hfz8_0, hfz8_1, hfz8_2⟩ := Z3f_ BK50.out) | ((with_reducible refine gate_builtin (b := .append) (xs := #[.tmp 6, .tmp 10]) rfl ?_); at_builtin; refine Kd.N_append_rows (Kd.slice 2 (Kd.int .i64)) (w0 := w) w.heap.size rfl (.tmp 6) (.tmp 10) 22 25 (.slice none 0 0) 24 rfl Try.underlying22 info25 rfl (by decide) (by omega) v102 y101 l0_2 _ _ _ (fun k_ => ((P0_2_ k_ ∨ P1_ k_) ∨ w.heap.size ≤ k_)) (fun k_ => ((fun k_ => ((P0_2_ k_ ∨ P1_ k_) ∨ w.heap.size ≤ k_))) k_ ∧ some k_ ≠ (v102 : Value).ownBlock) rfl rfl ?aO ?aR (fun _ hk => hk) ?aF ?aB ?aS ?aL ?_; (case aR => exact (by skip; exact Kd.V_F (Kd.V_mono (ok' := (fun k_ => ((fun k_ => ((P0_2_ k_ ∨ P1_ k_) ∨ w.heap.size ≤ k_))) k_ ∧ some k_ ≠ (v102 : Value).ownBlock)) (HO0_2.out) (fun k_ hk => ⟨hk.1, hk.2⟩)))); (case aB => exact (B_ HB.out)); (case aF => exact (fun k_ hk => (.inr (Nat.le_trans (bS_ (B_ HB.out)) hk)))); (case aO => exact (KN_ HO103.out)); (case aS => exact (bS_ (B_ HB.out))); (case aL => have := LMc3.out; omega); intro v105 w9 ho hb hg hat; rw [← Ny104.out] at ho; replace BK50 := Zz.mk (blk_grown (g := gp0) (o := .cells #[.int .i64 a0_0, .int .i64 a0_1, .slice A0_2 l0_2.length c0_2] 29 (0, 0)) (KB_ BK50.out) hg (Kd.N_ne HO103.out BK50.out (by decide))); replace HO0_2 := Zz.mk (Kd.V_afterv (ok := (fun k_ => ((P0_2_ k_ ∨ P1_ k_) ∨ w.heap.size ≤ k_))) (by refine VW_ ?_; exact HO0_2.out) hg hat); replace HO1 := Zz.mk (Kd.V_afterv (ok := (fun k_ => ((P0_2_ k_ ∨ P1_ k_) ∨ w.heap.size ≤ k_))) (by refine VW_ ?_; exact HO1.out) hg hat); replace HB := Zz.mk (hb); have HO106 := Zz.mk (ho); clear HO103; clear ho hb hg hat) | ((with_reducible refine gate_builtin (b := .append) (xs := #[.tmp 11, .tmp 13]) rfl ?_); at_builtin; refine Kd.N_append (Kd.slice 2 (Kd.int .i64)) (w0 := w) w.heap.size rfl (.tmp 11) (.tmp 13) 22 25 (.slice none 0 0) 24 rfl Try.underlying22 info25 rfl (by decide) (by omega) v105 y104 l1 [.slice A1 l1.length c1] (fun k_ => ((P0_2_ k_ ∨ P1_ k_) ∨ w.heap.size ≤ k_)) (fun k_ => ((fun k_ => ((P0_2_ k_ ∨ P1_ k_) ∨ w.heap.size ≤ k_))) k_ ∧ some k_ ≠ (v105 : Value).ownBlock) rfl rfl ?aP (fun _ hk => hk) ?aF ?aO ?aB ?aS ?aL ?_; (case aP => exact (Kd.FK_slice_mk (Kd.V_reads' (Kd.V_mono (ok' := (fun k_ => ((fun k_ => ((P0_2_ k_ ∨ P1_ k_) ∨ w.heap.size ≤ k_))) k_ ∧ some k_ ≠ (v105 : Value).ownBlock)) (HO1.out) (fun k_ hk => ⟨hk.1, hk.2⟩))).2.1 (Kd.V_F (Kd.V_mono (ok' := (fun k_ => ((fun k_ => ((P0_2_ k_ ∨ P1_ k_) ∨ w.heap.size ≤ k_))) k_ ∧ some k_ ≠ (v105 : Value).ownBlock)) (HO1.out) (fun k_ hk => ⟨hk.1, hk.2⟩))))); (case aB => exact (B_ HB.out)); (case aF => exact (fun k_ hk => (.inr (Nat.le_trans (bS_ (B_ HB.out)) hk)))); (case aO => exact (KN_ HO106.out)); (case aS => exact (bS_ (B_ HB.out))); (case aL => have := LMc4.out; omega); intro v108 w10 ho hb hg hat; rw [← Ny107.out] at ho; replace BK50 := Zz.mk (blk_grown (g := gp0) (o := .cells #[.int .i64 a0_0, .int .i64 a0_1, .slice A0_2 l0_2.length c0_2] 29 (0, 0)) (KB_ BK50.out) hg (Kd.N_ne HO106.out BK50.out (by decide))); replace HO0_2 := Zz.mk (Kd.V_afterv (ok := (fun k_ => ((P0_2_ k_ ∨ P1_ k_) ∨ w.heap.size ≤ k_))) (by refine VW_ ?_; exact HO0_2.out) hg hat); replace HO1 := Zz.mk (Kd.V_afterv (ok := (fun k_ => ((P0_2_ k_ ∨ P1_ k_) ∨ w.heap.size ≤ k_))) (by refine VW_ ?_; exact HO1.out) hg hat); replace HB := Zz.mk (hb); have HO109 := Zz.mk (ho); clear HO106; clear ho hb hg hat))
 replace HO0_2 := Zz.mk (Kd.V_drew HO0_2.out)
 replace HO1 := Zz.mk (Kd.V_drew HO1.out)
 replace HO109 := Zz.mk (Kd.N_drew HO109.out)
 replace BK50 := Zz.mk (bD_ BK50.out)
 replace HB := Zz.mk (below_drew1 HB.out)
 obtain ⟨Ao12, co12, eo12⟩ := Kd.N_slice HO109.out
 (first | subst eo12 | (injection eo12 with f1_ f2_ f3_; have f4_ := f1_.symm; have f5_ := f3_.symm; clear f1_ f2_ f3_; subst f4_; subst f5_))
 refine start_ (n := 18) (S := fun w' => w'.cell? ⟨gp0, 0, none⟩ = some (.int .i64 a0_0) ∧ w'.cell? ⟨gp0, 1, none⟩ = some (.int .i64 a0_1) ∧ w'.cell? ⟨gp0, 2, none⟩ = some (.slice A0_2 l0_2.length c0_2)) (ds := []) (tb_ 18 0) (by kernel_rfl) rfl rfl ⟨(bC_ BK50.out 0).trans rfl, (bC_ BK50.out 1).trans rfl, (bC_ BK50.out 2).trans rfl⟩ (fun hHeld => ?_); refine with_tabW z55.tab2 z55.bits2 (fun HT_ HW_ => ?_)
 generalize w10.drew = w11 at HO0_2 HO1 HO109 BK50 HB hHeld ⊢
 refine PX_ 0 15 (tb_ 18 1) HT_ rfl rfl ?_
 refine PX_ 1 16 (tb_ 18 3) HT_ rfl rfl ?_
 refine PX_ 2 17 (tb_ 18 7) HT_ rfl rfl ?_
 refine PX_ 4 19 (tb_ 18 23) HT_ rfl rfl ?_
 refine PX_ 5 20 (tb_ 18 55) HT_ rfl rfl ?_
 refine PX_ 6 21 (tb_ 18 119) HT_ rfl rfl ?_
 refine PX_ 8 23 (tb_ 18 375) HT_ rfl rfl ?_
 refine PX_ 11 26 (tb_ 18 2423) HT_ rfl rfl ?_
 refine PX_ 12 27 (tb_ 18 6519) HT_ rfl rfl ?_
 refine PX_ 13 28 (tb_ 18 14711) HT_ rfl rfl ?_
 refine TV_ (i := 3) (N := some 18) (tb_ 18 14719) HT_ HW_ rfl rfl hHeld (by rintro w' ⟨s0, s1, s2⟩; go_simp; with_reducible rfl) (h := ?_)
 refine TV_ (i := 7) (N := some 22) (tb_ 18 14847) HT_ HW_ rfl rfl hHeld (by rintro w' ⟨s0, s1, s2⟩; go_simp; with_reducible rfl) (h := ?_)
 refine TV_ (i := 14) (N := some 29) (tb_ 18 31231) HT_ HW_ rfl rfl hHeld (by rintro w' ⟨s0, s1, s2⟩; go_simp; with_reducible rfl) (h := ?_)
 refine PX_ 15 30 (tb_ 18 63999) HT_ rfl rfl ?_
 refine one_ (i := 9) (N := some 24) (tb_ 18 64511) rfl rfl (one_of HT_.out (by kernel_rfl)) (by decide) (fun K hK => ?_)
 refine GO_ Try.func104 #[.int .i64 a0_0, .int .i64 a0_1, .slice Ao12 y107.length co12] (h := ?_)
 with_reducible refine (z104.calls k a0_0 a0_1 _ _ y107 t110 _ ?side1 ?side2 A5.out).mono ?_
 (case side1 => exact KC_ (Kd.N_reads' HO109.out).2.2)
 (case side2 => exact (Kd.N_reads' HO109.out).2.1)
 rintro e w13 ⟨v111, rfl, ho0, hb⟩
 refine ⟨_, rfl, ?_⟩
 have HO112 := Zz.mk (Kd.N_lower (Kd.N_mono (ok' := fun k_ => ((P0_2_ k_ ∨ P1_ k_) ∨ w.heap.size ≤ k_) ∧ some k_ ≠ (.slice Ao12 y107.length co12 : Value).ownBlock) (Kd.S_N (Kd.S_bound ho0)) (fun k_ hk_ => ⟨(.inr (Nat.le_trans (bS_ (B_ HB.out)) hk_.2.1)), (Kd.fresh' (Kd.N_lt (KN_ HO109.out)) k_ hk_.2.1)⟩)) (bS_ (B_ HB.out)))
 replace HO0_2 := Zz.mk (Kd.V_elder' (by refine VW_ ?_; exact HO0_2.out) (by first | exact Kd.N_base ho0 | exact Kd.S_base ho0) hb)
 replace HO1 := Zz.mk (Kd.V_elder' (by refine VW_ ?_; exact HO1.out) (by first | exact Kd.N_base ho0 | exact Kd.S_base ho0) hb)
 replace HO109 := Zz.mk (Kd.N_elder' (KN_ HO109.out) (by first | exact Kd.N_base ho0 | exact Kd.S_base ho0) hb)
 replace BK50 := Zz.mk (bB_ (g := gp0) (o := .cells #[.int .i64 a0_0, .int .i64 a0_1, .slice A0_2 l0_2.length c0_2] 29 (0, 0)) (KB_ BK50.out) hb)
 replace HB := Zz.mk (bT_ (B_ HB.out) hb)
 (try clear hb);(try clear hk);(try clear ho0)
 obtain ⟨Ao14, co14, eo14⟩ := Kd.N_slice HO112.out
 (first | subst eo14 | (injection eo14 with f1_ f2_ f3_; have f4_ := f1_.symm; have f5_ := f3_.symm; clear f1_ f2_ f3_; subst f4_; subst f5_))
 refine hK.out _ _ ⟨(bC_ BK50.out 0).trans rfl, (bC_ BK50.out 1).trans rfl, (bC_ BK50.out 2).trans rfl⟩ (fun hHeld => ?_)
 clear hK K
 refine NM_ (N := (some 24)) (h := ?_)
 refine PX_ 10 25 (tb_ 18 65535) HT_ rfl rfl ?_
 refine PX_ 16 31 (tb_ 18 131071) HT_ rfl rfl ?_
 refine PX_ 17 4 (tb_ 18 262143) HT_ rfl rfl ?_
 refine done_ (done_of HT_.out (by kernel_rfl)) ?_
 try go_wp2
 go_ret
 exact ⟨F_, B_ HB.out⟩
end Go.Proofs.Ytabfflgoaalapaa.B
