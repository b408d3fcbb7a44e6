/- Printed proofs of functions of the program and of the reference, by a program of this work over the kit's printer. -/
import Derived.Test.YtipkciildhghiaaKHGNPLP0
import Derived.Test.YtipkciildhghiaaKNMBNGE0
import Derived.Test.YtipkciildhghiaaKW0
set_option maxHeartbeats 8000000
set_option maxRecDepth 100000
/- More words of this work's own for the printed proofs. -/
namespace Go.Proofs.YtipkciildhghiaaW.PrintWords.Kd
open Go.RowKit
section
variable {α : Type} {d : Kd α} {e base n B g t : Nat} {ok : Nat → Prop} {W w1 : World} {u v : Value} {xs : List α}
theorem S_typesT (h : S d e W base ok v xs) {t : Nat} {v' : Value} (hb : ∀ k, v'.ownBlock = some k → ∃ cells, W.heap[k]? = some (.cells cells t (0, 0))) (hv : v'.ownBlock = some g) (ht : ∀ q, q ∈ e :: d.E → q ≠ t) : S d e W base (fun k => ok k ∧ k ≠ g) v xs := by
  obtain ⟨_, h'⟩ := hb g hv; exact S_types h h' ht
theorem R_typesT (h : d.R e W base ok v xs) {t : Nat} {v' : Value} (hb : ∀ k, v'.ownBlock = some k → ∃ cells, W.heap[k]? = some (.cells cells t (0, 0))) (hv : v'.ownBlock = some g) (ht : ∀ q, q ∈ e :: d.E → q ≠ t) : d.R e W base (fun k => ok k ∧ k ≠ g) v xs := by
  obtain ⟨_, h'⟩ := hb g hv; exact R_types h h' ht
end
end Go.Proofs.YtipkciildhghiaaW.PrintWords.Kd
namespace Go.Proofs.Ytipkciildhghiaa.B
open Go.RowKit Go.Proofs.YtipkciildhghiaaW.PrintWords Go.Proofs.YtipkciildhghiaaW.PrintLast Go.Proofs.YtipkciildhghiaaW.PrintMore
attribute [local go_sem] qAi qAg qAl qAk qAe qAd qAh qAf
set_option linter.unusedVariables false
set_option linter.unusedSimpArgs false
def z178.l0 : Nat → List Int → List Int → Int → Int → List Int → Int → Int → Option (List Int)
 | 0, _, _, _, _, _, _, _ => none
 | k + 1, x0, x1, x2, x3, x9, x12, x13 => if x13 < x12 then (if 0 ≤ x13 then (if x13 < (x0.length : Int) then (if x13 < (x1.length : Int) then (if x3 = 0 then (none) else (if x9.length < 17592186044416 then (z178.l0 k x0 x1 x2 x3 (x9 ++ [Int.tmod (wrap64 ((rd x0 x13) + (wrap64 (x2 * (rd x1 x13))))) x3]) x12 (wrap64 (x13 + 1))) else (none))) else (none)) else (none)) else (none)) else (some x9)
def z178.f (k : Nat) (l0 : List Int) (l1 : List Int) (a2 : Int) (a3 : Int) : Option (List Int) := z178.l0 k l0 l1 a2 a3 ([] : List Int) (l0.length : Int) 0
def z178.T5 : Bool × List (List Nat × List Nat) := (true, [([], []), ([], []), ([], []), ([1, 2], [1, 2]), ([3], [3]), ([], []), ([], []), ([], []), ([6, 7], [6, 7]), ([8], [8]), ([5, 9], [5, 9]), ([4, 10], [4, 10]), ([], []), ([11, 12], [11, 12]), ([13], [13]), ([0, 14], [0, 14]), ([15, 15, 0, 1, 2, 3, 4, 5, 6, 7, 8, 9, 10, 11, 12, 13, 14, 15], [0, 15])])
def z178.B5 : List Nat := [0, 0, 0, 6, 14, 0, 0, 0, 192, 448, 992, 2046, 0, 8190, 16382, 32767, 65535]
theorem z178.tab5 : rtab .any (qCc Try.f178 5) = z178.T5 := by kernel_rfl
theorem z178.bits5 : qBb z178.T5.2 z178.B5 = true := by kernel_rfl
theorem z178.calls (k : Nat) (A0 : Option Addr) (c0 : Nat) (l0 : List Int) (A1 : Option Addr) (c1 : Nat) (l1 : List Int) (a2 : Int) (a3 : Int) (r : List Int) (w : World) (hr0 : Kd.C (Kd.int .i64) w A0 l0.length l0) (hc0 : l0.length ≤ c0) (hr1 : Kd.C (Kd.int .i64) w A1 l1.length l1) (hc1 : l1.length ≤ c1) (h : z178.f k l0 l1 a2 a3 = some r) :
  Calls Try.prog 178 #[.slice A0 l0.length c0, .slice A1 l1.length c1, .int .i64 a2, .int .i64 a3] w fun e w' => ∃ v0_ : Value, e = .returned (v0_) ∧ Kd.R (Kd.int .i64) 2 w' w.heap.size (fun _ => True) v0_ r ∧ Below w.heap.size w w' := by
 have HR0 := Zz.mk hr0
 have HC0 := Zz.mk hc0
 clear hr0 hc0
 have HR1 := Zz.mk hr1
 have HC1 := Zz.mk hc1
 clear hr1 hc1
 have HB := Zz.mk (Below.refl w.heap.size w)
 have H : (z178.l0 k l0 l1 a2 a3 ([] : List Int) (l0.length : Int) 0) = some r := h
 clear h
 have H' := Zz.mk H
 clear H
 go_enter Try.func178, Try.ntmps178
 go_wp2
 go_loopg [9, 13] k (fun kq v9 v13 w' => ∃ (x9_1 : List Int) (x13_1 : Int), v13 = .int .i64 x13_1 ∧ Zz (z178.l0 kq l0 l1 a2 a3 x9_1 (l0.length : Int) x13_1 = some r) ∧ Zz (kq ≤ k) ∧ Zz (Kd.R (Kd.int .i64) 2 w' w.heap.size (fun _ => True) v9 x9_1) ∧ Zz (Below w.heap.size w w'))
 case atStart => exact ⟨(([] : List Int)), (0), E_, H', ⟨Nat.le_refl _⟩, ⟨by first | exact Kd.R_nil _ _ _ _ _ | exact Kd.N_nil _ _ _ _ _ | exact Kd.V_nil _ _ _ _ _ | exact Kd.Q_nil _ _ _ _ _ | exact Kd.S_nil _ _ _ _ _⟩, ⟨B_ HB.out⟩⟩
 case round =>
  clear H'
  (try clear c1)
  obtain ⟨x9_1, x13_1, rfl, HA, HK1, HO_9, HB⟩ := hrel
  cases gk with
  | zero => exact absurd HA.out (by simp [z178.l0])
  | succ k1 =>
   have H := HA.out
   clear HA
   simp only [z178.l0] at H
   by_cases c5 : x13_1 < (l0.length : Int)
   ·rw [if_pos c5] at H
    have c5b0 : decide (x13_1 < (l0.length : Int)) = true := decide_eq_true c5
    clear c5
    have c6b0 := O3_ H
    replace H := O2_ H
    have c7b0 := O3_ H
    replace H := O2_ H
    have c8b0 := O3_ H
    replace H := O2_ H
    by_cases c9 : a3 = 0
    ·rw [if_pos c9] at H
     exact X_ H
    rw [if_neg c9] at H
    have c9b0 : (a3 == 0) = false := beq_eq_false_iff_ne.mpr c9
    have c9b1 : (a3 != 0) = true := bne_iff_ne.mpr c9
    have c10 := O1_ H
    replace H := O2_ H
    have LMc10 := Zz.mk c10
    clear c10
    obtain ⟨y103, hy103⟩ : ∃ y_ : List Int, y_ = (x9_1 ++ [Int.tmod (wrap64 ((rd l0 x13_1) + (wrap64 (a2 * (rd l1 x13_1))))) a3]) := ⟨_, rfl⟩
    replace H : (z178.l0 k1 l0 l1 a2 a3 y103 (l0.length : Int) (wrap64 (x13_1 + 1))) = some r := Y_ hy103 H
    have Ny103 := Zz.mk hy103
    clear hy103
    have H' := Zz.mk H
    clear H
    try go_wp2
    replace HO_9 := Zz.mk (Kd.R_drew HO_9.out)
    replace HB := Zz.mk (qAn HB.out)
    have p101 : 0 ≤ (x13_1 : Int) := D_
    have q101 : x13_1 < (l0.length : Int) := D_
    obtain ⟨ad101, e101, hx101_0⟩ := Kd.at_int HR0.out x13_1 p101 q101
    have hw101_0 := hx101_0
    cases e101
    replace hx101_0 := (HB.out.cell (World.block_lt_of_cell? w _ hx101_0)).trans hx101_0
    replace p101 := eq_true p101
    replace q101 := eq_true q101
    have p102 : 0 ≤ (x13_1 : Int) := D_
    have q102 : x13_1 < (l1.length : Int) := D_
    obtain ⟨ad102, e102, hx102_0⟩ := Kd.at_int HR1.out x13_1 p102 q102
    have hw102_0 := hx102_0
    cases e102
    replace hx102_0 := (HB.out.cell (World.block_lt_of_cell? w _ hx102_0)).trans hx102_0
    replace p102 := eq_true p102
    replace q102 := eq_true q102
    refine qBf (n := 17) (S := fun w' => w'.cell? (ad101.add (x13_1).toNat) = some (.int .i64 (rd l0 x13_1)) ∧ w'.cell? (ad102.add (x13_1).toNat) = some (.int .i64 (rd l1 x13_1))) (ds := []) (tb_ 17 0) (by kernel_rfl) rfl rfl ⟨((HB.out.cell (World.block_lt_of_cell? w _ hw101_0)).trans hw101_0), ((HB.out.cell (World.block_lt_of_cell? w _ hw102_0)).trans hw102_0)⟩ (fun hHeld => ?_); refine qA7 z178.tab5 z178.bits5 (fun HT_ HW_ => ?_)
    generalize wr.drew = w11 at HO_9 HB hx101_0 hx102_0 hHeld ⊢
    refine PX_ 0 16 (tb_ 17 1) HT_ rfl rfl ?_
    refine PX_ 1 17 (tb_ 17 3) HT_ rfl rfl ?_
    refine PX_ 2 18 (tb_ 17 7) HT_ rfl rfl ?_
    refine PX_ 3 19 (tb_ 17 15) HT_ rfl rfl ?_
    refine PX_ 5 21 (tb_ 17 47) HT_ rfl rfl ?_
    refine PX_ 6 22 (tb_ 17 111) HT_ rfl rfl ?_
    refine PX_ 7 23 (tb_ 17 239) HT_ rfl rfl ?_
    refine PX_ 8 24 (tb_ 17 495) HT_ rfl rfl ?_
    refine PX_ 12 28 (tb_ 17 4591) HT_ rfl rfl ?_
    refine TV_ (i := 4) (N := some 20) (tb_ 17 4607) HT_ HW_ rfl rfl hHeld (by rintro w' ⟨s0, s1⟩; go_simp; with_reducible rfl) (h := ?_)
    refine TV_ (i := 9) (N := some 25) (tb_ 17 5119) HT_ HW_ rfl rfl hHeld (by rintro w' ⟨s0, s1⟩; go_simp; with_reducible rfl) (h := ?_)
    refine PX_ 10 26 (tb_ 17 6143) HT_ rfl rfl ?_
    refine PX_ 11 27 (tb_ 17 8191) HT_ rfl rfl ?_
    refine PX_ 13 29 (tb_ 17 16383) HT_ rfl rfl ?_
    refine one_ (i := 14) (N := some 30) (tb_ 17 32767) rfl rfl (qA8 HT_.out (by kernel_rfl)) (by decide) (fun K hK => ?_)
    refine qF9 (w1 := ?_) (v := ?_) (by rfl) rfl ?_ ?_
    rotate_left 2
    ·go_simp
     constructor
     ·rfl
     rfl
    refine hK.out _ _ ⟨(World.cell?_alloc_lt _ _ _ (World.block_lt_of_cell? _ _ (((HB.out.cell (World.block_lt_of_cell? w _ hw101_0)).trans hw101_0)))).trans (((HB.out.cell (World.block_lt_of_cell? w _ hw101_0)).trans hw101_0)), (World.cell?_alloc_lt _ _ _ (World.block_lt_of_cell? _ _ (((HB.out.cell (World.block_lt_of_cell? w _ hw102_0)).trans hw102_0)))).trans (((HB.out.cell (World.block_lt_of_cell? w _ hw102_0)).trans hw102_0))⟩ (fun hHeld => ?_)
    clear hK K
    refine NM_ (N := (some 30)) (h := ?_)
    refine one_ (i := 15) (N := some 31) (tb_ 17 65535) rfl rfl (qA8 HT_.out (by kernel_rfl)) (by decide) (fun K hK => ?_)
    refine Kd.R_append_step (Kd.int .i64) (w0 := w) w.heap.size (by rfl) (.tmp 16) (.tmp 30) 26 2 (.int .i64 0) 8 rfl Try.underlying26 qBj rfl (by decide) (by omega) u9 x9_1 (Int.tmod (wrap64 ((rd l0 x13_1) + (wrap64 (a2 * (rd l1 x13_1))))) a3) [.int .i64 (Int.tmod (wrap64 ((rd l0 x13_1) + (wrap64 (a2 * (rd l1 x13_1))))) a3)] (fun _ => True) (fun _ => False) rfl rfl ?aP (fun _ hk => hk.elim) ?aF ?aO ?aB ?aS ?aL ?_
    (case aP => exact rfl)
    (case aB => exact (B_ HB.out))
    (case aF => exact (fun _ _ => trivial))
    (case aO => exact (KR_ HO_9.out))
    (case aS => exact (bS_ (B_ HB.out)))
    (case aL => have := LMc10.out; omega)
    intro v104 w12 ho hb hg hat
    rw [← Ny103.out] at ho
    replace HB := Zz.mk (hb)
    have HO105 := Zz.mk (ho)
    clear HO_9
    clear ho hb hg hat
    refine hK.out _ _ ⟨((HB.out.cell (World.block_lt_of_cell? w _ hw101_0)).trans hw101_0), ((HB.out.cell (World.block_lt_of_cell? w _ hw102_0)).trans hw102_0)⟩ (fun hHeld => ?_)
    clear hK K
    refine NM_ (N := (some 31)) (h := ?_)
    refine PX_ 16 9 (tb_ 17 131071) HT_ rfl rfl ?_
    refine qBy (qBe HT_.out (by kernel_rfl)) ?_
    try go_wp2
    go_roundg k1
    case measure => exact Q1_ HK1
    case rel => exact ⟨(y103), (wrap64 (x13_1 + 1)), E_, H', ⟨Q1_ HK1⟩, ⟨KR_ HO105.out⟩, ⟨B_ HB.out⟩⟩
   rw [if_neg c5] at H
   have c5b0 : decide (x13_1 < (l0.length : Int)) = false := decide_eq_false c5
   clear c5
   obtain rfl := OI_ H
   go_wp2
   go_ret
   exact ⟨_, F_, KR_ HO_9.out, B_ HB.out⟩
def z199.l0 : Nat → Int → Int → Int → Int → Option (Int)
 | 0, _, _, _, _ => none
 | k + 1, x0, x1, x2, x7 => if x1 > 0 then (if (Int.tmod x1 2) = 1 then (if x2 = 0 then (none) else (z199.l0 k (Int.tmod (wrap64 (x0 * x0)) x2) (wrap64 (Int.tdiv x1 2)) x2 (Int.tmod (wrap64 (x7 * x0)) x2))) else (if x2 = 0 then (none) else (z199.l0 k (Int.tmod (wrap64 (x0 * x0)) x2) (wrap64 (Int.tdiv x1 2)) x2 x7))) else (some x7)
def z199.f (k : Nat) (a0 : Int) (a1 : Int) (a2 : Int) : Option (Int) := z199.l0 k a0 a1 a2 1
theorem z199.calls (k : Nat) (a0 : Int) (a1 : Int) (a2 : Int) (r : Int) (w : World) (h : z199.f k a0 a1 a2 = some r) :
  Calls Try.prog 199 #[.int .i64 a0, .int .i64 a1, .int .i64 a2] w fun e w' => e = .returned (.int .i64 r) ∧ Dz w w' := by
 have H : (z199.l0 k a0 a1 a2 1) = some r := h
 clear h
 have H' := Zz.mk H
 clear H
 go_enter Try.func199, Try.ntmps199
 go_wp2
 go_loopg [0, 1, 7] k (fun kq v0 v1 v7 w' => ∃ (x0_1 : Int) (x1_1 : Int) (x7_1 : Int), v0 = .int .i64 x0_1 ∧ v1 = .int .i64 x1_1 ∧ v7 = .int .i64 x7_1 ∧ Zz (z199.l0 kq x0_1 x1_1 a2 x7_1 = some r) ∧ Zz (kq ≤ k) ∧ Dz w w')
 case atStart => exact ⟨(a0), (a1), (1), E_, E_, E_, H', ⟨Nat.le_refl _⟩, by repeat (first | exact Dz.refl _ | apply Dz.step)⟩
 case round =>
  clear H'
  obtain ⟨x0_1, x1_1, x7_1, rfl, rfl, rfl, HA, HK1, ⟨m1, rfl⟩⟩ := hrel
  cases gk with
  | zero => exact absurd HA.out (by simp [z199.l0])
  | succ k1 =>
   have H := HA.out
   clear HA
   simp only [z199.l0] at H
   by_cases c4 : x1_1 > 0
   ·rw [if_pos c4] at H
    have c4b0 : decide (0 < x1_1) = true := decide_eq_true c4
    clear c4
    by_cases c5 : (Int.tmod x1_1 2) = 1
    ·rw [if_pos c5] at H
     have c5b0 : ((Int.tmod x1_1 2) == 1) = true := beq_iff_eq.mpr c5
     have c5b1 : ((Int.tmod x1_1 2) != 1) = false := bne_eq_false_iff_eq.mpr c5
     clear c5
     by_cases c6 : a2 = 0
     ·rw [if_pos c6] at H
      exact X_ H
     rw [if_neg c6] at H
     have c6b0 : (a2 == 0) = false := beq_eq_false_iff_ne.mpr c6
     have c6b1 : (a2 != 0) = true := bne_iff_ne.mpr c6
     have H' := Zz.mk H
     clear H
     go_wp2
     go_roundg k1
     case measure => exact Q1_ HK1
     case rel => exact ⟨(Int.tmod (wrap64 (x0_1 * x0_1)) a2), (wrap64 (Int.tdiv x1_1 2)), (Int.tmod (wrap64 (x7_1 * x0_1)) a2), E_, E_, E_, H', ⟨Q1_ HK1⟩, by repeat (first | exact Dz.refl _ | apply Dz.step)⟩
    rw [if_neg c5] at H
    have c5b0 : ((Int.tmod x1_1 2) == 1) = false := beq_eq_false_iff_ne.mpr c5
    have c5b1 : ((Int.tmod x1_1 2) != 1) = true := bne_iff_ne.mpr c5
    by_cases c7 : a2 = 0
    ·rw [if_pos c7] at H
     exact X_ H
    rw [if_neg c7] at H
    have c7b0 : (a2 == 0) = false := beq_eq_false_iff_ne.mpr c7
    have c7b1 : (a2 != 0) = true := bne_iff_ne.mpr c7
    have H' := Zz.mk H
    clear H
    go_wp2
    go_roundg k1
    case measure => exact Q1_ HK1
    case rel => exact ⟨(Int.tmod (wrap64 (x0_1 * x0_1)) a2), (wrap64 (Int.tdiv x1_1 2)), (x7_1), E_, E_, E_, H', ⟨Q1_ HK1⟩, by repeat (first | exact Dz.refl _ | apply Dz.step)⟩
   rw [if_neg c4] at H
   have c4b0 : decide (0 < x1_1) = false := decide_eq_false c4
   clear c4
   obtain rfl := OI_ H
   go_wp2
   go_ret
   exact ⟨by first | rfl | (simp; done) | (simp [*]; done), by repeat (first | exact Dz.refl _ | apply Dz.step)⟩
def z179.f (k : Nat) (a0 : Int) (a1 : Int) : Option (Int) := (z199.f k a0 (wrap64 (a1 - 2)) a1).bind fun t101 => (some t101)
theorem z179.calls (k : Nat) (a0 : Int) (a1 : Int) (r : Int) (w : World) (h : z179.f k a0 a1 = some r) :
  Calls Try.prog 179 #[.int .i64 a0, .int .i64 a1] w fun e w' => e = .returned (.int .i64 r) ∧ Dz w w' := by
 have H : ((z199.f k a0 (wrap64 (a1 - 2)) a1).bind fun t101 => (some t101)) = some r := h
 clear h
 replace H := OZ_ H
 obtain ⟨t101, A3, H⟩ := H
 obtain rfl := OI_ H
 go_enter Try.func179, Try.ntmps179
 go_wp2_with (first | ((with_reducible refine gC_ (f := 199) rfl ?_); refine GL_ (some 9) rfl rfl Try.func199 #[.int .i64 a0, .int .i64 (wrap64 (a1 - 2)), .int .i64 a1] rfl (h := ?_); (with_reducible refine (z199.calls k a0 (wrap64 (a1 - 2)) a1 t101 _ A3.out).mono ?_); rintro e w' ⟨rfl, ⟨nd, rfl⟩⟩; refine ⟨_, rfl, ?_⟩))
 go_ret
 exact ⟨by first | rfl | (simp; done) | (simp [*]; done), by repeat (first | exact Dz.refl _ | apply Dz.step)⟩
def z150.f (a0 : Int) (a1 : Int) : Option (Int) := if a1 = 0 then (none) else (some (Int.tmod (wrap64 ((Int.tmod a0 a1) + a1)) a1))
theorem z150.calls (a0 : Int) (a1 : Int) (r : Int) (w : World) (h : z150.f a0 a1 = some r) :
  Calls Try.prog 150 #[.int .i64 a0, .int .i64 a1] w fun e w' => e = .returned (.int .i64 r) ∧ Dz w w' := by
 have H : (if a1 = 0 then (none) else (some (Int.tmod (wrap64 ((Int.tmod a0 a1) + a1)) a1))) = some r := h
 clear h
 by_cases c3 : a1 = 0
 ·rw [if_pos c3] at H
  exact X_ H
 rw [if_neg c3] at H
 have c3b0 : (a1 == 0) = false := beq_eq_false_iff_ne.mpr c3
 have c3b1 : (a1 != 0) = true := bne_iff_ne.mpr c3
 obtain rfl := OI_ H
 go_enter Try.func150, Try.ntmps150
 go_wp2
 go_ret
 exact ⟨by first | rfl | (simp; done) | (simp [*]; done), by repeat (first | exact Dz.refl _ | apply Dz.step)⟩
def z177.f (l0 : List Int) (a1_0 : Int) : Option (Bool) := if 0 ≤ a1_0 then (if a1_0 < (l0.length : Int) then (some ((rd l0 a1_0) != 0)) else (none)) else (none)
theorem z177.calls (A0 : Option Addr) (c0 : Nat) (l0 : List Int) (gp1 : Nat) (a1_0 : Int) (r : Bool) (w : World) (hbp1 : w.heap[gp1]? = some (.cells #[.int .i64 a1_0] 2 (0, 0))) (hr0 : Kd.C (Kd.int .i64) w A0 l0.length l0) (hc0 : l0.length ≤ c0) (h : z177.f l0 a1_0 = some r) :
  Calls Try.prog 177 #[.slice A0 l0.length c0, .pointer (some ⟨gp1, 0, none⟩)] w fun e w' => e = .returned (.bool r) ∧ Dz w w' := by
 have HR0 := Zz.mk hr0
 have HC0 := Zz.mk hc0
 clear hr0 hc0
 have BK51 := Zz.mk hbp1
 clear hbp1
 have H : (if 0 ≤ a1_0 then (if a1_0 < (l0.length : Int) then (some ((rd l0 a1_0) != 0)) else (none)) else (none)) = some r := h
 clear h
 have c3b0 := O3_ H
 replace H := O2_ H
 have c4b0 := O3_ H
 replace H := O2_ H
 obtain rfl := OI_ H
 obtain ⟨hcz5_0, hfz5_0⟩ := Z1f_ BK51.out
 have p101 : 0 ≤ (a1_0 : Int) := D_
 have q101 : a1_0 < (l0.length : Int) := D_
 obtain ⟨ad101, e101, hx101_0⟩ := Kd.at_int HR0.out a1_0 p101 q101
 cases e101
 replace p101 := eq_true p101
 replace q101 := eq_true q101
 go_enter Try.func177, Try.ntmps177
 go_wp2
 go_ret
 exact ⟨by first | rfl | (simp; done) | (simp [*]; done), by repeat (first | exact Dz.refl _ | apply Dz.step)⟩
def z255.l0 : Nat → List (List Int) → Int → Int → Int → Option (Int)
 | 0, _, _, _, _ => none
 | k + 1, x0, x7, x8, x69000 => if x8 < x7 then (if 0 ≤ x8 then (if x8 < (x0.length : Int) then ((z177.f (rI_ x0 x8) x69000).bind fun t102 => (if t102 = true then (some x8) else (z255.l0 k x0 x7 (wrap64 (x8 + 1)) x69000))) else (none)) else (none)) else (some (-1))
def z255.f (k : Nat) (l0 : List (List Int)) (a1_0 : Int) : Option (Int) := z255.l0 k l0 (l0.length : Int) 0 a1_0
theorem z255.calls (k : Nat) (A0 : Option Addr) (c0 : Nat) (l0 : List (List Int)) (gp1_0 : Nat) (a1_0 : Int) (r : Int) (w : World) (hbp1_0 : w.heap[gp1_0]? = some (.cells #[.int .i64 a1_0] 2 (0, 0))) (hr0 : Kd.C (Kd.slice 2 (Kd.int .i64)) w A0 l0.length l0) (hc0 : l0.length ≤ c0) (h : z255.f k l0 a1_0 = some r) :
  Calls Try.prog 124 #[.slice A0 l0.length c0, .func (.func 177) #[] #[.pointer (some ⟨gp1_0, 0, none⟩)]] w fun e w' => e = .returned (.int .i64 r) ∧ Below w.heap.size w w' := by
 have HR0 := Zz.mk hr0
 have HC0 := Zz.mk hc0
 clear hr0 hc0
 have BK68 := Zz.mk hbp1_0
 clear hbp1_0
 have HB := Zz.mk (Below.refl w.heap.size w)
 have H : (z255.l0 k l0 (l0.length : Int) 0 a1_0) = some r := h
 clear h
 have H' := Zz.mk H
 clear H
 go_enter Try.func124, Try.ntmps124
 go_wp2
 go_loopg [8] k (fun kq v8 w' => ∃ (x8_1 : Int), v8 = .int .i64 x8_1 ∧ Zz (z255.l0 kq l0 (l0.length : Int) x8_1 a1_0 = some r) ∧ Zz (kq ≤ k) ∧ Zz (w'.heap[gp1_0]? = some (.cells #[.int .i64 a1_0] 2 (0, 0))) ∧ Zz (Below w.heap.size w w'))
 case atStart => exact ⟨(0), E_, H', ⟨Nat.le_refl _⟩, ⟨KB_ BK68.out⟩, ⟨B_ HB.out⟩⟩
 case round =>
  clear H'
  obtain ⟨x8_1, rfl, HA, HK1, BK68, HB⟩ := hrel
  cases gk with
  | zero => exact absurd HA.out (by simp [z255.l0])
  | succ k1 =>
   have H := HA.out
   clear HA
   simp only [z255.l0] at H
   by_cases c3 : x8_1 < (l0.length : Int)
   ·rw [if_pos c3] at H
    have c3b0 : decide (x8_1 < (l0.length : Int)) = true := decide_eq_true c3
    clear c3
    have c4b0 := O3_ H
    replace H := O2_ H
    have c5b0 := O3_ H
    replace H := O2_ H
    replace H := OZ_ H
    obtain ⟨t102, A6, H⟩ := H
    by_cases c7 : t102 = true
    ·subst c7
     replace H := T_ H
     obtain rfl := OI_ H
     have p101 : 0 ≤ (x8_1 : Int) := D_
     have q101 : x8_1 < (l0.length : Int) := D_
     obtain ⟨ad101, A101_0, c101_0, e101, hx101_0, hl101_0, hi101_0⟩ := qAs HR0.out x8_1 p101 q101
     cases e101
     replace hx101_0 := (HB.out.cell (World.block_lt_of_cell? w _ hx101_0)).trans hx101_0
     have HR101_0 := Zz.mk hi101_0
     have HC101_0 := Zz.mk hl101_0
     clear hi101_0 hl101_0
     replace p101 := eq_true p101
     replace q101 := eq_true q101
     go_wp2_with (first | (go_at_call 177; (with_reducible refine (z177.calls _ _ (rI_ l0 x8_1) gp1_0 a1_0 true _ ?side1 ?side2 ?side3 A6.out).mono ?_); (case side1 => refine BW_ ?_; exact BK68.out); (case side2 => exact KC_ (Kd.C_below HR101_0.out HB.out)); (case side3 => exact HC101_0.out); rintro e w' ⟨rfl, ⟨nd, rfl⟩⟩))
     go_ret
     exact ⟨F_, B_ HB.out⟩
    replace c7 := Bool.eq_false_iff.mpr c7
    subst c7
    replace H := N_ H
    have H' := Zz.mk H
    clear H
    have p101 : 0 ≤ (x8_1 : Int) := D_
    have q101 : x8_1 < (l0.length : Int) := D_
    obtain ⟨ad101, A101_0, c101_0, e101, hx101_0, hl101_0, hi101_0⟩ := qAs HR0.out x8_1 p101 q101
    cases e101
    replace hx101_0 := (HB.out.cell (World.block_lt_of_cell? w _ hx101_0)).trans hx101_0
    have HR101_0 := Zz.mk hi101_0
    have HC101_0 := Zz.mk hl101_0
    clear hi101_0 hl101_0
    replace p101 := eq_true p101
    replace q101 := eq_true q101
    go_wp2_with (first | (go_at_call 177; (with_reducible refine (z177.calls _ _ (rI_ l0 x8_1) gp1_0 a1_0 false _ ?side1 ?side2 ?side3 A6.out).mono ?_); (case side1 => refine BW_ ?_; exact BK68.out); (case side2 => exact KC_ (Kd.C_below HR101_0.out HB.out)); (case side3 => exact HC101_0.out); rintro e w' ⟨rfl, ⟨nd, rfl⟩⟩))
    go_roundg k1
    case measure => exact Q1_ HK1
    case rel => exact ⟨(wrap64 (x8_1 + 1)), E_, H', ⟨Q1_ HK1⟩, ⟨KB_ BK68.out⟩, ⟨B_ HB.out⟩⟩
   rw [if_neg c3] at H
   have c3b0 : decide (x8_1 < (l0.length : Int)) = false := decide_eq_false c3
   clear c3
   obtain rfl := OI_ H
   go_wp2
   go_ret
   exact ⟨F_, B_ HB.out⟩
def z148.l0 : Nat → List (List Int) → Int → Int → Int → Int → Int → List Int → Option ((List (List Int)))
 | 0, _, _, _, _, _, _, _ => none
 | k + 1, x3, x6, x7, x102000, x102001, x102002, x102003 => if x7 < x6 then ((impl_Matrix_row.f x102000 x102001 x102002 x102003 x7).bind fun t102 => ((slices_Clone_int64_int64.f t102).bind fun t105 => (if x3.length < 5864062014805 then (z148.l0 k (x3 ++ [t105]) x6 (wrap64 (x7 + 1)) x102000 x102001 x102002 x102003) else (none)))) else (some x3)
def z148.f (k : Nat) (a0_0 : Int) (a0_1 : Int) (a0_2 : Int) (l0_3 : List Int) : Option ((List (List Int))) := z148.l0 k ([] : List (List Int)) a0_1 0 a0_0 a0_1 a0_2 l0_3
theorem z148.calls (k : Nat) (a0_0 : Int) (a0_1 : Int) (a0_2 : Int) (A0_3 : Option Addr) (c0_3 : Nat) (l0_3 : List Int) (r : List (List Int)) (w : World) (hr0_3 : Kd.C (Kd.int .i64) w A0_3 l0_3.length l0_3) (hc0_3 : l0_3.length ≤ c0_3) (h : z148.f k a0_0 a0_1 a0_2 l0_3 = some r) :
  Calls Try.prog 148 #[.agg #[.int .i64 a0_0, .int .i64 a0_1, .int .i64 a0_2, .slice A0_3 l0_3.length c0_3]] w fun e w' => ∃ v0_ : Value, e = .returned (v0_) ∧ Kd.S (Kd.slice 2 (Kd.int .i64)) 26 w' w.heap.size (fun _ => True) v0_ r ∧ Below w.heap.size w w' := by
 have hu48 := Try.underlying48
 have HR0_3 := Zz.mk hr0_3
 have HC0_3 := Zz.mk hc0_3
 clear hr0_3 hc0_3
 have HB := Zz.mk (Below.refl w.heap.size w)
 have H : (z148.l0 k ([] : List (List Int)) a0_1 0 a0_0 a0_1 a0_2 l0_3) = some r := h
 clear h
 have H' := Zz.mk H
 clear H
 go_enter Try.func148, Try.ntmps148
 go_wp2_with (first | ((with_reducible refine qAb (N := 1) rfl ?_); refine qAc ?hg (N := 1) ?hd (cs := #[.int .i64 a0_0, .int .i64 a0_1, .int .i64 a0_2, .slice A0_3 l0_3.length c0_3]) (t := 48) ?hr ?_; (case hd => rfl); (case hg => rfl); (case hr => first | (go_simp; done) | (go_simp; rfl)); intro gb101 hg w2 hbox hb; have BK101 := Zz.mk (hbox); have GW101 := Zz.mk ((by rw [hg]; exact (bS_ (B_ HB.out)) : w.heap.size ≤ gb101)); have GE101 := GW101; replace HB := Zz.mk (bT_ (B_ HB.out) hb); clear hb hbox hg; obtain ⟨hcz3_0, hcz3_1, hcz3_2, hcz3_3, hfz3_0, hfz3_1, hfz3_2, hfz3_3⟩ := Z4f_ BK101.out))
 go_loopg [3, 7] k (fun kq v3 v7 w' => ∃ (x3_1 : List (List Int)) (x7_1 : Int), v7 = .int .i64 x7_1 ∧ Zz (z148.l0 kq x3_1 a0_1 x7_1 a0_0 a0_1 a0_2 l0_3 = some r) ∧ Zz (kq ≤ k) ∧ Zz (Kd.S (Kd.slice 2 (Kd.int .i64)) 26 w' w.heap.size (fun _ => True) v3 x3_1) ∧ Zz (w'.heap[gb101]? = some (.cells #[.int .i64 a0_0, .int .i64 a0_1, .int .i64 a0_2, (.slice A0_3 l0_3.length c0_3)] 48 (0, 0))) ∧ Zz (Below w.heap.size w w'))
 case atStart => exact ⟨(([] : List (List Int))), (0), E_, H', ⟨Nat.le_refl _⟩, ⟨by first | exact Kd.S_nil _ _ _ _ _ | exact Kd.N_nil _ _ _ _ _ | exact Kd.V_nil _ _ _ _ _ | exact Kd.Q_nil _ _ _ _ _ | exact Kd.R_nil _ _ _ _ _⟩, ⟨KB_ BK101.out⟩, ⟨B1_ HB.out GE101.out⟩⟩
 case round =>
  clear H'
  (try clear hcz3_0);(try clear hcz3_1);(try clear hcz3_2);(try clear hcz3_3);(try clear hfz3_0);(try clear hfz3_1);(try clear hfz3_2);(try clear hfz3_3)
  obtain ⟨x3_1, x7_1, rfl, HA, HK1, HO_3, BK101, HB⟩ := hrel
  cases gk with
  | zero => exact absurd HA.out (by simp [z148.l0])
  | succ k1 =>
   have H := HA.out
   clear HA
   simp only [z148.l0] at H
   by_cases c4 : x7_1 < a0_1
   ·rw [if_pos c4] at H
    have c4b0 : decide (x7_1 < a0_1) = true := decide_eq_true c4
    clear c4
    replace H := OZ_ H
    obtain ⟨t102, A5, H⟩ := H
    replace H := OZ_ H
    obtain ⟨t105, A6, H⟩ := H
    have c7 := O1_ H
    replace H := O2_ H
    have LMc7 := Zz.mk c7
    clear c7
    obtain ⟨y108, hy108⟩ : ∃ y_ : List (List Int), y_ = (x3_1 ++ [t105]) := ⟨_, rfl⟩
    replace H : (z148.l0 k1 y108 a0_1 (wrap64 (x7_1 + 1)) a0_0 a0_1 a0_2 l0_3) = some r := Y_ hy108 H
    have Ny108 := Zz.mk hy108
    clear hy108
    have H' := Zz.mk H
    clear H
    obtain ⟨hcz8_0, hcz8_1, hcz8_2, hcz8_3, hfz8_0, hfz8_1, hfz8_2, hfz8_3⟩ := Z4f_ BK101.out
    go_wp2_with (first | ((with_reducible refine gC_ (f := 145) rfl ?_); refine GL_ (some 13) rfl rfl Try.func145 #[.agg #[.int .i64 a0_0, .int .i64 a0_1, .int .i64 a0_2, .slice A0_3 l0_3.length c0_3], .int .i64 x7_1] rfl (h := ?_); (with_reducible refine (impl_Matrix_row.calls a0_0 a0_1 a0_2 (fun k_ => k_ < w.heap.size) _ _ l0_3 x7_1 t102 _ ?side1 A5.out).mono ?_); (case side1 => exact Kd.V_mk HC0_3.out (Kd.F_below (Kd.C_F (Kd.heap_int .i64) HR0_3.out) (B1_ HB.out GE101.out))); rintro e w9 ⟨v103, rfl, ho0, hb⟩; refine ⟨_, rfl, ?_⟩; have HO104 := Zz.mk (Kd.V_lower (Kd.V_mono (ok' := fun k_ => some k_ ≠ (u3 : Value).ownBlock ∧ k_ ≠ gb101) ho0 (fun k_ hk_ => ⟨Or.elim hk_ (fun hs_ => fun e_ => Nat.not_le.2 hs_ (Kd.S_base HO_3.out k_ e_.symm)) (fun hn_ => (Kd.fresh' (Kd.S_lt (KS_ HO_3.out)) k_ hn_)), Or.elim hk_ (fun hs_ => fun e_ => Nat.not_le.2 hs_ (by rw [e_]; exact GW101.out)) (fun hn_ => (Kd.freshB (g := gb101) (o := .cells #[.int .i64 a0_0, .int .i64 a0_1, .int .i64 a0_2, .slice A0_3 l0_3.length c0_3] 48 (0, 0)) (KB_ BK101.out) k_ hn_))⟩)) (bS_ (B1_ HB.out GE101.out))); replace HO_3 := Zz.mk (Kd.S_below (KS_ HO_3.out) hb); replace BK101 := Zz.mk (bB_ (g := gb101) (o := .cells #[.int .i64 a0_0, .int .i64 a0_1, .int .i64 a0_2, .slice A0_3 l0_3.length c0_3] 48 (0, 0)) (KB_ BK101.out) hb); replace HB := Zz.mk (bT_ (B1_ HB.out GE101.out) hb); (try clear hb); (try clear hb2); (try clear hk); (try clear hi); (try clear ho0); obtain ⟨Ao10, co10, eo10⟩ := Kd.V_slice HO104.out; subst eo10) | ((with_reducible refine gC_ (f := 86) rfl ?_); refine GL_ (some 14) rfl rfl Try.func86 #[.slice Ao10 t102.length co10] rfl (h := ?_); (with_reducible refine (slices_Clone_int64_int64.calls _ _ t102 t105 _ ?side1 ?side2 A6.out).mono ?_); (case side1 => exact KC_ (Kd.V_reads' HO104.out).2.2); (case side2 => exact (Kd.V_reads' HO104.out).2.1); rintro e w11 ⟨v106, rfl, ho0, hb⟩; refine ⟨_, rfl, ?_⟩; replace HO_3 := Zz.mk (Kd.S_elder' (KS_ HO_3.out) (Kd.R_base ho0) hb); replace HO104 := Zz.mk (Kd.V_elder' (by refine VW_ ?_; exact HO104.out) (Kd.R_base ho0) hb); have HO107 := Zz.mk (Kd.R_lower ho0 (bS_ (B1_ HB.out GE101.out))); replace BK101 := Zz.mk (bB_ (g := gb101) (o := .cells #[.int .i64 a0_0, .int .i64 a0_1, .int .i64 a0_2, .slice A0_3 l0_3.length c0_3] 48 (0, 0)) (KB_ BK101.out) hb); replace HB := Zz.mk (bT_ (B1_ HB.out GE101.out) hb); (try clear hb); (try clear hb2); (try clear hk); (try clear hi); (try clear ho0); obtain ⟨Ao13, co13, eo13⟩ := Kd.R_slice HO107.out; subst eo13) | ((with_reducible refine qA4 (b := .append) (xs := #[.tmp 10, .tmp 15]) rfl ?_); at_builtin; refine Kd.S_append (Kd.slice 2 (Kd.int .i64)) (w0 := w) w.heap.size rfl (.tmp 10) (.tmp 15) 22 26 (.slice none 0 0) 24 rfl Try.underlying22 qEk rfl (by decide) (by omega) u3 x3_1 t105 [.slice Ao13 t105.length co13] (fun _ => True) (fun k_ => some k_ = (.slice Ao13 t105.length co13 : Value).ownBlock) rfl rfl ?aP (fun k_ hk_ => ((Kd.R_mono (ok' := fun k_ => ((fun _ => True)) k_ ∧ some k_ ≠ (u3 : Value).ownBlock) (Kd.R_apart' (HO107.out) (Kd.S_typed HO_3.out) (by decide)) (fun k_ hk => ⟨trivial, hk.2⟩))).1 k_ hk_.symm) ?aF ?aO ?aB ?aS ?aL ?_; (case aP => exact Kd.M_row (Kd.R_mono (Kd.R_tight rfl (Kd.R_mono (ok' := fun k_ => ((fun _ => True)) k_ ∧ some k_ ≠ (u3 : Value).ownBlock) (Kd.R_apart' (HO107.out) (Kd.S_typed HO_3.out) (by decide)) (fun k_ hk => ⟨trivial, hk.2⟩))) (fun _ h_ => h_))); (case aB => exact (B1_ HB.out GE101.out)); (case aF => exact (fun _ _ => trivial)); (case aO => exact (by refine SW_ ?_; exact Kd.S_mono HO_3.out (fun k_ hk => ⟨trivial, fun e_ => hk.2 e_⟩))); (case aS => exact (bS_ (B1_ HB.out GE101.out))); (case aL => have := LMc7.out; omega); intro v109 w12 ho hb hg hat; rw [← Ny108.out] at ho; replace BK101 := Zz.mk (qAr (g := gb101) (o := .cells #[.int .i64 a0_0, .int .i64 a0_1, .int .i64 a0_2, .slice A0_3 l0_3.length c0_3] 48 (0, 0)) (KB_ BK101.out) hg (Kd.S_ne HO_3.out BK101.out (by decide))); replace HO104 := Zz.mk (Kd.V_afterv (ok := (fun k_ => some k_ ≠ (.slice Ao13 t105.length co13 : Value).ownBlock ∧ k_ ≠ gb101)) (by refine VW_ ?_; exact Kd.V_mono HO104.out (fun _ hk => ⟨⟨hk.2, hk.1.2⟩, hk.1.1⟩)) hg hat); replace HB := Zz.mk (hb); have HO110 := Zz.mk (ho); clear HO_3; clear HO107; clear ho hb hg hat))
    go_roundg k1
    case measure => exact Q1_ HK1
    case rel => exact ⟨(y108), (wrap64 (x7_1 + 1)), E_, H', ⟨Q1_ HK1⟩, ⟨KS_ HO110.out⟩, ⟨KB_ BK101.out⟩, ⟨B1_ HB.out GE101.out⟩⟩
   rw [if_neg c4] at H
   have c4b0 : decide (x7_1 < a0_1) = false := decide_eq_false c4
   clear c4
   obtain rfl := OI_ H
   go_wp2
   go_ret
   exact ⟨_, F_, KS_ HO_3.out, B1_ HB.out GE101.out⟩
def z147.f (a0 : Int) (a1 : Int) : Option (Int) := if a1 = 0 then (none) else (some (Int.tmod (wrap64 ((Int.tmod a0 a1) + a1)) a1))
theorem z147.calls (a0 : Int) (a1 : Int) (r : Int) (w : World) (h : z147.f a0 a1 = some r) :
  Calls Try.prog 147 #[.int .i64 a0, .int .i64 a1] w fun e w' => e = .returned (.int .i64 r) ∧ Dz w w' := by
 have H : (if a1 = 0 then (none) else (some (Int.tmod (wrap64 ((Int.tmod a0 a1) + a1)) a1))) = some r := h
 clear h
 by_cases c3 : a1 = 0
 ·rw [if_pos c3] at H
  exact X_ H
 rw [if_neg c3] at H
 have c3b0 : (a1 == 0) = false := beq_eq_false_iff_ne.mpr c3
 have c3b1 : (a1 != 0) = true := bne_iff_ne.mpr c3
 obtain rfl := OI_ H
 go_enter Try.func147, Try.ntmps147
 go_wp2
 go_ret
 exact ⟨by first | rfl | (simp; done) | (simp [*]; done), by repeat (first | exact Dz.refl _ | apply Dz.step)⟩
def z176.l0 : Nat → Int → Int → Int → Int → Option (Int)
 | 0, _, _, _, _ => none
 | k + 1, x0, x1, x5, x6 => if x6 > 0 then (if x1 = 0 then (none) else (z176.l0 k x0 x1 (Int.tmod (wrap64 (x5 * x0)) x1) (wrap64 (x6 - 1)))) else (some x5)
def z176.f (k : Nat) (a0 : Int) (a1 : Int) : Option (Int) := z176.l0 k a0 a1 1 (wrap64 (a1 - 2))
theorem z176.calls (k : Nat) (a0 : Int) (a1 : Int) (r : Int) (w : World) (h : z176.f k a0 a1 = some r) :
  Calls Try.prog 176 #[.int .i64 a0, .int .i64 a1] w fun e w' => e = .returned (.int .i64 r) ∧ Dz w w' := by
 have H : (z176.l0 k a0 a1 1 (wrap64 (a1 - 2))) = some r := h
 clear h
 have H' := Zz.mk H
 clear H
 go_enter Try.func176, Try.ntmps176
 go_wp2
 go_loopg [5, 6] k (fun kq v5 v6 w' => ∃ (x5_1 : Int) (x6_1 : Int), v5 = .int .i64 x5_1 ∧ v6 = .int .i64 x6_1 ∧ Zz (z176.l0 kq a0 a1 x5_1 x6_1 = some r) ∧ Zz (kq ≤ k) ∧ Dz w w')
 case atStart => exact ⟨(1), (wrap64 (a1 - 2)), E_, E_, H', ⟨Nat.le_refl _⟩, by repeat (first | exact Dz.refl _ | apply Dz.step)⟩
 case round =>
  clear H'
  obtain ⟨x5_1, x6_1, rfl, rfl, HA, HK1, ⟨m1, rfl⟩⟩ := hrel
  cases gk with
  | zero => exact absurd HA.out (by simp [z176.l0])
  | succ k1 =>
   have H := HA.out
   clear HA
   simp only [z176.l0] at H
   by_cases c3 : x6_1 > 0
   ·rw [if_pos c3] at H
    have c3b0 : decide (0 < x6_1) = true := decide_eq_true c3
    clear c3
    by_cases c4 : a1 = 0
    ·rw [if_pos c4] at H
     exact X_ H
    rw [if_neg c4] at H
    have c4b0 : (a1 == 0) = false := beq_eq_false_iff_ne.mpr c4
    have c4b1 : (a1 != 0) = true := bne_iff_ne.mpr c4
    have H' := Zz.mk H
    clear H
    go_wp2
    go_roundg k1
    case measure => exact Q1_ HK1
    case rel => exact ⟨(Int.tmod (wrap64 (x5_1 * a0)) a1), (wrap64 (x6_1 - 1)), E_, E_, H', ⟨Q1_ HK1⟩, by repeat (first | exact Dz.refl _ | apply Dz.step)⟩
   rw [if_neg c3] at H
   have c3b0 : decide (0 < x6_1) = false := decide_eq_false c3
   clear c3
   obtain rfl := OI_ H
   go_wp2
   go_ret
   exact ⟨by first | rfl | (simp; done) | (simp [*]; done), by repeat (first | exact Dz.refl _ | apply Dz.step)⟩
end Go.Proofs.Ytipkciildhghiaa.B
