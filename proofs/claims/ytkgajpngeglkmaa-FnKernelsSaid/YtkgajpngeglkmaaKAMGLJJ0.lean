/- Printed proofs of functions of the program and of the reference, by a program of this work over the kit's printer. -/
import Derived.Test.YtkgajpngeglkmaaKLBBOAD0
import Derived.Test.YtkgajpngeglkmaaKMFOOHB0
import Derived.Test.YtkgajpngeglkmaaKW0
namespace Go.Proofs.Ytkgajpngeglkmaa.B
open Go.RowKit Go.Proofs.YtkgajpngeglkmaaW.PrintWords Go.Proofs.YtkgajpngeglkmaaW.PrintLast Go.Proofs.YtkgajpngeglkmaaW.PrintMore
attribute [local go_sem] qAr qAp qAv qAu qAm qAl qAq qAo
set_option linter.unusedVariables false
set_option linter.unusedSimpArgs false
mutual
def z133.l0 : Nat → Int → Int → Int → Int → List Int → Int → Int → Int → Int → Int → List Int → Option (Int × Int × Int × List Int × Int × Int)
 | 0, _, _, _, _, _, _, _, _, _, _, _ => none
 | k + 1, x1, x2, x3, x10, x1000, x1001, x1002, x109000, x109001, x109002, x109003 => if x10 < (x109003.length : Int) then ((z71.f x1000 x1001 x1002 3).bind fun bt109 => (if bt109.1 > 0 then ((z71.f x1000 bt109.2.1 bt109.2.2 x1).bind fun bt112 => (if 0 ≤ x10 then (z133.l0 k x1 x2 x3 (wrap64 (x10 + 1)) x1000 bt112.2.1 bt112.2.2 x109000 x109001 x109002 (x109003.set (x10 : Int).toNat bt112.1)) else (none))) else (z133.l0 k x1 x2 x3 (wrap64 (x10 + 1)) x1000 bt109.2.1 bt109.2.2 x109000 x109001 x109002 x109003))) else (if x2 > 1 then ((z104.f x1000 x1001 x1002 3).bind fun bt116 => (z133.j1 k x1 x2 x3 bt116.1 x1000 bt116.2.1 bt116.2.2 x109000 x109001 x109002 x109003)) else (z133.j1 k x1 x2 x3 false x1000 x1001 x1002 x109000 x109001 x109002 x109003))
def z133.j1 : Nat → Int → Int → Int → Bool → List Int → Int → Int → Int → Int → Int → List Int → Option (Int × Int × Int × List Int × Int × Int)
 | 0, _, _, _, _, _, _, _, _, _, _, _ => none
 | k + 1, x1, x2, x3, x38, x1000, x1001, x1002, x109000, x109001, x109002, x109003 => if x38 = true then (z133.l1 k x1 x2 x3 0 x1000 x1001 x1002 x109000 x109001 x109002 x109003) else (some (x109000, x109001, x109002, x109003, x1001, x1002))
def z133.l1 : Nat → Int → Int → Int → Int → List Int → Int → Int → Int → Int → Int → List Int → Option (Int × Int × Int × List Int × Int × Int)
 | 0, _, _, _, _, _, _, _, _, _, _, _ => none
 | k + 1, x1, x2, x3, x11, x1000, x1001, x1002, x109000, x109001, x109002, x109003 => if x11 < x3 then (if 0 ≤ x11 then (if x11 < (x109003.length : Int) then (if x1 = 0 then (none) else (if 0 ≤ (wrap64 ((wrap64 ((wrap64 (x2 - 1)) * x3)) + x11)) then (if (wrap64 ((wrap64 ((wrap64 (x2 - 1)) * x3)) + x11)) < (x109003.length : Int) then (z133.l1 k x1 x2 x3 (wrap64 (x11 + 1)) x1000 x1001 x1002 x109000 x109001 x109002 (x109003.set ((wrap64 ((wrap64 ((wrap64 (x2 - 1)) * x3)) + x11)) : Int).toNat (Int.tmod (wrap64 ((rd x109003 x11) * 2)) x1))) else (none)) else (none))) else (none)) else (none)) else (some (x109000, x109001, x109002, x109003, x1001, x1002))
end
def z133.f (k : Nat) (s0_0 : List Int) (s0_1 : Int) (s0_2 : Int) (a1 : Int) (a2 : Int) (a3 : Int) : Option (Int × Int × Int × List Int × Int × Int) := (z140.f a1 a2 a3).bind fun bt102 => (z133.l0 k a1 a2 a3 0 s0_0 s0_1 s0_2 bt102.1 bt102.2.1 bt102.2.2.1 bt102.2.2.2)
def z133.T6 : Bool × List (List Nat × List Nat) := (true, [([], []), ([0], [0]), ([], []), ([], []), ([], []), ([3, 4], [3, 4]), ([1, 2, 0, 1, 2, 3, 4, 5], [1, 2]), ([6, 5, 5, 0, 1, 2, 3, 4, 5], [5, 6])])
def z133.B6 : List Nat := [0, 1, 0, 0, 0, 24, 63, 127]
theorem z133.tab6 : rtab .any (qCc Try.f133 6) = z133.T6 := by kernel_rfl
theorem z133.bits6 : qBa z133.T6.2 z133.B6 = true := by kernel_rfl
def z133.T11 : Bool × List (List Nat × List Nat) := (true, [([], []), ([0], [0]), ([], []), ([2], [2]), ([], []), ([3, 4], [3, 4]), ([], []), ([5, 6], [5, 6]), ([], []), ([8], [8]), ([], []), ([9, 10], [9, 10]), ([11], [11]), ([12], [12]), ([], []), ([13, 14], [13, 14]), ([1, 7, 0, 1, 2, 3, 4, 5, 6, 7, 8, 9, 10, 11, 12, 13, 14, 15], [1, 7]), ([16, 15, 0, 1, 2, 3, 4, 5, 6, 7, 8, 9, 10, 11, 12, 13, 14, 15], [15, 16])])
def z133.B11 : List Nat := [0, 1, 0, 4, 0, 28, 0, 124, 0, 256, 0, 1792, 3840, 7936, 0, 32512, 65535, 131071]
theorem z133.tab11 : rtab .any (qCc Try.f133 11) = z133.T11 := by kernel_rfl
theorem z133.bits11 : qBa z133.T11.2 z133.B11 = true := by kernel_rfl
set_option maxHeartbeats 8000000 in
set_option maxRecDepth 100000 in
theorem z133.calls (k : Nat) (g : Nat) (s0_0 : List Int) (s0_1 : Int) (s0_2 : Int) (a1 : Int) (a2 : Int) (a3 : Int) (r1 : Int) (r2 : Int) (r3 : Int) (r4 : List Int) (r5 : Int) (r6 : Int) (w0 w : World) (hI : qAa w0 w g s0_0 s0_1 s0_2) (hB : Below w0.heap.size w0 w) (h : z133.f k s0_0 s0_1 s0_2 a1 a2 a3 = some (r1, r2, r3, r4, r5, r6)) :
  Calls Try.prog 133 #[.pointer (some ⟨g, 0, none⟩), .int .i64 a1, .int .i64 a2, .int .i64 a3] w fun e w' => ∃ v3_ : Value, e = .returned (.agg #[.int .i64 r1, .int .i64 r2, .int .i64 r3, v3_]) ∧ Kd.R (Kd.int .i64) 2 w' w.heap.size (fun _ => True) v3_ r4 ∧ qAa w0 w' g s0_0 r5 r6 ∧ Below w0.heap.size w0 w' ∧ qAc w w' g none := by
 have hu55 := Try.underlying55
 have HI0 := Zz.mk hI
 have HK := Zz.mk (qAc.refl w g none)
 have HL := Zz.mk hB.size
 clear hI
 have HW0 := Zz.mk hB.size
 have HB := Zz.mk hB
 clear hB
 have H : ((z140.f a1 a2 a3).bind fun bt102 => (z133.l0 k a1 a2 a3 0 s0_0 s0_1 s0_2 bt102.1 bt102.2.1 bt102.2.2.1 bt102.2.2.2)) = some (r1, r2, r3, r4, r5, r6) := h
 clear h
 replace H := OB_ H
 obtain ⟨⟨t102, t103, t104, t105⟩, A50, H⟩ := H
 replace H : (z133.l0 k a1 a2 a3 0 s0_0 s0_1 s0_2 t102 t103 t104 t105) = some (r1, r2, r3, r4, r5, r6) := H
 have A5 := Zz.mk A50
 clear A50
 have H' := Zz.mk H
 clear H
 go_enter Try.func133, Try.ntmps133
 go_wp2_with (first | ((with_reducible refine qAn (N := 8) rfl ?_); refine bx_ 8 #[.int .i64 0, .int .i64 0, .int .i64 0, .slice none 0 0] 55 ?_; intro gb101 hg w6 hbox hb; have BK101 := Zz.mk (hbox); have GW101 := Zz.mk ((by rw [hg]; exact (qAy (w := w) (g := g) (row := none) (by repeat (first | (with_reducible first | exact HK.out | apply qAc.set_ | apply qAf | apply qAj | apply qAg) | exact HK.out))) : w.heap.size ≤ gb101)); have GE101 := Zz.mk ((Nat.le_trans HW0.out (by rw [hg]; exact (qAy (w := w) (g := g) (row := none) (by repeat (first | (with_reducible first | exact HK.out | apply qAc.set_ | apply qAf | apply qAj | apply qAg) | exact HK.out))) : w.heap.size ≤ gb101) : w0.heap.size ≤ gb101)); have NB0_101 := Zz.mk ((by rw [hg]; exact Nat.ne_of_lt (qAa.lt (show qAa w0 _ g s0_0 s0_1 s0_2 from by repeat (first | (with_reducible first | exact HI0.out | apply qAa.alloc | apply qAa.drewN | apply qAa.drew | apply qAa.set_1 | apply qAa.set_2) | exact HI0.out))) : g ≠ gb101)); have NB101_0 := Zz.mk ((by rw [hg]; exact Nat.ne_of_gt (qAa.lt (show qAa w0 _ g s0_0 s0_1 s0_2 from by repeat (first | (with_reducible first | exact HI0.out | apply qAa.alloc | apply qAa.drewN | apply qAa.drew | apply qAa.set_1 | apply qAa.set_2) | exact HI0.out))) : gb101 ≠ g)); replace HK := Zz.mk (qAc.trans (by repeat (first | (with_reducible first | exact HK.out | apply qAc.set_ | apply qAf | apply qAj | apply qAg) | exact HK.out)) (qAc.of_below hb g none) (.inl rfl)); replace HB := Zz.mk (bT_ (by repeat (first | (with_reducible first | exact HB.out | apply qAi | apply qAd | apply qAe | refine qAb ?_ (qAa.ge HI0.out)) | exact HB.out)) hb); replace HI0 := Zz.mk (qAa.below (by repeat (first | (with_reducible first | exact HI0.out | apply qAa.alloc | apply qAa.drewN | apply qAa.drew | apply qAa.set_1 | apply qAa.set_2) | exact HI0.out)) hb); clear hb hbox hg) | ((with_reducible refine gC_ (f := 140) rfl ?_); refine GL_ (some 15) rfl rfl Try.func140 #[.int .i64 a1, .int .i64 a2, .int .i64 a3] rfl (h := ?_); (with_reducible refine (z140.calls a1 a2 a3 t102 t103 t104 t105 _ A5.out).mono ?_); rintro e w7 ⟨v106, rfl, ho0, hb⟩; refine ⟨_, rfl, ?_⟩; have HO107 := Zz.mk (Kd.R_lower ho0 (qAy (w := w) (g := g) (row := none) (by repeat (first | (with_reducible first | exact HK.out | apply qAc.set_ | apply qAf | apply qAj | apply qAg | refine qAk ?_ GW101.out _) | exact HK.out)))); replace BK101 := Zz.mk (kb_ BK101.out hb); replace HK := Zz.mk (qAc.trans (by repeat (first | (with_reducible first | exact HK.out | apply qAc.set_ | apply qAf | apply qAj | apply qAg | refine qAk ?_ GW101.out _) | exact HK.out)) (qAc.of_below hb g none) (.inl rfl)); replace HB := Zz.mk (bT_ (by repeat (first | (with_reducible first | exact HB.out | apply qAi | apply qAd | apply qAe | refine qAb ?_ (qAa.ge HI0.out) | refine qAb ?_ GE101.out) | exact HB.out)) hb); replace HI0 := Zz.mk (qAa.below (by repeat (first | (with_reducible first | exact HI0.out | apply qAa.alloc | apply qAa.drewN | apply qAa.drew | apply qAa.set_1 | apply qAa.set_2 | refine qAa.far ?_ NB0_101.out _) | exact HI0.out)) hb); (try clear hb)) | ((with_reducible refine qAn (N := 9) rfl ?_); refine bx_ 9 #[.int .i64 0, .int .i64 0, .int .i64 0, .slice none 0 0] 55 ?_; intro gb108 hg w8 hbox hb; have BK108 := Zz.mk (hbox); have GW108 := Zz.mk ((by rw [hg]; exact (qAy (w := w) (g := g) (row := none) (by repeat (first | (with_reducible first | exact HK.out | apply qAc.set_ | apply qAf | apply qAj | apply qAg | refine qAk ?_ GW101.out _) | exact HK.out))) : w.heap.size ≤ gb108)); have GE108 := Zz.mk ((Nat.le_trans HW0.out (by rw [hg]; exact (qAy (w := w) (g := g) (row := none) (by repeat (first | (with_reducible first | exact HK.out | apply qAc.set_ | apply qAf | apply qAj | apply qAg | refine qAk ?_ GW101.out _) | exact HK.out))) : w.heap.size ≤ gb108) : w0.heap.size ≤ gb108)); have NB101_108 := Zz.mk ((nb_ BK101.out hg)); have NB108_101 := Zz.mk NB101_108.out.symm; have NB0_108 := Zz.mk ((by rw [hg]; exact Nat.ne_of_lt (qAa.lt (show qAa w0 _ g s0_0 s0_1 s0_2 from by repeat (first | (with_reducible first | exact HI0.out | apply qAa.alloc | apply qAa.drewN | apply qAa.drew | apply qAa.set_1 | apply qAa.set_2 | refine qAa.far ?_ NB0_101.out _) | exact HI0.out))) : g ≠ gb108)); have NB108_0 := Zz.mk ((by rw [hg]; exact Nat.ne_of_gt (qAa.lt (show qAa w0 _ g s0_0 s0_1 s0_2 from by repeat (first | (with_reducible first | exact HI0.out | apply qAa.alloc | apply qAa.drewN | apply qAa.drew | apply qAa.set_1 | apply qAa.set_2 | refine qAa.far ?_ NB0_101.out _) | exact HI0.out))) : gb108 ≠ g)); replace HO107 := Zz.mk (Kd.R_below (KR_ HO107.out) hb); replace BK101 := Zz.mk (kb_ BK101.out hb); replace HK := Zz.mk (qAc.trans (by repeat (first | (with_reducible first | exact HK.out | apply qAc.set_ | apply qAf | apply qAj | apply qAg | refine qAk ?_ GW101.out _) | exact HK.out)) (qAc.of_below hb g none) (.inl rfl)); replace HB := Zz.mk (bT_ (by repeat (first | (with_reducible first | exact HB.out | apply qAi | apply qAd | apply qAe | refine qAb ?_ (qAa.ge HI0.out) | refine qAb ?_ GE101.out) | exact HB.out)) hb); replace HI0 := Zz.mk (qAa.below (by repeat (first | (with_reducible first | exact HI0.out | apply qAa.alloc | apply qAa.drewN | apply qAa.drew | apply qAa.set_1 | apply qAa.set_2 | refine qAa.far ?_ NB0_101.out _) | exact HI0.out)) hb); clear hb hbox hg; have hnb9 := NB108_101.out; have hnc9 := NB101_108.out; have hnb10 := NB108_0.out; have hnc10 := NB0_108.out; obtain ⟨hcz11_0, hcz11_1, hcz11_2, hcz11_3, hfz11_0, hfz11_1, hfz11_2, hfz11_3⟩ := Z4f_ BK108.out; obtain ⟨Ao12, co12, eo12⟩ := Kd.R_slice HO107.out; subst eo12))
 go_loopg [10] k (fun kq v10 w' => ∃ (x10_1 : Int) (x1001_1 : Int) (x1002_1 : Int) (x109003_1 : List Int) (u109003 : Value), v10 = .int .i64 x10_1 ∧ Zz (z133.l0 kq a1 a2 a3 x10_1 s0_0 x1001_1 x1002_1 t102 t103 t104 x109003_1 = some (r1, r2, r3, r4, r5, r6)) ∧ Zz (kq ≤ k) ∧ Zz (Kd.R (Kd.int .i64) 2 w' w.heap.size (fun _ => True) u109003 x109003_1) ∧ Zz (w'.heap[gb101]? = some (.cells #[.int .i64 0, .int .i64 0, .int .i64 0, (.slice none 0 0)] 55 (0, 0))) ∧ Zz (w'.heap[gb108]? = some (.cells #[.int .i64 t102, .int .i64 t103, .int .i64 t104, u109003] 55 (0, 0))) ∧ Zz (qAa w0 w' g s0_0 x1001_1 x1002_1) ∧ Zz (qAc w w' g none) ∧ Zz (Below w0.heap.size w0 w'))
 case atStart => exact ⟨(0), (s0_1), (s0_2), (t105), (.slice Ao12 t105.length co12), E_, H', ⟨Nat.le_refl _⟩, ⟨by refine RW_ ?_; exact Kd.R_mono (Kd.R_far (p := ⟨gb108, 3, none⟩) (Kd.R_far (p := ⟨gb108, 2, none⟩) (Kd.R_far (p := ⟨gb108, 1, none⟩) (Kd.R_far (p := ⟨gb108, 0, none⟩) (Kd.R_types HO107.out BK108.out (by decide)) (fun _ hk => hk.2) (.int .i64 t102)) (fun _ hk => hk.2) (.int .i64 t103)) (fun _ hk => hk.2) (.int .i64 t104)) (fun _ hk => hk.2) (.slice Ao12 t105.length co12)) (fun _ hk => trivial)⟩, ⟨by refine BW_ ?_; refine bR_ ?_ NB101_108.out _; refine BW_ ?_; refine bR_ ?_ NB101_108.out _; refine BW_ ?_; refine bR_ ?_ NB101_108.out _; refine BW_ ?_; refine bR_ ?_ NB101_108.out _; refine BW_ ?_; exact BK101.out⟩, ⟨by refine BW_ ?_; refine bP_ (cs := #[.int .i64 t102, .int .i64 t103, .int .i64 t104, .slice none 0 0]) ?_ 3 _ rfl; refine BW_ ?_; refine bP_ (cs := #[.int .i64 t102, .int .i64 t103, .int .i64 0, .slice none 0 0]) ?_ 2 _ rfl; refine BW_ ?_; refine bP_ (cs := #[.int .i64 t102, .int .i64 0, .int .i64 0, .slice none 0 0]) ?_ 1 _ rfl; refine BW_ ?_; refine bP_ (cs := #[.int .i64 0, .int .i64 0, .int .i64 0, .slice none 0 0]) ?_ 0 _ rfl; refine BW_ ?_; exact BK108.out⟩, ⟨by repeat (first | (with_reducible first | exact HI0.out | apply qAa.alloc | apply qAa.drewN | apply qAa.drew | apply qAa.set_1 | apply qAa.set_2 | refine qAa.far ?_ NB0_101.out _ | refine qAa.far ?_ NB0_108.out _) | exact HI0.out)⟩, ⟨by repeat (first | (with_reducible first | exact HK.out | apply qAc.set_ | apply qAf | apply qAj | apply qAg | refine qAk ?_ GW101.out _ | refine qAk ?_ GW108.out _) | exact HK.out)⟩, ⟨by repeat (first | (with_reducible first | exact HB.out | apply qAi | apply qAd | apply qAe | refine qAb ?_ (qAa.ge HI0.out) | refine qAb ?_ GE101.out | refine qAb ?_ GE108.out) | exact HB.out)⟩⟩
 case round =>
  clear H'
  (try clear hcz11_0);(try clear hcz11_1);(try clear hcz11_2);(try clear hcz11_3);(try clear hfz11_0);(try clear hfz11_1);(try clear hfz11_2);(try clear hfz11_3)
  obtain ⟨x10_1, x1001_1, x1002_1, x109003_1, u109003, rfl, HA, HK1, HO_109003, BK101, BK108, HI0, HK, HB⟩ := hrel
  cases gk with
  | zero => exact absurd HA.out (by simp [z133.l0])
  | succ k1 =>
   have H := HA.out
   clear HA
   simp only [z133.l0] at H
   by_cases c13 : x10_1 < (x109003_1.length : Int)
   ·rw [if_pos c13] at H
    have c13b0 : decide (x10_1 < (x109003_1.length : Int)) = true := decide_eq_true c13
    clear c13
    replace H := OB_ H
    obtain ⟨⟨t109, t110, t111⟩, A140, H⟩ := H
    replace H : (if t109 > 0 then ((z71.f s0_0 t110 t111 a1).bind fun bt112 => (if 0 ≤ x10_1 then (z133.l0 k1 a1 a2 a3 (wrap64 (x10_1 + 1)) s0_0 bt112.2.1 bt112.2.2 t102 t103 t104 (x109003_1.set (x10_1 : Int).toNat bt112.1)) else (none))) else (z133.l0 k1 a1 a2 a3 (wrap64 (x10_1 + 1)) s0_0 t110 t111 t102 t103 t104 x109003_1)) = some (r1, r2, r3, r4, r5, r6) := H
    have A14 := Zz.mk A140
    clear A140
    by_cases c15 : t109 > 0
    ·rw [if_pos c15] at H
     have c15b0 : decide (0 < t109) = true := decide_eq_true c15
     clear c15
     replace H := OB_ H
     obtain ⟨⟨t112, t113, t114⟩, A160, H⟩ := H
     replace H : (if 0 ≤ x10_1 then (z133.l0 k1 a1 a2 a3 (wrap64 (x10_1 + 1)) s0_0 t113 t114 t102 t103 t104 (x109003_1.set (x10_1 : Int).toNat t112)) else (none)) = some (r1, r2, r3, r4, r5, r6) := H
     have A16 := Zz.mk A160
     clear A160
     have c17b0 := O3_ H
     replace H := O2_ H
     obtain ⟨y115, hy115⟩ : ∃ y_ : List Int, y_ = (x109003_1.set (x10_1 : Int).toNat t112) := ⟨_, rfl⟩
     replace H : (z133.l0 k1 a1 a2 a3 (wrap64 (x10_1 + 1)) s0_0 t113 t114 t102 t103 t104 y115) = some (r1, r2, r3, r4, r5, r6) := Y_ hy115 H
     have Ny115 := Zz.mk hy115
     clear hy115
     have H' := Zz.mk H
     clear H
     have hnb19 := NB108_101.out
     have hnc19 := NB101_108.out
     have hnb20 := NB108_0.out
     have hnc20 := NB0_108.out
     obtain ⟨hcz21_0, hcz21_1, hcz21_2, hcz21_3, hfz21_0, hfz21_1, hfz21_2, hfz21_3⟩ := Z4f_ BK108.out
     obtain ⟨Ao22, co22, eo22⟩ := Kd.R_slice HO_109003.out
     subst eo22
     try go_wp2_with (first | ((with_reducible refine gC_ (f := 71) rfl ?_); refine GL_ (some 24) rfl rfl Try.func71 #[.pointer (some ⟨g, 0, none⟩), .int .i64 3] rfl (h := ?_); (with_reducible refine (z71.calls g s0_0 x1001_1 x1002_1 3 t109 t110 t111 w0 _ ?side1 ?side2 A14.out).mono ?_); (case side1 => repeat (first | (with_reducible first | exact HI0.out | apply qAa.alloc | apply qAa.drewN | apply qAa.drew | apply qAa.set_1 | apply qAa.set_2 | refine qAa.far ?_ NB0_101.out _ | refine qAa.far ?_ NB0_108.out _) | exact HI0.out)); (case side2 => repeat (first | (with_reducible first | exact HB.out | apply qAi | apply qAd | apply qAe | refine qAb ?_ (qAa.ge HI0.out) | refine qAb ?_ GE101.out | refine qAb ?_ GE108.out) | exact HB.out)); rintro e w23 ⟨rfl, hi, hb, hk⟩; refine ⟨_, rfl, ?_⟩; replace HO_109003 := Zz.mk (Kd.R_mono (Kd.R_keep (qAa.apart (show qAa w0 _ g s0_0 x1001_1 x1002_1 from by repeat (first | (with_reducible first | exact HI0.out | apply qAa.alloc | apply qAa.drewN | apply qAa.drew | apply qAa.set_1 | apply qAa.set_2 | refine qAa.far ?_ NB0_101.out _ | refine qAa.far ?_ NB0_108.out _) | exact HI0.out)) (KR_ HO_109003.out) (by decide)) hk (fun _ h => h.2)) (fun _ h => h.1)); replace BK101 := Zz.mk (qAc.blk hk (g' := gb101) (o := .cells #[.int .i64 0, .int .i64 0, .int .i64 0, .slice none 0 0] 55 (0, 0)) (KB_ BK101.out) NB101_0.out (by simp)); replace BK108 := Zz.mk (qAc.blk hk (g' := gb108) (o := .cells #[.int .i64 t102, .int .i64 t103, .int .i64 t104, .slice Ao22 x109003_1.length co22] 55 (0, 0)) (KB_ BK108.out) NB108_0.out (by simp)); replace HK := Zz.mk (qAc.trans (by repeat (first | (with_reducible first | exact HK.out | apply qAc.set_ | apply qAf | apply qAj | apply qAg | refine qAk ?_ GW101.out _ | refine qAk ?_ GW108.out _) | exact HK.out)) hk (.inl rfl)); replace HB := Zz.mk (hb); replace HI0 := Zz.mk (hi); (try clear hb); (try clear hk); (try clear hi)))
     replace HO_109003 := Zz.mk (Kd.R_drew HO_109003.out)
     replace BK101 := Zz.mk (bD_ BK101.out)
     replace BK108 := Zz.mk (bD_ BK108.out)
     replace HI0 := Zz.mk (qAa.drew HI0.out)
     replace HK := Zz.mk (qAj HK.out)
     replace HB := Zz.mk (qAe HB.out)
     refine qBd (n := 8) (S := fun w' => w'.cell? ⟨gb108, 0, none⟩ = some (.int .i64 t102) ∧ w'.cell? ⟨gb108, 1, none⟩ = some (.int .i64 t103) ∧ w'.cell? ⟨gb108, 2, none⟩ = some (.int .i64 t104) ∧ w'.cell? ⟨gb108, 3, none⟩ = some (.slice Ao22 x109003_1.length co22)) (ds := [7]) (tb_ 8 0) (by kernel_rfl) rfl rfl (Z4_ BK108.out) (fun hHeld => ?_); refine qA1 z133.tab6 z133.bits6 (fun HT_ HW_ => ?_)
     generalize w23.drew = w24 at HO_109003 BK101 BK108 HI0 HK HB hHeld ⊢
     refine PX_ 0 26 (tb_ 8 1) HT_ rfl rfl ?_
     refine PX_ 2 28 (tb_ 8 5) HT_ rfl rfl ?_
     refine PX_ 3 29 (tb_ 8 13) HT_ rfl rfl ?_
     refine PX_ 4 30 (tb_ 8 29) HT_ rfl rfl ?_
     refine TV_ (i := 1) (N := some 27) (tb_ 8 31) HT_ HW_ rfl rfl hHeld (by rintro w' ⟨s0, s1, s2, s3⟩; go_simp; with_reducible rfl) (h := ?_)
     refine one_ (i := 5) (N := some 31) (tb_ 8 63) rfl rfl (qA0 HT_.out (by kernel_rfl)) (by decide) (fun K hK => ?_)
     refine GO_ Try.func71 #[.pointer (some ⟨g, 0, none⟩), .int .i64 a1] (h := ?_)
     with_reducible refine (z71.calls g s0_0 t110 t111 a1 t112 t113 t114 w0 _ ?side1 ?side2 A16.out).mono ?_
     (case side1 => repeat (first | (with_reducible first | exact HI0.out | apply qAa.alloc | apply qAa.drewN | apply qAa.drew | apply qAa.set_1 | apply qAa.set_2 | refine qAa.far ?_ NB0_101.out _ | refine qAa.far ?_ NB0_108.out _) | exact HI0.out))
     (case side2 => repeat (first | (with_reducible first | exact HB.out | apply qAi | apply qAd | apply qAe | refine qAb ?_ (qAa.ge HI0.out) | refine qAb ?_ GE101.out | refine qAb ?_ GE108.out) | exact HB.out))
     rintro e w25 ⟨rfl, hi, hb, hk⟩
     refine ⟨_, rfl, ?_⟩
     replace HO_109003 := Zz.mk (Kd.R_mono (Kd.R_keep (qAa.apart (show qAa w0 _ g s0_0 t110 t111 from by repeat (first | (with_reducible first | exact HI0.out | apply qAa.alloc | apply qAa.drewN | apply qAa.drew | apply qAa.set_1 | apply qAa.set_2 | refine qAa.far ?_ NB0_101.out _ | refine qAa.far ?_ NB0_108.out _) | exact HI0.out)) (KR_ HO_109003.out) (by decide)) hk (fun _ h => h.2)) (fun _ h => h.1))
     replace BK101 := Zz.mk (qAc.blk hk (g' := gb101) (o := .cells #[.int .i64 0, .int .i64 0, .int .i64 0, .slice none 0 0] 55 (0, 0)) (KB_ BK101.out) NB101_0.out (by simp))
     replace BK108 := Zz.mk (qAc.blk hk (g' := gb108) (o := .cells #[.int .i64 t102, .int .i64 t103, .int .i64 t104, .slice Ao22 x109003_1.length co22] 55 (0, 0)) (KB_ BK108.out) NB108_0.out (by simp))
     replace HK := Zz.mk (qAc.trans (by repeat (first | (with_reducible first | exact HK.out | apply qAc.set_ | apply qAf | apply qAj | apply qAg | refine qAk ?_ GW101.out _ | refine qAk ?_ GW108.out _) | exact HK.out)) hk (.inl rfl))
     replace HB := Zz.mk (hb)
     replace HI0 := Zz.mk (hi)
     (try clear hb);(try clear hk);(try clear hi)
     have p18 : 0 ≤ (x10_1 : Int) := D_
     have q18 : (x10_1 : Int) < ((x109003_1.length : Int) : Int) := D_
     obtain ⟨go18, co18, eo18, gb18, gl18, cl18, HG18⟩ := Kd.R_form HO_109003.out (by omega)
     (first | cases eo18 | (injection eo18 with ea_ en_ ec_; (first | subst ea_ | (injection ea_ with ea_; subst ea_)); subst ec_; clear en_))
     have GB18 := Zz.mk gb18
     have GG18 := Zz.mk HG18
     clear gb18 gl18 HG18
     obtain ⟨hx18_0, hf18_0⟩ := Kd.R_celln 0 HO_109003.out (x10_1 : Int) p18 q18
     replace p18 := eq_true p18
     replace q18 := eq_true q18
     have HN0_go18 := Zz.mk (show g ≠ go18 from by have h_ := qAa.own_ne HI0.out HO_109003.out (by decide); intro e_; exact h_ (by rw [e_]; rfl))
     have HP26 := Kd.R_putn HO_109003.out (x10_1 : Int) t112
     rw [← Ny115.out] at HP26
     have HQ26 := Zz.mk HP26
     clear HP26
     refine hK.out _ _ (Z4_ BK108.out) (fun hHeld => ?_)
     clear hK K
     refine NM_ (N := (some 31)) (h := ?_)
     refine PX_ 6 32 (tb_ 8 127) HT_ rfl rfl ?_
     refine qDy (i := 7) (N := none) (tb_ 8 255) rfl rfl (qA0 HT_.out (by kernel_rfl)) (by decide) (fun K hK => ?_)
     refine qC8 (w1 := ?_) (by rfl) rfl ?_ ?_
     rotate_left
     ·go_simp
      rfl
     refine hK.out _ _ ?_
     clear hK K
     refine qBq (qA5 HT_.out (by kernel_rfl)) ?_
     try go_wp2
     go_roundg k1
     case measure => exact Q1_ HK1
     case rel => exact ⟨(wrap64 (x10_1 + 1)), (t113), (t114), (y115), (.slice (some ⟨go18, 0, none⟩) x109003_1.length co22), E_, H', ⟨Q1_ HK1⟩, ⟨KR_ HQ26.out⟩, ⟨by refine BW_ ?_; refine bR_ ?_ (by have h_ := Kd.R_ne HO_109003.out BK101.out (by decide); intro e_; exact h_ (by rw [e_]; rfl)) _; refine BW_ ?_; exact BK101.out⟩, ⟨by refine BW_ ?_; refine bR_ ?_ (by have h_ := Kd.R_ne HO_109003.out BK108.out (by decide); intro e_; exact h_ (by rw [e_]; rfl)) _; refine BW_ ?_; exact BK108.out⟩, ⟨by repeat (first | (with_reducible first | exact HI0.out | apply qAa.alloc | apply qAa.drewN | apply qAa.drew | apply qAa.set_1 | apply qAa.set_2 | refine qAa.far ?_ HN0_go18.out _ | refine qAa.far ?_ NB0_101.out _ | refine qAa.far ?_ NB0_108.out _) | exact HI0.out)⟩, ⟨by repeat (first | (with_reducible first | exact HK.out | apply qAc.set_ | apply qAf | apply qAj | apply qAg | refine qAk ?_ GB18.out _ | refine qAk ?_ GW101.out _ | refine qAk ?_ GW108.out _) | exact HK.out)⟩, ⟨by repeat (first | (with_reducible first | exact HB.out | apply qAi | apply qAd | apply qAe | refine qAb ?_ (Nat.le_trans HL.out GB18.out) | refine qAb ?_ (qAa.ge HI0.out) | refine qAb ?_ GE101.out | refine qAb ?_ GE108.out) | exact HB.out)⟩⟩
    rw [if_neg c15] at H
    have c15b0 : decide (0 < t109) = false := decide_eq_false c15
    clear c15
    have H' := Zz.mk H
    clear H
    have hnb27 := NB108_101.out
    have hnc27 := NB101_108.out
    have hnb28 := NB108_0.out
    have hnc28 := NB0_108.out
    obtain ⟨hcz29_0, hcz29_1, hcz29_2, hcz29_3, hfz29_0, hfz29_1, hfz29_2, hfz29_3⟩ := Z4f_ BK108.out
    obtain ⟨Ao30, co30, eo30⟩ := Kd.R_slice HO_109003.out
    subst eo30
    go_wp2_with (first | ((with_reducible refine gC_ (f := 71) rfl ?_); refine GL_ (some 24) rfl rfl Try.func71 #[.pointer (some ⟨g, 0, none⟩), .int .i64 3] rfl (h := ?_); (with_reducible refine (z71.calls g s0_0 x1001_1 x1002_1 3 t109 t110 t111 w0 _ ?side1 ?side2 A14.out).mono ?_); (case side1 => repeat (first | (with_reducible first | exact HI0.out | apply qAa.alloc | apply qAa.drewN | apply qAa.drew | apply qAa.set_1 | apply qAa.set_2 | refine qAa.far ?_ NB0_101.out _ | refine qAa.far ?_ NB0_108.out _) | exact HI0.out)); (case side2 => repeat (first | (with_reducible first | exact HB.out | apply qAi | apply qAd | apply qAe | refine qAb ?_ (qAa.ge HI0.out) | refine qAb ?_ GE101.out | refine qAb ?_ GE108.out) | exact HB.out)); rintro e w31 ⟨rfl, hi, hb, hk⟩; refine ⟨_, rfl, ?_⟩; replace HO_109003 := Zz.mk (Kd.R_mono (Kd.R_keep (qAa.apart (show qAa w0 _ g s0_0 x1001_1 x1002_1 from by repeat (first | (with_reducible first | exact HI0.out | apply qAa.alloc | apply qAa.drewN | apply qAa.drew | apply qAa.set_1 | apply qAa.set_2 | refine qAa.far ?_ NB0_101.out _ | refine qAa.far ?_ NB0_108.out _) | exact HI0.out)) (KR_ HO_109003.out) (by decide)) hk (fun _ h => h.2)) (fun _ h => h.1)); replace BK101 := Zz.mk (qAc.blk hk (g' := gb101) (o := .cells #[.int .i64 0, .int .i64 0, .int .i64 0, .slice none 0 0] 55 (0, 0)) (KB_ BK101.out) NB101_0.out (by simp)); replace BK108 := Zz.mk (qAc.blk hk (g' := gb108) (o := .cells #[.int .i64 t102, .int .i64 t103, .int .i64 t104, .slice Ao30 x109003_1.length co30] 55 (0, 0)) (KB_ BK108.out) NB108_0.out (by simp)); replace HK := Zz.mk (qAc.trans (by repeat (first | (with_reducible first | exact HK.out | apply qAc.set_ | apply qAf | apply qAj | apply qAg | refine qAk ?_ GW101.out _ | refine qAk ?_ GW108.out _) | exact HK.out)) hk (.inl rfl)); replace HB := Zz.mk (hb); replace HI0 := Zz.mk (hi); (try clear hb); (try clear hk); (try clear hi)))
    go_roundg k1
    case measure => exact Q1_ HK1
    case rel => exact ⟨(wrap64 (x10_1 + 1)), (t110), (t111), (x109003_1), (.slice Ao30 x109003_1.length co30), E_, H', ⟨Q1_ HK1⟩, ⟨KR_ HO_109003.out⟩, ⟨KB_ BK101.out⟩, ⟨KB_ BK108.out⟩, ⟨by repeat (first | (with_reducible first | exact HI0.out | apply qAa.alloc | apply qAa.drewN | apply qAa.drew | apply qAa.set_1 | apply qAa.set_2 | refine qAa.far ?_ NB0_101.out _ | refine qAa.far ?_ NB0_108.out _) | exact HI0.out)⟩, ⟨by repeat (first | (with_reducible first | exact HK.out | apply qAc.set_ | apply qAf | apply qAj | apply qAg | refine qAk ?_ GW101.out _ | refine qAk ?_ GW108.out _) | exact HK.out)⟩, ⟨by repeat (first | (with_reducible first | exact HB.out | apply qAi | apply qAd | apply qAe | refine qAb ?_ (qAa.ge HI0.out) | refine qAb ?_ GE101.out | refine qAb ?_ GE108.out) | exact HB.out)⟩⟩
   rw [if_neg c13] at H
   have c13b0 : decide (x10_1 < (x109003_1.length : Int)) = false := decide_eq_false c13
   clear c13
   have HC32 := Zz.mk H
   clear H
   have hnb33 := NB108_101.out
   have hnc33 := NB101_108.out
   have hnb34 := NB108_0.out
   have hnc34 := NB0_108.out
   obtain ⟨hcz35_0, hcz35_1, hcz35_2, hcz35_3, hfz35_0, hfz35_1, hfz35_2, hfz35_3⟩ := Z4f_ BK108.out
   obtain ⟨Ao36, co36, eo36⟩ := Kd.R_slice HO_109003.out
   subst eo36
   go_upto_region 7 with (fail)
   go_cut [38] (fun v38 wc => ∃ (kq : Nat) (x38_31 : Bool) (x1001_31 : Int) (x1002_31 : Int), v38 = .bool x38_31 ∧ Zz (z133.j1 kq a1 a2 a3 x38_31 s0_0 x1001_31 x1002_31 t102 t103 t104 x109003_1 = some (r1, r2, r3, r4, r5, r6)) ∧ Zz (kq ≤ k1) ∧ Zz (Kd.R (Kd.int .i64) 2 wc w.heap.size (fun _ => True) (.slice Ao36 x109003_1.length co36) x109003_1) ∧ Zz (wc.heap[gb101]? = some (.cells #[.int .i64 0, .int .i64 0, .int .i64 0, (.slice none 0 0)] 55 (0, 0))) ∧ Zz (wc.heap[gb108]? = some (.cells #[.int .i64 t102, .int .i64 t103, .int .i64 t104, (.slice Ao36 x109003_1.length co36)] 55 (0, 0))) ∧ Zz (qAa w0 wc g s0_0 x1001_31 x1002_31) ∧ Zz (qAc w wc g none) ∧ Zz (Below w0.heap.size w0 wc))
   case first =>
    have H := HC32.out
    clear HC32
    by_cases c37 : a2 > 1
    ·rw [if_pos c37] at H
     have c37b0 : decide (1 < a2) = true := decide_eq_true c37
     clear c37
     (first | rw [c37b0] | (simp only [qBn, qB8]; rw [c37b0]) | skip)
     replace H := OB_ H
     obtain ⟨⟨t116, t117, t118⟩, A380, H⟩ := H
     replace H : (z133.j1 k1 a1 a2 a3 t116 s0_0 t117 t118 t102 t103 t104 x109003_1) = some (r1, r2, r3, r4, r5, r6) := H
     have A38 := Zz.mk A380
     clear A380
     have H' := Zz.mk H
     clear H
     go_wp2_with (first | (go_at_call 104; (with_reducible refine (z104.calls g s0_0 x1001_1 x1002_1 3 t116 t117 t118 w0 _ ?side1 ?side2 A38.out).mono ?_); (case side1 => repeat (first | (with_reducible first | exact HI0.out | apply qAa.alloc | apply qAa.drewN | apply qAa.drew | apply qAa.set_1 | apply qAa.set_2 | refine qAa.far ?_ NB0_101.out _ | refine qAa.far ?_ NB0_108.out _) | exact HI0.out)); (case side2 => repeat (first | (with_reducible first | exact HB.out | apply qAi | apply qAd | apply qAe | refine qAb ?_ (qAa.ge HI0.out) | refine qAb ?_ GE101.out | refine qAb ?_ GE108.out) | exact HB.out)); rintro e w39 ⟨rfl, hi, hb, hk⟩; replace HO_109003 := Zz.mk (Kd.R_mono (Kd.R_keep (qAa.apart (show qAa w0 _ g s0_0 x1001_1 x1002_1 from by repeat (first | (with_reducible first | exact HI0.out | apply qAa.alloc | apply qAa.drewN | apply qAa.drew | apply qAa.set_1 | apply qAa.set_2 | refine qAa.far ?_ NB0_101.out _ | refine qAa.far ?_ NB0_108.out _) | exact HI0.out)) (KR_ HO_109003.out) (by decide)) hk (fun _ h => h.2)) (fun _ h => h.1)); replace BK101 := Zz.mk (qAc.blk hk (g' := gb101) (o := .cells #[.int .i64 0, .int .i64 0, .int .i64 0, .slice none 0 0] 55 (0, 0)) (KB_ BK101.out) NB101_0.out (by simp)); replace BK108 := Zz.mk (qAc.blk hk (g' := gb108) (o := .cells #[.int .i64 t102, .int .i64 t103, .int .i64 t104, .slice Ao36 x109003_1.length co36] 55 (0, 0)) (KB_ BK108.out) NB108_0.out (by simp)); replace HK := Zz.mk (qAc.trans (by repeat (first | (with_reducible first | exact HK.out | apply qAc.set_ | apply qAf | apply qAj | apply qAg | refine qAk ?_ GW101.out _ | refine qAk ?_ GW108.out _) | exact HK.out)) hk (.inl rfl)); replace HB := Zz.mk (hb); replace HI0 := Zz.mk (hi); (try clear hb); (try clear hk); (try clear hi)))
     go_meet
     case rel => exact ⟨_, (t116), (t117), (t118), E_, H', ⟨by have := HK1.out; first | omega | exact Nat.le_refl _⟩, ⟨KR_ HO_109003.out⟩, ⟨KB_ BK101.out⟩, ⟨KB_ BK108.out⟩, ⟨by repeat (first | (with_reducible first | exact HI0.out | apply qAa.alloc | apply qAa.drewN | apply qAa.drew | apply qAa.set_1 | apply qAa.set_2 | refine qAa.far ?_ NB0_101.out _ | refine qAa.far ?_ NB0_108.out _) | exact HI0.out)⟩, ⟨by repeat (first | (with_reducible first | exact HK.out | apply qAc.set_ | apply qAf | apply qAj | apply qAg | refine qAk ?_ GW101.out _ | refine qAk ?_ GW108.out _) | exact HK.out)⟩, ⟨by repeat (first | (with_reducible first | exact HB.out | apply qAi | apply qAd | apply qAe | refine qAb ?_ (qAa.ge HI0.out) | refine qAb ?_ GE101.out | refine qAb ?_ GE108.out) | exact HB.out)⟩⟩
    rw [if_neg c37] at H
    have c37b0 : decide (1 < a2) = false := decide_eq_false c37
    clear c37
    (first | rw [c37b0] | (simp only [qBn, qB8]; rw [c37b0]) | skip)
    have H' := Zz.mk H
    clear H
    go_wp2
    go_meet
    case rel => exact ⟨_, (false), (x1001_1), (x1002_1), E_, H', ⟨by have := HK1.out; first | omega | exact Nat.le_refl _⟩, ⟨KR_ HO_109003.out⟩, ⟨KB_ BK101.out⟩, ⟨KB_ BK108.out⟩, ⟨by repeat (first | (with_reducible first | exact HI0.out | apply qAa.alloc | apply qAa.drewN | apply qAa.drew | apply qAa.set_1 | apply qAa.set_2 | refine qAa.far ?_ NB0_101.out _ | refine qAa.far ?_ NB0_108.out _) | exact HI0.out)⟩, ⟨by repeat (first | (with_reducible first | exact HK.out | apply qAc.set_ | apply qAf | apply qAj | apply qAg | refine qAk ?_ GW101.out _ | refine qAk ?_ GW108.out _) | exact HK.out)⟩, ⟨by repeat (first | (with_reducible first | exact HB.out | apply qAi | apply qAd | apply qAe | refine qAb ?_ (qAa.ge HI0.out) | refine qAb ?_ GE101.out | refine qAb ?_ GE108.out) | exact HB.out)⟩⟩
   case rest =>
    clear HC32
    (try clear c13);(try clear c13b0);(try clear hcz11_0);(try clear hcz11_1);(try clear hcz11_2);(try clear hcz11_3);(try clear hcz35_0);(try clear hcz35_1);(try clear hcz35_2);(try clear hcz35_3);(try clear hfz11_0);(try clear hfz11_1);(try clear hfz11_2);(try clear hfz11_3)
    (try clear hfz35_0);(try clear hfz35_1);(try clear hfz35_2);(try clear hfz35_3)
    obtain ⟨kq, x38_31, x1001_31, x1002_31, rfl, HA, HJ31, HO_109003, BK101, BK108, HI0, HK, HB⟩ := hcut
    cases kq with
    | zero => exact absurd HA.out (by simp [z133.j1])
    | succ kj31 =>
     have H := HA.out
     clear HA
     simp only [z133.j1] at H
     by_cases c40 : x38_31 = true
     ·subst c40
      have H1 : (z133.l1 kj31 a1 a2 a3 0 s0_0 x1001_31 x1002_31 t102 t103 t104 x109003_1) = some (r1, r2, r3, r4, r5, r6) := by rw [if_pos rfl] at H; exact H
      clear H
      have H := H1
      clear H1
      have H' := Zz.mk H
      clear H
      go_wp2
      go_loopg [11] kj31 (fun kq v11 w' => ∃ (x11_3 : Int) (x109003_3 : List Int) (u109003 : Value), v11 = .int .i64 x11_3 ∧ Zz (z133.l1 kq a1 a2 a3 x11_3 s0_0 x1001_31 x1002_31 t102 t103 t104 x109003_3 = some (r1, r2, r3, r4, r5, r6)) ∧ Zz (kq ≤ kj31) ∧ Zz (Kd.R (Kd.int .i64) 2 w' w.heap.size (fun _ => True) u109003 x109003_3) ∧ Zz (w'.heap[gb101]? = some (.cells #[.int .i64 0, .int .i64 0, .int .i64 0, (.slice none 0 0)] 55 (0, 0))) ∧ Zz (w'.heap[gb108]? = some (.cells #[.int .i64 t102, .int .i64 t103, .int .i64 t104, u109003] 55 (0, 0))) ∧ Zz (qAa w0 w' g s0_0 x1001_31 x1002_31) ∧ Zz (qAc w w' g none) ∧ Zz (Below w0.heap.size w0 w'))
      case atStart => exact ⟨(0), (x109003_1), (.slice Ao36 x109003_1.length co36), E_, H', ⟨Nat.le_refl _⟩, ⟨KR_ HO_109003.out⟩, ⟨KB_ BK101.out⟩, ⟨KB_ BK108.out⟩, ⟨by repeat (first | (with_reducible first | exact HI0.out | apply qAa.alloc | apply qAa.drewN | apply qAa.drew | apply qAa.set_1 | apply qAa.set_2 | refine qAa.far ?_ NB0_101.out _ | refine qAa.far ?_ NB0_108.out _) | exact HI0.out)⟩, ⟨by repeat (first | (with_reducible first | exact HK.out | apply qAc.set_ | apply qAf | apply qAj | apply qAg | refine qAk ?_ GW101.out _ | refine qAk ?_ GW108.out _) | exact HK.out)⟩, ⟨by repeat (first | (with_reducible first | exact HB.out | apply qAi | apply qAd | apply qAe | refine qAb ?_ (qAa.ge HI0.out) | refine qAb ?_ GE101.out | refine qAb ?_ GE108.out) | exact HB.out)⟩⟩
      case round =>
       clear H'
       (try clear c13);(try clear c13b0);(try clear c40);(try clear hcz11_0);(try clear hcz11_1);(try clear hcz11_2);(try clear hcz11_3);(try clear hcz35_0);(try clear hcz35_1);(try clear hcz35_2);(try clear hcz35_3);(try clear hfz11_0);(try clear hfz11_1);(try clear hfz11_2);(try clear hfz11_3)
       (try clear hfz35_0);(try clear hfz35_1);(try clear hfz35_2);(try clear hfz35_3)
       obtain ⟨x11_3, x109003_3, u109003, rfl, HA, HK3, HO_109003, BK101, BK108, HI0, HK, HB⟩ := hrel
       cases gk with
       | zero => exact absurd HA.out (by simp [z133.l1])
       | succ k3 =>
        have H := HA.out
        clear HA
        simp only [z133.l1] at H
        by_cases c41 : x11_3 < a3
        ·rw [if_pos c41] at H
         have c41b0 : decide (x11_3 < a3) = true := decide_eq_true c41
         clear c41
         have c42b0 := O3_ H
         replace H := O2_ H
         have c43b0 := O3_ H
         replace H := O2_ H
         by_cases c44 : a1 = 0
         ·rw [if_pos c44] at H
          exact X_ H
         rw [if_neg c44] at H
         have c44b0 : (a1 == 0) = false := beq_eq_false_iff_ne.mpr c44
         have c44b1 : (a1 != 0) = true := bne_iff_ne.mpr c44
         obtain ⟨ji45, hji45⟩ : ∃ j_ : Int, (wrap64 ((wrap64 ((wrap64 (a2 - 1)) * a3)) + x11_3)) = j_ := ⟨_, rfl⟩
         replace H : (if 0 ≤ (ji45) then (if (ji45) < (x109003_3.length : Int) then (z133.l1 k3 a1 a2 a3 (wrap64 (x11_3 + 1)) s0_0 x1001_31 x1002_31 t102 t103 t104 (x109003_3.set ((ji45) : Int).toNat (Int.tmod (wrap64 ((rd x109003_3 x11_3) * 2)) a1))) else (none)) else (none)) = some (r1, r2, r3, r4, r5, r6) := by first | (rw [hji45] at H; exact H) | (simp only [hji45] at H ⊢; exact H)
         have hji45w : (IntKind.i64.wrap ((wrap64 ((wrap64 (a2 - 1)) * a3)) + x11_3)) = ji45 := (qBn _).trans hji45
         have c46b0 := O3_ H
         replace H := O2_ H
         have c47b0 := O3_ H
         replace H := O2_ H
         obtain ⟨y120, hy120⟩ : ∃ y_ : List Int, y_ = (x109003_3.set ((ji45) : Int).toNat (Int.tmod (wrap64 ((rd x109003_3 x11_3) * 2)) a1)) := ⟨_, rfl⟩
         replace H : (z133.l1 k3 a1 a2 a3 (wrap64 (x11_3 + 1)) s0_0 x1001_31 x1002_31 t102 t103 t104 y120) = some (r1, r2, r3, r4, r5, r6) := Y_ hy120 H
         have Ny120 := Zz.mk hy120
         clear hy120
         have H' := Zz.mk H
         clear H
         try go_wp2
         replace HO_109003 := Zz.mk (Kd.R_drew HO_109003.out)
         replace BK101 := Zz.mk (bD_ BK101.out)
         replace BK108 := Zz.mk (bD_ BK108.out)
         replace HI0 := Zz.mk (qAa.drew HI0.out)
         replace HK := Zz.mk (qAj HK.out)
         replace HB := Zz.mk (qAe HB.out)
         obtain ⟨Ao50, co50, eo50⟩ := Kd.R_slice HO_109003.out
         (first | subst eo50 | obtain ⟨rfl, rfl⟩ := sl_ eo50)
         have p119 : 0 ≤ (x11_3 : Int) := D_
         have q119 : x11_3 < (x109003_3.length : Int) := D_
         obtain ⟨ad119, e119, hx119_0⟩ := Kd.at_int (Kd.R_reads' HO_109003.out).2.2 x11_3 p119 q119
         cases e119
         replace p119 := eq_true p119
         replace q119 := eq_true q119
         have p48 : 0 ≤ ((ji45) : Int) := D_
         have q48 : ((ji45) : Int) < ((x109003_3.length : Int) : Int) := D_
         obtain ⟨go48, co48, eo48, gb48, gl48, cl48, HG48⟩ := Kd.R_form HO_109003.out (by omega)
         (first | cases eo48 | (injection eo48 with ea_ en_ ec_; (first | subst ea_ | (injection ea_ with ea_; subst ea_)); subst ec_; clear en_))
         have GB48 := Zz.mk gb48
         have GG48 := Zz.mk HG48
         clear gb48 gl48 HG48
         (first | simp only [qBb] at hx119_0 | skip)
         obtain ⟨hx48_0, hf48_0⟩ := Kd.R_celln 0 HO_109003.out ((ji45) : Int) p48 q48
         replace p48 := eq_true p48
         replace q48 := eq_true q48
         have HN0_go48 := Zz.mk (show g ≠ go48 from by have h_ := qAa.own_ne HI0.out HO_109003.out (by decide); intro e_; exact h_ (by rw [e_]; rfl))
         have HP51 := Kd.R_putn HO_109003.out ((ji45) : Int) (Int.tmod (wrap64 ((rd x109003_3 x11_3) * 2)) a1)
         rw [← Ny120.out] at HP51
         have HQ51 := Zz.mk HP51
         clear HP51
         refine qBd (n := 18) (S := fun w' => w'.cell? ⟨gb108, 0, none⟩ = some (.int .i64 t102) ∧ w'.cell? ⟨gb108, 1, none⟩ = some (.int .i64 t103) ∧ w'.cell? ⟨gb108, 2, none⟩ = some (.int .i64 t104) ∧ w'.cell? ⟨gb108, 3, none⟩ = some (.slice (some ⟨go48, 0, none⟩) x109003_3.length co50) ∧ w'.cell? ⟨go48, (x11_3).toNat, none⟩ = some (.int .i64 (rd x109003_3 x11_3))) (ds := [17]) (tb_ 18 0) (by kernel_rfl) rfl rfl ⟨(bC_ BK108.out 0).trans rfl, (bC_ BK108.out 1).trans rfl, (bC_ BK108.out 2).trans rfl, (bC_ BK108.out 3).trans rfl, hx119_0⟩ (fun hHeld => ?_); refine qA1 z133.tab11 z133.bits11 (fun HT_ HW_ => ?_)
         generalize wr.drew = w49 at HO_109003 BK101 BK108 HI0 HK HB GG48 HQ51 hf48_0 hx119_0 hx48_0 hHeld ⊢
         refine PX_ 0 44 (tb_ 18 1) HT_ rfl rfl ?_
         refine PX_ 2 46 (tb_ 18 5) HT_ rfl rfl ?_
         refine PX_ 3 47 (tb_ 18 13) HT_ rfl rfl ?_
         refine PX_ 4 48 (tb_ 18 29) HT_ rfl rfl ?_
         refine PX_ 5 49 (tb_ 18 61) HT_ rfl rfl ?_
         refine PX_ 6 50 (tb_ 18 125) HT_ rfl rfl ?_
         refine PX_ 7 51 (tb_ 18 253) HT_ rfl rfl ?_
         refine PX_ 8 52 (tb_ 18 509) HT_ rfl rfl ?_
         refine PX_ 10 54 (tb_ 18 1533) HT_ rfl rfl ?_
         refine PX_ 14 58 (tb_ 18 17917) HT_ rfl rfl ?_
         refine TV_ (i := 1) (N := some 45) (tb_ 18 17919) HT_ HW_ rfl rfl hHeld (by rintro w' ⟨s0, s1, s2, s3, s4⟩; go_simp; with_reducible rfl) (h := ?_)
         refine TV_ (i := 9) (N := some 53) (tb_ 18 18431) HT_ HW_ rfl rfl hHeld (by rintro w' ⟨s0, s1, s2, s3, s4⟩; go_simp; with_reducible rfl) (h := ?_)
         refine PX_ 11 55 (tb_ 18 20479) HT_ rfl rfl ?_
         refine TV_ (i := 12) (N := some 56) (tb_ 18 24575) HT_ HW_ rfl rfl hHeld (by rintro w' ⟨s0, s1, s2, s3, s4⟩; go_simp; with_reducible rfl) (h := ?_)
         refine PX_ 13 57 (tb_ 18 32767) HT_ rfl rfl ?_
         refine PX_ 15 59 (tb_ 18 65535) HT_ rfl rfl ?_
         refine PX_ 16 60 (tb_ 18 131071) HT_ rfl rfl ?_
         refine qDy (i := 17) (N := none) (tb_ 18 262143) rfl rfl (qA0 HT_.out (by kernel_rfl)) (by decide) (fun K hK => ?_)
         refine qC8 (w1 := ?_) (by rfl) rfl ?_ ?_
         rotate_left
         ·go_simp
          rfl
         refine hK.out _ _ ?_
         clear hK K
         refine qBq (qA5 HT_.out (by kernel_rfl)) ?_
         try go_wp2
         go_roundg k3
         case measure => have := HK1.out; have := HJ31.out; have := HK3.out; omega
         case rel => exact ⟨(wrap64 (x11_3 + 1)), (y120), (.slice (some ⟨go48, 0, none⟩) x109003_3.length co50), E_, H', ⟨by have := HK1.out; have := HJ31.out; have := HK3.out; omega⟩, ⟨KR_ HQ51.out⟩, ⟨by refine BW_ ?_; refine bR_ ?_ (by have h_ := Kd.R_ne HO_109003.out BK101.out (by decide); intro e_; exact h_ (by rw [e_]; rfl)) _; refine BW_ ?_; exact BK101.out⟩, ⟨by refine BW_ ?_; refine bR_ ?_ (by have h_ := Kd.R_ne HO_109003.out BK108.out (by decide); intro e_; exact h_ (by rw [e_]; rfl)) _; refine BW_ ?_; exact BK108.out⟩, ⟨by repeat (first | (with_reducible first | exact HI0.out | apply qAa.alloc | apply qAa.drewN | apply qAa.drew | apply qAa.set_1 | apply qAa.set_2 | refine qAa.far ?_ HN0_go48.out _ | refine qAa.far ?_ NB0_101.out _ | refine qAa.far ?_ NB0_108.out _) | exact HI0.out)⟩, ⟨by repeat (first | (with_reducible first | exact HK.out | apply qAc.set_ | apply qAf | apply qAj | apply qAg | refine qAk ?_ GB48.out _ | refine qAk ?_ GW101.out _ | refine qAk ?_ GW108.out _) | exact HK.out)⟩, ⟨by repeat (first | (with_reducible first | exact HB.out | apply qAi | apply qAd | apply qAe | refine qAb ?_ (Nat.le_trans HL.out GB48.out) | refine qAb ?_ (qAa.ge HI0.out) | refine qAb ?_ GE101.out | refine qAb ?_ GE108.out) | exact HB.out)⟩⟩
        rw [if_neg c41] at H
        have c41b0 : decide (x11_3 < a3) = false := decide_eq_false c41
        clear c41
        simp only [Option.some.injEq, Prod.mk.injEq] at H
        obtain ⟨rfl, rfl, rfl, rfl, rfl, rfl⟩ := H
        have hnb52 := NB108_101.out
        have hnc52 := NB101_108.out
        have hnb53 := NB108_0.out
        have hnc53 := NB0_108.out
        obtain ⟨hcz54_0, hcz54_1, hcz54_2, hcz54_3, hfz54_0, hfz54_1, hfz54_2, hfz54_3⟩ := Z4f_ BK108.out
        have hnb55 := NB101_0.out
        have hnc55 := NB0_101.out
        obtain ⟨hcz56_0, hcz56_1, hcz56_2, hcz56_3, hfz56_0, hfz56_1, hfz56_2, hfz56_3⟩ := Z4f_ BK101.out
        obtain ⟨Ao57, co57, eo57⟩ := Kd.R_slice HO_109003.out
        subst eo57
        go_wp2
        refine bodyPost_ret (results_cell_row rfl _ _ gb101 55 #[.int .i64 t102, .int .i64 t103, .int .i64 t104, .slice Ao57 x109003_3.length co57] (0, 0) _ rfl (by refine BW_ ?_; refine bP_ (cs := #[.int .i64 t102, .int .i64 t103, .int .i64 t104, .slice none 0 0]) ?_ 3 _ rfl; refine BW_ ?_; refine bP_ (cs := #[.int .i64 t102, .int .i64 t103, .int .i64 0, .slice none 0 0]) ?_ 2 _ rfl; refine BW_ ?_; refine bP_ (cs := #[.int .i64 t102, .int .i64 0, .int .i64 0, .slice none 0 0]) ?_ 1 _ rfl; refine BW_ ?_; refine bP_ (cs := #[.int .i64 0, .int .i64 0, .int .i64 0, .slice none 0 0]) ?_ 0 _ rfl; refine BW_ ?_; exact BK101.out) Try.underlying55 rfl (by kernel_rfl)) rfl ?_
        exact ⟨_, F_, by refine RW_ ?_; exact Kd.R_mono (Kd.R_far (p := ⟨gb101, 3, none⟩) (Kd.R_far (p := ⟨gb101, 2, none⟩) (Kd.R_far (p := ⟨gb101, 1, none⟩) (Kd.R_far (p := ⟨gb101, 0, none⟩) (Kd.R_types HO_109003.out BK101.out (by decide)) (fun _ hk => hk.2) (.int .i64 t102)) (fun _ hk => hk.2) (.int .i64 t103)) (fun _ hk => hk.2) (.int .i64 t104)) (fun _ hk => hk.2) (.slice Ao57 x109003_3.length co57)) (fun _ hk => trivial), by repeat (first | (with_reducible first | exact HI0.out | apply qAa.alloc | apply qAa.drewN | apply qAa.drew | apply qAa.set_1 | apply qAa.set_2 | refine qAa.far ?_ NB0_101.out _ | refine qAa.far ?_ NB0_108.out _) | exact HI0.out), by repeat (first | (with_reducible first | exact HB.out | apply qAi | apply qAd | apply qAe | refine qAb ?_ (qAa.ge HI0.out) | refine qAb ?_ GE101.out | refine qAb ?_ GE108.out) | exact HB.out), by repeat (first | (with_reducible first | exact HK.out | apply qAc.set_ | apply qAf | apply qAj | apply qAg | refine qAk ?_ GW101.out _ | refine qAk ?_ GW108.out _) | exact HK.out)⟩
     replace c40 := Bool.eq_false_iff.mpr c40
     subst c40
     have H1 : (some (t102, t103, t104, x109003_1, x1001_31, x1002_31)) = some (r1, r2, r3, r4, r5, r6) := by rw [if_neg (show ¬ (false = true) by decide)] at H; exact H
     clear H
     have H := H1
     clear H1
     simp only [Option.some.injEq, Prod.mk.injEq] at H
     obtain ⟨rfl, rfl, rfl, rfl, rfl, rfl⟩ := H
     have hnb58 := NB108_101.out
     have hnc58 := NB101_108.out
     have hnb59 := NB108_0.out
     have hnc59 := NB0_108.out
     obtain ⟨hcz60_0, hcz60_1, hcz60_2, hcz60_3, hfz60_0, hfz60_1, hfz60_2, hfz60_3⟩ := Z4f_ BK108.out
     have hnb61 := NB101_0.out
     have hnc61 := NB0_101.out
     obtain ⟨hcz62_0, hcz62_1, hcz62_2, hcz62_3, hfz62_0, hfz62_1, hfz62_2, hfz62_3⟩ := Z4f_ BK101.out
     go_wp2
     refine bodyPost_ret (results_cell_row rfl _ _ gb101 55 #[.int .i64 t102, .int .i64 t103, .int .i64 t104, .slice Ao36 x109003_1.length co36] (0, 0) _ rfl (by refine BW_ ?_; refine bP_ (cs := #[.int .i64 t102, .int .i64 t103, .int .i64 t104, .slice none 0 0]) ?_ 3 _ rfl; refine BW_ ?_; refine bP_ (cs := #[.int .i64 t102, .int .i64 t103, .int .i64 0, .slice none 0 0]) ?_ 2 _ rfl; refine BW_ ?_; refine bP_ (cs := #[.int .i64 t102, .int .i64 0, .int .i64 0, .slice none 0 0]) ?_ 1 _ rfl; refine BW_ ?_; refine bP_ (cs := #[.int .i64 0, .int .i64 0, .int .i64 0, .slice none 0 0]) ?_ 0 _ rfl; refine BW_ ?_; exact BK101.out) Try.underlying55 rfl (by kernel_rfl)) rfl ?_
     exact ⟨_, F_, by refine RW_ ?_; exact Kd.R_mono (Kd.R_far (p := ⟨gb101, 3, none⟩) (Kd.R_far (p := ⟨gb101, 2, none⟩) (Kd.R_far (p := ⟨gb101, 1, none⟩) (Kd.R_far (p := ⟨gb101, 0, none⟩) (Kd.R_types HO_109003.out BK101.out (by decide)) (fun _ hk => hk.2) (.int .i64 t102)) (fun _ hk => hk.2) (.int .i64 t103)) (fun _ hk => hk.2) (.int .i64 t104)) (fun _ hk => hk.2) (.slice Ao36 x109003_1.length co36)) (fun _ hk => trivial), by repeat (first | (with_reducible first | exact HI0.out | apply qAa.alloc | apply qAa.drewN | apply qAa.drew | apply qAa.set_1 | apply qAa.set_2 | refine qAa.far ?_ NB0_101.out _ | refine qAa.far ?_ NB0_108.out _) | exact HI0.out), by repeat (first | (with_reducible first | exact HB.out | apply qAi | apply qAd | apply qAe | refine qAb ?_ (qAa.ge HI0.out) | refine qAb ?_ GE101.out | refine qAb ?_ GE108.out) | exact HB.out), by repeat (first | (with_reducible first | exact HK.out | apply qAc.set_ | apply qAf | apply qAj | apply qAg | refine qAk ?_ GW101.out _ | refine qAk ?_ GW108.out _) | exact HK.out)⟩
end Go.Proofs.Ytkgajpngeglkmaa.B
