/- Printed proofs of functions of the program and of the reference, by a program of this work over the kit's printer. -/
import Derived.Test.YtabfflgoaalapaaKBJFCAM0
import Derived.Test.YtabfflgoaalapaaKENHNJJ0
import Derived.Test.YtabfflgoaalapaaKJMIPGL0
import Derived.Test.YtabfflgoaalapaaKW0
set_option maxHeartbeats 8000000
set_option maxRecDepth 100000
namespace Go.Proofs.Ytabfflgoaalapaa.B
open Go.RowKit Go.Proofs.YtabfflgoaalapaaW.PrintWords Go.Proofs.YtabfflgoaalapaaW.PrintLast Go.Proofs.YtabfflgoaalapaaW.PrintMore
attribute [local go_sem] qAo qAm qAq qAp qAk qAj qAn qAl
set_option linter.unusedVariables false
set_option linter.unusedSimpArgs false
def z157.f (l0 : List (List Int)) : Option (Int) := some (l0.length : Int)
theorem z157.calls (A0 : Option Addr) (c0 : Nat) (l0 : List (List Int)) (r : Int) (w : World) (hr0 : Kd.C (Kd.slice 2 (Kd.int .i64)) w A0 l0.length l0) (hc0 : l0.length ≤ c0) (h : z157.f l0 = some r) :
  Calls Try.prog 157 #[.slice A0 l0.length c0] w fun e w' => e = .returned (.int .i64 r) ∧ Dz w w' := by
 have HR0 := Zz.mk hr0
 have HC0 := Zz.mk hc0
 clear hr0 hc0
 have H : (some (l0.length : Int)) = some r := h
 clear h
 obtain rfl := OI_ H
 go_enter Try.func157, Try.ntmps157
 go_wp2
 go_ret
 exact eD_
mutual
def z158.l0 : Nat → List (List Int) → Int → List (List Int) → Int → Int → Option (List Int)
 | 0, _, _, _, _, _ => none
 | k + 1, x0, x3, x9, x10, x11 => if x11 < x10 then (if 0 ≤ x11 then (if x11 < (x9.length : Int) then (if (wrap64 (x3 + ((rI_ x9 x11).length : Int))) < 0 then (none) else (z158.l0 k x0 (wrap64 (x3 + ((rI_ x9 x11).length : Int))) x9 x10 (wrap64 (x11 + 1)))) else (none)) else (none)) else ((slices_Grow_int64_int64.f ([] : List Int) x3).bind fun t102 => (z158.l1 k t102 x0 (x0.length : Int) 0))
def z158.l1 : Nat → List Int → List (List Int) → Int → Int → Option (List Int)
 | 0, _, _, _, _ => none
 | k + 1, x6, x25, x26, x27 => if x27 < x26 then (if 0 ≤ x27 then (if x27 < (x25.length : Int) then (if x6.length + (rI_ x25 x27).length < 17592186044416 then (z158.l1 k (x6 ++ (rI_ x25 x27)) x25 x26 (wrap64 (x27 + 1))) else (none)) else (none)) else (none)) else (some x6)
end
def z158.f (k : Nat) (l0 : List (List Int)) : Option (List Int) := z158.l0 k l0 0 l0 (l0.length : Int) 0
theorem z158.calls (k : Nat) (A0 : Option Addr) (c0 : Nat) (l0 : List (List Int)) (r : List Int) (w : World) (hr0 : Kd.C (Kd.slice 2 (Kd.int .i64)) w A0 l0.length l0) (hc0 : l0.length ≤ c0) (h : z158.f k l0 = some r) :
  Calls Try.prog 158 #[.slice A0 l0.length c0] w fun e w' => ∃ v0_ : Value, e = .returned (v0_) ∧ Kd.R (Kd.int .i64) 2 w' w.heap.size (fun _ => True) v0_ r ∧ Below w.heap.size w w' := by
 have HR0 := Zz.mk hr0
 have HC0 := Zz.mk hc0
 clear hr0 hc0
 have HB := Zz.mk (Below.refl w.heap.size w)
 have H : (z158.l0 k l0 0 l0 (l0.length : Int) 0) = some r := h
 clear h
 have H' := Zz.mk H
 clear H
 go_enter Try.func158, Try.ntmps158
 go_wp2
 go_loopg [3, 11] k (fun kq v3 v11 w' => ∃ (x3_1 : Int) (x11_1 : Int), v3 = .int .i64 x3_1 ∧ v11 = .int .i64 x11_1 ∧ Zz (z158.l0 kq l0 x3_1 l0 (l0.length : Int) x11_1 = some r) ∧ Zz (kq ≤ k) ∧ Zz (Below w.heap.size w w'))
 case atStart => exact ⟨(0), (0), E_, E_, H', ⟨Nat.le_refl _⟩, ⟨B_ HB.out⟩⟩
 case round =>
  clear H'
  obtain ⟨x3_1, x11_1, rfl, rfl, HA, HK1, HB⟩ := hrel
  cases gk with
  | zero => exact absurd HA.out (by simp [z158.l0])
  | succ k1 =>
   have H := HA.out
   clear HA
   simp only [z158.l0] at H
   by_cases c2 : x11_1 < (l0.length : Int)
   ·rw [if_pos c2] at H
    have c2b0 : decide (x11_1 < (l0.length : Int)) = true := decide_eq_true c2
    clear c2
    have c3b0 := O3_ H
    replace H := O2_ H
    have c4b0 := O3_ H
    replace H := O2_ H
    by_cases c5 : (wrap64 (x3_1 + ((rI_ l0 x11_1).length : Int))) < 0
    ·rw [if_pos c5] at H
     exact X_ H
    rw [if_neg c5] at H
    have c5b0 : decide ((wrap64 (x3_1 + ((rI_ l0 x11_1).length : Int))) < 0) = false := decide_eq_false c5
    clear c5
    have H' := Zz.mk H
    clear H
    have p101 : 0 ≤ (x11_1 : Int) := D_
    have q101 : x11_1 < (l0.length : Int) := D_
    obtain ⟨ad101, A101_0, c101_0, e101, hx101_0, hl101_0, hi101_0⟩ := qAx HR0.out x11_1 p101 q101
    cases e101
    replace hx101_0 := (HB.out.cell (World.block_lt_of_cell? w _ hx101_0)).trans hx101_0
    have HR101_0 := Zz.mk hi101_0
    have HC101_0 := Zz.mk hl101_0
    clear hi101_0 hl101_0
    replace p101 := eq_true p101
    replace q101 := eq_true q101
    go_wp2
    go_roundg k1
    case measure => exact Q1_ HK1
    case rel => exact ⟨(wrap64 (x3_1 + ((rI_ l0 x11_1).length : Int))), (wrap64 (x11_1 + 1)), E_, E_, H', ⟨Q1_ HK1⟩, ⟨B_ HB.out⟩⟩
   rw [if_neg c2] at H
   have c2b0 : decide (x11_1 < (l0.length : Int)) = false := decide_eq_false c2
   clear c2
   replace H := OZ_ H
   obtain ⟨t102, A6, H⟩ := H
   have H' := Zz.mk H
   clear H
   go_wp2_with (first | ((with_reducible refine gC_ (f := 161) rfl ?_); refine GL_ (some 24) rfl rfl Try.func161 #[.slice none 0 0, .int .i64 x3_1] rfl (h := ?_); (refine (slices_Grow_int64_int64.calls _ _ ([] : List Int) x3_1 t102 _ ?side1 ?side2 A6.out).mono ?_); (case side1 => exact Kd.C_nil _ _); (case side2 => exact Nat.le_refl _); rintro e w7 ⟨v103, rfl, ho0, hb⟩; refine ⟨_, rfl, ?_⟩; have HO104 := Zz.mk (Kd.R_lower ho0 (bS_ (B_ HB.out))); replace HB := Zz.mk (bT_ (B_ HB.out) hb); (try clear hb); (try clear ho0)))
   go_loopg [6, 27] k1 (fun kq v6 v27 w' => ∃ (x6_2 : List Int) (x27_2 : Int), v27 = .int .i64 x27_2 ∧ Zz (z158.l1 kq x6_2 l0 (l0.length : Int) x27_2 = some r) ∧ Zz (kq ≤ k1) ∧ Zz (Kd.R (Kd.int .i64) 2 w' w.heap.size (fun _ => True) v6 x6_2) ∧ Zz (Below w.heap.size w w'))
   case atStart => exact ⟨(t102), (0), E_, H', ⟨Nat.le_refl _⟩, ⟨KR_ HO104.out⟩, ⟨B_ HB.out⟩⟩
   case round =>
    clear H'
    (try clear c2);(try clear c2b0)
    obtain ⟨x6_2, x27_2, rfl, HA, HK2, HO_6, HB⟩ := hrel
    cases gk with
    | zero => exact absurd HA.out (by simp [z158.l1])
    | succ k2 =>
     have H := HA.out
     clear HA
     simp only [z158.l1] at H
     by_cases c8 : x27_2 < (l0.length : Int)
     ·rw [if_pos c8] at H
      have c8b0 : decide (x27_2 < (l0.length : Int)) = true := decide_eq_true c8
      clear c8
      have c9b0 := O3_ H
      replace H := O2_ H
      have c10b0 := O3_ H
      replace H := O2_ H
      have c11 := O1_ H
      replace H := O2_ H
      have LMc11 := Zz.mk c11
      clear c11
      obtain ⟨y106, hy106⟩ : ∃ y_ : List Int, y_ = (x6_2 ++ (rI_ l0 x27_2)) := ⟨_, rfl⟩
      replace H : (z158.l1 k2 y106 l0 (l0.length : Int) (wrap64 (x27_2 + 1))) = some r := Y_ hy106 H
      have Ny106 := Zz.mk hy106
      clear hy106
      have H' := Zz.mk H
      clear H
      have p105 : 0 ≤ (x27_2 : Int) := D_
      have q105 : x27_2 < (l0.length : Int) := D_
      obtain ⟨ad105, A105_0, c105_0, e105, hx105_0, hl105_0, hi105_0⟩ := qAx HR0.out x27_2 p105 q105
      cases e105
      replace hx105_0 := (HB.out.cell (World.block_lt_of_cell? w _ hx105_0)).trans hx105_0
      have HR105_0 := Zz.mk hi105_0
      have HC105_0 := Zz.mk hl105_0
      clear hi105_0 hl105_0
      replace p105 := eq_true p105
      replace q105 := eq_true q105
      go_wp2_with (first | ((with_reducible refine qA0 (b := .append) (xs := #[.tmp 31, .tmp 32]) rfl ?_); at_builtin; refine Kd.R_append_rows (Kd.int .i64) (w0 := w) w.heap.size rfl (.tmp 31) (.tmp 32) 25 2 (.int .i64 0) 8 rfl Try.underlying25 qCa rfl (by decide) (by omega) u6 x6_2 (rI_ l0 x27_2) _ _ _ (fun _ => True) (fun _ => False) rfl rfl ?aO ?aR (fun _ _ h => h) (fun _ h => h.elim) ?aF ?aB ?aS ?aL ?_; (case aR => exact KC_ (Kd.C_below HR105_0.out HB.out)); (case aB => exact (B_ HB.out)); (case aF => exact (fun _ _ => trivial)); (case aO => exact (KR_ HO_6.out)); (case aS => exact (bS_ (B_ HB.out))); (case aL => have := LMc11.out; omega); intro v107 w12 ho hb hg hat; rw [← Ny106.out] at ho; replace HB := Zz.mk (hb); have HO108 := Zz.mk (ho); clear HO_6; clear ho hb hg hat))
      go_roundg k2
      case measure => exact Q2_ HK1 HK2
      case rel => exact ⟨(y106), (wrap64 (x27_2 + 1)), E_, H', ⟨Q2_ HK1 HK2⟩, ⟨KR_ HO108.out⟩, ⟨B_ HB.out⟩⟩
     rw [if_neg c8] at H
     have c8b0 : decide (x27_2 < (l0.length : Int)) = false := decide_eq_false c8
     clear c8
     obtain rfl := OI_ H
     go_wp2
     go_ret
     exact ⟨_, F_, KR_ HO_6.out, B_ HB.out⟩
def z137.f (k : Nat) (a0 : Int) (a1 : Int) (l2 : List (List Int)) : Option (Int × Int × Int × List Int) := (z157.f l2).bind fun t102 => ((z158.f k l2).bind fun t103 => (some (a0, t102, a1, t103)))
theorem z137.calls (k : Nat) (a0 : Int) (a1 : Int) (A2 : Option Addr) (c2 : Nat) (l2 : List (List Int)) (r1 : Int) (r2 : Int) (r3 : Int) (r4 : List Int) (w : World) (hr2 : Kd.C (Kd.slice 2 (Kd.int .i64)) w A2 l2.length l2) (hc2 : l2.length ≤ c2) (h : z137.f k a0 a1 l2 = some (r1, r2, r3, r4)) :
  Calls Try.prog 137 #[.int .i64 a0, .int .i64 a1, .slice A2 l2.length c2] w fun e w' => ∃ v3_ : Value, e = .returned (.agg #[.int .i64 r1, .int .i64 r2, .int .i64 r3, v3_]) ∧ Kd.R (Kd.int .i64) 2 w' w.heap.size (fun _ => True) v3_ r4 ∧ Below w.heap.size w w' := by
 have hu59 := Try.underlying59
 have HR2 := Zz.mk hr2
 have HC2 := Zz.mk hc2
 clear hr2 hc2
 have HB := Zz.mk (Below.refl w.heap.size w)
 have H : ((z157.f l2).bind fun t102 => ((z158.f k l2).bind fun t103 => (some (a0, t102, a1, t103)))) = some (r1, r2, r3, r4) := h
 clear h
 replace H := OB_ H
 obtain ⟨t102, A40, H⟩ := H
 replace H : ((z158.f k l2).bind fun t103 => (some (a0, t102, a1, t103))) = some (r1, r2, r3, r4) := H
 have A4 := Zz.mk A40
 clear A40
 replace H := OB_ H
 obtain ⟨t103, A50, H⟩ := H
 replace H : (some (a0, t102, a1, t103)) = some (r1, r2, r3, r4) := H
 have A5 := Zz.mk A50
 clear A50
 simp only [Option.some.injEq, Prod.mk.injEq] at H
 obtain ⟨rfl, rfl, rfl, rfl⟩ := H
 go_enter Try.func137, Try.ntmps137
 go_wp2_with (first | ((with_reducible refine qAh (N := 6) rfl ?_); refine bx_ 6 #[.int .i64 0, .int .i64 0, .int .i64 0, .slice none 0 0] 59 ?_; intro gb101 hg w6 hbox hb; have BK101 := Zz.mk (hbox); have GW101 := Zz.mk ((gw_ hg (B_ HB.out))); have GE101 := GW101; replace HB := Zz.mk (bT_ (B_ HB.out) hb); clear hb hbox hg) | ((with_reducible refine gC_ (f := 157) rfl ?_); refine GL_ (some 9) rfl rfl Try.func157 #[.slice A2 l2.length c2] rfl (h := ?_); (with_reducible refine (z157.calls _ _ l2 t102 _ ?side1 ?side2 A4.out).mono ?_); (case side1 => exact KC_ (Kd.C_below HR2.out HB.out)); (case side2 => exact HC2.out); rintro e w' ⟨rfl, ⟨nd, rfl⟩⟩; refine ⟨_, rfl, ?_⟩; (try (rw [qC6 w6]; generalize hq_ : World.drewN w6 _ = w6; replace BK101 : Zz (w6.heap[gb101]? = some (.cells #[.int .i64 0, .int .i64 0, .int .i64 0, .slice none 0 0] 59 (0, 0))) := ⟨by rw [← hq_]; exact (KB_ BK101.out)⟩; replace HB : Zz (Below w.heap.size w w6) := ⟨by rw [← hq_]; exact (B1_ HB.out GE101.out)⟩; (try clear hq_)))) | ((with_reducible refine gC_ (f := 158) rfl ?_); refine GL_ (some 12) rfl rfl Try.func158 #[.slice A2 l2.length c2] rfl (h := ?_); (with_reducible refine (z158.calls k _ _ l2 t103 _ ?side1 ?side2 A5.out).mono ?_); (case side1 => exact KC_ (Kd.C_below HR2.out HB.out)); (case side2 => exact HC2.out); rintro e w7 ⟨v104, rfl, ho0, hb⟩; refine ⟨_, rfl, ?_⟩; have HO105 := Zz.mk (Kd.R_lower ho0 (bS_ (B1_ HB.out GE101.out))); replace BK101 := Zz.mk (kb_ BK101.out hb); replace HB := Zz.mk (bT_ (B1_ HB.out GE101.out) hb); (try clear hb); (try clear ho0); obtain ⟨Ao8, co8, eo8⟩ := Kd.R_slice HO105.out; subst eo8; obtain ⟨hcz9_0, hcz9_1, hcz9_2, hcz9_3, hfz9_0, hfz9_1, hfz9_2, hfz9_3⟩ := Z4f_ BK101.out))
 refine bodyPost_ret (results_cell_row rfl _ _ gb101 59 #[.int .i64 a0, .int .i64 t102, .int .i64 a1, .slice Ao8 t103.length co8] (0, 0) _ rfl (by refine BW_ ?_; refine bP_ (cs := #[.int .i64 a0, .int .i64 t102, .int .i64 a1, .slice none 0 0]) ?_ 3 _ rfl; refine BW_ ?_; refine bP_ (cs := #[.int .i64 a0, .int .i64 t102, .int .i64 0, .slice none 0 0]) ?_ 2 _ rfl; refine BW_ ?_; refine bP_ (cs := #[.int .i64 a0, .int .i64 0, .int .i64 0, .slice none 0 0]) ?_ 1 _ rfl; refine BW_ ?_; refine bP_ (cs := #[.int .i64 0, .int .i64 0, .int .i64 0, .slice none 0 0]) ?_ 0 _ rfl; refine BW_ ?_; exact BK101.out) Try.underlying59 rfl (by kernel_rfl)) rfl ?_
 exact ⟨_, F_, by refine RW_ ?_; exact Kd.R_mono (Kd.R_far (p := ⟨gb101, 3, none⟩) (Kd.R_far (p := ⟨gb101, 2, none⟩) (Kd.R_far (p := ⟨gb101, 1, none⟩) (Kd.R_far (p := ⟨gb101, 0, none⟩) (Kd.R_types HO105.out BK101.out (by decide)) (fun _ hk => hk.2) (.int .i64 a0)) (fun _ hk => hk.2) (.int .i64 t102)) (fun _ hk => hk.2) (.int .i64 a1)) (fun _ hk => hk.2) (.slice Ao8 t103.length co8)) (fun _ hk => trivial), B1_ HB.out GE101.out⟩
def z100.f (k : Nat) (a0_0 : Int) (a0_1 : Int) (l0_2 : List (List Int)) : Option (Int × Int × (List (List Int))) := (z137.f k a0_0 a0_1 l0_2).bind fun bt103 => ((z93.f k bt103.1 bt103.2.1 bt103.2.2.1 bt103.2.2.2).bind fun t109 => ((z90.f k a0_0 a0_1 t109).bind fun bt112 => (some (bt112.1, bt112.2.1, bt112.2.2))))
def z100.T1 : Bool × List (List Nat × List Nat) := (true, [([], []), ([0], [0]), ([], []), ([2], [2]), ([], []), ([4], [4]), ([], []), ([6], [6]), ([], []), ([8], [8]), ([5, 7, 9], [5, 7, 9]), ([10, 10], [10]), ([1, 3, 11, 11], [1, 3, 11]), ([12, 12, 0, 1, 2, 3, 4, 5, 6, 7, 8, 9, 10, 11, 12], [12])])
def z100.B1 : List Nat := [0, 1, 0, 4, 0, 16, 0, 64, 0, 256, 1008, 2032, 4095, 8191]
theorem z100.tab1 : rtab .any (qBt Try.f100 1) = z100.T1 := by kernel_rfl
theorem z100.bits1 : qA4 z100.T1.2 z100.B1 = true := by kernel_rfl
theorem z100.calls (k : Nat) (a0_0 : Int) (a0_1 : Int) (A0_2 : Option Addr) (c0_2 : Nat) (l0_2 : List (List Int)) (r1 : Int) (r2 : Int) (r3 : List (List Int)) (w : World) (hr0_2 : Kd.C (Kd.slice 2 (Kd.int .i64)) w A0_2 l0_2.length l0_2) (hc0_2 : l0_2.length ≤ c0_2) (h : z100.f k a0_0 a0_1 l0_2 = some (r1, r2, r3)) :
  Calls Try.prog 100 #[.agg #[.int .i64 a0_0, .int .i64 a0_1, .slice A0_2 l0_2.length c0_2]] w fun e w' => ∃ v2_ : Value, e = .returned (.agg #[.int .i64 r1, .int .i64 r2, v2_]) ∧ Kd.S (Kd.slice 2 (Kd.int .i64)) 25 w' w.heap.size (fun _ => True) v2_ r3 ∧ Below w.heap.size w w' := by
 have hu29 := Try.underlying29
 have HR0_2 := Zz.mk hr0_2
 have HC0_2 := Zz.mk hc0_2
 clear hr0_2 hc0_2
 have HB := Zz.mk (Below.refl w.heap.size w)
 have H : ((z137.f k a0_0 a0_1 l0_2).bind fun bt103 => ((z93.f k bt103.1 bt103.2.1 bt103.2.2.1 bt103.2.2.2).bind fun t109 => ((z90.f k a0_0 a0_1 t109).bind fun bt112 => (some (bt112.1, bt112.2.1, bt112.2.2))))) = some (r1, r2, r3) := h
 clear h
 replace H := OB_ H
 obtain ⟨⟨t103, t104, t105, t106⟩, A20, H⟩ := H
 replace H : ((z93.f k t103 t104 t105 t106).bind fun t109 => ((z90.f k a0_0 a0_1 t109).bind fun bt112 => (some (bt112.1, bt112.2.1, bt112.2.2)))) = some (r1, r2, r3) := H
 have A2 := Zz.mk A20
 clear A20
 replace H := OB_ H
 obtain ⟨t109, A30, H⟩ := H
 replace H : ((z90.f k a0_0 a0_1 t109).bind fun bt112 => (some (bt112.1, bt112.2.1, bt112.2.2))) = some (r1, r2, r3) := H
 have A3 := Zz.mk A30
 clear A30
 replace H := OB_ H
 obtain ⟨⟨t112, t113, t114⟩, A40, H⟩ := H
 replace H : (some (t112, t113, t114)) = some (r1, r2, r3) := H
 have A4 := Zz.mk A40
 clear A40
 simp only [Option.some.injEq, Prod.mk.injEq] at H
 obtain ⟨rfl, rfl, rfl⟩ := H
 go_enter Try.func100, Try.ntmps100
 try go_wp2_with (first | ((with_reducible refine qAh (N := 1) rfl ?_); refine bx_ 1 #[.int .i64 a0_0, .int .i64 a0_1, .slice A0_2 l0_2.length c0_2] 29 ?_; intro gb101 hg w5 hbox hb; have BK101 := Zz.mk (hbox); have GW101 := Zz.mk ((gw_ hg (B_ HB.out))); have GE101 := GW101; replace HB := Zz.mk (bT_ (B_ HB.out) hb); clear hb hbox hg) | ((with_reducible refine qAh (N := 2) rfl ?_); refine bx_ 2 #[.int .i64 0, .int .i64 0, .slice none 0 0] 29 ?_; intro gb102 hg w6 hbox hb; have BK102 := Zz.mk (hbox); have GW102 := Zz.mk ((gw_ hg (B1_ HB.out GE101.out))); have GE102 := GW102; have NB101_102 := Zz.mk ((nb_ BK101.out hg)); have NB102_101 := Zz.mk NB101_102.out.symm; replace BK101 := Zz.mk (kb_ BK101.out hb); replace HB := Zz.mk (bT_ (B1_ HB.out GE101.out) hb); clear hb hbox hg))
 replace BK101 := Zz.mk (bD_ BK101.out)
 replace BK102 := Zz.mk (bD_ BK102.out)
 replace HB := Zz.mk (qAc HB.out)
 refine qA5 (n := 14) (S := fun w' => w'.cell? ⟨gb101, 0, none⟩ = some (.int .i64 a0_0) ∧ w'.cell? ⟨gb101, 1, none⟩ = some (.int .i64 a0_1) ∧ w'.cell? ⟨gb101, 2, none⟩ = some (.slice A0_2 l0_2.length c0_2)) (ds := []) (tb_ 14 0) (by kernel_rfl) rfl rfl (Z3_ BK101.out) (fun hHeld => ?_); refine qAw z100.tab1 z100.bits1 (fun HT_ HW_ => ?_)
 generalize w6.drew = w7 at BK101 BK102 HB hHeld ⊢
 refine PX_ 0 3 (tb_ 14 1) HT_ rfl rfl ?_
 refine PX_ 2 5 (tb_ 14 5) HT_ rfl rfl ?_
 refine PX_ 4 7 (tb_ 14 21) HT_ rfl rfl ?_
 refine PX_ 6 9 (tb_ 14 85) HT_ rfl rfl ?_
 refine PX_ 8 11 (tb_ 14 341) HT_ rfl rfl ?_
 refine TX_ 1 4 (tb_ 14 343) HT_ HW_ rfl rfl hHeld ?_
 refine TX_ 3 6 (tb_ 14 351) HT_ HW_ rfl rfl hHeld ?_
 refine TX_ 5 8 (tb_ 14 383) HT_ HW_ rfl rfl hHeld ?_
 refine TX_ 7 10 (tb_ 14 511) HT_ HW_ rfl rfl hHeld ?_
 refine TX_ 9 12 (tb_ 14 1023) HT_ HW_ rfl rfl hHeld ?_
 refine one_ (i := 10) (N := some 13) (tb_ 14 2047) rfl rfl (qAr HT_.out (by kernel_rfl)) (by decide) (fun K hK => ?_)
 refine GO_ Try.func137 #[.int .i64 a0_0, .int .i64 a0_1, .slice A0_2 l0_2.length c0_2] (h := ?_)
 with_reducible refine (z137.calls k a0_0 a0_1 _ _ l0_2 t103 t104 t105 t106 _ ?side1 ?side2 A2.out).mono ?_
 (case side1 => exact KC_ (Kd.C_below HR0_2.out HB.out))
 (case side2 => exact HC0_2.out)
 rintro e w8 ⟨v107, rfl, ho0, hb⟩
 refine ⟨_, rfl, ?_⟩
 have HO108 := Zz.mk (Kd.R_lower ho0 (bS_ (B2_ HB.out GE101.out GE102.out)))
 replace BK101 := Zz.mk (kb_ BK101.out hb)
 replace BK102 := Zz.mk (kb_ BK102.out hb)
 replace HB := Zz.mk (bT_ (B2_ HB.out GE101.out GE102.out) hb)
 (try clear hb);(try clear ho0)
 obtain ⟨Ao9, co9, eo9⟩ := Kd.R_slice HO108.out
 (first | subst eo9 | obtain ⟨rfl, rfl⟩ := sl_ eo9)
 refine hK.out _ _ (Z3_ BK101.out) (fun hHeld => ?_)
 clear hK K
 refine NM_ (N := (some 13)) (h := ?_)
 refine one_ (i := 11) (N := some 14) (tb_ 14 4095) rfl rfl (qAr HT_.out (by kernel_rfl)) (by decide) (fun K hK => ?_)
 refine GO_ Try.func93 #[.agg #[.int .i64 t103, .int .i64 t104, .int .i64 t105, .slice Ao9 t106.length co9]] (h := ?_)
 with_reducible refine (z93.calls k t103 t104 t105 _ _ t106 t109 _ ?side1 ?side2 A3.out).mono ?_
 (case side1 => exact KC_ (Kd.R_reads' HO108.out).2.2)
 (case side2 => exact (Kd.R_reads' HO108.out).2.1)
 rintro e w10 ⟨v110, rfl, ho0, hb⟩
 refine ⟨_, rfl, ?_⟩
 have HO111 := Zz.mk (Kd.S_lower (Kd.S_new' ho0 (Kd.R_lt (KR_ HO108.out))) (bS_ (B2_ HB.out GE101.out GE102.out)))
 replace HO108 := Zz.mk (Kd.R_below (KR_ HO108.out) hb)
 replace BK101 := Zz.mk (kb_ BK101.out hb)
 replace BK102 := Zz.mk (kb_ BK102.out hb)
 replace HB := Zz.mk (bT_ (B2_ HB.out GE101.out GE102.out) hb)
 (try clear hb);(try clear ho0)
 obtain ⟨Ao11, co11, eo11⟩ := Kd.S_slice HO111.out
 (first | subst eo11 | obtain ⟨rfl, rfl⟩ := sl_ eo11)
 refine hK.out _ _ (Z3_ BK101.out) (fun hHeld => ?_)
 clear hK K
 refine NM_ (N := (some 14)) (h := ?_)
 refine one_ (i := 12) (N := some 15) (tb_ 14 8191) rfl rfl (qAr HT_.out (by kernel_rfl)) (by decide) (fun K hK => ?_)
 refine GO_ Try.func90 #[.int .i64 a0_0, .int .i64 a0_1, .slice Ao11 t109.length co11] (h := ?_)
 with_reducible refine (z90.calls k a0_0 a0_1 _ _ t109 t112 t113 t114 _ ?side1 ?side2 A4.out).mono ?_
 (case side1 => exact KC_ (Kd.S_reads' HO111.out).2.2)
 (case side2 => exact (Kd.S_reads' HO111.out).2.1)
 rintro e w12 ⟨v115, rfl, ho0, hb⟩
 refine ⟨_, rfl, ?_⟩
 have HO116 := Zz.mk (Kd.S_lower (Kd.S_new' (Kd.S_new' ho0 (Kd.R_lt (KR_ HO108.out))) (Kd.S_lt (KS_ HO111.out))) (bS_ (B2_ HB.out GE101.out GE102.out)))
 replace HO108 := Zz.mk (Kd.R_below (KR_ HO108.out) hb)
 replace HO111 := Zz.mk (Kd.S_elder' (KS_ HO111.out) (Kd.S_base ho0) hb)
 replace BK101 := Zz.mk (kb_ BK101.out hb)
 replace BK102 := Zz.mk (kb_ BK102.out hb)
 replace HB := Zz.mk (bT_ (B2_ HB.out GE101.out GE102.out) hb)
 (try clear hb);(try clear ho0)
 obtain ⟨Ao15, co15, eo15⟩ := Kd.S_slice HO116.out
 (first | subst eo15 | obtain ⟨rfl, rfl⟩ := sl_ eo15)
 refine hK.out _ _ (Z3_ BK101.out) (fun hHeld => ?_)
 clear hK K
 refine NM_ (N := (some 15)) (h := ?_)
 refine one_ (i := 13) (N := none) (tb_ 14 16383) rfl rfl (qAr HT_.out (by kernel_rfl)) (by decide) (fun K hK => ?_)
 have hs13 : w12.cell? ⟨gb102, 0, none⟩ = some (.int .i64 0) := (bC_ BK102.out 0).trans rfl
 have hfs13 := bF_ BK102.out 0
 have hns13_0 := NB101_102.out
 have hms13_0 := NB102_101.out
 have hs14 : w12.cell? ⟨gb102, 1, none⟩ = some (.int .i64 0) := (bC_ BK102.out 1).trans rfl
 have hfs14 := bF_ BK102.out 1
 have hns14_0 := NB101_102.out
 have hms14_0 := NB102_101.out
 have hs16 : w12.cell? ⟨gb102, 2, none⟩ = some (.slice none 0 0) := (bC_ BK102.out 2).trans rfl
 have hfs16 := bF_ BK102.out 2
 have hns16_0 := NB101_102.out
 have hms16_0 := NB102_101.out
 refine qB9 (w1 := ?_) (by rfl) rfl ?_ ?_
 rotate_left
 ·go_simp
  rfl
 refine hK.out _ _ ⟨((qAf (p := ⟨gb102, _, none⟩) NB101_102.out _).trans (((qAf (p := ⟨gb102, _, none⟩) NB101_102.out _).trans (((qAf (p := ⟨gb102, _, none⟩) NB101_102.out _).trans (hHeld.1)))))), ((qAf (p := ⟨gb102, _, none⟩) NB101_102.out _).trans (((qAf (p := ⟨gb102, _, none⟩) NB101_102.out _).trans (((qAf (p := ⟨gb102, _, none⟩) NB101_102.out _).trans (hHeld.2.1)))))), ((qAf (p := ⟨gb102, _, none⟩) NB101_102.out _).trans (((qAf (p := ⟨gb102, _, none⟩) NB101_102.out _).trans (((qAf (p := ⟨gb102, _, none⟩) NB101_102.out _).trans (hHeld.2.2))))))⟩ (fun hHeld => ?_)
 clear hK K
 refine qBd (qA2 HT_.out (by kernel_rfl)) ?_
 try go_wp2
 refine bodyPost_ret (results_cell_row rfl _ _ gb102 29 #[.int .i64 t112, .int .i64 t113, .slice Ao15 t114.length co15] (0, 0) _ rfl (by refine BW_ ?_; refine bP_ (cs := #[.int .i64 t112, .int .i64 t113, .slice none 0 0]) ?_ 2 _ rfl; refine BW_ ?_; refine bP_ (cs := #[.int .i64 t112, .int .i64 0, .slice none 0 0]) ?_ 1 _ rfl; refine BW_ ?_; refine bP_ (cs := #[.int .i64 0, .int .i64 0, .slice none 0 0]) ?_ 0 _ rfl; refine BW_ ?_; exact BK102.out) Try.underlying29 rfl (by kernel_rfl)) rfl ?_
 exact ⟨_, F_, by refine SW_ ?_; exact Kd.S_mono (Kd.S_far (p := ⟨gb102, 2, none⟩) (Kd.S_far (p := ⟨gb102, 1, none⟩) (Kd.S_far (p := ⟨gb102, 0, none⟩) (Kd.S_types HO116.out BK102.out (by decide)) (fun _ hk => hk.2) (.int .i64 t112)) (fun _ hk => hk.2) (.int .i64 t113)) (fun _ hk => hk.2) (.slice Ao15 t114.length co15)) (fun _ hk => trivial), B2_ HB.out GE101.out GE102.out⟩
def z70.l0 : Nat → List Int → Int → Int → Option (Bool)
 | 0, _, _, _ => none
 | k + 1, x0, x1, x5 => if x5 < (x0.length : Int) then (if 0 ≤ x5 then (if (rd x0 x5) = x1 then (some true) else (z70.l0 k x0 x1 (wrap64 (x5 + 1)))) else (none)) else (some false)
def z70.f (k : Nat) (l0 : List Int) (a1 : Int) : Option (Bool) := z70.l0 k l0 a1 0
theorem z70.calls (k : Nat) (A0 : Option Addr) (c0 : Nat) (l0 : List Int) (a1 : Int) (r : Bool) (w : World) (hr0 : Kd.C (Kd.int .i64) w A0 l0.length l0) (hc0 : l0.length ≤ c0) (h : z70.f k l0 a1 = some r) :
  Calls Try.prog 70 #[.slice A0 l0.length c0, .int .i64 a1] w fun e w' => e = .returned (.bool r) ∧ Dz w w' := by
 have HR0 := Zz.mk hr0
 have HC0 := Zz.mk hc0
 clear hr0 hc0
 have H : (z70.l0 k l0 a1 0) = some r := h
 clear h
 have H' := Zz.mk H
 clear H
 go_enter Try.func70, Try.ntmps70
 go_wp2
 go_loopg [5] k (fun kq v5 w' => ∃ (x5_1 : Int), v5 = .int .i64 x5_1 ∧ Zz (z70.l0 kq l0 a1 x5_1 = some r) ∧ Zz (kq ≤ k) ∧ Dz w w')
 case atStart => exact ⟨(0), E_, H', ⟨Nat.le_refl _⟩, by repeat (first | exact Dz.refl _ | apply Dz.step)⟩
 case round =>
  clear H'
  obtain ⟨x5_1, rfl, HA, HK1, ⟨m1, rfl⟩⟩ := hrel
  cases gk with
  | zero => exact absurd HA.out (by simp [z70.l0])
  | succ k1 =>
   have H := HA.out
   clear HA
   simp only [z70.l0] at H
   by_cases c3 : x5_1 < (l0.length : Int)
   ·rw [if_pos c3] at H
    have c3b0 : decide (x5_1 < (l0.length : Int)) = true := decide_eq_true c3
    clear c3
    have c4b0 := O3_ H
    replace H := O2_ H
    by_cases c5 : (rd l0 x5_1) = a1
    ·rw [if_pos c5] at H
     have c5b0 : ((rd l0 x5_1) == a1) = true := beq_iff_eq.mpr c5
     have c5b1 : ((rd l0 x5_1) != a1) = false := bne_eq_false_iff_eq.mpr c5
     clear c5
     obtain rfl := OI_ H
     have p101 : 0 ≤ (x5_1 : Int) := D_
     have q101 : x5_1 < (l0.length : Int) := D_
     obtain ⟨ad101, e101, hx101_0⟩ := Kd.at_int HR0.out x5_1 p101 q101
     cases e101
     replace p101 := eq_true p101
     replace q101 := eq_true q101
     go_wp2
     go_ret
     exact eD_
    rw [if_neg c5] at H
    have c5b0 : ((rd l0 x5_1) == a1) = false := beq_eq_false_iff_ne.mpr c5
    have c5b1 : ((rd l0 x5_1) != a1) = true := bne_iff_ne.mpr c5
    have H' := Zz.mk H
    clear H
    have p101 : 0 ≤ (x5_1 : Int) := D_
    have q101 : x5_1 < (l0.length : Int) := D_
    obtain ⟨ad101, e101, hx101_0⟩ := Kd.at_int HR0.out x5_1 p101 q101
    cases e101
    replace p101 := eq_true p101
    replace q101 := eq_true q101
    go_wp2
    go_roundg k1
    case measure => exact Q1_ HK1
    case rel => exact ⟨(wrap64 (x5_1 + 1)), E_, H', ⟨Q1_ HK1⟩, by repeat (first | exact Dz.refl _ | apply Dz.step)⟩
   rw [if_neg c3] at H
   have c3b0 : decide (x5_1 < (l0.length : Int)) = false := decide_eq_false c3
   clear c3
   obtain rfl := OI_ H
   go_wp2
   go_ret
   exact eD_
end Go.Proofs.Ytabfflgoaalapaa.B
