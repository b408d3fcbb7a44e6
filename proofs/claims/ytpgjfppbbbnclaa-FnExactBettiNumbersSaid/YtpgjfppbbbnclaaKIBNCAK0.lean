/- Printed proofs of functions of the program and of the reference, by a program of this work over the kit's printer. -/
import Derived.Test.YtpgjfppbbbnclaaKLEKPEN0
import Derived.Test.YtpgjfppbbbnclaaKPCACJH0
import Derived.Test.YtpgjfppbbbnclaaKW0
namespace Go.Proofs.Ytpgjfppbbbnclaa.B
open Go.RowKit Go.Proofs.YtpgjfppbbbnclaaW.PrintWords Go.Proofs.YtpgjfppbbbnclaaW.PrintLast Go.Proofs.YtpgjfppbbbnclaaW.PrintMore
attribute [local go_sem] qAh qAf qAl qAk qAc qAb qAg qAe
set_option linter.unusedVariables false
set_option linter.unusedSimpArgs false
mutual
def z41.l0 : Nat → List (List Int) → List Int → List (List Int) → Int → Int → Int → Int → Int → List Int → Option ((List (List Int)))
 | 0, _, _, _, _, _, _, _, _, _ => none
 | k + 1, x3, x4, x6, x23, x24, x102000, x102001, x102002, x102003 => if x24 < x23 then ((z65.f k x4 x24).bind fun t110 => (if t110 = true then (z41.l0 k x3 x4 x6 x23 (wrap64 (x24 + 1)) x102000 x102001 x102002 x102003) else (if 0 ≤ x102002 then (if (x102002 : Int).toNat ≤ 35184372088832 then ((some (List.replicate (x102002 : Int).toNat 0 : List Int)).bind fun y111 => (if 0 ≤ x24 then (if x24 < (y111.length : Int) then (z41.l1 k x3 x4 x6 x24 (y111.set (x24 : Int).toNat 1) x23 x24 x4 (x4.length : Int) 0 x102000 x102001 x102002 x102003) else (none)) else (none))) else (none)) else (none)))) else (some x6)
def z41.l1 : Nat → List (List Int) → List Int → List (List Int) → Int → List Int → Int → Int → List Int → Int → Int → Int → Int → Int → List Int → Option ((List (List Int)))
 | 0, _, _, _, _, _, _, _, _, _, _, _, _, _, _ => none
 | k + 1, x3, x4, x6, x7, x8, x23, x24, x36, x37, x38, x102000, x102001, x102002, x102003 => if x38 < x37 then (if 0 ≤ x38 then (if x38 < (x36.length : Int) then (if x38 < (x3.length : Int) then (if 0 ≤ x7 then (if x7 < ((rI_ x3 x38).length : Int) then ((z66.f (wrap64 (-(rd (rI_ x3 x38) x7))) x102000).bind fun t118 => (if 0 ≤ (rd x36 x38) then (if (rd x36 x38) < (x8.length : Int) then (z41.l1 k x3 x4 x6 x7 (x8.set ((rd x36 x38) : Int).toNat t118) x23 x24 x36 x37 (wrap64 (x38 + 1)) x102000 x102001 x102002 x102003) else (none)) else (none))) else (none)) else (none)) else (none)) else (none)) else (none)) else (if x6.length < 5864062014805 then (z41.l0 k x3 x4 (x6 ++ [x8]) x23 (wrap64 (x24 + 1)) x102000 x102001 x102002 x102003) else (none))
end
def z41.f (k : Nat) (a0_0 : Int) (a0_1 : Int) (a0_2 : Int) (l0_3 : List Int) : Option ((List (List Int))) := (z63.f k a0_0 a0_1 a0_2 l0_3).bind fun t102 => ((z64.f k t102 a0_2 a0_0).bind fun bt105 => (z41.l0 k bt105.2.2 bt105.1 ([] : List (List Int)) a0_2 0 a0_0 a0_1 a0_2 l0_3))
def z41.T13 : Bool × List (List Nat × List Nat) := (true, [([], []), ([], []), ([], []), ([], []), ([2, 3], [2, 3]), ([4], [4]), ([], []), ([5, 6], [5, 6]), ([7], [7]), ([8], [8]), ([], []), ([10], [10]), ([9, 11], [9, 11]), ([0, 1, 0, 1, 2, 3, 4, 5, 6, 7, 8, 9, 10, 11, 12], [0, 1]), ([13, 12, 12, 0, 1, 2, 3, 4, 5, 6, 7, 8, 9, 10, 11, 12], [12, 13])])
def z41.B13 : List Nat := [0, 0, 0, 0, 12, 28, 0, 124, 252, 508, 0, 1024, 4092, 8191, 16383]
theorem z41.tab13 : rtab .any (qC4 Try.f41 13) = z41.T13 := by kernel_rfl
theorem z41.bits13 : qBe z41.T13.2 z41.B13 = true := by kernel_rfl
set_option maxHeartbeats 8000000 in
set_option maxRecDepth 100000 in
theorem z41.calls (k : Nat) (a0_0 : Int) (a0_1 : Int) (a0_2 : Int) (A0_3 : Option Addr) (c0_3 : Nat) (l0_3 : List Int) (r : List (List Int)) (w : World) (hr0_3 : Kd.C (Kd.int .i64) w A0_3 l0_3.length l0_3) (hc0_3 : l0_3.length ≤ c0_3) (h : z41.f k a0_0 a0_1 a0_2 l0_3 = some r) :
  Calls Try.prog 41 #[.agg #[.int .i64 a0_0, .int .i64 a0_1, .int .i64 a0_2, .slice A0_3 l0_3.length c0_3]] w fun e w' => ∃ v0_ : Value, e = .returned (v0_) ∧ Kd.S (Kd.slice 2 (Kd.int .i64)) 26 w' w.heap.size (fun _ => True) v0_ r ∧ Below w.heap.size w w' := by
 have hu51 := Try.underlying51
 have HR0_3 := Zz.mk hr0_3
 have HC0_3 := Zz.mk hc0_3
 clear hr0_3 hc0_3
 have HB := Zz.mk (Below.refl w.heap.size w)
 have H : ((z63.f k a0_0 a0_1 a0_2 l0_3).bind fun t102 => ((z64.f k t102 a0_2 a0_0).bind fun bt105 => (z41.l0 k bt105.2.2 bt105.1 ([] : List (List Int)) a0_2 0 a0_0 a0_1 a0_2 l0_3))) = some r := h
 clear h
 replace H := OZ_ H
 obtain ⟨t102, A2, H⟩ := H
 replace H := OB_ H
 obtain ⟨⟨t105, t108, t109⟩, A30, H⟩ := H
 try dsimp only at H
 have A3 := Zz.mk A30
 clear A30
 have H' := Zz.mk H
 clear H
 go_enter Try.func41, Try.ntmps41
 go_wp2_with (first | ((with_reducible refine qAm (N := 1) rfl ?_); refine bx_ 1 #[.int .i64 a0_0, .int .i64 a0_1, .int .i64 a0_2, .slice A0_3 l0_3.length c0_3] 51 ?_; intro gb101 hg w4 hbox hb; have BK101 := Zz.mk (hbox); have GW101 := Zz.mk ((gw_ hg (B_ HB.out))); have GE101 := GW101; replace HB := Zz.mk (bT_ (B_ HB.out) hb); clear hb hbox hg; obtain ⟨hcz5_0, hcz5_1, hcz5_2, hcz5_3, hfz5_0, hfz5_1, hfz5_2, hfz5_3⟩ := Z4f_ BK101.out) | ((with_reducible refine gC_ (f := 63) rfl ?_); refine GL_ (some 12) rfl rfl Try.func63 #[.agg #[.int .i64 a0_0, .int .i64 a0_1, .int .i64 a0_2, .slice A0_3 l0_3.length c0_3]] rfl (h := ?_); (with_reducible refine (z63.calls k a0_0 a0_1 a0_2 _ _ l0_3 t102 _ ?side1 ?side2 A2.out).mono ?_); (case side1 => exact KC_ (Kd.C_below HR0_3.out HB.out)); (case side2 => exact HC0_3.out); rintro e w6 ⟨v103, rfl, ho0, hb⟩; refine ⟨_, rfl, ?_⟩; have HO104 := Zz.mk (Kd.S_lower ho0 (bS_ (B1_ HB.out GE101.out))); replace BK101 := Zz.mk (kb_ BK101.out hb); replace HB := Zz.mk (bT_ (B1_ HB.out GE101.out) hb); (try clear hb); (try clear ho0); obtain ⟨hcz7_0, hcz7_1, hcz7_2, hcz7_3, hfz7_0, hfz7_1, hfz7_2, hfz7_3⟩ := Z4f_ BK101.out; obtain ⟨Ao8, co8, eo8⟩ := Kd.S_slice HO104.out; subst eo8) | (go_at_call 64; (with_reducible refine (z64.calls k (fun k_ => True ∧ ∃ q_, q_ ∈ 26 :: ((Kd.slice 2 (Kd.int .i64))).E ∧ ∃ cs_, w6.heap[k_]? = some (.cells cs_ q_ (0, 0))) (.slice Ao8 t102.length co8) t102 a0_2 a0_0 t105 t108 t109 w _ ?side1 ?side2 A3.out).mono ?_); (case side1 => repeat (first | (with_reducible first | exact HB.out | apply qAx | apply qAt | apply qAq | refine qAz ?_ GE101.out) | exact HB.out)); (case side2 => exact Kd.S_N (Kd.S_pin (ok := fun k_ => True) (KS_ HO104.out))); rintro e w9 ⟨v106, rfl, ho0, hy0, hb, hkp⟩; have HO107 := Zz.mk (Kd.R_mono ho0 (fun k_ hk_ => trivial)); replace HO104 := Zz.mk (Kd.N_mono (ok' := fun k_ => k_ ≠ gb101) hy0 (fun k_ hk_ => fun e_ => Or.elim hk_ (fun hs_ => Kd.typed_ne (KB_ BK101.out) (by rw [← e_]; exact hs_.2) (by decide)) (fun hn_ => (Kd.freshB (g := gb101) (o := .cells #[.int .i64 a0_0, .int .i64 a0_1, .int .i64 a0_2, .slice A0_3 l0_3.length c0_3] 51 (0, 0)) (KB_ BK101.out) k_ hn_) e_))); replace BK101 := Zz.mk (qDw (KB_ BK101.out) hkp (fun hs_ => Kd.typed_ne (KB_ BK101.out) hs_.2 (by decide))); replace HB := Zz.mk (hb); (try clear hb hkp hy0 ho0); obtain ⟨hcz10_0, hcz10_1, hcz10_2, hcz10_3, hfz10_0, hfz10_1, hfz10_2, hfz10_3⟩ := Z4f_ BK101.out))
 go_loopg [6, 24] k (fun kq v6 v24 w' => ∃ (x4_1 : List Int) (x6_1 : List (List Int)) (x24_1 : Int), v24 = .int .i64 x24_1 ∧ Zz (z41.l0 kq t109 x4_1 x6_1 a0_2 x24_1 a0_0 a0_1 a0_2 l0_3 = some r) ∧ Zz (kq ≤ k) ∧ Zz (Kd.N (Kd.slice 2 (Kd.int .i64)) 26 w' w.heap.size (fun k_ => some k_ ≠ (v6 : Value).ownBlock ∧ k_ ≠ gb101) (.slice Ao8 t102.length co8) t109) ∧ Zz (Kd.R (Kd.int .i64) 2 w' w.heap.size (fun _ => True) v106 x4_1) ∧ Zz (Kd.S (Kd.slice 2 (Kd.int .i64)) 26 w' w.heap.size (fun k_ => some k_ ≠ ((.slice Ao8 t102.length co8) : Value).ownBlock ∧ some k_ ≠ (v106 : Value).ownBlock) v6 x6_1) ∧ Zz (w'.heap[gb101]? = some (.cells #[.int .i64 a0_0, .int .i64 a0_1, .int .i64 a0_2, (.slice A0_3 l0_3.length c0_3)] 51 (0, 0))) ∧ Zz (Below w.heap.size w w'))
 case atStart => exact ⟨(t105), (([] : List (List Int))), (0), E_, H', ⟨Nat.le_refl _⟩, ⟨by refine NW_ ?_; exact Kd.N_mono HO104.out (fun _ hk => ⟨(by simp [Value.ownBlock]), hk⟩)⟩, ⟨KR_ HO107.out⟩, ⟨by first | exact Kd.S_nil _ _ _ _ _ | exact Kd.N_nil _ _ _ _ _ | exact Kd.V_nil _ _ _ _ _ | exact Kd.Q_nil _ _ _ _ _ | exact Kd.R_nil _ _ _ _ _⟩, ⟨KB_ BK101.out⟩, ⟨B1_ HB.out GE101.out⟩⟩
 case round =>
  clear H'
  (try clear hcz10_0);(try clear hcz10_1);(try clear hcz10_2);(try clear hcz10_3);(try clear hcz5_0);(try clear hcz5_1);(try clear hcz5_2);(try clear hcz5_3);(try clear hcz7_0);(try clear hcz7_1);(try clear hcz7_2);(try clear hcz7_3);(try clear hfz10_0);(try clear hfz10_1);(try clear hfz10_2);(try clear hfz10_3);(try clear hfz5_0);(try clear hfz5_1);(try clear hfz5_2);(try clear hfz5_3);(try clear hfz7_0);(try clear hfz7_1);(try clear hfz7_2);(try clear hfz7_3)
  obtain ⟨x4_1, x6_1, x24_1, rfl, HA, HK1, HO_3, HO_4, HO_6, BK101, HB⟩ := hrel
  have hl3_1 := (Kd.N_reads' HO_3.out).1
  rw [hl3_1] at HO_3
  (try simp only [hl3_1])
  (try simp only [hl3_1] at BK101)
  (try simp only [hl3_1] at HO_4)
  (try simp only [hl3_1] at HO_6)
  cases gk with
  | zero => exact absurd HA.out (by simp [z41.l0])
  | succ k1 =>
   have H := HA.out
   clear HA
   simp only [z41.l0] at H
   by_cases c11 : x24_1 < a0_2
   ·rw [if_pos c11] at H
    have c11b0 : decide (x24_1 < a0_2) = true := decide_eq_true c11
    (try rw [hl3_1] at c11b0)
    clear c11
    replace H := OZ_ H
    obtain ⟨t110, A12, H⟩ := H
    by_cases c13 : t110 = true
    ·subst c13
     replace H := T_ H
     have H' := Zz.mk H
     clear H
     obtain ⟨Ao14, co14, eo14⟩ := Kd.R_slice HO_4.out
     subst eo14
     go_wp2_with (first | ((with_reducible refine gC_ (f := 65) rfl ?_); refine GL_ (some 29) rfl rfl Try.func65 #[.slice Ao14 x4_1.length co14, .int .i64 x24_1] rfl (h := ?_); (with_reducible refine (z65.calls k1 _ _ x4_1 x24_1 true _ ?side1 ?side2 A12.out).mono ?_); (case side1 => exact KC_ (Kd.R_reads' HO_4.out).2.2); (case side2 => exact (Kd.R_reads' HO_4.out).2.1); rintro e w' ⟨rfl, ⟨nd, rfl⟩⟩; refine ⟨_, rfl, ?_⟩))
     (try simp only [← hl3_1])
     go_roundg k1
     case measure => exact Q1_ HK1
     case rel => exact ⟨(x4_1), (x6_1), (wrap64 (x24_1 + 1)), E_, H', ⟨Q1_ HK1⟩, ⟨by (try simp only [hl3_1]); refine NW_ ?_; exact HO_3.out⟩, ⟨by (try simp only [hl3_1]); refine RW_ ?_; exact HO_4.out⟩, ⟨by (try simp only [hl3_1]); refine SW_ ?_; exact HO_6.out⟩, ⟨by (try simp only [hl3_1]); refine BW_ ?_; exact BK101.out⟩, ⟨B1_ HB.out GE101.out⟩⟩
    replace c13 := Bool.eq_false_iff.mpr c13
    subst c13
    replace H := N_ H
    have c15 := O1_ H
    replace H := O2_ H
    have c15b0 := eq_true c15
    have c15b1 : decide (0 ≤ a0_2) = true := decide_eq_true c15
    clear c15
    have c16 := O1_ H
    replace H := O2_ H
    have c16b0 := eq_true c16
    have c16b1 : decide ((a0_2 : Int).toNat ≤ 35184372088832) = true := decide_eq_true c16
    clear c16
    obtain ⟨y111, hy111⟩ : ∃ y_ : List Int, y_ = (List.replicate (a0_2 : Int).toNat 0) := ⟨_, rfl⟩
    replace H : (if 0 ≤ x24_1 then (if x24_1 < (y111.length : Int) then (z41.l1 k1 t109 x4_1 x6_1 x24_1 (y111.set (x24_1 : Int).toNat 1) a0_2 x24_1 x4_1 (x4_1.length : Int) 0 a0_0 a0_1 a0_2 l0_3) else (none)) else (none)) = some r := Y_ hy111 H
    have Ny111 := Zz.mk hy111
    clear hy111
    have c17 := O1_ H
    replace H := O2_ H
    have c17b0 := decide_eq_true c17
    (try rw [hl3_1] at c17b0)
    clear c17
    have c18 := O1_ H
    replace H := O2_ H
    have c18b0 := decide_eq_true c18
    (try rw [hl3_1] at c18b0)
    clear c18
    obtain ⟨y114, hy114⟩ : ∃ y_ : List Int, y_ = (y111.set (x24_1 : Int).toNat 1) := ⟨_, rfl⟩
    replace H : (z41.l1 k1 t109 x4_1 x6_1 x24_1 y114 a0_2 x24_1 x4_1 (x4_1.length : Int) 0 a0_0 a0_1 a0_2 l0_3) = some r := Y_ hy114 H
    have Ny114 := Zz.mk hy114
    clear hy114
    have H' := Zz.mk H
    clear H
    obtain ⟨Ao20, co20, eo20⟩ := Kd.R_slice HO_4.out
    subst eo20
    go_wp2_with (first | ((with_reducible refine gC_ (f := 65) rfl ?_); refine GL_ (some 29) rfl rfl Try.func65 #[.slice Ao20 x4_1.length co20, .int .i64 x24_1] rfl (h := ?_); (with_reducible refine (z65.calls k1 _ _ x4_1 x24_1 false _ ?side1 ?side2 A12.out).mono ?_); (case side1 => exact KC_ (Kd.R_reads' HO_4.out).2.2); (case side2 => exact (Kd.R_reads' HO_4.out).2.1); rintro e w' ⟨rfl, ⟨nd, rfl⟩⟩; refine ⟨_, rfl, ?_⟩; (try (rw [qCx wr]; generalize hq_ : World.drewN wr _ = wr; replace HO_3 : Zz (Kd.N (Kd.slice 2 (Kd.int .i64)) 26 wr w.heap.size (fun k_ => some k_ ≠ (u6 : Value).ownBlock ∧ k_ ≠ gb101) (.slice Ao8 t109.length co8) t109) := ⟨by rw [← hq_]; exact (KN_ HO_3.out)⟩; replace HO_4 : Zz (Kd.R (Kd.int .i64) 2 wr w.heap.size (fun _ => True) (.slice Ao20 x4_1.length co20) x4_1) := ⟨by rw [← hq_]; exact (KR_ HO_4.out)⟩; replace HO_6 : Zz (Kd.S (Kd.slice 2 (Kd.int .i64)) 26 wr w.heap.size (fun k_ => some k_ ≠ (.slice Ao8 t109.length co8 : Value).ownBlock ∧ some k_ ≠ (.slice Ao20 x4_1.length co20 : Value).ownBlock) u6 x6_1) := ⟨by rw [← hq_]; exact (KS_ HO_6.out)⟩; replace BK101 : Zz (wr.heap[gb101]? = some (.cells #[.int .i64 a0_0, .int .i64 a0_1, .int .i64 a0_2, .slice A0_3 l0_3.length c0_3] 51 (0, 0))) := ⟨by rw [← hq_]; exact (KB_ BK101.out)⟩; replace HB : Zz (Below w.heap.size w wr) := ⟨by rw [← hq_]; exact (B1_ HB.out GE101.out)⟩; (try clear hq_))); obtain ⟨hcz21_0, hcz21_1, hcz21_2, hcz21_3, hfz21_0, hfz21_1, hfz21_2, hfz21_3⟩ := Z4f_ BK101.out) | ((with_reducible refine qAm (N := 32) rfl ?_); refine Kd.R_make (Kd.int .i64) _ 2 rfl (N := 32) rfl 26 _ _ rfl a0_2 rfl rfl Try.underlying26 (.int .i64 0) 8 qB9 rfl (by decide) (by omega) 0 (ok := fun _ => True) (okp := fun _ => True) rfl (fun _ hk => hk) trivial (D_) (Nat.le_trans (Nat.mul_le_mul_right _ (D_ : a0_2.toNat ≤ 35184372088832)) (by omega)) (Below.refl _ _) (Nat.le_refl _) ?_; intro v112 w22 ho23 hb hg_ hnew_; clear hg_ hnew_; (first | rw [← Ny111.out] at ho23 | (simp only [Int.reduceToNat] at ho23; rw [← Ny111.out] at ho23)); have HO113 := Zz.mk (Kd.R_lower (Kd.R_new' ho23 (Kd.R_lt (KR_ HO_4.out))) (bS_ (B1_ HB.out GE101.out))); replace HO_3 := Zz.mk (Kd.N_elder' (KN_ HO_3.out) (Kd.R_base ho23) hb); replace HO_4 := Zz.mk (Kd.R_elder' (KR_ HO_4.out) (Kd.R_base ho23) hb); replace HO_6 := Zz.mk (Kd.S_elder' (KS_ HO_6.out) (Kd.R_base ho23) hb); replace BK101 := Zz.mk (kb_ BK101.out hb); replace HB := Zz.mk (bT_ (B1_ HB.out GE101.out) hb); clear hb ho23; have p19 : 0 ≤ (x24_1 : Int) := D_; have q19 : (x24_1 : Int) < ((y111.length : Int) : Int) := D_; obtain ⟨go19, co19, eo19, gb19, gl19, cl19, HG19⟩ := Kd.R_form HO113.out (by omega); (first | cases eo19 | (injection eo19 with ea_ en_ ec_; (first | subst ea_ | (injection ea_ with ea_; subst ea_)); subst ec_; clear en_)); have GB19 := Zz.mk gb19; have GG19 := Zz.mk HG19; clear gb19 gl19 HG19; obtain ⟨hx19_0, hf19_0⟩ := Kd.R_celln 0 HO113.out (x24_1 : Int) p19 q19; replace p19 := eq_true p19; replace q19 := eq_true q19; have n_ := Zz.mk (Kd.R_mono (ok' := (fun k_ => some k_ ≠ (.slice Ao20 x4_1.length co20 : Value).ownBlock)) HO113.out (fun k_ hk => hk.2)); clear HO113; have HO113 := n_; clear n_; obtain ⟨hy24_, hz24_⟩ := Kd.R_celln 0 HO113.out (x24_1 : Int) (D_) (D_); have HP24 := Kd.R_putg HO113.out (x24_1 : Int) 1) | ((with_reducible refine qCa (t := 2) (p := 35) rfl ?_); refine qB0 (t := 2) (p := 35) (v := ?vo_w25) (w1 := (w22.setCell ⟨go19, (x24_1 : Int).toNat, none⟩ (.int .i64 1))) ?hg ?ho ?hn ?hr ?_; (case ho => rfl); (case hg => rfl); (case hn => rfl); (case hr => first | (go_simp; done) | (go_simp; rfl)); intro w25 hw; have hg : w22.grownBy w25 (some go19) := (by rw [hw]; exact HP24.2); have hp_ : Kd.R (Kd.int .i64) 2 w25 w.heap.size (fun k_ => some k_ ≠ (.slice Ao20 x4_1.length co20 : Value).ownBlock) (.slice (some ⟨go19, 0, none⟩) y111.length co19) y114 := (by rw [hw, Ny114.out]; exact HP24.1); clear HP24; replace HO_3 := Zz.mk (Kd.N_afterv (v := (.slice (some ⟨go19, 0, none⟩) y111.length co19)) (v1 := (.slice (some ⟨go19, 0, none⟩) y111.length co19)) (ok := (fun k_ => some k_ ≠ (u6 : Value).ownBlock ∧ k_ ≠ gb101)) (KN_ HO_3.out) hg (.inl rfl)); replace HO_4 := Zz.mk (Kd.R_after (v := (.slice (some ⟨go19, 0, none⟩) y111.length co19)) (v1 := (.slice (some ⟨go19, 0, none⟩) y111.length co19)) (ok := (fun _ => True)) (KR_ HO_4.out) hg (.inl rfl)); replace HO_6 := Zz.mk (Kd.S_after (v := (.slice (some ⟨go19, 0, none⟩) y111.length co19)) (v1 := (.slice (some ⟨go19, 0, none⟩) y111.length co19)) (ok := (fun k_ => some k_ ≠ (.slice Ao8 t109.length co8 : Value).ownBlock ∧ some k_ ≠ (.slice Ao20 x4_1.length co20 : Value).ownBlock)) (KS_ HO_6.out) hg (.inl rfl)); replace BK101 := Zz.mk (qAy (g := gb101) (o := .cells #[.int .i64 a0_0, .int .i64 a0_1, .int .i64 a0_2, .slice A0_3 l0_3.length c0_3] 51 (0, 0)) (KB_ BK101.out) hg (Kd.R_ne HO113.out BK101.out (by decide))); replace HO113 := Zz.mk (hp_); replace HB := Zz.mk ((by rw [hw]; exact qAz (HB.out) GB19.out : Below w.heap.size w w25)); clear hg hw hp_))
    go_loopg [38] k1 (fun kq v38 w' => ∃ (x8_2 : List Int) (x38_2 : Int), v38 = .int .i64 x38_2 ∧ Zz (z41.l1 kq t109 x4_1 x6_1 x24_1 x8_2 a0_2 x24_1 x4_1 (x4_1.length : Int) x38_2 a0_0 a0_1 a0_2 l0_3 = some r) ∧ Zz (kq ≤ k1) ∧ Zz (Kd.N (Kd.slice 2 (Kd.int .i64)) 26 w' w.heap.size (fun k_ => some k_ ≠ (u6 : Value).ownBlock ∧ some k_ ≠ ((.slice (some ⟨go19, 0, none⟩) y111.length co19) : Value).ownBlock ∧ k_ ≠ gb101) (.slice Ao8 t109.length co8) t109) ∧ Zz (Kd.R (Kd.int .i64) 2 w' w.heap.size (fun k_ => some k_ ≠ ((.slice (some ⟨go19, 0, none⟩) y111.length co19) : Value).ownBlock) (.slice Ao20 x4_1.length co20) x4_1) ∧ Zz (Kd.S (Kd.slice 2 (Kd.int .i64)) 26 w' w.heap.size (fun k_ => some k_ ≠ ((.slice Ao8 t109.length co8) : Value).ownBlock ∧ some k_ ≠ ((.slice Ao20 x4_1.length co20) : Value).ownBlock ∧ some k_ ≠ ((.slice (some ⟨go19, 0, none⟩) y111.length co19) : Value).ownBlock ∧ some k_ ≠ ((.slice Ao20 x4_1.length co20) : Value).ownBlock) u6 x6_1) ∧ Zz (Kd.R (Kd.int .i64) 2 w' w.heap.size (fun k_ => some k_ ≠ ((.slice Ao20 x4_1.length co20) : Value).ownBlock ∧ some k_ ≠ ((.slice Ao20 x4_1.length co20) : Value).ownBlock) (.slice (some ⟨go19, 0, none⟩) y111.length co19) x8_2) ∧ Zz (Kd.R (Kd.int .i64) 2 w' w.heap.size (fun k_ => some k_ ≠ ((.slice (some ⟨go19, 0, none⟩) y111.length co19) : Value).ownBlock) (.slice Ao20 x4_1.length co20) x4_1) ∧ Zz (w'.heap[gb101]? = some (.cells #[.int .i64 a0_0, .int .i64 a0_1, .int .i64 a0_2, (.slice A0_3 l0_3.length c0_3)] 51 (0, 0))) ∧ Zz (Below w.heap.size w w'))
    case atStart => exact ⟨(y114), (0), E_, H', ⟨Nat.le_refl _⟩, ⟨by (try simp only [hl3_1]); refine NW_ ?_; exact Kd.N_mono HO_3.out (fun _ hk => ⟨hk.1.1, ⟨hk.2, hk.1.2⟩⟩)⟩, ⟨by (try simp only [hl3_1]); refine RW_ ?_; exact Kd.R_mono HO_4.out (fun _ hk => hk.2)⟩, ⟨by (try simp only [hl3_1]); refine SW_ ?_; exact Kd.S_mono HO_6.out (fun _ hk => ⟨hk.1.1, ⟨hk.1.2, ⟨hk.2, hk.1.2⟩⟩⟩)⟩, ⟨by (try simp only [hl3_1]); refine RW_ ?_; exact Kd.R_mono HO113.out (fun _ hk => ⟨hk, hk⟩)⟩, ⟨by (try simp only [hl3_1]); refine RW_ ?_; exact Kd.R_mono HO_4.out (fun _ hk => hk.2)⟩, ⟨by (try simp only [hl3_1]); refine BW_ ?_; exact BK101.out⟩, ⟨B1_ HB.out GE101.out⟩⟩
    case round =>
     clear H'
     (try clear c11);(try clear c11b0);(try clear c13);(try clear c15);(try clear c15b0);(try clear c15b1);(try clear c16);(try clear c16b0);(try clear c16b1);(try clear c17);(try clear c17b0);(try clear c18);(try clear c18b0);(try clear p19);(try clear q19);(try clear hcz10_0);(try clear hcz10_1);(try clear hcz10_2);(try clear hcz10_3);(try clear hcz21_0);(try clear hcz21_1);(try clear hcz21_2);(try clear hcz21_3);(try clear hcz5_0);(try clear hcz5_1);(try clear hcz5_2);(try clear hcz5_3);(try clear hcz7_0);(try clear hcz7_1);(try clear hcz7_2);(try clear hcz7_3);(try clear hfz10_0);(try clear hfz10_1);(try clear hfz10_2);(try clear hfz10_3);(try clear hfz21_0);(try clear hfz21_1);(try clear hfz21_2);(try clear hfz21_3);(try clear hfz5_0)
     (try clear hfz5_1);(try clear hfz5_2);(try clear hfz5_3);(try clear hfz7_0);(try clear hfz7_1);(try clear hfz7_2);(try clear hfz7_3);(try clear hx19_0);(try clear p19);(try clear q19)
     obtain ⟨x8_2, x38_2, rfl, HA, HK2, HO_3, HO_4, HO_6, HO_8, HO_36, BK101, HB⟩ := hrel
     have hl8_2 := (Kd.R_reads' HO_8.out).1
     rw [hl8_2] at HO_8
     (try simp only [hl8_2])
     (try simp only [hl8_2] at BK101)
     (try simp only [hl8_2] at HO_3)
     (try simp only [hl8_2] at HO_4)
     (try simp only [hl8_2] at HO_6)
     (try simp only [hl8_2] at HO_36)
     cases gk with
     | zero => exact absurd HA.out (by simp [z41.l1])
     | succ k2 =>
      have H := HA.out
      clear HA
      simp only [z41.l1] at H
      by_cases c26 : x38_2 < (x4_1.length : Int)
      ·rw [if_pos c26] at H
       have c26b0 : decide (x38_2 < (x4_1.length : Int)) = true := decide_eq_true c26
       (try rw [hl3_1] at c26b0)
       (try rw [hl8_2] at c26b0)
       clear c26
       have c27 := O1_ H
       replace H := O2_ H
       have c27b0 := decide_eq_true c27
       (try rw [hl3_1] at c27b0)
       (try rw [hl8_2] at c27b0)
       clear c27
       have c28 := O1_ H
       replace H := O2_ H
       have c28b0 := decide_eq_true c28
       (try rw [hl3_1] at c28b0)
       (try rw [hl8_2] at c28b0)
       clear c28
       have c29 := O1_ H
       replace H := O2_ H
       have c29b0 := decide_eq_true c29
       (try rw [hl3_1] at c29b0)
       (try rw [hl8_2] at c29b0)
       clear c29
       have c30 := O1_ H
       replace H := O2_ H
       have c30b0 := decide_eq_true c30
       (try rw [hl3_1] at c30b0)
       (try rw [hl8_2] at c30b0)
       clear c30
       have c31 := O1_ H
       replace H := O2_ H
       have c31b0 := decide_eq_true c31
       (try rw [hl3_1] at c31b0)
       (try rw [hl8_2] at c31b0)
       clear c31
       replace H := OZ_ H
       obtain ⟨t118, A32, H⟩ := H
       have c33 := O1_ H
       replace H := O2_ H
       have c33b0 := decide_eq_true c33
       (try rw [hl3_1] at c33b0)
       (try rw [hl8_2] at c33b0)
       clear c33
       have c34 := O1_ H
       replace H := O2_ H
       have c34b0 := decide_eq_true c34
       (try rw [hl3_1] at c34b0)
       (try rw [hl8_2] at c34b0)
       clear c34
       obtain ⟨y119, hy119⟩ : ∃ y_ : List Int, y_ = (x8_2.set ((rd x4_1 x38_2) : Int).toNat t118) := ⟨_, rfl⟩
       replace H : (z41.l1 k2 t109 x4_1 x6_1 x24_1 y119 a0_2 x24_1 x4_1 (x4_1.length : Int) (wrap64 (x38_2 + 1)) a0_0 a0_1 a0_2 l0_3) = some r := Y_ hy119 H
       have Ny119 := Zz.mk hy119
       clear hy119
       have H' := Zz.mk H
       clear H
       have p115 : 0 ≤ (x38_2 : Int) := D_
       have q115 : x38_2 < (x4_1.length : Int) := D_
       obtain ⟨ad115, e115, hx115_0⟩ := Kd.at_int (Kd.R_reads' HO_36.out).2.2 x38_2 p115 q115
       cases e115
       replace p115 := eq_true p115
       replace q115 := eq_true q115
       try go_wp2
       replace HO_3 := Zz.mk (Kd.N_drew HO_3.out)
       replace HO_4 := Zz.mk (Kd.R_drew HO_4.out)
       replace HO_6 := Zz.mk (Kd.S_drew HO_6.out)
       replace HO_8 := Zz.mk (Kd.R_drew HO_8.out)
       replace HO_36 := Zz.mk (Kd.R_drew HO_36.out)
       replace BK101 := Zz.mk (bD_ BK101.out)
       replace HB := Zz.mk (qAq HB.out)
       have p116 : 0 ≤ (x38_2 : Int) := D_
       have q116 : x38_2 < (t109.length : Int) := D_
       obtain ⟨ad116, A116_0, c116_0, e116, hx116_0, hl116_0, hi116_0⟩ := qAp (Kd.N_reads' HO_3.out).2.2 x38_2 p116 q116
       cases e116
       obtain ⟨ce116, hce116, hMe116, hcc116⟩ := Kd.N_get HO_3.out [] x38_2 p116 (by first | exact q116 | exact D_ | (have e_ := (Kd.N_reads' HO_3.out).1; omega))
       obtain ⟨ua116_0, uc116_0, rfl, ul116_0, ge116_0⟩ := Kd.FK_slice_open hMe116
       have hv116_0 := hcc116 0 _ rfl
       rw [Nat.add_zero, show ((Kd.slice 2 (Kd.int .i64))).sz = 1 from rfl, Nat.mul_one] at hv116_0
       replace hv116_0 := Option.some.inj (hv116_0.symm.trans hx116_0)
       injection hv116_0 with hva_ hvn_ hvc_
       rw [hva_] at ge116_0
       rw [hvc_] at ul116_0
       have HL116_0 := Zz.mk (show Kd.V (Kd.int .i64) 2 _ w.heap.size _ _ (rI_ t109 x38_2) from Kd.V_mk ul116_0 ge116_0)
       clear hva_ hvn_ hvc_ ge116_0 ul116_0
       clear hcc116 hce116
       have HR116_0 := Zz.mk hi116_0
       have HC116_0 := Zz.mk hl116_0
       clear hi116_0 hl116_0
       replace p116 := eq_true p116
       replace q116 := eq_true q116
       have p117 : 0 ≤ (x24_1 : Int) := D_
       have q117 : x24_1 < ((rI_ t109 x38_2).length : Int) := D_
       obtain ⟨ad117, e117, hx117_0⟩ := Kd.at_int (KC_ HR116_0.out) x24_1 p117 q117
       cases e117
       replace p117 := eq_true p117
       replace q117 := eq_true q117
       refine qBx (n := 15) (S := fun w' => w'.cell? ⟨gb101, 0, none⟩ = some (.int .i64 a0_0) ∧ w'.cell? ⟨gb101, 1, none⟩ = some (.int .i64 a0_1) ∧ w'.cell? ⟨gb101, 2, none⟩ = some (.int .i64 a0_2) ∧ w'.cell? ⟨gb101, 3, none⟩ = some (.slice A0_3 l0_3.length c0_3) ∧ w'.cell? (ad116.add (x38_2).toNat) = some (.slice (some ad117) (rI_ t109 x38_2).length c116_0) ∧ w'.cell? (ad117.add (x24_1).toNat) = some (.int .i64 (rd (rI_ t109 x38_2) x24_1))) (ds := [14]) (tb_ 15 0) (by kernel_rfl) rfl rfl ⟨(bC_ BK101.out 0).trans rfl, (bC_ BK101.out 1).trans rfl, (bC_ BK101.out 2).trans rfl, (bC_ BK101.out 3).trans rfl, hx116_0, hx117_0⟩ (fun hHeld => ?_); refine qA7 z41.tab13 z41.bits13 (fun HT_ HW_ => ?_)
       generalize wr.drew = w36 at HO_3 HO_4 HO_6 HO_8 HO_36 BK101 HB HL116_0 HR116_0 hx116_0 hx117_0 hHeld ⊢
       refine PX_ 0 43 (tb_ 15 1) HT_ rfl rfl ?_
       refine PX_ 1 44 (tb_ 15 3) HT_ rfl rfl ?_
       refine PX_ 2 45 (tb_ 15 7) HT_ rfl rfl ?_
       refine PX_ 3 46 (tb_ 15 15) HT_ rfl rfl ?_
       refine PX_ 4 47 (tb_ 15 31) HT_ rfl rfl ?_
       refine PX_ 6 49 (tb_ 15 95) HT_ rfl rfl ?_
       refine PX_ 10 53 (tb_ 15 1119) HT_ rfl rfl ?_
       refine TV_ (i := 5) (N := some 48) (tb_ 15 1151) HT_ HW_ rfl rfl hHeld (by rintro w' ⟨s0, s1, s2, s3, s4, s5⟩; go_simp; with_reducible rfl) (h := ?_)
       refine PX_ 7 50 (tb_ 15 1279) HT_ rfl rfl ?_
       refine TV_ (i := 8) (N := some 51) (tb_ 15 1535) HT_ HW_ rfl rfl hHeld (by rintro w' ⟨s0, s1, s2, s3, s4, s5⟩; go_simp; with_reducible rfl) (h := ?_)
       refine PX_ 9 52 (tb_ 15 2047) HT_ rfl rfl ?_
       refine TV_ (i := 11) (N := some 54) (tb_ 15 4095) HT_ HW_ rfl rfl hHeld (by rintro w' ⟨s0, s1, s2, s3, s4, s5⟩; go_simp; with_reducible rfl) (h := ?_)
       refine one_ (i := 12) (N := some 55) (tb_ 15 8191) rfl rfl (qA5 HT_.out (by kernel_rfl)) (by decide) (fun K hK => ?_)
       refine GO_ Try.func66 #[.int .i64 (wrap64 (-(rd (rI_ t109 x38_2) x24_1))), .int .i64 a0_0] (h := ?_)
       with_reducible refine (z66.calls (wrap64 (-(rd (rI_ t109 x38_2) x24_1))) a0_0 t118 _ A32.out).mono ?_
       rintro e w' ⟨rfl, ⟨nd, rfl⟩⟩
       refine ⟨_, rfl, ?_⟩
       have p35 : 0 ≤ ((rd x4_1 x38_2) : Int) := D_
       have q35 : ((rd x4_1 x38_2) : Int) < ((x8_2.length : Int) : Int) := D_
       obtain ⟨hx35_0, hf35_0⟩ := Kd.R_celln 0 HO_8.out ((rd x4_1 x38_2) : Int) p35 q35
       replace p35 := eq_true p35
       replace q35 := eq_true q35
       have HP37 := Kd.R_putn HO_8.out ((rd x4_1 x38_2) : Int) t118
       rw [← Ny119.out] at HP37
       have HQ37 := Zz.mk HP37
       clear HP37
       refine hK.out _ _ ⟨(bC_ BK101.out 0).trans rfl, (bC_ BK101.out 1).trans rfl, (bC_ BK101.out 2).trans rfl, (bC_ BK101.out 3).trans rfl, hHeld.2.2.2.2.1, hHeld.2.2.2.2.2⟩ (fun hHeld => ?_)
       clear hK K
       refine NM_ (N := (some 55)) (h := ?_)
       refine PX_ 13 56 (tb_ 15 16383) HT_ rfl rfl ?_
       refine qEs (i := 14) (N := none) (tb_ 15 32767) rfl rfl (qA5 HT_.out (by kernel_rfl)) (by decide) (fun K hK => ?_)
       refine qD2 (w1 := ?_) (by rfl) rfl ?_ ?_
       rotate_left
       ·go_simp
        rfl
       refine hK.out _ _ ?_
       clear hK K
       refine qCp (qBq HT_.out (by kernel_rfl)) ?_
       try go_wp2
       (try simp only [← hl8_2])
       go_roundg k2
       case measure => exact Q2_ HK1 HK2
       case rel => exact ⟨(y119), (wrap64 (x38_2 + 1)), E_, H', ⟨Q2_ HK1 HK2⟩, ⟨by (try simp only [hl3_1]); (try simp only [hl8_2]); refine NW_ ?_; exact Kd.N_mono (Kd.N_far (p := ⟨go19, ((rd x4_1 x38_2) : Int).toNat, none⟩) (Kd.N_mono HO_3.out (fun k_ hk => (⟨hk, fun e_ => hk.2.1 (by rw [e_]; rfl)⟩ : _ ∧ k_ ≠ go19))) (fun _ hk => hk.2) (.int .i64 t118)) (fun _ hk => ⟨hk.1.1, ⟨hk.1.2.1, hk.1.2.2⟩⟩)⟩, ⟨by (try simp only [hl3_1]); (try simp only [hl8_2]); refine RW_ ?_; exact Kd.R_mono (Kd.R_far (p := ⟨go19, ((rd x4_1 x38_2) : Int).toNat, none⟩) (Kd.R_mono HO_4.out (fun k_ hk => (⟨hk, fun e_ => hk (by rw [e_]; rfl)⟩ : _ ∧ k_ ≠ go19))) (fun _ hk => hk.2) (.int .i64 t118)) (fun _ hk => hk.1)⟩, ⟨by (try simp only [hl3_1]); (try simp only [hl8_2]); refine SW_ ?_; exact Kd.S_mono (Kd.S_far (p := ⟨go19, ((rd x4_1 x38_2) : Int).toNat, none⟩) (Kd.S_mono HO_6.out (fun k_ hk => (⟨hk, fun e_ => hk.2.2.1 (by rw [e_]; rfl)⟩ : _ ∧ k_ ≠ go19))) (fun _ hk => hk.2) (.int .i64 t118)) (fun _ hk => ⟨hk.1.1, ⟨hk.1.2.1, ⟨hk.1.2.2.1, hk.1.2.2.2⟩⟩⟩)⟩, ⟨by (try simp only [hl3_1]); (try simp only [hl8_2]); refine RW_ ?_; exact HQ37.out⟩, ⟨by (try simp only [hl3_1]); (try simp only [hl8_2]); refine RW_ ?_; exact Kd.R_mono (Kd.R_far (p := ⟨go19, ((rd x4_1 x38_2) : Int).toNat, none⟩) (Kd.R_mono HO_36.out (fun k_ hk => (⟨hk, fun e_ => hk (by rw [e_]; rfl)⟩ : _ ∧ k_ ≠ go19))) (fun _ hk => hk.2) (.int .i64 t118)) (fun _ hk => hk.1)⟩, ⟨by (try simp only [hl3_1]); (try simp only [hl8_2]); refine BW_ ?_; refine bR_ ?_ (by have h_ := Kd.R_ne HO_8.out BK101.out (by decide); intro e_; exact h_ (by rw [e_]; rfl)) _; refine BW_ ?_; exact BK101.out⟩, ⟨B2_ HB.out GB19.out GE101.out⟩⟩
      rw [if_neg c26] at H
      have c26b0 : decide (x38_2 < (x4_1.length : Int)) = false := decide_eq_false c26
      (try rw [hl3_1] at c26b0)
      (try rw [hl8_2] at c26b0)
      clear c26
      have c38 := O1_ H
      replace H := O2_ H
      have LMc38 := Zz.mk c38
      clear c38
      obtain ⟨y120, hy120⟩ : ∃ y_ : List (List Int), y_ = (x6_1 ++ [x8_2]) := ⟨_, rfl⟩
      replace H : (z41.l0 k2 t109 x4_1 y120 a0_2 (wrap64 (x24_1 + 1)) a0_0 a0_1 a0_2 l0_3) = some r := Y_ hy120 H
      have Ny120 := Zz.mk hy120
      clear hy120
      have H' := Zz.mk H
      clear H
      go_wp2_with (first | ((with_reducible refine qAv (b := .append) (xs := #[.tmp 58, .tmp 60]) rfl ?_); at_builtin; refine Kd.S_append (Kd.slice 2 (Kd.int .i64)) (w0 := w) w.heap.size rfl (.tmp 58) (.tmp 60) 22 26 (.slice none 0 0) 24 rfl Try.underlying22 qDm rfl (by decide) (by omega) u6 x6_1 x8_2 [.slice (some ⟨go19, 0, none⟩) x8_2.length co19] (fun k_ => some k_ ≠ (.slice Ao8 t109.length co8 : Value).ownBlock ∧ some k_ ≠ (.slice Ao20 x4_1.length co20 : Value).ownBlock ∧ some k_ ≠ (.slice Ao20 x4_1.length co20 : Value).ownBlock) (fun k_ => some k_ = (.slice (some ⟨go19, 0, none⟩) x8_2.length co19 : Value).ownBlock) rfl rfl ?aP (fun k_ hk_ => ((Kd.R_mono (ok' := fun k_ => ((fun k_ => some k_ ≠ (.slice Ao8 t109.length co8 : Value).ownBlock ∧ some k_ ≠ (.slice Ao20 x4_1.length co20 : Value).ownBlock ∧ some k_ ≠ (.slice Ao20 x4_1.length co20 : Value).ownBlock)) k_ ∧ some k_ ≠ (u6 : Value).ownBlock) (Kd.R_apart' (Kd.R_apart' (HO_8.out) (Kd.N_typed HO_3.out) (by decide)) (Kd.S_typed HO_6.out) (by decide)) (fun k_ hk => ⟨⟨hk.1.2, ⟨hk.1.1.1, hk.1.1.2⟩⟩, hk.2⟩))).1 k_ hk_.symm) ?aF ?aO ?aB ?aS ?aL ?_; (case aP => exact Kd.M_row (Kd.R_mono (Kd.R_tight rfl (Kd.R_mono (ok' := fun k_ => ((fun k_ => some k_ ≠ (.slice Ao8 t109.length co8 : Value).ownBlock ∧ some k_ ≠ (.slice Ao20 x4_1.length co20 : Value).ownBlock ∧ some k_ ≠ (.slice Ao20 x4_1.length co20 : Value).ownBlock)) k_ ∧ some k_ ≠ (u6 : Value).ownBlock) (Kd.R_apart' (Kd.R_apart' (HO_8.out) (Kd.N_typed HO_3.out) (by decide)) (Kd.S_typed HO_6.out) (by decide)) (fun k_ hk => ⟨⟨hk.1.2, ⟨hk.1.1.1, hk.1.1.2⟩⟩, hk.2⟩))) (fun _ h_ => h_))); (case aB => exact (B1_ HB.out GE101.out)); (case aF => exact (fun k_ hk => ⟨Kd.fresh' (Kd.N_lt (KN_ HO_3.out)) k_ hk, Kd.fresh' (Kd.R_lt (KR_ HO_4.out)) k_ hk, Kd.fresh' (Kd.R_lt (KR_ HO_36.out)) k_ hk⟩)); (case aO => exact (by refine SW_ ?_; exact Kd.S_mono HO_6.out (fun k_ hk => ⟨⟨hk.1, ⟨hk.2.1, hk.2.2.2⟩⟩, fun e_ => hk.2.2.1 e_⟩))); (case aS => exact (bS_ (B1_ HB.out GE101.out))); (case aL => have := LMc38.out; omega); intro v121 w39 ho hb hg hat; rw [← Ny120.out] at ho; replace HO_3 := Zz.mk (Kd.N_afterv (ok := (fun k_ => some k_ ≠ (.slice (some ⟨go19, 0, none⟩) x8_2.length co19 : Value).ownBlock ∧ k_ ≠ gb101)) (by refine NW_ ?_; exact Kd.N_mono HO_3.out (fun _ hk => ⟨⟨hk.2.1, hk.2.2⟩, hk.1⟩)) hg hat); replace HO_4 := Zz.mk (Kd.R_over' (KR_ HO_4.out) (Kd.S_typed (KS_ HO_6.out)) (by decide) hg); replace HO_36 := Zz.mk (Kd.R_over' (KR_ HO_36.out) (Kd.S_typed (KS_ HO_6.out)) (by decide) hg); replace BK101 := Zz.mk (qAy (g := gb101) (o := .cells #[.int .i64 a0_0, .int .i64 a0_1, .int .i64 a0_2, .slice A0_3 l0_3.length c0_3] 51 (0, 0)) (KB_ BK101.out) hg (Kd.S_ne HO_6.out BK101.out (by decide))); replace HB := Zz.mk (hb); have HO122 := Zz.mk (ho); clear HO_6; clear HO_8; clear ho hb hg hat))
      (try simp only [← hl3_1, ← hl8_2])
      go_roundg k2
      case measure => exact Q2_ HK1 HK2
      case rel => exact ⟨(x4_1), (y120), (wrap64 (x24_1 + 1)), E_, H', ⟨Q2_ HK1 HK2⟩, ⟨by (try simp only [hl3_1]); (try simp only [hl8_2]); refine NW_ ?_; exact Kd.N_mono HO_3.out (fun _ hk => ⟨hk.2, hk.1.2⟩)⟩, ⟨by (try simp only [hl3_1]); (try simp only [hl8_2]); refine RW_ ?_; exact Kd.R_mono HO_4.out (fun _ hk => trivial)⟩, ⟨by (try simp only [hl3_1]); (try simp only [hl8_2]); refine SW_ ?_; exact Kd.S_mono HO122.out (fun _ hk => ⟨hk.1, hk.2.1⟩)⟩, ⟨by (try simp only [hl3_1]); (try simp only [hl8_2]); refine BW_ ?_; exact BK101.out⟩, ⟨B1_ HB.out GE101.out⟩⟩
   rw [if_neg c11] at H
   have c11b0 : decide (x24_1 < a0_2) = false := decide_eq_false c11
   (try rw [hl3_1] at c11b0)
   clear c11
   obtain rfl := OI_ H
   go_wp2
   go_ret
   exact ⟨_, F_, by refine SW_ ?_; exact Kd.S_mono HO_6.out (fun _ hk => trivial), B1_ HB.out GE101.out⟩
end Go.Proofs.Ytpgjfppbbbnclaa.B
