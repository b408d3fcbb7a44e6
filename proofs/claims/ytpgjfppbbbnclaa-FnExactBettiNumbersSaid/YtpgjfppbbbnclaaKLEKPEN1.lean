/- Printed proofs of functions of the program and of the reference, by a program of this work over the kit's printer. -/
import Derived.Test.YtpgjfppbbbnclaaKLEKPEN0
import Derived.Test.YtpgjfppbbbnclaaKW0
set_option maxHeartbeats 8000000
set_option maxRecDepth 100000
namespace Go.Proofs.Ytpgjfppbbbnclaa.B
open Go.RowKit Go.Proofs.YtpgjfppbbbnclaaW.PrintWords Go.Proofs.YtpgjfppbbbnclaaW.PrintLast Go.Proofs.YtpgjfppbbbnclaaW.PrintMore
attribute [local go_sem] qAh qAf qAl qAk qAc qAb qAg qAe
set_option linter.unusedVariables false
set_option linter.unusedSimpArgs false
def z34.l0 : Nat → List Int → List Int → Int → Option (List Int)
 | 0, _, _, _ => none
 | k + 1, x0, x3, x4 => if x4 < (x0.length : Int) then (if 0 ≤ x4 then (if x4 < (x3.length : Int) then (z34.l0 k x0 (x3.set (x4 : Int).toNat (rd x0 x4)) (wrap64 (x4 + 1))) else (none)) else (none)) else (some x3)
def z34.f (k : Nat) (l0 : List Int) : Option (List Int) := if 0 ≤ (l0.length : Int) then (if ((l0.length : Int) : Int).toNat ≤ 35184372088832 then (z34.l0 k l0 (List.replicate ((l0.length : Int) : Int).toNat 0) 0) else (none)) else (none)
theorem z34.calls (k : Nat) (A0 : Option Addr) (c0 : Nat) (l0 : List Int) (r : List Int) (w : World) (hr0 : Kd.C (Kd.int .i64) w A0 l0.length l0) (hc0 : l0.length ≤ c0) (h : z34.f k l0 = some r) :
  Calls Try.prog 34 #[.slice A0 l0.length c0] w fun e w' => ∃ v0_ : Value, e = .returned (v0_) ∧ Kd.R (Kd.int .i64) 2 w' w.heap.size (fun _ => True) v0_ r ∧ Below w.heap.size w w' := by
 have HR0 := Zz.mk hr0
 have HC0 := Zz.mk hc0
 clear hr0 hc0
 have HB := Zz.mk (Below.refl w.heap.size w)
 have H : (if 0 ≤ (l0.length : Int) then (if ((l0.length : Int) : Int).toNat ≤ 35184372088832 then (z34.l0 k l0 (List.replicate ((l0.length : Int) : Int).toNat 0) 0) else (none)) else (none)) = some r := h
 clear h
 have c2 := O1_ H
 replace H := O2_ H
 have c2b0 := eq_true c2
 have c2b1 : decide (0 ≤ (l0.length : Int)) = true := decide_eq_true c2
 clear c2
 have c3 := O1_ H
 replace H := O2_ H
 have c3b0 := eq_true c3
 have c3b1 : decide (((l0.length : Int) : Int).toNat ≤ 35184372088832) = true := decide_eq_true c3
 clear c3
 obtain ⟨y101, hy101⟩ : ∃ y_ : List Int, y_ = (List.replicate ((l0.length : Int) : Int).toNat 0) := ⟨_, rfl⟩
 replace H : (z34.l0 k l0 y101 0) = some r := Y_ hy101 H
 have Ny101 := Zz.mk hy101
 clear hy101
 have H' := Zz.mk H
 clear H
 go_enter Try.func34, Try.ntmps34
 go_wp2_with (first | ((with_reducible refine qAm (N := 7) rfl ?_); refine Kd.R_make (Kd.int .i64) _ 2 rfl (N := 7) rfl 26 _ _ rfl (l0.length : Int) rfl rfl Try.underlying26 (.int .i64 0) 8 qB9 rfl (by decide) (by omega) 0 (ok := fun _ => True) (okp := fun _ => True) rfl (fun _ hk => hk) trivial (D_) (Nat.le_trans (Nat.mul_le_mul_right _ (D_ : (l0.length : Int).toNat ≤ 35184372088832)) (by omega)) (Below.refl _ _) (Nat.le_refl _) ?_; intro v102 w4 ho5 hb hg_ hnew_; clear hg_ hnew_; (first | rw [← Ny101.out] at ho5 | (simp only [Int.reduceToNat] at ho5; rw [← Ny101.out] at ho5)); have HO103 := Zz.mk (Kd.R_lower ho5 (bS_ (B_ HB.out))); replace HB := Zz.mk (bT_ (B_ HB.out) hb); clear hb ho5))
 go_loopg [4] k (fun kq v4 w' => ∃ (x3_1 : List Int) (x4_1 : Int), v4 = .int .i64 x4_1 ∧ Zz (z34.l0 kq l0 x3_1 x4_1 = some r) ∧ Zz (kq ≤ k) ∧ Zz (Kd.R (Kd.int .i64) 2 w' w.heap.size (fun _ => True) v102 x3_1) ∧ Zz (Below w.heap.size w w'))
 case atStart => exact ⟨(y101), (0), E_, H', ⟨Nat.le_refl _⟩, ⟨KR_ HO103.out⟩, ⟨B_ HB.out⟩⟩
 case round =>
  clear H'
  (try clear c2);(try clear c2b0);(try clear c2b1);(try clear c3);(try clear c3b0);(try clear c3b1)
  obtain ⟨x3_1, x4_1, rfl, HA, HK1, HO_3, HB⟩ := hrel
  cases gk with
  | zero => exact absurd HA.out (by simp [z34.l0])
  | succ k1 =>
   have H := HA.out
   clear HA
   simp only [z34.l0] at H
   by_cases c6 : x4_1 < (l0.length : Int)
   ·rw [if_pos c6] at H
    have c6b0 : decide (x4_1 < (l0.length : Int)) = true := decide_eq_true c6
    clear c6
    have c7b0 := O3_ H
    replace H := O2_ H
    have c8b0 := O3_ H
    replace H := O2_ H
    obtain ⟨y105, hy105⟩ : ∃ y_ : List Int, y_ = (x3_1.set (x4_1 : Int).toNat (rd l0 x4_1)) := ⟨_, rfl⟩
    replace H : (z34.l0 k1 l0 y105 (wrap64 (x4_1 + 1))) = some r := Y_ hy105 H
    have Ny105 := Zz.mk hy105
    clear hy105
    have H' := Zz.mk H
    clear H
    have p104 : 0 ≤ (x4_1 : Int) := D_
    have q104 : x4_1 < (l0.length : Int) := D_
    obtain ⟨ad104, e104, hx104_0⟩ := Kd.at_int HR0.out x4_1 p104 q104
    cases e104
    replace hx104_0 := (HB.out.cell (World.block_lt_of_cell? w _ hx104_0)).trans hx104_0
    replace p104 := eq_true p104
    replace q104 := eq_true q104
    have p9 : 0 ≤ (x4_1 : Int) := D_
    have q9 : (x4_1 : Int) < ((x3_1.length : Int) : Int) := D_
    obtain ⟨go9, co9, eo9, gb9, gl9, cl9, HG9⟩ := Kd.R_form HO_3.out (by omega)
    (first | cases eo9 | (injection eo9 with ea_ en_ ec_; (first | subst ea_ | (injection ea_ with ea_; subst ea_)); subst ec_; clear en_))
    have GB9 := Zz.mk gb9
    have GG9 := Zz.mk HG9
    clear gb9 gl9 HG9
    obtain ⟨hx9_0, hf9_0⟩ := Kd.R_celln 0 HO_3.out (x4_1 : Int) p9 q9
    replace p9 := eq_true p9
    replace q9 := eq_true q9
    have HP10 := Kd.R_putg HO_3.out (x4_1 : Int) (rd l0 x4_1)
    go_wp2_with (first | ((with_reducible refine qCa (t := 2) (p := 20) rfl ?_); refine qB0 (t := 2) (p := 20) (v := ?vo_w11) (w1 := (wr.setCell ⟨go9, (x4_1 : Int).toNat, none⟩ (.int .i64 (rd l0 x4_1)))) ?hg ?ho ?hn ?hr ?_; (case ho => rfl); (case hg => rfl); (case hn => rfl); (case hr => first | (go_simp; done) | (go_simp; rfl)); intro w11 hw; have hg : wr.grownBy w11 (some go9) := (by rw [hw]; exact HP10.2); have hp_ : Kd.R (Kd.int .i64) 2 w11 w.heap.size (fun _ => True) (.slice (some ⟨go9, 0, none⟩) x3_1.length co9) y105 := (by rw [hw, Ny105.out]; exact HP10.1); clear HP10; replace HO_3 := Zz.mk (hp_); replace HB := Zz.mk ((by rw [hw]; exact qAz (HB.out) GB9.out : Below w.heap.size w w11)); clear hg hw hp_))
    go_roundg k1
    case measure => exact Q1_ HK1
    case rel => exact ⟨(y105), (wrap64 (x4_1 + 1)), E_, H', ⟨Q1_ HK1⟩, ⟨KR_ HO_3.out⟩, ⟨B_ HB.out⟩⟩
   rw [if_neg c6] at H
   have c6b0 : decide (x4_1 < (l0.length : Int)) = false := decide_eq_false c6
   clear c6
   obtain rfl := OI_ H
   go_wp2
   go_ret
   exact ⟨_, F_, KR_ HO_3.out, B_ HB.out⟩
def z18.l0 : Nat → List (List Int) → List (List Int) → Int → Option ((List (List Int)))
 | 0, _, _, _ => none
 | k + 1, x0, x3, x4 => if x4 < (x0.length : Int) then (if 0 ≤ x4 then ((z34.f k (rI_ x0 x4)).bind fun t105 => (if x4 < (x3.length : Int) then (z18.l0 k x0 (x3.set (x4 : Int).toNat t105) (wrap64 (x4 + 1))) else (none))) else (none)) else (some x3)
def z18.f (k : Nat) (l0 : List (List Int)) : Option ((List (List Int))) := if 0 ≤ (l0.length : Int) then (if ((l0.length : Int) : Int).toNat ≤ 11728124029610 then (z18.l0 k l0 (List.replicate ((l0.length : Int) : Int).toNat []) 0) else (none)) else (none)
theorem z18.calls (k : Nat) (A0 : Option Addr) (c0 : Nat) (l0 : List (List Int)) (r : List (List Int)) (w : World) (hr0 : Kd.C (Kd.slice 2 (Kd.int .i64)) w A0 l0.length l0) (hc0 : l0.length ≤ c0) (h : z18.f k l0 = some r) :
  Calls Try.prog 18 #[.slice A0 l0.length c0] w fun e w' => ∃ v0_ : Value, e = .returned (v0_) ∧ Kd.S (Kd.slice 2 (Kd.int .i64)) 26 w' w.heap.size (fun _ => True) v0_ r ∧ Below w.heap.size w w' := by
 have HR0 := Zz.mk hr0
 have HC0 := Zz.mk hc0
 clear hr0 hc0
 have HB := Zz.mk (Below.refl w.heap.size w)
 have H : (if 0 ≤ (l0.length : Int) then (if ((l0.length : Int) : Int).toNat ≤ 11728124029610 then (z18.l0 k l0 (List.replicate ((l0.length : Int) : Int).toNat []) 0) else (none)) else (none)) = some r := h
 clear h
 have c2 := O1_ H
 replace H := O2_ H
 have c2b0 := eq_true c2
 have c2b1 : decide (0 ≤ (l0.length : Int)) = true := decide_eq_true c2
 clear c2
 have c3 := O1_ H
 replace H := O2_ H
 have c3b0 := eq_true c3
 have c3b1 : decide (((l0.length : Int) : Int).toNat ≤ 11728124029610) = true := decide_eq_true c3
 clear c3
 obtain ⟨y101, hy101⟩ : ∃ y_ : List (List Int), y_ = (List.replicate ((l0.length : Int) : Int).toNat []) := ⟨_, rfl⟩
 replace H : (z18.l0 k l0 y101 0) = some r := Y_ hy101 H
 have Ny101 := Zz.mk hy101
 clear hy101
 have H' := Zz.mk H
 clear H
 go_enter Try.func18, Try.ntmps18
 go_wp2_with (first | ((with_reducible refine qAm (N := 7) rfl ?_); refine Kd.S_make (Kd.slice 2 (Kd.int .i64)) _ 26 rfl (N := 7) rfl 22 _ _ rfl (l0.length : Int) rfl rfl Try.underlying22 (.slice none 0 0) 24 qDm rfl (by decide) (by omega) [] (ok := fun _ => True) (okp := fun _ => True) ⟨_, rfl, Kd.R_nil _ _ _ _ _⟩ (fun _ hk => hk) trivial (D_) (Nat.le_trans (Nat.mul_le_mul_right _ (D_ : (l0.length : Int).toNat ≤ 11728124029610)) (by omega)) (Below.refl _ _) (Nat.le_refl _) ?_; intro v102 w4 ho5 hb hg_ hnew_; clear hg_ hnew_; (first | rw [← Ny101.out] at ho5 | (simp only [Int.reduceToNat] at ho5; rw [← Ny101.out] at ho5)); have HO103 := Zz.mk (Kd.S_lower ho5 (bS_ (B_ HB.out))); replace HB := Zz.mk (bT_ (B_ HB.out) hb); clear hb ho5))
 go_loopg [4] k (fun kq v4 w' => ∃ (x3_1 : List (List Int)) (x4_1 : Int), v4 = .int .i64 x4_1 ∧ Zz (z18.l0 kq l0 x3_1 x4_1 = some r) ∧ Zz (kq ≤ k) ∧ Zz (Kd.S (Kd.slice 2 (Kd.int .i64)) 26 w' w.heap.size (fun _ => True) v102 x3_1) ∧ Zz (Below w.heap.size w w'))
 case atStart => exact ⟨(y101), (0), E_, H', ⟨Nat.le_refl _⟩, ⟨KS_ HO103.out⟩, ⟨B_ HB.out⟩⟩
 case round =>
  clear H'
  (try clear c2);(try clear c2b0);(try clear c2b1);(try clear c3);(try clear c3b0);(try clear c3b1)
  obtain ⟨x3_1, x4_1, rfl, HA, HK1, HO_3, HB⟩ := hrel
  cases gk with
  | zero => exact absurd HA.out (by simp [z18.l0])
  | succ k1 =>
   have H := HA.out
   clear HA
   simp only [z18.l0] at H
   by_cases c6 : x4_1 < (l0.length : Int)
   ·rw [if_pos c6] at H
    have c6b0 : decide (x4_1 < (l0.length : Int)) = true := decide_eq_true c6
    clear c6
    have c7b0 := O3_ H
    replace H := O2_ H
    replace H := OZ_ H
    obtain ⟨t105, A8, H⟩ := H
    have c9b0 := O3_ H
    replace H := O2_ H
    obtain ⟨y108, hy108⟩ : ∃ y_ : List (List Int), y_ = (x3_1.set (x4_1 : Int).toNat t105) := ⟨_, rfl⟩
    replace H : (z18.l0 k1 l0 y108 (wrap64 (x4_1 + 1))) = some r := Y_ hy108 H
    have Ny108 := Zz.mk hy108
    clear hy108
    have H' := Zz.mk H
    clear H
    have p104 : 0 ≤ (x4_1 : Int) := D_
    have q104 : x4_1 < (l0.length : Int) := D_
    obtain ⟨ad104, A104_0, c104_0, e104, hx104_0, hl104_0, hi104_0⟩ := qAp HR0.out x4_1 p104 q104
    cases e104
    replace hx104_0 := (HB.out.cell (World.block_lt_of_cell? w _ hx104_0)).trans hx104_0
    have HR104_0 := Zz.mk hi104_0
    have HC104_0 := Zz.mk hl104_0
    clear hi104_0 hl104_0
    replace p104 := eq_true p104
    replace q104 := eq_true q104
    go_wp2_with (first | ((with_reducible refine gC_ (f := 34) rfl ?_); refine GL_ (some 20) rfl rfl Try.func34 #[.slice A104_0 (rI_ l0 x4_1).length c104_0] rfl (h := ?_); (with_reducible refine (z34.calls k1 _ _ (rI_ l0 x4_1) t105 _ ?side1 ?side2 A8.out).mono ?_); (case side1 => exact KC_ (Kd.C_below HR104_0.out HB.out)); (case side2 => exact HC104_0.out); rintro e w11 ⟨v106, rfl, ho0, hb⟩; refine ⟨_, rfl, ?_⟩; replace HO_3 := Zz.mk (Kd.S_elder' (KS_ HO_3.out) (Kd.R_base ho0) hb); have HO107 := Zz.mk (Kd.R_lower ho0 (bS_ (B_ HB.out))); replace HB := Zz.mk (bT_ (B_ HB.out) hb); (try clear hb); (try clear ho0); have p10 : 0 ≤ (x4_1 : Int) := D_; have q10 : (x4_1 : Int) < ((x3_1.length : Int) : Int) := D_; obtain ⟨go10, co10, eo10, gb10, gl10, cl10, HG10⟩ := Kd.S_form HO_3.out (by omega); (first | cases eo10 | (injection eo10 with ea_ en_ ec_; (first | subst ea_ | (injection ea_ with ea_; subst ea_)); subst ec_; clear en_)); have GB10 := Zz.mk gb10; have GG10 := Zz.mk HG10; clear gb10 gl10 HG10; obtain ⟨_, ce10, hcl10, hM10, hcc10, hfr10, _, _⟩ := Kd.S_elem HO_3.out [] (x4_1 : Int) p10 q10; obtain ⟨ve10_0, rfl, ge10_0⟩ := hM10; have hx10_0 := hcc10 0 _ rfl; have hf10_0 := hfr10 0; (try simp only [show ((Kd.slice 2 (Kd.int .i64))).sz = 1 from rfl, Nat.mul_one, Nat.add_zero] at hx10_0); (try simp only [show ((Kd.slice 2 (Kd.int .i64))).sz = 1 from rfl, Nat.mul_one, Nat.add_zero] at hf10_0); clear hcl10 hcc10 hfr10; (try clear hM10); replace p10 := eq_true p10; replace q10 := eq_true q10; obtain ⟨Ao14, co14, eo14⟩ := Kd.R_slice HO107.out; subst eo14; have n_ := Zz.mk (Kd.S_mono (ok' := (fun k_ => some k_ ≠ (.slice Ao14 t105.length co14 : Value).ownBlock)) HO_3.out (fun k_ hk => hk.2)); clear HO_3; have HO_3 := n_; clear n_; have HX12 := Zz.mk (show Kd.S (Kd.slice 2 (Kd.int .i64)) 26 w11 w.heap.size (fun k_ => ((fun _ => True)) k_ ∧ ¬ ((fun k_ => some k_ = (.slice Ao14 t105.length co14 : Value).ownBlock)) k_) (.slice (some ⟨go10, 0, none⟩) x3_1.length co10) x3_1 from (by refine SW_ ?_; exact Kd.S_mono HO_3.out (fun k_ hk => ⟨trivial, fun e_ => hk e_⟩))); obtain ⟨oki12, ce12, hcl12, hM12, hcc12, hfr12, hoki12, hH12⟩ := Kd.S_elem HX12.out [] (x4_1 : Int) (D_) (by have h_ : (x4_1 : Int) < ((x3_1.length : Int) : Int) := D_; first | exact h_ | (have e_ := (Kd.S_reads' HO_3.out).1; omega) | simpa using h_); obtain ⟨ve12_0, rfl, ge12_0⟩ := hM12; have HP12 := Kd.S_seg hH12 (D_) (by have h_ : (x4_1 : Int) < ((x3_1.length : Int) : Int) := D_; first | exact h_ | (have e_ := (Kd.S_reads' HO_3.out).1; omega) | simpa using h_) (seg := [.slice Ao14 t105.length co14]) (j := 0) (show 1 ≤ 1 from by decide) (x' := t105) (Kd.M_row (Kd.R_mono (Kd.R_tight rfl (Kd.R_mono (ok' := fun k_ => ((fun _ => True)) k_ ∧ k_ ≠ go10) (Kd.R_apart' (HO107.out) (Kd.S_typed HO_3.out) (by decide)) (fun k_ hk => ⟨trivial, fun e_ => (hk.2) (by rw [e_]; rfl)⟩))) (fun _ h_ => Or.inr (h_)))) (fun _ hk => hk) (fun k_ hk_ => ((Kd.R_mono (ok' := fun k_ => ((fun _ => True)) k_ ∧ k_ ≠ go10) (Kd.R_apart' (HO107.out) (Kd.S_typed HO_3.out) (by decide)) (fun k_ hk => ⟨trivial, fun e_ => (hk.2) (by rw [e_]; rfl)⟩))).1 k_ hk_.symm); have hx12_0 := hcc12 0 _ rfl; (try simp only [show ((Kd.slice 2 (Kd.int .i64))).sz = 1 from rfl, Nat.mul_one, Nat.add_zero] at hx12_0); have hf12_0 := hfr12 0; (try simp only [show ((Kd.slice 2 (Kd.int .i64))).sz = 1 from rfl, Nat.mul_one, Nat.add_zero] at hf12_0); clear hcl12 hcc12 hfr12 hoki12 hH12; (try clear hM12); (try simp only [show ((Kd.slice 2 (Kd.int .i64))).sz = 1 from rfl, Nat.mul_one, Nat.add_zero] at HP12)) | ((with_reducible refine qCa (t := 26) (p := 21) rfl ?_); refine qB0 (t := 26) (p := 21) (v := ?vo_w13) (w1 := (w11.setCell ⟨go10, (x4_1 : Int).toNat, none⟩ (.slice Ao14 t105.length co14))) ?hg ?ho ?hn ?hr ?_; (case ho => rfl); (case hg => rfl); (case hn => rfl); (case hr => first | (go_simp; done) | (go_simp; rfl)); intro w13 hw; have hg : w11.grownBy w13 (some go10) := (by rw [hw]; exact HP12.2); have hp_ : Kd.S (Kd.slice 2 (Kd.int .i64)) 26 w13 w.heap.size (fun _ => True) (.slice (some ⟨go10, 0, none⟩) x3_1.length co10) y108 := (by rw [hw, Ny108.out]; exact HP12.1); clear HP12; replace HO_3 := Zz.mk (hp_); replace HB := Zz.mk ((by rw [hw]; exact qAz (HB.out) GB10.out : Below w.heap.size w w13)); clear HO107; clear hg hw hp_))
    go_roundg k1
    case measure => exact Q1_ HK1
    case rel => exact ⟨(y108), (wrap64 (x4_1 + 1)), E_, H', ⟨Q1_ HK1⟩, ⟨KS_ HO_3.out⟩, ⟨B_ HB.out⟩⟩
   rw [if_neg c6] at H
   have c6b0 : decide (x4_1 < (l0.length : Int)) = false := decide_eq_false c6
   clear c6
   obtain rfl := OI_ H
   go_wp2
   go_ret
   exact ⟨_, F_, KS_ HO_3.out, B_ HB.out⟩
def z6.f (k : Nat) (l0_0 : List (List Int)) : Option ((List (List Int))) := (z18.f k l0_0).bind fun t104 => (some t104)
theorem z6.calls (k : Nat) (A0_0 : Option Addr) (c0_0 : Nat) (l0_0 : List (List Int)) (r : List (List Int)) (w : World) (hr0_0 : Kd.C (Kd.slice 2 (Kd.int .i64)) w A0_0 l0_0.length l0_0) (hc0_0 : l0_0.length ≤ c0_0) (h : z6.f k l0_0 = some r) :
  Calls Try.prog 6 #[.agg #[.slice A0_0 l0_0.length c0_0]] w fun e w' => ∃ v0_ : Value, e = .returned (.agg #[v0_]) ∧ Kd.S (Kd.slice 2 (Kd.int .i64)) 26 w' w.heap.size (fun _ => True) v0_ r ∧ Below w.heap.size w w' := by
 have hu24 := Try.underlying24
 have hu29 := Try.underlying29
 have HR0_0 := Zz.mk hr0_0
 have HC0_0 := Zz.mk hc0_0
 clear hr0_0 hc0_0
 have HB := Zz.mk (Below.refl w.heap.size w)
 have H : ((z18.f k l0_0).bind fun t104 => (some t104)) = some r := h
 clear h
 replace H := OZ_ H
 obtain ⟨t104, A2, H⟩ := H
 obtain rfl := OI_ H
 go_enter Try.func6, Try.ntmps6
 go_wp2_with (first | ((with_reducible refine qAm (N := 1) rfl ?_); refine bx_ 1 #[.slice A0_0 l0_0.length c0_0] 24 ?_; intro gb101 hg w3 hbox hb; have BK101 := Zz.mk (hbox); have GW101 := Zz.mk ((gw_ hg (B_ HB.out))); have GE101 := GW101; replace HB := Zz.mk (bT_ (B_ HB.out) hb); clear hb hbox hg) | ((with_reducible refine qAm (N := 2) rfl ?_); refine bx_ 2 #[.slice none 0 0] 29 ?_; intro gb102 hg w4 hbox hb; have BK102 := Zz.mk (hbox); have GW102 := Zz.mk ((gw_ hg (B1_ HB.out GE101.out))); have GE102 := GW102; have NB101_102 := Zz.mk ((nb_ BK101.out hg)); have NB102_101 := Zz.mk NB101_102.out.symm; replace BK101 := Zz.mk (kb_ BK101.out hb); replace HB := Zz.mk (bT_ (B1_ HB.out GE101.out) hb); clear hb hbox hg) | ((with_reducible refine qAm (N := 3) rfl ?_); refine bx_ 3 #[.slice none 0 0] 29 ?_; intro gb103 hg w5 hbox hb; have BK103 := Zz.mk (hbox); have GW103 := Zz.mk ((gw_ hg (B2_ HB.out GE101.out GE102.out))); have GE103 := GW103; have NB101_103 := Zz.mk ((nb_ BK101.out hg)); have NB103_101 := Zz.mk NB101_103.out.symm; have NB102_103 := Zz.mk ((nb_ BK102.out hg)); have NB103_102 := Zz.mk NB102_103.out.symm; replace BK101 := Zz.mk (kb_ BK101.out hb); replace BK102 := Zz.mk (kb_ BK102.out hb); replace HB := Zz.mk (bT_ (B2_ HB.out GE101.out GE102.out) hb); clear hb hbox hg; have hnb6 := NB101_102.out; have hnc6 := NB102_101.out; have hnb7 := NB101_103.out; have hnc7 := NB103_101.out; obtain ⟨hcz8_0, hfz8_0⟩ := Z1f_ BK101.out) | ((with_reducible refine gC_ (f := 18) rfl ?_); refine GL_ (some 6) rfl rfl Try.func18 #[.slice A0_0 l0_0.length c0_0] rfl (h := ?_); (with_reducible refine (z18.calls k _ _ l0_0 t104 _ ?side1 ?side2 A2.out).mono ?_); (case side1 => exact KC_ (Kd.C_below HR0_0.out HB.out)); (case side2 => exact HC0_0.out); rintro e w9 ⟨v105, rfl, ho0, hb⟩; refine ⟨_, rfl, ?_⟩; have HO106 := Zz.mk (Kd.S_lower ho0 (bS_ (B3_ HB.out GE101.out GE102.out GE103.out))); replace BK101 := Zz.mk (kb_ BK101.out hb); replace BK102 := Zz.mk (kb_ BK102.out hb); replace BK103 := Zz.mk (kb_ BK103.out hb); replace HB := Zz.mk (bT_ (B3_ HB.out GE101.out GE102.out GE103.out) hb); (try clear hb); (try clear ho0); obtain ⟨Ao10, co10, eo10⟩ := Kd.S_slice HO106.out; subst eo10; have hnb11 := NB103_102.out; have hnc11 := NB102_103.out; obtain ⟨hcz12_0, hfz12_0⟩ := Z1f_ BK103.out; obtain ⟨hcz13_0, hfz13_0⟩ := Z1f_ BK102.out))
 refine bodyPost_ret (results_cell_row rfl _ _ gb102 29 #[.slice Ao10 t104.length co10] (0, 0) _ rfl (by refine BW_ ?_; refine bP_ (cs := #[.slice none 0 0]) ?_ 0 _ rfl; refine BW_ ?_; refine bR_ ?_ NB102_103.out _; refine BW_ ?_; exact BK102.out) Try.underlying29 rfl (by kernel_rfl)) rfl ?_
 exact ⟨_, F_, by refine SW_ ?_; exact Kd.S_mono (Kd.S_far (p := ⟨gb102, 0, none⟩) (Kd.S_far (p := ⟨gb103, 0, none⟩) (Kd.S_types (Kd.S_types HO106.out BK103.out (by decide)) BK102.out (by decide)) (fun _ hk => hk.1.2) (.slice Ao10 t104.length co10)) (fun _ hk => hk.2) (.slice Ao10 t104.length co10)) (fun _ hk => trivial), B3_ HB.out GE101.out GE102.out GE103.out⟩
def z26.l0 : Nat → List Int → List Int → Int → Option (Bool)
 | 0, _, _, _ => none
 | k + 1, x0, x1, x5 => if x5 < (x0.length : Int) then (if 0 ≤ x5 then (if x5 < (x1.length : Int) then (if (rd x0 x5) = (rd x1 x5) then (z26.l0 k x0 x1 (wrap64 (x5 + 1))) else (some (decide ((rd x0 x5) < (rd x1 x5))))) else (none)) else (none)) else (some false)
def z26.f (k : Nat) (l0 : List Int) (l1 : List Int) : Option (Bool) := if (l0.length : Int) = (l1.length : Int) then (z26.l0 k l0 l1 0) else (some (decide ((l0.length : Int) < (l1.length : Int))))
theorem z26.calls (k : Nat) (A0 : Option Addr) (c0 : Nat) (l0 : List Int) (A1 : Option Addr) (c1 : Nat) (l1 : List Int) (r : Bool) (w : World) (hr0 : Kd.C (Kd.int .i64) w A0 l0.length l0) (hc0 : l0.length ≤ c0) (hr1 : Kd.C (Kd.int .i64) w A1 l1.length l1) (hc1 : l1.length ≤ c1) (h : z26.f k l0 l1 = some r) :
  Calls Try.prog 26 #[.slice A0 l0.length c0, .slice A1 l1.length c1] w fun e w' => e = .returned (.bool r) ∧ Dz w w' := by
 have HR0 := Zz.mk hr0
 have HC0 := Zz.mk hc0
 clear hr0 hc0
 have HR1 := Zz.mk hr1
 have HC1 := Zz.mk hc1
 clear hr1 hc1
 have H : (if (l0.length : Int) = (l1.length : Int) then (z26.l0 k l0 l1 0) else (some (decide ((l0.length : Int) < (l1.length : Int))))) = some r := h
 clear h
 by_cases c3 : (l0.length : Int) = (l1.length : Int)
 ·rw [if_pos c3] at H
  have c3b0 : ((l0.length : Int) == (l1.length : Int)) = true := beq_iff_eq.mpr c3
  have c3b1 : ((l0.length : Int) != (l1.length : Int)) = false := bne_eq_false_iff_eq.mpr c3
  have c3b2 : (l0.length == l1.length) = true := by first | simpa using c3 | (simp at c3 ⊢; omega)
  clear c3
  have H' := Zz.mk H
  clear H
  go_enter Try.func26, Try.ntmps26
  go_wp2
  repeat (go_quiet (fail); try go_wp2)
  go_loopg [5] k (fun kq v5 w' => ∃ (x5_1 : Int), v5 = .int .i64 x5_1 ∧ Zz (z26.l0 kq l0 l1 x5_1 = some r) ∧ Zz (kq ≤ k) ∧ Dz w w')
  case atStart => exact ⟨(0), E_, H', ⟨Nat.le_refl _⟩, by repeat (first | exact Dz.refl _ | apply Dz.step)⟩
  case round =>
   clear H'
   (try clear c1);(try clear c3);(try clear c3b0);(try clear c3b1);(try clear c3b2)
   obtain ⟨x5_1, rfl, HA, HK1, ⟨m1, rfl⟩⟩ := hrel
   cases gk with
   | zero => exact absurd HA.out (by simp [z26.l0])
   | succ k1 =>
    have H := HA.out
    clear HA
    simp only [z26.l0] at H
    by_cases c4 : x5_1 < (l0.length : Int)
    ·rw [if_pos c4] at H
     have c4b0 : decide (x5_1 < (l0.length : Int)) = true := decide_eq_true c4
     clear c4
     have c5b0 := O3_ H
     replace H := O2_ H
     have c6b0 := O3_ H
     replace H := O2_ H
     by_cases c7 : (rd l0 x5_1) = (rd l1 x5_1)
     ·rw [if_pos c7] at H
      have c7b0 : ((rd l0 x5_1) == (rd l1 x5_1)) = true := beq_iff_eq.mpr c7
      have c7b1 : ((rd l0 x5_1) != (rd l1 x5_1)) = false := bne_eq_false_iff_eq.mpr c7
      clear c7
      have H' := Zz.mk H
      clear H
      have p101 : 0 ≤ (x5_1 : Int) := D_
      have q101 : x5_1 < (l0.length : Int) := D_
      obtain ⟨ad101, e101, hx101_0⟩ := Kd.at_int HR0.out x5_1 p101 q101
      cases e101
      replace p101 := eq_true p101
      replace q101 := eq_true q101
      have p102 : 0 ≤ (x5_1 : Int) := D_
      have q102 : x5_1 < (l1.length : Int) := D_
      obtain ⟨ad102, e102, hx102_0⟩ := Kd.at_int HR1.out x5_1 p102 q102
      cases e102
      replace p102 := eq_true p102
      replace q102 := eq_true q102
      go_wp2
      repeat (go_quiet (fail); try go_wp2)
      go_roundg k1
      case measure => exact Q1_ HK1
      case rel => exact ⟨(wrap64 (x5_1 + 1)), E_, H', ⟨Q1_ HK1⟩, by repeat (first | exact Dz.refl _ | apply Dz.step)⟩
     rw [if_neg c7] at H
     have c7b0 : ((rd l0 x5_1) == (rd l1 x5_1)) = false := beq_eq_false_iff_ne.mpr c7
     have c7b1 : ((rd l0 x5_1) != (rd l1 x5_1)) = true := bne_iff_ne.mpr c7
     obtain rfl := OI_ H
     have p101 : 0 ≤ (x5_1 : Int) := D_
     have q101 : x5_1 < (l0.length : Int) := D_
     obtain ⟨ad101, e101, hx101_0⟩ := Kd.at_int HR0.out x5_1 p101 q101
     cases e101
     replace p101 := eq_true p101
     replace q101 := eq_true q101
     have p102 : 0 ≤ (x5_1 : Int) := D_
     have q102 : x5_1 < (l1.length : Int) := D_
     obtain ⟨ad102, e102, hx102_0⟩ := Kd.at_int HR1.out x5_1 p102 q102
     cases e102
     replace p102 := eq_true p102
     replace q102 := eq_true q102
     have p103 : 0 ≤ (x5_1 : Int) := D_
     have q103 : x5_1 < (l0.length : Int) := D_
     obtain ⟨ad103, e103, hx103_0⟩ := Kd.at_int HR0.out x5_1 p103 q103
     obtain rfl : ad101 = ad103 := (by injection e103)
     replace p103 := eq_true p103
     replace q103 := eq_true q103
     have p104 : 0 ≤ (x5_1 : Int) := D_
     have q104 : x5_1 < (l1.length : Int) := D_
     obtain ⟨ad104, e104, hx104_0⟩ := Kd.at_int HR1.out x5_1 p104 q104
     obtain rfl : ad102 = ad104 := (by injection e104)
     replace p104 := eq_true p104
     replace q104 := eq_true q104
     go_wp2
     repeat (go_quiet (fail); try go_wp2)
     go_ret
     exact eD_
    rw [if_neg c4] at H
    have c4b0 : decide (x5_1 < (l0.length : Int)) = false := decide_eq_false c4
    clear c4
    obtain rfl := OI_ H
    go_wp2
    repeat (go_quiet (fail); try go_wp2)
    go_ret
    exact eD_
 rw [if_neg c3] at H
 have c3b0 : ((l0.length : Int) == (l1.length : Int)) = false := beq_eq_false_iff_ne.mpr c3
 have c3b1 : ((l0.length : Int) != (l1.length : Int)) = true := bne_iff_ne.mpr c3
 have c3b2 : (l0.length == l1.length) = false := by first | simpa using c3 | (simp at c3 ⊢; omega)
 obtain rfl := OI_ H
 go_enter Try.func26, Try.ntmps26
 go_wp2
 repeat (go_quiet (fail); try go_wp2)
 go_ret
 exact eD_
def z46.f (l0 : List Int) : Option (List Int) := (some (([] : List Int) : List Int)).bind fun y101 => (if y101.length + l0.length < 17592186044416 then (some (y101 ++ l0)) else (none))
theorem z46.calls (A0 : Option Addr) (c0 : Nat) (l0 : List Int) (r : List Int) (w : World) (hr0 : Kd.C (Kd.int .i64) w A0 l0.length l0) (hc0 : l0.length ≤ c0) (h : z46.f l0 = some r) :
  Calls Try.prog 46 #[.slice A0 l0.length c0] w fun e w' => ∃ v0_ : Value, e = .returned (v0_) ∧ Kd.R (Kd.int .i64) 2 w' w.heap.size (fun _ => True) v0_ r ∧ Below w.heap.size w w' := by
 have HR0 := Zz.mk hr0
 have HC0 := Zz.mk hc0
 clear hr0 hc0
 have HB := Zz.mk (Below.refl w.heap.size w)
 have H : ((some (([] : List Int) : List Int)).bind fun y101 => (if y101.length + l0.length < 17592186044416 then (some (y101 ++ l0)) else (none))) = some r := h
 clear h
 obtain ⟨y101, hy101⟩ : ∃ y_ : List Int, y_ = (([] : List Int)) := ⟨_, rfl⟩
 replace H : (if y101.length + l0.length < 17592186044416 then (some (y101 ++ l0)) else (none)) = some r := Y_ hy101 H
 have Ny101 := Zz.mk hy101
 clear hy101
 have c2 := O1_ H
 replace H := O2_ H
 have LMc2 := Zz.mk c2
 clear c2
 obtain ⟨y104, hy104⟩ : ∃ y_ : List Int, y_ = (y101 ++ l0) := ⟨_, rfl⟩
 replace H : (some y104) = some r := Y_ hy104 H
 have Ny104 := Zz.mk hy104
 clear hy104
 obtain rfl := OI_ H
 go_enter Try.func46, Try.ntmps46
 go_wp2_with (first | ((with_reducible refine qAm (N := 3) rfl ?_); refine Kd.R_lit (Kd.int .i64) _ 2 ?hg (N := 3) ?hd (xs := ([] : List Int)) (inner := []) (ok := fun _ => True) (okp := fun _ => True) ?hr ?hp (fun _ hk => hk) trivial (Below.refl _ _) (Nat.le_refl _) (by simp) ?_; (case hd => rfl); (case hg => rfl); (case hr => first | (go_simp; done) | (go_simp; rfl)); (case hp => exact (Reps.none _ _)); intro v102 w3 ho4 hb hg_ hnew_; clear hg_ hnew_; (first | rw [← Ny101.out] at ho4 | (simp only [Int.reduceToNat] at ho4; rw [← Ny101.out] at ho4)); have HO103 := Zz.mk (Kd.R_lower ho4 (bS_ (B_ HB.out))); replace HB := Zz.mk (bT_ (B_ HB.out) hb); clear hb ho4) | ((with_reducible refine qAv (b := .append) (xs := #[.tmp 3, .tmp 4]) rfl ?_); at_builtin; refine Kd.R_append_rows (Kd.int .i64) (w0 := w) w.heap.size rfl (.tmp 3) (.tmp 4) 26 2 (.int .i64 0) 8 rfl Try.underlying26 qB9 rfl (by decide) (by omega) v102 y101 l0 _ _ _ (fun _ => True) (fun _ => False) rfl rfl ?aO ?aR (fun _ _ h => h) (fun _ h => h.elim) ?aF ?aB ?aS ?aL ?_; (case aR => exact KC_ (Kd.C_below HR0.out HB.out)); (case aB => exact (B_ HB.out)); (case aF => exact (fun _ _ => trivial)); (case aO => exact (KR_ HO103.out)); (case aS => exact (bS_ (B_ HB.out))); (case aL => have := LMc2.out; omega); intro v105 w5 ho hb hg hat; rw [← Ny104.out] at ho; replace HB := Zz.mk (hb); have HO106 := Zz.mk (ho); clear HO103; clear ho hb hg hat))
 go_ret
 exact ⟨_, F_, KR_ HO106.out, B_ HB.out⟩
def z28.f (l0 : List Int) (a1 : Int) : Option (List Int) := if 0 ≤ a1 then (if a1 ≤ (l0.length : Int) then ((z46.f (l0.take (a1 : Int).toNat)).bind fun t102 => (if 0 ≤ (wrap64 (a1 + 1)) then (if (wrap64 (a1 + 1)) ≤ (l0.length : Int) then (if t102.length + (l0.drop ((wrap64 (a1 + 1)) : Int).toNat).length < 17592186044416 then (some (t102 ++ (l0.drop ((wrap64 (a1 + 1)) : Int).toNat))) else (none)) else (none)) else (none))) else (none)) else (none)
theorem z28.calls (A0 : Option Addr) (c0 : Nat) (l0 : List Int) (a1 : Int) (r : List Int) (w : World) (hr0 : Kd.C (Kd.int .i64) w A0 l0.length l0) (hc0 : l0.length ≤ c0) (h : z28.f l0 a1 = some r) :
  Calls Try.prog 28 #[.slice A0 l0.length c0, .int .i64 a1] w fun e w' => ∃ v0_ : Value, e = .returned (v0_) ∧ Kd.R (Kd.int .i64) 2 w' w.heap.size (fun _ => True) v0_ r ∧ Below w.heap.size w w' := by
 have HR0 := Zz.mk hr0
 have HC0 := Zz.mk hc0
 clear hr0 hc0
 have HB := Zz.mk (Below.refl w.heap.size w)
 have H : (if 0 ≤ a1 then (if a1 ≤ (l0.length : Int) then ((z46.f (l0.take (a1 : Int).toNat)).bind fun t102 => (if 0 ≤ (wrap64 (a1 + 1)) then (if (wrap64 (a1 + 1)) ≤ (l0.length : Int) then (if t102.length + (l0.drop ((wrap64 (a1 + 1)) : Int).toNat).length < 17592186044416 then (some (t102 ++ (l0.drop ((wrap64 (a1 + 1)) : Int).toNat))) else (none)) else (none)) else (none))) else (none)) else (none)) = some r := h
 clear h
 have c3 := O1_ H
 replace H := O2_ H
 have c3b0 := eq_true c3
 have c3b1 : decide (0 ≤ a1) = true := decide_eq_true c3
 clear c3
 have c4 := O1_ H
 replace H := O2_ H
 have c4b0 := eq_true c4
 have c4b1 : decide (a1 ≤ (l0.length : Int)) = true := decide_eq_true c4
 clear c4
 replace H := OZ_ H
 obtain ⟨t102, A5, H⟩ := H
 obtain ⟨ji6, hji6⟩ : ∃ j_ : Int, (wrap64 (a1 + 1)) = j_ := ⟨_, rfl⟩
 replace H : (if 0 ≤ (ji6) then (if (ji6) ≤ (l0.length : Int) then (if t102.length + (l0.drop ((ji6) : Int).toNat).length < 17592186044416 then (some (t102 ++ (l0.drop ((ji6) : Int).toNat))) else (none)) else (none)) else (none)) = some r := by first | (rw [hji6] at H; exact H) | (simp only [hji6] at H ⊢; exact H)
 (try rw [hji6] at A5)
 have hji6w : (IntKind.i64.wrap (a1 + 1)) = ji6 := (qA6 _).trans hji6
 have c7 := O1_ H
 replace H := O2_ H
 have c7b0 := eq_true c7
 have c7b1 : decide (0 ≤ (ji6)) = true := decide_eq_true c7
 clear c7
 have c8 := O1_ H
 replace H := O2_ H
 have c8b0 := eq_true c8
 have c8b1 : decide ((ji6) ≤ (l0.length : Int)) = true := decide_eq_true c8
 clear c8
 have c9 := O1_ H
 replace H := O2_ H
 have LMc9 := Zz.mk c9
 clear c9
 obtain ⟨y106, hy106⟩ : ∃ y_ : List Int, y_ = (t102 ++ (l0.drop ((ji6) : Int).toNat)) := ⟨_, rfl⟩
 replace H : (some y106) = some r := Y_ hy106 H
 have Ny106 := Zz.mk hy106
 clear hy106
 obtain rfl := OI_ H
 obtain ⟨i010, hi010, _, hsz10, _⟩ := info_parts qB9
 obtain ⟨hcut10, hA10, hC10⟩ := qHx (P := Try.prog) (Value.int .i64) 0 26 2 .i64 Try.underlying26 hi010 hsz10 A0 c0 l0 a1 (D_) (D_) HC0.out
 have HR101 := Zz.mk (Kd.C_of_reads (h1 := fun _ => rfl) (hA10 _ (Kd.reads_of_C HR0.out)))
 have HC101 := Zz.mk hC10
 clear hA10 hC10 hi010 hsz10
 go_enter Try.func28, Try.ntmps28
 go_wp2_with (first | ((with_reducible refine gC_ (f := 46) rfl ?_); refine qJc (some 9) rfl rfl Try.func46 (by kernel_rfl) rfl #[.slice A0 (l0.take (a1 : Int).toNat).length c0] rfl (by (try simp only [List.map_toArray, List.map_cons, List.map_nil]); first | done | (rw [show (l0.take (a1 : Int).toNat).length = a1.toNat from (by rw [List.length_take]; have h_ : (a1 : Int) ≤ (l0.length : Int) := D_; omega)] <;> rfl) | rfl | (simp only [List.length_drop, List.length_take]; rfl)) ?_; (with_reducible refine (z46.calls _ _ (l0.take (a1 : Int).toNat) t102 _ ?side1 ?side2 A5.out).mono ?_); (case side1 => exact KC_ HR101.out); (case side2 => exact HC101.out); rintro e w11 ⟨v103, rfl, ho0, hb⟩; refine ⟨_, rfl, ?_⟩; have HO104 := Zz.mk (Kd.R_lower ho0 (bS_ (B_ HB.out))); replace HB := Zz.mk (bT_ (B_ HB.out) hb); (try clear hb); (try clear ho0); obtain ⟨i012, hi012, _, hsz12, _⟩ := info_parts qB9; obtain ⟨A12, hcut12, hA12, hC12⟩ := qHy (P := Try.prog) (Value.int .i64) 0 26 2 .i64 Try.underlying26 hi012 hsz12 A0 c0 l0 (ji6) (D_) (D_) HC0.out; have HR105 := Zz.mk (Kd.C_of_reads (h1 := fun _ => rfl) (hA12 _ (Kd.reads_of_C HR0.out))); have HC105 := Zz.mk hC12; clear hA12 hC12 hi012 hsz12) | ((with_reducible refine qAv (b := .append) (xs := #[.tmp 10, .tmp 14]) rfl ?_); at_builtin; refine Kd.R_append_rows (Kd.int .i64) (w0 := w) w.heap.size rfl (.tmp 10) (.tmp 14) 26 2 (.int .i64 0) 8 rfl Try.underlying26 qB9 rfl (by decide) (by omega) v103 t102 (l0.drop ((ji6) : Int).toNat) _ _ _ (fun _ => True) (fun _ => False) rfl rfl ?aO ?aR (fun _ _ h => h) (fun _ h => h.elim) ?aF ?aB ?aS ?aL ?_; (case aR => first | (rw [← show (l0.drop ((ji6) : Int).toNat).length = (l0.length - (ji6).toNat) from List.length_drop]; repeat (first | exact (Kd.C_below HR105.out HB.out) | (with_reducible refine Kd.C_alloc ?_ _) | (with_reducible refine Kd.C_drewN ?_ _) | (with_reducible refine Kd.C_drew ?_))) | (repeat (first | exact (Kd.C_below HR105.out HB.out) | (with_reducible refine Kd.C_alloc ?_ _) | (with_reducible refine Kd.C_drewN ?_ _) | (with_reducible refine Kd.C_drew ?_)))); (case aB => exact (B_ HB.out)); (case aF => exact (fun _ _ => trivial)); (case aO => exact (KR_ HO104.out)); (case aS => exact (bS_ (B_ HB.out))); (case aL => have := LMc9.out; have hlx_ := (show (l0.drop ((ji6) : Int).toNat).length = (l0.length - (ji6).toNat) from List.length_drop); omega); intro v107 w13 ho hb hg hat; rw [← Ny106.out] at ho; replace HB := Zz.mk (hb); have HO108 := Zz.mk (ho); clear HO104; clear ho hb hg hat))
 go_ret
 exact ⟨_, by first | rfl | (simp [qBv, qBu] <;> rfl) | (simp only [← hji6]; first | rfl | (simp [qBv, qBu] <;> rfl)) | (simp [*, qBv, qBu] <;> rfl), KR_ HO108.out, B_ HB.out⟩
def z45.l0 : Nat → List Int → List Int → Int → Option (Bool)
 | 0, _, _, _ => none
 | k + 1, x0, x1, x5 => if x5 < (x0.length : Int) then (if 0 ≤ x5 then (if x5 < (x1.length : Int) then (if (rd x0 x5) = (rd x1 x5) then (z45.l0 k x0 x1 (wrap64 (x5 + 1))) else (some false)) else (none)) else (none)) else (some true)
def z45.f (k : Nat) (l0 : List Int) (l1 : List Int) : Option (Bool) := if (l0.length : Int) = (l1.length : Int) then (z45.l0 k l0 l1 0) else (some false)
theorem z45.calls (k : Nat) (A0 : Option Addr) (c0 : Nat) (l0 : List Int) (A1 : Option Addr) (c1 : Nat) (l1 : List Int) (r : Bool) (w : World) (hr0 : Kd.C (Kd.int .i64) w A0 l0.length l0) (hc0 : l0.length ≤ c0) (hr1 : Kd.C (Kd.int .i64) w A1 l1.length l1) (hc1 : l1.length ≤ c1) (h : z45.f k l0 l1 = some r) :
  Calls Try.prog 45 #[.slice A0 l0.length c0, .slice A1 l1.length c1] w fun e w' => e = .returned (.bool r) ∧ Dz w w' := by
 have HR0 := Zz.mk hr0
 have HC0 := Zz.mk hc0
 clear hr0 hc0
 have HR1 := Zz.mk hr1
 have HC1 := Zz.mk hc1
 clear hr1 hc1
 have H : (if (l0.length : Int) = (l1.length : Int) then (z45.l0 k l0 l1 0) else (some false)) = some r := h
 clear h
 by_cases c3 : (l0.length : Int) = (l1.length : Int)
 ·rw [if_pos c3] at H
  have c3b0 : ((l0.length : Int) == (l1.length : Int)) = true := beq_iff_eq.mpr c3
  have c3b1 : ((l0.length : Int) != (l1.length : Int)) = false := bne_eq_false_iff_eq.mpr c3
  have c3b2 : (l0.length == l1.length) = true := by first | simpa using c3 | (simp at c3 ⊢; omega)
  clear c3
  have H' := Zz.mk H
  clear H
  go_enter Try.func45, Try.ntmps45
  go_wp2
  repeat (go_quiet (fail); try go_wp2)
  go_loopg [5] k (fun kq v5 w' => ∃ (x5_1 : Int), v5 = .int .i64 x5_1 ∧ Zz (z45.l0 kq l0 l1 x5_1 = some r) ∧ Zz (kq ≤ k) ∧ Dz w w')
  case atStart => exact ⟨(0), E_, H', ⟨Nat.le_refl _⟩, by repeat (first | exact Dz.refl _ | apply Dz.step)⟩
  case round =>
   clear H'
   (try clear c1);(try clear c3);(try clear c3b0);(try clear c3b1);(try clear c3b2)
   obtain ⟨x5_1, rfl, HA, HK1, ⟨m1, rfl⟩⟩ := hrel
   cases gk with
   | zero => exact absurd HA.out (by simp [z45.l0])
   | succ k1 =>
    have H := HA.out
    clear HA
    simp only [z45.l0] at H
    by_cases c4 : x5_1 < (l0.length : Int)
    ·rw [if_pos c4] at H
     have c4b0 : decide (x5_1 < (l0.length : Int)) = true := decide_eq_true c4
     clear c4
     have c5b0 := O3_ H
     replace H := O2_ H
     have c6b0 := O3_ H
     replace H := O2_ H
     by_cases c7 : (rd l0 x5_1) = (rd l1 x5_1)
     ·rw [if_pos c7] at H
      have c7b0 : ((rd l0 x5_1) == (rd l1 x5_1)) = true := beq_iff_eq.mpr c7
      have c7b1 : ((rd l0 x5_1) != (rd l1 x5_1)) = false := bne_eq_false_iff_eq.mpr c7
      clear c7
      have H' := Zz.mk H
      clear H
      have p101 : 0 ≤ (x5_1 : Int) := D_
      have q101 : x5_1 < (l0.length : Int) := D_
      obtain ⟨ad101, e101, hx101_0⟩ := Kd.at_int HR0.out x5_1 p101 q101
      cases e101
      replace p101 := eq_true p101
      replace q101 := eq_true q101
      have p102 : 0 ≤ (x5_1 : Int) := D_
      have q102 : x5_1 < (l1.length : Int) := D_
      obtain ⟨ad102, e102, hx102_0⟩ := Kd.at_int HR1.out x5_1 p102 q102
      cases e102
      replace p102 := eq_true p102
      replace q102 := eq_true q102
      go_wp2
      repeat (go_quiet (fail); try go_wp2)
      go_roundg k1
      case measure => exact Q1_ HK1
      case rel => exact ⟨(wrap64 (x5_1 + 1)), E_, H', ⟨Q1_ HK1⟩, by repeat (first | exact Dz.refl _ | apply Dz.step)⟩
     rw [if_neg c7] at H
     have c7b0 : ((rd l0 x5_1) == (rd l1 x5_1)) = false := beq_eq_false_iff_ne.mpr c7
     have c7b1 : ((rd l0 x5_1) != (rd l1 x5_1)) = true := bne_iff_ne.mpr c7
     obtain rfl := OI_ H
     have p101 : 0 ≤ (x5_1 : Int) := D_
     have q101 : x5_1 < (l0.length : Int) := D_
     obtain ⟨ad101, e101, hx101_0⟩ := Kd.at_int HR0.out x5_1 p101 q101
     cases e101
     replace p101 := eq_true p101
     replace q101 := eq_true q101
     have p102 : 0 ≤ (x5_1 : Int) := D_
     have q102 : x5_1 < (l1.length : Int) := D_
     obtain ⟨ad102, e102, hx102_0⟩ := Kd.at_int HR1.out x5_1 p102 q102
     cases e102
     replace p102 := eq_true p102
     replace q102 := eq_true q102
     go_wp2
     repeat (go_quiet (fail); try go_wp2)
     go_ret
     exact eD_
    rw [if_neg c4] at H
    have c4b0 : decide (x5_1 < (l0.length : Int)) = false := decide_eq_false c4
    clear c4
    obtain rfl := OI_ H
    go_wp2
    repeat (go_quiet (fail); try go_wp2)
    go_ret
    exact eD_
 rw [if_neg c3] at H
 have c3b0 : ((l0.length : Int) == (l1.length : Int)) = false := beq_eq_false_iff_ne.mpr c3
 have c3b1 : ((l0.length : Int) != (l1.length : Int)) = true := bne_iff_ne.mpr c3
 have c3b2 : (l0.length == l1.length) = false := by first | simpa using c3 | (simp at c3 ⊢; omega)
 obtain rfl := OI_ H
 go_enter Try.func45, Try.ntmps45
 go_wp2
 repeat (go_quiet (fail); try go_wp2)
 go_ret
 exact eD_
def z27.l0 : Nat → List Int → Int → List (List Int) → Option (Int)
 | 0, _, _, _ => none
 | k + 1, x1, x5, x51000 => if x5 < (x51000.length : Int) then (if 0 ≤ x5 then ((z45.f k (rI_ x51000 x5) x1).bind fun t102 => (if t102 = true then (some x5) else (z27.l0 k x1 (wrap64 (x5 + 1)) x51000))) else (none)) else (some (-1))
def z27.f (k : Nat) (l0_0 : List (List Int)) (l1 : List Int) : Option (Int) := z27.l0 k l1 0 l0_0
theorem z27.calls (k : Nat) (gp0 : Nat) (A0_0 : Option Addr) (c0_0 : Nat) (l0_0 : List (List Int)) (A1 : Option Addr) (c1 : Nat) (l1 : List Int) (r : Int) (w : World) (hbp0 : w.heap[gp0]? = some (.cells #[.slice A0_0 l0_0.length c0_0] 29 (0, 0))) (hr0_0 : Kd.C (Kd.slice 2 (Kd.int .i64)) w A0_0 l0_0.length l0_0) (hc0_0 : l0_0.length ≤ c0_0) (hr1 : Kd.C (Kd.int .i64) w A1 l1.length l1) (hc1 : l1.length ≤ c1) (h : z27.f k l0_0 l1 = some r) :
  Calls Try.prog 27 #[.pointer (some ⟨gp0, 0, none⟩), .slice A1 l1.length c1] w fun e w' => e = .returned (.int .i64 r) ∧ Dz w w' := by
 have HR0_0 := Zz.mk hr0_0
 have HC0_0 := Zz.mk hc0_0
 clear hr0_0 hc0_0
 have HR1 := Zz.mk hr1
 have HC1 := Zz.mk hc1
 clear hr1 hc1
 have BK50 := Zz.mk hbp0
 clear hbp0
 have H : (z27.l0 k l1 0 l0_0) = some r := h
 clear h
 have H' := Zz.mk H
 clear H
 go_enter Try.func27, Try.ntmps27
 go_wp2
 go_loopg [5] k (fun kq v5 w' => ∃ (x5_1 : Int), v5 = .int .i64 x5_1 ∧ Zz (z27.l0 kq l1 x5_1 l0_0 = some r) ∧ Zz (kq ≤ k) ∧ Zz (w'.heap[gp0]? = some (.cells #[(.slice A0_0 l0_0.length c0_0)] 29 (0, 0))) ∧ Dz w w')
 case atStart => exact ⟨(0), E_, H', ⟨Nat.le_refl _⟩, ⟨KB_ BK50.out⟩, by repeat (first | exact Dz.refl _ | apply Dz.step)⟩
 case round =>
  clear H'
  (try clear c1)
  obtain ⟨x5_1, rfl, HA, HK1, BK50, ⟨m1, rfl⟩⟩ := hrel
  cases gk with
  | zero => exact absurd HA.out (by simp [z27.l0])
  | succ k1 =>
   have H := HA.out
   clear HA
   simp only [z27.l0] at H
   by_cases c3 : x5_1 < (l0_0.length : Int)
   ·rw [if_pos c3] at H
    have c3b0 : decide (x5_1 < (l0_0.length : Int)) = true := decide_eq_true c3
    clear c3
    have c4b0 := O3_ H
    replace H := O2_ H
    replace H := OZ_ H
    obtain ⟨t102, A5, H⟩ := H
    by_cases c6 : t102 = true
    ·subst c6
     replace H := T_ H
     obtain rfl := OI_ H
     obtain ⟨hcz7_0, hfz7_0⟩ := Z1f_ BK50.out
     have p101 : 0 ≤ (x5_1 : Int) := D_
     have q101 : x5_1 < (l0_0.length : Int) := D_
     obtain ⟨ad101, A101_0, c101_0, e101, hx101_0, hl101_0, hi101_0⟩ := qAp HR0_0.out x5_1 p101 q101
     cases e101
     have HR101_0 := Zz.mk hi101_0
     have HC101_0 := Zz.mk hl101_0
     clear hi101_0 hl101_0
     replace p101 := eq_true p101
     replace q101 := eq_true q101
     go_wp2_with (first | ((with_reducible refine gC_ (f := 45) rfl ?_); refine GL_ (some 23) rfl rfl Try.func45 #[.slice A101_0 (rI_ l0_0 x5_1).length c101_0, .slice A1 l1.length c1] rfl (h := ?_); (with_reducible refine (z45.calls k1 _ _ (rI_ l0_0 x5_1) _ _ l1 true _ ?side1 ?side2 ?side3 ?side4 A5.out).mono ?_); (case side1 => exact KC_ HR101_0.out); (case side2 => exact HC101_0.out); (case side3 => exact KC_ HR1.out); (case side4 => exact HC1.out); rintro e w' ⟨rfl, ⟨nd, rfl⟩⟩; refine ⟨_, rfl, ?_⟩))
     go_ret
     exact eD_
    replace c6 := Bool.eq_false_iff.mpr c6
    subst c6
    replace H := N_ H
    have H' := Zz.mk H
    clear H
    obtain ⟨hcz8_0, hfz8_0⟩ := Z1f_ BK50.out
    have p101 : 0 ≤ (x5_1 : Int) := D_
    have q101 : x5_1 < (l0_0.length : Int) := D_
    obtain ⟨ad101, A101_0, c101_0, e101, hx101_0, hl101_0, hi101_0⟩ := qAp HR0_0.out x5_1 p101 q101
    cases e101
    have HR101_0 := Zz.mk hi101_0
    have HC101_0 := Zz.mk hl101_0
    clear hi101_0 hl101_0
    replace p101 := eq_true p101
    replace q101 := eq_true q101
    go_wp2_with (first | ((with_reducible refine gC_ (f := 45) rfl ?_); refine GL_ (some 23) rfl rfl Try.func45 #[.slice A101_0 (rI_ l0_0 x5_1).length c101_0, .slice A1 l1.length c1] rfl (h := ?_); (with_reducible refine (z45.calls k1 _ _ (rI_ l0_0 x5_1) _ _ l1 false _ ?side1 ?side2 ?side3 ?side4 A5.out).mono ?_); (case side1 => exact KC_ HR101_0.out); (case side2 => exact HC101_0.out); (case side3 => exact KC_ HR1.out); (case side4 => exact HC1.out); rintro e w' ⟨rfl, ⟨nd, rfl⟩⟩; refine ⟨_, rfl, ?_⟩))
    go_roundg k1
    case measure => exact Q1_ HK1
    case rel => exact ⟨(wrap64 (x5_1 + 1)), E_, H', ⟨Q1_ HK1⟩, ⟨KB_ BK50.out⟩, by repeat (first | exact Dz.refl _ | apply Dz.step)⟩
   rw [if_neg c3] at H
   have c3b0 : decide (x5_1 < (l0_0.length : Int)) = false := decide_eq_false c3
   clear c3
   obtain rfl := OI_ H
   obtain ⟨hcz9_0, hfz9_0⟩ := Z1f_ BK50.out
   go_wp2
   go_ret
   exact eD_
def z43.f (a0 : Int) (a1 : Int) (a2 : Int) : Option (Bool) := if a0 ≥ a1 then (some (decide (a0 ≤ a2))) else (some false)
theorem z43.calls (a0 : Int) (a1 : Int) (a2 : Int) (r : Bool) (w : World) (h : z43.f a0 a1 a2 = some r) :
  Calls Try.prog 43 #[.int .i64 a0, .int .i64 a1, .int .i64 a2] w fun e w' => e = .returned (.bool r) ∧ Dz w w' := by
 have H : (if a0 ≥ a1 then (some (decide (a0 ≤ a2))) else (some false)) = some r := h
 clear h
 by_cases c4 : a0 ≥ a1
 ·rw [if_pos c4] at H
  have c4b0 : decide (a1 ≤ a0) = true := decide_eq_true c4
  clear c4
  obtain rfl := OI_ H
  go_enter Try.func43, Try.ntmps43
  go_wp2
  go_ret
  exact eD_
 rw [if_neg c4] at H
 have c4b0 : decide (a1 ≤ a0) = false := decide_eq_false c4
 clear c4
 obtain rfl := OI_ H
 go_enter Try.func43, Try.ntmps43
 go_wp2
 go_ret
 exact eD_
def z44.l0 : Nat → List Int → Int → Int → Int → Option (Bool)
 | 0, _, _, _, _ => none
 | k + 1, x0, x1, x2, x7 => if x7 < (x0.length : Int) then (if 0 ≤ x7 then ((z43.f (rd x0 x7) x1 x2).bind fun t102 => (if t102 = true then (if x7 > 0 then (if 0 ≤ (wrap64 (x7 - 1)) then (if (wrap64 (x7 - 1)) < (x0.length : Int) then (if (rd x0 (wrap64 (x7 - 1))) ≥ (rd x0 x7) then (some false) else (z44.l0 k x0 x1 x2 (wrap64 (x7 + 1)))) else (none)) else (none)) else (z44.l0 k x0 x1 x2 (wrap64 (x7 + 1)))) else (some false))) else (none)) else (some true)
def z44.f (k : Nat) (l0 : List Int) (a1 : Int) (a2 : Int) : Option (Bool) := z44.l0 k l0 a1 a2 0
theorem z44.calls (k : Nat) (A0 : Option Addr) (c0 : Nat) (l0 : List Int) (a1 : Int) (a2 : Int) (r : Bool) (w : World) (hr0 : Kd.C (Kd.int .i64) w A0 l0.length l0) (hc0 : l0.length ≤ c0) (h : z44.f k l0 a1 a2 = some r) :
  Calls Try.prog 44 #[.slice A0 l0.length c0, .int .i64 a1, .int .i64 a2] w fun e w' => e = .returned (.bool r) ∧ Dz w w' := by
 have HR0 := Zz.mk hr0
 have HC0 := Zz.mk hc0
 clear hr0 hc0
 have H : (z44.l0 k l0 a1 a2 0) = some r := h
 clear h
 have H' := Zz.mk H
 clear H
 go_enter Try.func44, Try.ntmps44
 go_wp2
 repeat (go_quiet (fail); try go_wp2)
 go_loopg [7] k (fun kq v7 w' => ∃ (x7_1 : Int), v7 = .int .i64 x7_1 ∧ Zz (z44.l0 kq l0 a1 a2 x7_1 = some r) ∧ Zz (kq ≤ k) ∧ Dz w w')
 case atStart => exact ⟨(0), E_, H', ⟨Nat.le_refl _⟩, by repeat (first | exact Dz.refl _ | apply Dz.step)⟩
 case round =>
  clear H'
  obtain ⟨x7_1, rfl, HA, HK1, ⟨m1, rfl⟩⟩ := hrel
  cases gk with
  | zero => exact absurd HA.out (by simp [z44.l0])
  | succ k1 =>
   have H := HA.out
   clear HA
   simp only [z44.l0] at H
   by_cases c4 : x7_1 < (l0.length : Int)
   ·rw [if_pos c4] at H
    have c4b0 : decide (x7_1 < (l0.length : Int)) = true := decide_eq_true c4
    clear c4
    have c5b0 := O3_ H
    replace H := O2_ H
    replace H := OZ_ H
    obtain ⟨t102, A6, H⟩ := H
    by_cases c7 : t102 = true
    ·subst c7
     replace H := T_ H
     by_cases c8 : x7_1 > 0
     ·rw [if_pos c8] at H
      have c8b0 : decide (0 < x7_1) = true := decide_eq_true c8
      clear c8
      obtain ⟨ji9, hji9⟩ : ∃ j_ : Int, (wrap64 (x7_1 - 1)) = j_ := ⟨_, rfl⟩
      replace H : (if 0 ≤ (ji9) then (if (ji9) < (l0.length : Int) then (if (rd l0 (ji9)) ≥ (rd l0 x7_1) then (some false) else (z44.l0 k1 l0 a1 a2 (wrap64 (x7_1 + 1)))) else (none)) else (none)) = some r := by first | (rw [hji9] at H; exact H) | (simp only [hji9] at H ⊢; exact H)
      (try rw [hji9] at A6)
      have hji9w : (IntKind.i64.wrap (x7_1 - 1)) = ji9 := (qA6 _).trans hji9
      have c10b0 := O3_ H
      replace H := O2_ H
      have c11b0 := O3_ H
      replace H := O2_ H
      by_cases c12 : (rd l0 (ji9)) ≥ (rd l0 x7_1)
      ·rw [if_pos c12] at H
       have c12b0 : decide ((rd l0 x7_1) ≤ (rd l0 (ji9))) = true := decide_eq_true c12
       clear c12
       obtain rfl := OI_ H
       have p101 : 0 ≤ (x7_1 : Int) := D_
       have q101 : x7_1 < (l0.length : Int) := D_
       obtain ⟨ad101, e101, hx101_0⟩ := Kd.at_int HR0.out x7_1 p101 q101
       cases e101
       replace p101 := eq_true p101
       replace q101 := eq_true q101
       go_wp2_with (first | (go_at_call 43; (with_reducible refine (z43.calls (rd l0 x7_1) a1 a2 true _ A6.out).mono ?_); rintro e w' ⟨rfl, ⟨nd, rfl⟩⟩; (try first | exact ⟨rfl, _, World.drewN_drewN _ _ _⟩ | exact ⟨rfl, _, Eq.trans (World.drewN_drewN _ _ _) (congrArg (World.drewN _) (Nat.add_assoc _ _ _))⟩); have p103 : 0 ≤ ((ji9) : Int) := D_; have q103 : (ji9) < (l0.length : Int) := D_; obtain ⟨ad103, e103, hx103_0⟩ := Kd.at_int HR0.out (ji9) p103 q103; obtain rfl : ad101 = ad103 := (by injection e103); replace p103 := eq_true p103; replace q103 := eq_true q103; have p104 : 0 ≤ (x7_1 : Int) := D_; have q104 : x7_1 < (l0.length : Int) := D_; obtain ⟨ad104, e104, hx104_0⟩ := Kd.at_int HR0.out x7_1 p104 q104; obtain rfl : ad101 = ad104 := (by injection e104); replace p104 := eq_true p104; replace q104 := eq_true q104))
       repeat (go_quiet (first | (go_at_call 43; (with_reducible refine (z43.calls (rd l0 x7_1) a1 a2 true _ A6.out).mono ?_); rintro e w' ⟨rfl, ⟨nd, rfl⟩⟩; (try first | exact ⟨rfl, _, World.drewN_drewN _ _ _⟩ | exact ⟨rfl, _, Eq.trans (World.drewN_drewN _ _ _) (congrArg (World.drewN _) (Nat.add_assoc _ _ _))⟩); have p103 : 0 ≤ ((ji9) : Int) := D_; have q103 : (ji9) < (l0.length : Int) := D_; obtain ⟨ad103, e103, hx103_0⟩ := Kd.at_int HR0.out (ji9) p103 q103; obtain rfl : ad101 = ad103 := (by injection e103); replace p103 := eq_true p103; replace q103 := eq_true q103; have p104 : 0 ≤ (x7_1 : Int) := D_; have q104 : x7_1 < (l0.length : Int) := D_; obtain ⟨ad104, e104, hx104_0⟩ := Kd.at_int HR0.out x7_1 p104 q104; obtain rfl : ad101 = ad104 := (by injection e104); replace p104 := eq_true p104; replace q104 := eq_true q104)); try go_wp2_with (first | (go_at_call 43; (with_reducible refine (z43.calls (rd l0 x7_1) a1 a2 true _ A6.out).mono ?_); rintro e w' ⟨rfl, ⟨nd, rfl⟩⟩; (try first | exact ⟨rfl, _, World.drewN_drewN _ _ _⟩ | exact ⟨rfl, _, Eq.trans (World.drewN_drewN _ _ _) (congrArg (World.drewN _) (Nat.add_assoc _ _ _))⟩); have p103 : 0 ≤ ((ji9) : Int) := D_; have q103 : (ji9) < (l0.length : Int) := D_; obtain ⟨ad103, e103, hx103_0⟩ := Kd.at_int HR0.out (ji9) p103 q103; obtain rfl : ad101 = ad103 := (by injection e103); replace p103 := eq_true p103; replace q103 := eq_true q103; have p104 : 0 ≤ (x7_1 : Int) := D_; have q104 : x7_1 < (l0.length : Int) := D_; obtain ⟨ad104, e104, hx104_0⟩ := Kd.at_int HR0.out x7_1 p104 q104; obtain rfl : ad101 = ad104 := (by injection e104); replace p104 := eq_true p104; replace q104 := eq_true q104)))
       go_ret
       exact ⟨by first | rfl | (simp; done) | (simp only [← hji9] <;> (first | rfl | simp)) | (simp [*]; done), by repeat (first | exact Dz.refl _ | apply Dz.step)⟩
      rw [if_neg c12] at H
      have c12b0 : decide ((rd l0 x7_1) ≤ (rd l0 (ji9))) = false := decide_eq_false c12
      clear c12
      have H' := Zz.mk H
      clear H
      have p101 : 0 ≤ (x7_1 : Int) := D_
      have q101 : x7_1 < (l0.length : Int) := D_
      obtain ⟨ad101, e101, hx101_0⟩ := Kd.at_int HR0.out x7_1 p101 q101
      cases e101
      replace p101 := eq_true p101
      replace q101 := eq_true q101
      go_wp2_with (first | (go_at_call 43; (with_reducible refine (z43.calls (rd l0 x7_1) a1 a2 true _ A6.out).mono ?_); rintro e w' ⟨rfl, ⟨nd, rfl⟩⟩; (try first | exact ⟨rfl, _, World.drewN_drewN _ _ _⟩ | exact ⟨rfl, _, Eq.trans (World.drewN_drewN _ _ _) (congrArg (World.drewN _) (Nat.add_assoc _ _ _))⟩); have p103 : 0 ≤ ((ji9) : Int) := D_; have q103 : (ji9) < (l0.length : Int) := D_; obtain ⟨ad103, e103, hx103_0⟩ := Kd.at_int HR0.out (ji9) p103 q103; obtain rfl : ad101 = ad103 := (by injection e103); replace p103 := eq_true p103; replace q103 := eq_true q103; have p104 : 0 ≤ (x7_1 : Int) := D_; have q104 : x7_1 < (l0.length : Int) := D_; obtain ⟨ad104, e104, hx104_0⟩ := Kd.at_int HR0.out x7_1 p104 q104; obtain rfl : ad101 = ad104 := (by injection e104); replace p104 := eq_true p104; replace q104 := eq_true q104))
      repeat (go_quiet (first | (go_at_call 43; (with_reducible refine (z43.calls (rd l0 x7_1) a1 a2 true _ A6.out).mono ?_); rintro e w' ⟨rfl, ⟨nd, rfl⟩⟩; (try first | exact ⟨rfl, _, World.drewN_drewN _ _ _⟩ | exact ⟨rfl, _, Eq.trans (World.drewN_drewN _ _ _) (congrArg (World.drewN _) (Nat.add_assoc _ _ _))⟩); have p103 : 0 ≤ ((ji9) : Int) := D_; have q103 : (ji9) < (l0.length : Int) := D_; obtain ⟨ad103, e103, hx103_0⟩ := Kd.at_int HR0.out (ji9) p103 q103; obtain rfl : ad101 = ad103 := (by injection e103); replace p103 := eq_true p103; replace q103 := eq_true q103; have p104 : 0 ≤ (x7_1 : Int) := D_; have q104 : x7_1 < (l0.length : Int) := D_; obtain ⟨ad104, e104, hx104_0⟩ := Kd.at_int HR0.out x7_1 p104 q104; obtain rfl : ad101 = ad104 := (by injection e104); replace p104 := eq_true p104; replace q104 := eq_true q104)); try go_wp2_with (first | (go_at_call 43; (with_reducible refine (z43.calls (rd l0 x7_1) a1 a2 true _ A6.out).mono ?_); rintro e w' ⟨rfl, ⟨nd, rfl⟩⟩; (try first | exact ⟨rfl, _, World.drewN_drewN _ _ _⟩ | exact ⟨rfl, _, Eq.trans (World.drewN_drewN _ _ _) (congrArg (World.drewN _) (Nat.add_assoc _ _ _))⟩); have p103 : 0 ≤ ((ji9) : Int) := D_; have q103 : (ji9) < (l0.length : Int) := D_; obtain ⟨ad103, e103, hx103_0⟩ := Kd.at_int HR0.out (ji9) p103 q103; obtain rfl : ad101 = ad103 := (by injection e103); replace p103 := eq_true p103; replace q103 := eq_true q103; have p104 : 0 ≤ (x7_1 : Int) := D_; have q104 : x7_1 < (l0.length : Int) := D_; obtain ⟨ad104, e104, hx104_0⟩ := Kd.at_int HR0.out x7_1 p104 q104; obtain rfl : ad101 = ad104 := (by injection e104); replace p104 := eq_true p104; replace q104 := eq_true q104)))
      go_roundg k1
      case measure => exact Q1_ HK1
      case rel => exact ⟨(wrap64 (x7_1 + 1)), E_, H', ⟨Q1_ HK1⟩, by repeat (first | exact Dz.refl _ | apply Dz.step)⟩
     rw [if_neg c8] at H
     have c8b0 : decide (0 < x7_1) = false := decide_eq_false c8
     clear c8
     have H' := Zz.mk H
     clear H
     have p101 : 0 ≤ (x7_1 : Int) := D_
     have q101 : x7_1 < (l0.length : Int) := D_
     obtain ⟨ad101, e101, hx101_0⟩ := Kd.at_int HR0.out x7_1 p101 q101
     cases e101
     replace p101 := eq_true p101
     replace q101 := eq_true q101
     go_wp2_with (first | (go_at_call 43; (with_reducible refine (z43.calls (rd l0 x7_1) a1 a2 true _ A6.out).mono ?_); rintro e w' ⟨rfl, ⟨nd, rfl⟩⟩; (try first | exact ⟨rfl, _, World.drewN_drewN _ _ _⟩ | exact ⟨rfl, _, Eq.trans (World.drewN_drewN _ _ _) (congrArg (World.drewN _) (Nat.add_assoc _ _ _))⟩)))
     repeat (go_quiet (first | (go_at_call 43; (with_reducible refine (z43.calls (rd l0 x7_1) a1 a2 true _ A6.out).mono ?_); rintro e w' ⟨rfl, ⟨nd, rfl⟩⟩; (try first | exact ⟨rfl, _, World.drewN_drewN _ _ _⟩ | exact ⟨rfl, _, Eq.trans (World.drewN_drewN _ _ _) (congrArg (World.drewN _) (Nat.add_assoc _ _ _))⟩))); try go_wp2_with (first | (go_at_call 43; (with_reducible refine (z43.calls (rd l0 x7_1) a1 a2 true _ A6.out).mono ?_); rintro e w' ⟨rfl, ⟨nd, rfl⟩⟩; (try first | exact ⟨rfl, _, World.drewN_drewN _ _ _⟩ | exact ⟨rfl, _, Eq.trans (World.drewN_drewN _ _ _) (congrArg (World.drewN _) (Nat.add_assoc _ _ _))⟩))))
     go_roundg k1
     case measure => exact Q1_ HK1
     case rel => exact ⟨(wrap64 (x7_1 + 1)), E_, H', ⟨Q1_ HK1⟩, by repeat (first | exact Dz.refl _ | apply Dz.step)⟩
    replace c7 := Bool.eq_false_iff.mpr c7
    subst c7
    replace H := N_ H
    obtain rfl := OI_ H
    have p101 : 0 ≤ (x7_1 : Int) := D_
    have q101 : x7_1 < (l0.length : Int) := D_
    obtain ⟨ad101, e101, hx101_0⟩ := Kd.at_int HR0.out x7_1 p101 q101
    cases e101
    replace p101 := eq_true p101
    replace q101 := eq_true q101
    go_wp2_with (first | (go_at_call 43; (with_reducible refine (z43.calls (rd l0 x7_1) a1 a2 false _ A6.out).mono ?_); rintro e w' ⟨rfl, ⟨nd, rfl⟩⟩; (try first | exact ⟨rfl, _, World.drewN_drewN _ _ _⟩ | exact ⟨rfl, _, Eq.trans (World.drewN_drewN _ _ _) (congrArg (World.drewN _) (Nat.add_assoc _ _ _))⟩)))
    repeat (go_quiet (first | (go_at_call 43; (with_reducible refine (z43.calls (rd l0 x7_1) a1 a2 false _ A6.out).mono ?_); rintro e w' ⟨rfl, ⟨nd, rfl⟩⟩; (try first | exact ⟨rfl, _, World.drewN_drewN _ _ _⟩ | exact ⟨rfl, _, Eq.trans (World.drewN_drewN _ _ _) (congrArg (World.drewN _) (Nat.add_assoc _ _ _))⟩))); try go_wp2_with (first | (go_at_call 43; (with_reducible refine (z43.calls (rd l0 x7_1) a1 a2 false _ A6.out).mono ?_); rintro e w' ⟨rfl, ⟨nd, rfl⟩⟩; (try first | exact ⟨rfl, _, World.drewN_drewN _ _ _⟩ | exact ⟨rfl, _, Eq.trans (World.drewN_drewN _ _ _) (congrArg (World.drewN _) (Nat.add_assoc _ _ _))⟩))))
    go_ret
    exact eD_
   rw [if_neg c4] at H
   have c4b0 : decide (x7_1 < (l0.length : Int)) = false := decide_eq_false c4
   clear c4
   obtain rfl := OI_ H
   go_wp2
   repeat (go_quiet (fail); try go_wp2)
   go_ret
   exact eD_
def z25.f (k : Nat) (l0 : List Int) : Option (Bool) := (z43.f (l0.length : Int) 1 4).bind fun t101 => (if t101 = true then ((z44.f k l0 0 9).bind fun t102 => (some t102)) else (some false))
theorem z25.calls (k : Nat) (A0 : Option Addr) (c0 : Nat) (l0 : List Int) (r : Bool) (w : World) (hr0 : Kd.C (Kd.int .i64) w A0 l0.length l0) (hc0 : l0.length ≤ c0) (h : z25.f k l0 = some r) :
  Calls Try.prog 25 #[.slice A0 l0.length c0] w fun e w' => e = .returned (.bool r) ∧ Dz w w' := by
 have HR0 := Zz.mk hr0
 have HC0 := Zz.mk hc0
 clear hr0 hc0
 have H : ((z43.f (l0.length : Int) 1 4).bind fun t101 => (if t101 = true then ((z44.f k l0 0 9).bind fun t102 => (some t102)) else (some false))) = some r := h
 clear h
 replace H := OZ_ H
 obtain ⟨t101, A2, H⟩ := H
 by_cases c3 : t101 = true
 ·subst c3
  replace H := T_ H
  replace H := OZ_ H
  obtain ⟨t102, A4, H⟩ := H
  obtain rfl := OI_ H
  go_enter Try.func25, Try.ntmps25
  go_wp2_with (first | ((with_reducible refine gC_ (f := 43) rfl ?_); refine GL_ (some 5) rfl rfl Try.func43 #[.int .i64 (l0.length : Int), .int .i64 1, .int .i64 4] rfl (h := ?_); (with_reducible refine (z43.calls (l0.length : Int) 1 4 true _ A2.out).mono ?_); rintro e w' ⟨rfl, ⟨nd, rfl⟩⟩; refine ⟨_, rfl, ?_⟩) | (go_at_call 44; (with_reducible refine (z44.calls k _ _ l0 0 9 t102 _ ?side1 ?side2 A4.out).mono ?_); (case side1 => exact KC_ HR0.out); (case side2 => exact HC0.out); rintro e w' ⟨rfl, ⟨nd, rfl⟩⟩))
  go_ret
  exact eD_
 replace c3 := Bool.eq_false_iff.mpr c3
 subst c3
 replace H := N_ H
 obtain rfl := OI_ H
 go_enter Try.func25, Try.ntmps25
 go_wp2_with (first | ((with_reducible refine gC_ (f := 43) rfl ?_); refine GL_ (some 5) rfl rfl Try.func43 #[.int .i64 (l0.length : Int), .int .i64 1, .int .i64 4] rfl (h := ?_); (with_reducible refine (z43.calls (l0.length : Int) 1 4 false _ A2.out).mono ?_); rintro e w' ⟨rfl, ⟨nd, rfl⟩⟩; refine ⟨_, rfl, ?_⟩))
 go_ret
 exact eD_
def z30.f (a0 : Int) : Option (Bool) := (z43.f a0 0 3).bind fun t101 => (some t101)
theorem z30.calls (a0 : Int) (r : Bool) (w : World) (h : z30.f a0 = some r) :
  Calls Try.prog 30 #[.int .i64 a0] w fun e w' => e = .returned (.bool r) ∧ Dz w w' := by
 have H : ((z43.f a0 0 3).bind fun t101 => (some t101)) = some r := h
 clear h
 replace H := OZ_ H
 obtain ⟨t101, A2, H⟩ := H
 obtain rfl := OI_ H
 go_enter Try.func30, Try.ntmps30
 go_wp2_with (first | ((with_reducible refine gC_ (f := 43) rfl ?_); refine GL_ (some 4) rfl rfl Try.func43 #[.int .i64 a0, .int .i64 0, .int .i64 3] rfl (h := ?_); (with_reducible refine (z43.calls a0 0 3 t101 _ A2.out).mono ?_); rintro e w' ⟨rfl, ⟨nd, rfl⟩⟩; refine ⟨_, rfl, ?_⟩))
 go_ret
 exact eD_
def z31.l0 : Nat → Int → List Int → Int → List (List Int) → Option (List Int)
 | 0, _, _, _, _ => none
 | k + 1, x1, x5, x6, x51000 => if x6 < (x51000.length : Int) then (if 0 ≤ x6 then (if ((rI_ x51000 x6).length : Int) = (wrap64 (x1 + 1)) then (if x5.length < 17592186044416 then (z31.l0 k x1 (x5 ++ [x6]) (wrap64 (x6 + 1)) x51000) else (none)) else (z31.l0 k x1 x5 (wrap64 (x6 + 1)) x51000)) else (none)) else (some x5)
def z31.f (k : Nat) (l0_0 : List (List Int)) (a1 : Int) : Option (List Int) := z31.l0 k a1 (([] : List Int)) 0 l0_0
theorem z31.calls (k : Nat) (gp0 : Nat) (A0_0 : Option Addr) (c0_0 : Nat) (l0_0 : List (List Int)) (a1 : Int) (r : List Int) (w : World) (hbp0 : w.heap[gp0]? = some (.cells #[.slice A0_0 l0_0.length c0_0] 29 (0, 0))) (hr0_0 : Kd.C (Kd.slice 2 (Kd.int .i64)) w A0_0 l0_0.length l0_0) (hc0_0 : l0_0.length ≤ c0_0) (h : z31.f k l0_0 a1 = some r) :
  Calls Try.prog 31 #[.pointer (some ⟨gp0, 0, none⟩), .int .i64 a1] w fun e w' => ∃ v0_ : Value, e = .returned (v0_) ∧ Kd.R (Kd.int .i64) 2 w' w.heap.size (fun _ => True) v0_ r ∧ Below w.heap.size w w' := by
 have HR0_0 := Zz.mk hr0_0
 have HC0_0 := Zz.mk hc0_0
 clear hr0_0 hc0_0
 have BK50 := Zz.mk hbp0
 clear hbp0
 have HB := Zz.mk (Below.refl w.heap.size w)
 have H : (z31.l0 k a1 (([] : List Int)) 0 l0_0) = some r := h
 clear h
 obtain ⟨y101, hy101⟩ : ∃ y_ : List Int, y_ = (([] : List Int)) := ⟨_, rfl⟩
 replace H : (z31.l0 k a1 y101 0 l0_0) = some r := Y_ hy101 H
 have Ny101 := Zz.mk hy101
 clear hy101
 have H' := Zz.mk H
 clear H
 go_enter Try.func31, Try.ntmps31
 go_wp2_with (first | ((with_reducible refine qAm (N := 7) rfl ?_); refine Kd.R_lit (Kd.int .i64) _ 2 ?hg (N := 7) ?hd (xs := ([] : List Int)) (inner := []) (ok := fun _ => True) (okp := fun _ => True) ?hr ?hp (fun _ hk => hk) trivial (Below.refl _ _) (Nat.le_refl _) (by simp) ?_; (case hd => rfl); (case hg => rfl); (case hr => first | (go_simp; done) | (go_simp; rfl)); (case hp => exact (Reps.none _ _)); intro v102 w3 ho4 hb hg_ hnew_; clear hg_ hnew_; (first | rw [← Ny101.out] at ho4 | (simp only [Int.reduceToNat] at ho4; rw [← Ny101.out] at ho4)); have HO103 := Zz.mk (Kd.R_lower ho4 (bS_ (B_ HB.out))); replace BK50 := Zz.mk (kb_ BK50.out hb); replace HB := Zz.mk (bT_ (B_ HB.out) hb); clear hb ho4))
 go_loopg [5, 6] k (fun kq v5 v6 w' => ∃ (x5_1 : List Int) (x6_1 : Int), v6 = .int .i64 x6_1 ∧ Zz (z31.l0 kq a1 x5_1 x6_1 l0_0 = some r) ∧ Zz (kq ≤ k) ∧ Zz (Kd.R (Kd.int .i64) 2 w' w.heap.size (fun _ => True) v5 x5_1) ∧ Zz (w'.heap[gp0]? = some (.cells #[(.slice A0_0 l0_0.length c0_0)] 29 (0, 0))) ∧ Zz (Below w.heap.size w w'))
 case atStart => exact ⟨(y101), (0), E_, H', ⟨Nat.le_refl _⟩, ⟨KR_ HO103.out⟩, ⟨KB_ BK50.out⟩, ⟨B_ HB.out⟩⟩
 case round =>
  clear H'
  obtain ⟨x5_1, x6_1, rfl, HA, HK1, HO_5, BK50, HB⟩ := hrel
  cases gk with
  | zero => exact absurd HA.out (by simp [z31.l0])
  | succ k1 =>
   have H := HA.out
   clear HA
   simp only [z31.l0] at H
   by_cases c5 : x6_1 < (l0_0.length : Int)
   ·rw [if_pos c5] at H
    have c5b0 : decide (x6_1 < (l0_0.length : Int)) = true := decide_eq_true c5
    clear c5
    have c6b0 := O3_ H
    replace H := O2_ H
    by_cases c7 : ((rI_ l0_0 x6_1).length : Int) = (wrap64 (a1 + 1))
    ·rw [if_pos c7] at H
     have c7b0 : (((rI_ l0_0 x6_1).length : Int) == (wrap64 (a1 + 1))) = true := beq_iff_eq.mpr c7
     have c7b1 : (((rI_ l0_0 x6_1).length : Int) != (wrap64 (a1 + 1))) = false := bne_eq_false_iff_eq.mpr c7
     clear c7
     have c8 := O1_ H
     replace H := O2_ H
     have LMc8 := Zz.mk c8
     clear c8
     obtain ⟨y105, hy105⟩ : ∃ y_ : List Int, y_ = (x5_1 ++ [x6_1]) := ⟨_, rfl⟩
     replace H : (z31.l0 k1 a1 y105 (wrap64 (x6_1 + 1)) l0_0) = some r := Y_ hy105 H
     have Ny105 := Zz.mk hy105
     clear hy105
     have H' := Zz.mk H
     clear H
     obtain ⟨hcz9_0, hfz9_0⟩ := Z1f_ BK50.out
     have p104 : 0 ≤ (x6_1 : Int) := D_
     have q104 : x6_1 < (l0_0.length : Int) := D_
     obtain ⟨ad104, A104_0, c104_0, e104, hx104_0, hl104_0, hi104_0⟩ := qAp HR0_0.out x6_1 p104 q104
     cases e104
     replace hx104_0 := (HB.out.cell (World.block_lt_of_cell? w _ hx104_0)).trans hx104_0
     have HR104_0 := Zz.mk hi104_0
     have HC104_0 := Zz.mk hl104_0
     clear hi104_0 hl104_0
     replace p104 := eq_true p104
     replace q104 := eq_true q104
     go_wp2_with (first | ((with_reducible refine qAv (b := .append) (xs := #[.tmp 28, .tmp 30]) rfl ?_); at_builtin; refine Kd.R_append (Kd.int .i64) (w0 := w) w.heap.size rfl (.tmp 28) (.tmp 30) 26 2 (.int .i64 0) 8 rfl Try.underlying26 qB9 rfl (by decide) (by omega) u5 x5_1 x6_1 [.int .i64 x6_1] (fun _ => True) (fun _ => False) rfl rfl ?aP (fun _ hk => hk.elim) ?aF ?aO ?aB ?aS ?aL ?_; (case aP => exact rfl); (case aB => exact (B_ HB.out)); (case aF => exact (fun _ _ => trivial)); (case aO => exact (KR_ HO_5.out)); (case aS => exact (bS_ (B_ HB.out))); (case aL => have := LMc8.out; omega); intro v106 w10 ho hb hg hat; rw [← Ny105.out] at ho; replace BK50 := Zz.mk (qAy (g := gp0) (o := .cells #[.slice (some ad104) l0_0.length c0_0] 29 (0, 0)) (KB_ BK50.out) hg (Kd.R_ne HO_5.out BK50.out (by decide))); replace HB := Zz.mk (hb); have HO107 := Zz.mk (ho); clear HO_5; clear ho hb hg hat))
     go_roundg k1
     case measure => exact Q1_ HK1
     case rel => exact ⟨(y105), (wrap64 (x6_1 + 1)), E_, H', ⟨Q1_ HK1⟩, ⟨KR_ HO107.out⟩, ⟨KB_ BK50.out⟩, ⟨B_ HB.out⟩⟩
    rw [if_neg c7] at H
    have c7b0 : (((rI_ l0_0 x6_1).length : Int) == (wrap64 (a1 + 1))) = false := beq_eq_false_iff_ne.mpr c7
    have c7b1 : (((rI_ l0_0 x6_1).length : Int) != (wrap64 (a1 + 1))) = true := bne_iff_ne.mpr c7
    have H' := Zz.mk H
    clear H
    obtain ⟨hcz11_0, hfz11_0⟩ := Z1f_ BK50.out
    have p104 : 0 ≤ (x6_1 : Int) := D_
    have q104 : x6_1 < (l0_0.length : Int) := D_
    obtain ⟨ad104, A104_0, c104_0, e104, hx104_0, hl104_0, hi104_0⟩ := qAp HR0_0.out x6_1 p104 q104
    cases e104
    replace hx104_0 := (HB.out.cell (World.block_lt_of_cell? w _ hx104_0)).trans hx104_0
    have HR104_0 := Zz.mk hi104_0
    have HC104_0 := Zz.mk hl104_0
    clear hi104_0 hl104_0
    replace p104 := eq_true p104
    replace q104 := eq_true q104
    go_wp2
    go_roundg k1
    case measure => exact Q1_ HK1
    case rel => exact ⟨(x5_1), (wrap64 (x6_1 + 1)), E_, H', ⟨Q1_ HK1⟩, ⟨KR_ HO_5.out⟩, ⟨KB_ BK50.out⟩, ⟨B_ HB.out⟩⟩
   rw [if_neg c5] at H
   have c5b0 : decide (x6_1 < (l0_0.length : Int)) = false := decide_eq_false c5
   clear c5
   obtain rfl := OI_ H
   obtain ⟨hcz12_0, hfz12_0⟩ := Z1f_ BK50.out
   go_wp2
   go_ret
   exact ⟨_, F_, KR_ HO_5.out, B_ HB.out⟩
def z29.l0 : Nat → Int → Int → Option (Bool)
 | 0, _, _ => none
 | k + 1, x0, x3 => if (wrap64 (x3 * x3)) ≤ x0 then (if x3 = 0 then (none) else (if (Int.tmod x0 x3) = 0 then (some false) else (z29.l0 k x0 (wrap64 (x3 + 1))))) else (some true)
def z29.f (k : Nat) (a0 : Int) : Option (Bool) := (z43.f a0 2 251).bind fun t101 => (if t101 = true then (z29.l0 k a0 2) else (some false))
theorem z29.calls (k : Nat) (a0 : Int) (r : Bool) (w : World) (h : z29.f k a0 = some r) :
  Calls Try.prog 29 #[.int .i64 a0] w fun e w' => e = .returned (.bool r) ∧ Dz w w' := by
 have H : ((z43.f a0 2 251).bind fun t101 => (if t101 = true then (z29.l0 k a0 2) else (some false))) = some r := h
 clear h
 replace H := OZ_ H
 obtain ⟨t101, A2, H⟩ := H
 by_cases c3 : t101 = true
 ·subst c3
  replace H := T_ H
  have H' := Zz.mk H
  clear H
  go_enter Try.func29, Try.ntmps29
  go_wp2_with (first | ((with_reducible refine gC_ (f := 43) rfl ?_); refine GL_ (some 5) rfl rfl Try.func43 #[.int .i64 a0, .int .i64 2, .int .i64 251] rfl (h := ?_); (with_reducible refine (z43.calls a0 2 251 true _ A2.out).mono ?_); rintro e w' ⟨rfl, ⟨nd, rfl⟩⟩; refine ⟨_, rfl, ?_⟩))
  go_loopg [3] k (fun kq v3 w' => ∃ (x3_1 : Int), v3 = .int .i64 x3_1 ∧ Zz (z29.l0 kq a0 x3_1 = some r) ∧ Zz (kq ≤ k) ∧ Dz w w')
  case atStart => exact ⟨(2), E_, H', ⟨Nat.le_refl _⟩, by repeat (first | exact Dz.refl _ | apply Dz.step)⟩
  case round =>
   clear H'
   (try clear c3)
   obtain ⟨x3_1, rfl, HA, HK1, ⟨m1, rfl⟩⟩ := hrel
   cases gk with
   | zero => exact absurd HA.out (by simp [z29.l0])
   | succ k1 =>
    have H := HA.out
    clear HA
    simp only [z29.l0] at H
    by_cases c4 : (wrap64 (x3_1 * x3_1)) ≤ a0
    ·rw [if_pos c4] at H
     have c4b0 : decide ((wrap64 (x3_1 * x3_1)) ≤ a0) = true := decide_eq_true c4
     clear c4
     by_cases c5 : x3_1 = 0
     ·rw [if_pos c5] at H
      exact X_ H
     rw [if_neg c5] at H
     have c5b0 : (x3_1 == 0) = false := beq_eq_false_iff_ne.mpr c5
     have c5b1 : (x3_1 != 0) = true := bne_iff_ne.mpr c5
     by_cases c6 : (Int.tmod a0 x3_1) = 0
     ·rw [if_pos c6] at H
      have c6b0 : ((Int.tmod a0 x3_1) == 0) = true := beq_iff_eq.mpr c6
      have c6b1 : ((Int.tmod a0 x3_1) != 0) = false := bne_eq_false_iff_eq.mpr c6
      clear c6
      obtain rfl := OI_ H
      go_wp2
      go_ret
      exact eD_
     rw [if_neg c6] at H
     have c6b0 : ((Int.tmod a0 x3_1) == 0) = false := beq_eq_false_iff_ne.mpr c6
     have c6b1 : ((Int.tmod a0 x3_1) != 0) = true := bne_iff_ne.mpr c6
     have H' := Zz.mk H
     clear H
     go_wp2
     go_roundg k1
     case measure => exact Q1_ HK1
     case rel => exact ⟨(wrap64 (x3_1 + 1)), E_, H', ⟨Q1_ HK1⟩, by repeat (first | exact Dz.refl _ | apply Dz.step)⟩
    rw [if_neg c4] at H
    have c4b0 : decide ((wrap64 (x3_1 * x3_1)) ≤ a0) = false := decide_eq_false c4
    clear c4
    obtain rfl := OI_ H
    go_wp2
    go_ret
    exact eD_
 replace c3 := Bool.eq_false_iff.mpr c3
 subst c3
 replace H := N_ H
 obtain rfl := OI_ H
 go_enter Try.func29, Try.ntmps29
 go_wp2_with (first | ((with_reducible refine gC_ (f := 43) rfl ?_); refine GL_ (some 5) rfl rfl Try.func43 #[.int .i64 a0, .int .i64 2, .int .i64 251] rfl (h := ?_); (with_reducible refine (z43.calls a0 2 251 false _ A2.out).mono ?_); rintro e w' ⟨rfl, ⟨nd, rfl⟩⟩; refine ⟨_, rfl, ?_⟩))
 go_ret
 exact eD_
def z15.f (k : Nat) (a0 : Int) : Option (Bool) := (z29.f k a0).bind fun t101 => (some t101)
theorem z15.calls (k : Nat) (a0 : Int) (r : Bool) (w : World) (h : z15.f k a0 = some r) :
  Calls Try.prog 15 #[.int .i64 a0] w fun e w' => e = .returned (.bool r) ∧ Dz w w' := by
 have H : ((z29.f k a0).bind fun t101 => (some t101)) = some r := h
 clear h
 replace H := OZ_ H
 obtain ⟨t101, A2, H⟩ := H
 obtain rfl := OI_ H
 go_enter Try.func15, Try.ntmps15
 go_wp2_with (first | ((with_reducible refine gC_ (f := 29) rfl ?_); refine GL_ (some 4) rfl rfl Try.func29 #[.int .i64 a0] rfl (h := ?_); (with_reducible refine (z29.calls k a0 t101 _ A2.out).mono ?_); rintro e w' ⟨rfl, ⟨nd, rfl⟩⟩; refine ⟨_, rfl, ?_⟩))
 go_ret
 exact eD_
def z71.l0 : Nat → Int → Int → Int → Int → Option (Int)
 | 0, _, _, _, _ => none
 | k + 1, x0, x1, x5, x6 => if x6 > 0 then (if x1 = 0 then (none) else (z71.l0 k x0 x1 (Int.tmod (wrap64 (x5 * x0)) x1) (wrap64 (x6 - 1)))) else (some x5)
def z71.f (k : Nat) (a0 : Int) (a1 : Int) : Option (Int) := z71.l0 k a0 a1 1 (wrap64 (a1 - 2))
theorem z71.calls (k : Nat) (a0 : Int) (a1 : Int) (r : Int) (w : World) (h : z71.f k a0 a1 = some r) :
  Calls Try.prog 71 #[.int .i64 a0, .int .i64 a1] w fun e w' => e = .returned (.int .i64 r) ∧ Dz w w' := by
 have H : (z71.l0 k a0 a1 1 (wrap64 (a1 - 2))) = some r := h
 clear h
 have H' := Zz.mk H
 clear H
 go_enter Try.func71, Try.ntmps71
 go_wp2
 go_loopg [5, 6] k (fun kq v5 v6 w' => ∃ (x5_1 : Int) (x6_1 : Int), v5 = .int .i64 x5_1 ∧ v6 = .int .i64 x6_1 ∧ Zz (z71.l0 kq a0 a1 x5_1 x6_1 = some r) ∧ Zz (kq ≤ k) ∧ Dz w w')
 case atStart => exact ⟨(1), (wrap64 (a1 - 2)), E_, E_, H', ⟨Nat.le_refl _⟩, by repeat (first | exact Dz.refl _ | apply Dz.step)⟩
 case round =>
  clear H'
  obtain ⟨x5_1, x6_1, rfl, rfl, HA, HK1, ⟨m1, rfl⟩⟩ := hrel
  cases gk with
  | zero => exact absurd HA.out (by simp [z71.l0])
  | succ k1 =>
   have H := HA.out
   clear HA
   simp only [z71.l0] at H
   by_cases c3 : x6_1 > 0
   ·rw [if_pos c3] at H
    have c3b0 : decide (0 < x6_1) = true := decide_eq_true c3
    clear c3
    by_cases c4 : a1 = 0
    ·rw [if_pos c4] at H
     exact X_ H
    rw [if_neg c4] at H
    have c4b0 : (a1 == 0) = false := beq_eq_false_iff_ne.mpr c4
    have c4b1 : (a1 != 0) = true := bne_iff_ne.mpr c4
    have H' := Zz.mk H
    clear H
    go_wp2
    go_roundg k1
    case measure => exact Q1_ HK1
    case rel => exact ⟨(Int.tmod (wrap64 (x5_1 * a0)) a1), (wrap64 (x6_1 - 1)), E_, E_, H', ⟨Q1_ HK1⟩, by repeat (first | exact Dz.refl _ | apply Dz.step)⟩
   rw [if_neg c3] at H
   have c3b0 : decide (0 < x6_1) = false := decide_eq_false c3
   clear c3
   obtain rfl := OI_ H
   go_wp2
   go_ret
   exact eD_
def z72.f (a0 : Int) (a1 : Int) : Option (Int) := if a1 = 0 then (none) else (some (Int.tmod (wrap64 ((Int.tmod a0 a1) + a1)) a1))
theorem z72.calls (a0 : Int) (a1 : Int) (r : Int) (w : World) (h : z72.f a0 a1 = some r) :
  Calls Try.prog 72 #[.int .i64 a0, .int .i64 a1] w fun e w' => e = .returned (.int .i64 r) ∧ Dz w w' := by
 have H : (if a1 = 0 then (none) else (some (Int.tmod (wrap64 ((Int.tmod a0 a1) + a1)) a1))) = some r := h
 clear h
 by_cases c3 : a1 = 0
 ·rw [if_pos c3] at H
  exact X_ H
 rw [if_neg c3] at H
 have c3b0 : (a1 == 0) = false := beq_eq_false_iff_ne.mpr c3
 have c3b1 : (a1 != 0) = true := bne_iff_ne.mpr c3
 obtain rfl := OI_ H
 go_enter Try.func72, Try.ntmps72
 go_wp2
 go_ret
 exact eD_
def z47.f (a0 : Int) (a1 : Int) (a2 : Int) : Option (Int × Int × Int × List Int) := if 0 ≤ (wrap64 (a1 * a2)) then (if (wrap64 (a1 * a2) : Int).toNat ≤ 35184372088832 then (some (a0, a1, a2, (List.replicate (wrap64 (a1 * a2) : Int).toNat 0))) else (none)) else (none)
theorem z47.calls (a0 : Int) (a1 : Int) (a2 : Int) (r1 : Int) (r2 : Int) (r3 : Int) (r4 : List Int) (w : World) (h : z47.f a0 a1 a2 = some (r1, r2, r3, r4)) :
  Calls Try.prog 47 #[.int .i64 a0, .int .i64 a1, .int .i64 a2] w fun e w' => ∃ v3_ : Value, e = .returned (.agg #[.int .i64 r1, .int .i64 r2, .int .i64 r3, v3_]) ∧ Kd.R (Kd.int .i64) 2 w' w.heap.size (fun _ => True) v3_ r4 ∧ Below w.heap.size w w' := by
 have hu51 := Try.underlying51
 have HB := Zz.mk (Below.refl w.heap.size w)
 have H : (if 0 ≤ (wrap64 (a1 * a2)) then (if (wrap64 (a1 * a2) : Int).toNat ≤ 35184372088832 then (some (a0, a1, a2, (List.replicate (wrap64 (a1 * a2) : Int).toNat 0))) else (none)) else (none)) = some (r1, r2, r3, r4) := h
 clear h
 obtain ⟨ji4, hji4⟩ : ∃ j_ : Int, (wrap64 (a1 * a2)) = j_ := ⟨_, rfl⟩
 replace H : (if 0 ≤ (ji4) then (if (ji4 : Int).toNat ≤ 35184372088832 then (some (a0, a1, a2, (List.replicate (ji4 : Int).toNat 0))) else (none)) else (none)) = some (r1, r2, r3, r4) := by first | (rw [hji4] at H; exact H) | (simp only [hji4] at H ⊢; exact H)
 have hji4w : (IntKind.i64.wrap (a1 * a2)) = ji4 := (qA6 _).trans hji4
 have c5 := O1_ H
 replace H := O2_ H
 have c5b0 := eq_true c5
 have c5b1 : decide (0 ≤ (ji4)) = true := decide_eq_true c5
 clear c5
 have c6 := O1_ H
 replace H := O2_ H
 have c6b0 := eq_true c6
 have c6b1 : decide ((ji4 : Int).toNat ≤ 35184372088832) = true := decide_eq_true c6
 clear c6
 obtain ⟨y102, hy102⟩ : ∃ y_ : List Int, y_ = (List.replicate (ji4 : Int).toNat 0) := ⟨_, rfl⟩
 replace H : (some (a0, a1, a2, y102)) = some (r1, r2, r3, r4) := Y_ hy102 H
 have Ny102 := Zz.mk hy102
 clear hy102
 simp only [Option.some.injEq, Prod.mk.injEq] at H
 obtain ⟨rfl, rfl, rfl, rfl⟩ := H
 go_enter Try.func47, Try.ntmps47
 go_wp2_with (first | ((with_reducible refine qAm (N := 6) rfl ?_); refine bx_ 6 #[.int .i64 0, .int .i64 0, .int .i64 0, .slice none 0 0] 51 ?_; intro gb101 hg w7 hbox hb; have BK101 := Zz.mk (hbox); have GW101 := Zz.mk ((gw_ hg (B_ HB.out))); have GE101 := GW101; replace HB := Zz.mk (bT_ (B_ HB.out) hb); clear hb hbox hg) | ((with_reducible refine qAm (N := 13) rfl ?_); refine Kd.R_make (Kd.int .i64) _ 2 rfl (N := 13) rfl 26 _ _ rfl ji4 rfl rfl Try.underlying26 (.int .i64 0) 8 qB9 rfl (by decide) (by omega) 0 (ok := fun _ => True) (okp := fun _ => True) rfl (fun _ hk => hk) trivial (D_) (Nat.le_trans (Nat.mul_le_mul_right _ (D_ : ji4.toNat ≤ 35184372088832)) (by omega)) (Below.refl _ _) (Nat.le_refl _) ?_; intro v103 w8 ho9 hb hg_ hnew_; clear hg_ hnew_; (first | rw [← Ny102.out] at ho9 | (simp only [Int.reduceToNat] at ho9; rw [← Ny102.out] at ho9)); have HO104 := Zz.mk (Kd.R_lower ho9 (bS_ (B1_ HB.out GE101.out))); replace BK101 := Zz.mk (kb_ BK101.out hb); replace HB := Zz.mk (bT_ (B1_ HB.out GE101.out) hb); clear hb ho9; obtain ⟨Ao10, co10, eo10⟩ := Kd.R_slice HO104.out; subst eo10; obtain ⟨hcz11_0, hcz11_1, hcz11_2, hcz11_3, hfz11_0, hfz11_1, hfz11_2, hfz11_3⟩ := Z4f_ BK101.out))
 refine bodyPost_ret (results_cell_row rfl _ _ gb101 51 #[.int .i64 a0, .int .i64 a1, .int .i64 a2, .slice Ao10 y102.length co10] (0, 0) _ rfl (by refine BW_ ?_; refine bP_ (cs := #[.int .i64 a0, .int .i64 a1, .int .i64 a2, .slice none 0 0]) ?_ 3 _ rfl; refine BW_ ?_; refine bP_ (cs := #[.int .i64 a0, .int .i64 a1, .int .i64 0, .slice none 0 0]) ?_ 2 _ rfl; refine BW_ ?_; refine bP_ (cs := #[.int .i64 a0, .int .i64 0, .int .i64 0, .slice none 0 0]) ?_ 1 _ rfl; refine BW_ ?_; refine bP_ (cs := #[.int .i64 0, .int .i64 0, .int .i64 0, .slice none 0 0]) ?_ 0 _ rfl; refine BW_ ?_; exact BK101.out) Try.underlying51 rfl (by kernel_rfl)) rfl ?_
 exact ⟨_, by first | rfl | (simp [qBv, qBu] <;> rfl) | (simp only [← hji4]; first | rfl | (simp [qBv, qBu] <;> rfl)) | (simp [*, qBv, qBu] <;> rfl), by refine RW_ ?_; exact Kd.R_mono (Kd.R_far (p := ⟨gb101, 3, none⟩) (Kd.R_far (p := ⟨gb101, 2, none⟩) (Kd.R_far (p := ⟨gb101, 1, none⟩) (Kd.R_far (p := ⟨gb101, 0, none⟩) (Kd.R_types HO104.out BK101.out (by decide)) (fun _ hk => hk.2) (.int .i64 a0)) (fun _ hk => hk.2) (.int .i64 a1)) (fun _ hk => hk.2) (.int .i64 a2)) (fun _ hk => hk.2) (.slice Ao10 y102.length co10)) (fun _ hk => trivial), B1_ HB.out GE101.out⟩
mutual
def z48.l0 : Nat → List Int → List Int → Int → List (List Int) → Option (List Int)
 | 0, _, _, _, _ => none
 | k + 1, x5, x6, x7, x51000 => if x7 < (x5.length : Int) then (z48.j1 k x5 x6 x7 (decide ((x5.length : Int) > 1)) x51000) else (z48.j1 k x5 x6 x7 false x51000)
def z48.j1 : Nat → List Int → List Int → Int → Bool → List (List Int) → Option (List Int)
 | 0, _, _, _, _, _ => none
 | k + 1, x5, x6, x7, x24, x51000 => if x24 = true then ((z28.f x5 x7).bind fun t105 => ((z27.f k x51000 t105).bind fun t108 => (if x6.length < 17592186044416 then (z48.l0 k x5 (x6 ++ [t108]) (wrap64 (x7 + 1)) x51000) else (none)))) else (some x6)
end
def z48.f (k : Nat) (l0_0 : List (List Int)) (a1 : Int) : Option (List Int) := if 0 ≤ a1 then (if a1 < (l0_0.length : Int) then (z48.l0 k (rI_ l0_0 a1) (([] : List Int)) 0 l0_0) else (none)) else (none)
theorem z48.calls (k : Nat) (gp0 : Nat) (A0_0 : Option Addr) (c0_0 : Nat) (l0_0 : List (List Int)) (a1 : Int) (r : List Int) (w : World) (hbp0 : w.heap[gp0]? = some (.cells #[.slice A0_0 l0_0.length c0_0] 29 (0, 0))) (hr0_0 : Kd.C (Kd.slice 2 (Kd.int .i64)) w A0_0 l0_0.length l0_0) (hc0_0 : l0_0.length ≤ c0_0) (h : z48.f k l0_0 a1 = some r) :
  Calls Try.prog 48 #[.pointer (some ⟨gp0, 0, none⟩), .int .i64 a1] w fun e w' => ∃ v0_ : Value, e = .returned (v0_) ∧ Kd.R (Kd.int .i64) 2 w' w.heap.size (fun _ => True) v0_ r ∧ Below w.heap.size w w' := by
 have HR0_0 := Zz.mk hr0_0
 have HC0_0 := Zz.mk hc0_0
 clear hr0_0 hc0_0
 have BK50 := Zz.mk hbp0
 clear hbp0
 have HB := Zz.mk (Below.refl w.heap.size w)
 have H : (if 0 ≤ a1 then (if a1 < (l0_0.length : Int) then (z48.l0 k (rI_ l0_0 a1) (([] : List Int)) 0 l0_0) else (none)) else (none)) = some r := h
 clear h
 have c3b0 := O3_ H
 replace H := O2_ H
 have c4b0 := O3_ H
 replace H := O2_ H
 obtain ⟨y102, hy102⟩ : ∃ y_ : List Int, y_ = (([] : List Int)) := ⟨_, rfl⟩
 replace H : (z48.l0 k (rI_ l0_0 a1) y102 0 l0_0) = some r := Y_ hy102 H
 have Ny102 := Zz.mk hy102
 clear hy102
 have H' := Zz.mk H
 clear H
 obtain ⟨hcz5_0, hfz5_0⟩ := Z1f_ BK50.out
 have p101 : 0 ≤ (a1 : Int) := D_
 have q101 : a1 < (l0_0.length : Int) := D_
 obtain ⟨ad101, A101_0, c101_0, e101, hx101_0, hl101_0, hi101_0⟩ := qAp HR0_0.out a1 p101 q101
 cases e101
 have HR101_0 := Zz.mk hi101_0
 have HC101_0 := Zz.mk hl101_0
 clear hi101_0 hl101_0
 replace p101 := eq_true p101
 replace q101 := eq_true q101
 go_enter Try.func48, Try.ntmps48
 go_wp2_with (first | ((with_reducible refine qAm (N := 15) rfl ?_); (try (refine qHd (by rfl) ?_; dsimp only)); refine Kd.R_lit (Kd.int .i64) _ 2 ?hg (N := 15) ?hd (xs := ([] : List Int)) (inner := []) (ok := fun _ => True) (okp := fun _ => True) ?hr ?hp (fun _ hk => hk) trivial (Below.refl _ _) (Nat.le_refl _) (by simp) ?_; (case hd => rfl); (case hg => rfl); (case hr => first | (go_simp; done) | (go_simp; rfl)); (case hp => exact (Reps.none _ _)); intro v103 w6 ho7 hb hg_ hnew_; clear hg_ hnew_; (first | rw [← Ny102.out] at ho7 | (simp only [Int.reduceToNat] at ho7; rw [← Ny102.out] at ho7)); have HO104 := Zz.mk (Kd.R_lower ho7 (bS_ (B_ HB.out))); replace BK50 := Zz.mk (kb_ BK50.out hb); replace HB := Zz.mk (bT_ (B_ HB.out) hb); clear hb ho7))
 go_loopg [6, 7] k (fun kq v6 v7 w' => ∃ (x6_1 : List Int) (x7_1 : Int), v7 = .int .i64 x7_1 ∧ Zz (z48.l0 kq (rI_ l0_0 a1) x6_1 x7_1 l0_0 = some r) ∧ Zz (kq ≤ k) ∧ Zz (Kd.R (Kd.int .i64) 2 w' w.heap.size (fun _ => True) v6 x6_1) ∧ Zz (w'.heap[gp0]? = some (.cells #[(.slice (some ad101) l0_0.length c0_0)] 29 (0, 0))) ∧ Zz (Below w.heap.size w w'))
 case atStart => exact ⟨(y102), (0), E_, H', ⟨Nat.le_refl _⟩, ⟨KR_ HO104.out⟩, ⟨KB_ BK50.out⟩, ⟨B_ HB.out⟩⟩
 case round =>
  clear H'
  (try clear c3b0);(try clear c4b0);(try clear hcz5_0);(try clear hfz5_0);(try clear hx101_0);(try clear p101);(try clear q101)
  obtain ⟨x6_1, x7_1, rfl, HA, HK1, HO_6, BK50, HB⟩ := hrel
  cases gk with
  | zero => exact absurd HA.out (by simp [z48.l0])
  | succ k1 =>
   have H := HA.out
   clear HA
   simp only [z48.l0] at H
   have HC8 := Zz.mk H
   clear H
   go_upto_region 4 with (fail)
   go_cut [24] (fun v24 wc => ∃ (kq : Nat) (x24_7 : Bool), v24 = .bool x24_7 ∧ Zz (z48.j1 kq (rI_ l0_0 a1) x6_1 x7_1 x24_7 l0_0 = some r) ∧ Zz (kq ≤ k1) ∧ Zz (Kd.R (Kd.int .i64) 2 wc w.heap.size (fun _ => True) u6 x6_1) ∧ Zz (wc.heap[gp0]? = some (.cells #[(.slice (some ad101) l0_0.length c0_0)] 29 (0, 0))) ∧ Zz (Below w.heap.size w wc))
   case first =>
    have H := HC8.out
    clear HC8
    by_cases c9 : x7_1 < ((rI_ l0_0 a1).length : Int)
    ·rw [if_pos c9] at H
     have c9b0 : decide (x7_1 < ((rI_ l0_0 a1).length : Int)) = true := decide_eq_true c9
     clear c9
     (first | rw [c9b0] | (simp only [qA6, qBh]; rw [c9b0]) | skip)
     have H' := Zz.mk H
     clear H
     go_wp2
     go_meet
     case rel => exact ⟨_, (decide (((rI_ l0_0 a1).length : Int) > 1)), E_, H', ⟨by have := HK1.out; first | omega | exact Nat.le_refl _⟩, ⟨KR_ HO_6.out⟩, ⟨KB_ BK50.out⟩, ⟨B_ HB.out⟩⟩
    rw [if_neg c9] at H
    have c9b0 : decide (x7_1 < ((rI_ l0_0 a1).length : Int)) = false := decide_eq_false c9
    clear c9
    (first | rw [c9b0] | (simp only [qA6, qBh]; rw [c9b0]) | skip)
    have H' := Zz.mk H
    clear H
    go_wp2
    go_meet
    case rel => exact ⟨_, (false), E_, H', ⟨by have := HK1.out; first | omega | exact Nat.le_refl _⟩, ⟨KR_ HO_6.out⟩, ⟨KB_ BK50.out⟩, ⟨B_ HB.out⟩⟩
   case rest =>
    clear HC8
    (try clear c3b0);(try clear c4b0);(try clear hcz5_0);(try clear hfz5_0);(try clear hx101_0);(try clear p101);(try clear q101)
    obtain ⟨kq, x24_7, rfl, HA, HJ7, HO_6, BK50, HB⟩ := hcut
    cases kq with
    | zero => exact absurd HA.out (by simp [z48.j1])
    | succ kj7 =>
     have H := HA.out
     clear HA
     simp only [z48.j1] at H
     by_cases c10 : x24_7 = true
     ·subst c10
      replace H := T_ H
      replace H := OZ_ H
      obtain ⟨t105, A11, H⟩ := H
      replace H := OZ_ H
      obtain ⟨t108, A12, H⟩ := H
      have c13 := O1_ H
      replace H := O2_ H
      have LMc13 := Zz.mk c13
      clear c13
      obtain ⟨y109, hy109⟩ : ∃ y_ : List Int, y_ = (x6_1 ++ [t108]) := ⟨_, rfl⟩
      replace H : (z48.l0 kj7 (rI_ l0_0 a1) y109 (wrap64 (x7_1 + 1)) l0_0) = some r := Y_ hy109 H
      have Ny109 := Zz.mk hy109
      clear hy109
      have H' := Zz.mk H
      clear H
      go_wp2_with (first | ((with_reducible refine gC_ (f := 28) rfl ?_); refine GL_ (some 31) rfl rfl Try.func28 #[.slice A101_0 (rI_ l0_0 a1).length c101_0, .int .i64 x7_1] rfl (h := ?_); (with_reducible refine (z28.calls _ _ (rI_ l0_0 a1) x7_1 t105 _ ?side1 ?side2 A11.out).mono ?_); (case side1 => exact KC_ (Kd.C_below HR101_0.out HB.out)); (case side2 => exact HC101_0.out); rintro e w14 ⟨v106, rfl, ho0, hb⟩; refine ⟨_, rfl, ?_⟩; have HO107 := Zz.mk (Kd.R_lower (Kd.R_new' ho0 (Kd.R_lt (KR_ HO_6.out))) (bS_ (B_ HB.out))); replace HO_6 := Zz.mk (Kd.R_elder' (KR_ HO_6.out) (Kd.R_base ho0) hb); replace BK50 := Zz.mk (kb_ BK50.out hb); replace HB := Zz.mk (bT_ (B_ HB.out) hb); (try clear hb); (try clear ho0); obtain ⟨Ao15, co15, eo15⟩ := Kd.R_slice HO107.out; subst eo15) | ((with_reducible refine gC_ (f := 27) rfl ?_); refine GL_ (some 32) rfl rfl Try.func27 #[.pointer (some ⟨gp0, 0, none⟩), .slice Ao15 t105.length co15] rfl (h := ?_); (with_reducible refine (z27.calls kj7 gp0 (some ad101) c0_0 l0_0 _ _ t105 t108 _ ?side1 ?side2 ?side3 ?side4 ?side5 A12.out).mono ?_); (case side1 => refine BW_ ?_; exact BK50.out); (case side2 => exact KC_ (Kd.C_below HR0_0.out HB.out)); (case side3 => exact HC0_0.out); (case side4 => exact KC_ (Kd.R_reads' HO107.out).2.2); (case side5 => exact (Kd.R_reads' HO107.out).2.1); rintro e w' ⟨rfl, ⟨nd, rfl⟩⟩; refine ⟨_, rfl, ?_⟩) | ((with_reducible refine qAv (b := .append) (xs := #[.tmp 27, .tmp 33]) rfl ?_); (try (refine qHd (by rfl) ?_; dsimp only)); at_builtin; refine Kd.R_append (Kd.int .i64) (w0 := w) w.heap.size rfl (.tmp 27) (.tmp 33) 26 2 (.int .i64 0) 8 rfl Try.underlying26 qB9 rfl (by decide) (by omega) u6 x6_1 t108 [.int .i64 t108] (fun k_ => some k_ ≠ (.slice Ao15 t105.length co15 : Value).ownBlock) (fun _ => False) rfl rfl ?aP (fun _ hk => hk.elim) ?aF ?aO ?aB ?aS ?aL ?_; (case aP => exact rfl); (case aB => exact (B_ HB.out)); (case aF => exact (fun k_ hk => Kd.fresh' (Kd.R_lt (KR_ HO107.out)) k_ hk)); (case aO => exact (by refine RW_ ?_; exact Kd.R_mono HO_6.out (fun _ hk => hk.2))); (case aS => exact (bS_ (B_ HB.out))); (case aL => have := LMc13.out; omega); intro v110 w16 ho hb hg hat; rw [← Ny109.out] at ho; replace BK50 := Zz.mk (qAy (g := gp0) (o := .cells #[.slice (some ad101) l0_0.length c0_0] 29 (0, 0)) (KB_ BK50.out) hg (Kd.R_ne HO_6.out BK50.out (by decide))); replace HO107 := Zz.mk (Kd.R_after (ok := (fun _ => True)) (KR_ HO107.out) hg hat); replace HB := Zz.mk (hb); have HO111 := Zz.mk (ho); clear HO_6; clear ho hb hg hat))
      go_roundg kj7
      case measure => have := HK1.out; have := HJ7.out; omega
      case rel => exact ⟨(y109), (wrap64 (x7_1 + 1)), E_, H', ⟨by have := HK1.out; have := HJ7.out; omega⟩, ⟨by refine RW_ ?_; exact Kd.R_mono HO111.out (fun _ hk => trivial)⟩, ⟨KB_ BK50.out⟩, ⟨B_ HB.out⟩⟩
     replace c10 := Bool.eq_false_iff.mpr c10
     subst c10
     replace H := N_ H
     obtain rfl := OI_ H
     go_wp2
     go_ret
     exact ⟨_, F_, KR_ HO_6.out, B_ HB.out⟩
def z49.f (a0 : Int) (a1 : Int) : Option (Int) := if (Int.tmod a0 2) = 0 then (if a1 = 0 then (none) else (some ((1 : Int) % a1))) else (some (wrap64 (a1 - 1)))
theorem z49.calls (a0 : Int) (a1 : Int) (r : Int) (w : World) (h : z49.f a0 a1 = some r) :
  Calls Try.prog 49 #[.int .i64 a0, .int .i64 a1] w fun e w' => e = .returned (.int .i64 r) ∧ Dz w w' := by
 have H : (if (Int.tmod a0 2) = 0 then (if a1 = 0 then (none) else (some ((1 : Int) % a1))) else (some (wrap64 (a1 - 1)))) = some r := h
 clear h
 by_cases c3 : (Int.tmod a0 2) = 0
 ·rw [if_pos c3] at H
  have c3b0 : ((Int.tmod a0 2) == 0) = true := beq_iff_eq.mpr c3
  have c3b1 : ((Int.tmod a0 2) != 0) = false := bne_eq_false_iff_eq.mpr c3
  clear c3
  by_cases c4 : a1 = 0
  ·rw [if_pos c4] at H
   exact X_ H
  rw [if_neg c4] at H
  have c4b0 : (a1 == 0) = false := beq_eq_false_iff_ne.mpr c4
  have c4b1 : (a1 != 0) = true := bne_iff_ne.mpr c4
  obtain rfl := OI_ H
  go_enter Try.func49, Try.ntmps49
  go_wp2
  go_ret
  exact eD_
 rw [if_neg c3] at H
 have c3b0 : ((Int.tmod a0 2) == 0) = false := beq_eq_false_iff_ne.mpr c3
 have c3b1 : ((Int.tmod a0 2) != 0) = true := bne_iff_ne.mpr c3
 obtain rfl := OI_ H
 go_enter Try.func49, Try.ntmps49
 go_wp2
 go_ret
 exact eD_
end Go.Proofs.Ytpgjfppbbbnclaa.B
/- Small tools for what the printed functions come to: pure Lean, no program in sight (for this claim, by hand). -/
set_option linter.unusedVariables false
set_option linter.unusedSimpArgs false
namespace Go.Proofs.Ytpgjfppbbbnclaa.B
open Go.RowKit Go.Proofs.YtpgjfppbbbnclaaW.PrintWords
theorem qAa {α : Type} {c : Prop} [Decidable c] {t f : Nat → Option α} {r : α} (h : c) (e : Ev t r) : Ev (fun k => if c then t k else f k) r := by
  simp only [if_pos h]; exact e
theorem qAd {α : Type} {c : Prop} [Decidable c] {t f : Nat → Option α} {r : α} (h : ¬ c) (e : Ev f r) : Ev (fun k => if c then t k else f k) r := by
  simp only [if_neg h]; exact e
theorem qAr {α : Type} {x : Option α} {r : α} (h : x = some r) : Ev (fun _ => x) r := ⟨0, fun _ _ => h⟩
theorem qBk {α : Type} {g : Nat → Option α} {r r' : α} (h : Ev g r) (e : r = r') : Ev g r' := e ▸ h
def Le {α : Type} (g f : Nat → Option α) : Prop := ∀ r, Ev g r → Ev f r
theorem Le.refl {α : Type} (g : Nat → Option α) : Le g g := fun _ h => h
theorem Le.trans {α : Type} {g f e : Nat → Option α} (h : Le g f) (h' : Le f e) : Le g e := fun r hr => h' r (h r hr)
def iter {σ : Type} (F : Nat → σ → σ) : Nat → Nat → σ → σ
  | _, 0, s => s
  | i, d + 1, s => iter F (i + 1) d (F i s)
theorem qOw {σ β : Type} (L : σ → Nat → Nat → Option β) (F : Nat → σ → σ) : ∀ (d i : Nat) (s : σ), (∀ j s, i ≤ j → j < i + d → Le (L (F j s) (j + 1)) (L s j)) → Le (L (iter F i d s) (i + d)) (L s i)
  | 0, i, s, _ => Le.refl _
  | d + 1, i, s, h => by
    have ih := qOw L F d (i + 1) (F i s) (fun j s h1 h2 => h j s (by omega) (by omega))
    rw [show i + 1 + d = i + (d + 1) by omega] at ih
    exact ih.trans (h i s (Nat.le_refl _) (by omega))
theorem qBj {σ β : Type} (L : σ → Nat → Nat → Option β) (F : Nat → σ → σ) (I : Nat → σ → Prop) : ∀ (d i : Nat) (s : σ), I i s → (∀ j s, i ≤ j → j < i + d → I j s → Le (L (F j s) (j + 1)) (L s j) ∧ I (j + 1) (F j s)) → Le (L (iter F i d s) (i + d)) (L s i) ∧ I (i + d) (iter F i d s)
  | 0, i, s, hI, _ => ⟨Le.refl _, hI⟩
  | d + 1, i, s, hI, h => by
    obtain ⟨h0, hI1⟩ := h i s (Nat.le_refl _) (by omega) hI
    have ih := qBj L F I d (i + 1) (F i s) hI1 (fun j s h1 h2 => h j s (by omega) (by omega))
    rw [show i + 1 + d = i + (d + 1) by omega] at ih
    exact ⟨ih.1.trans h0, ih.2⟩
theorem qFc {σ : Type} (F : Nat → σ → σ) (I : Nat → σ → Prop) : ∀ (d i : Nat) (s : σ), I i s → (∀ j s, i ≤ j → j < i + d → I j s → I (j + 1) (F j s)) → I (i + d) (iter F i d s)
  | 0, i, s, hI, _ => hI
  | d + 1, i, s, hI, h => by
    have ih := qFc F I d (i + 1) (F i s) (h i s (Nat.le_refl _) (by omega) hI) (fun j s h1 h2 => h j s (by omega) (by omega))
    rw [show i + 1 + d = i + (d + 1) by omega] at ih
    exact ih
theorem qK7 {σ : Type} {F G : Nat → σ → σ} : ∀ (d i : Nat) (s : σ), (∀ j s, i ≤ j → j < i + d → F j s = G j s) → iter F i d s = iter G i d s
  | 0, i, s, _ => rfl
  | d + 1, i, s, h => by
    simp only [iter]
    rw [h i s (Nat.le_refl _) (by omega)]
    exact qK7 d (i + 1) _ (fun j s h1 h2 => h j s (by omega) (by omega))
theorem qKp {σ : Type} (F : Nat → σ → σ) : ∀ (d e i : Nat) (s : σ), iter F i (d + e) s = iter F (i + d) e (iter F i d s)
  | 0, e, i, s => by simp [iter]
  | d + 1, e, i, s => by
    rw [show d + 1 + e = d + e + 1 by omega]
    simp only [iter]
    rw [qKp F d e (i + 1) (F i s), show i + 1 + d = i + (d + 1) by omega]
theorem qF2 {σ : Type} (F : Nat → σ → σ) (d i : Nat) (s : σ) : iter F i (d + 1) s = F (i + d) (iter F i d s) := by
  rw [qKp F d 1 i s]; rfl
theorem qDo {β : Type} {r : β} (L : Nat → Nat → Option β) (p : Nat → Bool) : ∀ (d i : Nat), (∀ j, i ≤ j → j < i + d → p j = false → Le (L (j + 1)) (L j)) →
    (∀ j, i ≤ j → j < i + d → p j = true → (∀ m, i ≤ m → m < j → p m = false) → Ev (L j) r) → ((∀ m, i ≤ m → m < i + d → p m = false) → Ev (L (i + d)) r) → Ev (L i) r
  | 0, i, _, _, he => he (fun m h1 h2 => by omega)
  | d + 1, i, h0, h1, he => by
    cases hp : p i with
    | true => exact h1 i (Nat.le_refl _) (by omega) hp (fun m h1 h2 => by omega)
    | false =>
      refine h0 i (Nat.le_refl _) (by omega) hp r (qDo L p d (i + 1) (fun j a b => h0 j (by omega) (by omega)) (fun j a b c e => h1 j (by omega) (by omega) c (fun m u v => ?_)) (fun e => ?_))
      · rcases Nat.eq_or_lt_of_le u with rfl | u
        · exact hp
        exact e m u v
      rw [show i + 1 + d = i + (d + 1) by omega]
      refine he (fun m u v => ?_)
      rcases Nat.eq_or_lt_of_le u with rfl | u
      · exact hp
      exact e m u (by omega)
theorem qGd {α : Type} (xs : List α) (z : α) (p : α → Bool) : (List.range xs.length).all (fun i => p (xs.getD i z)) = xs.all p := by
  rw [Bool.eq_iff_iff, List.all_eq_true, List.all_eq_true]
  constructor
  · intro h x hx
    obtain ⟨i, hi, rfl⟩ := List.mem_iff_getElem.1 hx
    have := h i (List.mem_range.2 hi)
    rwa [List.getD_eq_getElem?_getD, List.getElem?_eq_getElem hi] at this
  intro h i hi
  have hi := List.mem_range.1 hi
  rw [List.getD_eq_getElem?_getD, List.getElem?_eq_getElem hi]
  exact h _ (List.getElem_mem hi)
theorem qHi (L : Nat → Nat → Option Bool) (p : Nat → Bool) (n : Nat) (h1 : ∀ j, j < n → p j = true → Le (L (j + 1)) (L j)) (h0 : ∀ j, j < n → p j = false → Ev (L j) false) (he : Ev (L n) true) : Ev (L 0) ((List.range n).all p) := by
  refine qDo L (fun j => !p j) n 0 (fun j _ hj hp => h1 j (by omega) (by simpa using hp)) (fun j _ hj hp _ => ?_) (fun h => ?_)
  · have hp' : p j = false := by simpa using hp
    have : (List.range n).all p = false := by
      rw [Bool.eq_false_iff]
      intro h
      have := List.all_eq_true.1 h j (List.mem_range.2 (by omega))
      rw [hp'] at this; cases this
    rw [this]
    exact h0 j (by omega) hp'
  have : (List.range n).all p = true := List.all_eq_true.2 (fun j hj => by simpa using h j (Nat.zero_le _) (by have := List.mem_range.1 hj; omega))
  rw [this, Nat.zero_add]
  exact he
theorem qO6 {α : Type} (xs : List α) (z : α) (L : Nat → Nat → Option Bool) (p : α → Bool) (h1 : ∀ j, j < xs.length → p (xs.getD j z) = true → Le (L (j + 1)) (L j)) (h0 : ∀ j, j < xs.length → p (xs.getD j z) = false → Ev (L j) false) (he : Ev (L xs.length) true) : Ev (L 0) (xs.all p) := by
  rw [← qGd xs z]
  exact qHi L (fun j => p (xs.getD j z)) xs.length h1 h0 he
theorem least {q : Nat → Prop} (h : ∃ j, q j) : ∃ j, q j ∧ ∀ m, m < j → ¬ q m := by
  obtain ⟨j, hj⟩ := h
  induction j using Nat.strongRecOn with
  | _ j ih =>
    by_cases hm : ∃ m, m < j ∧ q m
    · obtain ⟨m, h1, h2⟩ := hm
      exact ih m h1 h2
    exact ⟨j, hj, fun m h1 h2 => hm ⟨m, h1, h2⟩⟩
theorem qNs (L : Nat → Nat → Option Int) (p : Nat → Bool) (n : Nat) (h0 : ∀ j, j < n → p j = false → Le (L (j + 1)) (L j)) (h1 : ∀ j, j < n → p j = true → Ev (L j) (j : Int)) (he : Ev (L n) (-1)) : ∃ t : Int, Ev (L 0) t ∧ decide (t ≥ 0) = (List.range n).any p := by
  by_cases h : ∃ j, j < n ∧ p j = true
  · obtain ⟨j, ⟨hj, hp⟩, hmin⟩ : ∃ j, (j < n ∧ p j = true) ∧ ∀ m, m < j → ¬ (m < n ∧ p m = true) := by
      exact least h
    refine ⟨j, ?_, ?_⟩
    · refine qDo L p n 0 (fun i _ hi hpi => h0 i (by omega) hpi) (fun i _ hi hpi hbef => ?_) (fun hall => ?_)
      · have : i = j := by
          rcases Nat.lt_trichotomy i j with hlt | he | hlt
          · exact absurd ⟨by omega, hpi⟩ (hmin i hlt)
          · exact he
          have := hbef j (Nat.zero_le _) hlt; rw [hp] at this; cases this
        subst this
        exact h1 i hj hp
      have := hall j (Nat.zero_le _) (by omega); rw [hp] at this; cases this
    have : (List.range n).any p = true := List.any_eq_true.2 ⟨j, List.mem_range.2 hj, hp⟩
    rw [this]; simp
  have hno : ∀ j, j < n → p j = false := fun j hj => by
    cases hp : p j with
    | true => exact absurd ⟨j, hj, hp⟩ h
    | false => rfl
  refine ⟨-1, ?_, ?_⟩
  · refine qDo L p n 0 (fun i _ hi hpi => h0 i (by omega) hpi) (fun i _ hi hpi hbef => ?_) (fun _ => by rw [Nat.zero_add]; exact he)
    have := hno i (by omega); rw [hpi] at this; cases this
  have : (List.range n).any p = false := by
    rw [Bool.eq_false_iff]
    intro hc
    obtain ⟨j, hj, hp⟩ := List.any_eq_true.1 hc
    have := hno j (List.mem_range.1 hj); rw [hp] at this; cases this
  rw [this]; rfl
theorem qMz {α : Type} (xs : List α) (z : α) (p : α → Bool) : (List.range xs.length).any (fun i => p (xs.getD i z)) = xs.any p := by
  have h := qGd xs z (fun x => !p x)
  rw [List.any_eq_not_all_not, List.any_eq_not_all_not, h]
theorem qCg {α : Type} (xs : List α) (z : α) (L : Nat → Nat → Option Int) (p : α → Bool) (h0 : ∀ j, j < xs.length → p (xs.getD j z) = false → Le (L (j + 1)) (L j)) (h1 : ∀ j, j < xs.length → p (xs.getD j z) = true → Ev (L j) (j : Int)) (he : Ev (L xs.length) (-1)) : ∃ t : Int, Ev (L 0) t ∧ decide (t ≥ 0) = xs.any p := by
  rw [← qMz xs z]
  exact qNs L (fun j => p (xs.getD j z)) xs.length h0 h1 he
theorem qAi {x : Int} (h0 : -9223372036854775808 ≤ x) (h1 : x ≤ 9223372036854775807) : wrap64 x = x := by
  unfold wrap64; omega
theorem qAj {i : Nat} (h : i < 9223372036854775807) : wrap64 ((i : Int) + 1) = ((i + 1 : Nat) : Int) := by
  unfold wrap64; omega
theorem qA0 (xs : List Int) (i : Nat) : rd xs (i : Int) = xs.getD i 0 := by simp [rd]
theorem rdOf_nat {α : Type} (z : α) (xs : List α) (i : Nat) : rdOf z xs (i : Int) = xs.getD i z := by simp [rdOf]
theorem qG1 {α : Type} (l : List α) (i : Nat) (z : α) (hi : i < l.length) (y : α) (hy : y = l.getD i z) : (l.take i ++ List.replicate (l.length - i) z).set i y = l.take (i + 1) ++ List.replicate (l.length - (i + 1)) z := by
  have h1 : (l.take i).length = i := by rw [List.length_take]; omega
  rw [List.set_append_right _ _ (by omega), h1, Nat.sub_self, show l.length - i = (l.length - (i + 1)) + 1 by omega, List.replicate_succ, List.set_cons_zero, List.take_succ_eq_append_getElem hi, List.append_assoc]
  subst hy
  simp [List.getElem?_eq_getElem hi]
def qBc : List Int → Int → List Int
  | [], _ => []
  | _ :: l, a => a :: qBc l (a + 1)
def qBg : List (List Int) → Int → List (List Int)
  | [], _ => []
  | l :: ls, a => qBc l a :: qBg ls (a + l.length)
def total : List (List Int) → Int
  | [] => 0
  | l :: ls => l.length + total ls
theorem qBo : ∀ ls, 0 ≤ total ls
  | [] => Int.le_refl _
  | l :: ls => by have := qBo ls; simp only [total]; omega
theorem qCd : ∀ l m : List (List Int), total (l ++ m) = total l + total m
  | [], m => by simp [total]
  | x :: l, m => by simp only [List.cons_append, total, qCd l m]; omega
theorem qCn : ∀ (l : List Int) (a : Int), (qBc l a).length = l.length
  | [], _ => rfl
  | _ :: l, a => by simp [qBc, qCn l]
theorem qB4 : ∀ (l : List (List Int)) (a : Int), (qBg l a).length = l.length
  | [], _ => rfl
  | _ :: l, a => by simp [qBg, qB4 l]
theorem qFw : ∀ (l m : List Int) (a : Int), qBc (l ++ m) a = qBc l a ++ qBc m (a + l.length)
  | [], m, a => by simp [qBc]
  | _ :: l, m, a => by simp only [List.cons_append, qBc, qFw l m, List.length_cons]; congr 3; push_cast; omega
theorem qDk : ∀ (l m : List (List Int)) (a : Int), qBg (l ++ m) a = qBg l a ++ qBg m (a + total l)
  | [], m, a => by simp [qBg, total]
  | x :: l, m, a => by simp only [List.cons_append, qBg, qDk l m, total]; congr 3; omega
end Go.Proofs.Ytpgjfppbbbnclaa.B
/- The marks that the exact laws write into a row of rows: proved by hand (the printer takes flat rows alone). -/
set_option linter.unusedVariables false
set_option linter.unusedSimpArgs false
namespace Go.Proofs.Ytpgjfppbbbnclaa.B
open Go.RowKit Go.Proofs.YtpgjfppbbbnclaaW.PrintWords Go.Proofs.YtpgjfppbbbnclaaW.PrintLast Go.Proofs.YtpgjfppbbbnclaaW.PrintMore
theorem qC5 : ∀ (d : Nat) (xs : List Int) (pre post : List Int) (a : Int), post.length = d → xs = pre ++ post → 0 ≤ a → a + d ≤ 9223372036854775807 → (xs.length : Int) ≤ 9223372036854775807 →
    Ev (fun k => z11.l0 k xs a (pre.length : Int)) (a + d, pre ++ qBc post a)
  | 0, xs, pre, post, a, hd, hx, h0, h1, hl => by
    have hp : post = [] := List.eq_nil_of_length_eq_zero hd
    subst hp
    refine Ev.step (f := fun _ => some (a, xs)) (fun k => ?_) ?_
    · simp only [z11.l0]
      rw [if_neg (by subst hx; simp)]
    subst hx
    simpa [qBc] using Ev.now (a, pre ++ ([] : List Int))
  | d + 1, xs, pre, post, a, hd, hx, h0, h1, hl => by
    obtain ⟨y, post, rfl⟩ : ∃ y p, post = y :: p := by cases post with | nil => simp at hd | cons y p => exact ⟨y, p, rfl⟩
    have ih := qC5 d (xs.set pre.length a) (pre ++ [a]) post (a + 1) (by simpa using hd) (by subst hx; simp) (by omega) (by omega) (by simpa using hl)
    refine Ev.step (f := fun k => z11.l0 k (xs.set pre.length a) (a + 1) ((pre ++ [a]).length : Int)) (fun k => ?_) ?_
    · simp only [z11.l0]
      have hlen : (xs.length : Int) = pre.length + (post.length + 1) := by subst hx; simp
      rw [if_pos (by omega), if_pos (by omega)]
      congr 1
      · unfold wrap64; omega
      simp only [List.length_append, List.length_singleton]; unfold wrap64; omega
    have e : (a + ((d : Nat) + 1 : Nat) : Int) = a + 1 + d := by omega
    rw [e]
    simpa [qBc] using ih
theorem qGo (l : List Int) (a : Int) (h0 : 0 ≤ a) (h1 : a + l.length ≤ 9223372036854775807) : ∃ k, z11.f k l a = some (a + l.length, qBc l a) := by
  have := (qC5 l.length l [] l a rfl rfl h0 h1 (by omega)).rounds
  simpa [z11.f] using this
def laws_markInt64SS.f (l0 : List (List Int)) (a1 : Int) : Option (Int × List (List Int)) :=
  if 0 ≤ a1 ∧ a1 + total l0 ≤ 9223372036854775807 then some (a1 + total l0, qBg l0 a1) else none
theorem laws_markInt64SS.inv {l0 : List (List Int)} {a1 r1 : Int} {r2 : List (List Int)} (h : laws_markInt64SS.f l0 a1 = some (r1, r2)) : 0 ≤ a1 ∧ a1 + total l0 ≤ 9223372036854775807 ∧ a1 + total l0 = r1 ∧ qBg l0 a1 = r2 := by
  unfold laws_markInt64SS.f at h
  split at h
  · rename_i hc
    simp only [Option.some.injEq, Prod.mk.injEq] at h
    exact ⟨hc.1, hc.2, h.1, h.2⟩
  cases h
def qGl (l0 : List (List Int)) (a1 : Int) (k : Nat) : List (List Int) := qBg (l0.take k) a1 ++ l0.drop k
theorem qI4 (l0 : List (List Int)) (a1 : Int) (k : Nat) : (qGl l0 a1 k).length = l0.length := by simp [qGl, qB4]; omega
theorem qLx (l0 : List (List Int)) (a1 : Int) (k : Nat) (hk : k < l0.length) : (qGl l0 a1 k).getD k [] = l0.getD k [] := by
  have hl : (qBg (l0.take k) a1).length = k := by rw [qB4, List.length_take]; omega
  simp only [qGl, List.getD_eq_getElem?_getD]
  rw [List.getElem?_append_right (by omega), hl, Nat.sub_self, List.getElem?_drop, Nat.add_zero]
theorem qLw (l0 : List (List Int)) (a1 : Int) (k : Nat) (hk : k < l0.length) : (qGl l0 a1 k).set k (qBc (l0.getD k []) (a1 + total (l0.take k))) = qGl l0 a1 (k + 1) := by
  have hl : (qBg (l0.take k) a1).length = k := by rw [qB4, List.length_take]; omega
  have hd : l0.drop k = l0.getD k [] :: l0.drop (k + 1) := by
    rw [List.drop_eq_getElem_cons hk, List.getD_eq_getElem?_getD, List.getElem?_eq_getElem hk]; rfl
  have ht : l0.take (k + 1) = l0.take k ++ [l0.getD k []] := by
    rw [List.take_succ_eq_append_getElem hk, List.getD_eq_getElem?_getD, List.getElem?_eq_getElem hk]; rfl
  simp only [qGl]
  rw [List.set_append_right _ _ (by omega), hl, Nat.sub_self, hd, List.set_cons_zero, ht, qDk]
  simp [qBg]
theorem qFf (l0 : List (List Int)) (k : Nat) (hk : k < l0.length) : total (l0.take (k + 1)) = total (l0.take k) + (l0.getD k []).length := by
  have ht : l0.take (k + 1) = l0.take k ++ [l0.getD k []] := by
    rw [List.take_succ_eq_append_getElem hk, List.getD_eq_getElem?_getD, List.getElem?_eq_getElem hk]; rfl
  rw [ht, qCd]; simp [total]
theorem qHt (l0 : List (List Int)) (k : Nat) : total (l0.take k) ≤ total l0 := by
  have h := qCd (l0.take k) (l0.drop k)
  rw [List.take_append_drop] at h
  have := qBo (l0.drop k)
  omega
theorem laws_markInt64SS.calls (P0_ : Nat → Prop) (u : Value) (l0 : List (List Int)) (a1 : Int) (r1 : Int) (r2 : List (List Int)) (w0 w : World) (hB : Below w0.heap.size w0 w) (ho0 : Kd.S (Kd.slice 2 (Kd.int .i64)) 26 w w0.heap.size P0_ u l0) (h : laws_markInt64SS.f l0 a1 = some (r1, r2)) :
    Calls Try.prog 23 #[u, .int .i64 a1] w fun e w' => e = .returned (.int .i64 r1) ∧ Kd.S (Kd.slice 2 (Kd.int .i64)) 26 w' w0.heap.size P0_ u r2 ∧ Below w0.heap.size w0 w' ∧ Kept w w' P0_ := by
  obtain ⟨ha, hb, rfl, rfl⟩ := laws_markInt64SS.inv h
  obtain ⟨A, c, rfl⟩ := Kd.S_slice ho0
  have hlen : l0.length ≤ 9223372036854775807 := (Kd.S_reads' ho0).2.2.2.1
  have HS := Zz.mk ho0
  have HB := Zz.mk hB
  clear ho0 hB h
  go_enter Try.func23, Try.ntmps23
  go_wp2
  go_loopg [1, 5] l0.length (fun gg v1 v5 wr => ∃ kk : Nat, kk ≤ l0.length ∧ l0.length - kk ≤ gg ∧ v5 = .int .i64 kk ∧ v1 = .int .i64 (a1 + total (l0.take kk)) ∧ Zz (Kd.S (Kd.slice 2 (Kd.int .i64)) 26 wr w0.heap.size P0_ (.slice A l0.length c) (qGl l0 a1 kk)) ∧ Zz (Below w0.heap.size w0 wr) ∧ Zz (Kept w wr P0_))
  case atStart => exact ⟨0, Nat.zero_le _, by omega, rfl, by simp [total], by simpa [qGl, qBg] using HS, HB, ⟨Kept.refl _ _⟩⟩
  case round =>
    obtain ⟨kk, hkk, hg, rfl, rfl, HS1, HB1, HK1⟩ := hrel
    clear HS HB
    by_cases hlt : kk < l0.length
    · have hltz : (kk : Int) < (l0.length : Int) := by omega
      obtain ⟨g, cap, he, _⟩ := Kd.S_form HS1.out (by rw [qI4]; omega)
      injection he with he1 he2 he3
      subst he1; subst he3
      clear he2
      obtain ⟨oki, cc, hcl, hM, hcc, hoki, hH⟩ := Kd.S_lend HS1.out ([] : List Int) (kk : Int) (by omega) (by omega)
      obtain ⟨v, rfl, hR⟩ := hM
      rw [Int.toNat_natCast, qLx l0 a1 kk hlt] at hR
      obtain ⟨A1, c1, rfl⟩ := Kd.R_slice hR
      have hcell := hcc 0 _ rfl
      simp only [Int.toNat_natCast, Nat.add_zero, Nat.mul_one] at hcell
      have hcell2 : wr.cell? ⟨g, kk, none⟩ = some (.slice A1 (l0.getD kk []).length c1) := by simpa [show (Kd.slice 2 (Kd.int .i64)).sz = 1 from rfl] using hcell
      clear hcell hcc
      have hts := qFf l0 kk hlt
      have htl := qHt l0 (kk + 1)
      have htn := qBo (l0.take kk)
      obtain ⟨K, hk⟩ := qGo (l0.getD kk []) (a1 + total (l0.take kk)) (by omega) (by omega)
      have hcall := z11.calls K oki _ _ _ _ _ w0 wr HB1.out hR hk
      have HR1 := Zz.mk hR.1
      have HH := Zz.mk hH
      have HO := Zz.mk hoki
      have HT := Zz.mk hts
      clear hH hoki hts htl htn hR hk
      generalize hx : (l0.getD kk []).length = m at hcall hcell2
      have HX := Zz.mk hx
      clear hx
      go_wp2_with (go_at_call 11; refine hcall.mono ?_; rintro e w' ⟨rfl, hR2, hB2, hK2⟩)
      go_roundg (l0.length - (kk + 1))
      case measure => omega
      case rel =>
        have hx := HX.out
        subst hx
        refine ⟨kk + 1, by omega, by omega, by go_num, ?_, ?_, ⟨hB2⟩, ⟨?_⟩⟩
        · rw [HT.out, ← Int.add_assoc]
        · refine ⟨?_⟩
          have h1 := Kd.H_step HH.out (w1 := w') (fun k hk hnk hlt => hK2.2 k hlt hnk)
          have h2 := Kd.H_back h1 (x' := qBc (l0.getD kk []) (a1 + total (l0.take kk))) (okp := oki) ⟨_, rfl, Kd.R_reok rfl hR2 (fun k e => ?_)⟩ (fun _ hk => hk)
          · rw [Int.toNat_natCast, qLw l0 a1 kk hlt] at h2
            exact h2
          exact HR1.out k e
        exact Kept.then_ HK1.out hK2 (fun k hk => .inl (HO.out k hk).1)
    have hltz : ¬ (kk : Int) < (l0.length : Int) := by omega
    have : kk = l0.length := by omega
    subst this
    go_wp2
    go_ret
    refine ⟨rfl, ?_, HB1.out, HK1.out⟩
    simpa [qGl] using HS1.out
end Go.Proofs.Ytpgjfppbbbnclaa.B
/- markComplex: by hand, over the marks of a row of rows. -/
set_option linter.unusedVariables false
namespace Go.Proofs.Ytpgjfppbbbnclaa.B
open Go.RowKit Go.Proofs.YtpgjfppbbbnclaaW.PrintWords Go.Proofs.YtpgjfppbbbnclaaW.PrintLast Go.Proofs.YtpgjfppbbbnclaaW.PrintMore
def laws_markComplex.f (l0_0 : List (List Int)) (a1 : Int) : Option (Int × List (List Int)) := laws_markInt64SS.f l0_0 a1
theorem laws_markComplex.calls (P0_ : Nat → Prop) (u : Value) (l0_0 : List (List Int)) (a1 : Int) (r1 : Int) (r2 : List (List Int)) (w0 w : World) (hB : Below w0.heap.size w0 w) (ho0 : Kd.S (Kd.slice 2 (Kd.int .i64)) 26 w w0.heap.size P0_ u l0_0) (h : laws_markComplex.f l0_0 a1 = some (r1, r2)) :
    Calls Try.prog 10 #[.agg #[u], .int .i64 a1] w fun e w' => e = .returned (.int .i64 r1) ∧ Kd.S (Kd.slice 2 (Kd.int .i64)) 26 w' w0.heap.size P0_ u r2 ∧ Below w0.heap.size w0 w' ∧ Kept w w' P0_ := by
  obtain ⟨A, c, rfl⟩ := Kd.S_slice ho0
  have h1 := laws_markInt64SS.calls P0_ _ l0_0 a1 r1 r2 w0 (w.alloc (.cells #[.slice A l0_0.length c] 29)) (hB.alloc hB.size _) (Kd.S_alloc ho0 _) h
  have hu := Try.underlying29
  clear ho0 hB h
  go_enter Try.func10, Try.ntmps10
  go_wp2_with (go_at_call 23; refine h1.mono ?_; rintro e w' ⟨rfl, hS, hB2, hK⟩)
  go_ret
  exact ⟨rfl, hS, hB2, Kept.then_ (Kept.alloc (Kept.refl _ _) _) hK (fun k hk => .inl hk)⟩
end Go.Proofs.Ytpgjfppbbbnclaa.B
