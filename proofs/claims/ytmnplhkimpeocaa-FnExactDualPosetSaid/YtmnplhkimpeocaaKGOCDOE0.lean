/- Printed proofs of functions of the program and of the reference, by a program of this work over the kit's printer. -/
import Derived.Test.YtmnplhkimpeocaaKEGFBIK0
import Derived.Test.YtmnplhkimpeocaaKW0
namespace Go.Proofs.Ytmnplhkimpeocaa.B
open Go.RowKit Go.Proofs.YtmnplhkimpeocaaW.PrintWords Go.Proofs.YtmnplhkimpeocaaW.PrintLast Go.Proofs.YtmnplhkimpeocaaW.PrintMore
attribute [local go_sem] max2_int min2_int max_two min_two max_three min_three max_four min_four
set_option linter.unusedVariables false
set_option linter.unusedSimpArgs false
mutual
def z30.l0 : Nat → Int → List (List Int) → List (List Bool) → Int → Int → Option ((List (List Bool)))
 | 0, _, _, _, _, _ => none
 | k + 1, x0, x1, x5, x15, x16 => if x16 < x15 then (if 0 ≤ x0 then (if (x0 : Int).toNat ≤ 281474976710656 then (if 0 ≤ x16 then (if x16 < (x5.length : Int) then ((some (x5.set (x16 : Int).toNat (List.replicate (x0 : Int).toNat false) : List (List Bool))).bind fun y107 => (if x16 < ((rd_ListBool y107 x16).length : Int) then (z30.l0 k x0 x1 (y107.set (x16 : Int).toNat ((rd_ListBool y107 x16).set (x16 : Int).toNat true)) x15 (wrap64 (x16 + 1))) else (none))) else (none)) else (none)) else (none)) else (none)) else (z30.l1 k x5 x1 (x1.length : Int) 0)
def z30.l1 : Nat → List (List Bool) → List (List Int) → Int → Int → Option ((List (List Bool)))
 | 0, _, _, _, _ => none
 | k + 1, x5, x31, x32, x33 => if x33 < x32 then (if 0 ≤ x33 then (if x33 < (x31.length : Int) then (if 0 < ((rd_ListInt x31 x33).length : Int) then (if 0 ≤ (rd (rd_ListInt x31 x33) 0) then (if (rd (rd_ListInt x31 x33) 0) < (x5.length : Int) then (if 1 < ((rd_ListInt x31 x33).length : Int) then (if 0 ≤ (rd (rd_ListInt x31 x33) 1) then (if (rd (rd_ListInt x31 x33) 1) < ((rd_ListBool x5 (rd (rd_ListInt x31 x33) 0)).length : Int) then (z30.l1 k (x5.set ((rd (rd_ListInt x31 x33) 0) : Int).toNat ((rd_ListBool x5 (rd (rd_ListInt x31 x33) 0)).set ((rd (rd_ListInt x31 x33) 1) : Int).toNat true)) x31 x32 (wrap64 (x33 + 1))) else (none)) else (none)) else (none)) else (none)) else (none)) else (none)) else (none)) else (none)) else (z30.l2 k x5 (x5.length : Int) 0)
def z30.l2 : Nat → List (List Bool) → Int → Int → Option ((List (List Bool)))
 | 0, _, _, _ => none
 | k + 1, x5, x49, x50 => if x50 < x49 then (z30.l3 k x5 x50 x49 x50 (x5.length : Int) 0) else (some x5)
def z30.l3 : Nat → List (List Bool) → Int → Int → Int → Int → Int → Option ((List (List Bool)))
 | 0, _, _, _, _, _, _ => none
 | k + 1, x5, x9, x49, x50, x54, x55 => if x55 < x54 then (z30.l4 k x5 x9 x55 x49 x50 x54 x55 (x5.length : Int) 0) else (z30.l2 k x5 x49 (wrap64 (x50 + 1)))
def z30.l4 : Nat → List (List Bool) → Int → Int → Int → Int → Int → Int → Int → Int → Option ((List (List Bool)))
 | 0, _, _, _, _, _, _, _, _, _ => none
 | k + 1, x5, x9, x10, x49, x50, x54, x55, x59, x60 => if x60 < x59 then (if 0 ≤ x10 then (if x10 < (x5.length : Int) then (if 0 ≤ x60 then (if x60 < ((rd_ListBool x5 x10).length : Int) then (if rdOf false (rd_ListBool x5 x10) x60 = true then (z30.l4 k (x5.set (x10 : Int).toNat ((rd_ListBool x5 x10).set (x60 : Int).toNat true)) x9 x10 x49 x50 x54 x55 x59 (wrap64 (x60 + 1))) else (if 0 ≤ x9 then (if x9 < ((rd_ListBool x5 x10).length : Int) then (if rdOf false (rd_ListBool x5 x10) x9 = true then (if x9 < (x5.length : Int) then (if x60 < ((rd_ListBool x5 x9).length : Int) then (z30.l4 k (x5.set (x10 : Int).toNat ((rd_ListBool x5 x10).set (x60 : Int).toNat (rdOf false (rd_ListBool x5 x9) x60))) x9 x10 x49 x50 x54 x55 x59 (wrap64 (x60 + 1))) else (none)) else (none)) else (z30.l4 k (x5.set (x10 : Int).toNat ((rd_ListBool x5 x10).set (x60 : Int).toNat false)) x9 x10 x49 x50 x54 x55 x59 (wrap64 (x60 + 1)))) else (none)) else (none))) else (none)) else (none)) else (none)) else (none)) else (z30.l3 k x5 x9 x49 x50 x54 (wrap64 (x55 + 1)))
end
def z30.f (k : Nat) (a0 : Int) (l1 : List (List Int)) : Option ((List (List Bool))) := if 0 ≤ a0 then (if (a0 : Int).toNat ≤ 11728124029610 then ((some (List.replicate (a0 : Int).toNat [] : List (List Bool))).bind fun y101 => (z30.l0 k a0 l1 y101 (y101.length : Int) 0)) else (none)) else (none)
def z30.T11 : Bool × List (List Nat × List Nat) := (true, [([], []), ([], []), ([1], [1]), ([2], [2]), ([0, 3], [0, 3]), ([4], [4]), ([], []), ([6], [6]), ([7], [7]), ([5, 8, 0, 1, 2, 3, 4, 5, 6, 7, 8], [5, 8]), ([9, 0, 1, 2, 3, 4, 5, 6, 7, 8], [9])])
def z30.B11 : List Nat := [0, 0, 2, 6, 15, 31, 0, 64, 192, 511, 1023]
theorem z30.tab11 : rtab .any (opsOf Try.f30 11) = z30.T11 := by kernel_rfl
theorem z30.bits11 : waitsOk z30.T11.2 z30.B11 = true := by kernel_rfl
def z30.T22 : Bool × List (List Nat × List Nat) := (true, [([], []), ([], []), ([0, 1], [0, 1]), ([2], [2]), ([], []), ([], []), ([], []), ([5, 6], [5, 6]), ([7], [7]), ([], []), ([8, 9], [8, 9]), ([10], [10]), ([11], [11]), ([12], [12]), ([12], [12]), ([13, 14, 12], [12, 13, 14]), ([15, 12], [12, 15]), ([12], [12]), ([16, 17, 12], [12, 16, 17]), ([18, 12], [12, 18]), ([19, 12, 12], [12, 19]), ([20], [20]), ([20], [20]), ([21, 22, 20], [20, 21, 22]), ([23, 20], [20, 23]), ([20], [20]), ([24, 25, 20], [20, 24, 25]), ([26, 20], [20, 26]), ([20, 27, 12], [12, 20, 27]), ([12, 28], [12, 28]), ([3, 4, 0, 1, 2, 3, 4, 5, 6, 7, 8, 9, 10, 11, 12, 13, 14, 15, 16, 17, 18, 19, 20, 21, 22, 23, 24, 25, 26, 27, 28, 29], [3, 4]), ([30, 29, 20, 0, 1, 2, 3, 4, 5, 6, 7, 8, 9, 10, 11, 12, 13, 14, 15, 16, 17, 18, 19, 20, 21, 22, 23, 24, 25, 26, 27, 28, 29], [29, 30])])
def z30.B22 : List Nat := [0, 0, 3, 7, 0, 0, 0, 96, 224, 0, 992, 2016, 4064, 8160, 8160, 32736, 65504, 8160, 262112, 524256, 1048544, 2097120, 2097120, 8388576, 16777184, 2097120, 67108832, 134217696, 268435424, 536870880, 1073741823, 2147483647]
theorem z30.tab22 : rtab .any (opsOf Try.f30 22) = z30.T22 := by kernel_rfl
theorem z30.bits22 : waitsOk z30.T22.2 z30.B22 = true := by kernel_rfl
set_option maxHeartbeats 8000000 in
set_option maxRecDepth 100000 in
theorem z30.calls (k : Nat) (a0 : Int) (A1 : Option Addr) (c1 : Nat) (l1 : List (List Int)) (r : List (List Bool)) (w : World) (hr1 : Kd.C (Kd.slice 2 (Kd.int .i64)) w A1 l1.length l1) (hc1 : l1.length ≤ c1) (h : z30.f k a0 l1 = some r) :
  Calls Try.prog 30 #[.int .i64 a0, .slice A1 l1.length c1] w fun e w' => ∃ v0_ : Value, e = .returned (v0_) ∧ Kd.S (Kd.slice 4 Kd.bool) 61 w' w.heap.size (fun _ => True) v0_ r ∧ Below w.heap.size w w' := by
 have HR1 := Aside0.mk hr1
 have HC1 := Aside0.mk hc1
 clear hr1 hc1
 have HB := Aside0.mk (Below.refl w.heap.size w)
 have H : (if 0 ≤ a0 then (if (a0 : Int).toNat ≤ 11728124029610 then ((some (List.replicate (a0 : Int).toNat [] : List (List Bool))).bind fun y101 => (z30.l0 k a0 l1 y101 (y101.length : Int) 0)) else (none)) else (none)) = some r := h
 clear h
 have c3 := O1_ H
 replace H := O2_ H
 have c3b0 := eq_true c3
 have c3b1 : decide (0 ≤ a0) = true := decide_eq_true c3
 clear c3
 have c4 := O1_ H
 replace H := O2_ H
 have c4b0 := eq_true c4
 have c4b1 : decide ((a0 : Int).toNat ≤ 11728124029610) = true := decide_eq_true c4
 clear c4
 obtain ⟨y101, hy101⟩ : ∃ y_ : List (List Bool), y_ = (List.replicate (a0 : Int).toNat []) := ⟨_, rfl⟩
 replace H : (z30.l0 k a0 l1 y101 (y101.length : Int) 0) = some r := Y_ hy101 H
 have Ny101 := Aside0.mk hy101
 clear hy101
 have H' := Aside0.mk H
 clear H
 go_enter Try.func30, Try.ntmps30
 go_wp2_with (first | ((with_reducible refine gate_dst (N := 13) rfl ?_); refine Kd.S_make (Kd.slice 4 Kd.bool) _ 61 rfl (N := 13) rfl 52 _ _ rfl a0 rfl rfl Try.underlying52 (.slice none 0 0) 24 info61 rfl (by decide) (by omega) [] (ok := fun _ => True) (okp := fun _ => True) ⟨_, rfl, Kd.R_nil _ _ _ _ _⟩ (fun _ hk => hk) trivial (D_) (Nat.le_trans (Nat.mul_le_mul_right _ (D_ : a0.toNat ≤ 11728124029610)) (by omega)) (Below.refl _ _) (Nat.le_refl _) ?_; intro v102 w5 ho6 hb hg_ hnew_; clear hg_ hnew_; (first | rw [← Ny101.out] at ho6 | (simp only [Int.reduceToNat] at ho6; rw [← Ny101.out] at ho6)); have HO103 := Aside0.mk (Kd.S_lower ho6 (below_size (B_ HB.out))); replace HB := Aside0.mk (below_step (B_ HB.out) hb); clear hb ho6; obtain ⟨Ao7, co7, eo7⟩ := Kd.S_slice HO103.out; subst eo7))
 go_loopg [16] k (fun kq v16 w' => ∃ (x5_1 : List (List Bool)) (x16_1 : Int), v16 = .int .i64 x16_1 ∧ Aside0 (z30.l0 kq a0 l1 x5_1 (y101.length : Int) x16_1 = some r) ∧ Aside0 (kq ≤ k) ∧ Aside0 (Kd.S (Kd.slice 4 Kd.bool) 61 w' w.heap.size (fun _ => True) (.slice Ao7 y101.length co7) x5_1) ∧ Aside0 (Below w.heap.size w w'))
 case atStart => exact ⟨(y101), (0), E_, H', ⟨Nat.le_refl _⟩, ⟨KS_ HO103.out⟩, ⟨B_ HB.out⟩⟩
 case round =>
  clear H'
  (try clear c1);(try clear p2);(try clear c3);(try clear c3b0);(try clear c3b1);(try clear c4);(try clear c4b0);(try clear c4b1)
  obtain ⟨x5_1, x16_1, rfl, HA, HK1, HO_5, HB⟩ := hrel
  have hl5_1 := (Kd.S_reads' HO_5.out).1
  rw [hl5_1] at HO_5
  (try simp only [hl5_1])
  cases gk with
  | zero => exact absurd HA.out (by simp [z30.l0])
  | succ k1 =>
   have H := HA.out
   clear HA
   simp only [z30.l0] at H
   by_cases c8 : x16_1 < (y101.length : Int)
   ·rw [if_pos c8] at H
    have c8b0 : decide (x16_1 < (y101.length : Int)) = true := decide_eq_true c8
    (try rw [hl5_1] at c8b0)
    clear c8
    have c9 := O1_ H
    replace H := O2_ H
    have c9b0 := eq_true c9
    have c9b1 : decide (0 ≤ a0) = true := decide_eq_true c9
    clear c9
    have c10 := O1_ H
    replace H := O2_ H
    have c10b0 := eq_true c10
    have c10b1 : decide ((a0 : Int).toNat ≤ 281474976710656) = true := decide_eq_true c10
    clear c10
    obtain ⟨y104, hy104⟩ : ∃ y_ : List Bool, y_ = (List.replicate (a0 : Int).toNat false) := ⟨_, rfl⟩
    replace H : (if 0 ≤ x16_1 then (if x16_1 < (x5_1.length : Int) then ((some (x5_1.set (x16_1 : Int).toNat y104 : List (List Bool))).bind fun y107 => (if x16_1 < ((rd_ListBool y107 x16_1).length : Int) then (z30.l0 k1 a0 l1 (y107.set (x16_1 : Int).toNat ((rd_ListBool y107 x16_1).set (x16_1 : Int).toNat true)) (y101.length : Int) (wrap64 (x16_1 + 1))) else (none))) else (none)) else (none)) = some r := Y_ hy104 H
    have Ny104 := Aside0.mk hy104
    clear hy104
    have c11 := O1_ H
    replace H := O2_ H
    have c11b0 := decide_eq_true c11
    (try rw [hl5_1] at c11b0)
    clear c11
    have c12 := O1_ H
    replace H := O2_ H
    have c12b0 := decide_eq_true c12
    (try rw [hl5_1] at c12b0)
    clear c12
    obtain ⟨y107, hy107⟩ : ∃ y_ : List (List Bool), y_ = (x5_1.set (x16_1 : Int).toNat y104) := ⟨_, rfl⟩
    replace H : (if x16_1 < ((rd_ListBool y107 x16_1).length : Int) then (z30.l0 k1 a0 l1 (y107.set (x16_1 : Int).toNat ((rd_ListBool y107 x16_1).set (x16_1 : Int).toNat true)) (y101.length : Int) (wrap64 (x16_1 + 1))) else (none)) = some r := Y_ hy107 H
    have Ny107 := Aside0.mk hy107
    clear hy107
    have c14 := O1_ H
    replace H := O2_ H
    have c14b0 := decide_eq_true c14
    (try rw [hl5_1] at c14b0)
    clear c14
    obtain ⟨y109, hy109⟩ : ∃ y_ : List Bool, y_ = ((rd_ListBool y107 x16_1).set (x16_1 : Int).toNat true) := ⟨_, rfl⟩
    replace H : (z30.l0 k1 a0 l1 (y107.set (x16_1 : Int).toNat y109) (y101.length : Int) (wrap64 (x16_1 + 1))) = some r := Y_ hy109 H
    have Ny109 := Aside0.mk hy109
    clear hy109
    obtain ⟨y111, hy111⟩ : ∃ y_ : List (List Bool), y_ = (y107.set (x16_1 : Int).toNat y109) := ⟨_, rfl⟩
    replace H : (z30.l0 k1 a0 l1 y111 (y101.length : Int) (wrap64 (x16_1 + 1))) = some r := Y_ hy111 H
    have Ny111 := Aside0.mk hy111
    clear hy111
    have H' := Aside0.mk H
    clear H
    go_wp2_with (first | ((with_reducible refine gate_dst (N := 22) rfl ?_); refine Kd.R_make Kd.bool _ 4 rfl (N := 22) rfl 61 _ _ rfl a0 rfl rfl Try.underlying61 (.bool false) 1 info4 rfl (by decide) (by omega) false (ok := fun _ => True) (okp := fun _ => True) rfl (fun _ hk => hk) trivial (D_) (Nat.le_trans (Nat.mul_le_mul_right _ (D_ : a0.toNat ≤ 281474976710656)) (by omega)) (Below.refl _ _) (Nat.le_refl _) ?_; intro v105 w16 ho17 hb hg_ hnew_; clear hg_ hnew_; (first | rw [← Ny104.out] at ho17 | (simp only [Int.reduceToNat] at ho17; rw [← Ny104.out] at ho17)); replace HO_5 := Aside0.mk (Kd.S_elder' (KS_ HO_5.out) (Kd.R_base ho17) hb); have HO106 := Aside0.mk (Kd.R_lower ho17 (below_size (B_ HB.out))); replace HB := Aside0.mk (below_step (B_ HB.out) hb); clear hb ho17; have p13 : 0 ≤ (x16_1 : Int) := D_; have q13 : (x16_1 : Int) < ((x5_1.length : Int) : Int) := D_; obtain ⟨go13, co13, eo13, gb13, gl13, cl13, HG13⟩ := Kd.S_form HO_5.out (by omega); (first | cases eo13 | (injection eo13 with ea_ en_ ec_; (first | subst ea_ | (injection ea_ with ea_; subst ea_)); subst ec_; clear en_)); have GB13 := Aside0.mk gb13; have GG13 := Aside0.mk HG13; clear gb13 gl13 HG13; obtain ⟨_, ce13, hcl13, hM13, hcc13, hfr13, _, _⟩ := Kd.S_elem HO_5.out [] (x16_1 : Int) p13 q13; obtain ⟨ve13_0, rfl, ge13_0⟩ := hM13; have hx13_0 := hcc13 0 _ rfl; have hf13_0 := hfr13 0; (try simp only [show ((Kd.slice 4 Kd.bool)).sz = 1 from rfl, Nat.mul_one, Nat.add_zero] at hx13_0); (try simp only [show ((Kd.slice 4 Kd.bool)).sz = 1 from rfl, Nat.mul_one, Nat.add_zero] at hf13_0); clear hcl13 hcc13 hfr13; (try clear hM13); replace p13 := eq_true p13; replace q13 := eq_true q13; obtain ⟨Ao20, co20, eo20⟩ := Kd.R_slice HO106.out; subst eo20; have n_ := Aside0.mk (Kd.S_mono (ok' := (fun k_ => some k_ ≠ (.slice Ao20 y104.length co20 : Value).ownBlock)) HO_5.out (fun k_ hk => hk.2)); clear HO_5; have HO_5 := n_; clear n_; have HX18 := Aside0.mk (show Kd.S (Kd.slice 4 Kd.bool) 61 w16 w.heap.size (fun k_ => ((fun _ => True)) k_ ∧ ¬ ((fun k_ => some k_ = (.slice Ao20 y104.length co20 : Value).ownBlock)) k_) (.slice (some ⟨go13, 0, none⟩) x5_1.length co7) x5_1 from (by (with_reducible repeat (first | apply Kd.S_alloc | apply Kd.S_drewN | apply Kd.S_drew)); exact Kd.S_mono HO_5.out (fun k_ hk => ⟨trivial, fun e_ => hk e_⟩))); obtain ⟨oki18, ce18, hcl18, hM18, hcc18, hfr18, hoki18, hH18⟩ := Kd.S_elem HX18.out [] (x16_1 : Int) (D_) (by have h_ : (x16_1 : Int) < ((x5_1.length : Int) : Int) := D_; first | exact h_ | (have e_ := (Kd.S_reads' HO_5.out).1; omega) | simpa using h_); obtain ⟨ve18_0, rfl, ge18_0⟩ := hM18; have HP18 := Kd.S_seg hH18 (D_) (by have h_ : (x16_1 : Int) < ((x5_1.length : Int) : Int) := D_; first | exact h_ | (have e_ := (Kd.S_reads' HO_5.out).1; omega) | simpa using h_) (seg := [.slice Ao20 y104.length co20]) (j := 0) (show 1 ≤ 1 from by decide) (x' := y104) (Kd.M_row (Kd.R_mono (Kd.R_tight rfl (Kd.R_mono (ok' := fun k_ => ((fun _ => True)) k_ ∧ k_ ≠ go13) (Kd.R_apart' (HO106.out) (Kd.S_typed HO_5.out) (by decide)) (fun k_ hk => ⟨trivial, fun e_ => (hk.2) (by rw [e_]; rfl)⟩))) (fun _ h_ => Or.inr (h_)))) (fun _ hk => hk) (fun k_ hk_ => ((Kd.R_mono (ok' := fun k_ => ((fun _ => True)) k_ ∧ k_ ≠ go13) (Kd.R_apart' (HO106.out) (Kd.S_typed HO_5.out) (by decide)) (fun k_ hk => ⟨trivial, fun e_ => (hk.2) (by rw [e_]; rfl)⟩))).1 k_ hk_.symm); have hx18_0 := hcc18 0 _ rfl; (try simp only [show ((Kd.slice 4 Kd.bool)).sz = 1 from rfl, Nat.mul_one, Nat.add_zero] at hx18_0); have hf18_0 := hfr18 0; (try simp only [show ((Kd.slice 4 Kd.bool)).sz = 1 from rfl, Nat.mul_one, Nat.add_zero] at hf18_0); clear hcl18 hcc18 hfr18 hoki18 hH18; (try clear hM18); (try simp only [show ((Kd.slice 4 Kd.bool)).sz = 1 from rfl, Nat.mul_one, Nat.add_zero] at HP18)) | ((with_reducible refine gate_store (t := 61) (p := 23) rfl ?_); refine store_event (t := 61) (p := 23) (v := ?vo_w19) (w1 := (w16.setCell ⟨go13, (x16_1 : Int).toNat, none⟩ (.slice Ao20 y104.length co20))) ?hg ?ho ?hn ?hr ?_; (case ho => rfl); (case hg => rfl); (case hn => rfl); (case hr => first | (go_simp; done) | (go_simp; rfl)); intro w19 hw; have hg : w16.grownBy w19 (some go13) := (by rw [hw]; exact HP18.2); have hp_ : Kd.S (Kd.slice 4 Kd.bool) 61 w19 w.heap.size (fun _ => True) (.slice (some ⟨go13, 0, none⟩) x5_1.length co7) y107 := (by rw [hw, Ny107.out]; exact HP18.1); clear HP18; replace HO_5 := Aside0.mk (hp_); replace HB := Aside0.mk ((by rw [hw]; exact below_set (HB.out) GB13.out : Below w.heap.size w w19)); clear HO106; clear hg hw hp_; have p108 : 0 ≤ (x16_1 : Int) := D_; have q108 : x16_1 < (y107.length : Int) := (by have h_ : (x16_1 : Int) < ((x5_1.length : Int) : Int) := D_; first | (have e_ := (Kd.S_reads' HO_5.out).1; omega) | simpa only [Ny107.out, List.length_set] using h_); have ql108 : ((x16_1 : Int) < ((x5_1.length : Int) : Int)) = True := eq_true (D_); obtain ⟨ad108, A108_0, c108_0, e108, hx108_0, hl108_0, hi108_0⟩ := at_ListBool (Kd.S_reads' HO_5.out).2.2 x16_1 p108 q108; obtain rfl : (⟨go13, 0, none⟩ : Addr) = ad108 := (by injection e108); obtain ⟨ce108, hce108, hMe108, hcc108⟩ := Kd.S_get HO_5.out [] x16_1 p108 (by first | exact q108 | exact D_ | (have e_ := (Kd.S_reads' HO_5.out).1; omega)); obtain ⟨ve108_0, rfl, ge108_0⟩ := hMe108; have hv108_0 := hcc108 0 _ rfl; rw [Nat.add_zero, show ((Kd.slice 4 Kd.bool)).sz = 1 from rfl, Nat.mul_one] at hv108_0; replace hv108_0 := Option.some.inj (hv108_0.symm.trans hx108_0); rw [hv108_0] at ge108_0; have HL108_0 := Aside0.mk (show Kd.R Kd.bool 4 _ _ _ _ (rd_ListBool y107 x16_1) from ge108_0); clear hv108_0 ge108_0; have HX108_0 := Aside0.mk hx108_0; clear hcc108 hce108; (first | simp only [add_plain] at hx108_0 | simp only [add_at] at hx108_0 | simp only [Addr.add, Nat.zero_add] at hx108_0 | skip); have HR108_0 := Aside0.mk hi108_0; have HC108_0 := Aside0.mk hl108_0; clear hi108_0 hl108_0; replace p108 := eq_true p108; replace q108 := eq_true q108; have p15 : 0 ≤ (x16_1 : Int) := D_; have q15 : (x16_1 : Int) < (((rd_ListBool y107 x16_1).length : Int) : Int) := D_; obtain ⟨go15, co15, eo15, gb15, gl15, cl15, HG15⟩ := Kd.R_form HL108_0.out (by omega); (first | cases eo15 | (injection eo15 with ea_ en_ ec_; (first | subst ea_ | (injection ea_ with ea_; subst ea_)); subst ec_; clear en_)); have GB15 := Aside0.mk gb15; have GG15 := Aside0.mk HG15; clear gb15 gl15 HG15; obtain ⟨hx15_0, hf15_0⟩ := Kd.R_celln false HL108_0.out (x16_1 : Int) p15 q15; replace p15 := eq_true p15; replace q15 := eq_true q15; have hq21 : (x16_1 : Int) < (y107.length : Int) := (by have h_ : (x16_1 : Int) < ((x5_1.length : Int) : Int) := D_; first | exact h_ | (have e_ := (Kd.S_reads' HO_5.out).1; omega) | simpa only [Ny107.out, List.length_set] using h_); obtain ⟨oki21, ce21, hcl21, hM21, hcc21, hok21, hbk21⟩ := Kd.S_borrow HO_5.out [] (x16_1 : Int) (D_) (by first | exact hq21 | (have e_ := (Kd.S_reads' HO_5.out).1; have h_ := hq21; omega)); obtain ⟨ve21_0, rfl, ge21_0⟩ := hM21; have hv21 := hcc21 0 _ rfl; rw [Nat.add_zero, show ((Kd.slice 4 Kd.bool)).sz = 1 from rfl, Nat.mul_one] at hv21; replace hv21 := Option.some.inj (hv21.symm.trans HX108_0.out); subst hv21; clear hcc21 hcl21; replace ge21_0 := (show Kd.R Kd.bool 4 _ _ _ _ (rd_ListBool y107 x16_1) from ge21_0); have HP21 := Kd.R_putg ge21_0 (x16_1 : Int) true) | ((with_reducible refine gate_store (t := 4) (p := 29) rfl ?_); refine store_event (t := 4) (p := 29) (v := ?vo_w22) (w1 := (w19.setCell ⟨go15, (x16_1 : Int).toNat, none⟩ (.bool true))) ?hg ?ho ?hn ?hr ?_; (case ho => rfl); (case hg => rfl); (case hn => rfl); (case hr => first | (go_simp; done) | (go_simp; rfl)); intro w22 hw; have hg : w19.grownBy w22 (some go15) := (by rw [hw]; exact HP21.2); have hz_ : Kd.R Kd.bool 4 w22 w.heap.size oki21 (.slice (some ⟨go15, 0, none⟩) (rd_ListBool y107 x16_1).length c108_0) y109 := (by rw [hw, Ny109.out]; exact HP21.1); have hp_ : Kd.S (Kd.slice 4 Kd.bool) 61 w22 w.heap.size (fun _ => True) (.slice (some ⟨go13, 0, none⟩) x5_1.length co7) y111 := (by rw [Ny111.out]; exact hbk21 hg (fun k_ e_ => by injection e_ with e_; subst e_; exact ge21_0.1 _ rfl) (Kd.M_row hz_)); have hm_ := Kd.R_mono hz_ hok21; clear HP21 hbk21; replace HO_5 := Aside0.mk (hp_); replace HB := Aside0.mk ((by rw [hw]; exact below_set (HB.out) GB15.out : Below w.heap.size w w22)); have HL135 := Aside0.mk (hm_); have HC110 := Aside0.mk ((Kd.R_reads' hm_).2.1); clear HL108_0; clear hg hw hp_ hz_ hm_ hok21))
    (try simp only [← hl5_1])
    go_roundg k1
    case measure => exact Q1_ HK1
    case rel => exact ⟨(y111), (wrap64 (x16_1 + 1)), E_, H', ⟨Q1_ HK1⟩, ⟨by (try simp only [hl5_1]); (with_reducible repeat (first | apply Kd.S_alloc | apply Kd.S_drewN | apply Kd.S_drew)); exact HO_5.out⟩, ⟨B_ HB.out⟩⟩
   ·rw [if_neg c8] at H
    have c8b0 : decide (x16_1 < (y101.length : Int)) = false := decide_eq_false c8
    (try rw [hl5_1] at c8b0)
    clear c8
    have H' := Aside0.mk H
    clear H
    go_wp2
    go_loopg [33] k1 (fun kq v33 w' => ∃ (x5_2 : List (List Bool)) (x33_2 : Int), v33 = .int .i64 x33_2 ∧ Aside0 (z30.l1 kq x5_2 l1 (l1.length : Int) x33_2 = some r) ∧ Aside0 (kq ≤ k1) ∧ Aside0 (Kd.S (Kd.slice 4 Kd.bool) 61 w' w.heap.size (fun _ => True) (.slice Ao7 x5_1.length co7) x5_2) ∧ Aside0 (Below w.heap.size w w'))
    case atStart => exact ⟨(x5_1), (0), E_, H', ⟨Nat.le_refl _⟩, ⟨by (try simp only [hl5_1]); (with_reducible repeat (first | apply Kd.S_alloc | apply Kd.S_drewN | apply Kd.S_drew)); exact HO_5.out⟩, ⟨B_ HB.out⟩⟩
    case round =>
     clear H'
     (try clear c1);(try clear p1);(try clear q1);(try clear hx1);(try clear c2);(try clear p2);(try clear q2);(try clear c3);(try clear c3b0);(try clear c3b1);(try clear c4);(try clear c4b0);(try clear c4b1);(try clear p6);(try clear c8);(try clear c8b0);(try clear c9);(try clear c9b0);(try clear c9b1);(try clear c10);(try clear c10b0);(try clear c10b1);(try clear p10);(try clear q10);(try clear hx10);(try clear c11);(try clear c11b0);(try clear c12);(try clear c12b0);(try clear c13);(try clear p13);(try clear q13);(try clear hx13);(try clear hf13);(try clear c14);(try clear c14b0);(try clear p15);(try clear q15);(try clear hx15);(try clear hf15);(try clear c18);(try clear hx18);(try clear hf18);(try clear c21);(try clear q21);(try clear hx108_0);(try clear hx13_0);(try clear hx15_0);(try clear hx18_0);(try clear p108);(try clear p13);(try clear p15);(try clear p2);(try clear q108);(try clear q13)
     (try clear q15)
     obtain ⟨x5_2, x33_2, rfl, HA, HK2, HO_5, HB⟩ := hrel
     have hl5_2 := (Kd.S_reads' HO_5.out).1
     rw [hl5_2] at HO_5
     (try simp only [hl5_2])
     cases gk with
     | zero => exact absurd HA.out (by simp [z30.l1])
     | succ k2 =>
      have H := HA.out
      clear HA
      simp only [z30.l1] at H
      by_cases c23 : x33_2 < (l1.length : Int)
      ·rw [if_pos c23] at H
       have c23b0 : decide (x33_2 < (l1.length : Int)) = true := decide_eq_true c23
       (try rw [hl5_1] at c23b0)
       (try rw [hl5_2] at c23b0)
       clear c23
       have c24 := O1_ H
       replace H := O2_ H
       have c24b0 := decide_eq_true c24
       (try rw [hl5_1] at c24b0)
       (try rw [hl5_2] at c24b0)
       clear c24
       have c25 := O1_ H
       replace H := O2_ H
       have c25b0 := decide_eq_true c25
       (try rw [hl5_1] at c25b0)
       (try rw [hl5_2] at c25b0)
       clear c25
       have c26 := O1_ H
       replace H := O2_ H
       have c26b0 := decide_eq_true c26
       have c26b1 : decide (0 < (rd_ListInt l1 x33_2).length) = true := decide_eq_true (by omega)
       (try rw [hl5_1] at c26b0)
       (try rw [hl5_1] at c26b1)
       (try rw [hl5_2] at c26b0)
       (try rw [hl5_2] at c26b1)
       clear c26
       have c27 := O1_ H
       replace H := O2_ H
       have c27b0 := decide_eq_true c27
       (try rw [hl5_1] at c27b0)
       (try rw [hl5_2] at c27b0)
       clear c27
       have c28 := O1_ H
       replace H := O2_ H
       have c28b0 := decide_eq_true c28
       (try rw [hl5_1] at c28b0)
       (try rw [hl5_2] at c28b0)
       clear c28
       have c29 := O1_ H
       replace H := O2_ H
       have c29b0 := decide_eq_true c29
       have c29b1 : decide (1 < (rd_ListInt l1 x33_2).length) = true := decide_eq_true (by omega)
       (try rw [hl5_1] at c29b0)
       (try rw [hl5_1] at c29b1)
       (try rw [hl5_2] at c29b0)
       (try rw [hl5_2] at c29b1)
       clear c29
       have c30 := O1_ H
       replace H := O2_ H
       have c30b0 := decide_eq_true c30
       (try rw [hl5_1] at c30b0)
       (try rw [hl5_2] at c30b0)
       clear c30
       have c31 := O1_ H
       replace H := O2_ H
       have c31b0 := decide_eq_true c31
       (try rw [hl5_1] at c31b0)
       (try rw [hl5_2] at c31b0)
       clear c31
       obtain ⟨y116, hy116⟩ : ∃ y_ : List Bool, y_ = ((rd_ListBool x5_2 (rd (rd_ListInt l1 x33_2) 0)).set ((rd (rd_ListInt l1 x33_2) 1) : Int).toNat true) := ⟨_, rfl⟩
       replace H : (z30.l1 k2 (x5_2.set ((rd (rd_ListInt l1 x33_2) 0) : Int).toNat y116) l1 (l1.length : Int) (wrap64 (x33_2 + 1))) = some r := Y_ hy116 H
       have Ny116 := Aside0.mk hy116
       clear hy116
       obtain ⟨y118, hy118⟩ : ∃ y_ : List (List Bool), y_ = (x5_2.set ((rd (rd_ListInt l1 x33_2) 0) : Int).toNat y116) := ⟨_, rfl⟩
       replace H : (z30.l1 k2 y118 l1 (l1.length : Int) (wrap64 (x33_2 + 1))) = some r := Y_ hy118 H
       have Ny118 := Aside0.mk hy118
       clear hy118
       have H' := Aside0.mk H
       clear H
       have p112 : 0 ≤ (x33_2 : Int) := D_
       have q112 : x33_2 < (l1.length : Int) := D_
       obtain ⟨ad112, A112_0, c112_0, e112, hx112_0, hl112_0, hi112_0⟩ := at_ListInt HR1.out x33_2 p112 q112
       cases e112
       replace hx112_0 := (HB.out.cell (World.block_lt_of_cell? w _ hx112_0)).trans hx112_0
       have HR112_0 := Aside0.mk hi112_0
       have HC112_0 := Aside0.mk hl112_0
       clear hi112_0 hl112_0
       replace p112 := eq_true p112
       replace q112 := eq_true q112
       try go_wp2
       replace HO_5 := Aside0.mk (Kd.S_drew HO_5.out)
       replace HB := Aside0.mk (below_drew1 HB.out)
       have p113 : 0 ≤ (0 : Int) := (by omega)
       have q113 : 0 < ((rd_ListInt l1 x33_2).length : Int) := D_
       obtain ⟨ad113, e113, hx113_0⟩ := Kd.at_int HR112_0.out 0 p113 q113
       have hw113_0 := hx113_0
       (try rw [show ((0 : Int)).toNat = 0 from rfl] at hw113_0)
       (try rw [show 0 * 1 = 0 from rfl] at hw113_0)
       (try rw [Addr.add_zero'] at hw113_0)
       cases e113
       have qi113 : (0 < (rd_ListInt l1 x33_2).length) = True := eq_true (by omega)
       (try rw [show ((0 : Int)).toNat = 0 from rfl] at hx113_0)
       (try rw [Addr.add_zero'] at hx113_0)
       replace hx113_0 := (HB.out.cell (World.block_lt_of_cell? w _ hx113_0)).trans hx113_0
       replace p113 := eq_true p113
       replace q113 := eq_true q113
       have p114 : 0 ≤ ((rd (rd_ListInt l1 x33_2) 0) : Int) := D_
       have q114 : (rd (rd_ListInt l1 x33_2) 0) < (x5_2.length : Int) := D_
       obtain ⟨ad114, A114_0, c114_0, e114, hx114_0, hl114_0, hi114_0⟩ := at_ListBool (Kd.S_reads' HO_5.out).2.2 (rd (rd_ListInt l1 x33_2) 0) p114 q114
       cases e114
       obtain ⟨ce114, hce114, hMe114, hcc114⟩ := Kd.S_get HO_5.out [] (rd (rd_ListInt l1 x33_2) 0) p114 (by first | exact q114 | exact D_ | (have e_ := (Kd.S_reads' HO_5.out).1; omega))
       obtain ⟨ve114_0, rfl, ge114_0⟩ := hMe114
       have hv114_0 := hcc114 0 _ rfl
       rw [Nat.add_zero, show ((Kd.slice 4 Kd.bool)).sz = 1 from rfl, Nat.mul_one] at hv114_0
       replace hv114_0 := Option.some.inj (hv114_0.symm.trans hx114_0)
       rw [hv114_0] at ge114_0
       have HL114_0 := Aside0.mk (show Kd.R Kd.bool 4 _ _ _ _ (rd_ListBool x5_2 (rd (rd_ListInt l1 x33_2) 0)) from ge114_0)
       clear hv114_0 ge114_0
       have HX114_0 := Aside0.mk hx114_0
       clear hcc114 hce114
       have HR114_0 := Aside0.mk hi114_0
       have HC114_0 := Aside0.mk hl114_0
       clear hi114_0 hl114_0
       replace p114 := eq_true p114
       replace q114 := eq_true q114
       have p115 : 0 ≤ (1 : Int) := (by omega)
       have q115 : 1 < ((rd_ListInt l1 x33_2).length : Int) := D_
       obtain ⟨ad115, e115, hx115_0⟩ := Kd.at_int HR112_0.out 1 p115 q115
       have hw115_0 := hx115_0
       (try rw [show ((1 : Int)).toNat = 1 from rfl] at hw115_0)
       (try rw [show 1 * 1 = 1 from rfl] at hw115_0)
       (try simp only [Nat.reduceMul, Nat.reduceEqDiff, Go.Addr.add, ↓reduceIte] at hw115_0)
       obtain rfl : ad113 = ad115 := (by injection e115)
       (try simp only [show (1 : Int).toNat = 1 from rfl, Nat.reduceMul, Nat.reduceEqDiff, Go.Addr.add, ↓reduceIte] at hx115_0)
       have qi115 : (1 < (rd_ListInt l1 x33_2).length) = True := eq_true (by omega)
       (try rw [show ((1 : Int)).toNat = 1 from rfl] at hx115_0)
       replace hx115_0 := (HB.out.cell (World.block_lt_of_cell? w _ hx115_0)).trans hx115_0
       replace p115 := eq_true p115
       replace q115 := eq_true q115
       have p32 : 0 ≤ ((rd (rd_ListInt l1 x33_2) 1) : Int) := D_
       have q32 : ((rd (rd_ListInt l1 x33_2) 1) : Int) < (((rd_ListBool x5_2 (rd (rd_ListInt l1 x33_2) 0)).length : Int) : Int) := D_
       obtain ⟨go32, co32, eo32, gb32, gl32, cl32, HG32⟩ := Kd.R_form HL114_0.out (by omega)
       (first | cases eo32 | (injection eo32 with ea_ en_ ec_; (first | subst ea_ | (injection ea_ with ea_; subst ea_)); subst ec_; clear en_))
       have GB32 := Aside0.mk gb32
       have GG32 := Aside0.mk HG32
       clear gb32 gl32 HG32
       obtain ⟨hx32_0, hf32_0⟩ := Kd.R_celln false HL114_0.out ((rd (rd_ListInt l1 x33_2) 1) : Int) p32 q32
       replace p32 := eq_true p32
       replace q32 := eq_true q32
       have hq34 : ((rd (rd_ListInt l1 x33_2) 0) : Int) < (x5_2.length : Int) := (by have h_ : ((rd (rd_ListInt l1 x33_2) 0) : Int) < ((x5_2.length : Int) : Int) := D_; first | exact h_ | (have e_ := (Kd.S_reads' HO_5.out).1; omega) | simpa only [List.length_set, List.length_set] using h_)
       obtain ⟨oki34, ce34, hcl34, hM34, hcc34, hok34, hbk34⟩ := Kd.S_borrow HO_5.out [] ((rd (rd_ListInt l1 x33_2) 0) : Int) (D_) (by first | exact hq34 | (have e_ := (Kd.S_reads' HO_5.out).1; have h_ := hq34; omega))
       obtain ⟨ve34_0, rfl, ge34_0⟩ := hM34
       have hv34 := hcc34 0 _ rfl
       rw [Nat.add_zero, show ((Kd.slice 4 Kd.bool)).sz = 1 from rfl, Nat.mul_one] at hv34
       replace hv34 := Option.some.inj (hv34.symm.trans HX114_0.out)
       subst hv34
       clear hcc34 hcl34
       replace ge34_0 := (show Kd.R Kd.bool 4 _ _ _ _ (rd_ListBool x5_2 (rd (rd_ListInt l1 x33_2) 0)) from ge34_0)
       have HP34 := Kd.R_putg ge34_0 ((rd (rd_ListInt l1 x33_2) 1) : Int) true
       rw [← Ny116.out] at HP34
       have HS34 := hbk34 HP34.2 (fun k_ e_ => by injection e_ with e_; subst e_; exact ge34_0.1 _ rfl) (x' := y116) (Kd.M_row HP34.1)
       rw [← Ny118.out] at HS34
       have HQ34 := Aside0.mk HS34
       clear HP34 HS34 hbk34 hok34
       refine start_ (n := 11) (S := fun w' => w'.cell? ad113 = some (.int .i64 (rd (rd_ListInt l1 x33_2) 0)) ∧ w'.cell? (ad114.add ((rd (rd_ListInt l1 x33_2) 0)).toNat) = some (.slice (some ⟨go32, 0, none⟩) (rd_ListBool x5_2 (rd (rd_ListInt l1 x33_2) 0)).length c114_0) ∧ w'.cell? ⟨ad113.block, ad113.off + 1, none⟩ = some (.int .i64 (rd (rd_ListInt l1 x33_2) 1))) (ds := [10]) (tb_ 11 0) (by kernel_rfl) rfl rfl ⟨((HB.out.cell (World.block_lt_of_cell? w _ hw113_0)).trans hw113_0), hx114_0, ((HB.out.cell (World.block_lt_of_cell? w _ hw115_0)).trans hw115_0)⟩ (fun hHeld => ?_); refine with_tabW z30.tab11 z30.bits11 (fun HT_ HW_ => ?_)
       generalize wr.drew = w33 at HO_5 HB GG32 HL114_0 HQ34 HR114_0 HX114_0 hf32_0 hx113_0 hx114_0 hx115_0 hx32_0 hHeld ⊢
       refine PV_ (i := 0) (N := some 37) (tb_ 11 1) HT_ rfl rfl (h := ?_)
       refine PV_ (i := 1) (N := some 38) (tb_ 11 3) HT_ rfl rfl (h := ?_)
       refine PV_ (i := 2) (N := some 39) (tb_ 11 7) HT_ rfl rfl (h := ?_)
       refine PV_ (i := 6) (N := some 43) (tb_ 11 71) HT_ rfl rfl (h := ?_)
       refine PV_ (i := 7) (N := some 44) (tb_ 11 199) HT_ rfl rfl (h := ?_)
       refine TV_ (i := 3) (N := some 40) (tb_ 11 207) HT_ HW_ rfl rfl hHeld (by rintro w' ⟨s0, s1, s2⟩; go_simp; with_reducible rfl) (h := ?_)
       refine PV_ (i := 4) (N := some 41) (tb_ 11 223) HT_ rfl rfl (h := ?_)
       refine TV_ (i := 5) (N := some 42) (tb_ 11 255) HT_ HW_ rfl rfl hHeld (by rintro w' ⟨s0, s1, s2⟩; go_simp; with_reducible rfl) (h := ?_)
       refine TV_ (i := 8) (N := some 45) (tb_ 11 511) HT_ HW_ rfl rfl hHeld (by rintro w' ⟨s0, s1, s2⟩; go_simp; with_reducible rfl) (h := ?_)
       refine PV_ (i := 9) (N := some 46) (tb_ 11 1023) HT_ rfl rfl (h := ?_)
       refine last_ (i := 10) (N := none) (tb_ 11 2047) rfl rfl (one_of HT_.out (by kernel_rfl)) (by decide) (fun K hK => ?_)
       refine skip_ (w1 := ?_) (by rfl) rfl ?_ ?_
       rotate_left
       ·go_simp
        rfl
       refine hK.out _ _ ?_
       clear hK K
       refine done_ (done_of HT_.out (by kernel_rfl)) ?_
       try go_wp2
       (try simp only [← hl5_2])
       go_roundg k2
       case measure => exact Q2_ HK1 HK2
       case rel => exact ⟨(y118), (wrap64 (x33_2 + 1)), E_, H', ⟨Q2_ HK1 HK2⟩, ⟨by (try simp only [hl5_1]); (try simp only [hl5_2]); (with_reducible repeat (first | apply Kd.S_alloc | apply Kd.S_drewN | apply Kd.S_drew)); exact HQ34.out⟩, ⟨B1_ HB.out GB32.out⟩⟩
      ·rw [if_neg c23] at H
       have c23b0 : decide (x33_2 < (l1.length : Int)) = false := decide_eq_false c23
       (try rw [hl5_1] at c23b0)
       (try rw [hl5_2] at c23b0)
       clear c23
       have H' := Aside0.mk H
       clear H
       go_wp2
       go_loopg [50] k2 (fun kq v50 w' => ∃ (x5_3 : List (List Bool)) (x50_3 : Int), v50 = .int .i64 x50_3 ∧ Aside0 (z30.l2 kq x5_3 (x5_2.length : Int) x50_3 = some r) ∧ Aside0 (kq ≤ k2) ∧ Aside0 (Kd.S (Kd.slice 4 Kd.bool) 61 w' w.heap.size (fun _ => True) (.slice Ao7 x5_2.length co7) x5_3) ∧ Aside0 (Below w.heap.size w w'))
       case atStart => exact ⟨(x5_2), (0), E_, H', ⟨Nat.le_refl _⟩, ⟨by (try simp only [hl5_1]); (try simp only [hl5_2]); (with_reducible repeat (first | apply Kd.S_alloc | apply Kd.S_drewN | apply Kd.S_drew)); exact HO_5.out⟩, ⟨B_ HB.out⟩⟩
       case round =>
        clear H'
        (try clear c1);(try clear p1);(try clear q1);(try clear hx1);(try clear qi1);(try clear c2);(try clear p2);(try clear q2);(try clear c3);(try clear c3b0);(try clear c3b1);(try clear p3);(try clear q3);(try clear hx3);(try clear hf3);(try clear c4);(try clear c4b0);(try clear c4b1);(try clear p6);(try clear c8);(try clear c8b0);(try clear c9);(try clear c9b0);(try clear c9b1);(try clear c10);(try clear c10b0);(try clear c10b1);(try clear p10);(try clear q10);(try clear hx10);(try clear c11);(try clear c11b0);(try clear p11);(try clear q11);(try clear hx11);(try clear qi11);(try clear c12);(try clear c12b0);(try clear c13);(try clear p13);(try clear q13);(try clear hx13);(try clear hf13);(try clear c14);(try clear c14b0);(try clear p15);(try clear q15);(try clear hx15);(try clear hf15);(try clear c18);(try clear hx18);(try clear hf18);(try clear c21);(try clear q21);(try clear c23);(try clear c23b0)
        (try clear c24);(try clear c24b0);(try clear c25);(try clear c25b0);(try clear c26);(try clear c26b0);(try clear c26b1);(try clear c27);(try clear c27b0);(try clear c28);(try clear c28b0);(try clear c29);(try clear c29b0);(try clear c29b1);(try clear c30);(try clear c30b0);(try clear c31);(try clear c31b0);(try clear p32);(try clear q32);(try clear hx32);(try clear hf32);(try clear c34);(try clear q34);(try clear hx108_0);(try clear hx112_0);(try clear hx113_0);(try clear hx114_0);(try clear hx115_0);(try clear hx13_0);(try clear hx15_0);(try clear hx18_0);(try clear hx32_0);(try clear p1);(try clear p10);(try clear p108);(try clear p112);(try clear p113);(try clear p114);(try clear p115);(try clear p13);(try clear p15);(try clear p2);(try clear p32);(try clear p6);(try clear q1);(try clear q10);(try clear q108);(try clear q112);(try clear q113);(try clear q114);(try clear q115);(try clear q13)
        (try clear q15);(try clear q2);(try clear q21);(try clear q32)
        obtain ⟨x5_3, x50_3, rfl, HA, HK3, HO_5, HB⟩ := hrel
        have hl5_3 := (Kd.S_reads' HO_5.out).1
        rw [hl5_3] at HO_5
        (try simp only [hl5_3])
        cases gk with
        | zero => exact absurd HA.out (by simp [z30.l2])
        | succ k3 =>
         have H := HA.out
         clear HA
         simp only [z30.l2] at H
         by_cases c36 : x50_3 < (x5_2.length : Int)
         ·rw [if_pos c36] at H
          have c36b0 : decide (x50_3 < (x5_2.length : Int)) = true := decide_eq_true c36
          (try rw [hl5_1] at c36b0)
          (try rw [hl5_2] at c36b0)
          (try rw [hl5_3] at c36b0)
          clear c36
          have H' := Aside0.mk H
          clear H
          go_wp2
          go_loopg [55] k3 (fun kq v55 w' => ∃ (x5_4 : List (List Bool)) (x55_4 : Int), v55 = .int .i64 x55_4 ∧ Aside0 (z30.l3 kq x5_4 x50_3 (x5_2.length : Int) x50_3 (x5_3.length : Int) x55_4 = some r) ∧ Aside0 (kq ≤ k3) ∧ Aside0 (Kd.S (Kd.slice 4 Kd.bool) 61 w' w.heap.size (fun _ => True) (.slice Ao7 x5_3.length co7) x5_4) ∧ Aside0 (Below w.heap.size w w'))
          case atStart => exact ⟨(x5_3), (0), E_, H', ⟨Nat.le_refl _⟩, ⟨by (try simp only [hl5_1]); (try simp only [hl5_2]); (try simp only [hl5_3]); (with_reducible repeat (first | apply Kd.S_alloc | apply Kd.S_drewN | apply Kd.S_drew)); exact HO_5.out⟩, ⟨B_ HB.out⟩⟩
          case round =>
           clear H'
           (try clear c1);(try clear p1);(try clear q1);(try clear hx1);(try clear qi1);(try clear c2);(try clear p2);(try clear q2);(try clear c3);(try clear c3b0);(try clear c3b1);(try clear p3);(try clear q3);(try clear hx3);(try clear hf3);(try clear c4);(try clear c4b0);(try clear c4b1);(try clear p6);(try clear c8);(try clear c8b0);(try clear c9);(try clear c9b0);(try clear c9b1);(try clear c10);(try clear c10b0);(try clear c10b1);(try clear p10);(try clear q10);(try clear hx10);(try clear c11);(try clear c11b0);(try clear p11);(try clear q11);(try clear hx11);(try clear qi11);(try clear c12);(try clear c12b0);(try clear c13);(try clear p13);(try clear q13);(try clear hx13);(try clear hf13);(try clear c14);(try clear c14b0);(try clear p15);(try clear q15);(try clear hx15);(try clear hf15);(try clear c18);(try clear hx18);(try clear hf18);(try clear c21);(try clear q21);(try clear c23);(try clear c23b0)
           (try clear c24);(try clear c24b0);(try clear c25);(try clear c25b0);(try clear c26);(try clear c26b0);(try clear c26b1);(try clear c27);(try clear c27b0);(try clear c28);(try clear c28b0);(try clear c29);(try clear c29b0);(try clear c29b1);(try clear c30);(try clear c30b0);(try clear c31);(try clear c31b0);(try clear p32);(try clear q32);(try clear hx32);(try clear hf32);(try clear c34);(try clear q34);(try clear c36);(try clear c36b0);(try clear hx108_0);(try clear hx112_0);(try clear hx113_0);(try clear hx114_0);(try clear hx115_0);(try clear hx13_0);(try clear hx15_0);(try clear hx18_0);(try clear hx32_0);(try clear p1);(try clear p10);(try clear p108);(try clear p11);(try clear p112);(try clear p113);(try clear p114);(try clear p115);(try clear p13);(try clear p15);(try clear p2);(try clear p3);(try clear p32);(try clear p6);(try clear q1);(try clear q10);(try clear q108);(try clear q11)
           (try clear q112);(try clear q113);(try clear q114);(try clear q115);(try clear q13);(try clear q15);(try clear q2);(try clear q21);(try clear q3);(try clear q32);(try clear q34)
           obtain ⟨x5_4, x55_4, rfl, HA, HK4, HO_5, HB⟩ := hrel
           have hl5_4 := (Kd.S_reads' HO_5.out).1
           rw [hl5_4] at HO_5
           (try simp only [hl5_4])
           cases gk with
           | zero => exact absurd HA.out (by simp [z30.l3])
           | succ k4 =>
            have H := HA.out
            clear HA
            simp only [z30.l3] at H
            by_cases c37 : x55_4 < (x5_3.length : Int)
            ·rw [if_pos c37] at H
             have c37b0 : decide (x55_4 < (x5_3.length : Int)) = true := decide_eq_true c37
             (try rw [hl5_1] at c37b0)
             (try rw [hl5_2] at c37b0)
             (try rw [hl5_3] at c37b0)
             (try rw [hl5_4] at c37b0)
             clear c37
             have H' := Aside0.mk H
             clear H
             go_wp2
             go_loopg [60] k4 (fun kq v60 w' => ∃ (x5_5 : List (List Bool)) (x60_5 : Int), v60 = .int .i64 x60_5 ∧ Aside0 (z30.l4 kq x5_5 x50_3 x55_4 (x5_2.length : Int) x50_3 (x5_3.length : Int) x55_4 (x5_4.length : Int) x60_5 = some r) ∧ Aside0 (kq ≤ k4) ∧ Aside0 (Kd.S (Kd.slice 4 Kd.bool) 61 w' w.heap.size (fun _ => True) (.slice Ao7 x5_4.length co7) x5_5) ∧ Aside0 (Below w.heap.size w w'))
             case atStart => exact ⟨(x5_4), (0), E_, H', ⟨Nat.le_refl _⟩, ⟨by (try simp only [hl5_1]); (try simp only [hl5_2]); (try simp only [hl5_3]); (try simp only [hl5_4]); (with_reducible repeat (first | apply Kd.S_alloc | apply Kd.S_drewN | apply Kd.S_drew)); exact HO_5.out⟩, ⟨B_ HB.out⟩⟩
             case round =>
              clear H'
              (try clear c1);(try clear p1);(try clear q1);(try clear hx1);(try clear qi1);(try clear c2);(try clear p2);(try clear q2);(try clear c3);(try clear c3b0);(try clear c3b1);(try clear p3);(try clear q3);(try clear hx3);(try clear hf3);(try clear c4);(try clear c4b0);(try clear c4b1);(try clear p6);(try clear c8);(try clear c8b0);(try clear c9);(try clear c9b0);(try clear c9b1);(try clear c10);(try clear c10b0);(try clear c10b1);(try clear p10);(try clear q10);(try clear hx10);(try clear c11);(try clear c11b0);(try clear p11);(try clear q11);(try clear hx11);(try clear qi11);(try clear c12);(try clear c12b0);(try clear c13);(try clear p13);(try clear q13);(try clear hx13);(try clear hf13);(try clear c14);(try clear c14b0);(try clear p15);(try clear q15);(try clear hx15);(try clear hf15);(try clear c18);(try clear hx18);(try clear hf18);(try clear c21);(try clear q21);(try clear c23);(try clear c23b0)
              (try clear c24);(try clear c24b0);(try clear c25);(try clear c25b0);(try clear c26);(try clear c26b0);(try clear c26b1);(try clear c27);(try clear c27b0);(try clear c28);(try clear c28b0);(try clear c29);(try clear c29b0);(try clear c29b1);(try clear c30);(try clear c30b0);(try clear c31);(try clear c31b0);(try clear p32);(try clear q32);(try clear hx32);(try clear hf32);(try clear c34);(try clear q34);(try clear c36);(try clear c36b0);(try clear c37);(try clear c37b0);(try clear hx108_0);(try clear hx112_0);(try clear hx113_0);(try clear hx114_0);(try clear hx115_0);(try clear hx13_0);(try clear hx15_0);(try clear hx18_0);(try clear hx32_0);(try clear p1);(try clear p10);(try clear p108);(try clear p11);(try clear p112);(try clear p113);(try clear p114);(try clear p115);(try clear p13);(try clear p15);(try clear p2);(try clear p3);(try clear p32);(try clear p6);(try clear q1);(try clear q10)
              (try clear q108);(try clear q11);(try clear q112);(try clear q113);(try clear q114);(try clear q115);(try clear q13);(try clear q15);(try clear q2);(try clear q21);(try clear q3);(try clear q32);(try clear q34)
              obtain ⟨x5_5, x60_5, rfl, HA, HK5, HO_5, HB⟩ := hrel
              have hl5_5 := (Kd.S_reads' HO_5.out).1
              rw [hl5_5] at HO_5
              (try simp only [hl5_5])
              cases gk with
              | zero => exact absurd HA.out (by simp [z30.l4])
              | succ k5 =>
               have H := HA.out
               clear HA
               simp only [z30.l4] at H
               by_cases c38 : x60_5 < (x5_4.length : Int)
               ·rw [if_pos c38] at H
                have c38b0 : decide (x60_5 < (x5_4.length : Int)) = true := decide_eq_true c38
                (try rw [hl5_1] at c38b0)
                (try rw [hl5_2] at c38b0)
                (try rw [hl5_3] at c38b0)
                (try rw [hl5_4] at c38b0)
                (try rw [hl5_5] at c38b0)
                clear c38
                have c39 := O1_ H
                replace H := O2_ H
                have c39b0 := decide_eq_true c39
                (try rw [hl5_1] at c39b0)
                (try rw [hl5_2] at c39b0)
                (try rw [hl5_3] at c39b0)
                (try rw [hl5_4] at c39b0)
                (try rw [hl5_5] at c39b0)
                clear c39
                have c40 := O1_ H
                replace H := O2_ H
                have c40b0 := decide_eq_true c40
                (try rw [hl5_1] at c40b0)
                (try rw [hl5_2] at c40b0)
                (try rw [hl5_3] at c40b0)
                (try rw [hl5_4] at c40b0)
                (try rw [hl5_5] at c40b0)
                clear c40
                have c41 := O1_ H
                replace H := O2_ H
                have c41b0 := decide_eq_true c41
                (try rw [hl5_1] at c41b0)
                (try rw [hl5_2] at c41b0)
                (try rw [hl5_3] at c41b0)
                (try rw [hl5_4] at c41b0)
                (try rw [hl5_5] at c41b0)
                clear c41
                have c42 := O1_ H
                replace H := O2_ H
                have c42b0 := decide_eq_true c42
                (try rw [hl5_1] at c42b0)
                (try rw [hl5_2] at c42b0)
                (try rw [hl5_3] at c42b0)
                (try rw [hl5_4] at c42b0)
                (try rw [hl5_5] at c42b0)
                clear c42
                obtain ⟨bq43, hbq43⟩ : ∃ b_ : Bool, b_ = (rdOf false (rd_ListBool x5_5 x55_4) x60_5) := ⟨_, rfl⟩
                rw [← hbq43] at H
                have Nbq43 := Aside0.mk hbq43
                clear hbq43
                by_cases c44 : bq43 = true
                ·subst c44
                 replace H := T_ H
                 obtain ⟨y122, hy122⟩ : ∃ y_ : List Bool, y_ = ((rd_ListBool x5_5 x55_4).set (x60_5 : Int).toNat true) := ⟨_, rfl⟩
                 replace H : (z30.l4 k5 (x5_5.set (x55_4 : Int).toNat y122) x50_3 x55_4 (x5_2.length : Int) x50_3 (x5_3.length : Int) x55_4 (x5_4.length : Int) (wrap64 (x60_5 + 1))) = some r := Y_ hy122 H
                 have Ny122 := Aside0.mk hy122
                 clear hy122
                 obtain ⟨y124, hy124⟩ : ∃ y_ : List (List Bool), y_ = (x5_5.set (x55_4 : Int).toNat y122) := ⟨_, rfl⟩
                 replace H : (z30.l4 k5 y124 x50_3 x55_4 (x5_2.length : Int) x50_3 (x5_3.length : Int) x55_4 (x5_4.length : Int) (wrap64 (x60_5 + 1))) = some r := Y_ hy124 H
                 have Ny124 := Aside0.mk hy124
                 clear hy124
                 have H' := Aside0.mk H
                 clear H
                 try go_wp2
                 replace HO_5 := Aside0.mk (Kd.S_drew HO_5.out)
                 replace HB := Aside0.mk (below_drew1 HB.out)
                 have p119 : 0 ≤ (x55_4 : Int) := D_
                 have q119 : x55_4 < (x5_5.length : Int) := D_
                 obtain ⟨ad119, A119_0, c119_0, e119, hx119_0, hl119_0, hi119_0⟩ := at_ListBool (Kd.S_reads' HO_5.out).2.2 x55_4 p119 q119
                 cases e119
                 obtain ⟨ce119, hce119, hMe119, hcc119⟩ := Kd.S_get HO_5.out [] x55_4 p119 (by first | exact q119 | exact D_ | (have e_ := (Kd.S_reads' HO_5.out).1; omega))
                 obtain ⟨ve119_0, rfl, ge119_0⟩ := hMe119
                 have hv119_0 := hcc119 0 _ rfl
                 rw [Nat.add_zero, show ((Kd.slice 4 Kd.bool)).sz = 1 from rfl, Nat.mul_one] at hv119_0
                 replace hv119_0 := Option.some.inj (hv119_0.symm.trans hx119_0)
                 rw [hv119_0] at ge119_0
                 have HL119_0 := Aside0.mk (show Kd.R Kd.bool 4 _ _ _ _ (rd_ListBool x5_5 x55_4) from ge119_0)
                 clear hv119_0 ge119_0
                 have HX119_0 := Aside0.mk hx119_0
                 clear hcc119 hce119
                 have HR119_0 := Aside0.mk hi119_0
                 have HC119_0 := Aside0.mk hl119_0
                 clear hi119_0 hl119_0
                 replace p119 := eq_true p119
                 replace q119 := eq_true q119
                 have p120 : 0 ≤ (x55_4 : Int) := D_
                 have q120 : x55_4 < (x5_5.length : Int) := D_
                 obtain ⟨ad120, A120_0, c120_0, e120, hx120_0, hl120_0, hi120_0⟩ := at_ListBool (Kd.S_reads' HO_5.out).2.2 x55_4 p120 q120
                 obtain rfl : ad119 = ad120 := (by injection e120)
                 obtain ⟨ce120, hce120, hMe120, hcc120⟩ := Kd.S_get HO_5.out [] x55_4 p120 (by first | exact q120 | exact D_ | (have e_ := (Kd.S_reads' HO_5.out).1; omega))
                 obtain ⟨ve120_0, rfl, ge120_0⟩ := hMe120
                 have hv120_0 := hcc120 0 _ rfl
                 rw [Nat.add_zero, show ((Kd.slice 4 Kd.bool)).sz = 1 from rfl, Nat.mul_one] at hv120_0
                 replace hv120_0 := Option.some.inj (hv120_0.symm.trans hx120_0)
                 rw [hv120_0] at ge120_0
                 have HL120_0 := Aside0.mk (show Kd.R Kd.bool 4 _ _ _ _ (rd_ListBool x5_5 x55_4) from ge120_0)
                 clear hv120_0 ge120_0
                 have HX120_0 := Aside0.mk hx120_0
                 clear hcc120 hce120
                 have HR120_0 := Aside0.mk hi120_0
                 have HC120_0 := Aside0.mk hl120_0
                 clear hi120_0 hl120_0
                 replace p120 := eq_true p120
                 replace q120 := eq_true q120
                 have ea_ := Option.some.inj (hx119_0.symm.trans hx120_0)
                 injection ea_ with ea_ en_ ec_
                 subst ea_
                 subst ec_
                 clear en_
                 have p121 : 0 ≤ (x60_5 : Int) := D_
                 have q121 : x60_5 < ((rd_ListBool x5_5 x55_4).length : Int) := D_
                 obtain ⟨ad121, e121, hx121_0⟩ := Kd.at_bool (KC_ HR120_0.out) x60_5 p121 q121
                 (try rw [← Nbq43.out] at hx121_0)
                 cases e121
                 replace p121 := eq_true p121
                 replace q121 := eq_true q121
                 have p45 : 0 ≤ (x60_5 : Int) := D_
                 have q45 : (x60_5 : Int) < (((rd_ListBool x5_5 x55_4).length : Int) : Int) := D_
                 obtain ⟨go45, co45, eo45, gb45, gl45, cl45, HG45⟩ := Kd.R_form HL119_0.out (by omega)
                 (first | cases eo45 | (injection eo45 with ea_ en_ ec_; (first | subst ea_ | (injection ea_ with ea_; subst ea_)); subst ec_; clear en_))
                 (first | simp only [add_plain] at hx121_0 | skip)
                 have GB45 := Aside0.mk gb45
                 have GG45 := Aside0.mk HG45
                 clear gb45 gl45 HG45
                 (first | simp only [add_plain] at hx121_0 | skip)
                 obtain ⟨hx45_0, hf45_0⟩ := Kd.R_celln false HL119_0.out (x60_5 : Int) p45 q45
                 replace p45 := eq_true p45
                 replace q45 := eq_true q45
                 have hq47 : (x55_4 : Int) < (x5_5.length : Int) := (by have h_ : (x55_4 : Int) < ((x5_5.length : Int) : Int) := D_; first | exact h_ | (have e_ := (Kd.S_reads' HO_5.out).1; omega) | simpa only [List.length_set, List.length_set] using h_)
                 obtain ⟨oki47, ce47, hcl47, hM47, hcc47, hok47, hbk47⟩ := Kd.S_borrow HO_5.out [] (x55_4 : Int) (D_) (by first | exact hq47 | (have e_ := (Kd.S_reads' HO_5.out).1; have h_ := hq47; omega))
                 obtain ⟨ve47_0, rfl, ge47_0⟩ := hM47
                 have hv47 := hcc47 0 _ rfl
                 rw [Nat.add_zero, show ((Kd.slice 4 Kd.bool)).sz = 1 from rfl, Nat.mul_one] at hv47
                 replace hv47 := Option.some.inj (hv47.symm.trans HX119_0.out)
                 subst hv47
                 clear hcc47 hcl47
                 replace ge47_0 := (show Kd.R Kd.bool 4 _ _ _ _ (rd_ListBool x5_5 x55_4) from ge47_0)
                 have HP47 := Kd.R_putg ge47_0 (x60_5 : Int) true
                 rw [← Ny122.out] at HP47
                 have HS47 := hbk47 HP47.2 (fun k_ e_ => by injection e_ with e_; subst e_; exact ge47_0.1 _ rfl) (x' := y122) (Kd.M_row HP47.1)
                 rw [← Ny124.out] at HS47
                 have HQ47 := Aside0.mk HS47
                 clear HP47 HS47 hbk47 hok47
                 refine start_ (n := 32) (S := fun w' => w'.cell? (ad119.add (x55_4).toNat) = some (.slice (some ⟨go45, 0, none⟩) (rd_ListBool x5_5 x55_4).length c119_0) ∧ w'.cell? (ad119.add (x55_4).toNat) = some (.slice (some ⟨go45, 0, none⟩) (rd_ListBool x5_5 x55_4).length c119_0) ∧ w'.cell? ⟨go45, (x60_5).toNat, none⟩ = some (.bool true)) (ds := [31]) (tb_ 32 0) (by kernel_rfl) rfl rfl ⟨hx119_0, hx120_0, hx121_0⟩ (fun hHeld => ?_); refine with_tabW z30.tab22 z30.bits22 (fun HT_ HW_ => ?_)
                 generalize wr.drew = w46 at HO_5 HB GG45 HL119_0 HL120_0 HQ47 HR119_0 HR120_0 HX119_0 HX120_0 hf45_0 hx119_0 hx120_0 hx121_0 hx45_0 hHeld ⊢
                 refine PV_ (i := 0) (N := some 63) (tb_ 32 1) HT_ rfl rfl (h := ?_)
                 refine PV_ (i := 1) (N := some 64) (tb_ 32 3) HT_ rfl rfl (h := ?_)
                 refine PV_ (i := 2) (N := some 65) (tb_ 32 7) HT_ rfl rfl (h := ?_)
                 refine PV_ (i := 4) (N := some 67) (tb_ 32 23) HT_ rfl rfl (h := ?_)
                 refine PV_ (i := 5) (N := some 68) (tb_ 32 55) HT_ rfl rfl (h := ?_)
                 refine PV_ (i := 6) (N := some 69) (tb_ 32 119) HT_ rfl rfl (h := ?_)
                 refine PV_ (i := 7) (N := some 70) (tb_ 32 247) HT_ rfl rfl (h := ?_)
                 refine PV_ (i := 9) (N := some 72) (tb_ 32 759) HT_ rfl rfl (h := ?_)
                 refine TV_ (i := 3) (N := some 66) (tb_ 32 767) HT_ HW_ rfl rfl hHeld (by rintro w' ⟨s0, s1, s2⟩; go_simp; with_reducible rfl) (h := ?_)
                 refine TV_ (i := 8) (N := some 71) (tb_ 32 1023) HT_ HW_ rfl rfl hHeld (by rintro w' ⟨s0, s1, s2⟩; go_simp; with_reducible rfl) (h := ?_)
                 refine PV_ (i := 10) (N := some 73) (tb_ 32 2047) HT_ rfl rfl (h := ?_)
                 refine TV_ (i := 11) (N := some 74) (tb_ 32 4095) HT_ HW_ rfl rfl hHeld (by rintro w' ⟨s0, s1, s2⟩; go_simp; with_reducible rfl) (h := ?_)
                 refine PV_ (i := 12) (N := some 75) (tb_ 32 8191) HT_ rfl rfl (h := ?_)
                 refine PU_ (i := 13) (N := some 76) (tb_ 32 16383) HT_ rfl rfl (h := ?_)
                 refine PU_ (i := 14) (N := some 77) (tb_ 32 32767) HT_ rfl rfl (h := ?_)
                 refine PU_ (i := 15) (N := some 78) (tb_ 32 65535) HT_ rfl rfl (h := ?_)
                 refine PU_ (i := 16) (N := some 79) (tb_ 32 131071) HT_ rfl rfl (h := ?_)
                 refine PU_ (i := 17) (N := some 80) (tb_ 32 262143) HT_ rfl rfl (h := ?_)
                 refine PU_ (i := 18) (N := some 81) (tb_ 32 524287) HT_ rfl rfl (h := ?_)
                 refine PU_ (i := 19) (N := some 82) (tb_ 32 1048575) HT_ rfl rfl (h := ?_)
                 refine PU_ (i := 20) (N := some 83) (tb_ 32 2097151) HT_ rfl rfl (h := ?_)
                 refine PU_ (i := 21) (N := some 84) (tb_ 32 4194303) HT_ rfl rfl (h := ?_)
                 refine PU_ (i := 22) (N := some 85) (tb_ 32 8388607) HT_ rfl rfl (h := ?_)
                 refine PU_ (i := 23) (N := some 86) (tb_ 32 16777215) HT_ rfl rfl (h := ?_)
                 refine PU_ (i := 24) (N := some 87) (tb_ 32 33554431) HT_ rfl rfl (h := ?_)
                 refine PU_ (i := 25) (N := some 88) (tb_ 32 67108863) HT_ rfl rfl (h := ?_)
                 refine PU_ (i := 26) (N := some 89) (tb_ 32 134217727) HT_ rfl rfl (h := ?_)
                 refine PU_ (i := 27) (N := some 90) (tb_ 32 268435455) HT_ rfl rfl (h := ?_)
                 refine PU_ (i := 28) (N := some 91) (tb_ 32 536870911) HT_ rfl rfl (h := ?_)
                 refine PV_ (i := 29) (N := some 92) (tb_ 32 1073741823) HT_ rfl rfl (h := ?_)
                 refine PV_ (i := 30) (N := some 93) (tb_ 32 2147483647) HT_ rfl rfl (h := ?_)
                 refine last_ (i := 31) (N := none) (tb_ 32 4294967295) rfl rfl (one_of HT_.out (by kernel_rfl)) (by decide) (fun K hK => ?_)
                 refine skip_ (w1 := ?_) (by rfl) rfl ?_ ?_
                 rotate_left
                 ·go_simp
                  rfl
                 refine hK.out _ _ ?_
                 clear hK K
                 refine done_ (done_of HT_.out (by kernel_rfl)) ?_
                 try go_wp2
                 (try simp only [← hl5_5])
                 go_roundg k5
                 case measure => exact Q5_ HK1 HK2 HK3 HK4 HK5
                 case rel => exact ⟨(y124), (wrap64 (x60_5 + 1)), E_, H', ⟨Q5_ HK1 HK2 HK3 HK4 HK5⟩, ⟨by (try simp only [hl5_1]); (try simp only [hl5_2]); (try simp only [hl5_3]); (try simp only [hl5_4]); (try simp only [hl5_5]); (with_reducible repeat (first | apply Kd.S_alloc | apply Kd.S_drewN | apply Kd.S_drew)); exact HQ47.out⟩, ⟨B1_ HB.out GB45.out⟩⟩
                ·replace c44 := Bool.eq_false_iff.mpr c44
                 subst c44
                 replace H := N_ H
                 have c49 := O1_ H
                 replace H := O2_ H
                 have c49b0 := decide_eq_true c49
                 (try rw [hl5_1] at c49b0)
                 (try rw [hl5_2] at c49b0)
                 (try rw [hl5_3] at c49b0)
                 (try rw [hl5_4] at c49b0)
                 (try rw [hl5_5] at c49b0)
                 clear c49
                 have c50 := O1_ H
                 replace H := O2_ H
                 have c50b0 := decide_eq_true c50
                 (try rw [hl5_1] at c50b0)
                 (try rw [hl5_2] at c50b0)
                 (try rw [hl5_3] at c50b0)
                 (try rw [hl5_4] at c50b0)
                 (try rw [hl5_5] at c50b0)
                 clear c50
                 obtain ⟨bq51, hbq51⟩ : ∃ b_ : Bool, b_ = (rdOf false (rd_ListBool x5_5 x55_4) x50_3) := ⟨_, rfl⟩
                 rw [← hbq51] at H
                 have Nbq51 := Aside0.mk hbq51
                 clear hbq51
                 by_cases c52 : bq51 = true
                 ·subst c52
                  replace H := T_ H
                  have c53 := O1_ H
                  replace H := O2_ H
                  have c53b0 := decide_eq_true c53
                  (try rw [hl5_1] at c53b0)
                  (try rw [hl5_2] at c53b0)
                  (try rw [hl5_3] at c53b0)
                  (try rw [hl5_4] at c53b0)
                  (try rw [hl5_5] at c53b0)
                  clear c53
                  have c54 := O1_ H
                  replace H := O2_ H
                  have c54b0 := decide_eq_true c54
                  (try rw [hl5_1] at c54b0)
                  (try rw [hl5_2] at c54b0)
                  (try rw [hl5_3] at c54b0)
                  (try rw [hl5_4] at c54b0)
                  (try rw [hl5_5] at c54b0)
                  clear c54
                  obtain ⟨y129, hy129⟩ : ∃ y_ : List Bool, y_ = ((rd_ListBool x5_5 x55_4).set (x60_5 : Int).toNat (rdOf false (rd_ListBool x5_5 x50_3) x60_5)) := ⟨_, rfl⟩
                  replace H : (z30.l4 k5 (x5_5.set (x55_4 : Int).toNat y129) x50_3 x55_4 (x5_2.length : Int) x50_3 (x5_3.length : Int) x55_4 (x5_4.length : Int) (wrap64 (x60_5 + 1))) = some r := Y_ hy129 H
                  have Ny129 := Aside0.mk hy129
                  clear hy129
                  obtain ⟨y131, hy131⟩ : ∃ y_ : List (List Bool), y_ = (x5_5.set (x55_4 : Int).toNat y129) := ⟨_, rfl⟩
                  replace H : (z30.l4 k5 y131 x50_3 x55_4 (x5_2.length : Int) x50_3 (x5_3.length : Int) x55_4 (x5_4.length : Int) (wrap64 (x60_5 + 1))) = some r := Y_ hy131 H
                  have Ny131 := Aside0.mk hy131
                  clear hy131
                  have H' := Aside0.mk H
                  clear H
                  try go_wp2
                  replace HO_5 := Aside0.mk (Kd.S_drew HO_5.out)
                  replace HB := Aside0.mk (below_drew1 HB.out)
                  have p119 : 0 ≤ (x55_4 : Int) := D_
                  have q119 : x55_4 < (x5_5.length : Int) := D_
                  obtain ⟨ad119, A119_0, c119_0, e119, hx119_0, hl119_0, hi119_0⟩ := at_ListBool (Kd.S_reads' HO_5.out).2.2 x55_4 p119 q119
                  cases e119
                  obtain ⟨ce119, hce119, hMe119, hcc119⟩ := Kd.S_get HO_5.out [] x55_4 p119 (by first | exact q119 | exact D_ | (have e_ := (Kd.S_reads' HO_5.out).1; omega))
                  obtain ⟨ve119_0, rfl, ge119_0⟩ := hMe119
                  have hv119_0 := hcc119 0 _ rfl
                  rw [Nat.add_zero, show ((Kd.slice 4 Kd.bool)).sz = 1 from rfl, Nat.mul_one] at hv119_0
                  replace hv119_0 := Option.some.inj (hv119_0.symm.trans hx119_0)
                  rw [hv119_0] at ge119_0
                  have HL119_0 := Aside0.mk (show Kd.R Kd.bool 4 _ _ _ _ (rd_ListBool x5_5 x55_4) from ge119_0)
                  clear hv119_0 ge119_0
                  have HX119_0 := Aside0.mk hx119_0
                  clear hcc119 hce119
                  have HR119_0 := Aside0.mk hi119_0
                  have HC119_0 := Aside0.mk hl119_0
                  clear hi119_0 hl119_0
                  replace p119 := eq_true p119
                  replace q119 := eq_true q119
                  have p120 : 0 ≤ (x55_4 : Int) := D_
                  have q120 : x55_4 < (x5_5.length : Int) := D_
                  obtain ⟨ad120, A120_0, c120_0, e120, hx120_0, hl120_0, hi120_0⟩ := at_ListBool (Kd.S_reads' HO_5.out).2.2 x55_4 p120 q120
                  obtain rfl : ad119 = ad120 := (by injection e120)
                  obtain ⟨ce120, hce120, hMe120, hcc120⟩ := Kd.S_get HO_5.out [] x55_4 p120 (by first | exact q120 | exact D_ | (have e_ := (Kd.S_reads' HO_5.out).1; omega))
                  obtain ⟨ve120_0, rfl, ge120_0⟩ := hMe120
                  have hv120_0 := hcc120 0 _ rfl
                  rw [Nat.add_zero, show ((Kd.slice 4 Kd.bool)).sz = 1 from rfl, Nat.mul_one] at hv120_0
                  replace hv120_0 := Option.some.inj (hv120_0.symm.trans hx120_0)
                  rw [hv120_0] at ge120_0
                  have HL120_0 := Aside0.mk (show Kd.R Kd.bool 4 _ _ _ _ (rd_ListBool x5_5 x55_4) from ge120_0)
                  clear hv120_0 ge120_0
                  have HX120_0 := Aside0.mk hx120_0
                  clear hcc120 hce120
                  have HR120_0 := Aside0.mk hi120_0
                  have HC120_0 := Aside0.mk hl120_0
                  clear hi120_0 hl120_0
                  replace p120 := eq_true p120
                  replace q120 := eq_true q120
                  have ea_ := Option.some.inj (hx119_0.symm.trans hx120_0)
                  injection ea_ with ea_ en_ ec_
                  subst ea_
                  subst ec_
                  clear en_
                  have p121 : 0 ≤ (x60_5 : Int) := D_
                  have q121 : x60_5 < ((rd_ListBool x5_5 x55_4).length : Int) := D_
                  obtain ⟨ad121, e121, hx121_0⟩ := Kd.at_bool (KC_ HR120_0.out) x60_5 p121 q121
                  (try rw [← Nbq43.out] at hx121_0)
                  (try rw [← Nbq51.out] at hx121_0)
                  cases e121
                  replace p121 := eq_true p121
                  replace q121 := eq_true q121
                  have p125 : 0 ≤ (x55_4 : Int) := D_
                  have q125 : x55_4 < (x5_5.length : Int) := D_
                  obtain ⟨ad125, A125_0, c125_0, e125, hx125_0, hl125_0, hi125_0⟩ := at_ListBool (Kd.S_reads' HO_5.out).2.2 x55_4 p125 q125
                  obtain rfl : ad119 = ad125 := (by injection e125)
                  obtain ⟨ce125, hce125, hMe125, hcc125⟩ := Kd.S_get HO_5.out [] x55_4 p125 (by first | exact q125 | exact D_ | (have e_ := (Kd.S_reads' HO_5.out).1; omega))
                  obtain ⟨ve125_0, rfl, ge125_0⟩ := hMe125
                  have hv125_0 := hcc125 0 _ rfl
                  rw [Nat.add_zero, show ((Kd.slice 4 Kd.bool)).sz = 1 from rfl, Nat.mul_one] at hv125_0
                  replace hv125_0 := Option.some.inj (hv125_0.symm.trans hx125_0)
                  rw [hv125_0] at ge125_0
                  have HL125_0 := Aside0.mk (show Kd.R Kd.bool 4 _ _ _ _ (rd_ListBool x5_5 x55_4) from ge125_0)
                  clear hv125_0 ge125_0
                  have HX125_0 := Aside0.mk hx125_0
                  clear hcc125 hce125
                  have HR125_0 := Aside0.mk hi125_0
                  have HC125_0 := Aside0.mk hl125_0
                  clear hi125_0 hl125_0
                  replace p125 := eq_true p125
                  replace q125 := eq_true q125
                  have ea_ := Option.some.inj (hx119_0.symm.trans hx125_0)
                  injection ea_ with ea_ en_ ec_
                  subst ea_
                  subst ec_
                  clear en_
                  have p126 : 0 ≤ (x50_3 : Int) := D_
                  have q126 : x50_3 < ((rd_ListBool x5_5 x55_4).length : Int) := D_
                  obtain ⟨ad126, e126, hx126_0⟩ := Kd.at_bool (KC_ HR125_0.out) x50_3 p126 q126
                  (try rw [← Nbq43.out] at hx126_0)
                  (try rw [← Nbq51.out] at hx126_0)
                  cases e126
                  replace p126 := eq_true p126
                  replace q126 := eq_true q126
                  have p127 : 0 ≤ (x50_3 : Int) := D_
                  have q127 : x50_3 < (x5_5.length : Int) := D_
                  obtain ⟨ad127, A127_0, c127_0, e127, hx127_0, hl127_0, hi127_0⟩ := at_ListBool (Kd.S_reads' HO_5.out).2.2 x50_3 p127 q127
                  obtain rfl : ad119 = ad127 := (by injection e127)
                  obtain ⟨ce127, hce127, hMe127, hcc127⟩ := Kd.S_get HO_5.out [] x50_3 p127 (by first | exact q127 | exact D_ | (have e_ := (Kd.S_reads' HO_5.out).1; omega))
                  obtain ⟨ve127_0, rfl, ge127_0⟩ := hMe127
                  have hv127_0 := hcc127 0 _ rfl
                  rw [Nat.add_zero, show ((Kd.slice 4 Kd.bool)).sz = 1 from rfl, Nat.mul_one] at hv127_0
                  replace hv127_0 := Option.some.inj (hv127_0.symm.trans hx127_0)
                  rw [hv127_0] at ge127_0
                  have HL127_0 := Aside0.mk (show Kd.R Kd.bool 4 _ _ _ _ (rd_ListBool x5_5 x50_3) from ge127_0)
                  clear hv127_0 ge127_0
                  have HX127_0 := Aside0.mk hx127_0
                  clear hcc127 hce127
                  have HR127_0 := Aside0.mk hi127_0
                  have HC127_0 := Aside0.mk hl127_0
                  clear hi127_0 hl127_0
                  replace p127 := eq_true p127
                  replace q127 := eq_true q127
                  have p128 : 0 ≤ (x60_5 : Int) := D_
                  have q128 : x60_5 < ((rd_ListBool x5_5 x50_3).length : Int) := D_
                  obtain ⟨ad128, e128, hx128_0⟩ := Kd.at_bool (KC_ HR127_0.out) x60_5 p128 q128
                  (try rw [← Nbq43.out] at hx128_0)
                  (try rw [← Nbq51.out] at hx128_0)
                  cases e128
                  replace p128 := eq_true p128
                  replace q128 := eq_true q128
                  have p55 : 0 ≤ (x60_5 : Int) := D_
                  have q55 : (x60_5 : Int) < (((rd_ListBool x5_5 x55_4).length : Int) : Int) := D_
                  obtain ⟨go55, co55, eo55, gb55, gl55, cl55, HG55⟩ := Kd.R_form HL119_0.out (by omega)
                  (first | cases eo55 | (injection eo55 with ea_ en_ ec_; (first | subst ea_ | (injection ea_ with ea_; subst ea_)); subst ec_; clear en_))
                  (first | simp only [add_plain] at hx121_0 | skip)
                  (first | simp only [add_plain] at hx126_0 | skip)
                  have GB55 := Aside0.mk gb55
                  have GG55 := Aside0.mk HG55
                  clear gb55 gl55 HG55
                  (first | simp only [add_plain] at hx126_0 | skip)
                  obtain ⟨hx55_0, hf55_0⟩ := Kd.R_celln false HL119_0.out (x60_5 : Int) p55 q55
                  replace p55 := eq_true p55
                  replace q55 := eq_true q55
                  have hq57 : (x55_4 : Int) < (x5_5.length : Int) := (by have h_ : (x55_4 : Int) < ((x5_5.length : Int) : Int) := D_; first | exact h_ | (have e_ := (Kd.S_reads' HO_5.out).1; omega) | simpa only [List.length_set, List.length_set] using h_)
                  obtain ⟨oki57, ce57, hcl57, hM57, hcc57, hok57, hbk57⟩ := Kd.S_borrow HO_5.out [] (x55_4 : Int) (D_) (by first | exact hq57 | (have e_ := (Kd.S_reads' HO_5.out).1; have h_ := hq57; omega))
                  obtain ⟨ve57_0, rfl, ge57_0⟩ := hM57
                  have hv57 := hcc57 0 _ rfl
                  rw [Nat.add_zero, show ((Kd.slice 4 Kd.bool)).sz = 1 from rfl, Nat.mul_one] at hv57
                  replace hv57 := Option.some.inj (hv57.symm.trans HX119_0.out)
                  subst hv57
                  clear hcc57 hcl57
                  replace ge57_0 := (show Kd.R Kd.bool 4 _ _ _ _ (rd_ListBool x5_5 x55_4) from ge57_0)
                  have HP57 := Kd.R_putg ge57_0 (x60_5 : Int) (rdOf false (rd_ListBool x5_5 x50_3) x60_5)
                  rw [← Ny129.out] at HP57
                  have HS57 := hbk57 HP57.2 (fun k_ e_ => by injection e_ with e_; subst e_; exact ge57_0.1 _ rfl) (x' := y129) (Kd.M_row HP57.1)
                  rw [← Ny131.out] at HS57
                  have HQ57 := Aside0.mk HS57
                  clear HP57 HS57 hbk57 hok57
                  refine start_ (n := 32) (S := fun w' => w'.cell? (ad119.add (x55_4).toNat) = some (.slice (some ⟨go55, 0, none⟩) (rd_ListBool x5_5 x55_4).length c119_0) ∧ w'.cell? (ad119.add (x55_4).toNat) = some (.slice (some ⟨go55, 0, none⟩) (rd_ListBool x5_5 x55_4).length c119_0) ∧ w'.cell? ⟨go55, (x60_5).toNat, none⟩ = some (.bool false) ∧ w'.cell? (ad119.add (x55_4).toNat) = some (.slice (some ⟨go55, 0, none⟩) (rd_ListBool x5_5 x55_4).length c119_0) ∧ w'.cell? ⟨go55, (x50_3).toNat, none⟩ = some (.bool true) ∧ w'.cell? (ad119.add (x50_3).toNat) = some (.slice (some ad128) (rd_ListBool x5_5 x50_3).length c127_0) ∧ w'.cell? (ad128.add (x60_5).toNat) = some (.bool (rdOf false (rd_ListBool x5_5 x50_3) x60_5))) (ds := [31]) (tb_ 32 0) (by kernel_rfl) rfl rfl ⟨hx119_0, hx120_0, hx121_0, hx125_0, hx126_0, hx127_0, hx128_0⟩ (fun hHeld => ?_); refine with_tabW z30.tab22 z30.bits22 (fun HT_ HW_ => ?_)
                  generalize wr.drew = w56 at HO_5 HB GG55 HL119_0 HL120_0 HL125_0 HL127_0 HQ57 HR119_0 HR120_0 HR125_0 HR127_0 HX119_0 HX120_0 HX125_0 HX127_0 hf55_0 hx119_0 hx120_0 hx121_0 hx125_0 hx126_0 hx127_0 hx128_0 hx55_0 hHeld ⊢
                  refine PV_ (i := 0) (N := some 63) (tb_ 32 1) HT_ rfl rfl (h := ?_)
                  refine PV_ (i := 1) (N := some 64) (tb_ 32 3) HT_ rfl rfl (h := ?_)
                  refine PV_ (i := 2) (N := some 65) (tb_ 32 7) HT_ rfl rfl (h := ?_)
                  refine PV_ (i := 4) (N := some 67) (tb_ 32 23) HT_ rfl rfl (h := ?_)
                  refine PV_ (i := 5) (N := some 68) (tb_ 32 55) HT_ rfl rfl (h := ?_)
                  refine PV_ (i := 6) (N := some 69) (tb_ 32 119) HT_ rfl rfl (h := ?_)
                  refine PV_ (i := 7) (N := some 70) (tb_ 32 247) HT_ rfl rfl (h := ?_)
                  refine PV_ (i := 9) (N := some 72) (tb_ 32 759) HT_ rfl rfl (h := ?_)
                  refine TV_ (i := 3) (N := some 66) (tb_ 32 767) HT_ HW_ rfl rfl hHeld (by rintro w' ⟨s0, s1, s2, s3, s4, s5, s6⟩; go_simp; with_reducible rfl) (h := ?_)
                  refine TV_ (i := 8) (N := some 71) (tb_ 32 1023) HT_ HW_ rfl rfl hHeld (by rintro w' ⟨s0, s1, s2, s3, s4, s5, s6⟩; go_simp; with_reducible rfl) (h := ?_)
                  refine PV_ (i := 10) (N := some 73) (tb_ 32 2047) HT_ rfl rfl (h := ?_)
                  refine TV_ (i := 11) (N := some 74) (tb_ 32 4095) HT_ HW_ rfl rfl hHeld (by rintro w' ⟨s0, s1, s2, s3, s4, s5, s6⟩; go_simp; with_reducible rfl) (h := ?_)
                  refine PV_ (i := 12) (N := some 75) (tb_ 32 8191) HT_ rfl rfl (h := ?_)
                  refine PV_ (i := 13) (N := some 76) (tb_ 32 16383) HT_ rfl rfl (h := ?_)
                  refine PV_ (i := 14) (N := some 77) (tb_ 32 32767) HT_ rfl rfl (h := ?_)
                  refine PV_ (i := 15) (N := some 78) (tb_ 32 65535) HT_ rfl rfl (h := ?_)
                  refine PV_ (i := 17) (N := some 80) (tb_ 32 196607) HT_ rfl rfl (h := ?_)
                  refine TV_ (i := 16) (N := some 79) (tb_ 32 262143) HT_ HW_ rfl rfl hHeld (by rintro w' ⟨s0, s1, s2, s3, s4, s5, s6⟩; go_simp; with_reducible rfl) (h := ?_)
                  refine PV_ (i := 18) (N := some 81) (tb_ 32 524287) HT_ rfl rfl (h := ?_)
                  refine TV_ (i := 19) (N := some 82) (tb_ 32 1048575) HT_ HW_ rfl rfl hHeld (by rintro w' ⟨s0, s1, s2, s3, s4, s5, s6⟩; go_simp; with_reducible rfl) (h := ?_)
                  refine PV_ (i := 20) (N := some 83) (tb_ 32 2097151) HT_ rfl rfl (h := ?_)
                  refine PV_ (i := 21) (N := some 84) (tb_ 32 4194303) HT_ rfl rfl (h := ?_)
                  refine PV_ (i := 22) (N := some 85) (tb_ 32 8388607) HT_ rfl rfl (h := ?_)
                  refine PV_ (i := 23) (N := some 86) (tb_ 32 16777215) HT_ rfl rfl (h := ?_)
                  refine PV_ (i := 25) (N := some 88) (tb_ 32 50331647) HT_ rfl rfl (h := ?_)
                  refine TV_ (i := 24) (N := some 87) (tb_ 32 67108863) HT_ HW_ rfl rfl hHeld (by rintro w' ⟨s0, s1, s2, s3, s4, s5, s6⟩; go_simp; with_reducible rfl) (h := ?_)
                  refine PV_ (i := 26) (N := some 89) (tb_ 32 134217727) HT_ rfl rfl (h := ?_)
                  refine TV_ (i := 27) (N := some 90) (tb_ 32 268435455) HT_ HW_ rfl rfl hHeld (by rintro w' ⟨s0, s1, s2, s3, s4, s5, s6⟩; go_simp; with_reducible rfl) (h := ?_)
                  refine PV_ (i := 28) (N := some 91) (tb_ 32 536870911) HT_ rfl rfl (h := ?_)
                  refine PV_ (i := 29) (N := some 92) (tb_ 32 1073741823) HT_ rfl rfl (h := ?_)
                  refine PV_ (i := 30) (N := some 93) (tb_ 32 2147483647) HT_ rfl rfl (h := ?_)
                  refine last_ (i := 31) (N := none) (tb_ 32 4294967295) rfl rfl (one_of HT_.out (by kernel_rfl)) (by decide) (fun K hK => ?_)
                  refine skip_ (w1 := ?_) (by rfl) rfl ?_ ?_
                  rotate_left
                  ·go_simp
                   rfl
                  refine hK.out _ _ ?_
                  clear hK K
                  refine done_ (done_of HT_.out (by kernel_rfl)) ?_
                  try go_wp2
                  (try simp only [← hl5_5])
                  go_roundg k5
                  case measure => exact Q5_ HK1 HK2 HK3 HK4 HK5
                  case rel => exact ⟨(y131), (wrap64 (x60_5 + 1)), E_, H', ⟨Q5_ HK1 HK2 HK3 HK4 HK5⟩, ⟨by (try simp only [hl5_1]); (try simp only [hl5_2]); (try simp only [hl5_3]); (try simp only [hl5_4]); (try simp only [hl5_5]); (with_reducible repeat (first | apply Kd.S_alloc | apply Kd.S_drewN | apply Kd.S_drew)); exact HQ57.out⟩, ⟨B1_ HB.out GB55.out⟩⟩
                 ·replace c52 := Bool.eq_false_iff.mpr c52
                  subst c52
                  replace H := N_ H
                  obtain ⟨y132, hy132⟩ : ∃ y_ : List Bool, y_ = ((rd_ListBool x5_5 x55_4).set (x60_5 : Int).toNat false) := ⟨_, rfl⟩
                  replace H : (z30.l4 k5 (x5_5.set (x55_4 : Int).toNat y132) x50_3 x55_4 (x5_2.length : Int) x50_3 (x5_3.length : Int) x55_4 (x5_4.length : Int) (wrap64 (x60_5 + 1))) = some r := Y_ hy132 H
                  have Ny132 := Aside0.mk hy132
                  clear hy132
                  obtain ⟨y134, hy134⟩ : ∃ y_ : List (List Bool), y_ = (x5_5.set (x55_4 : Int).toNat y132) := ⟨_, rfl⟩
                  replace H : (z30.l4 k5 y134 x50_3 x55_4 (x5_2.length : Int) x50_3 (x5_3.length : Int) x55_4 (x5_4.length : Int) (wrap64 (x60_5 + 1))) = some r := Y_ hy134 H
                  have Ny134 := Aside0.mk hy134
                  clear hy134
                  have H' := Aside0.mk H
                  clear H
                  try go_wp2
                  replace HO_5 := Aside0.mk (Kd.S_drew HO_5.out)
                  replace HB := Aside0.mk (below_drew1 HB.out)
                  have p119 : 0 ≤ (x55_4 : Int) := D_
                  have q119 : x55_4 < (x5_5.length : Int) := D_
                  obtain ⟨ad119, A119_0, c119_0, e119, hx119_0, hl119_0, hi119_0⟩ := at_ListBool (Kd.S_reads' HO_5.out).2.2 x55_4 p119 q119
                  cases e119
                  obtain ⟨ce119, hce119, hMe119, hcc119⟩ := Kd.S_get HO_5.out [] x55_4 p119 (by first | exact q119 | exact D_ | (have e_ := (Kd.S_reads' HO_5.out).1; omega))
                  obtain ⟨ve119_0, rfl, ge119_0⟩ := hMe119
                  have hv119_0 := hcc119 0 _ rfl
                  rw [Nat.add_zero, show ((Kd.slice 4 Kd.bool)).sz = 1 from rfl, Nat.mul_one] at hv119_0
                  replace hv119_0 := Option.some.inj (hv119_0.symm.trans hx119_0)
                  rw [hv119_0] at ge119_0
                  have HL119_0 := Aside0.mk (show Kd.R Kd.bool 4 _ _ _ _ (rd_ListBool x5_5 x55_4) from ge119_0)
                  clear hv119_0 ge119_0
                  have HX119_0 := Aside0.mk hx119_0
                  clear hcc119 hce119
                  have HR119_0 := Aside0.mk hi119_0
                  have HC119_0 := Aside0.mk hl119_0
                  clear hi119_0 hl119_0
                  replace p119 := eq_true p119
                  replace q119 := eq_true q119
                  have p120 : 0 ≤ (x55_4 : Int) := D_
                  have q120 : x55_4 < (x5_5.length : Int) := D_
                  obtain ⟨ad120, A120_0, c120_0, e120, hx120_0, hl120_0, hi120_0⟩ := at_ListBool (Kd.S_reads' HO_5.out).2.2 x55_4 p120 q120
                  obtain rfl : ad119 = ad120 := (by injection e120)
                  obtain ⟨ce120, hce120, hMe120, hcc120⟩ := Kd.S_get HO_5.out [] x55_4 p120 (by first | exact q120 | exact D_ | (have e_ := (Kd.S_reads' HO_5.out).1; omega))
                  obtain ⟨ve120_0, rfl, ge120_0⟩ := hMe120
                  have hv120_0 := hcc120 0 _ rfl
                  rw [Nat.add_zero, show ((Kd.slice 4 Kd.bool)).sz = 1 from rfl, Nat.mul_one] at hv120_0
                  replace hv120_0 := Option.some.inj (hv120_0.symm.trans hx120_0)
                  rw [hv120_0] at ge120_0
                  have HL120_0 := Aside0.mk (show Kd.R Kd.bool 4 _ _ _ _ (rd_ListBool x5_5 x55_4) from ge120_0)
                  clear hv120_0 ge120_0
                  have HX120_0 := Aside0.mk hx120_0
                  clear hcc120 hce120
                  have HR120_0 := Aside0.mk hi120_0
                  have HC120_0 := Aside0.mk hl120_0
                  clear hi120_0 hl120_0
                  replace p120 := eq_true p120
                  replace q120 := eq_true q120
                  have ea_ := Option.some.inj (hx119_0.symm.trans hx120_0)
                  injection ea_ with ea_ en_ ec_
                  subst ea_
                  subst ec_
                  clear en_
                  have p121 : 0 ≤ (x60_5 : Int) := D_
                  have q121 : x60_5 < ((rd_ListBool x5_5 x55_4).length : Int) := D_
                  obtain ⟨ad121, e121, hx121_0⟩ := Kd.at_bool (KC_ HR120_0.out) x60_5 p121 q121
                  (try rw [← Nbq43.out] at hx121_0)
                  (try rw [← Nbq51.out] at hx121_0)
                  cases e121
                  replace p121 := eq_true p121
                  replace q121 := eq_true q121
                  have p125 : 0 ≤ (x55_4 : Int) := D_
                  have q125 : x55_4 < (x5_5.length : Int) := D_
                  obtain ⟨ad125, A125_0, c125_0, e125, hx125_0, hl125_0, hi125_0⟩ := at_ListBool (Kd.S_reads' HO_5.out).2.2 x55_4 p125 q125
                  obtain rfl : ad119 = ad125 := (by injection e125)
                  obtain ⟨ce125, hce125, hMe125, hcc125⟩ := Kd.S_get HO_5.out [] x55_4 p125 (by first | exact q125 | exact D_ | (have e_ := (Kd.S_reads' HO_5.out).1; omega))
                  obtain ⟨ve125_0, rfl, ge125_0⟩ := hMe125
                  have hv125_0 := hcc125 0 _ rfl
                  rw [Nat.add_zero, show ((Kd.slice 4 Kd.bool)).sz = 1 from rfl, Nat.mul_one] at hv125_0
                  replace hv125_0 := Option.some.inj (hv125_0.symm.trans hx125_0)
                  rw [hv125_0] at ge125_0
                  have HL125_0 := Aside0.mk (show Kd.R Kd.bool 4 _ _ _ _ (rd_ListBool x5_5 x55_4) from ge125_0)
                  clear hv125_0 ge125_0
                  have HX125_0 := Aside0.mk hx125_0
                  clear hcc125 hce125
                  have HR125_0 := Aside0.mk hi125_0
                  have HC125_0 := Aside0.mk hl125_0
                  clear hi125_0 hl125_0
                  replace p125 := eq_true p125
                  replace q125 := eq_true q125
                  have ea_ := Option.some.inj (hx119_0.symm.trans hx125_0)
                  injection ea_ with ea_ en_ ec_
                  subst ea_
                  subst ec_
                  clear en_
                  have p126 : 0 ≤ (x50_3 : Int) := D_
                  have q126 : x50_3 < ((rd_ListBool x5_5 x55_4).length : Int) := D_
                  obtain ⟨ad126, e126, hx126_0⟩ := Kd.at_bool (KC_ HR125_0.out) x50_3 p126 q126
                  (try rw [← Nbq43.out] at hx126_0)
                  (try rw [← Nbq51.out] at hx126_0)
                  cases e126
                  replace p126 := eq_true p126
                  replace q126 := eq_true q126
                  have p59 : 0 ≤ (x60_5 : Int) := D_
                  have q59 : (x60_5 : Int) < (((rd_ListBool x5_5 x55_4).length : Int) : Int) := D_
                  obtain ⟨go59, co59, eo59, gb59, gl59, cl59, HG59⟩ := Kd.R_form HL119_0.out (by omega)
                  (first | cases eo59 | (injection eo59 with ea_ en_ ec_; (first | subst ea_ | (injection ea_ with ea_; subst ea_)); subst ec_; clear en_))
                  (first | simp only [add_plain] at hx121_0 | skip)
                  (first | simp only [add_plain] at hx126_0 | skip)
                  have GB59 := Aside0.mk gb59
                  have GG59 := Aside0.mk HG59
                  clear gb59 gl59 HG59
                  (first | simp only [add_plain] at hx126_0 | skip)
                  obtain ⟨hx59_0, hf59_0⟩ := Kd.R_celln false HL119_0.out (x60_5 : Int) p59 q59
                  replace p59 := eq_true p59
                  replace q59 := eq_true q59
                  have hq61 : (x55_4 : Int) < (x5_5.length : Int) := (by have h_ : (x55_4 : Int) < ((x5_5.length : Int) : Int) := D_; first | exact h_ | (have e_ := (Kd.S_reads' HO_5.out).1; omega) | simpa only [List.length_set, List.length_set] using h_)
                  obtain ⟨oki61, ce61, hcl61, hM61, hcc61, hok61, hbk61⟩ := Kd.S_borrow HO_5.out [] (x55_4 : Int) (D_) (by first | exact hq61 | (have e_ := (Kd.S_reads' HO_5.out).1; have h_ := hq61; omega))
                  obtain ⟨ve61_0, rfl, ge61_0⟩ := hM61
                  have hv61 := hcc61 0 _ rfl
                  rw [Nat.add_zero, show ((Kd.slice 4 Kd.bool)).sz = 1 from rfl, Nat.mul_one] at hv61
                  replace hv61 := Option.some.inj (hv61.symm.trans HX119_0.out)
                  subst hv61
                  clear hcc61 hcl61
                  replace ge61_0 := (show Kd.R Kd.bool 4 _ _ _ _ (rd_ListBool x5_5 x55_4) from ge61_0)
                  have HP61 := Kd.R_putg ge61_0 (x60_5 : Int) false
                  rw [← Ny132.out] at HP61
                  have HS61 := hbk61 HP61.2 (fun k_ e_ => by injection e_ with e_; subst e_; exact ge61_0.1 _ rfl) (x' := y132) (Kd.M_row HP61.1)
                  rw [← Ny134.out] at HS61
                  have HQ61 := Aside0.mk HS61
                  clear HP61 HS61 hbk61 hok61
                  refine start_ (n := 32) (S := fun w' => w'.cell? (ad119.add (x55_4).toNat) = some (.slice (some ⟨go59, 0, none⟩) (rd_ListBool x5_5 x55_4).length c119_0) ∧ w'.cell? (ad119.add (x55_4).toNat) = some (.slice (some ⟨go59, 0, none⟩) (rd_ListBool x5_5 x55_4).length c119_0) ∧ w'.cell? ⟨go59, (x60_5).toNat, none⟩ = some (.bool false) ∧ w'.cell? (ad119.add (x55_4).toNat) = some (.slice (some ⟨go59, 0, none⟩) (rd_ListBool x5_5 x55_4).length c119_0) ∧ w'.cell? ⟨go59, (x50_3).toNat, none⟩ = some (.bool false)) (ds := [31]) (tb_ 32 0) (by kernel_rfl) rfl rfl ⟨hx119_0, hx120_0, hx121_0, hx125_0, hx126_0⟩ (fun hHeld => ?_); refine with_tabW z30.tab22 z30.bits22 (fun HT_ HW_ => ?_)
                  generalize wr.drew = w60 at HO_5 HB GG59 HL119_0 HL120_0 HL125_0 HQ61 HR119_0 HR120_0 HR125_0 HX119_0 HX120_0 HX125_0 hf59_0 hx119_0 hx120_0 hx121_0 hx125_0 hx126_0 hx59_0 hHeld ⊢
                  refine PV_ (i := 0) (N := some 63) (tb_ 32 1) HT_ rfl rfl (h := ?_)
                  refine PV_ (i := 1) (N := some 64) (tb_ 32 3) HT_ rfl rfl (h := ?_)
                  refine PV_ (i := 2) (N := some 65) (tb_ 32 7) HT_ rfl rfl (h := ?_)
                  refine PV_ (i := 4) (N := some 67) (tb_ 32 23) HT_ rfl rfl (h := ?_)
                  refine PV_ (i := 5) (N := some 68) (tb_ 32 55) HT_ rfl rfl (h := ?_)
                  refine PV_ (i := 6) (N := some 69) (tb_ 32 119) HT_ rfl rfl (h := ?_)
                  refine PV_ (i := 7) (N := some 70) (tb_ 32 247) HT_ rfl rfl (h := ?_)
                  refine PV_ (i := 9) (N := some 72) (tb_ 32 759) HT_ rfl rfl (h := ?_)
                  refine TV_ (i := 3) (N := some 66) (tb_ 32 767) HT_ HW_ rfl rfl hHeld (by rintro w' ⟨s0, s1, s2, s3, s4⟩; go_simp; with_reducible rfl) (h := ?_)
                  refine TV_ (i := 8) (N := some 71) (tb_ 32 1023) HT_ HW_ rfl rfl hHeld (by rintro w' ⟨s0, s1, s2, s3, s4⟩; go_simp; with_reducible rfl) (h := ?_)
                  refine PV_ (i := 10) (N := some 73) (tb_ 32 2047) HT_ rfl rfl (h := ?_)
                  refine TV_ (i := 11) (N := some 74) (tb_ 32 4095) HT_ HW_ rfl rfl hHeld (by rintro w' ⟨s0, s1, s2, s3, s4⟩; go_simp; with_reducible rfl) (h := ?_)
                  refine PV_ (i := 12) (N := some 75) (tb_ 32 8191) HT_ rfl rfl (h := ?_)
                  refine PV_ (i := 13) (N := some 76) (tb_ 32 16383) HT_ rfl rfl (h := ?_)
                  refine PV_ (i := 14) (N := some 77) (tb_ 32 32767) HT_ rfl rfl (h := ?_)
                  refine PV_ (i := 15) (N := some 78) (tb_ 32 65535) HT_ rfl rfl (h := ?_)
                  refine PV_ (i := 17) (N := some 80) (tb_ 32 196607) HT_ rfl rfl (h := ?_)
                  refine TV_ (i := 16) (N := some 79) (tb_ 32 262143) HT_ HW_ rfl rfl hHeld (by rintro w' ⟨s0, s1, s2, s3, s4⟩; go_simp; with_reducible rfl) (h := ?_)
                  refine PV_ (i := 18) (N := some 81) (tb_ 32 524287) HT_ rfl rfl (h := ?_)
                  refine TV_ (i := 19) (N := some 82) (tb_ 32 1048575) HT_ HW_ rfl rfl hHeld (by rintro w' ⟨s0, s1, s2, s3, s4⟩; go_simp; with_reducible rfl) (h := ?_)
                  refine PV_ (i := 20) (N := some 83) (tb_ 32 2097151) HT_ rfl rfl (h := ?_)
                  refine PU_ (i := 21) (N := some 84) (tb_ 32 4194303) HT_ rfl rfl (h := ?_)
                  refine PU_ (i := 22) (N := some 85) (tb_ 32 8388607) HT_ rfl rfl (h := ?_)
                  refine PU_ (i := 23) (N := some 86) (tb_ 32 16777215) HT_ rfl rfl (h := ?_)
                  refine PU_ (i := 24) (N := some 87) (tb_ 32 33554431) HT_ rfl rfl (h := ?_)
                  refine PU_ (i := 25) (N := some 88) (tb_ 32 67108863) HT_ rfl rfl (h := ?_)
                  refine PU_ (i := 26) (N := some 89) (tb_ 32 134217727) HT_ rfl rfl (h := ?_)
                  refine PU_ (i := 27) (N := some 90) (tb_ 32 268435455) HT_ rfl rfl (h := ?_)
                  refine PV_ (i := 28) (N := some 91) (tb_ 32 536870911) HT_ rfl rfl (h := ?_)
                  refine PV_ (i := 29) (N := some 92) (tb_ 32 1073741823) HT_ rfl rfl (h := ?_)
                  refine PV_ (i := 30) (N := some 93) (tb_ 32 2147483647) HT_ rfl rfl (h := ?_)
                  refine last_ (i := 31) (N := none) (tb_ 32 4294967295) rfl rfl (one_of HT_.out (by kernel_rfl)) (by decide) (fun K hK => ?_)
                  refine skip_ (w1 := ?_) (by rfl) rfl ?_ ?_
                  rotate_left
                  ·go_simp
                   rfl
                  refine hK.out _ _ ?_
                  clear hK K
                  refine done_ (done_of HT_.out (by kernel_rfl)) ?_
                  try go_wp2
                  (try simp only [← hl5_5])
                  go_roundg k5
                  case measure => exact Q5_ HK1 HK2 HK3 HK4 HK5
                  case rel => exact ⟨(y134), (wrap64 (x60_5 + 1)), E_, H', ⟨Q5_ HK1 HK2 HK3 HK4 HK5⟩, ⟨by (try simp only [hl5_1]); (try simp only [hl5_2]); (try simp only [hl5_3]); (try simp only [hl5_4]); (try simp only [hl5_5]); (with_reducible repeat (first | apply Kd.S_alloc | apply Kd.S_drewN | apply Kd.S_drew)); exact HQ61.out⟩, ⟨B1_ HB.out GB59.out⟩⟩
               ·rw [if_neg c38] at H
                have c38b0 : decide (x60_5 < (x5_4.length : Int)) = false := decide_eq_false c38
                (try rw [hl5_1] at c38b0)
                (try rw [hl5_2] at c38b0)
                (try rw [hl5_3] at c38b0)
                (try rw [hl5_4] at c38b0)
                (try rw [hl5_5] at c38b0)
                clear c38
                have H' := Aside0.mk H
                clear H
                go_wp2
                (try simp only [← hl5_4, ← hl5_5])
                go_roundg k5
                case measure => exact Q5_ HK1 HK2 HK3 HK4 HK5
                case rel => exact ⟨(x5_5), (wrap64 (x55_4 + 1)), E_, H', ⟨Q5_ HK1 HK2 HK3 HK4 HK5⟩, ⟨by (try simp only [hl5_1]); (try simp only [hl5_2]); (try simp only [hl5_3]); (try simp only [hl5_4]); (try simp only [hl5_5]); (with_reducible repeat (first | apply Kd.S_alloc | apply Kd.S_drewN | apply Kd.S_drew)); exact HO_5.out⟩, ⟨B_ HB.out⟩⟩
            ·rw [if_neg c37] at H
             have c37b0 : decide (x55_4 < (x5_3.length : Int)) = false := decide_eq_false c37
             (try rw [hl5_1] at c37b0)
             (try rw [hl5_2] at c37b0)
             (try rw [hl5_3] at c37b0)
             (try rw [hl5_4] at c37b0)
             clear c37
             have H' := Aside0.mk H
             clear H
             go_wp2
             (try simp only [← hl5_3, ← hl5_4])
             go_roundg k4
             case measure => exact Q4_ HK1 HK2 HK3 HK4
             case rel => exact ⟨(x5_4), (wrap64 (x50_3 + 1)), E_, H', ⟨Q4_ HK1 HK2 HK3 HK4⟩, ⟨by (try simp only [hl5_1]); (try simp only [hl5_2]); (try simp only [hl5_3]); (try simp only [hl5_4]); (with_reducible repeat (first | apply Kd.S_alloc | apply Kd.S_drewN | apply Kd.S_drew)); exact HO_5.out⟩, ⟨B_ HB.out⟩⟩
         ·rw [if_neg c36] at H
          have c36b0 : decide (x50_3 < (x5_2.length : Int)) = false := decide_eq_false c36
          (try rw [hl5_1] at c36b0)
          (try rw [hl5_2] at c36b0)
          (try rw [hl5_3] at c36b0)
          clear c36
          obtain rfl := Option.some.inj H
          go_wp2
          go_ret
          exact ⟨_, F_, KS_ HO_5.out, B_ HB.out⟩
end Go.Proofs.Ytmnplhkimpeocaa.B
