/- Printed proofs of functions of the program and of the reference, by a program of this work over the kit's printer. -/
import Derived.Test.YtnohkeijhfjbeaaKGPBBGI0
import Derived.Test.YtnohkeijhfjbeaaKW0
namespace Go.Proofs.Ytnohkeijhfjbeaa.B
open Go.RowKit Go.Proofs.YtnohkeijhfjbeaaW.PrintWords Go.Proofs.YtnohkeijhfjbeaaW.PrintLast Go.Proofs.YtnohkeijhfjbeaaW.PrintMore
attribute [local go_sem] max2_int min2_int max_two min_two max_three min_three max_four min_four
set_option linter.unusedVariables false
set_option linter.unusedSimpArgs false
mutual
def z72.l0 : Nat → List (List Bool) → Int → List Int → Int → Int → Option (Int × Int)
 | 0, _, _, _, _, _ => none
 | k + 1, x0, x4, x5, x6, x7 => if 0 ≤ x4 then (if x7 < (shl .i64 1 x4) then (if 0 ≤ x7 then (if x7 < (x5.length : Int) then (if (rd x5 x7) = 0 then (z72.l0 k x0 x4 x5 x6 (wrap64 (x7 + 1))) else (z72.l1 k x0 x4 x5 (wrap64 (x6 + 1)) x7 0)) else (none)) else (none)) else (if 0 ≤ (wrap64 ((shl .i64 1 x4) - 1)) then (if (wrap64 ((shl .i64 1 x4) - 1)) < (x5.length : Int) then (some (x6, rd x5 (wrap64 ((shl .i64 1 x4) - 1)))) else (none)) else (none))) else (none)
def z72.l1 : Nat → List (List Bool) → Int → List Int → Int → Int → Int → Option (Int × Int)
 | 0, _, _, _, _, _, _ => none
 | k + 1, x0, x4, x5, x6, x7, x8 => if x8 < x4 then (if 0 ≤ x8 then (z72.l2 k x0 x4 x5 x6 x7 x8 ((Go.bits .and .i64 x7 (shl .i64 1 x8)) == 0) 0) else (none)) else (z72.l0 k x0 x4 x5 x6 (wrap64 (x7 + 1)))
def z72.l2 : Nat → List (List Bool) → Int → List Int → Int → Int → Int → Bool → Int → Option (Int × Int)
 | 0, _, _, _, _, _, _, _, _ => none
 | k + 1, x0, x4, x5, x6, x7, x8, x9, x10 => if x10 < x4 then (if x9 = true then (if x10 = x8 then (z72.l2 k x0 x4 x5 x6 x7 x8 true (wrap64 (x10 + 1))) else (if 0 ≤ x10 then (if x10 < (x0.length : Int) then (if 0 ≤ x8 then (if x8 < ((rd_ListBool x0 x10).length : Int) then (if (rdOf false (rd_ListBool x0 x10) x8 = true) then (z72.l2 k x0 x4 x5 x6 x7 x8 ((Go.bits .and .i64 x7 (shl .i64 1 x10)) != 0) (wrap64 (x10 + 1))) else (z72.l2 k x0 x4 x5 x6 x7 x8 true (wrap64 (x10 + 1)))) else (none)) else (none)) else (none)) else (none))) else (z72.l1 k x0 x4 x5 x6 x7 (wrap64 (x8 + 1)))) else (if x9 = true then (if 0 ≤ x8 then (if 0 ≤ (Go.bits .or .i64 x7 (shl .i64 1 x8)) then (if (Go.bits .or .i64 x7 (shl .i64 1 x8)) < (x5.length : Int) then (if 0 ≤ x7 then (if x7 < (x5.length : Int) then (z72.l1 k x0 x4 (x5.set ((Go.bits .or .i64 x7 (shl .i64 1 x8)) : Int).toNat (wrap64 ((rd x5 (Go.bits .or .i64 x7 (shl .i64 1 x8))) + (rd x5 x7)))) x6 x7 (wrap64 (x8 + 1))) else (none)) else (none)) else (none)) else (none)) else (none)) else (z72.l1 k x0 x4 x5 x6 x7 (wrap64 (x8 + 1))))
end
def z72.f (k : Nat) (l0 : List (List Bool)) : Option (Int × Int) := if 0 ≤ (shl .i64 1 (l0.length : Int)) then (if (shl .i64 1 (l0.length : Int) : Int).toNat ≤ 35184372088832 then ((some (List.replicate (shl .i64 1 (l0.length : Int) : Int).toNat 0 : List Int)).bind fun y101 => (if 0 < (y101.length : Int) then (z72.l0 k l0 (l0.length : Int) (y101.set (0 : Int).toNat 1) 0 0) else (none))) else (none)) else (none)
def z72.T19 : Bool × List (List Nat × List Nat) := (true, [([], []), ([], []), ([], []), ([2], [2]), ([1, 3], [1, 3]), ([0, 4], [0, 4]), ([5], [5]), ([], []), ([], []), ([7, 8], [7, 8]), ([9], [9]), ([6, 10], [6, 10]), ([0, 4, 0, 1, 2, 3, 4, 5, 6, 7, 8, 9, 10, 11], [0, 4]), ([12, 11, 0, 1, 2, 3, 4, 5, 6, 7, 8, 9, 10, 11], [11, 12])])
def z72.B19 : List Nat := [0, 0, 0, 4, 14, 31, 63, 0, 0, 384, 896, 2047, 4095, 8191]
theorem z72.tab19 : rtab .any (opsOf Try.f72 19) = z72.T19 := by kernel_rfl
theorem z72.bits19 : waitsOk z72.T19.2 z72.B19 = true := by kernel_rfl
def z72.T20 : Bool × List (List Nat × List Nat) := (true, [([], []), ([], []), ([], []), ([2], [2]), ([3], [3]), ([1, 4], [1, 4]), ([5], [5]), ([0, 0], [0]), ([6, 7, 0, 1, 2, 3, 4, 5, 6, 7], [6])])
def z72.B20 : List Nat := [0, 0, 0, 4, 12, 30, 62, 1, 255]
theorem z72.tab20 : rtab .any (opsOf Try.f72 20) = z72.T20 := by kernel_rfl
theorem z72.bits20 : waitsOk z72.T20.2 z72.B20 = true := by kernel_rfl
set_option maxHeartbeats 8000000 in
set_option maxRecDepth 100000 in
theorem z72.calls (k : Nat) (A0 : Option Addr) (c0 : Nat) (l0 : List (List Bool)) (r1 : Int) (r2 : Int) (w : World) (hr0 : Kd.C (Kd.slice 4 Kd.bool) w A0 l0.length l0) (hc0 : l0.length ≤ c0) (h : z72.f k l0 = some (r1, r2)) :
  Calls Try.prog 72 #[.slice A0 l0.length c0] w fun e w' => e = .returned (.tuple #[.int .i64 r1, .int .i64 r2]) ∧ Below w.heap.size w w' := by
 have HR0 := Aside0.mk hr0
 have HC0 := Aside0.mk hc0
 clear hr0 hc0
 have HB := Aside0.mk (Below.refl w.heap.size w)
 have H : (if 0 ≤ (shl .i64 1 (l0.length : Int)) then (if (shl .i64 1 (l0.length : Int) : Int).toNat ≤ 35184372088832 then ((some (List.replicate (shl .i64 1 (l0.length : Int) : Int).toNat 0 : List Int)).bind fun y101 => (if 0 < (y101.length : Int) then (z72.l0 k l0 (l0.length : Int) (y101.set (0 : Int).toNat 1) 0 0) else (none))) else (none)) else (none)) = some (r1, r2) := h
 clear h
 obtain ⟨ji2, hji2⟩ : ∃ j_ : Int, (shl .i64 1 (l0.length : Int)) = j_ := ⟨_, rfl⟩
 replace H : (if 0 ≤ (ji2) then (if (ji2 : Int).toNat ≤ 35184372088832 then ((some (List.replicate (ji2 : Int).toNat 0 : List Int)).bind fun y101 => (if 0 < (y101.length : Int) then (z72.l0 k l0 (l0.length : Int) (y101.set (0 : Int).toNat 1) 0 0) else (none))) else (none)) else (none)) = some (r1, r2) := by first | (rw [hji2] at H; exact H) | (simp only [hji2] at H ⊢; exact H)
 have hji2_ : (IntKind.i64.wrap (1 * 2 ^ min (l0.length : Int).toNat 64)) = ji2 := hji2
 have hji2z : (l0.length : Int) ≤ 64 → (IntKind.i64.wrap (1 * 2 ^ (l0.length : Int).toNat)) = ji2 := shl_small hji2
 have hji2p : (IntKind.i64.wrap (1 * 2 ^ min l0.length 64)) = ji2 := hji2_
 have hji2q : (l0.length : Int) ≤ 64 → (IntKind.i64.wrap (1 * 2 ^ l0.length)) = ji2 := hji2z
 have hji2r : (IntKind.i64.wrap (2 ^ min l0.length 64)) = ji2 := by have h_ := hji2p; rw [Int.one_mul] at h_; exact h_
 have hji2s : (l0.length : Int) ≤ 64 → (IntKind.i64.wrap (2 ^ l0.length)) = ji2 := fun hle_ => by have h_ := hji2q hle_; rw [Int.one_mul] at h_; exact h_
 have hji2u : (IntKind.i64.wrap (2 ^ min (l0.length : Int).toNat 64)) = ji2 := by have h_ := hji2_; rw [Int.one_mul] at h_; exact h_
 have hji2v : (l0.length : Int) ≤ 64 → (IntKind.i64.wrap (2 ^ (l0.length : Int).toNat)) = ji2 := fun hle_ => by have h_ := hji2z hle_; rw [Int.one_mul] at h_; exact h_
 have hji2y : (wrap64 (1 * 2 ^ min (l0.length : Int).toNat 64)) = ji2 := (i64_w _).symm.trans hji2_
 have hji2x : (l0.length : Int) ≤ 64 → (wrap64 (1 * 2 ^ (l0.length : Int).toNat)) = ji2 := fun h_ => (i64_w _).symm.trans (hji2z h_)
 have c3 := O1_ H
 replace H := O2_ H
 have c3b0 := eq_true c3
 have c3b1 : decide (0 ≤ (ji2)) = true := decide_eq_true c3
 clear c3
 have c4 := O1_ H
 replace H := O2_ H
 have c4b0 := eq_true c4
 have c4b1 : decide ((ji2 : Int).toNat ≤ 35184372088832) = true := decide_eq_true c4
 clear c4
 obtain ⟨y101, hy101⟩ : ∃ y_ : List Int, y_ = (List.replicate (ji2 : Int).toNat 0) := ⟨_, rfl⟩
 replace H : (if 0 < (y101.length : Int) then (z72.l0 k l0 (l0.length : Int) (y101.set (0 : Int).toNat 1) 0 0) else (none)) = some (r1, r2) := Y_ hy101 H
 have Ny101 := Aside0.mk hy101
 clear hy101
 have c5 := O1_ H
 replace H := O2_ H
 have c5b0 := decide_eq_true c5
 have c5b1 : decide (0 < y101.length) = true := decide_eq_true (by omega)
 clear c5
 obtain ⟨y104, hy104⟩ : ∃ y_ : List Int, y_ = (y101.set (0 : Int).toNat 1) := ⟨_, rfl⟩
 replace H : (z72.l0 k l0 (l0.length : Int) y104 0 0) = some (r1, r2) := Y_ hy104 H
 have Ny104 := Aside0.mk hy104
 clear hy104
 have H' := Aside0.mk H
 clear H
 go_enter Try.func72, Try.ntmps72
 go_wp2_with (first | ((with_reducible refine gate_dst (N := 15) rfl ?_); refine Kd.R_make (Kd.int .i64) _ 2 rfl (N := 15) rfl 41 _ _ rfl ji2 rfl rfl Try.underlying41 (.int .i64 0) 8 info2 rfl (by decide) (by omega) 0 (ok := fun _ => True) (okp := fun _ => True) rfl (fun _ hk => hk) trivial (D_) (Nat.le_trans (Nat.mul_le_mul_right _ (D_ : ji2.toNat ≤ 35184372088832)) (by omega)) (Below.refl _ _) (Nat.le_refl _) ?_; intro v102 w7 ho8 hb hg_ hnew_; clear hg_ hnew_; (first | rw [← Ny101.out] at ho8 | (simp only [Int.reduceToNat] at ho8; rw [← Ny101.out] at ho8)); have HO103 := Aside0.mk (Kd.R_lower ho8 (below_size (B_ HB.out))); replace HB := Aside0.mk (below_step (B_ HB.out) hb); clear hb ho8; have p6 : 0 ≤ (0 : Int) := (by omega); have q6 : (0 : Int) < ((y101.length : Int) : Int) := D_; have qi6 : (0 < y101.length) = True := eq_true (by omega); obtain ⟨go6, co6, eo6, gb6, gl6, cl6, HG6⟩ := Kd.R_form HO103.out (by omega); (first | cases eo6 | (injection eo6 with ea_ en_ ec_; (first | subst ea_ | (injection ea_ with ea_; subst ea_)); subst ec_; clear en_)); have GB6 := Aside0.mk gb6; have GG6 := Aside0.mk HG6; clear gb6 gl6 HG6; obtain ⟨hx6_0, hf6_0⟩ := Kd.R_celln 0 HO103.out (0 : Int) p6 q6; (try rw [show ((0 : Int)).toNat = 0 from rfl] at hx6_0); (try simp only [Nat.reduceMul, Nat.zero_mul, Nat.zero_add, Nat.reduceAdd] at hx6_0); (try rw [show ((0 : Int)).toNat = 0 from rfl] at hf6_0); (try simp only [Nat.reduceMul, Nat.zero_mul, Nat.zero_add, Nat.reduceAdd] at hf6_0); replace p6 := eq_true p6; replace q6 := eq_true q6; obtain ⟨hy9_, hz9_⟩ := Kd.R_celln 0 HO103.out (0 : Int) (by omega) (D_); (try simp only [Int.reduceToNat, Int.toNat_zero, Int.toNat_ofNat, Nat.reduceMul, Nat.zero_mul, Nat.zero_add] at hy9_ hz9_); (try rw [show ((0 : Int)).toNat = 0 from rfl] at hy9_); (try rw [show ((0 : Int)).toNat = 0 from rfl] at hz9_); have HP9 := Kd.R_putg HO103.out (0 : Int) 1) | ((with_reducible refine gate_store (t := 2) (p := 17) rfl ?_); refine store_event (t := 2) (p := 17) (v := ?vo_w10) (w1 := (w7.setCell ⟨go6, (0 : Int).toNat, none⟩ (.int .i64 1))) ?hg ?ho ?hn ?hr ?_; (case ho => rfl); (case hg => rfl); (case hn => rfl); (case hr => first | (go_simp; done) | (go_simp; rfl)); intro w10 hw; have hg : w7.grownBy w10 (some go6) := (by rw [hw]; exact HP9.2); have hp_ : Kd.R (Kd.int .i64) 2 w10 w.heap.size (fun _ => True) (.slice (some ⟨go6, 0, none⟩) y101.length co6) y104 := (by rw [hw, Ny104.out]; exact HP9.1); clear HP9; replace HO103 := Aside0.mk (hp_); replace HB := Aside0.mk ((by rw [hw]; exact below_set (HB.out) GB6.out : Below w.heap.size w w10)); clear hg hw hp_))
 go_loopg [6, 7] k (fun kq v6 v7 w' => ∃ (x5_1 : List Int) (x6_1 : Int) (x7_1 : Int), v6 = .int .i64 x6_1 ∧ v7 = .int .i64 x7_1 ∧ Aside0 (z72.l0 kq l0 (l0.length : Int) x5_1 x6_1 x7_1 = some (r1, r2)) ∧ Aside0 (kq ≤ k) ∧ Aside0 (Kd.R (Kd.int .i64) 2 w' w.heap.size (fun _ => True) (.slice (some ⟨go6, 0, none⟩) y101.length co6) x5_1) ∧ Aside0 (Below w.heap.size w w'))
 case atStart => exact ⟨(y104), (0), (0), E_, E_, H', ⟨Nat.le_refl _⟩, ⟨KR_ HO103.out⟩, ⟨B_ HB.out⟩⟩
 case round =>
  clear H'
  (try clear p2);(try clear c3);(try clear c3b0);(try clear c3b1);(try clear c4);(try clear c4b0);(try clear c4b1);(try clear c5);(try clear c5b0);(try clear c5b1);(try clear p6);(try clear q6);(try clear hx6);(try clear qi6);(try clear hf6);(try clear c7);(try clear hx6_0);(try clear p6);(try clear q6)
  obtain ⟨x5_1, x6_1, x7_1, rfl, rfl, HA, HK1, HO_5, HB⟩ := hrel
  have hl5_1 := (Kd.R_reads' HO_5.out).1
  rw [hl5_1] at HO_5
  (try simp only [hl5_1])
  cases gk with
  | zero => exact absurd HA.out (by simp [z72.l0])
  | succ k1 =>
   have H := HA.out
   clear HA
   simp only [z72.l0] at H
   have c11 := O1_ H
   replace H := O2_ H
   have c11b0 := eq_true c11
   have c11b1 : decide (0 ≤ (l0.length : Int)) = true := decide_eq_true c11
   clear c11
   replace H : (if x7_1 < (ji2) then (if 0 ≤ x7_1 then (if x7_1 < (x5_1.length : Int) then (if (rd x5_1 x7_1) = 0 then (z72.l0 k1 l0 (l0.length : Int) x5_1 x6_1 (wrap64 (x7_1 + 1))) else (z72.l1 k1 l0 (l0.length : Int) x5_1 (wrap64 (x6_1 + 1)) x7_1 0)) else (none)) else (none)) else (if 0 ≤ (wrap64 ((ji2) - 1)) then (if (wrap64 ((ji2) - 1)) < (x5_1.length : Int) then (some (x6_1, rd x5_1 (wrap64 ((ji2) - 1)))) else (none)) else (none))) = some (r1, r2) := by first | (rw [hji2] at H; exact H) | (simp only [hji2] at H ⊢; exact H)
   by_cases c12 : x7_1 < (ji2)
   ·rw [if_pos c12] at H
    have c12b0 : decide (x7_1 < (ji2)) = true := decide_eq_true c12
    (try rw [hl5_1] at c12b0)
    clear c12
    have c13 := O1_ H
    replace H := O2_ H
    have c13b0 := decide_eq_true c13
    (try rw [hl5_1] at c13b0)
    clear c13
    have c14 := O1_ H
    replace H := O2_ H
    have c14b0 := decide_eq_true c14
    (try rw [hl5_1] at c14b0)
    clear c14
    by_cases c15 : (rd x5_1 x7_1) = 0
    ·rw [if_pos c15] at H
     have c15b0 : ((rd x5_1 x7_1) == 0) = true := beq_iff_eq.mpr c15
     have c15b1 : ((rd x5_1 x7_1) != 0) = false := bne_eq_false_iff_eq.mpr c15
     (try rw [hl5_1] at c15b0)
     (try rw [hl5_1] at c15b1)
     clear c15
     have H' := Aside0.mk H
     clear H
     have p106 : 0 ≤ (x7_1 : Int) := D_
     have q106 : x7_1 < (x5_1.length : Int) := D_
     obtain ⟨ad106, e106, hx106_0⟩ := Kd.at_int (Kd.R_reads' HO_5.out).2.2 x7_1 p106 q106
     obtain rfl : (⟨go6, 0, none⟩ : Addr) = ad106 := (by injection e106)
     (first | simp only [add_plain] at hx106_0 | simp only [add_at] at hx106_0 | simp only [Addr.add, Nat.zero_add] at hx106_0 | skip)
     replace p106 := eq_true p106
     replace q106 := eq_true q106
     go_wp2
     (try simp only [← hl5_1])
     go_roundg k1
     case measure => exact Q1_ HK1
     case rel => exact ⟨(x5_1), (x6_1), (wrap64 (x7_1 + 1)), E_, E_, H', ⟨Q1_ HK1⟩, ⟨by (try simp only [hl5_1]); (with_reducible repeat (first | apply Kd.R_alloc | apply Kd.R_drewN | apply Kd.R_drew)); exact HO_5.out⟩, ⟨B_ HB.out⟩⟩
    ·rw [if_neg c15] at H
     have c15b0 : ((rd x5_1 x7_1) == 0) = false := beq_eq_false_iff_ne.mpr c15
     have c15b1 : ((rd x5_1 x7_1) != 0) = true := bne_iff_ne.mpr c15
     (try rw [hl5_1] at c15b0)
     (try rw [hl5_1] at c15b1)
     have H' := Aside0.mk H
     clear H
     have p106 : 0 ≤ (x7_1 : Int) := D_
     have q106 : x7_1 < (x5_1.length : Int) := D_
     obtain ⟨ad106, e106, hx106_0⟩ := Kd.at_int (Kd.R_reads' HO_5.out).2.2 x7_1 p106 q106
     obtain rfl : (⟨go6, 0, none⟩ : Addr) = ad106 := (by injection e106)
     (first | simp only [add_plain] at hx106_0 | simp only [add_at] at hx106_0 | simp only [Addr.add, Nat.zero_add] at hx106_0 | skip)
     replace p106 := eq_true p106
     replace q106 := eq_true q106
     go_wp2
     go_loopg [8] k1 (fun kq v8 w' => ∃ (x5_2 : List Int) (x8_2 : Int), v8 = .int .i64 x8_2 ∧ Aside0 (z72.l1 kq l0 (l0.length : Int) x5_2 (wrap64 (x6_1 + 1)) x7_1 x8_2 = some (r1, r2)) ∧ Aside0 (kq ≤ k1) ∧ Aside0 (Kd.R (Kd.int .i64) 2 w' w.heap.size (fun _ => True) (.slice (some ⟨go6, 0, none⟩) x5_1.length co6) x5_2) ∧ Aside0 (Below w.heap.size w w'))
     case atStart => exact ⟨(x5_1), (0), E_, H', ⟨Nat.le_refl _⟩, ⟨by (try simp only [hl5_1]); (with_reducible repeat (first | apply Kd.R_alloc | apply Kd.R_drewN | apply Kd.R_drew)); exact HO_5.out⟩, ⟨B_ HB.out⟩⟩
     case round =>
      clear H'
      (try clear c1);(try clear p1);(try clear q1);(try clear hx1);(try clear p2);(try clear c3);(try clear c3b0);(try clear c3b1);(try clear c4);(try clear c4b0);(try clear c4b1);(try clear c5);(try clear c5b0);(try clear c5b1);(try clear p6);(try clear q6);(try clear hx6);(try clear qi6);(try clear hf6);(try clear c7);(try clear p10);(try clear q10);(try clear hx10);(try clear c11);(try clear c11b0);(try clear c11b1);(try clear c12);(try clear c12b0);(try clear c13);(try clear c13b0);(try clear c14);(try clear c14b0);(try clear c15);(try clear c15b0);(try clear c15b1);(try clear hx106_0);(try clear hx6_0);(try clear p106);(try clear p2);(try clear p6);(try clear q106);(try clear q6)
      obtain ⟨x5_2, x8_2, rfl, HA, HK2, HO_5, HB⟩ := hrel
      have hl5_2 := (Kd.R_reads' HO_5.out).1
      rw [hl5_2] at HO_5
      (try simp only [hl5_2])
      cases gk with
      | zero => exact absurd HA.out (by simp [z72.l1])
      | succ k2 =>
       have H := HA.out
       clear HA
       simp only [z72.l1] at H
       by_cases c16 : x8_2 < (l0.length : Int)
       ·rw [if_pos c16] at H
        have c16b0 : decide (x8_2 < (l0.length : Int)) = true := decide_eq_true c16
        (try rw [hl5_1] at c16b0)
        (try rw [hl5_2] at c16b0)
        clear c16
        have c17 := O1_ H
        replace H := O2_ H
        have c17b0 := eq_true c17
        have c17b1 : decide (0 ≤ x8_2) = true := decide_eq_true c17
        clear c17
        obtain ⟨ji18, hji18⟩ : ∃ j_ : Int, (shl .i64 1 x8_2) = j_ := ⟨_, rfl⟩
        replace H : (z72.l2 k2 l0 (l0.length : Int) x5_2 (wrap64 (x6_1 + 1)) x7_1 x8_2 ((Go.bits .and .i64 x7_1 (ji18)) == 0) 0) = some (r1, r2) := by first | (rw [hji18] at H; exact H) | (simp only [hji18] at H ⊢; exact H)
        have hji18_ : (IntKind.i64.wrap (1 * 2 ^ min x8_2.toNat 64)) = ji18 := hji18
        have hji18z : x8_2 ≤ 64 → (IntKind.i64.wrap (1 * 2 ^ x8_2.toNat)) = ji18 := shl_small hji18
        have hji18u : (IntKind.i64.wrap (2 ^ min x8_2.toNat 64)) = ji18 := by have h_ := hji18_; rw [Int.one_mul] at h_; exact h_
        have hji18v : x8_2 ≤ 64 → (IntKind.i64.wrap (2 ^ x8_2.toNat)) = ji18 := fun hle_ => by have h_ := hji18z hle_; rw [Int.one_mul] at h_; exact h_
        have hji18y : (wrap64 (1 * 2 ^ min x8_2.toNat 64)) = ji18 := (i64_w _).symm.trans hji18_
        have hji18x : x8_2 ≤ 64 → (wrap64 (1 * 2 ^ x8_2.toNat)) = ji18 := fun h_ => (i64_w _).symm.trans (hji18z h_)
        have H' := Aside0.mk H
        clear H
        go_wp2
        go_loopg [9, 10] k2 (fun kq v9 v10 w' => ∃ (x9_3 : Bool) (x10_3 : Int), v9 = .bool x9_3 ∧ v10 = .int .i64 x10_3 ∧ Aside0 (z72.l2 kq l0 (l0.length : Int) x5_2 (wrap64 (x6_1 + 1)) x7_1 x8_2 x9_3 x10_3 = some (r1, r2)) ∧ Aside0 (kq ≤ k2) ∧ Aside0 (Kd.R (Kd.int .i64) 2 w' w.heap.size (fun _ => True) (.slice (some ⟨go6, 0, none⟩) x5_2.length co6) x5_2) ∧ Aside0 (Below w.heap.size w w'))
        case atStart => exact ⟨(((Go.bits .and .i64 x7_1 (ji18)) == 0)), (0), (by first | rfl | (simp; done) | (simp only [← hji18] <;> (first | rfl | simp)) | (simp [*]; done)), E_, H', ⟨Nat.le_refl _⟩, ⟨by (try simp only [hl5_1]); (try simp only [hl5_2]); (with_reducible repeat (first | apply Kd.R_alloc | apply Kd.R_drewN | apply Kd.R_drew)); exact HO_5.out⟩, ⟨B_ HB.out⟩⟩
        case round =>
         clear H'
         (try clear c1);(try clear p1);(try clear q1);(try clear hx1);(try clear p2);(try clear c3);(try clear c3b0);(try clear c3b1);(try clear c4);(try clear c4b0);(try clear c4b1);(try clear c5);(try clear c5b0);(try clear c5b1);(try clear p6);(try clear q6);(try clear hx6);(try clear qi6);(try clear hf6);(try clear c7);(try clear p10);(try clear q10);(try clear hx10);(try clear c11);(try clear c11b0);(try clear c11b1);(try clear c12);(try clear c12b0);(try clear c13);(try clear c13b0);(try clear c14);(try clear c14b0);(try clear c15);(try clear c15b0);(try clear c15b1);(try clear c16);(try clear c16b0);(try clear c17);(try clear c17b0);(try clear c17b1);(try clear hx106_0);(try clear hx6_0);(try clear p1);(try clear p10);(try clear p106);(try clear p2);(try clear p6);(try clear q1);(try clear q10);(try clear q106);(try clear q6)
         obtain ⟨x9_3, x10_3, rfl, rfl, HA, HK3, HO_5, HB⟩ := hrel
         cases gk with
         | zero => exact absurd HA.out (by simp [z72.l2])
         | succ k3 =>
          have H := HA.out
          clear HA
          simp only [z72.l2] at H
          by_cases c19 : x10_3 < (l0.length : Int)
          ·rw [if_pos c19] at H
           have c19b0 : decide (x10_3 < (l0.length : Int)) = true := decide_eq_true c19
           (try rw [hl5_1] at c19b0)
           (try rw [hl5_2] at c19b0)
           clear c19
           by_cases c20 : x9_3 = true
           ·subst c20
            have H1 : (if x10_3 = x8_2 then (z72.l2 k3 l0 (l0.length : Int) x5_2 (wrap64 (x6_1 + 1)) x7_1 x8_2 true (wrap64 (x10_3 + 1))) else (if 0 ≤ x10_3 then (if x10_3 < (l0.length : Int) then (if 0 ≤ x8_2 then (if x8_2 < ((rd_ListBool l0 x10_3).length : Int) then (if (rdOf false (rd_ListBool l0 x10_3) x8_2 = true) then (z72.l2 k3 l0 (l0.length : Int) x5_2 (wrap64 (x6_1 + 1)) x7_1 x8_2 ((Go.bits .and .i64 x7_1 (shl .i64 1 x10_3)) != 0) (wrap64 (x10_3 + 1))) else (z72.l2 k3 l0 (l0.length : Int) x5_2 (wrap64 (x6_1 + 1)) x7_1 x8_2 true (wrap64 (x10_3 + 1)))) else (none)) else (none)) else (none)) else (none))) = some (r1, r2) := by rw [if_pos rfl] at H; exact H
            clear H
            have H := H1
            clear H1
            by_cases c21 : x10_3 = x8_2
            ·rw [if_pos c21] at H
             have c21b0 : (x10_3 == x8_2) = true := beq_iff_eq.mpr c21
             have c21b1 : (x10_3 != x8_2) = false := bne_eq_false_iff_eq.mpr c21
             (try rw [hl5_1] at c21b0)
             (try rw [hl5_1] at c21b1)
             (try rw [hl5_2] at c21b0)
             (try rw [hl5_2] at c21b1)
             clear c21
             have H' := Aside0.mk H
             clear H
             go_wp2
             go_roundg k3
             case measure => exact Q3_ HK1 HK2 HK3
             case rel => exact ⟨(true), (wrap64 (x10_3 + 1)), E_, E_, H', ⟨Q3_ HK1 HK2 HK3⟩, ⟨by (try simp only [hl5_1]); (try simp only [hl5_2]); (with_reducible repeat (first | apply Kd.R_alloc | apply Kd.R_drewN | apply Kd.R_drew)); exact HO_5.out⟩, ⟨B_ HB.out⟩⟩
            ·rw [if_neg c21] at H
             have c21b0 : (x10_3 == x8_2) = false := beq_eq_false_iff_ne.mpr c21
             have c21b1 : (x10_3 != x8_2) = true := bne_iff_ne.mpr c21
             (try rw [hl5_1] at c21b0)
             (try rw [hl5_1] at c21b1)
             (try rw [hl5_2] at c21b0)
             (try rw [hl5_2] at c21b1)
             have c22 := O1_ H
             replace H := O2_ H
             have c22b0 := decide_eq_true c22
             (try rw [hl5_1] at c22b0)
             (try rw [hl5_2] at c22b0)
             clear c22
             have c23 := O1_ H
             replace H := O2_ H
             have c23b0 := decide_eq_true c23
             (try rw [hl5_1] at c23b0)
             (try rw [hl5_2] at c23b0)
             clear c23
             have c24 := O1_ H
             replace H := O2_ H
             have c24b0 := decide_eq_true c24
             (try rw [hl5_1] at c24b0)
             (try rw [hl5_2] at c24b0)
             clear c24
             have c25 := O1_ H
             replace H := O2_ H
             have c25b0 := decide_eq_true c25
             (try rw [hl5_1] at c25b0)
             (try rw [hl5_2] at c25b0)
             clear c25
             obtain ⟨bq26, hbq26⟩ : ∃ b_ : Bool, b_ = (rdOf false (rd_ListBool l0 x10_3) x8_2) := ⟨_, rfl⟩
             replace H : (if (bq26 = true) then (z72.l2 k3 l0 (l0.length : Int) x5_2 (wrap64 (x6_1 + 1)) x7_1 x8_2 ((Go.bits .and .i64 x7_1 (shl .i64 1 x10_3)) != 0) (wrap64 (x10_3 + 1))) else (z72.l2 k3 l0 (l0.length : Int) x5_2 (wrap64 (x6_1 + 1)) x7_1 x8_2 true (wrap64 (x10_3 + 1)))) = some (r1, r2) := by rw [← hbq26] at H; exact H
             have Nbq26 := Aside0.mk hbq26
             clear hbq26
             by_cases c27 : (bq26 = true)
             ·subst c27
              have H1 : (z72.l2 k3 l0 (l0.length : Int) x5_2 (wrap64 (x6_1 + 1)) x7_1 x8_2 ((Go.bits .and .i64 x7_1 (shl .i64 1 x10_3)) != 0) (wrap64 (x10_3 + 1))) = some (r1, r2) := by rw [if_pos rfl] at H; exact H
              clear H
              have H := H1
              clear H1
              have c28b0 := eq_true (D_ : 0 ≤ x10_3)
              obtain ⟨ji29, hji29⟩ : ∃ j_ : Int, (shl .i64 1 x10_3) = j_ := ⟨_, rfl⟩
              replace H : (z72.l2 k3 l0 (l0.length : Int) x5_2 (wrap64 (x6_1 + 1)) x7_1 x8_2 ((Go.bits .and .i64 x7_1 (ji29)) != 0) (wrap64 (x10_3 + 1))) = some (r1, r2) := by first | (rw [hji29] at H; exact H) | (simp only [hji29] at H ⊢; exact H)
              have hji29_ : (IntKind.i64.wrap (1 * 2 ^ min x10_3.toNat 64)) = ji29 := hji29
              have hji29z : x10_3 ≤ 64 → (IntKind.i64.wrap (1 * 2 ^ x10_3.toNat)) = ji29 := shl_small hji29
              have hji29u : (IntKind.i64.wrap (2 ^ min x10_3.toNat 64)) = ji29 := by have h_ := hji29_; rw [Int.one_mul] at h_; exact h_
              have hji29v : x10_3 ≤ 64 → (IntKind.i64.wrap (2 ^ x10_3.toNat)) = ji29 := fun hle_ => by have h_ := hji29z hle_; rw [Int.one_mul] at h_; exact h_
              have hji29y : (wrap64 (1 * 2 ^ min x10_3.toNat 64)) = ji29 := (i64_w _).symm.trans hji29_
              have hji29x : x10_3 ≤ 64 → (wrap64 (1 * 2 ^ x10_3.toNat)) = ji29 := fun h_ => (i64_w _).symm.trans (hji29z h_)
              have H' := Aside0.mk H
              clear H
              have p107 : 0 ≤ (x10_3 : Int) := D_
              have q107 : x10_3 < (l0.length : Int) := D_
              obtain ⟨ad107, A107_0, c107_0, e107, hx107_0, hl107_0, hi107_0⟩ := at_ListBool HR0.out x10_3 p107 q107
              cases e107
              replace hx107_0 := (HB.out.cell (World.block_lt_of_cell? w _ hx107_0)).trans hx107_0
              have HR107_0 := Aside0.mk hi107_0
              have HC107_0 := Aside0.mk hl107_0
              clear hi107_0 hl107_0
              replace p107 := eq_true p107
              replace q107 := eq_true q107
              have p108 : 0 ≤ (x8_2 : Int) := D_
              have q108 : x8_2 < ((rd_ListBool l0 x10_3).length : Int) := D_
              obtain ⟨ad108, e108, hx108_0⟩ := Kd.at_bool HR107_0.out x8_2 p108 q108
              (try rw [← Nbq26.out] at hx108_0)
              cases e108
              replace hx108_0 := (HB.out.cell (World.block_lt_of_cell? w _ hx108_0)).trans hx108_0
              replace p108 := eq_true p108
              replace q108 := eq_true q108
              go_wp2
              go_roundg k3
              case measure => exact Q3_ HK1 HK2 HK3
              case rel => exact ⟨(((Go.bits .and .i64 x7_1 (ji29)) != 0)), (wrap64 (x10_3 + 1)), (by first | rfl | (simp; done) | (simp only [← hji29] <;> (first | rfl | simp)) | (simp [*]; done)), E_, H', ⟨Q3_ HK1 HK2 HK3⟩, ⟨by (try simp only [hl5_1]); (try simp only [hl5_2]); (with_reducible repeat (first | apply Kd.R_alloc | apply Kd.R_drewN | apply Kd.R_drew)); exact HO_5.out⟩, ⟨B_ HB.out⟩⟩
             ·replace c27 := Bool.eq_false_iff.mpr c27
              subst c27
              have H1 : (z72.l2 k3 l0 (l0.length : Int) x5_2 (wrap64 (x6_1 + 1)) x7_1 x8_2 true (wrap64 (x10_3 + 1))) = some (r1, r2) := by rw [if_neg (show ¬ (false = true) by decide)] at H; exact H
              clear H
              have H := H1
              clear H1
              have H' := Aside0.mk H
              clear H
              have p107 : 0 ≤ (x10_3 : Int) := D_
              have q107 : x10_3 < (l0.length : Int) := D_
              obtain ⟨ad107, A107_0, c107_0, e107, hx107_0, hl107_0, hi107_0⟩ := at_ListBool HR0.out x10_3 p107 q107
              cases e107
              replace hx107_0 := (HB.out.cell (World.block_lt_of_cell? w _ hx107_0)).trans hx107_0
              have HR107_0 := Aside0.mk hi107_0
              have HC107_0 := Aside0.mk hl107_0
              clear hi107_0 hl107_0
              replace p107 := eq_true p107
              replace q107 := eq_true q107
              have p108 : 0 ≤ (x8_2 : Int) := D_
              have q108 : x8_2 < ((rd_ListBool l0 x10_3).length : Int) := D_
              obtain ⟨ad108, e108, hx108_0⟩ := Kd.at_bool HR107_0.out x8_2 p108 q108
              (try rw [← Nbq26.out] at hx108_0)
              cases e108
              replace hx108_0 := (HB.out.cell (World.block_lt_of_cell? w _ hx108_0)).trans hx108_0
              replace p108 := eq_true p108
              replace q108 := eq_true q108
              go_wp2
              go_roundg k3
              case measure => exact Q3_ HK1 HK2 HK3
              case rel => exact ⟨(true), (wrap64 (x10_3 + 1)), E_, E_, H', ⟨Q3_ HK1 HK2 HK3⟩, ⟨by (try simp only [hl5_1]); (try simp only [hl5_2]); (with_reducible repeat (first | apply Kd.R_alloc | apply Kd.R_drewN | apply Kd.R_drew)); exact HO_5.out⟩, ⟨B_ HB.out⟩⟩
           ·replace c20 := Bool.eq_false_iff.mpr c20
            subst c20
            have H1 : (z72.l1 k3 l0 (l0.length : Int) x5_2 (wrap64 (x6_1 + 1)) x7_1 (wrap64 (x8_2 + 1))) = some (r1, r2) := by rw [if_neg (show ¬ (false = true) by decide)] at H; exact H
            clear H
            have H := H1
            clear H1
            have H' := Aside0.mk H
            clear H
            go_wp2
            (try simp only [← hl5_2])
            go_roundg k3
            case measure => exact Q3_ HK1 HK2 HK3
            case rel => exact ⟨(x5_2), (wrap64 (x8_2 + 1)), E_, H', ⟨Q3_ HK1 HK2 HK3⟩, ⟨by (try simp only [hl5_1]); (try simp only [hl5_2]); (with_reducible repeat (first | apply Kd.R_alloc | apply Kd.R_drewN | apply Kd.R_drew)); exact HO_5.out⟩, ⟨B_ HB.out⟩⟩
          ·rw [if_neg c19] at H
           have c19b0 : decide (x10_3 < (l0.length : Int)) = false := decide_eq_false c19
           (try rw [hl5_1] at c19b0)
           (try rw [hl5_2] at c19b0)
           clear c19
           by_cases c30 : x9_3 = true
           ·subst c30
            have H1 : (if 0 ≤ x8_2 then (if 0 ≤ (Go.bits .or .i64 x7_1 (shl .i64 1 x8_2)) then (if (Go.bits .or .i64 x7_1 (shl .i64 1 x8_2)) < (x5_2.length : Int) then (if 0 ≤ x7_1 then (if x7_1 < (x5_2.length : Int) then (z72.l1 k3 l0 (l0.length : Int) (x5_2.set ((Go.bits .or .i64 x7_1 (shl .i64 1 x8_2)) : Int).toNat (wrap64 ((rd x5_2 (Go.bits .or .i64 x7_1 (shl .i64 1 x8_2))) + (rd x5_2 x7_1)))) (wrap64 (x6_1 + 1)) x7_1 (wrap64 (x8_2 + 1))) else (none)) else (none)) else (none)) else (none)) else (none)) = some (r1, r2) := by rw [if_pos rfl] at H; exact H
            clear H
            have H := H1
            clear H1
            have c31 := O1_ H
            replace H := O2_ H
            have c31b0 := eq_true c31
            have c31b1 : decide (0 ≤ x8_2) = true := decide_eq_true c31
            clear c31
            replace H : (if 0 ≤ (Go.bits .or .i64 x7_1 (ji18)) then (if (Go.bits .or .i64 x7_1 (ji18)) < (x5_2.length : Int) then (if 0 ≤ x7_1 then (if x7_1 < (x5_2.length : Int) then (z72.l1 k3 l0 (l0.length : Int) (x5_2.set ((Go.bits .or .i64 x7_1 (ji18)) : Int).toNat (wrap64 ((rd x5_2 (Go.bits .or .i64 x7_1 (ji18))) + (rd x5_2 x7_1)))) (wrap64 (x6_1 + 1)) x7_1 (wrap64 (x8_2 + 1))) else (none)) else (none)) else (none)) else (none)) = some (r1, r2) := by first | (rw [hji18] at H; exact H) | (simp only [hji18] at H ⊢; exact H)
            have c32 := O1_ H
            replace H := O2_ H
            have c32b0 := decide_eq_true c32
            (try rw [hl5_1] at c32b0)
            (try rw [hl5_2] at c32b0)
            clear c32
            have c33 := O1_ H
            replace H := O2_ H
            have c33b0 := decide_eq_true c33
            (try rw [hl5_1] at c33b0)
            (try rw [hl5_2] at c33b0)
            clear c33
            have c34 := O1_ H
            replace H := O2_ H
            have c34b0 := decide_eq_true c34
            (try rw [hl5_1] at c34b0)
            (try rw [hl5_2] at c34b0)
            clear c34
            have c35 := O1_ H
            replace H := O2_ H
            have c35b0 := decide_eq_true c35
            (try rw [hl5_1] at c35b0)
            (try rw [hl5_2] at c35b0)
            clear c35
            obtain ⟨y111, hy111⟩ : ∃ y_ : List Int, y_ = (x5_2.set ((Go.bits .or .i64 x7_1 (ji18)) : Int).toNat (wrap64 ((rd x5_2 (Go.bits .or .i64 x7_1 (ji18))) + (rd x5_2 x7_1)))) := ⟨_, rfl⟩
            replace H : (z72.l1 k3 l0 (l0.length : Int) y111 (wrap64 (x6_1 + 1)) x7_1 (wrap64 (x8_2 + 1))) = some (r1, r2) := Y_ hy111 H
            have Ny111 := Aside0.mk hy111
            clear hy111
            have H' := Aside0.mk H
            clear H
            try go_wp2
            replace HO_5 := Aside0.mk (Kd.R_drew HO_5.out)
            replace HB := Aside0.mk (below_drew1 HB.out)
            have p109 : 0 ≤ ((Go.bits .or .i64 x7_1 (ji18)) : Int) := D_
            have q109 : (Go.bits .or .i64 x7_1 (ji18)) < (x5_2.length : Int) := D_
            obtain ⟨ad109, e109, hx109_0⟩ := Kd.at_int (Kd.R_reads' HO_5.out).2.2 (Go.bits .or .i64 x7_1 (ji18)) p109 q109
            obtain rfl : (⟨go6, 0, none⟩ : Addr) = ad109 := (by injection e109)
            (first | simp only [add_plain] at hx109_0 | simp only [add_at] at hx109_0 | simp only [Addr.add, Nat.zero_add] at hx109_0 | skip)
            replace p109 := eq_true p109
            replace q109 := eq_true q109
            have p110 : 0 ≤ (x7_1 : Int) := D_
            have q110 : x7_1 < (x5_2.length : Int) := D_
            obtain ⟨ad110, e110, hx110_0⟩ := Kd.at_int (Kd.R_reads' HO_5.out).2.2 x7_1 p110 q110
            obtain rfl : (⟨go6, 0, none⟩ : Addr) = ad110 := (by injection e110)
            (first | simp only [add_plain] at hx110_0 | simp only [add_at] at hx110_0 | simp only [Addr.add, Nat.zero_add] at hx110_0 | skip)
            replace p110 := eq_true p110
            replace q110 := eq_true q110
            have p36 : 0 ≤ ((Go.bits .or .i64 x7_1 (ji18)) : Int) := D_
            have q36 : ((Go.bits .or .i64 x7_1 (ji18)) : Int) < ((x5_2.length : Int) : Int) := D_
            obtain ⟨hx36_0, hf36_0⟩ := Kd.R_celln 0 HO_5.out ((Go.bits .or .i64 x7_1 (ji18)) : Int) p36 q36
            replace p36 := eq_true p36
            replace q36 := eq_true q36
            have HP38 := Kd.R_putn HO_5.out ((Go.bits .or .i64 x7_1 (ji18)) : Int) (wrap64 ((rd x5_2 (Go.bits .or .i64 x7_1 (ji18))) + (rd x5_2 x7_1)))
            rw [← Ny111.out] at HP38
            have HQ38 := Aside0.mk HP38
            clear HP38
            refine start_ (n := 14) (S := fun w' => w'.cell? ⟨go6, ((Go.bits .or .i64 x7_1 (ji18))).toNat, none⟩ = some (.int .i64 (rd x5_2 (Go.bits .or .i64 x7_1 (ji18)))) ∧ w'.cell? ⟨go6, (x7_1).toNat, none⟩ = some (.int .i64 (rd x5_2 x7_1))) (ds := [13]) (tb_ 14 0) (by kernel_rfl) rfl rfl ⟨hx109_0, hx110_0⟩ (fun hHeld => ?_); refine with_tabW z72.tab19 z72.bits19 (fun HT_ HW_ => ?_)
            generalize wr.drew = w37 at HO_5 HB HQ38 hf36_0 hx109_0 hx110_0 hx36_0 hHeld ⊢
            refine PV_ (i := 0) (N := some 70) (tb_ 14 1) HT_ rfl rfl (h := ?_)
            refine PV_ (i := 1) (N := some 71) (tb_ 14 3) HT_ rfl rfl (h := ?_)
            refine PV_ (i := 2) (N := some 72) (tb_ 14 7) HT_ rfl rfl (h := ?_)
            refine PV_ (i := 3) (N := some 73) (tb_ 14 15) HT_ rfl rfl (h := ?_)
            refine PV_ (i := 4) (N := some 74) (tb_ 14 31) HT_ rfl rfl (h := ?_)
            refine PV_ (i := 5) (N := some 75) (tb_ 14 63) HT_ rfl rfl (h := ?_)
            refine PV_ (i := 7) (N := some 77) (tb_ 14 191) HT_ rfl rfl (h := ?_)
            refine PV_ (i := 8) (N := some 78) (tb_ 14 447) HT_ rfl rfl (h := ?_)
            refine PV_ (i := 9) (N := some 79) (tb_ 14 959) HT_ rfl rfl (h := ?_)
            refine TV_ (i := 6) (N := some 76) (tb_ 14 1023) HT_ HW_ rfl rfl hHeld (by rintro w' ⟨s0, s1⟩; go_simp; with_reducible rfl) (h := ?_)
            refine TV_ (i := 10) (N := some 80) (tb_ 14 2047) HT_ HW_ rfl rfl hHeld (by rintro w' ⟨s0, s1⟩; go_simp; with_reducible rfl) (h := ?_)
            refine PV_ (i := 11) (N := some 81) (tb_ 14 4095) HT_ rfl rfl (h := ?_)
            refine PV_ (i := 12) (N := some 82) (tb_ 14 8191) HT_ rfl rfl (h := ?_)
            refine last_ (i := 13) (N := none) (tb_ 14 16383) rfl rfl (one_of HT_.out (by kernel_rfl)) (by decide) (fun K hK => ?_)
            refine skip_ (w1 := ?_) (by rfl) rfl ?_ ?_
            rotate_left
            ·go_simp
             rfl
            refine hK.out _ _ ?_
            clear hK K
            refine done_ (done_of HT_.out (by kernel_rfl)) ?_
            try go_wp2
            (try simp only [← hl5_2])
            go_roundg k3
            case measure => exact Q3_ HK1 HK2 HK3
            case rel => exact ⟨(y111), (wrap64 (x8_2 + 1)), E_, H', ⟨Q3_ HK1 HK2 HK3⟩, ⟨by (try simp only [hl5_1]); (try simp only [hl5_2]); (with_reducible repeat (first | apply Kd.R_alloc | apply Kd.R_drewN | apply Kd.R_drew)); exact HQ38.out⟩, ⟨B1_ HB.out GB6.out⟩⟩
           ·replace c30 := Bool.eq_false_iff.mpr c30
            subst c30
            have H1 : (z72.l1 k3 l0 (l0.length : Int) x5_2 (wrap64 (x6_1 + 1)) x7_1 (wrap64 (x8_2 + 1))) = some (r1, r2) := by rw [if_neg (show ¬ (false = true) by decide)] at H; exact H
            clear H
            have H := H1
            clear H1
            have H' := Aside0.mk H
            clear H
            go_wp2
            (try simp only [← hl5_2])
            go_roundg k3
            case measure => exact Q3_ HK1 HK2 HK3
            case rel => exact ⟨(x5_2), (wrap64 (x8_2 + 1)), E_, H', ⟨Q3_ HK1 HK2 HK3⟩, ⟨by (try simp only [hl5_1]); (try simp only [hl5_2]); (with_reducible repeat (first | apply Kd.R_alloc | apply Kd.R_drewN | apply Kd.R_drew)); exact HO_5.out⟩, ⟨B_ HB.out⟩⟩
       ·rw [if_neg c16] at H
        have c16b0 : decide (x8_2 < (l0.length : Int)) = false := decide_eq_false c16
        (try rw [hl5_1] at c16b0)
        (try rw [hl5_2] at c16b0)
        clear c16
        have H' := Aside0.mk H
        clear H
        go_wp2
        (try simp only [← hl5_1, ← hl5_2])
        go_roundg k2
        case measure => exact Q2_ HK1 HK2
        case rel => exact ⟨(x5_2), ((wrap64 (x6_1 + 1))), (wrap64 (x7_1 + 1)), E_, E_, H', ⟨Q2_ HK1 HK2⟩, ⟨by (try simp only [hl5_1]); (try simp only [hl5_2]); (with_reducible repeat (first | apply Kd.R_alloc | apply Kd.R_drewN | apply Kd.R_drew)); exact HO_5.out⟩, ⟨B_ HB.out⟩⟩
   ·rw [if_neg c12] at H
    have c12b0 : decide (x7_1 < (ji2)) = false := decide_eq_false c12
    (try rw [hl5_1] at c12b0)
    clear c12
    have c39b0 := eq_true (D_ : 0 ≤ (l0.length : Int))
    obtain ⟨ji40, hji40⟩ : ∃ j_ : Int, (wrap64 ((ji2) - 1)) = j_ := ⟨_, rfl⟩
    replace H : (if 0 ≤ (ji40) then (if (ji40) < (x5_1.length : Int) then (some (x6_1, rd x5_1 (ji40))) else (none)) else (none)) = some (r1, r2) := by first | (rw [hji40] at H; exact H) | (simp only [hji40] at H ⊢; exact H)
    have hji40w : (IntKind.i64.wrap ((ji2) - 1)) = ji40 := (i64_w _).trans hji40
    have c41 := O1_ H
    replace H := O2_ H
    have c41b0 := decide_eq_true c41
    (try rw [hl5_1] at c41b0)
    clear c41
    have c42 := O1_ H
    replace H := O2_ H
    have c42b0 := decide_eq_true c42
    (try rw [hl5_1] at c42b0)
    clear c42
    simp only [Option.some.injEq, Prod.mk.injEq] at H
    obtain ⟨rfl, rfl⟩ := H
    try go_wp2
    replace HO_5 := Aside0.mk (Kd.R_drew HO_5.out)
    replace HB := Aside0.mk (below_drew1 HB.out)
    have p105 : 0 ≤ ((ji40) : Int) := D_
    have q105 : (ji40) < (x5_1.length : Int) := D_
    obtain ⟨ad105, e105, hx105_0⟩ := Kd.at_int (Kd.R_reads' HO_5.out).2.2 (ji40) p105 q105
    obtain rfl : (⟨go6, 0, none⟩ : Addr) = ad105 := (by injection e105)
    (first | simp only [add_plain] at hx105_0 | simp only [add_at] at hx105_0 | simp only [Addr.add, Nat.zero_add] at hx105_0 | skip)
    replace p105 := eq_true p105
    replace q105 := eq_true q105
    refine start_ (n := 9) (S := fun w' => w'.cell? ⟨go6, ((ji40)).toNat, none⟩ = some (.int .i64 (rd x5_1 (ji40)))) (ds := []) (tb_ 9 0) (by kernel_rfl) rfl rfl (hx105_0) (fun hHeld => ?_); refine with_tabW z72.tab20 z72.bits20 (fun HT_ HW_ => ?_)
    generalize wr.drew = w43 at HO_5 HB hx105_0 hHeld ⊢
    refine PV_ (i := 0) (N := some 83) (tb_ 9 1) HT_ rfl rfl (h := ?_)
    refine PV_ (i := 1) (N := some 84) (tb_ 9 3) HT_ rfl rfl (h := ?_)
    refine PV_ (i := 2) (N := some 85) (tb_ 9 7) HT_ rfl rfl (h := ?_)
    refine PV_ (i := 3) (N := some 86) (tb_ 9 15) HT_ rfl rfl (h := ?_)
    refine PV_ (i := 4) (N := some 87) (tb_ 9 31) HT_ rfl rfl (h := ?_)
    refine PV_ (i := 5) (N := some 88) (tb_ 9 63) HT_ rfl rfl (h := ?_)
    refine PV_ (i := 7) (N := some 2) (tb_ 9 191) HT_ rfl rfl (h := ?_)
    refine take_ (i := 6) (N := some 89) (v := ?_) (a' := ?_) (tb_ 9 255) rfl rfl (take_ofW HT_.out HW_.out (by kernel_rfl)) (fun _ _ _ h => h) (Or.inl ⟨by rfl, ?_⟩) hHeld ?_ ?_
    rotate_left
    ·intro w' s0
     go_simp
     with_reducible rfl
    rotate_left
    ·simp only [Act.put, List.setIfInBounds_toArray, List.set_cons_zero, List.set_cons_succ, i64_w, i32_w]
     rfl
    refine PV_ (i := 8) (N := some 3) (tb_ 9 511) HT_ rfl rfl (h := ?_)
    refine done_ (done_of HT_.out (by kernel_rfl)) ?_
    try go_wp2
    go_ret2
    exact ⟨by first | rfl | (simp [errW_none, errW_some] <;> rfl) | (simp only [← hji2, ← hji40]; first | rfl | (simp [errW_none, errW_some] <;> rfl)) | (simp [*, errW_none, errW_some] <;> rfl), B_ HB.out⟩
end Go.Proofs.Ytnohkeijhfjbeaa.B
