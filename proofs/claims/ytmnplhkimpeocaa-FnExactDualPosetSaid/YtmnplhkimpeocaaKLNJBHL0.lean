/- Printed proofs of functions of the program and of the reference, by a program of this work over the kit's printer. -/
import Derived.Test.YtmnplhkimpeocaaKEGFBIK0
import Derived.Test.YtmnplhkimpeocaaKW0
namespace Go.Proofs.Ytmnplhkimpeocaa.B
open Go.RowKit Go.Proofs.YtmnplhkimpeocaaW.PrintWords Go.Proofs.YtmnplhkimpeocaaW.PrintLast Go.Proofs.YtmnplhkimpeocaaW.PrintMore
attribute [local go_sem] max2_int min2_int max_two min_two max_three min_three max_four min_four
set_option linter.unusedVariables false
set_option linter.unusedSimpArgs false
mutual
def z25.l0 : Nat → Int → List (List Int) → List (List Bool) → Int → Option ((List (List Bool)))
 | 0, _, _, _, _ => none
 | k + 1, x0, x1, x5, x6 => if x6 < x0 then (if 0 ≤ x0 then (if (x0 : Int).toNat ≤ 281474976710656 then ((some (List.replicate (x0 : Int).toNat false : List Bool)).bind fun y104 => (if 0 ≤ x6 then (if x6 < (y104.length : Int) then (if x5.length < 5864062014805 then (z25.l0 k x0 x1 (x5 ++ [(y104.set (x6 : Int).toNat true)]) (wrap64 (x6 + 1))) else (none)) else (none)) else (none))) else (none)) else (none)) else (z25.l1 k x0 x1 x5 0)
def z25.l1 : Nat → Int → List (List Int) → List (List Bool) → Int → Option ((List (List Bool)))
 | 0, _, _, _, _ => none
 | k + 1, x0, x1, x5, x8 => if x8 < (x1.length : Int) then (if 0 ≤ x8 then (if 0 < ((rd_ListInt x1 x8).length : Int) then (if 0 ≤ (rd (rd_ListInt x1 x8) 0) then (if (rd (rd_ListInt x1 x8) 0) < (x5.length : Int) then (if 1 < ((rd_ListInt x1 x8).length : Int) then (if 0 ≤ (rd (rd_ListInt x1 x8) 1) then (if (rd (rd_ListInt x1 x8) 1) < ((rd_ListBool x5 (rd (rd_ListInt x1 x8) 0)).length : Int) then (z25.l1 k x0 x1 (x5.set ((rd (rd_ListInt x1 x8) 0) : Int).toNat ((rd_ListBool x5 (rd (rd_ListInt x1 x8) 0)).set ((rd (rd_ListInt x1 x8) 1) : Int).toNat true)) (wrap64 (x8 + 1))) else (none)) else (none)) else (none)) else (none)) else (none)) else (none)) else (none)) else (z25.l2 k x0 x5 0)
def z25.l2 : Nat → Int → List (List Bool) → Int → Option ((List (List Bool)))
 | 0, _, _, _ => none
 | k + 1, x0, x5, x9 => if x9 < x0 then (z25.l3 k x0 x5 x9 0) else (some x5)
def z25.l3 : Nat → Int → List (List Bool) → Int → Int → Option ((List (List Bool)))
 | 0, _, _, _, _ => none
 | k + 1, x0, x5, x9, x10 => if x10 < x0 then (z25.l4 k x0 x5 x9 x10 0) else (z25.l2 k x0 x5 (wrap64 (x9 + 1)))
def z25.l4 : Nat → Int → List (List Bool) → Int → Int → Int → Option ((List (List Bool)))
 | 0, _, _, _, _, _ => none
 | k + 1, x0, x5, x9, x10, x11 => if x11 < x0 then (if 0 ≤ x10 then (if x10 < (x5.length : Int) then (if 0 ≤ x9 then (if x9 < ((rd_ListBool x5 x10).length : Int) then (if rdOf false (rd_ListBool x5 x10) x9 = true then (if x9 < (x5.length : Int) then (if 0 ≤ x11 then (if x11 < ((rd_ListBool x5 x9).length : Int) then (if rdOf false (rd_ListBool x5 x9) x11 = true then (if x11 < ((rd_ListBool x5 x10).length : Int) then (z25.l4 k x0 (x5.set (x10 : Int).toNat ((rd_ListBool x5 x10).set (x11 : Int).toNat true)) x9 x10 (wrap64 (x11 + 1))) else (none)) else (z25.l4 k x0 x5 x9 x10 (wrap64 (x11 + 1)))) else (none)) else (none)) else (none)) else (z25.l4 k x0 x5 x9 x10 (wrap64 (x11 + 1)))) else (none)) else (none)) else (none)) else (none)) else (z25.l3 k x0 x5 x9 (wrap64 (x10 + 1)))
end
def z25.f (k : Nat) (a0 : Int) (l1 : List (List Int)) : Option ((List (List Bool))) := z25.l0 k a0 l1 (([] : List (List Bool))) 0
def z25.T11 : Bool × List (List Nat × List Nat) := (true, [([], []), ([], []), ([], []), ([1, 2], [1, 2]), ([3], [3]), ([4], [4]), ([5], [5]), ([0, 6], [0, 6]), ([7], [7]), ([], []), ([], []), ([9, 10], [9, 10]), ([11], [11]), ([12], [12]), ([13], [13]), ([8, 14, 0, 1, 2, 3, 4, 5, 6, 7, 8, 9, 10, 11, 12, 13, 14], [8, 14]), ([15, 0, 1, 2, 3, 4, 5, 6, 7, 8, 9, 10, 11, 12, 13, 14], [15])])
def z25.B11 : List Nat := [0, 0, 0, 6, 14, 30, 62, 127, 255, 0, 0, 1536, 3584, 7680, 15872, 32767, 65535]
theorem z25.tab11 : rtab .any (opsOf Try.f25 11) = z25.T11 := by kernel_rfl
theorem z25.bits11 : waitsOk z25.T11.2 z25.B11 = true := by kernel_rfl
set_option maxHeartbeats 8000000 in
set_option maxRecDepth 100000 in
theorem z25.calls (k : Nat) (a0 : Int) (A1 : Option Addr) (c1 : Nat) (l1 : List (List Int)) (r : List (List Bool)) (w : World) (hr1 : Kd.C (Kd.slice 2 (Kd.int .i64)) w A1 l1.length l1) (hc1 : l1.length ≤ c1) (h : z25.f k a0 l1 = some r) :
  Calls Try.prog 25 #[.int .i64 a0, .slice A1 l1.length c1] w fun e w' => ∃ v0_ : Value, e = .returned (v0_) ∧ Kd.S (Kd.slice 4 Kd.bool) 61 w' w.heap.size (fun _ => True) v0_ r ∧ Below w.heap.size w w' := by
 have HR1 := Aside0.mk hr1
 have HC1 := Aside0.mk hc1
 clear hr1 hc1
 have HB := Aside0.mk (Below.refl w.heap.size w)
 have H : (z25.l0 k a0 l1 (([] : List (List Bool))) 0) = some r := h
 clear h
 obtain ⟨y101, hy101⟩ : ∃ y_ : List (List Bool), y_ = (([] : List (List Bool))) := ⟨_, rfl⟩
 replace H : (z25.l0 k a0 l1 y101 0) = some r := Y_ hy101 H
 have Ny101 := Aside0.mk hy101
 clear hy101
 have H' := Aside0.mk H
 clear H
 go_enter Try.func25, Try.ntmps25
 go_wp2_with (first | ((with_reducible refine gate_dst (N := 12) rfl ?_); refine Kd.S_lit (Kd.slice 4 Kd.bool) _ 61 ?hg (N := 12) ?hd (xs := ([] : List (List Bool))) (inner := []) (ok := fun _ => True) (okp := fun _ => True) ?hr ?hp (fun _ hk => hk) trivial (Below.refl _ _) (Nat.le_refl _) (by simp) ?_; (case hd => rfl); (case hg => rfl); (case hr => first | (go_simp; done) | (go_simp; rfl)); (case hp => exact (Reps.none _ _)); intro v102 w3 ho4 hb hg_ hnew_; clear hg_ hnew_; (first | rw [← Ny101.out] at ho4 | (simp only [Int.reduceToNat] at ho4; rw [← Ny101.out] at ho4)); have HO103 := Aside0.mk (Kd.S_lower ho4 (below_size (B_ HB.out))); replace HB := Aside0.mk (below_step (B_ HB.out) hb); clear hb ho4))
 go_loopg [5, 6] k (fun kq v5 v6 w' => ∃ (x5_1 : List (List Bool)) (x6_1 : Int), v6 = .int .i64 x6_1 ∧ Aside0 (z25.l0 kq a0 l1 x5_1 x6_1 = some r) ∧ Aside0 (kq ≤ k) ∧ Aside0 (Kd.S (Kd.slice 4 Kd.bool) 61 w' w.heap.size (fun _ => True) v5 x5_1) ∧ Aside0 (Below w.heap.size w w'))
 case atStart => exact ⟨(y101), (0), E_, H', ⟨Nat.le_refl _⟩, ⟨KS_ HO103.out⟩, ⟨B_ HB.out⟩⟩
 case round =>
  clear H'
  (try clear c1);(try clear c2);(try clear p2)
  obtain ⟨x5_1, x6_1, rfl, HA, HK1, HO_5, HB⟩ := hrel
  cases gk with
  | zero => exact absurd HA.out (by simp [z25.l0])
  | succ k1 =>
   have H := HA.out
   clear HA
   simp only [z25.l0] at H
   by_cases c5 : x6_1 < a0
   ·rw [if_pos c5] at H
    have c5b0 : decide (x6_1 < a0) = true := decide_eq_true c5
    clear c5
    have c6 := O1_ H
    replace H := O2_ H
    have c6b0 := eq_true c6
    have c6b1 : decide (0 ≤ a0) = true := decide_eq_true c6
    clear c6
    have c7 := O1_ H
    replace H := O2_ H
    have c7b0 := eq_true c7
    have c7b1 : decide ((a0 : Int).toNat ≤ 281474976710656) = true := decide_eq_true c7
    clear c7
    obtain ⟨y104, hy104⟩ : ∃ y_ : List Bool, y_ = (List.replicate (a0 : Int).toNat false) := ⟨_, rfl⟩
    replace H : (if 0 ≤ x6_1 then (if x6_1 < (y104.length : Int) then (if x5_1.length < 5864062014805 then (z25.l0 k1 a0 l1 (x5_1 ++ [(y104.set (x6_1 : Int).toNat true)]) (wrap64 (x6_1 + 1))) else (none)) else (none)) else (none)) = some r := Y_ hy104 H
    have Ny104 := Aside0.mk hy104
    clear hy104
    have c8 := O1_ H
    replace H := O2_ H
    have c8b0 := decide_eq_true c8
    clear c8
    have c9 := O1_ H
    replace H := O2_ H
    have c9b0 := decide_eq_true c9
    clear c9
    obtain ⟨y107, hy107⟩ : ∃ y_ : List Bool, y_ = (y104.set (x6_1 : Int).toNat true) := ⟨_, rfl⟩
    replace H : (if x5_1.length < 5864062014805 then (z25.l0 k1 a0 l1 (x5_1 ++ [y107]) (wrap64 (x6_1 + 1))) else (none)) = some r := Y_ hy107 H
    have Ny107 := Aside0.mk hy107
    clear hy107
    have c11 := O1_ H
    replace H := O2_ H
    have LMc11 := Aside0.mk c11
    clear c11
    obtain ⟨y108, hy108⟩ : ∃ y_ : List (List Bool), y_ = (x5_1 ++ [y107]) := ⟨_, rfl⟩
    replace H : (z25.l0 k1 a0 l1 y108 (wrap64 (x6_1 + 1))) = some r := Y_ hy108 H
    have Ny108 := Aside0.mk hy108
    clear hy108
    have H' := Aside0.mk H
    clear H
    go_wp2_with (first | ((with_reducible refine gate_dst (N := 19) rfl ?_); refine Kd.R_make Kd.bool _ 4 rfl (N := 19) rfl 61 _ _ rfl a0 rfl rfl Try.underlying61 (.bool false) 1 info4 rfl (by decide) (by omega) false (ok := fun _ => True) (okp := fun _ => True) rfl (fun _ hk => hk) trivial (D_) (Nat.le_trans (Nat.mul_le_mul_right _ (D_ : a0.toNat ≤ 281474976710656)) (by omega)) (Below.refl _ _) (Nat.le_refl _) ?_; intro v105 w12 ho13 hb hg_ hnew_; clear hg_ hnew_; (first | rw [← Ny104.out] at ho13 | (simp only [Int.reduceToNat] at ho13; rw [← Ny104.out] at ho13)); replace HO_5 := Aside0.mk (Kd.S_elder' (KS_ HO_5.out) (Kd.R_base ho13) hb); have HO106 := Aside0.mk (Kd.R_lower ho13 (below_size (B_ HB.out))); replace HB := Aside0.mk (below_step (B_ HB.out) hb); clear hb ho13; have p10 : 0 ≤ (x6_1 : Int) := D_; have q10 : (x6_1 : Int) < ((y104.length : Int) : Int) := D_; obtain ⟨go10, co10, eo10, gb10, gl10, cl10, HG10⟩ := Kd.R_form HO106.out (by omega); (first | cases eo10 | (injection eo10 with ea_ en_ ec_; (first | subst ea_ | (injection ea_ with ea_; subst ea_)); subst ec_; clear en_)); have GB10 := Aside0.mk gb10; have GG10 := Aside0.mk HG10; clear gb10 gl10 HG10; obtain ⟨hx10_0, hf10_0⟩ := Kd.R_celln false HO106.out (x6_1 : Int) p10 q10; replace p10 := eq_true p10; replace q10 := eq_true q10; obtain ⟨hy14_, hz14_⟩ := Kd.R_celln false HO106.out (x6_1 : Int) (D_) (D_); have HP14 := Kd.R_putg HO106.out (x6_1 : Int) true) | ((with_reducible refine gate_store (t := 4) (p := 22) rfl ?_); refine store_event (t := 4) (p := 22) (v := ?vo_w15) (w1 := (w12.setCell ⟨go10, (x6_1 : Int).toNat, none⟩ (.bool true))) ?hg ?ho ?hn ?hr ?_; (case ho => rfl); (case hg => rfl); (case hn => rfl); (case hr => first | (go_simp; done) | (go_simp; rfl)); intro w15 hw; have hg : w12.grownBy w15 (some go10) := (by rw [hw]; exact HP14.2); have hp_ : Kd.R Kd.bool 4 w15 w.heap.size (fun _ => True) (.slice (some ⟨go10, 0, none⟩) y104.length co10) y107 := (by rw [hw, Ny107.out]; exact HP14.1); clear HP14; replace HO_5 := Aside0.mk (Kd.S_after (v := (.slice (some ⟨go10, 0, none⟩) y104.length co10)) (v1 := (.slice (some ⟨go10, 0, none⟩) y104.length co10)) (ok := (fun _ => True)) (KS_ HO_5.out) hg (.inl rfl)); replace HO106 := Aside0.mk (hp_); replace HB := Aside0.mk ((by rw [hw]; exact below_set (HB.out) GB10.out : Below w.heap.size w w15)); clear hg hw hp_) | ((with_reducible refine gate_builtin (b := .append) (xs := #[.tmp 23, .tmp 25]) rfl ?_); at_builtin; refine Kd.S_append (Kd.slice 4 Kd.bool) (w0 := w) w.heap.size rfl (.tmp 23) (.tmp 25) 48 61 (.slice none 0 0) 24 rfl Try.underlying48 info61 rfl (by decide) (by omega) u5 x5_1 y107 [.slice (some ⟨go10, 0, none⟩) y104.length co10] (fun _ => True) (fun k_ => some k_ = (.slice (some ⟨go10, 0, none⟩) y104.length co10 : Value).ownBlock) rfl rfl ?aP (fun k_ hk_ => ((Kd.R_mono (ok' := fun k_ => ((fun _ => True)) k_ ∧ some k_ ≠ (u5 : Value).ownBlock) (Kd.R_apart' (HO106.out) (Kd.S_typed HO_5.out) (by decide)) (fun k_ hk => ⟨trivial, hk.2⟩))).1 k_ hk_.symm) ?aF ?aO ?aB ?aS ?aL ?_; (case aP => exact Kd.M_row (Kd.R_mono (Kd.R_tight rfl (Kd.R_mono (ok' := fun k_ => ((fun _ => True)) k_ ∧ some k_ ≠ (u5 : Value).ownBlock) (Kd.R_apart' (HO106.out) (Kd.S_typed HO_5.out) (by decide)) (fun k_ hk => ⟨trivial, hk.2⟩))) (fun _ h_ => h_))); (case aB => exact (B_ HB.out)); (case aF => exact (fun _ _ => trivial)); (case aO => exact (by (with_reducible repeat (first | apply Kd.S_alloc | apply Kd.S_drewN | apply Kd.S_drew)); exact Kd.S_mono HO_5.out (fun k_ hk => ⟨trivial, fun e_ => hk.2 e_⟩))); (case aS => exact (below_size (B_ HB.out))); (case aL => have := LMc11.out; omega); intro v109 w16 ho hb hg hat; rw [← Ny108.out] at ho; replace HB := Aside0.mk (hb); have HO110 := Aside0.mk (ho); clear HO_5; clear HO106; clear ho hb hg hat))
    go_roundg k1
    case measure => exact Q1_ HK1
    case rel => exact ⟨(y108), (wrap64 (x6_1 + 1)), E_, H', ⟨Q1_ HK1⟩, ⟨KS_ HO110.out⟩, ⟨B_ HB.out⟩⟩
   ·rw [if_neg c5] at H
    have c5b0 : decide (x6_1 < a0) = false := decide_eq_false c5
    clear c5
    have H' := Aside0.mk H
    clear H
    go_wp2
    go_loopg [8] k1 (fun kq v8 w' => ∃ (x5_2 : List (List Bool)) (x8_2 : Int), v8 = .int .i64 x8_2 ∧ Aside0 (z25.l1 kq a0 l1 x5_2 x8_2 = some r) ∧ Aside0 (kq ≤ k1) ∧ Aside0 (Kd.S (Kd.slice 4 Kd.bool) 61 w' w.heap.size (fun _ => True) u5 x5_2) ∧ Aside0 (Below w.heap.size w w'))
    case atStart => exact ⟨(x5_1), (0), E_, H', ⟨Nat.le_refl _⟩, ⟨KS_ HO_5.out⟩, ⟨B_ HB.out⟩⟩
    case round =>
     clear H'
     (try clear c1);(try clear p1);(try clear q1);(try clear hx1);(try clear c2);(try clear p2);(try clear c5);(try clear c5b0);(try clear c6);(try clear c6b0);(try clear c6b1);(try clear p6);(try clear c7);(try clear c7b0);(try clear c7b1);(try clear c8);(try clear c8b0);(try clear c9);(try clear c9b0);(try clear p10);(try clear q10);(try clear hx10);(try clear hf10);(try clear c11);(try clear hx10_0);(try clear p10);(try clear p2);(try clear q10)
     obtain ⟨x5_2, x8_2, rfl, HA, HK2, HO_5, HB⟩ := hrel
     cases gk with
     | zero => exact absurd HA.out (by simp [z25.l1])
     | succ k2 =>
      have H := HA.out
      clear HA
      simp only [z25.l1] at H
      by_cases c17 : x8_2 < (l1.length : Int)
      ·rw [if_pos c17] at H
       have c17b0 : decide (x8_2 < (l1.length : Int)) = true := decide_eq_true c17
       clear c17
       have c18 := O1_ H
       replace H := O2_ H
       have c18b0 := decide_eq_true c18
       clear c18
       have c19 := O1_ H
       replace H := O2_ H
       have c19b0 := decide_eq_true c19
       have c19b1 : decide (0 < (rd_ListInt l1 x8_2).length) = true := decide_eq_true (by omega)
       clear c19
       have c20 := O1_ H
       replace H := O2_ H
       have c20b0 := decide_eq_true c20
       clear c20
       have c21 := O1_ H
       replace H := O2_ H
       have c21b0 := decide_eq_true c21
       clear c21
       have c22 := O1_ H
       replace H := O2_ H
       have c22b0 := decide_eq_true c22
       have c22b1 : decide (1 < (rd_ListInt l1 x8_2).length) = true := decide_eq_true (by omega)
       clear c22
       have c23 := O1_ H
       replace H := O2_ H
       have c23b0 := decide_eq_true c23
       clear c23
       have c24 := O1_ H
       replace H := O2_ H
       have c24b0 := decide_eq_true c24
       clear c24
       obtain ⟨y116, hy116⟩ : ∃ y_ : List Bool, y_ = ((rd_ListBool x5_2 (rd (rd_ListInt l1 x8_2) 0)).set ((rd (rd_ListInt l1 x8_2) 1) : Int).toNat true) := ⟨_, rfl⟩
       replace H : (z25.l1 k2 a0 l1 (x5_2.set ((rd (rd_ListInt l1 x8_2) 0) : Int).toNat y116) (wrap64 (x8_2 + 1))) = some r := Y_ hy116 H
       have Ny116 := Aside0.mk hy116
       clear hy116
       obtain ⟨y118, hy118⟩ : ∃ y_ : List (List Bool), y_ = (x5_2.set ((rd (rd_ListInt l1 x8_2) 0) : Int).toNat y116) := ⟨_, rfl⟩
       replace H : (z25.l1 k2 a0 l1 y118 (wrap64 (x8_2 + 1))) = some r := Y_ hy118 H
       have Ny118 := Aside0.mk hy118
       clear hy118
       have H' := Aside0.mk H
       clear H
       try go_wp2
       replace HO_5 := Aside0.mk (Kd.S_drew HO_5.out)
       replace HB := Aside0.mk (below_drew1 HB.out)
       have p111 : 0 ≤ (x8_2 : Int) := D_
       have q111 : x8_2 < (l1.length : Int) := D_
       obtain ⟨ad111, A111_0, c111_0, e111, hx111_0, hl111_0, hi111_0⟩ := at_ListInt HR1.out x8_2 p111 q111
       have hw111_0 := hx111_0
       cases e111
       replace hx111_0 := (HB.out.cell (World.block_lt_of_cell? w _ hx111_0)).trans hx111_0
       have HR111_0 := Aside0.mk hi111_0
       have HC111_0 := Aside0.mk hl111_0
       clear hi111_0 hl111_0
       replace p111 := eq_true p111
       replace q111 := eq_true q111
       have p112 : 0 ≤ (0 : Int) := (by omega)
       have q112 : 0 < ((rd_ListInt l1 x8_2).length : Int) := D_
       obtain ⟨ad112, e112, hx112_0⟩ := Kd.at_int HR111_0.out 0 p112 q112
       have hw112_0 := hx112_0
       (try rw [show ((0 : Int)).toNat = 0 from rfl] at hw112_0)
       (try rw [show 0 * 1 = 0 from rfl] at hw112_0)
       (try rw [Addr.add_zero'] at hw112_0)
       cases e112
       have qi112 : (0 < (rd_ListInt l1 x8_2).length) = True := eq_true (by omega)
       (try rw [show ((0 : Int)).toNat = 0 from rfl] at hx112_0)
       (try rw [Addr.add_zero'] at hx112_0)
       replace hx112_0 := (HB.out.cell (World.block_lt_of_cell? w _ hx112_0)).trans hx112_0
       replace p112 := eq_true p112
       replace q112 := eq_true q112
       obtain ⟨Ao27, co27, eo27⟩ := Kd.S_slice HO_5.out
       (first | subst eo27 | (injection eo27 with f1_ f2_ f3_; have f4_ := f1_.symm; have f5_ := f3_.symm; clear f1_ f2_ f3_; subst f4_; subst f5_))
       have p113 : 0 ≤ ((rd (rd_ListInt l1 x8_2) 0) : Int) := D_
       have q113 : (rd (rd_ListInt l1 x8_2) 0) < (x5_2.length : Int) := D_
       obtain ⟨ad113, A113_0, c113_0, e113, hx113_0, hl113_0, hi113_0⟩ := at_ListBool (Kd.S_reads' HO_5.out).2.2 (rd (rd_ListInt l1 x8_2) 0) p113 q113
       cases e113
       obtain ⟨ce113, hce113, hMe113, hcc113⟩ := Kd.S_get HO_5.out [] (rd (rd_ListInt l1 x8_2) 0) p113 (by first | exact q113 | exact D_ | (have e_ := (Kd.S_reads' HO_5.out).1; omega))
       obtain ⟨ve113_0, rfl, ge113_0⟩ := hMe113
       have hv113_0 := hcc113 0 _ rfl
       rw [Nat.add_zero, show ((Kd.slice 4 Kd.bool)).sz = 1 from rfl, Nat.mul_one] at hv113_0
       replace hv113_0 := Option.some.inj (hv113_0.symm.trans hx113_0)
       rw [hv113_0] at ge113_0
       have HL113_0 := Aside0.mk (show Kd.R Kd.bool 4 _ _ _ _ (rd_ListBool x5_2 (rd (rd_ListInt l1 x8_2) 0)) from ge113_0)
       clear hv113_0 ge113_0
       have HX113_0 := Aside0.mk hx113_0
       clear hcc113 hce113
       have HR113_0 := Aside0.mk hi113_0
       have HC113_0 := Aside0.mk hl113_0
       clear hi113_0 hl113_0
       replace p113 := eq_true p113
       replace q113 := eq_true q113
       have p114 : 0 ≤ (x8_2 : Int) := D_
       have q114 : x8_2 < (l1.length : Int) := D_
       obtain ⟨ad114, A114_0, c114_0, e114, hx114_0, hl114_0, hi114_0⟩ := at_ListInt HR1.out x8_2 p114 q114
       have hw114_0 := hx114_0
       obtain rfl : ad111 = ad114 := (by injection e114)
       replace hx114_0 := (HB.out.cell (World.block_lt_of_cell? w _ hx114_0)).trans hx114_0
       have HR114_0 := Aside0.mk hi114_0
       have HC114_0 := Aside0.mk hl114_0
       clear hi114_0 hl114_0
       replace p114 := eq_true p114
       replace q114 := eq_true q114
       have ea_ := Option.some.inj (hx111_0.symm.trans hx114_0)
       injection ea_ with ea_ en_ ec_
       subst ea_
       subst ec_
       clear en_
       have p115 : 0 ≤ (1 : Int) := (by omega)
       have q115 : 1 < ((rd_ListInt l1 x8_2).length : Int) := D_
       obtain ⟨ad115, e115, hx115_0⟩ := Kd.at_int HR114_0.out 1 p115 q115
       have hw115_0 := hx115_0
       (try rw [show ((1 : Int)).toNat = 1 from rfl] at hw115_0)
       (try rw [show 1 * 1 = 1 from rfl] at hw115_0)
       (try simp only [Nat.reduceMul, Nat.reduceEqDiff, Go.Addr.add, ↓reduceIte] at hw115_0)
       cases e115
       (try simp only [show (1 : Int).toNat = 1 from rfl, Nat.reduceMul, Nat.reduceEqDiff, Go.Addr.add, ↓reduceIte] at hx115_0)
       have qi115 : (1 < (rd_ListInt l1 x8_2).length) = True := eq_true (by omega)
       (try rw [show ((1 : Int)).toNat = 1 from rfl] at hx115_0)
       replace hx115_0 := (HB.out.cell (World.block_lt_of_cell? w _ hx115_0)).trans hx115_0
       replace p115 := eq_true p115
       replace q115 := eq_true q115
       have p25 : 0 ≤ ((rd (rd_ListInt l1 x8_2) 1) : Int) := D_
       have q25 : ((rd (rd_ListInt l1 x8_2) 1) : Int) < (((rd_ListBool x5_2 (rd (rd_ListInt l1 x8_2) 0)).length : Int) : Int) := D_
       obtain ⟨go25, co25, eo25, gb25, gl25, cl25, HG25⟩ := Kd.R_form HL113_0.out (by omega)
       (first | cases eo25 | (injection eo25 with ea_ en_ ec_; (first | subst ea_ | (injection ea_ with ea_; subst ea_)); subst ec_; clear en_))
       have GB25 := Aside0.mk gb25
       have GG25 := Aside0.mk HG25
       clear gb25 gl25 HG25
       obtain ⟨hx25_0, hf25_0⟩ := Kd.R_celln false HL113_0.out ((rd (rd_ListInt l1 x8_2) 1) : Int) p25 q25
       replace p25 := eq_true p25
       replace q25 := eq_true q25
       have hq28 : ((rd (rd_ListInt l1 x8_2) 0) : Int) < (x5_2.length : Int) := (by have h_ : ((rd (rd_ListInt l1 x8_2) 0) : Int) < ((x5_2.length : Int) : Int) := D_; first | exact h_ | (have e_ := (Kd.S_reads' HO_5.out).1; omega) | simpa only [List.length_set, List.length_set] using h_)
       obtain ⟨oki28, ce28, hcl28, hM28, hcc28, hok28, hbk28⟩ := Kd.S_borrow HO_5.out [] ((rd (rd_ListInt l1 x8_2) 0) : Int) (D_) (by first | exact hq28 | (have e_ := (Kd.S_reads' HO_5.out).1; have h_ := hq28; omega))
       obtain ⟨ve28_0, rfl, ge28_0⟩ := hM28
       have hv28 := hcc28 0 _ rfl
       rw [Nat.add_zero, show ((Kd.slice 4 Kd.bool)).sz = 1 from rfl, Nat.mul_one] at hv28
       replace hv28 := Option.some.inj (hv28.symm.trans HX113_0.out)
       subst hv28
       clear hcc28 hcl28
       replace ge28_0 := (show Kd.R Kd.bool 4 _ _ _ _ (rd_ListBool x5_2 (rd (rd_ListInt l1 x8_2) 0)) from ge28_0)
       have HP28 := Kd.R_putg ge28_0 ((rd (rd_ListInt l1 x8_2) 1) : Int) true
       rw [← Ny116.out] at HP28
       have HS28 := hbk28 HP28.2 (fun k_ e_ => by injection e_ with e_; subst e_; exact ge28_0.1 _ rfl) (x' := y116) (Kd.M_row HP28.1)
       rw [← Ny118.out] at HS28
       have HQ28 := Aside0.mk HS28
       clear HP28 HS28 hbk28 hok28
       refine start_ (n := 17) (S := fun w' => w'.cell? (ad111.add (x8_2).toNat) = some (.slice (some ad112) (rd_ListInt l1 x8_2).length c111_0) ∧ w'.cell? ad112 = some (.int .i64 (rd (rd_ListInt l1 x8_2) 0)) ∧ w'.cell? (ad113.add ((rd (rd_ListInt l1 x8_2) 0)).toNat) = some (.slice (some ⟨go25, 0, none⟩) (rd_ListBool x5_2 (rd (rd_ListInt l1 x8_2) 0)).length c113_0) ∧ w'.cell? (ad111.add (x8_2).toNat) = some (.slice (some ad112) (rd_ListInt l1 x8_2).length c111_0) ∧ w'.cell? ⟨ad112.block, ad112.off + 1, none⟩ = some (.int .i64 (rd (rd_ListInt l1 x8_2) 1))) (ds := [16]) (tb_ 17 0) (by kernel_rfl) rfl rfl ⟨((HB.out.cell (World.block_lt_of_cell? w _ hw111_0)).trans hw111_0), ((HB.out.cell (World.block_lt_of_cell? w _ hw112_0)).trans hw112_0), hx113_0, ((HB.out.cell (World.block_lt_of_cell? w _ hw114_0)).trans hw114_0), ((HB.out.cell (World.block_lt_of_cell? w _ hw115_0)).trans hw115_0)⟩ (fun hHeld => ?_); refine with_tabW z25.tab11 z25.bits11 (fun HT_ HW_ => ?_)
       generalize wr.drew = w26 at HO_5 HB GG25 HL113_0 HQ28 HR111_0 HR113_0 HR114_0 HX113_0 hf25_0 hx111_0 hx112_0 hx113_0 hx114_0 hx115_0 hx25_0 hHeld ⊢
       refine PV_ (i := 0) (N := some 33) (tb_ 17 1) HT_ rfl rfl (h := ?_)
       refine PV_ (i := 1) (N := some 34) (tb_ 17 3) HT_ rfl rfl (h := ?_)
       refine PV_ (i := 2) (N := some 35) (tb_ 17 7) HT_ rfl rfl (h := ?_)
       refine PV_ (i := 3) (N := some 36) (tb_ 17 15) HT_ rfl rfl (h := ?_)
       refine PV_ (i := 9) (N := some 42) (tb_ 17 527) HT_ rfl rfl (h := ?_)
       refine PV_ (i := 10) (N := some 43) (tb_ 17 1551) HT_ rfl rfl (h := ?_)
       refine PV_ (i := 11) (N := some 44) (tb_ 17 3599) HT_ rfl rfl (h := ?_)
       refine TV_ (i := 4) (N := some 37) (tb_ 17 3615) HT_ HW_ rfl rfl hHeld (by rintro w' ⟨s0, s1, s2, s3, s4⟩; go_simp; with_reducible rfl) (h := ?_)
       refine PV_ (i := 5) (N := some 38) (tb_ 17 3647) HT_ rfl rfl (h := ?_)
       refine TV_ (i := 6) (N := some 39) (tb_ 17 3711) HT_ HW_ rfl rfl hHeld (by rintro w' ⟨s0, s1, s2, s3, s4⟩; go_simp; with_reducible rfl) (h := ?_)
       refine PV_ (i := 7) (N := some 40) (tb_ 17 3839) HT_ rfl rfl (h := ?_)
       refine TV_ (i := 8) (N := some 41) (tb_ 17 4095) HT_ HW_ rfl rfl hHeld (by rintro w' ⟨s0, s1, s2, s3, s4⟩; go_simp; with_reducible rfl) (h := ?_)
       refine TV_ (i := 12) (N := some 45) (tb_ 17 8191) HT_ HW_ rfl rfl hHeld (by rintro w' ⟨s0, s1, s2, s3, s4⟩; go_simp; with_reducible rfl) (h := ?_)
       refine PV_ (i := 13) (N := some 46) (tb_ 17 16383) HT_ rfl rfl (h := ?_)
       refine TV_ (i := 14) (N := some 47) (tb_ 17 32767) HT_ HW_ rfl rfl hHeld (by rintro w' ⟨s0, s1, s2, s3, s4⟩; go_simp; with_reducible rfl) (h := ?_)
       refine PV_ (i := 15) (N := some 48) (tb_ 17 65535) HT_ rfl rfl (h := ?_)
       refine last_ (i := 16) (N := none) (tb_ 17 131071) rfl rfl (one_of HT_.out (by kernel_rfl)) (by decide) (fun K hK => ?_)
       refine skip_ (w1 := ?_) (by rfl) rfl ?_ ?_
       rotate_left
       ·go_simp
        rfl
       refine hK.out _ _ ?_
       clear hK K
       refine done_ (done_of HT_.out (by kernel_rfl)) ?_
       try go_wp2
       go_roundg k2
       case measure => exact Q2_ HK1 HK2
       case rel => exact ⟨(y118), (wrap64 (x8_2 + 1)), E_, H', ⟨Q2_ HK1 HK2⟩, ⟨KS_ HQ28.out⟩, ⟨B1_ HB.out GB25.out⟩⟩
      ·rw [if_neg c17] at H
       have c17b0 : decide (x8_2 < (l1.length : Int)) = false := decide_eq_false c17
       clear c17
       have H' := Aside0.mk H
       clear H
       go_wp2
       go_loopg [9] k2 (fun kq v9 w' => ∃ (x5_3 : List (List Bool)) (x9_3 : Int), v9 = .int .i64 x9_3 ∧ Aside0 (z25.l2 kq a0 x5_3 x9_3 = some r) ∧ Aside0 (kq ≤ k2) ∧ Aside0 (Kd.S (Kd.slice 4 Kd.bool) 61 w' w.heap.size (fun _ => True) u5 x5_3) ∧ Aside0 (Below w.heap.size w w'))
       case atStart => exact ⟨(x5_2), (0), E_, H', ⟨Nat.le_refl _⟩, ⟨KS_ HO_5.out⟩, ⟨B_ HB.out⟩⟩
       case round =>
        clear H'
        (try clear c1);(try clear p1);(try clear q1);(try clear hx1);(try clear qi1);(try clear c2);(try clear p2);(try clear q2);(try clear hx2);(try clear hf2);(try clear c5);(try clear c5b0);(try clear c6);(try clear c6b0);(try clear c6b1);(try clear p6);(try clear c7);(try clear c7b0);(try clear c7b1);(try clear c8);(try clear c8b0);(try clear c9);(try clear c9b0);(try clear p10);(try clear q10);(try clear hx10);(try clear hf10);(try clear c11);(try clear p11);(try clear q11);(try clear hx11);(try clear qi11);(try clear c17);(try clear c17b0);(try clear c18);(try clear c18b0);(try clear c19);(try clear c19b0);(try clear c19b1);(try clear c20);(try clear c20b0);(try clear c21);(try clear c21b0);(try clear c22);(try clear c22b0);(try clear c22b1);(try clear c23);(try clear c23b0);(try clear c24);(try clear c24b0);(try clear c25);(try clear p25);(try clear q25);(try clear hx25);(try clear hf25)
        (try clear c28);(try clear q28);(try clear hx10_0);(try clear hx111_0);(try clear hx112_0);(try clear hx113_0);(try clear hx114_0);(try clear hx115_0);(try clear hx25_0);(try clear p1);(try clear p10);(try clear p111);(try clear p112);(try clear p113);(try clear p114);(try clear p115);(try clear p2);(try clear p25);(try clear p6);(try clear q1);(try clear q10);(try clear q111);(try clear q112);(try clear q113);(try clear q114);(try clear q115);(try clear q25)
        obtain ⟨x5_3, x9_3, rfl, HA, HK3, HO_5, HB⟩ := hrel
        cases gk with
        | zero => exact absurd HA.out (by simp [z25.l2])
        | succ k3 =>
         have H := HA.out
         clear HA
         simp only [z25.l2] at H
         by_cases c30 : x9_3 < a0
         ·rw [if_pos c30] at H
          have c30b0 : decide (x9_3 < a0) = true := decide_eq_true c30
          clear c30
          have H' := Aside0.mk H
          clear H
          go_wp2
          go_loopg [10] k3 (fun kq v10 w' => ∃ (x5_4 : List (List Bool)) (x10_4 : Int), v10 = .int .i64 x10_4 ∧ Aside0 (z25.l3 kq a0 x5_4 x9_3 x10_4 = some r) ∧ Aside0 (kq ≤ k3) ∧ Aside0 (Kd.S (Kd.slice 4 Kd.bool) 61 w' w.heap.size (fun _ => True) u5 x5_4) ∧ Aside0 (Below w.heap.size w w'))
          case atStart => exact ⟨(x5_3), (0), E_, H', ⟨Nat.le_refl _⟩, ⟨KS_ HO_5.out⟩, ⟨B_ HB.out⟩⟩
          case round =>
           clear H'
           (try clear c1);(try clear p1);(try clear q1);(try clear hx1);(try clear qi1);(try clear c2);(try clear p2);(try clear q2);(try clear hx2);(try clear hf2);(try clear c3);(try clear c5);(try clear c5b0);(try clear c6);(try clear c6b0);(try clear c6b1);(try clear p6);(try clear c7);(try clear c7b0);(try clear c7b1);(try clear c8);(try clear c8b0);(try clear c9);(try clear c9b0);(try clear p10);(try clear q10);(try clear hx10);(try clear hf10);(try clear c11);(try clear p11);(try clear q11);(try clear hx11);(try clear qi11);(try clear c17);(try clear c17b0);(try clear c18);(try clear c18b0);(try clear c19);(try clear c19b0);(try clear c19b1);(try clear c20);(try clear c20b0);(try clear c21);(try clear c21b0);(try clear c22);(try clear c22b0);(try clear c22b1);(try clear c23);(try clear c23b0);(try clear c24);(try clear c24b0);(try clear c25);(try clear p25);(try clear q25);(try clear hx25);(try clear hf25)
           (try clear c28);(try clear q28);(try clear c30);(try clear c30b0);(try clear hx10_0);(try clear hx111_0);(try clear hx112_0);(try clear hx113_0);(try clear hx114_0);(try clear hx115_0);(try clear hx25_0);(try clear p1);(try clear p10);(try clear p11);(try clear p111);(try clear p112);(try clear p113);(try clear p114);(try clear p115);(try clear p2);(try clear p25);(try clear p6);(try clear q1);(try clear q10);(try clear q11);(try clear q111);(try clear q112);(try clear q113);(try clear q114);(try clear q115);(try clear q2);(try clear q25);(try clear q28)
           obtain ⟨x5_4, x10_4, rfl, HA, HK4, HO_5, HB⟩ := hrel
           cases gk with
           | zero => exact absurd HA.out (by simp [z25.l3])
           | succ k4 =>
            have H := HA.out
            clear HA
            simp only [z25.l3] at H
            by_cases c31 : x10_4 < a0
            ·rw [if_pos c31] at H
             have c31b0 : decide (x10_4 < a0) = true := decide_eq_true c31
             clear c31
             have H' := Aside0.mk H
             clear H
             go_wp2
             go_loopg [11] k4 (fun kq v11 w' => ∃ (x5_5 : List (List Bool)) (x11_5 : Int), v11 = .int .i64 x11_5 ∧ Aside0 (z25.l4 kq a0 x5_5 x9_3 x10_4 x11_5 = some r) ∧ Aside0 (kq ≤ k4) ∧ Aside0 (Kd.S (Kd.slice 4 Kd.bool) 61 w' w.heap.size (fun _ => True) u5 x5_5) ∧ Aside0 (Below w.heap.size w w'))
             case atStart => exact ⟨(x5_4), (0), E_, H', ⟨Nat.le_refl _⟩, ⟨KS_ HO_5.out⟩, ⟨B_ HB.out⟩⟩
             case round =>
              clear H'
              (try clear c1);(try clear p1);(try clear q1);(try clear hx1);(try clear qi1);(try clear c2);(try clear p2);(try clear q2);(try clear hx2);(try clear hf2);(try clear c3);(try clear c5);(try clear c5b0);(try clear c6);(try clear c6b0);(try clear c6b1);(try clear p6);(try clear c7);(try clear c7b0);(try clear c7b1);(try clear c8);(try clear c8b0);(try clear c9);(try clear c9b0);(try clear p10);(try clear q10);(try clear hx10);(try clear hf10);(try clear c11);(try clear p11);(try clear q11);(try clear hx11);(try clear qi11);(try clear c17);(try clear c17b0);(try clear c18);(try clear c18b0);(try clear c19);(try clear c19b0);(try clear c19b1);(try clear c20);(try clear c20b0);(try clear c21);(try clear c21b0);(try clear c22);(try clear c22b0);(try clear c22b1);(try clear c23);(try clear c23b0);(try clear c24);(try clear c24b0);(try clear c25);(try clear p25);(try clear q25);(try clear hx25);(try clear hf25)
              (try clear c28);(try clear q28);(try clear c30);(try clear c30b0);(try clear c31);(try clear c31b0);(try clear hx10_0);(try clear hx111_0);(try clear hx112_0);(try clear hx113_0);(try clear hx114_0);(try clear hx115_0);(try clear hx25_0);(try clear p1);(try clear p10);(try clear p11);(try clear p111);(try clear p112);(try clear p113);(try clear p114);(try clear p115);(try clear p2);(try clear p25);(try clear p6);(try clear q1);(try clear q10);(try clear q11);(try clear q111);(try clear q112);(try clear q113);(try clear q114);(try clear q115);(try clear q2);(try clear q25);(try clear q28)
              obtain ⟨x5_5, x11_5, rfl, HA, HK5, HO_5, HB⟩ := hrel
              cases gk with
              | zero => exact absurd HA.out (by simp [z25.l4])
              | succ k5 =>
               have H := HA.out
               clear HA
               simp only [z25.l4] at H
               by_cases c32 : x11_5 < a0
               ·rw [if_pos c32] at H
                have c32b0 : decide (x11_5 < a0) = true := decide_eq_true c32
                clear c32
                have c33 := O1_ H
                replace H := O2_ H
                have c33b0 := decide_eq_true c33
                clear c33
                have c34 := O1_ H
                replace H := O2_ H
                have c34b0 := decide_eq_true c34
                clear c34
                have c35 := O1_ H
                replace H := O2_ H
                have c35b0 := decide_eq_true c35
                clear c35
                have c36 := O1_ H
                replace H := O2_ H
                have c36b0 := decide_eq_true c36
                clear c36
                obtain ⟨bq37, hbq37⟩ : ∃ b_ : Bool, b_ = (rdOf false (rd_ListBool x5_5 x10_4) x9_3) := ⟨_, rfl⟩
                rw [← hbq37] at H
                have Nbq37 := Aside0.mk hbq37
                clear hbq37
                by_cases c38 : bq37 = true
                ·subst c38
                 replace H := T_ H
                 have c39 := O1_ H
                 replace H := O2_ H
                 have c39b0 := decide_eq_true c39
                 clear c39
                 have c40 := O1_ H
                 replace H := O2_ H
                 have c40b0 := decide_eq_true c40
                 clear c40
                 have c41 := O1_ H
                 replace H := O2_ H
                 have c41b0 := decide_eq_true c41
                 clear c41
                 obtain ⟨bq42, hbq42⟩ : ∃ b_ : Bool, b_ = (rdOf false (rd_ListBool x5_5 x9_3) x11_5) := ⟨_, rfl⟩
                 rw [← hbq42] at H
                 have Nbq42 := Aside0.mk hbq42
                 clear hbq42
                 by_cases c43 : bq42 = true
                 ·subst c43
                  replace H := T_ H
                  have c44 := O1_ H
                  replace H := O2_ H
                  have c44b0 := decide_eq_true c44
                  clear c44
                  obtain ⟨y124, hy124⟩ : ∃ y_ : List Bool, y_ = ((rd_ListBool x5_5 x10_4).set (x11_5 : Int).toNat true) := ⟨_, rfl⟩
                  replace H : (z25.l4 k5 a0 (x5_5.set (x10_4 : Int).toNat y124) x9_3 x10_4 (wrap64 (x11_5 + 1))) = some r := Y_ hy124 H
                  have Ny124 := Aside0.mk hy124
                  clear hy124
                  obtain ⟨y126, hy126⟩ : ∃ y_ : List (List Bool), y_ = (x5_5.set (x10_4 : Int).toNat y124) := ⟨_, rfl⟩
                  replace H : (z25.l4 k5 a0 y126 x9_3 x10_4 (wrap64 (x11_5 + 1))) = some r := Y_ hy126 H
                  have Ny126 := Aside0.mk hy126
                  clear hy126
                  have H' := Aside0.mk H
                  clear H
                  obtain ⟨Ao46, co46, eo46⟩ := Kd.S_slice HO_5.out
                  subst eo46
                  have p119 : 0 ≤ (x10_4 : Int) := D_
                  have q119 : x10_4 < (x5_5.length : Int) := D_
                  obtain ⟨ad119, A119_0, c119_0, e119, hx119_0, hl119_0, hi119_0⟩ := at_ListBool (Kd.S_reads' HO_5.out).2.2 x10_4 p119 q119
                  cases e119
                  obtain ⟨ce119, hce119, hMe119, hcc119⟩ := Kd.S_get HO_5.out [] x10_4 p119 (by first | exact q119 | exact D_ | (have e_ := (Kd.S_reads' HO_5.out).1; omega))
                  obtain ⟨ve119_0, rfl, ge119_0⟩ := hMe119
                  have hv119_0 := hcc119 0 _ rfl
                  rw [Nat.add_zero, show ((Kd.slice 4 Kd.bool)).sz = 1 from rfl, Nat.mul_one] at hv119_0
                  replace hv119_0 := Option.some.inj (hv119_0.symm.trans hx119_0)
                  rw [hv119_0] at ge119_0
                  have HL119_0 := Aside0.mk (show Kd.R Kd.bool 4 _ _ _ _ (rd_ListBool x5_5 x10_4) from ge119_0)
                  clear hv119_0 ge119_0
                  have HX119_0 := Aside0.mk hx119_0
                  clear hcc119 hce119
                  have HR119_0 := Aside0.mk hi119_0
                  have HC119_0 := Aside0.mk hl119_0
                  clear hi119_0 hl119_0
                  replace p119 := eq_true p119
                  replace q119 := eq_true q119
                  have p120 : 0 ≤ (x9_3 : Int) := D_
                  have q120 : x9_3 < ((rd_ListBool x5_5 x10_4).length : Int) := D_
                  obtain ⟨ad120, e120, hx120_0⟩ := Kd.at_bool (KC_ HR119_0.out) x9_3 p120 q120
                  (try rw [← Nbq37.out] at hx120_0)
                  (try rw [← Nbq42.out] at hx120_0)
                  cases e120
                  replace p120 := eq_true p120
                  replace q120 := eq_true q120
                  have p121 : 0 ≤ (x9_3 : Int) := D_
                  have q121 : x9_3 < (x5_5.length : Int) := D_
                  obtain ⟨ad121, A121_0, c121_0, e121, hx121_0, hl121_0, hi121_0⟩ := at_ListBool (Kd.S_reads' HO_5.out).2.2 x9_3 p121 q121
                  obtain rfl : ad119 = ad121 := (by injection e121)
                  obtain ⟨ce121, hce121, hMe121, hcc121⟩ := Kd.S_get HO_5.out [] x9_3 p121 (by first | exact q121 | exact D_ | (have e_ := (Kd.S_reads' HO_5.out).1; omega))
                  obtain ⟨ve121_0, rfl, ge121_0⟩ := hMe121
                  have hv121_0 := hcc121 0 _ rfl
                  rw [Nat.add_zero, show ((Kd.slice 4 Kd.bool)).sz = 1 from rfl, Nat.mul_one] at hv121_0
                  replace hv121_0 := Option.some.inj (hv121_0.symm.trans hx121_0)
                  rw [hv121_0] at ge121_0
                  have HL121_0 := Aside0.mk (show Kd.R Kd.bool 4 _ _ _ _ (rd_ListBool x5_5 x9_3) from ge121_0)
                  clear hv121_0 ge121_0
                  have HX121_0 := Aside0.mk hx121_0
                  clear hcc121 hce121
                  have HR121_0 := Aside0.mk hi121_0
                  have HC121_0 := Aside0.mk hl121_0
                  clear hi121_0 hl121_0
                  replace p121 := eq_true p121
                  replace q121 := eq_true q121
                  have p122 : 0 ≤ (x11_5 : Int) := D_
                  have q122 : x11_5 < ((rd_ListBool x5_5 x9_3).length : Int) := D_
                  obtain ⟨ad122, e122, hx122_0⟩ := Kd.at_bool (KC_ HR121_0.out) x11_5 p122 q122
                  (try rw [← Nbq37.out] at hx122_0)
                  (try rw [← Nbq42.out] at hx122_0)
                  cases e122
                  replace p122 := eq_true p122
                  replace q122 := eq_true q122
                  have p123 : 0 ≤ (x10_4 : Int) := D_
                  have q123 : x10_4 < (x5_5.length : Int) := D_
                  obtain ⟨ad123, A123_0, c123_0, e123, hx123_0, hl123_0, hi123_0⟩ := at_ListBool (Kd.S_reads' HO_5.out).2.2 x10_4 p123 q123
                  obtain rfl : ad119 = ad123 := (by injection e123)
                  obtain ⟨ce123, hce123, hMe123, hcc123⟩ := Kd.S_get HO_5.out [] x10_4 p123 (by first | exact q123 | exact D_ | (have e_ := (Kd.S_reads' HO_5.out).1; omega))
                  obtain ⟨ve123_0, rfl, ge123_0⟩ := hMe123
                  have hv123_0 := hcc123 0 _ rfl
                  rw [Nat.add_zero, show ((Kd.slice 4 Kd.bool)).sz = 1 from rfl, Nat.mul_one] at hv123_0
                  replace hv123_0 := Option.some.inj (hv123_0.symm.trans hx123_0)
                  rw [hv123_0] at ge123_0
                  have HL123_0 := Aside0.mk (show Kd.R Kd.bool 4 _ _ _ _ (rd_ListBool x5_5 x10_4) from ge123_0)
                  clear hv123_0 ge123_0
                  have HX123_0 := Aside0.mk hx123_0
                  clear hcc123 hce123
                  have HR123_0 := Aside0.mk hi123_0
                  have HC123_0 := Aside0.mk hl123_0
                  clear hi123_0 hl123_0
                  replace p123 := eq_true p123
                  replace q123 := eq_true q123
                  have ea_ := Option.some.inj (hx119_0.symm.trans hx123_0)
                  injection ea_ with ea_ en_ ec_
                  subst ea_
                  subst ec_
                  clear en_
                  have p45 : 0 ≤ (x11_5 : Int) := D_
                  have q45 : (x11_5 : Int) < (((rd_ListBool x5_5 x10_4).length : Int) : Int) := D_
                  obtain ⟨go45, co45, eo45, gb45, gl45, cl45, HG45⟩ := Kd.R_form HL123_0.out (by omega)
                  (first | cases eo45 | (injection eo45 with ea_ en_ ec_; (first | subst ea_ | (injection ea_ with ea_; subst ea_)); subst ec_; clear en_))
                  (first | simp only [add_plain] at hx120_0 | skip)
                  have GB45 := Aside0.mk gb45
                  have GG45 := Aside0.mk HG45
                  clear gb45 gl45 HG45
                  (first | simp only [add_plain] at hx120_0 | skip)
                  obtain ⟨hx45_0, hf45_0⟩ := Kd.R_celln false HL123_0.out (x11_5 : Int) p45 q45
                  replace p45 := eq_true p45
                  replace q45 := eq_true q45
                  have hq47 : (x10_4 : Int) < (x5_5.length : Int) := (by have h_ : (x10_4 : Int) < ((x5_5.length : Int) : Int) := D_; first | exact h_ | (have e_ := (Kd.S_reads' HO_5.out).1; omega) | simpa only [List.length_set, List.length_set] using h_)
                  obtain ⟨oki47, ce47, hcl47, hM47, hcc47, hok47, hbk47⟩ := Kd.S_borrow HO_5.out [] (x10_4 : Int) (D_) (by first | exact hq47 | (have e_ := (Kd.S_reads' HO_5.out).1; have h_ := hq47; omega))
                  obtain ⟨ve47_0, rfl, ge47_0⟩ := hM47
                  have hv47 := hcc47 0 _ rfl
                  rw [Nat.add_zero, show ((Kd.slice 4 Kd.bool)).sz = 1 from rfl, Nat.mul_one] at hv47
                  replace hv47 := Option.some.inj (hv47.symm.trans HX123_0.out)
                  subst hv47
                  clear hcc47 hcl47
                  replace ge47_0 := (show Kd.R Kd.bool 4 _ _ _ _ (rd_ListBool x5_5 x10_4) from ge47_0)
                  have HP47 := Kd.R_putg ge47_0 (x11_5 : Int) true
                  go_wp2_with (first | ((with_reducible refine gate_store (t := 4) (p := 85) rfl ?_); refine store_event (t := 4) (p := 85) (v := ?vo_w48) (w1 := (wr.setCell ⟨go45, (x11_5 : Int).toNat, none⟩ (.bool true))) ?hg ?ho ?hn ?hr ?_; (case ho => rfl); (case hg => rfl); (case hn => rfl); (case hr => first | (go_simp; done) | (go_simp; rfl)); intro w48 hw; have hg : wr.grownBy w48 (some go45) := (by rw [hw]; exact HP47.2); have hz_ : Kd.R Kd.bool 4 w48 w.heap.size oki47 (.slice (some ⟨go45, 0, none⟩) (rd_ListBool x5_5 x10_4).length c119_0) y124 := (by rw [hw, Ny124.out]; exact HP47.1); have hp_ : Kd.S (Kd.slice 4 Kd.bool) 61 w48 w.heap.size (fun _ => True) (.slice (some ad119) x5_5.length co46) y126 := (by rw [Ny126.out]; exact hbk47 hg (fun k_ e_ => by injection e_ with e_; subst e_; exact ge47_0.1 _ rfl) (Kd.M_row hz_)); have hm_ := Kd.R_mono hz_ hok47; clear HP47 hbk47; replace HO_5 := Aside0.mk (hp_); replace HB := Aside0.mk ((by rw [hw]; exact below_set (HB.out) GB45.out : Below w.heap.size w w48)); have HL127 := Aside0.mk (hm_); have HC125 := Aside0.mk ((Kd.R_reads' hm_).2.1); clear HL119_0; clear HL121_0; clear HL123_0; clear hg hw hp_ hz_ hm_ hok47))
                  go_roundg k5
                  case measure => exact Q5_ HK1 HK2 HK3 HK4 HK5
                  case rel => exact ⟨(y126), (wrap64 (x11_5 + 1)), E_, H', ⟨Q5_ HK1 HK2 HK3 HK4 HK5⟩, ⟨KS_ HO_5.out⟩, ⟨B_ HB.out⟩⟩
                 ·replace c43 := Bool.eq_false_iff.mpr c43
                  subst c43
                  replace H := N_ H
                  have H' := Aside0.mk H
                  clear H
                  obtain ⟨Ao49, co49, eo49⟩ := Kd.S_slice HO_5.out
                  subst eo49
                  have p119 : 0 ≤ (x10_4 : Int) := D_
                  have q119 : x10_4 < (x5_5.length : Int) := D_
                  obtain ⟨ad119, A119_0, c119_0, e119, hx119_0, hl119_0, hi119_0⟩ := at_ListBool (Kd.S_reads' HO_5.out).2.2 x10_4 p119 q119
                  cases e119
                  obtain ⟨ce119, hce119, hMe119, hcc119⟩ := Kd.S_get HO_5.out [] x10_4 p119 (by first | exact q119 | exact D_ | (have e_ := (Kd.S_reads' HO_5.out).1; omega))
                  obtain ⟨ve119_0, rfl, ge119_0⟩ := hMe119
                  have hv119_0 := hcc119 0 _ rfl
                  rw [Nat.add_zero, show ((Kd.slice 4 Kd.bool)).sz = 1 from rfl, Nat.mul_one] at hv119_0
                  replace hv119_0 := Option.some.inj (hv119_0.symm.trans hx119_0)
                  rw [hv119_0] at ge119_0
                  have HL119_0 := Aside0.mk (show Kd.R Kd.bool 4 _ _ _ _ (rd_ListBool x5_5 x10_4) from ge119_0)
                  clear hv119_0 ge119_0
                  have HX119_0 := Aside0.mk hx119_0
                  clear hcc119 hce119
                  have HR119_0 := Aside0.mk hi119_0
                  have HC119_0 := Aside0.mk hl119_0
                  clear hi119_0 hl119_0
                  replace p119 := eq_true p119
                  replace q119 := eq_true q119
                  have p120 : 0 ≤ (x9_3 : Int) := D_
                  have q120 : x9_3 < ((rd_ListBool x5_5 x10_4).length : Int) := D_
                  obtain ⟨ad120, e120, hx120_0⟩ := Kd.at_bool (KC_ HR119_0.out) x9_3 p120 q120
                  (try rw [← Nbq37.out] at hx120_0)
                  (try rw [← Nbq42.out] at hx120_0)
                  cases e120
                  replace p120 := eq_true p120
                  replace q120 := eq_true q120
                  have p121 : 0 ≤ (x9_3 : Int) := D_
                  have q121 : x9_3 < (x5_5.length : Int) := D_
                  obtain ⟨ad121, A121_0, c121_0, e121, hx121_0, hl121_0, hi121_0⟩ := at_ListBool (Kd.S_reads' HO_5.out).2.2 x9_3 p121 q121
                  obtain rfl : ad119 = ad121 := (by injection e121)
                  obtain ⟨ce121, hce121, hMe121, hcc121⟩ := Kd.S_get HO_5.out [] x9_3 p121 (by first | exact q121 | exact D_ | (have e_ := (Kd.S_reads' HO_5.out).1; omega))
                  obtain ⟨ve121_0, rfl, ge121_0⟩ := hMe121
                  have hv121_0 := hcc121 0 _ rfl
                  rw [Nat.add_zero, show ((Kd.slice 4 Kd.bool)).sz = 1 from rfl, Nat.mul_one] at hv121_0
                  replace hv121_0 := Option.some.inj (hv121_0.symm.trans hx121_0)
                  rw [hv121_0] at ge121_0
                  have HL121_0 := Aside0.mk (show Kd.R Kd.bool 4 _ _ _ _ (rd_ListBool x5_5 x9_3) from ge121_0)
                  clear hv121_0 ge121_0
                  have HX121_0 := Aside0.mk hx121_0
                  clear hcc121 hce121
                  have HR121_0 := Aside0.mk hi121_0
                  have HC121_0 := Aside0.mk hl121_0
                  clear hi121_0 hl121_0
                  replace p121 := eq_true p121
                  replace q121 := eq_true q121
                  have p122 : 0 ≤ (x11_5 : Int) := D_
                  have q122 : x11_5 < ((rd_ListBool x5_5 x9_3).length : Int) := D_
                  obtain ⟨ad122, e122, hx122_0⟩ := Kd.at_bool (KC_ HR121_0.out) x11_5 p122 q122
                  (try rw [← Nbq37.out] at hx122_0)
                  (try rw [← Nbq42.out] at hx122_0)
                  cases e122
                  replace p122 := eq_true p122
                  replace q122 := eq_true q122
                  go_wp2
                  go_roundg k5
                  case measure => exact Q5_ HK1 HK2 HK3 HK4 HK5
                  case rel => exact ⟨(x5_5), (wrap64 (x11_5 + 1)), E_, H', ⟨Q5_ HK1 HK2 HK3 HK4 HK5⟩, ⟨KS_ HO_5.out⟩, ⟨B_ HB.out⟩⟩
                ·replace c38 := Bool.eq_false_iff.mpr c38
                 subst c38
                 replace H := N_ H
                 have H' := Aside0.mk H
                 clear H
                 obtain ⟨Ao50, co50, eo50⟩ := Kd.S_slice HO_5.out
                 subst eo50
                 have p119 : 0 ≤ (x10_4 : Int) := D_
                 have q119 : x10_4 < (x5_5.length : Int) := D_
                 obtain ⟨ad119, A119_0, c119_0, e119, hx119_0, hl119_0, hi119_0⟩ := at_ListBool (Kd.S_reads' HO_5.out).2.2 x10_4 p119 q119
                 cases e119
                 obtain ⟨ce119, hce119, hMe119, hcc119⟩ := Kd.S_get HO_5.out [] x10_4 p119 (by first | exact q119 | exact D_ | (have e_ := (Kd.S_reads' HO_5.out).1; omega))
                 obtain ⟨ve119_0, rfl, ge119_0⟩ := hMe119
                 have hv119_0 := hcc119 0 _ rfl
                 rw [Nat.add_zero, show ((Kd.slice 4 Kd.bool)).sz = 1 from rfl, Nat.mul_one] at hv119_0
                 replace hv119_0 := Option.some.inj (hv119_0.symm.trans hx119_0)
                 rw [hv119_0] at ge119_0
                 have HL119_0 := Aside0.mk (show Kd.R Kd.bool 4 _ _ _ _ (rd_ListBool x5_5 x10_4) from ge119_0)
                 clear hv119_0 ge119_0
                 have HX119_0 := Aside0.mk hx119_0
                 clear hcc119 hce119
                 have HR119_0 := Aside0.mk hi119_0
                 have HC119_0 := Aside0.mk hl119_0
                 clear hi119_0 hl119_0
                 replace p119 := eq_true p119
                 replace q119 := eq_true q119
                 have p120 : 0 ≤ (x9_3 : Int) := D_
                 have q120 : x9_3 < ((rd_ListBool x5_5 x10_4).length : Int) := D_
                 obtain ⟨ad120, e120, hx120_0⟩ := Kd.at_bool (KC_ HR119_0.out) x9_3 p120 q120
                 (try rw [← Nbq37.out] at hx120_0)
                 cases e120
                 replace p120 := eq_true p120
                 replace q120 := eq_true q120
                 go_wp2
                 go_roundg k5
                 case measure => exact Q5_ HK1 HK2 HK3 HK4 HK5
                 case rel => exact ⟨(x5_5), (wrap64 (x11_5 + 1)), E_, H', ⟨Q5_ HK1 HK2 HK3 HK4 HK5⟩, ⟨KS_ HO_5.out⟩, ⟨B_ HB.out⟩⟩
               ·rw [if_neg c32] at H
                have c32b0 : decide (x11_5 < a0) = false := decide_eq_false c32
                clear c32
                have H' := Aside0.mk H
                clear H
                go_wp2
                go_roundg k5
                case measure => exact Q5_ HK1 HK2 HK3 HK4 HK5
                case rel => exact ⟨(x5_5), (wrap64 (x10_4 + 1)), E_, H', ⟨Q5_ HK1 HK2 HK3 HK4 HK5⟩, ⟨KS_ HO_5.out⟩, ⟨B_ HB.out⟩⟩
            ·rw [if_neg c31] at H
             have c31b0 : decide (x10_4 < a0) = false := decide_eq_false c31
             clear c31
             have H' := Aside0.mk H
             clear H
             go_wp2
             go_roundg k4
             case measure => exact Q4_ HK1 HK2 HK3 HK4
             case rel => exact ⟨(x5_4), (wrap64 (x9_3 + 1)), E_, H', ⟨Q4_ HK1 HK2 HK3 HK4⟩, ⟨KS_ HO_5.out⟩, ⟨B_ HB.out⟩⟩
         ·rw [if_neg c30] at H
          have c30b0 : decide (x9_3 < a0) = false := decide_eq_false c30
          clear c30
          obtain rfl := Option.some.inj H
          go_wp2
          go_ret
          exact ⟨_, F_, KS_ HO_5.out, B_ HB.out⟩
end Go.Proofs.Ytmnplhkimpeocaa.B
