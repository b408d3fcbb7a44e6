/- Printed proofs of functions of the program and of the reference, by a program of this work over the kit's printer. -/
import Derived.Test.YtagefgkneandpaaKJOPMEJ0
import Derived.Test.YtagefgkneandpaaKMMPLLE0
import Derived.Test.YtagefgkneandpaaKW0
namespace Go.Proofs.Ytagefgkneandpaa.B
open Go.RowKit Go.Proofs.YtagefgkneandpaaW.PrintWords Go.Proofs.YtagefgkneandpaaW.PrintLast Go.Proofs.YtagefgkneandpaaW.PrintMore
attribute [local go_sem] max2_int min2_int max_two min_two max_three min_three max_four min_four
set_option linter.unusedVariables false
set_option linter.unusedSimpArgs false
mutual
def z47.l0 : Nat → List (List Bool) → List Int → Int → Int → Int → List (List Int) → Option (List Int)
 | 0, _, _, _, _, _, _ => none
 | k + 1, x3, x4, x19, x20, x102000, x102001 => if x20 < x19 then (z47.l1 k x3 x4 x20 x19 x20 x102000 0 x102000 x102001) else (some x4)
def z47.l1 : Nat → List (List Bool) → List Int → Int → Int → Int → Int → Int → Int → List (List Int) → Option (List Int)
 | 0, _, _, _, _, _, _, _, _, _ => none
 | k + 1, x3, x4, x5, x19, x20, x24, x25, x102000, x102001 => if x25 < x24 then (if 0 ≤ x25 then (z47.l2 k x3 x4 x5 x25 ((Go.bits .and .i64 (shr .i64 x5 x25) 1) == 1) x19 x20 x24 x25 x102000 0 x102000 x102001) else (none)) else (z47.l0 k x3 x4 x19 (wrap64 (x20 + 1)) x102000 x102001)
def z47.l2 : Nat → List (List Bool) → List Int → Int → Int → Bool → Int → Int → Int → Int → Int → Int → Int → List (List Int) → Option (List Int)
 | 0, _, _, _, _, _, _, _, _, _, _, _, _, _ => none
 | k + 1, x3, x4, x5, x6, x7, x19, x20, x24, x25, x34, x35, x102000, x102001 => if x35 < x34 then (if 0 ≤ x35 then (if x7 = true then (if x6 = x35 then (z47.l2 k x3 x4 x5 x6 true x19 x20 x24 x25 x34 (wrap64 (x35 + 1)) x102000 x102001) else (if (Go.bits .and .i64 (shr .i64 x5 x35) 1) = 1 then (if 0 ≤ x6 then (if x6 < (x3.length : Int) then (if x35 < ((rd_ListBool x3 x6).length : Int) then (if (rdOf false (rd_ListBool x3 x6) x35 = true) then (z47.l2 k x3 x4 x5 x6 false x19 x20 x24 x25 x34 (wrap64 (x35 + 1)) x102000 x102001) else (z47.l2 k x3 x4 x5 x6 true x19 x20 x24 x25 x34 (wrap64 (x35 + 1)) x102000 x102001)) else (none)) else (none)) else (none)) else (if x35 < (x3.length : Int) then (if 0 ≤ x6 then (if x6 < ((rd_ListBool x3 x35).length : Int) then (z47.l2 k x3 x4 x5 x6 (!(rdOf false (rd_ListBool x3 x35) x6)) x19 x20 x24 x25 x34 (wrap64 (x35 + 1)) x102000 x102001) else (none)) else (none)) else (none)))) else (z47.l2 k x3 x4 x5 x6 false x19 x20 x24 x25 x34 (wrap64 (x35 + 1)) x102000 x102001)) else (none)) else (if x7 = true then (if 0 ≤ x5 then (if x5 < (x4.length : Int) then (if 0 ≤ x6 then (if 0 ≤ (Go.bits .andNot .i64 x5 (shl .i64 1 x6)) then (if (Go.bits .andNot .i64 x5 (shl .i64 1 x6)) < (x4.length : Int) then (z47.l1 k x3 (x4.set (x5 : Int).toNat (wrap64 ((rd x4 x5) + (rd x4 (Go.bits .andNot .i64 x5 (shl .i64 1 x6)))))) x5 x19 x20 x24 (wrap64 (x25 + 1)) x102000 x102001) else (none)) else (none)) else (none)) else (none)) else (none)) else (z47.l1 k x3 x4 x5 x19 x20 x24 (wrap64 (x25 + 1)) x102000 x102001))
end
def z47.f (k : Nat) (a0_0 : Int) (l0_1 : List (List Int)) : Option (List Int) := (z38.f k a0_0 l0_1).bind fun t102 => (if 0 ≤ a0_0 then (if 0 ≤ (shl .i64 1 a0_0) then (if (shl .i64 1 a0_0 : Int).toNat ≤ 35184372088832 then ((some (List.replicate (shl .i64 1 a0_0 : Int).toNat 0 : List Int)).bind fun y105 => (if 0 < (y105.length : Int) then (z47.l0 k t102 (y105.set (0 : Int).toNat 1) (y105.length : Int) 0 a0_0 l0_1) else (none))) else (none)) else (none)) else (none))
def z47.T18 : Bool × List (List Nat × List Nat) := (true, [([], []), ([], []), ([0, 1], [0, 1]), ([2], [2]), ([], []), ([], []), ([], []), ([6], [6]), ([5, 7], [5, 7]), ([4, 8], [4, 8]), ([9], [9]), ([3, 10], [3, 10]), ([0, 1, 0, 1, 2, 3, 4, 5, 6, 7, 8, 9, 10, 11], [0, 1]), ([12, 11, 0, 1, 2, 3, 4, 5, 6, 7, 8, 9, 10, 11], [11, 12])])
def z47.B18 : List Nat := [0, 0, 3, 7, 0, 0, 0, 64, 224, 496, 1008, 2047, 4095, 8191]
theorem z47.tab18 : rtab .any (opsOf Try.f47 18) = z47.T18 := by kernel_rfl
theorem z47.bits18 : waitsOk z47.T18.2 z47.B18 = true := by kernel_rfl
set_option maxHeartbeats 8000000 in
set_option maxRecDepth 100000 in
theorem z47.calls (k : Nat) (a0_0 : Int) (A0_1 : Option Addr) (c0_1 : Nat) (l0_1 : List (List Int)) (r : List Int) (w : World) (hr0_1 : Kd.C (Kd.slice 2 (Kd.int .i64)) w A0_1 l0_1.length l0_1) (hc0_1 : l0_1.length ≤ c0_1) (h : z47.f k a0_0 l0_1 = some r) :
  Calls Try.prog 47 #[.agg #[.int .i64 a0_0, .slice A0_1 l0_1.length c0_1]] w fun e w' => ∃ v0_ : Value, e = .returned (v0_) ∧ Kd.R (Kd.int .i64) 2 w' w.heap.size (fun _ => True) v0_ r ∧ Below w.heap.size w w' := by
 have hu26 := Try.underlying26
 have HR0_1 := Aside0.mk hr0_1
 have HC0_1 := Aside0.mk hc0_1
 clear hr0_1 hc0_1
 have HB := Aside0.mk (Below.refl w.heap.size w)
 have H : ((z38.f k a0_0 l0_1).bind fun t102 => (if 0 ≤ a0_0 then (if 0 ≤ (shl .i64 1 a0_0) then (if (shl .i64 1 a0_0 : Int).toNat ≤ 35184372088832 then ((some (List.replicate (shl .i64 1 a0_0 : Int).toNat 0 : List Int)).bind fun y105 => (if 0 < (y105.length : Int) then (z47.l0 k t102 (y105.set (0 : Int).toNat 1) (y105.length : Int) 0 a0_0 l0_1) else (none))) else (none)) else (none)) else (none))) = some r := h
 clear h
 replace H := Option.bind_eq_some_iff.mp H
 obtain ⟨t102, A20, H⟩ := H
 have A2 := Aside0.mk A20
 clear A20
 have c3 := O1_ H
 replace H := O2_ H
 have c3b0 := eq_true c3
 have c3b1 : decide (0 ≤ a0_0) = true := decide_eq_true c3
 clear c3
 obtain ⟨ji4, hji4⟩ : ∃ j_ : Int, (shl .i64 1 a0_0) = j_ := ⟨_, rfl⟩
 replace H : (if 0 ≤ (ji4) then (if (ji4 : Int).toNat ≤ 35184372088832 then ((some (List.replicate (ji4 : Int).toNat 0 : List Int)).bind fun y105 => (if 0 < (y105.length : Int) then (z47.l0 k t102 (y105.set (0 : Int).toNat 1) (y105.length : Int) 0 a0_0 l0_1) else (none))) else (none)) else (none)) = some r := by first | (rw [hji4] at H; exact H) | (simp only [hji4] at H ⊢; exact H)
 (try rw [hji4] at A2)
 have hji4_ : (IntKind.i64.wrap (1 * 2 ^ min a0_0.toNat 64)) = ji4 := hji4
 have hji4z : a0_0 ≤ 64 → (IntKind.i64.wrap (1 * 2 ^ a0_0.toNat)) = ji4 := shl_small hji4
 have hji4u : (IntKind.i64.wrap (2 ^ min a0_0.toNat 64)) = ji4 := by have h_ := hji4_; rw [Int.one_mul] at h_; exact h_
 have hji4v : a0_0 ≤ 64 → (IntKind.i64.wrap (2 ^ a0_0.toNat)) = ji4 := fun hle_ => by have h_ := hji4z hle_; rw [Int.one_mul] at h_; exact h_
 have hji4y : (wrap64 (1 * 2 ^ min a0_0.toNat 64)) = ji4 := (i64_w _).symm.trans hji4_
 have hji4x : a0_0 ≤ 64 → (wrap64 (1 * 2 ^ a0_0.toNat)) = ji4 := fun h_ => (i64_w _).symm.trans (hji4z h_)
 have c5 := O1_ H
 replace H := O2_ H
 have c5b0 := eq_true c5
 have c5b1 : decide (0 ≤ (ji4)) = true := decide_eq_true c5
 clear c5
 have c6 := O1_ H
 replace H := O2_ H
 have c6b0 := eq_true c6
 have c6b1 : decide ((ji4 : Int).toNat ≤ 35184372088832) = true := decide_eq_true c6
 clear c6
 obtain ⟨y105, hy105⟩ : ∃ y_ : List Int, y_ = (List.replicate (ji4 : Int).toNat 0) := ⟨_, rfl⟩
 replace H : (if 0 < (y105.length : Int) then (z47.l0 k t102 (y105.set (0 : Int).toNat 1) (y105.length : Int) 0 a0_0 l0_1) else (none)) = some r := Y_ hy105 H
 have Ny105 := Aside0.mk hy105
 clear hy105
 have c7 := O1_ H
 replace H := O2_ H
 have c7b0 := decide_eq_true c7
 have c7b1 : decide (0 < y105.length) = true := decide_eq_true (by omega)
 clear c7
 obtain ⟨y108, hy108⟩ : ∃ y_ : List Int, y_ = (y105.set (0 : Int).toNat 1) := ⟨_, rfl⟩
 replace H : (z47.l0 k t102 y108 (y105.length : Int) 0 a0_0 l0_1) = some r := Y_ hy108 H
 have Ny108 := Aside0.mk hy108
 clear hy108
 have H' := Aside0.mk H
 clear H
 go_enter Try.func47, Try.ntmps47
 go_wp2_with (first | ((with_reducible refine gate_dst (N := 1) rfl ?_); refine box_event ?hg (N := 1) ?hd (cs := #[.int .i64 a0_0, .slice A0_1 l0_1.length c0_1]) (t := 26) ?hr ?_; (case hd => rfl); (case hg => rfl); (case hr => first | (go_simp; done) | (go_simp; rfl)); intro gb101 hg w9 hbox hb; have n0_ := Aside0.mk (below_step (B_ HB.out) hb); have n1_ := Aside0.mk (hbox); have n2_ := Aside0.mk ((by rw [hg]; exact (below_size (B_ HB.out)) : w.heap.size ≤ gb101)); have n3_ := Aside0.mk ((by rw [hg]; exact (below_size (B_ HB.out)) : w.heap.size ≤ gb101)); clear HB; have HB := n0_; have BK101 := n1_; have GW101 := n2_; have GE101 := n3_; clear n0_ n1_ n2_ n3_; clear hb hbox hg; have hcz10_0 : w9.cell? ⟨gb101, 0, none⟩ = some (.int .i64 a0_0) := (blk_cell BK101.out 0).trans rfl; have hcz10_1 : w9.cell? ⟨gb101, 1, none⟩ = some (.slice A0_1 l0_1.length c0_1) := (blk_cell BK101.out 1).trans rfl; have hfz10_0 := blk_frozen BK101.out 0; have hfz10_1 := blk_frozen BK101.out 1) | ((with_reducible refine gate_callee (f := 38) rfl ?_); refine goesL_ (some 11) rfl rfl Try.func38 (by kernel_rfl) rfl #[.agg #[.int .i64 a0_0, .slice A0_1 l0_1.length c0_1]] rfl (by (try simp only [List.map_toArray, List.map_cons, List.map_nil]); first | done | rfl | (simp only [List.length_drop, List.length_take]; rfl)) ?_; (with_reducible refine (z38.calls k a0_0 _ _ l0_1 t102 _ ?side1 ?side2 A2.out).mono ?_); (case side1 => exact KC_ (Kd.C_below HR0_1.out HB.out)); (case side2 => exact HC0_1.out); rintro e w11 ⟨v103, rfl, ho0, hb⟩; refine ⟨_, rfl, ?_⟩; have HO104 := Aside0.mk (Kd.S_lower ho0 (below_size (B1_ HB.out GE101.out))); replace BK101 := Aside0.mk (blk_below (g := gb101) (o := .cells #[.int .i64 a0_0, .slice A0_1 l0_1.length c0_1] 26 (0, 0)) (KB_ BK101.out) hb); replace HB := Aside0.mk (below_step (B1_ HB.out GE101.out) hb); (try clear hb); (try clear hb2); (try clear hk); (try clear hi); (try clear ho0); have hcz12_0 : w11.cell? ⟨gb101, 0, none⟩ = some (.int .i64 a0_0) := (blk_cell BK101.out 0).trans rfl; have hcz12_1 : w11.cell? ⟨gb101, 1, none⟩ = some (.slice A0_1 l0_1.length c0_1) := (blk_cell BK101.out 1).trans rfl; have hfz12_0 := blk_frozen BK101.out 0; have hfz12_1 := blk_frozen BK101.out 1) | ((with_reducible refine gate_dst (N := 15) rfl ?_); refine Kd.R_make (Kd.int .i64) _ 2 rfl (N := 15) rfl 32 _ _ rfl ji4 rfl rfl Try.underlying32 (.int .i64 0) 8 info2 rfl (by decide) (by omega) 0 (ok := fun _ => True) (okp := fun _ => True) rfl (fun _ hk => hk) trivial (D_) (Nat.le_trans (Nat.mul_le_mul_right _ (D_ : ji4.toNat ≤ 35184372088832)) (by omega)) (Below.refl _ _) (Nat.le_refl _) ?_; intro v106 w13 ho14 hb hg_ hnew_; clear hg_ hnew_; (first | rw [← Ny105.out] at ho14 | (simp only [Int.reduceToNat] at ho14; rw [← Ny105.out] at ho14)); replace HO104 := Aside0.mk (Kd.S_below (KS_ HO104.out) hb); have HO107 := Aside0.mk (Kd.R_lower ho14 (below_size (B1_ HB.out GE101.out))); replace BK101 := Aside0.mk (blk_below (g := gb101) (o := .cells #[.int .i64 a0_0, .slice A0_1 l0_1.length c0_1] 26 (0, 0)) (KB_ BK101.out) hb); replace HB := Aside0.mk (below_step (B1_ HB.out GE101.out) hb); clear hb ho14; have p8 : 0 ≤ (0 : Int) := (by omega); have q8 : (0 : Int) < ((y105.length : Int) : Int) := D_; have qi8 : (0 < y105.length) = True := eq_true (by omega); obtain ⟨go8, co8, eo8, gb8, gl8, cl8, HG8⟩ := Kd.R_form HO107.out (by omega); (first | cases eo8 | (injection eo8 with ea_ en_ ec_; (first | subst ea_ | (injection ea_ with ea_; subst ea_)); subst ec_; clear en_)); have GB8 := Aside0.mk gb8; have GG8 := Aside0.mk HG8; clear gb8 gl8 HG8; obtain ⟨hx8_0, hf8_0⟩ := Kd.R_celln 0 HO107.out (0 : Int) p8 q8; (try rw [show ((0 : Int)).toNat = 0 from rfl] at hx8_0); (try simp only [Nat.reduceMul, Nat.zero_mul, Nat.zero_add, Nat.reduceAdd] at hx8_0); (try rw [show ((0 : Int)).toNat = 0 from rfl] at hf8_0); (try simp only [Nat.reduceMul, Nat.zero_mul, Nat.zero_add, Nat.reduceAdd] at hf8_0); replace p8 := eq_true p8; replace q8 := eq_true q8; obtain ⟨hy15_, hz15_⟩ := Kd.R_celln 0 HO107.out (0 : Int) (by omega) (D_); (try simp only [Int.reduceToNat, Int.toNat_zero, Int.toNat_ofNat, Nat.reduceMul, Nat.zero_mul, Nat.zero_add] at hy15_ hz15_); (try rw [show ((0 : Int)).toNat = 0 from rfl] at hy15_); (try rw [show ((0 : Int)).toNat = 0 from rfl] at hz15_); have HP15 := Kd.R_putg HO107.out (0 : Int) 1) | ((with_reducible refine gate_store (t := 2) (p := 17) rfl ?_); refine store_event (t := 2) (p := 17) (v := ?vo_w16) (w1 := (w13.setCell ⟨go8, (0 : Int).toNat, none⟩ (.int .i64 1))) ?hg ?ho ?hn ?hr ?_; (case ho => rfl); (case hg => rfl); (case hn => rfl); (case hr => first | (go_simp; done) | (go_simp; rfl)); intro w16 hw; have hg : w13.grownBy w16 (some go8) := (by rw [hw]; exact HP15.2); have hp_ : Kd.R (Kd.int .i64) 2 w16 w.heap.size (fun _ => True) (.slice (some ⟨go8, 0, none⟩) y105.length co8) y108 := (by rw [hw, Ny108.out]; exact HP15.1); clear HP15; replace BK101 := Aside0.mk (blk_grown (g := gb101) (o := .cells #[.int .i64 a0_0, .slice A0_1 l0_1.length c0_1] 26 (0, 0)) (KB_ BK101.out) hg (Kd.R_ne HO107.out BK101.out (by decide))); replace HO104 := Aside0.mk (Kd.S_over' (v := (.slice (some ⟨go8, 0, none⟩) y105.length co8)) (KS_ HO104.out) (Kd.R_typed HO107.out) (by decide) hg); replace HO107 := Aside0.mk (hp_); replace HB := Aside0.mk ((by rw [hw]; exact below_set (HB.out) GB8.out : Below w.heap.size w w16)); clear hg hw hp_))
 go_loopg [20] k (fun kq v20 w' => ∃ (x4_1 : List Int) (x20_1 : Int), v20 = .int .i64 x20_1 ∧ Aside0 (z47.l0 kq t102 x4_1 (y105.length : Int) x20_1 a0_0 l0_1 = some r) ∧ Aside0 (kq ≤ k) ∧ Aside0 (Kd.S (Kd.slice 4 Kd.bool) 62 w' w.heap.size (fun _ => True) v103 t102) ∧ Aside0 (Kd.R (Kd.int .i64) 2 w' w.heap.size (fun _ => True) (.slice (some ⟨go8, 0, none⟩) y105.length co8) x4_1) ∧ Aside0 (w'.heap[gb101]? = some (.cells #[.int .i64 a0_0, (.slice A0_1 l0_1.length c0_1)] 26 (0, 0))) ∧ Aside0 (Below w.heap.size w w'))
 case atStart => exact ⟨(y108), (0), E_, H', ⟨Nat.le_refl _⟩, ⟨KS_ HO104.out⟩, ⟨KR_ HO107.out⟩, ⟨KB_ BK101.out⟩, ⟨B1_ HB.out GE101.out⟩⟩
 case round =>
  clear H'
  (try clear p2);(try clear c3);(try clear c3b0);(try clear c3b1);(try clear c4);(try clear c5);(try clear c5b0);(try clear c5b1);(try clear c6);(try clear c6b0);(try clear c6b1);(try clear p6);(try clear c7);(try clear c7b0);(try clear c7b1);(try clear p8);(try clear q8);(try clear hx8);(try clear qi8);(try clear hf8);(try clear hcz10_0);(try clear hcz10_1);(try clear hcz12_0);(try clear hcz12_1);(try clear hfz10_0);(try clear hfz10_1);(try clear hfz12_0);(try clear hfz12_1);(try clear hx8_0);(try clear p8);(try clear q8)
  obtain ⟨x4_1, x20_1, rfl, HA, HK1, HO_3, HO_4, BK101, HB⟩ := hrel
  have hl4_1 := (Kd.R_reads' HO_4.out).1
  rw [hl4_1] at HO_4
  (try simp only [hl4_1])
  (try simp only [hl4_1] at BK101)
  (try simp only [hl4_1] at HO_3)
  cases gk with
  | zero => exact absurd HA.out (by simp [z47.l0])
  | succ k1 =>
   have H := HA.out
   clear HA
   simp only [z47.l0] at H
   by_cases c17 : x20_1 < (y105.length : Int)
   ·rw [if_pos c17] at H
    have c17b0 : decide (x20_1 < (y105.length : Int)) = true := decide_eq_true c17
    (try rw [hl4_1] at c17b0)
    clear c17
    have H' := Aside0.mk H
    clear H
    have hcz18_0 : wr.cell? ⟨gb101, 0, none⟩ = some (.int .i64 a0_0) := (blk_cell BK101.out 0).trans rfl
    have hcz18_1 : wr.cell? ⟨gb101, 1, none⟩ = some (.slice A0_1 l0_1.length c0_1) := (blk_cell BK101.out 1).trans rfl
    have hfz18_0 := blk_frozen BK101.out 0
    have hfz18_1 := blk_frozen BK101.out 1
    go_wp2
    go_loopg [25] k1 (fun kq v25 w' => ∃ (x4_2 : List Int) (x25_2 : Int), v25 = .int .i64 x25_2 ∧ Aside0 (z47.l1 kq t102 x4_2 x20_1 (y105.length : Int) x20_1 a0_0 x25_2 a0_0 l0_1 = some r) ∧ Aside0 (kq ≤ k1) ∧ Aside0 (Kd.S (Kd.slice 4 Kd.bool) 62 w' w.heap.size (fun _ => True) v103 t102) ∧ Aside0 (Kd.R (Kd.int .i64) 2 w' w.heap.size (fun _ => True) (.slice (some ⟨go8, 0, none⟩) x4_1.length co8) x4_2) ∧ Aside0 (w'.heap[gb101]? = some (.cells #[.int .i64 a0_0, (.slice A0_1 l0_1.length c0_1)] 26 (0, 0))) ∧ Aside0 (Below w.heap.size w w'))
    case atStart => exact ⟨(x4_1), (0), E_, H', ⟨Nat.le_refl _⟩, ⟨by (try simp only [hl4_1]); (with_reducible repeat (first | apply Kd.S_alloc | apply Kd.S_drewN | apply Kd.S_drew)); exact HO_3.out⟩, ⟨by (try simp only [hl4_1]); (with_reducible repeat (first | apply Kd.R_alloc | apply Kd.R_drewN | apply Kd.R_drew)); exact HO_4.out⟩, ⟨by (try simp only [hl4_1]); (with_reducible repeat (first | refine blk_drewN ?_ _ | refine blk_drew ?_ | refine blk_alloc ?_ _)); exact BK101.out⟩, ⟨B1_ HB.out GE101.out⟩⟩
    case round =>
     clear H'
     (try clear c1);(try clear p2);(try clear c3);(try clear c3b0);(try clear c3b1);(try clear c4);(try clear c5);(try clear c5b0);(try clear c5b1);(try clear c6);(try clear c6b0);(try clear c6b1);(try clear p6);(try clear c7);(try clear c7b0);(try clear c7b1);(try clear p8);(try clear q8);(try clear hx8);(try clear qi8);(try clear hf8);(try clear c17);(try clear c17b0);(try clear hcz10_0);(try clear hcz10_1);(try clear hcz12_0);(try clear hcz12_1);(try clear hcz18_0);(try clear hcz18_1);(try clear hfz10_0);(try clear hfz10_1);(try clear hfz12_0);(try clear hfz12_1);(try clear hfz18_0);(try clear hfz18_1);(try clear hx8_0);(try clear p2);(try clear p6);(try clear p8);(try clear q8)
     obtain ⟨x4_2, x25_2, rfl, HA, HK2, HO_3, HO_4, BK101, HB⟩ := hrel
     have hl4_2 := (Kd.R_reads' HO_4.out).1
     rw [hl4_2] at HO_4
     (try simp only [hl4_2])
     (try simp only [hl4_2] at BK101)
     (try simp only [hl4_2] at HO_3)
     cases gk with
     | zero => exact absurd HA.out (by simp [z47.l1])
     | succ k2 =>
      have H := HA.out
      clear HA
      simp only [z47.l1] at H
      by_cases c19 : x25_2 < a0_0
      ·rw [if_pos c19] at H
       have c19b0 : decide (x25_2 < a0_0) = true := decide_eq_true c19
       (try rw [hl4_1] at c19b0)
       (try rw [hl4_2] at c19b0)
       clear c19
       have c20 := O1_ H
       replace H := O2_ H
       have c20b0 := eq_true c20
       have c20b1 : decide (0 ≤ x25_2) = true := decide_eq_true c20
       clear c20
       obtain ⟨ji21, hji21⟩ : ∃ j_ : Int, (shr .i64 x20_1 x25_2) = j_ := ⟨_, rfl⟩
       replace H : (z47.l2 k2 t102 x4_2 x20_1 x25_2 ((Go.bits .and .i64 (ji21) 1) == 1) (y105.length : Int) x20_1 a0_0 x25_2 a0_0 0 a0_0 l0_1) = some r := by first | (rw [hji21] at H; exact H) | (simp only [hji21] at H ⊢; exact H)
       have hji21_ : (x20_1 / 2 ^ min x25_2.toNat 64) = ji21 := hji21
       have hji21z : x25_2 ≤ 64 → (x20_1 / 2 ^ x25_2.toNat) = ji21 := shr_small hji21
       have H' := Aside0.mk H
       clear H
       have hcz22_0 : wr.cell? ⟨gb101, 0, none⟩ = some (.int .i64 a0_0) := (blk_cell BK101.out 0).trans rfl
       have hcz22_1 : wr.cell? ⟨gb101, 1, none⟩ = some (.slice A0_1 l0_1.length c0_1) := (blk_cell BK101.out 1).trans rfl
       have hfz22_0 := blk_frozen BK101.out 0
       have hfz22_1 := blk_frozen BK101.out 1
       go_wp2
       go_loopg [7, 35] k2 (fun kq v7 v35 w' => ∃ (x7_3 : Bool) (x35_3 : Int), v7 = .bool x7_3 ∧ v35 = .int .i64 x35_3 ∧ Aside0 (z47.l2 kq t102 x4_2 x20_1 x25_2 x7_3 (y105.length : Int) x20_1 a0_0 x25_2 a0_0 x35_3 a0_0 l0_1 = some r) ∧ Aside0 (kq ≤ k2) ∧ Aside0 (Kd.S (Kd.slice 4 Kd.bool) 62 w' w.heap.size (fun _ => True) v103 t102) ∧ Aside0 (Kd.R (Kd.int .i64) 2 w' w.heap.size (fun _ => True) (.slice (some ⟨go8, 0, none⟩) x4_2.length co8) x4_2) ∧ Aside0 (w'.heap[gb101]? = some (.cells #[.int .i64 a0_0, (.slice A0_1 l0_1.length c0_1)] 26 (0, 0))) ∧ Aside0 (Below w.heap.size w w'))
       case atStart => exact ⟨(((Go.bits .and .i64 (ji21) 1) == 1)), (0), (by first | rfl | (simp; done) | (simp only [← hji21] <;> (first | rfl | simp)) | (simp [*]; done)), E_, H', ⟨Nat.le_refl _⟩, ⟨by (try simp only [hl4_1]); (try simp only [hl4_2]); (with_reducible repeat (first | apply Kd.S_alloc | apply Kd.S_drewN | apply Kd.S_drew)); exact HO_3.out⟩, ⟨by (try simp only [hl4_1]); (try simp only [hl4_2]); (with_reducible repeat (first | apply Kd.R_alloc | apply Kd.R_drewN | apply Kd.R_drew)); exact HO_4.out⟩, ⟨by (try simp only [hl4_1]); (try simp only [hl4_2]); (with_reducible repeat (first | refine blk_drewN ?_ _ | refine blk_drew ?_ | refine blk_alloc ?_ _)); exact BK101.out⟩, ⟨B1_ HB.out GE101.out⟩⟩
       case round =>
        clear H'
        (try clear c1);(try clear c2);(try clear p2);(try clear c3);(try clear c3b0);(try clear c3b1);(try clear c4);(try clear c5);(try clear c5b0);(try clear c5b1);(try clear c6);(try clear c6b0);(try clear c6b1);(try clear p6);(try clear c7);(try clear c7b0);(try clear c7b1);(try clear p8);(try clear q8);(try clear hx8);(try clear qi8);(try clear hf8);(try clear c17);(try clear c17b0);(try clear c19);(try clear c19b0);(try clear c20);(try clear c20b0);(try clear c20b1);(try clear hcz10_0);(try clear hcz10_1);(try clear hcz12_0);(try clear hcz12_1);(try clear hcz18_0);(try clear hcz18_1);(try clear hcz22_0);(try clear hcz22_1);(try clear hfz10_0);(try clear hfz10_1);(try clear hfz12_0);(try clear hfz12_1);(try clear hfz18_0);(try clear hfz18_1);(try clear hfz22_0);(try clear hfz22_1);(try clear hx8_0);(try clear p2);(try clear p6);(try clear p8);(try clear q8)
        obtain ⟨x7_3, x35_3, rfl, rfl, HA, HK3, HO_3, HO_4, BK101, HB⟩ := hrel
        cases gk with
        | zero => exact absurd HA.out (by simp [z47.l2])
        | succ k3 =>
         have H := HA.out
         clear HA
         simp only [z47.l2] at H
         by_cases c23 : x35_3 < a0_0
         ·rw [if_pos c23] at H
          have c23b0 : decide (x35_3 < a0_0) = true := decide_eq_true c23
          (try rw [hl4_1] at c23b0)
          (try rw [hl4_2] at c23b0)
          clear c23
          have c24 := O1_ H
          replace H := O2_ H
          have c24b0 := eq_true c24
          have c24b1 : decide (0 ≤ x35_3) = true := decide_eq_true c24
          clear c24
          obtain ⟨ji25, hji25⟩ : ∃ j_ : Int, (shr .i64 x20_1 x35_3) = j_ := ⟨_, rfl⟩
          replace H : (if x7_3 = true then (if x25_2 = x35_3 then (z47.l2 k3 t102 x4_2 x20_1 x25_2 true (y105.length : Int) x20_1 a0_0 x25_2 a0_0 (wrap64 (x35_3 + 1)) a0_0 l0_1) else (if (Go.bits .and .i64 (ji25) 1) = 1 then (if 0 ≤ x25_2 then (if x25_2 < (t102.length : Int) then (if x35_3 < ((rd_ListBool t102 x25_2).length : Int) then (if (rdOf false (rd_ListBool t102 x25_2) x35_3 = true) then (z47.l2 k3 t102 x4_2 x20_1 x25_2 false (y105.length : Int) x20_1 a0_0 x25_2 a0_0 (wrap64 (x35_3 + 1)) a0_0 l0_1) else (z47.l2 k3 t102 x4_2 x20_1 x25_2 true (y105.length : Int) x20_1 a0_0 x25_2 a0_0 (wrap64 (x35_3 + 1)) a0_0 l0_1)) else (none)) else (none)) else (none)) else (if x35_3 < (t102.length : Int) then (if 0 ≤ x25_2 then (if x25_2 < ((rd_ListBool t102 x35_3).length : Int) then (z47.l2 k3 t102 x4_2 x20_1 x25_2 (!(rdOf false (rd_ListBool t102 x35_3) x25_2)) (y105.length : Int) x20_1 a0_0 x25_2 a0_0 (wrap64 (x35_3 + 1)) a0_0 l0_1) else (none)) else (none)) else (none)))) else (z47.l2 k3 t102 x4_2 x20_1 x25_2 false (y105.length : Int) x20_1 a0_0 x25_2 a0_0 (wrap64 (x35_3 + 1)) a0_0 l0_1)) = some r := by first | (rw [hji25] at H; exact H) | (simp only [hji25] at H ⊢; exact H)
          have hji25_ : (x20_1 / 2 ^ min x35_3.toNat 64) = ji25 := hji25
          have hji25z : x35_3 ≤ 64 → (x20_1 / 2 ^ x35_3.toNat) = ji25 := shr_small hji25
          by_cases c26 : x7_3 = true
          ·subst c26
           replace H := T_ H
           by_cases c27 : x25_2 = x35_3
           ·rw [if_pos c27] at H
            have c27b0 : (x25_2 == x35_3) = true := beq_iff_eq.mpr c27
            have c27b1 : (x25_2 != x35_3) = false := bne_eq_false_iff_eq.mpr c27
            (try rw [hl4_1] at c27b0)
            (try rw [hl4_1] at c27b1)
            (try rw [hl4_2] at c27b0)
            (try rw [hl4_2] at c27b1)
            clear c27
            have H' := Aside0.mk H
            clear H
            go_wp2
            go_roundg k3
            case measure => exact Q3_ HK1 HK2 HK3
            case rel => exact ⟨(true), (wrap64 (x35_3 + 1)), E_, E_, H', ⟨Q3_ HK1 HK2 HK3⟩, ⟨by (try simp only [hl4_1]); (try simp only [hl4_2]); (with_reducible repeat (first | apply Kd.S_alloc | apply Kd.S_drewN | apply Kd.S_drew)); exact HO_3.out⟩, ⟨by (try simp only [hl4_1]); (try simp only [hl4_2]); (with_reducible repeat (first | apply Kd.R_alloc | apply Kd.R_drewN | apply Kd.R_drew)); exact HO_4.out⟩, ⟨by (try simp only [hl4_1]); (try simp only [hl4_2]); (with_reducible repeat (first | refine blk_drewN ?_ _ | refine blk_drew ?_ | refine blk_alloc ?_ _)); exact BK101.out⟩, ⟨B1_ HB.out GE101.out⟩⟩
           ·rw [if_neg c27] at H
            have c27b0 : (x25_2 == x35_3) = false := beq_eq_false_iff_ne.mpr c27
            have c27b1 : (x25_2 != x35_3) = true := bne_iff_ne.mpr c27
            (try rw [hl4_1] at c27b0)
            (try rw [hl4_1] at c27b1)
            (try rw [hl4_2] at c27b0)
            (try rw [hl4_2] at c27b1)
            by_cases c28 : (Go.bits .and .i64 (ji25) 1) = 1
            ·rw [if_pos c28] at H
             have c28b0 : ((Go.bits .and .i64 (ji25) 1) == 1) = true := beq_iff_eq.mpr c28
             have c28b1 : ((Go.bits .and .i64 (ji25) 1) != 1) = false := bne_eq_false_iff_eq.mpr c28
             (try rw [hl4_1] at c28b0)
             (try rw [hl4_1] at c28b1)
             (try rw [hl4_2] at c28b0)
             (try rw [hl4_2] at c28b1)
             clear c28
             have c29 := O1_ H
             replace H := O2_ H
             have c29b0 := decide_eq_true c29
             (try rw [hl4_1] at c29b0)
             (try rw [hl4_2] at c29b0)
             clear c29
             have c30 := O1_ H
             replace H := O2_ H
             have c30b0 := decide_eq_true c30
             (try rw [hl4_1] at c30b0)
             (try rw [hl4_2] at c30b0)
             clear c30
             have c31 := O1_ H
             replace H := O2_ H
             have c31b0 := decide_eq_true c31
             (try rw [hl4_1] at c31b0)
             (try rw [hl4_2] at c31b0)
             clear c31
             obtain ⟨bq32, hbq32⟩ : ∃ b_ : Bool, b_ = (rdOf false (rd_ListBool t102 x25_2) x35_3) := ⟨_, rfl⟩
             rw [← hbq32] at H
             have Nbq32 := Aside0.mk hbq32
             clear hbq32
             by_cases c33 : (bq32 = true)
             ·subst c33
              replace H := T_ H
              have H' := Aside0.mk H
              clear H
              obtain ⟨Ao34, co34, eo34⟩ := Kd.S_slice HO_3.out
              subst eo34
              have p109 : 0 ≤ (x25_2 : Int) := D_
              have q109 : x25_2 < (t102.length : Int) := D_
              obtain ⟨ad109, A109_0, c109_0, e109, hx109_0, hl109_0, hi109_0⟩ := at_ListBool (Kd.S_reads' HO_3.out).2.2 x25_2 p109 q109
              cases e109
              obtain ⟨ce109, hce109, hMe109, hcc109⟩ := Kd.S_get HO_3.out [] x25_2 p109 (by first | exact q109 | exact D_ | (have e_ := (Kd.S_reads' HO_3.out).1; omega))
              obtain ⟨ve109_0, rfl, ge109_0⟩ := hMe109
              have hv109_0 := hcc109 0 _ rfl
              rw [Nat.add_zero, show ((Kd.slice 4 Kd.bool)).sz = 1 from rfl, Nat.mul_one] at hv109_0
              replace hv109_0 := Option.some.inj (hv109_0.symm.trans hx109_0)
              rw [hv109_0] at ge109_0
              have HL109_0 := Aside0.mk (show Kd.R Kd.bool 4 _ _ _ _ (rd_ListBool t102 x25_2) from ge109_0)
              clear hv109_0 ge109_0
              clear hcc109 hce109
              have HR109_0 := Aside0.mk hi109_0
              have HC109_0 := Aside0.mk hl109_0
              clear hi109_0 hl109_0
              replace p109 := eq_true p109
              replace q109 := eq_true q109
              have p110 : 0 ≤ (x35_3 : Int) := D_
              have q110 : x35_3 < ((rd_ListBool t102 x25_2).length : Int) := D_
              obtain ⟨ad110, e110, hx110_0⟩ := Kd.at_bool (KC_ HR109_0.out) x35_3 p110 q110
              (try rw [← Nbq32.out] at hx110_0)
              cases e110
              replace p110 := eq_true p110
              replace q110 := eq_true q110
              go_wp2
              go_roundg k3
              case measure => exact Q3_ HK1 HK2 HK3
              case rel => exact ⟨(false), (wrap64 (x35_3 + 1)), E_, E_, H', ⟨Q3_ HK1 HK2 HK3⟩, ⟨by (try simp only [hl4_1]); (try simp only [hl4_2]); (with_reducible repeat (first | apply Kd.S_alloc | apply Kd.S_drewN | apply Kd.S_drew)); exact HO_3.out⟩, ⟨by (try simp only [hl4_1]); (try simp only [hl4_2]); (with_reducible repeat (first | apply Kd.R_alloc | apply Kd.R_drewN | apply Kd.R_drew)); exact HO_4.out⟩, ⟨by (try simp only [hl4_1]); (try simp only [hl4_2]); (with_reducible repeat (first | refine blk_drewN ?_ _ | refine blk_drew ?_ | refine blk_alloc ?_ _)); exact BK101.out⟩, ⟨B1_ HB.out GE101.out⟩⟩
             ·replace c33 := Bool.eq_false_iff.mpr c33
              subst c33
              replace H := N_ H
              have H' := Aside0.mk H
              clear H
              obtain ⟨Ao35, co35, eo35⟩ := Kd.S_slice HO_3.out
              subst eo35
              have p109 : 0 ≤ (x25_2 : Int) := D_
              have q109 : x25_2 < (t102.length : Int) := D_
              obtain ⟨ad109, A109_0, c109_0, e109, hx109_0, hl109_0, hi109_0⟩ := at_ListBool (Kd.S_reads' HO_3.out).2.2 x25_2 p109 q109
              cases e109
              obtain ⟨ce109, hce109, hMe109, hcc109⟩ := Kd.S_get HO_3.out [] x25_2 p109 (by first | exact q109 | exact D_ | (have e_ := (Kd.S_reads' HO_3.out).1; omega))
              obtain ⟨ve109_0, rfl, ge109_0⟩ := hMe109
              have hv109_0 := hcc109 0 _ rfl
              rw [Nat.add_zero, show ((Kd.slice 4 Kd.bool)).sz = 1 from rfl, Nat.mul_one] at hv109_0
              replace hv109_0 := Option.some.inj (hv109_0.symm.trans hx109_0)
              rw [hv109_0] at ge109_0
              have HL109_0 := Aside0.mk (show Kd.R Kd.bool 4 _ _ _ _ (rd_ListBool t102 x25_2) from ge109_0)
              clear hv109_0 ge109_0
              clear hcc109 hce109
              have HR109_0 := Aside0.mk hi109_0
              have HC109_0 := Aside0.mk hl109_0
              clear hi109_0 hl109_0
              replace p109 := eq_true p109
              replace q109 := eq_true q109
              have p110 : 0 ≤ (x35_3 : Int) := D_
              have q110 : x35_3 < ((rd_ListBool t102 x25_2).length : Int) := D_
              obtain ⟨ad110, e110, hx110_0⟩ := Kd.at_bool (KC_ HR109_0.out) x35_3 p110 q110
              (try rw [← Nbq32.out] at hx110_0)
              cases e110
              replace p110 := eq_true p110
              replace q110 := eq_true q110
              go_wp2
              go_roundg k3
              case measure => exact Q3_ HK1 HK2 HK3
              case rel => exact ⟨(true), (wrap64 (x35_3 + 1)), E_, E_, H', ⟨Q3_ HK1 HK2 HK3⟩, ⟨by (try simp only [hl4_1]); (try simp only [hl4_2]); (with_reducible repeat (first | apply Kd.S_alloc | apply Kd.S_drewN | apply Kd.S_drew)); exact HO_3.out⟩, ⟨by (try simp only [hl4_1]); (try simp only [hl4_2]); (with_reducible repeat (first | apply Kd.R_alloc | apply Kd.R_drewN | apply Kd.R_drew)); exact HO_4.out⟩, ⟨by (try simp only [hl4_1]); (try simp only [hl4_2]); (with_reducible repeat (first | refine blk_drewN ?_ _ | refine blk_drew ?_ | refine blk_alloc ?_ _)); exact BK101.out⟩, ⟨B1_ HB.out GE101.out⟩⟩
            ·rw [if_neg c28] at H
             have c28b0 : ((Go.bits .and .i64 (ji25) 1) == 1) = false := beq_eq_false_iff_ne.mpr c28
             have c28b1 : ((Go.bits .and .i64 (ji25) 1) != 1) = true := bne_iff_ne.mpr c28
             (try rw [hl4_1] at c28b0)
             (try rw [hl4_1] at c28b1)
             (try rw [hl4_2] at c28b0)
             (try rw [hl4_2] at c28b1)
             have c36 := O1_ H
             replace H := O2_ H
             have c36b0 := decide_eq_true c36
             (try rw [hl4_1] at c36b0)
             (try rw [hl4_2] at c36b0)
             clear c36
             have c37 := O1_ H
             replace H := O2_ H
             have c37b0 := decide_eq_true c37
             (try rw [hl4_1] at c37b0)
             (try rw [hl4_2] at c37b0)
             clear c37
             have c38 := O1_ H
             replace H := O2_ H
             have c38b0 := decide_eq_true c38
             (try rw [hl4_1] at c38b0)
             (try rw [hl4_2] at c38b0)
             clear c38
             have H' := Aside0.mk H
             clear H
             obtain ⟨Ao39, co39, eo39⟩ := Kd.S_slice HO_3.out
             subst eo39
             have p111 : 0 ≤ (x35_3 : Int) := D_
             have q111 : x35_3 < (t102.length : Int) := D_
             obtain ⟨ad111, A111_0, c111_0, e111, hx111_0, hl111_0, hi111_0⟩ := at_ListBool (Kd.S_reads' HO_3.out).2.2 x35_3 p111 q111
             cases e111
             obtain ⟨ce111, hce111, hMe111, hcc111⟩ := Kd.S_get HO_3.out [] x35_3 p111 (by first | exact q111 | exact D_ | (have e_ := (Kd.S_reads' HO_3.out).1; omega))
             obtain ⟨ve111_0, rfl, ge111_0⟩ := hMe111
             have hv111_0 := hcc111 0 _ rfl
             rw [Nat.add_zero, show ((Kd.slice 4 Kd.bool)).sz = 1 from rfl, Nat.mul_one] at hv111_0
             replace hv111_0 := Option.some.inj (hv111_0.symm.trans hx111_0)
             rw [hv111_0] at ge111_0
             have HL111_0 := Aside0.mk (show Kd.R Kd.bool 4 _ _ _ _ (rd_ListBool t102 x35_3) from ge111_0)
             clear hv111_0 ge111_0
             clear hcc111 hce111
             have HR111_0 := Aside0.mk hi111_0
             have HC111_0 := Aside0.mk hl111_0
             clear hi111_0 hl111_0
             replace p111 := eq_true p111
             replace q111 := eq_true q111
             have p112 : 0 ≤ (x25_2 : Int) := D_
             have q112 : x25_2 < ((rd_ListBool t102 x35_3).length : Int) := D_
             obtain ⟨ad112, e112, hx112_0⟩ := Kd.at_bool (KC_ HR111_0.out) x25_2 p112 q112
             cases e112
             replace p112 := eq_true p112
             replace q112 := eq_true q112
             go_wp2
             go_roundg k3
             case measure => exact Q3_ HK1 HK2 HK3
             case rel => exact ⟨(!(rdOf false (rd_ListBool t102 x35_3) x25_2)), (wrap64 (x35_3 + 1)), E_, E_, H', ⟨Q3_ HK1 HK2 HK3⟩, ⟨by (try simp only [hl4_1]); (try simp only [hl4_2]); (with_reducible repeat (first | apply Kd.S_alloc | apply Kd.S_drewN | apply Kd.S_drew)); exact HO_3.out⟩, ⟨by (try simp only [hl4_1]); (try simp only [hl4_2]); (with_reducible repeat (first | apply Kd.R_alloc | apply Kd.R_drewN | apply Kd.R_drew)); exact HO_4.out⟩, ⟨by (try simp only [hl4_1]); (try simp only [hl4_2]); (with_reducible repeat (first | refine blk_drewN ?_ _ | refine blk_drew ?_ | refine blk_alloc ?_ _)); exact BK101.out⟩, ⟨B1_ HB.out GE101.out⟩⟩
          ·replace c26 := Bool.eq_false_iff.mpr c26
           subst c26
           replace H := N_ H
           have H' := Aside0.mk H
           clear H
           go_wp2
           go_roundg k3
           case measure => exact Q3_ HK1 HK2 HK3
           case rel => exact ⟨(false), (wrap64 (x35_3 + 1)), E_, E_, H', ⟨Q3_ HK1 HK2 HK3⟩, ⟨by (try simp only [hl4_1]); (try simp only [hl4_2]); (with_reducible repeat (first | apply Kd.S_alloc | apply Kd.S_drewN | apply Kd.S_drew)); exact HO_3.out⟩, ⟨by (try simp only [hl4_1]); (try simp only [hl4_2]); (with_reducible repeat (first | apply Kd.R_alloc | apply Kd.R_drewN | apply Kd.R_drew)); exact HO_4.out⟩, ⟨by (try simp only [hl4_1]); (try simp only [hl4_2]); (with_reducible repeat (first | refine blk_drewN ?_ _ | refine blk_drew ?_ | refine blk_alloc ?_ _)); exact BK101.out⟩, ⟨B1_ HB.out GE101.out⟩⟩
         ·rw [if_neg c23] at H
          have c23b0 : decide (x35_3 < a0_0) = false := decide_eq_false c23
          (try rw [hl4_1] at c23b0)
          (try rw [hl4_2] at c23b0)
          clear c23
          by_cases c40 : x7_3 = true
          ·subst c40
           replace H := T_ H
           have c41 := O1_ H
           replace H := O2_ H
           have c41b0 := decide_eq_true c41
           (try rw [hl4_1] at c41b0)
           (try rw [hl4_2] at c41b0)
           clear c41
           have c42 := O1_ H
           replace H := O2_ H
           have c42b0 := decide_eq_true c42
           (try rw [hl4_1] at c42b0)
           (try rw [hl4_2] at c42b0)
           clear c42
           have c43 := O1_ H
           replace H := O2_ H
           have c43b0 := eq_true c43
           have c43b1 : decide (0 ≤ x25_2) = true := decide_eq_true c43
           clear c43
           obtain ⟨ji44, hji44⟩ : ∃ j_ : Int, (shl .i64 1 x25_2) = j_ := ⟨_, rfl⟩
           replace H : (if 0 ≤ (Go.bits .andNot .i64 x20_1 (ji44)) then (if (Go.bits .andNot .i64 x20_1 (ji44)) < (x4_2.length : Int) then (z47.l1 k3 t102 (x4_2.set (x20_1 : Int).toNat (wrap64 ((rd x4_2 x20_1) + (rd x4_2 (Go.bits .andNot .i64 x20_1 (ji44)))))) x20_1 (y105.length : Int) x20_1 a0_0 (wrap64 (x25_2 + 1)) a0_0 l0_1) else (none)) else (none)) = some r := by first | (rw [hji44] at H; exact H) | (simp only [hji44] at H ⊢; exact H)
           have hji44_ : (IntKind.i64.wrap (1 * 2 ^ min x25_2.toNat 64)) = ji44 := hji44
           have hji44z : x25_2 ≤ 64 → (IntKind.i64.wrap (1 * 2 ^ x25_2.toNat)) = ji44 := shl_small hji44
           have hji44u : (IntKind.i64.wrap (2 ^ min x25_2.toNat 64)) = ji44 := by have h_ := hji44_; rw [Int.one_mul] at h_; exact h_
           have hji44v : x25_2 ≤ 64 → (IntKind.i64.wrap (2 ^ x25_2.toNat)) = ji44 := fun hle_ => by have h_ := hji44z hle_; rw [Int.one_mul] at h_; exact h_
           have hji44y : (wrap64 (1 * 2 ^ min x25_2.toNat 64)) = ji44 := (i64_w _).symm.trans hji44_
           have hji44x : x25_2 ≤ 64 → (wrap64 (1 * 2 ^ x25_2.toNat)) = ji44 := fun h_ => (i64_w _).symm.trans (hji44z h_)
           have c45 := O1_ H
           replace H := O2_ H
           have c45b0 := decide_eq_true c45
           (try rw [hl4_1] at c45b0)
           (try rw [hl4_2] at c45b0)
           clear c45
           have c46 := O1_ H
           replace H := O2_ H
           have c46b0 := decide_eq_true c46
           (try rw [hl4_1] at c46b0)
           (try rw [hl4_2] at c46b0)
           clear c46
           obtain ⟨y115, hy115⟩ : ∃ y_ : List Int, y_ = (x4_2.set (x20_1 : Int).toNat (wrap64 ((rd x4_2 x20_1) + (rd x4_2 (Go.bits .andNot .i64 x20_1 (ji44)))))) := ⟨_, rfl⟩
           replace H : (z47.l1 k3 t102 y115 x20_1 (y105.length : Int) x20_1 a0_0 (wrap64 (x25_2 + 1)) a0_0 l0_1) = some r := Y_ hy115 H
           have Ny115 := Aside0.mk hy115
           clear hy115
           have H' := Aside0.mk H
           clear H
           try go_wp2
           replace HO_3 := Aside0.mk (Kd.S_drew HO_3.out)
           replace HO_4 := Aside0.mk (Kd.R_drew HO_4.out)
           replace BK101 := Aside0.mk (blk_drew BK101.out)
           replace HB := Aside0.mk (below_drew1 HB.out)
           have p113 : 0 ≤ (x20_1 : Int) := D_
           have q113 : x20_1 < (x4_2.length : Int) := D_
           obtain ⟨ad113, e113, hx113_0⟩ := Kd.at_int (Kd.R_reads' HO_4.out).2.2 x20_1 p113 q113
           obtain rfl : (⟨go8, 0, none⟩ : Addr) = ad113 := (by injection e113)
           (first | simp only [add_plain] at hx113_0 | simp only [add_at] at hx113_0 | simp only [Addr.add, Nat.zero_add] at hx113_0 | skip)
           replace p113 := eq_true p113
           replace q113 := eq_true q113
           have p114 : 0 ≤ ((Go.bits .andNot .i64 x20_1 (ji44)) : Int) := D_
           have q114 : (Go.bits .andNot .i64 x20_1 (ji44)) < (x4_2.length : Int) := D_
           obtain ⟨ad114, e114, hx114_0⟩ := Kd.at_int (Kd.R_reads' HO_4.out).2.2 (Go.bits .andNot .i64 x20_1 (ji44)) p114 q114
           obtain rfl : (⟨go8, 0, none⟩ : Addr) = ad114 := (by injection e114)
           (first | simp only [add_plain] at hx114_0 | simp only [add_at] at hx114_0 | simp only [Addr.add, Nat.zero_add] at hx114_0 | skip)
           replace p114 := eq_true p114
           replace q114 := eq_true q114
           have p47 : 0 ≤ (x20_1 : Int) := D_
           have q47 : (x20_1 : Int) < ((x4_2.length : Int) : Int) := D_
           obtain ⟨hx47_0, hf47_0⟩ := Kd.R_celln 0 HO_4.out (x20_1 : Int) p47 q47
           replace p47 := eq_true p47
           replace q47 := eq_true q47
           have HP49 := Kd.R_putn HO_4.out (x20_1 : Int) (wrap64 ((rd x4_2 x20_1) + (rd x4_2 (Go.bits .andNot .i64 x20_1 (ji44)))))
           rw [← Ny115.out] at HP49
           have HQ49 := Aside0.mk HP49
           clear HP49
           refine start_ (n := 14) (S := fun w' => w'.cell? ⟨go8, (x20_1).toNat, none⟩ = some (.int .i64 (rd x4_2 x20_1)) ∧ w'.cell? ⟨go8, ((Go.bits .andNot .i64 x20_1 (ji44))).toNat, none⟩ = some (.int .i64 (rd x4_2 (Go.bits .andNot .i64 x20_1 (ji44))))) (ds := [13]) (tb_ 14 0) (by kernel_rfl) rfl rfl ⟨hx113_0, hx114_0⟩ (fun hHeld => ?_); refine with_tabW z47.tab18 z47.bits18 (fun HT_ HW_ => ?_)
           generalize wr.drew = w48 at HO_3 HO_4 BK101 HB HQ49 hf47_0 hx113_0 hx114_0 hx47_0 hHeld ⊢
           refine PV_ (i := 0) (N := some 77) (tb_ 14 1) HT_ rfl rfl (h := ?_)
           refine PV_ (i := 1) (N := some 78) (tb_ 14 3) HT_ rfl rfl (h := ?_)
           refine PV_ (i := 2) (N := some 79) (tb_ 14 7) HT_ rfl rfl (h := ?_)
           refine PV_ (i := 4) (N := some 81) (tb_ 14 23) HT_ rfl rfl (h := ?_)
           refine PV_ (i := 5) (N := some 82) (tb_ 14 55) HT_ rfl rfl (h := ?_)
           refine PV_ (i := 6) (N := some 83) (tb_ 14 119) HT_ rfl rfl (h := ?_)
           refine PV_ (i := 7) (N := some 84) (tb_ 14 247) HT_ rfl rfl (h := ?_)
           refine PV_ (i := 8) (N := some 85) (tb_ 14 503) HT_ rfl rfl (h := ?_)
           refine PV_ (i := 9) (N := some 86) (tb_ 14 1015) HT_ rfl rfl (h := ?_)
           refine TV_ (i := 3) (N := some 80) (tb_ 14 1023) HT_ HW_ rfl rfl hHeld (by rintro w' ⟨s0, s1⟩; go_simp; with_reducible rfl) (h := ?_)
           refine TV_ (i := 10) (N := some 87) (tb_ 14 2047) HT_ HW_ rfl rfl hHeld (by rintro w' ⟨s0, s1⟩; go_simp; with_reducible rfl) (h := ?_)
           refine PV_ (i := 11) (N := some 88) (tb_ 14 4095) HT_ rfl rfl (h := ?_)
           refine PV_ (i := 12) (N := some 89) (tb_ 14 8191) HT_ rfl rfl (h := ?_)
           refine last_ (i := 13) (N := none) (tb_ 14 16383) rfl rfl (one_of HT_.out (by kernel_rfl)) (by decide) (fun K hK => ?_)
           refine skip_ (w1 := ?_) (by rfl) rfl ?_ ?_
           rotate_left
           ·go_simp
            rfl
           refine hK.out _ _ ?_
           clear hK K
           refine done_ (done_of HT_.out (by kernel_rfl)) ?_
           try go_wp2
           (try simp only [← hl4_2])
           go_roundg k3
           case measure => exact Q3_ HK1 HK2 HK3
           case rel => exact ⟨(y115), (wrap64 (x25_2 + 1)), E_, H', ⟨Q3_ HK1 HK2 HK3⟩, ⟨by (try simp only [hl4_1]); (try simp only [hl4_2]); (with_reducible repeat (first | apply Kd.S_alloc | apply Kd.S_drewN | apply Kd.S_drew)); exact Kd.S_mono (Kd.S_far (p := ⟨go8, (x20_1 : Int).toNat, none⟩) (Kd.S_typesT (g := go8) HO_3.out (Kd.R_typed HO_4.out) rfl (by decide)) (fun _ hk => hk.2) (.int .i64 (wrap64 ((rd x4_2 x20_1) + (rd x4_2 (Go.bits .andNot .i64 x20_1 (ji44))))))) (fun _ hk => trivial)⟩, ⟨by (try simp only [hl4_1]); (try simp only [hl4_2]); (with_reducible repeat (first | apply Kd.R_alloc | apply Kd.R_drewN | apply Kd.R_drew)); exact HQ49.out⟩, ⟨by (try simp only [hl4_1]); (try simp only [hl4_2]); (with_reducible repeat (first | refine blk_drewN ?_ _ | refine blk_drew ?_ | refine blk_alloc ?_ _)); refine blk_far ?_ (by have h_ := Kd.R_ne HO_4.out BK101.out (by decide); intro e_; exact h_ (by rw [e_]; rfl)) _; (with_reducible repeat (first | refine blk_drewN ?_ _ | refine blk_drew ?_ | refine blk_alloc ?_ _)); exact BK101.out⟩, ⟨B2_ HB.out GB8.out GE101.out⟩⟩
          ·replace c40 := Bool.eq_false_iff.mpr c40
           subst c40
           replace H := N_ H
           have H' := Aside0.mk H
           clear H
           go_wp2
           (try simp only [← hl4_2])
           go_roundg k3
           case measure => exact Q3_ HK1 HK2 HK3
           case rel => exact ⟨(x4_2), (wrap64 (x25_2 + 1)), E_, H', ⟨Q3_ HK1 HK2 HK3⟩, ⟨by (try simp only [hl4_1]); (try simp only [hl4_2]); (with_reducible repeat (first | apply Kd.S_alloc | apply Kd.S_drewN | apply Kd.S_drew)); exact HO_3.out⟩, ⟨by (try simp only [hl4_1]); (try simp only [hl4_2]); (with_reducible repeat (first | apply Kd.R_alloc | apply Kd.R_drewN | apply Kd.R_drew)); exact HO_4.out⟩, ⟨by (try simp only [hl4_1]); (try simp only [hl4_2]); (with_reducible repeat (first | refine blk_drewN ?_ _ | refine blk_drew ?_ | refine blk_alloc ?_ _)); exact BK101.out⟩, ⟨B1_ HB.out GE101.out⟩⟩
      ·rw [if_neg c19] at H
       have c19b0 : decide (x25_2 < a0_0) = false := decide_eq_false c19
       (try rw [hl4_1] at c19b0)
       (try rw [hl4_2] at c19b0)
       clear c19
       have H' := Aside0.mk H
       clear H
       go_wp2
       (try simp only [← hl4_1, ← hl4_2])
       go_roundg k2
       case measure => exact Q2_ HK1 HK2
       case rel => exact ⟨(x4_2), (wrap64 (x20_1 + 1)), E_, H', ⟨Q2_ HK1 HK2⟩, ⟨by (try simp only [hl4_1]); (try simp only [hl4_2]); (with_reducible repeat (first | apply Kd.S_alloc | apply Kd.S_drewN | apply Kd.S_drew)); exact HO_3.out⟩, ⟨by (try simp only [hl4_1]); (try simp only [hl4_2]); (with_reducible repeat (first | apply Kd.R_alloc | apply Kd.R_drewN | apply Kd.R_drew)); exact HO_4.out⟩, ⟨by (try simp only [hl4_1]); (try simp only [hl4_2]); (with_reducible repeat (first | refine blk_drewN ?_ _ | refine blk_drew ?_ | refine blk_alloc ?_ _)); exact BK101.out⟩, ⟨B1_ HB.out GE101.out⟩⟩
   ·rw [if_neg c17] at H
    have c17b0 : decide (x20_1 < (y105.length : Int)) = false := decide_eq_false c17
    (try rw [hl4_1] at c17b0)
    clear c17
    obtain rfl := Option.some.inj H
    go_wp2
    go_ret
    exact ⟨_, by first | rfl | (simp [errW_none, errW_some] <;> rfl) | (simp only [← hji4]; first | rfl | (simp [errW_none, errW_some] <;> rfl)) | (simp [*, errW_none, errW_some] <;> rfl), KR_ HO_4.out, B1_ HB.out GE101.out⟩
end Go.Proofs.Ytagefgkneandpaa.B
