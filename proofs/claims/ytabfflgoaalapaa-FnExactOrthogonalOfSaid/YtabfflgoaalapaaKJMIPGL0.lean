/- Printed proofs of functions of the program and of the reference, by a program of this work over the kit's printer. -/
import Derived.Test.YtabfflgoaalapaaKENHNJJ0
import Derived.Test.YtabfflgoaalapaaKIJINCA0
import Derived.Test.YtabfflgoaalapaaKMCOAIA0
import Derived.Test.YtabfflgoaalapaaKW0
namespace Go.Proofs.Ytabfflgoaalapaa.B
open Go.RowKit Go.Proofs.YtabfflgoaalapaaW.PrintWords Go.Proofs.YtabfflgoaalapaaW.PrintLast Go.Proofs.YtabfflgoaalapaaW.PrintMore
attribute [local go_sem] max2_int min2_int max_two min_two max_three min_three max_four min_four
set_option linter.unusedVariables false
set_option linter.unusedSimpArgs false
mutual
def z93.l0 : Nat → List (List Int) → List Int → List (List Int) → Int → Int → Int → Int → Int → List Int → Option ((List (List Int)))
 | 0, _, _, _, _, _, _, _, _, _ => none
 | k + 1, x3, x4, x6, x23, x24, x102000, x102001, x102002, x102003 => if x24 < x23 then ((z130.f k x4 x24).bind fun t110 => (if t110 = true then (z93.l0 k x3 x4 x6 x23 (wrap64 (x24 + 1)) x102000 x102001 x102002 x102003) else (if 0 ≤ x102002 then (if (x102002 : Int).toNat ≤ 35184372088832 then ((some (List.replicate (x102002 : Int).toNat 0 : List Int)).bind fun y111 => (if 0 ≤ x24 then (if x24 < (y111.length : Int) then (z93.l1 k x3 x4 x6 x24 (y111.set (x24 : Int).toNat 1) x23 x24 x4 (x4.length : Int) 0 x102000 x102001 x102002 x102003) else (none)) else (none))) else (none)) else (none)))) else (some x6)
def z93.l1 : Nat → List (List Int) → List Int → List (List Int) → Int → List Int → Int → Int → List Int → Int → Int → Int → Int → Int → List Int → Option ((List (List Int)))
 | 0, _, _, _, _, _, _, _, _, _, _, _, _, _, _ => none
 | k + 1, x3, x4, x6, x7, x8, x23, x24, x36, x37, x38, x102000, x102001, x102002, x102003 => if x38 < x37 then (if 0 ≤ x38 then (if x38 < (x36.length : Int) then (if x38 < (x3.length : Int) then (if 0 ≤ x7 then (if x7 < ((rd_ListInt x3 x38).length : Int) then ((z131.f (wrap64 (-(rd (rd_ListInt x3 x38) x7))) x102000).bind fun t118 => (if 0 ≤ (rd x36 x38) then (if (rd x36 x38) < (x8.length : Int) then (z93.l1 k x3 x4 x6 x7 (x8.set ((rd x36 x38) : Int).toNat t118) x23 x24 x36 x37 (wrap64 (x38 + 1)) x102000 x102001 x102002 x102003) else (none)) else (none))) else (none)) else (none)) else (none)) else (none)) else (none)) else (if x6.length < 5864062014805 then (z93.l0 k x3 x4 (x6 ++ [x8]) x23 (wrap64 (x24 + 1)) x102000 x102001 x102002 x102003) else (none))
end
def z93.f (k : Nat) (a0_0 : Int) (a0_1 : Int) (a0_2 : Int) (l0_3 : List Int) : Option ((List (List Int))) := (z72.f k a0_0 a0_1 a0_2 l0_3).bind fun t102 => ((z128.f k t102 a0_2 a0_0).bind fun bt105 => (z93.l0 k bt105.2.2 bt105.1 ([] : List (List Int)) a0_2 0 a0_0 a0_1 a0_2 l0_3))
def z93.T13 : Bool × List (List Nat × List Nat) := (true, [([], []), ([], []), ([], []), ([], []), ([2, 3], [2, 3]), ([4], [4]), ([], []), ([5, 6], [5, 6]), ([7], [7]), ([8], [8]), ([], []), ([10], [10]), ([9, 11], [9, 11]), ([0, 1, 0, 1, 2, 3, 4, 5, 6, 7, 8, 9, 10, 11, 12], [0, 1]), ([13, 12, 12, 0, 1, 2, 3, 4, 5, 6, 7, 8, 9, 10, 11, 12], [12, 13])])
def z93.B13 : List Nat := [0, 0, 0, 0, 12, 28, 0, 124, 252, 508, 0, 1024, 4092, 8191, 16383]
theorem z93.tab13 : rtab .any (opsOf Try.f93 13) = z93.T13 := by kernel_rfl
theorem z93.bits13 : waitsOk z93.T13.2 z93.B13 = true := by kernel_rfl
set_option maxHeartbeats 8000000 in
set_option maxRecDepth 100000 in
theorem z93.calls (k : Nat) (a0_0 : Int) (a0_1 : Int) (a0_2 : Int) (A0_3 : Option Addr) (c0_3 : Nat) (l0_3 : List Int) (r : List (List Int)) (w : World) (hr0_3 : Kd.C (Kd.int .i64) w A0_3 l0_3.length l0_3) (hc0_3 : l0_3.length ≤ c0_3) (h : z93.f k a0_0 a0_1 a0_2 l0_3 = some r) :
  Calls Try.prog 93 #[.agg #[.int .i64 a0_0, .int .i64 a0_1, .int .i64 a0_2, .slice A0_3 l0_3.length c0_3]] w fun e w' => ∃ v0_ : Value, e = .returned (v0_) ∧ Kd.S (Kd.slice 2 (Kd.int .i64)) 25 w' w.heap.size (fun _ => True) v0_ r ∧ Below w.heap.size w w' := by
 have hu59 := Try.underlying59
 have HR0_3 := Aside0.mk hr0_3
 have HC0_3 := Aside0.mk hc0_3
 clear hr0_3 hc0_3
 have HB := Aside0.mk (Below.refl w.heap.size w)
 have H : ((z72.f k a0_0 a0_1 a0_2 l0_3).bind fun t102 => ((z128.f k t102 a0_2 a0_0).bind fun bt105 => (z93.l0 k bt105.2.2 bt105.1 ([] : List (List Int)) a0_2 0 a0_0 a0_1 a0_2 l0_3))) = some r := h
 clear h
 replace H := Option.bind_eq_some_iff.mp H
 obtain ⟨t102, A20, H⟩ := H
 have A2 := Aside0.mk A20
 clear A20
 replace H := Option.bind_eq_some_iff.mp H
 obtain ⟨⟨t105, t108, t109⟩, A30, H⟩ := H
 try dsimp only at H
 have A3 := Aside0.mk A30
 clear A30
 have H' := Aside0.mk H
 clear H
 go_enter Try.func93, Try.ntmps93
 go_wp2_with (first | ((with_reducible refine gate_dst (N := 1) rfl ?_); refine box_event ?hg (N := 1) ?hd (cs := #[.int .i64 a0_0, .int .i64 a0_1, .int .i64 a0_2, .slice A0_3 l0_3.length c0_3]) (t := 59) ?hr ?_; (case hd => rfl); (case hg => rfl); (case hr => first | (go_simp; done) | (go_simp; rfl)); intro gb101 hg w4 hbox hb; have n0_ := Aside0.mk (below_step (B_ HB.out) hb); have n1_ := Aside0.mk (hbox); have n2_ := Aside0.mk ((by rw [hg]; exact (below_size (B_ HB.out)) : w.heap.size ≤ gb101)); have n3_ := Aside0.mk ((by rw [hg]; exact (below_size (B_ HB.out)) : w.heap.size ≤ gb101)); clear HB; have HB := n0_; have BK101 := n1_; have GW101 := n2_; have GE101 := n3_; clear n0_ n1_ n2_ n3_; clear hb hbox hg; have hcz5_0 : w4.cell? ⟨gb101, 0, none⟩ = some (.int .i64 a0_0) := (blk_cell BK101.out 0).trans rfl; have hcz5_1 : w4.cell? ⟨gb101, 1, none⟩ = some (.int .i64 a0_1) := (blk_cell BK101.out 1).trans rfl; have hcz5_2 : w4.cell? ⟨gb101, 2, none⟩ = some (.int .i64 a0_2) := (blk_cell BK101.out 2).trans rfl; have hcz5_3 : w4.cell? ⟨gb101, 3, none⟩ = some (.slice A0_3 l0_3.length c0_3) := (blk_cell BK101.out 3).trans rfl; have hfz5_0 := blk_frozen BK101.out 0; have hfz5_1 := blk_frozen BK101.out 1; have hfz5_2 := blk_frozen BK101.out 2; have hfz5_3 := blk_frozen BK101.out 3) | ((with_reducible refine gate_callee (f := 72) rfl ?_); refine goesL_ (some 12) rfl rfl Try.func72 (by kernel_rfl) rfl #[.agg #[.int .i64 a0_0, .int .i64 a0_1, .int .i64 a0_2, .slice A0_3 l0_3.length c0_3]] rfl (by (try simp only [List.map_toArray, List.map_cons, List.map_nil]); first | done | rfl | (simp only [List.length_drop, List.length_take]; rfl)) ?_; (with_reducible refine (z72.calls k a0_0 a0_1 a0_2 _ _ l0_3 t102 _ ?side1 ?side2 A2.out).mono ?_); (case side1 => exact KC_ (Kd.C_below HR0_3.out HB.out)); (case side2 => exact HC0_3.out); rintro e w6 ⟨v103, rfl, ho0, hb⟩; refine ⟨_, rfl, ?_⟩; have HO104 := Aside0.mk (Kd.S_lower ho0 (below_size (B1_ HB.out GE101.out))); replace BK101 := Aside0.mk (blk_below (g := gb101) (o := .cells #[.int .i64 a0_0, .int .i64 a0_1, .int .i64 a0_2, .slice A0_3 l0_3.length c0_3] 59 (0, 0)) (KB_ BK101.out) hb); replace HB := Aside0.mk (below_step (B1_ HB.out GE101.out) hb); (try clear hb); (try clear hb2); (try clear hk); (try clear hi); (try clear ho0); have hcz7_0 : w6.cell? ⟨gb101, 0, none⟩ = some (.int .i64 a0_0) := (blk_cell BK101.out 0).trans rfl; have hcz7_1 : w6.cell? ⟨gb101, 1, none⟩ = some (.int .i64 a0_1) := (blk_cell BK101.out 1).trans rfl; have hcz7_2 : w6.cell? ⟨gb101, 2, none⟩ = some (.int .i64 a0_2) := (blk_cell BK101.out 2).trans rfl; have hcz7_3 : w6.cell? ⟨gb101, 3, none⟩ = some (.slice A0_3 l0_3.length c0_3) := (blk_cell BK101.out 3).trans rfl; have hfz7_0 := blk_frozen BK101.out 0; have hfz7_1 := blk_frozen BK101.out 1; have hfz7_2 := blk_frozen BK101.out 2; have hfz7_3 := blk_frozen BK101.out 3; obtain ⟨Ao8, co8, eo8⟩ := Kd.S_slice HO104.out; subst eo8) | (go_at_call 128; (with_reducible refine (z128.calls k (fun k_ => True ∧ ∃ q_, q_ ∈ 25 :: ((Kd.slice 2 (Kd.int .i64))).E ∧ ∃ cs_, w6.heap[k_]? = some (.cells cs_ q_ (0, 0))) (.slice Ao8 t102.length co8) t102 a0_2 a0_0 t105 t108 t109 w _ ?side1 ?side2 A3.out).mono ?_); (case side1 => repeat (first | (with_reducible first | exact HB.out | apply below_alloc | apply pw_below_drewN | apply below_drew1 | refine below_set ?_ GE101.out) | exact HB.out)); (case side2 => exact Kd.S_N (Kd.S_pin (ok := fun k_ => True) (KS_ HO104.out))); rintro e w9 ⟨v106, rfl, ho0, hy0, hb, hkp⟩; have n0_ := Aside0.mk (blk_kept (KB_ BK101.out) hkp (fun hs_ => Kd.typed_ne (KB_ BK101.out) hs_.2 (by decide))); have n1_ := Aside0.mk (Kd.N_mono (ok' := fun k_ => k_ ≠ gb101) hy0 (fun k_ hk_ => fun e_ => Or.elim hk_ (fun hs_ => Kd.typed_ne (KB_ BK101.out) (by rw [← e_]; exact hs_.2) (by decide)) (fun hn_ => (Kd.freshB (g := gb101) (o := .cells #[.int .i64 a0_0, .int .i64 a0_1, .int .i64 a0_2, .slice A0_3 l0_3.length c0_3] 59 (0, 0)) (KB_ BK101.out) k_ hn_) e_))); have n2_ := Aside0.mk (Kd.R_mono ho0 (fun k_ hk_ => trivial)); have n3_ := Aside0.mk (hb); clear BK101; clear HO104; clear HB; have BK101 := n0_; have HO104 := n1_; have HO107 := n2_; have HB := n3_; clear n0_ n1_ n2_ n3_; (try clear hb hkp hy0 ho0); have hcz10_0 : w9.cell? ⟨gb101, 0, none⟩ = some (.int .i64 a0_0) := (blk_cell BK101.out 0).trans rfl; have hcz10_1 : w9.cell? ⟨gb101, 1, none⟩ = some (.int .i64 a0_1) := (blk_cell BK101.out 1).trans rfl; have hcz10_2 : w9.cell? ⟨gb101, 2, none⟩ = some (.int .i64 a0_2) := (blk_cell BK101.out 2).trans rfl; have hcz10_3 : w9.cell? ⟨gb101, 3, none⟩ = some (.slice A0_3 l0_3.length c0_3) := (blk_cell BK101.out 3).trans rfl; have hfz10_0 := blk_frozen BK101.out 0; have hfz10_1 := blk_frozen BK101.out 1; have hfz10_2 := blk_frozen BK101.out 2; have hfz10_3 := blk_frozen BK101.out 3))
 go_loopg [6, 24] k (fun kq v6 v24 w' => ∃ (x4_1 : List Int) (x6_1 : List (List Int)) (x24_1 : Int), v24 = .int .i64 x24_1 ∧ Aside0 (z93.l0 kq t109 x4_1 x6_1 a0_2 x24_1 a0_0 a0_1 a0_2 l0_3 = some r) ∧ Aside0 (kq ≤ k) ∧ Aside0 (Kd.N (Kd.slice 2 (Kd.int .i64)) 25 w' w.heap.size (fun k_ => some k_ ≠ (v6 : Value).ownBlock ∧ k_ ≠ gb101) (.slice Ao8 t102.length co8) t109) ∧ Aside0 (Kd.R (Kd.int .i64) 2 w' w.heap.size (fun _ => True) v106 x4_1) ∧ Aside0 (Kd.S (Kd.slice 2 (Kd.int .i64)) 25 w' w.heap.size (fun k_ => some k_ ≠ ((.slice Ao8 t102.length co8) : Value).ownBlock ∧ some k_ ≠ (v106 : Value).ownBlock) v6 x6_1) ∧ Aside0 (w'.heap[gb101]? = some (.cells #[.int .i64 a0_0, .int .i64 a0_1, .int .i64 a0_2, (.slice A0_3 l0_3.length c0_3)] 59 (0, 0))) ∧ Aside0 (Below w.heap.size w w'))
 case atStart => exact ⟨(t105), (([] : List (List Int))), (0), E_, H', ⟨Nat.le_refl _⟩, ⟨by (with_reducible repeat (first | apply Kd.N_alloc | apply Kd.N_drewN | apply Kd.N_drew)); exact Kd.N_mono HO104.out (fun _ hk => ⟨(by simp [Value.ownBlock]), hk⟩)⟩, ⟨KR_ HO107.out⟩, ⟨by first | exact Kd.S_nil _ _ _ _ _ | exact Kd.N_nil _ _ _ _ _ | exact Kd.V_nil _ _ _ _ _ | exact Kd.Q_nil _ _ _ _ _ | exact Kd.R_nil _ _ _ _ _⟩, ⟨KB_ BK101.out⟩, ⟨B1_ HB.out GE101.out⟩⟩
 case round =>
  clear H'
  (try clear p2);(try clear c7);(try clear c9);(try clear hcz10_0);(try clear hcz10_1);(try clear hcz10_2);(try clear hcz10_3);(try clear hcz5_0);(try clear hcz5_1);(try clear hcz5_2);(try clear hcz5_3);(try clear hcz7_0);(try clear hcz7_1);(try clear hcz7_2);(try clear hcz7_3);(try clear hfz10_0);(try clear hfz10_1);(try clear hfz10_2);(try clear hfz10_3);(try clear hfz5_0);(try clear hfz5_1);(try clear hfz5_2);(try clear hfz5_3);(try clear hfz7_0);(try clear hfz7_1);(try clear hfz7_2);(try clear hfz7_3)
  obtain ⟨x4_1, x6_1, x24_1, rfl, HA, HK1, HO_3, HO_4, HO_6, BK101, HB⟩ := hrel
  have hl3_1 := (Kd.N_reads' HO_3.out).1
  rw [hl3_1] at HO_3
  (try simp only [hl3_1])
  (try simp only [hl3_1] at BK101)
  (try simp only [hl3_1] at HO_4)
  (try simp only [hl3_1] at HO_6)
  cases gk with
  | zero => exact absurd HA.out (by simp [z93.l0])
  | succ k1 =>
   have H := HA.out
   clear HA
   simp only [z93.l0] at H
   by_cases c11 : x24_1 < a0_2
   ·rw [if_pos c11] at H
    have c11b0 : decide (x24_1 < a0_2) = true := decide_eq_true c11
    (try rw [hl3_1] at c11b0)
    clear c11
    replace H := Option.bind_eq_some_iff.mp H
    obtain ⟨t110, A120, H⟩ := H
    have A12 := Aside0.mk A120
    clear A120
    by_cases c13 : t110 = true
    ·subst c13
     replace H := T_ H
     have H' := Aside0.mk H
     clear H
     obtain ⟨Ao14, co14, eo14⟩ := Kd.R_slice HO_4.out
     subst eo14
     go_wp2_with (first | ((with_reducible refine gate_callee (f := 130) rfl ?_); refine goesL_ (some 29) rfl rfl Try.func130 (by kernel_rfl) rfl #[.slice Ao14 x4_1.length co14, .int .i64 x24_1] rfl (by (try simp only [List.map_toArray, List.map_cons, List.map_nil]); first | done | rfl | (simp only [List.length_drop, List.length_take]; rfl)) ?_; (with_reducible refine (z130.calls k1 _ _ x4_1 x24_1 true _ ?side1 ?side2 A12.out).mono ?_); (case side1 => exact KC_ (Kd.R_reads' HO_4.out).2.2); (case side2 => exact (Kd.R_reads' HO_4.out).2.1); rintro e w' ⟨rfl, ⟨nd, rfl⟩⟩; refine ⟨_, rfl, ?_⟩))
     (try simp only [← hl3_1])
     go_roundg k1
     case measure => exact Q1_ HK1
     case rel => exact ⟨(x4_1), (x6_1), (wrap64 (x24_1 + 1)), E_, H', ⟨Q1_ HK1⟩, ⟨by (try simp only [hl3_1]); (with_reducible repeat (first | apply Kd.N_alloc | apply Kd.N_drewN | apply Kd.N_drew)); exact HO_3.out⟩, ⟨by (try simp only [hl3_1]); (with_reducible repeat (first | apply Kd.R_alloc | apply Kd.R_drewN | apply Kd.R_drew)); exact HO_4.out⟩, ⟨by (try simp only [hl3_1]); (with_reducible repeat (first | apply Kd.S_alloc | apply Kd.S_drewN | apply Kd.S_drew)); exact HO_6.out⟩, ⟨by (try simp only [hl3_1]); (with_reducible repeat (first | refine blk_drewN ?_ _ | refine blk_drew ?_ | refine blk_alloc ?_ _)); exact BK101.out⟩, ⟨B1_ HB.out GE101.out⟩⟩
    ·replace c13 := Bool.eq_false_iff.mpr c13
     subst c13
     replace H := N_ H
     have c15 := O1_ H
     replace H := O2_ H
     have c15b0 := eq_true c15
     have c15b1 : decide (0 ≤ a0_2) = true := decide_eq_true c15
     clear c15
     have c16 := O1_ H
     replace H := O2_ H
     have c16b0 := eq_true c16
     have c16b1 : decide ((a0_2 : Int).toNat ≤ 35184372088832) = true := decide_eq_true c16
     clear c16
     obtain ⟨y111, hy111⟩ : ∃ y_ : List Int, y_ = (List.replicate (a0_2 : Int).toNat 0) := ⟨_, rfl⟩
     replace H : (if 0 ≤ x24_1 then (if x24_1 < (y111.length : Int) then (z93.l1 k1 t109 x4_1 x6_1 x24_1 (y111.set (x24_1 : Int).toNat 1) a0_2 x24_1 x4_1 (x4_1.length : Int) 0 a0_0 a0_1 a0_2 l0_3) else (none)) else (none)) = some r := Y_ hy111 H
     have Ny111 := Aside0.mk hy111
     clear hy111
     have c17 := O1_ H
     replace H := O2_ H
     have c17b0 := decide_eq_true c17
     (try rw [hl3_1] at c17b0)
     clear c17
     have c18 := O1_ H
     replace H := O2_ H
     have c18b0 := decide_eq_true c18
     (try rw [hl3_1] at c18b0)
     clear c18
     obtain ⟨y114, hy114⟩ : ∃ y_ : List Int, y_ = (y111.set (x24_1 : Int).toNat 1) := ⟨_, rfl⟩
     replace H : (z93.l1 k1 t109 x4_1 x6_1 x24_1 y114 a0_2 x24_1 x4_1 (x4_1.length : Int) 0 a0_0 a0_1 a0_2 l0_3) = some r := Y_ hy114 H
     have Ny114 := Aside0.mk hy114
     clear hy114
     have H' := Aside0.mk H
     clear H
     obtain ⟨Ao20, co20, eo20⟩ := Kd.R_slice HO_4.out
     subst eo20
     go_wp2_with (first | ((with_reducible refine gate_callee (f := 130) rfl ?_); refine goesL_ (some 29) rfl rfl Try.func130 (by kernel_rfl) rfl #[.slice Ao20 x4_1.length co20, .int .i64 x24_1] rfl (by (try simp only [List.map_toArray, List.map_cons, List.map_nil]); first | done | rfl | (simp only [List.length_drop, List.length_take]; rfl)) ?_; (with_reducible refine (z130.calls k1 _ _ x4_1 x24_1 false _ ?side1 ?side2 A12.out).mono ?_); (case side1 => exact KC_ (Kd.R_reads' HO_4.out).2.2); (case side2 => exact (Kd.R_reads' HO_4.out).2.1); rintro e w' ⟨rfl, ⟨nd, rfl⟩⟩; refine ⟨_, rfl, ?_⟩; (try (rw [drewN_self wr]; generalize hq_ : World.drewN wr _ = wr; have n0_ : Aside0 (Kd.N (Kd.slice 2 (Kd.int .i64)) 25 wr w.heap.size (fun k_ => some k_ ≠ (u6 : Value).ownBlock ∧ k_ ≠ gb101) (.slice Ao8 t109.length co8) t109) := ⟨by rw [← hq_]; exact (KN_ HO_3.out)⟩; have n1_ : Aside0 (Kd.R (Kd.int .i64) 2 wr w.heap.size (fun _ => True) (.slice Ao20 x4_1.length co20) x4_1) := ⟨by rw [← hq_]; exact (KR_ HO_4.out)⟩; have n2_ : Aside0 (Kd.S (Kd.slice 2 (Kd.int .i64)) 25 wr w.heap.size (fun k_ => some k_ ≠ (.slice Ao8 t109.length co8 : Value).ownBlock ∧ some k_ ≠ (.slice Ao20 x4_1.length co20 : Value).ownBlock) u6 x6_1) := ⟨by rw [← hq_]; exact (KS_ HO_6.out)⟩; have n3_ : Aside0 (wr.heap[gb101]? = some (.cells #[.int .i64 a0_0, .int .i64 a0_1, .int .i64 a0_2, .slice A0_3 l0_3.length c0_3] 59 (0, 0))) := ⟨by rw [← hq_]; exact (KB_ BK101.out)⟩; have n4_ : Aside0 (Below w.heap.size w wr) := ⟨by rw [← hq_]; exact (B1_ HB.out GE101.out)⟩; clear HO_3 HO_4 HO_6 BK101 HB hq_; have HO_3 := n0_; have HO_4 := n1_; have HO_6 := n2_; have BK101 := n3_; have HB := n4_; clear n0_ n1_ n2_ n3_ n4_)); have hcz21_0 : wr.cell? ⟨gb101, 0, none⟩ = some (.int .i64 a0_0) := (blk_cell BK101.out 0).trans rfl; have hcz21_1 : wr.cell? ⟨gb101, 1, none⟩ = some (.int .i64 a0_1) := (blk_cell BK101.out 1).trans rfl; have hcz21_2 : wr.cell? ⟨gb101, 2, none⟩ = some (.int .i64 a0_2) := (blk_cell BK101.out 2).trans rfl; have hcz21_3 : wr.cell? ⟨gb101, 3, none⟩ = some (.slice A0_3 l0_3.length c0_3) := (blk_cell BK101.out 3).trans rfl; have hfz21_0 := blk_frozen BK101.out 0; have hfz21_1 := blk_frozen BK101.out 1; have hfz21_2 := blk_frozen BK101.out 2; have hfz21_3 := blk_frozen BK101.out 3) | ((with_reducible refine gate_dst (N := 32) rfl ?_); refine Kd.R_make (Kd.int .i64) _ 2 rfl (N := 32) rfl 25 _ _ rfl a0_2 rfl rfl Try.underlying25 (.int .i64 0) 8 info2 rfl (by decide) (by omega) 0 (ok := fun _ => True) (okp := fun _ => True) rfl (fun _ hk => hk) trivial (D_) (Nat.le_trans (Nat.mul_le_mul_right _ (D_ : a0_2.toNat ≤ 35184372088832)) (by omega)) (Below.refl _ _) (Nat.le_refl _) ?_; intro v112 w22 ho23 hb hg_ hnew_; clear hg_ hnew_; (first | rw [← Ny111.out] at ho23 | (simp only [Int.reduceToNat] at ho23; rw [← Ny111.out] at ho23)); have n0_ := Aside0.mk (Kd.N_elder' (KN_ HO_3.out) (Kd.R_base ho23) hb); have n1_ := Aside0.mk (Kd.R_elder' (KR_ HO_4.out) (Kd.R_base ho23) hb); have n2_ := Aside0.mk (Kd.S_elder' (KS_ HO_6.out) (Kd.R_base ho23) hb); have n3_ := Aside0.mk (Kd.R_lower (Kd.R_new' ho23 (Kd.R_lt (KR_ HO_4.out))) (below_size (B1_ HB.out GE101.out))); have n4_ := Aside0.mk (blk_below (g := gb101) (o := .cells #[.int .i64 a0_0, .int .i64 a0_1, .int .i64 a0_2, .slice A0_3 l0_3.length c0_3] 59 (0, 0)) (KB_ BK101.out) hb); have n5_ := Aside0.mk (below_step (B1_ HB.out GE101.out) hb); clear HO_3; clear HO_4; clear HO_6; clear BK101; clear HB; have HO_3 := n0_; have HO_4 := n1_; have HO_6 := n2_; have HO113 := n3_; have BK101 := n4_; have HB := n5_; clear n0_ n1_ n2_ n3_ n4_ n5_; clear hb ho23; have p19 : 0 ≤ (x24_1 : Int) := D_; have q19 : (x24_1 : Int) < ((y111.length : Int) : Int) := D_; obtain ⟨go19, co19, eo19, gb19, gl19, cl19, HG19⟩ := Kd.R_form HO113.out (by omega); (first | cases eo19 | (injection eo19 with ea_ en_ ec_; (first | subst ea_ | (injection ea_ with ea_; subst ea_)); subst ec_; clear en_)); have GB19 := Aside0.mk gb19; have GG19 := Aside0.mk HG19; clear gb19 gl19 HG19; obtain ⟨hx19_0, hf19_0⟩ := Kd.R_celln 0 HO113.out (x24_1 : Int) p19 q19; replace p19 := eq_true p19; replace q19 := eq_true q19; have n_ := Aside0.mk (Kd.R_mono (ok' := (fun k_ => some k_ ≠ (.slice Ao20 x4_1.length co20 : Value).ownBlock)) HO113.out (fun k_ hk => hk.2)); clear HO113; have HO113 := n_; clear n_; obtain ⟨hy24_, hz24_⟩ := Kd.R_celln 0 HO113.out (x24_1 : Int) (D_) (D_); have HP24 := Kd.R_putg HO113.out (x24_1 : Int) 1) | ((with_reducible refine gate_store (t := 2) (p := 35) rfl ?_); refine store_event (t := 2) (p := 35) (v := ?vo_w25) (w1 := (w22.setCell ⟨go19, (x24_1 : Int).toNat, none⟩ (.int .i64 1))) ?hg ?ho ?hn ?hr ?_; (case ho => rfl); (case hg => rfl); (case hn => rfl); (case hr => first | (go_simp; done) | (go_simp; rfl)); intro w25 hw; have hg : w22.grownBy w25 (some go19) := (by rw [hw]; exact HP24.2); have hp_ : Kd.R (Kd.int .i64) 2 w25 w.heap.size (fun k_ => some k_ ≠ (.slice Ao20 x4_1.length co20 : Value).ownBlock) (.slice (some ⟨go19, 0, none⟩) y111.length co19) y114 := (by rw [hw, Ny114.out]; exact HP24.1); clear HP24; replace HO_3 := Aside0.mk (Kd.N_afterv (v := (.slice (some ⟨go19, 0, none⟩) y111.length co19)) (v1 := (.slice (some ⟨go19, 0, none⟩) y111.length co19)) (ok := (fun k_ => some k_ ≠ (u6 : Value).ownBlock ∧ k_ ≠ gb101)) (KN_ HO_3.out) hg (.inl rfl)); replace HO_4 := Aside0.mk (Kd.R_after (v := (.slice (some ⟨go19, 0, none⟩) y111.length co19)) (v1 := (.slice (some ⟨go19, 0, none⟩) y111.length co19)) (ok := (fun _ => True)) (KR_ HO_4.out) hg (.inl rfl)); replace HO_6 := Aside0.mk (Kd.S_after (v := (.slice (some ⟨go19, 0, none⟩) y111.length co19)) (v1 := (.slice (some ⟨go19, 0, none⟩) y111.length co19)) (ok := (fun k_ => some k_ ≠ (.slice Ao8 t109.length co8 : Value).ownBlock ∧ some k_ ≠ (.slice Ao20 x4_1.length co20 : Value).ownBlock)) (KS_ HO_6.out) hg (.inl rfl)); replace BK101 := Aside0.mk (blk_grown (g := gb101) (o := .cells #[.int .i64 a0_0, .int .i64 a0_1, .int .i64 a0_2, .slice A0_3 l0_3.length c0_3] 59 (0, 0)) (KB_ BK101.out) hg (Kd.R_ne HO113.out BK101.out (by decide))); replace HO113 := Aside0.mk (hp_); replace HB := Aside0.mk ((by rw [hw]; exact below_set (HB.out) GB19.out : Below w.heap.size w w25)); clear hg hw hp_))
     go_loopg [38] k1 (fun kq v38 w' => ∃ (x8_2 : List Int) (x38_2 : Int), v38 = .int .i64 x38_2 ∧ Aside0 (z93.l1 kq t109 x4_1 x6_1 x24_1 x8_2 a0_2 x24_1 x4_1 (x4_1.length : Int) x38_2 a0_0 a0_1 a0_2 l0_3 = some r) ∧ Aside0 (kq ≤ k1) ∧ Aside0 (Kd.N (Kd.slice 2 (Kd.int .i64)) 25 w' w.heap.size (fun k_ => some k_ ≠ (u6 : Value).ownBlock ∧ some k_ ≠ ((.slice (some ⟨go19, 0, none⟩) y111.length co19) : Value).ownBlock ∧ k_ ≠ gb101) (.slice Ao8 t109.length co8) t109) ∧ Aside0 (Kd.R (Kd.int .i64) 2 w' w.heap.size (fun k_ => some k_ ≠ ((.slice (some ⟨go19, 0, none⟩) y111.length co19) : Value).ownBlock) (.slice Ao20 x4_1.length co20) x4_1) ∧ Aside0 (Kd.S (Kd.slice 2 (Kd.int .i64)) 25 w' w.heap.size (fun k_ => some k_ ≠ ((.slice Ao8 t109.length co8) : Value).ownBlock ∧ some k_ ≠ ((.slice Ao20 x4_1.length co20) : Value).ownBlock ∧ some k_ ≠ ((.slice (some ⟨go19, 0, none⟩) y111.length co19) : Value).ownBlock ∧ some k_ ≠ ((.slice Ao20 x4_1.length co20) : Value).ownBlock) u6 x6_1) ∧ Aside0 (Kd.R (Kd.int .i64) 2 w' w.heap.size (fun k_ => some k_ ≠ ((.slice Ao20 x4_1.length co20) : Value).ownBlock ∧ some k_ ≠ ((.slice Ao20 x4_1.length co20) : Value).ownBlock) (.slice (some ⟨go19, 0, none⟩) y111.length co19) x8_2) ∧ Aside0 (Kd.R (Kd.int .i64) 2 w' w.heap.size (fun k_ => some k_ ≠ ((.slice (some ⟨go19, 0, none⟩) y111.length co19) : Value).ownBlock) (.slice Ao20 x4_1.length co20) x4_1) ∧ Aside0 (w'.heap[gb101]? = some (.cells #[.int .i64 a0_0, .int .i64 a0_1, .int .i64 a0_2, (.slice A0_3 l0_3.length c0_3)] 59 (0, 0))) ∧ Aside0 (Below w.heap.size w w'))
     case atStart => exact ⟨(y114), (0), E_, H', ⟨Nat.le_refl _⟩, ⟨by (try simp only [hl3_1]); (with_reducible repeat (first | apply Kd.N_alloc | apply Kd.N_drewN | apply Kd.N_drew)); exact Kd.N_mono HO_3.out (fun _ hk => ⟨hk.1.1, ⟨hk.2, hk.1.2⟩⟩)⟩, ⟨by (try simp only [hl3_1]); (with_reducible repeat (first | apply Kd.R_alloc | apply Kd.R_drewN | apply Kd.R_drew)); exact Kd.R_mono HO_4.out (fun _ hk => hk.2)⟩, ⟨by (try simp only [hl3_1]); (with_reducible repeat (first | apply Kd.S_alloc | apply Kd.S_drewN | apply Kd.S_drew)); exact Kd.S_mono HO_6.out (fun _ hk => ⟨hk.1.1, ⟨hk.1.2, ⟨hk.2, hk.1.2⟩⟩⟩)⟩, ⟨by (try simp only [hl3_1]); (with_reducible repeat (first | apply Kd.R_alloc | apply Kd.R_drewN | apply Kd.R_drew)); exact Kd.R_mono HO113.out (fun _ hk => ⟨hk, hk⟩)⟩, ⟨by (try simp only [hl3_1]); (with_reducible repeat (first | apply Kd.R_alloc | apply Kd.R_drewN | apply Kd.R_drew)); exact Kd.R_mono HO_4.out (fun _ hk => hk.2)⟩, ⟨by (try simp only [hl3_1]); (with_reducible repeat (first | refine blk_drewN ?_ _ | refine blk_drew ?_ | refine blk_alloc ?_ _)); exact BK101.out⟩, ⟨B1_ HB.out GE101.out⟩⟩
     case round =>
      clear H'
      (try clear c1);(try clear p1);(try clear q1);(try clear hx1);(try clear hf1);(try clear p2);(try clear p6);(try clear c7);(try clear c9);(try clear c11);(try clear c11b0);(try clear c13);(try clear c15);(try clear c15b0);(try clear c15b1);(try clear c16);(try clear c16b0);(try clear c16b1);(try clear c17);(try clear c17b0);(try clear c18);(try clear c18b0);(try clear p19);(try clear q19);(try clear hx19);(try clear hf19);(try clear hcz10_0);(try clear hcz10_1);(try clear hcz10_2);(try clear hcz10_3);(try clear hcz21_0);(try clear hcz21_1);(try clear hcz21_2);(try clear hcz21_3);(try clear hcz5_0);(try clear hcz5_1);(try clear hcz5_2);(try clear hcz5_3);(try clear hcz7_0);(try clear hcz7_1);(try clear hcz7_2);(try clear hcz7_3);(try clear hfz10_0);(try clear hfz10_1);(try clear hfz10_2);(try clear hfz10_3);(try clear hfz21_0);(try clear hfz21_1);(try clear hfz21_2);(try clear hfz21_3);(try clear hfz5_0)
      (try clear hfz5_1);(try clear hfz5_2);(try clear hfz5_3);(try clear hfz7_0);(try clear hfz7_1);(try clear hfz7_2);(try clear hfz7_3);(try clear hx19_0);(try clear p19);(try clear p2);(try clear q19)
      obtain ⟨x8_2, x38_2, rfl, HA, HK2, HO_3, HO_4, HO_6, HO_8, HO_36, BK101, HB⟩ := hrel
      have hl8_2 := (Kd.R_reads' HO_8.out).1
      rw [hl8_2] at HO_8
      (try simp only [hl8_2])
      (try simp only [hl8_2] at BK101)
      (try simp only [hl8_2] at HO_3)
      (try simp only [hl8_2] at HO_4)
      (try simp only [hl8_2] at HO_6)
      (try simp only [hl8_2] at HO_36)
      cases gk with
      | zero => exact absurd HA.out (by simp [z93.l1])
      | succ k2 =>
       have H := HA.out
       clear HA
       simp only [z93.l1] at H
       by_cases c26 : x38_2 < (x4_1.length : Int)
       ·rw [if_pos c26] at H
        have c26b0 : decide (x38_2 < (x4_1.length : Int)) = true := decide_eq_true c26
        (try rw [hl3_1] at c26b0)
        (try rw [hl8_2] at c26b0)
        clear c26
        have c27 := O1_ H
        replace H := O2_ H
        have c27b0 := decide_eq_true c27
        (try rw [hl3_1] at c27b0)
        (try rw [hl8_2] at c27b0)
        clear c27
        have c28 := O1_ H
        replace H := O2_ H
        have c28b0 := decide_eq_true c28
        (try rw [hl3_1] at c28b0)
        (try rw [hl8_2] at c28b0)
        clear c28
        have c29 := O1_ H
        replace H := O2_ H
        have c29b0 := decide_eq_true c29
        (try rw [hl3_1] at c29b0)
        (try rw [hl8_2] at c29b0)
        clear c29
        have c30 := O1_ H
        replace H := O2_ H
        have c30b0 := decide_eq_true c30
        (try rw [hl3_1] at c30b0)
        (try rw [hl8_2] at c30b0)
        clear c30
        have c31 := O1_ H
        replace H := O2_ H
        have c31b0 := decide_eq_true c31
        (try rw [hl3_1] at c31b0)
        (try rw [hl8_2] at c31b0)
        clear c31
        replace H := Option.bind_eq_some_iff.mp H
        obtain ⟨t118, A320, H⟩ := H
        have A32 := Aside0.mk A320
        clear A320
        have c33 := O1_ H
        replace H := O2_ H
        have c33b0 := decide_eq_true c33
        (try rw [hl3_1] at c33b0)
        (try rw [hl8_2] at c33b0)
        clear c33
        have c34 := O1_ H
        replace H := O2_ H
        have c34b0 := decide_eq_true c34
        (try rw [hl3_1] at c34b0)
        (try rw [hl8_2] at c34b0)
        clear c34
        obtain ⟨y119, hy119⟩ : ∃ y_ : List Int, y_ = (x8_2.set ((rd x4_1 x38_2) : Int).toNat t118) := ⟨_, rfl⟩
        replace H : (z93.l1 k2 t109 x4_1 x6_1 x24_1 y119 a0_2 x24_1 x4_1 (x4_1.length : Int) (wrap64 (x38_2 + 1)) a0_0 a0_1 a0_2 l0_3) = some r := Y_ hy119 H
        have Ny119 := Aside0.mk hy119
        clear hy119
        have H' := Aside0.mk H
        clear H
        have p115 : 0 ≤ (x38_2 : Int) := D_
        have q115 : x38_2 < (x4_1.length : Int) := D_
        obtain ⟨ad115, e115, hx115_0⟩ := Kd.at_int (Kd.R_reads' HO_36.out).2.2 x38_2 p115 q115
        cases e115
        replace p115 := eq_true p115
        replace q115 := eq_true q115
        try go_wp2
        replace HO_3 := Aside0.mk (Kd.N_drew HO_3.out)
        replace HO_4 := Aside0.mk (Kd.R_drew HO_4.out)
        replace HO_6 := Aside0.mk (Kd.S_drew HO_6.out)
        replace HO_8 := Aside0.mk (Kd.R_drew HO_8.out)
        replace HO_36 := Aside0.mk (Kd.R_drew HO_36.out)
        replace BK101 := Aside0.mk (blk_drew BK101.out)
        replace HB := Aside0.mk (below_drew1 HB.out)
        have p116 : 0 ≤ (x38_2 : Int) := D_
        have q116 : x38_2 < (t109.length : Int) := D_
        obtain ⟨ad116, A116_0, c116_0, e116, hx116_0, hl116_0, hi116_0⟩ := at_ListInt (Kd.N_reads' HO_3.out).2.2 x38_2 p116 q116
        cases e116
        obtain ⟨ce116, hce116, hMe116, hcc116⟩ := Kd.N_get HO_3.out [] x38_2 p116 (by first | exact q116 | exact D_ | (have e_ := (Kd.N_reads' HO_3.out).1; omega))
        obtain ⟨ua116_0, uc116_0, rfl, ul116_0, ge116_0⟩ := Kd.FK_slice_open hMe116
        have hv116_0 := hcc116 0 _ rfl
        rw [Nat.add_zero, show ((Kd.slice 2 (Kd.int .i64))).sz = 1 from rfl, Nat.mul_one] at hv116_0
        replace hv116_0 := Option.some.inj (hv116_0.symm.trans hx116_0)
        injection hv116_0 with hva_ hvn_ hvc_
        rw [hva_] at ge116_0
        rw [hvc_] at ul116_0
        have HL116_0 := Aside0.mk (show Kd.V (Kd.int .i64) 2 _ w.heap.size _ _ (rd_ListInt t109 x38_2) from Kd.V_mk ul116_0 ge116_0)
        clear hva_ hvn_ hvc_ ge116_0 ul116_0
        clear hcc116 hce116
        have HR116_0 := Aside0.mk hi116_0
        have HC116_0 := Aside0.mk hl116_0
        clear hi116_0 hl116_0
        replace p116 := eq_true p116
        replace q116 := eq_true q116
        have p117 : 0 ≤ (x24_1 : Int) := D_
        have q117 : x24_1 < ((rd_ListInt t109 x38_2).length : Int) := D_
        obtain ⟨ad117, e117, hx117_0⟩ := Kd.at_int (KC_ HR116_0.out) x24_1 p117 q117
        cases e117
        replace p117 := eq_true p117
        replace q117 := eq_true q117
        refine start_ (n := 15) (S := fun w' => w'.cell? ⟨gb101, 0, none⟩ = some (.int .i64 a0_0) ∧ w'.cell? ⟨gb101, 1, none⟩ = some (.int .i64 a0_1) ∧ w'.cell? ⟨gb101, 2, none⟩ = some (.int .i64 a0_2) ∧ w'.cell? ⟨gb101, 3, none⟩ = some (.slice A0_3 l0_3.length c0_3) ∧ w'.cell? (ad116.add (x38_2).toNat) = some (.slice (some ad117) (rd_ListInt t109 x38_2).length c116_0) ∧ w'.cell? (ad117.add (x24_1).toNat) = some (.int .i64 (rd (rd_ListInt t109 x38_2) x24_1))) (ds := [14]) (tb_ 15 0) (by kernel_rfl) rfl rfl ⟨(blk_cell BK101.out 0).trans rfl, (blk_cell BK101.out 1).trans rfl, (blk_cell BK101.out 2).trans rfl, (blk_cell BK101.out 3).trans rfl, hx116_0, hx117_0⟩ (fun hHeld => ?_); refine with_tabW z93.tab13 z93.bits13 (fun HT_ HW_ => ?_)
        generalize wr.drew = w36 at HO_3 HO_4 HO_6 HO_8 HO_36 BK101 HB HL116_0 HR116_0 hx116_0 hx117_0 hHeld ⊢
        refine PX_ 0 43 (tb_ 15 1) HT_ rfl rfl ?_
        refine PX_ 1 44 (tb_ 15 3) HT_ rfl rfl ?_
        refine PX_ 2 45 (tb_ 15 7) HT_ rfl rfl ?_
        refine PX_ 3 46 (tb_ 15 15) HT_ rfl rfl ?_
        refine PX_ 4 47 (tb_ 15 31) HT_ rfl rfl ?_
        refine PX_ 6 49 (tb_ 15 95) HT_ rfl rfl ?_
        refine PX_ 10 53 (tb_ 15 1119) HT_ rfl rfl ?_
        refine TV_ (i := 5) (N := some 48) (tb_ 15 1151) HT_ HW_ rfl rfl hHeld (by rintro w' ⟨s0, s1, s2, s3, s4, s5⟩; go_simp; with_reducible rfl) (h := ?_)
        refine PX_ 7 50 (tb_ 15 1279) HT_ rfl rfl ?_
        refine TV_ (i := 8) (N := some 51) (tb_ 15 1535) HT_ HW_ rfl rfl hHeld (by rintro w' ⟨s0, s1, s2, s3, s4, s5⟩; go_simp; with_reducible rfl) (h := ?_)
        refine PX_ 9 52 (tb_ 15 2047) HT_ rfl rfl ?_
        refine TV_ (i := 11) (N := some 54) (tb_ 15 4095) HT_ HW_ rfl rfl hHeld (by rintro w' ⟨s0, s1, s2, s3, s4, s5⟩; go_simp; with_reducible rfl) (h := ?_)
        refine one_ (i := 12) (N := some 55) (tb_ 15 8191) rfl rfl (one_of HT_.out (by kernel_rfl)) (by decide) (fun K hK => ?_)
        refine GO_ Try.func131 #[.int .i64 (wrap64 (-(rd (rd_ListInt t109 x38_2) x24_1))), .int .i64 a0_0] (h := ?_)
        with_reducible refine (z131.calls (wrap64 (-(rd (rd_ListInt t109 x38_2) x24_1))) a0_0 t118 _ A32.out).mono ?_
        rintro e w' ⟨rfl, ⟨nd, rfl⟩⟩
        refine ⟨_, rfl, ?_⟩
        have p35 : 0 ≤ ((rd x4_1 x38_2) : Int) := D_
        have q35 : ((rd x4_1 x38_2) : Int) < ((x8_2.length : Int) : Int) := D_
        obtain ⟨hx35_0, hf35_0⟩ := Kd.R_celln 0 HO_8.out ((rd x4_1 x38_2) : Int) p35 q35
        replace p35 := eq_true p35
        replace q35 := eq_true q35
        have HP37 := Kd.R_putn HO_8.out ((rd x4_1 x38_2) : Int) t118
        rw [← Ny119.out] at HP37
        have HQ37 := Aside0.mk HP37
        clear HP37
        refine hK.out _ _ ⟨(blk_cell BK101.out 0).trans rfl, (blk_cell BK101.out 1).trans rfl, (blk_cell BK101.out 2).trans rfl, (blk_cell BK101.out 3).trans rfl, hHeld.2.2.2.2.1, hHeld.2.2.2.2.2⟩ (fun hHeld => ?_)
        clear hK K
        refine NM_ (N := (some 55)) (h := ?_)
        refine PX_ 13 56 (tb_ 15 16383) HT_ rfl rfl ?_
        refine last_ (i := 14) (N := none) (tb_ 15 32767) rfl rfl (one_of HT_.out (by kernel_rfl)) (by decide) (fun K hK => ?_)
        refine skip_ (w1 := ?_) (by rfl) rfl ?_ ?_
        rotate_left
        ·go_simp
         rfl
        refine hK.out _ _ ?_
        clear hK K
        refine done_ (done_of HT_.out (by kernel_rfl)) ?_
        try go_wp2
        (try simp only [← hl8_2])
        go_roundg k2
        case measure => exact Q2_ HK1 HK2
        case rel => exact ⟨(y119), (wrap64 (x38_2 + 1)), E_, H', ⟨Q2_ HK1 HK2⟩, ⟨by (try simp only [hl3_1]); (try simp only [hl8_2]); (with_reducible repeat (first | apply Kd.N_alloc | apply Kd.N_drewN | apply Kd.N_drew)); exact Kd.N_mono (Kd.N_far (p := ⟨go19, ((rd x4_1 x38_2) : Int).toNat, none⟩) (Kd.N_mono HO_3.out (fun k_ hk => (⟨hk, fun e_ => hk.2.1 (by rw [e_]; rfl)⟩ : _ ∧ k_ ≠ go19))) (fun _ hk => hk.2) (.int .i64 t118)) (fun _ hk => ⟨hk.1.1, ⟨hk.1.2.1, hk.1.2.2⟩⟩)⟩, ⟨by (try simp only [hl3_1]); (try simp only [hl8_2]); (with_reducible repeat (first | apply Kd.R_alloc | apply Kd.R_drewN | apply Kd.R_drew)); exact Kd.R_mono (Kd.R_far (p := ⟨go19, ((rd x4_1 x38_2) : Int).toNat, none⟩) (Kd.R_mono HO_4.out (fun k_ hk => (⟨hk, fun e_ => hk (by rw [e_]; rfl)⟩ : _ ∧ k_ ≠ go19))) (fun _ hk => hk.2) (.int .i64 t118)) (fun _ hk => hk.1)⟩, ⟨by (try simp only [hl3_1]); (try simp only [hl8_2]); (with_reducible repeat (first | apply Kd.S_alloc | apply Kd.S_drewN | apply Kd.S_drew)); exact Kd.S_mono (Kd.S_far (p := ⟨go19, ((rd x4_1 x38_2) : Int).toNat, none⟩) (Kd.S_mono HO_6.out (fun k_ hk => (⟨hk, fun e_ => hk.2.2.1 (by rw [e_]; rfl)⟩ : _ ∧ k_ ≠ go19))) (fun _ hk => hk.2) (.int .i64 t118)) (fun _ hk => ⟨hk.1.1, ⟨hk.1.2.1, ⟨hk.1.2.2.1, hk.1.2.2.2⟩⟩⟩)⟩, ⟨by (try simp only [hl3_1]); (try simp only [hl8_2]); (with_reducible repeat (first | apply Kd.R_alloc | apply Kd.R_drewN | apply Kd.R_drew)); exact HQ37.out⟩, ⟨by (try simp only [hl3_1]); (try simp only [hl8_2]); (with_reducible repeat (first | apply Kd.R_alloc | apply Kd.R_drewN | apply Kd.R_drew)); exact Kd.R_mono (Kd.R_far (p := ⟨go19, ((rd x4_1 x38_2) : Int).toNat, none⟩) (Kd.R_mono HO_36.out (fun k_ hk => (⟨hk, fun e_ => hk (by rw [e_]; rfl)⟩ : _ ∧ k_ ≠ go19))) (fun _ hk => hk.2) (.int .i64 t118)) (fun _ hk => hk.1)⟩, ⟨by (try simp only [hl3_1]); (try simp only [hl8_2]); (with_reducible repeat (first | refine blk_drewN ?_ _ | refine blk_drew ?_ | refine blk_alloc ?_ _)); refine blk_far ?_ (by have h_ := Kd.R_ne HO_8.out BK101.out (by decide); intro e_; exact h_ (by rw [e_]; rfl)) _; (with_reducible repeat (first | refine blk_drewN ?_ _ | refine blk_drew ?_ | refine blk_alloc ?_ _)); exact BK101.out⟩, ⟨B2_ HB.out GB19.out GE101.out⟩⟩
       ·rw [if_neg c26] at H
        have c26b0 : decide (x38_2 < (x4_1.length : Int)) = false := decide_eq_false c26
        (try rw [hl3_1] at c26b0)
        (try rw [hl8_2] at c26b0)
        clear c26
        have c38 := O1_ H
        replace H := O2_ H
        have LMc38 := Aside0.mk c38
        clear c38
        obtain ⟨y120, hy120⟩ : ∃ y_ : List (List Int), y_ = (x6_1 ++ [x8_2]) := ⟨_, rfl⟩
        replace H : (z93.l0 k2 t109 x4_1 y120 a0_2 (wrap64 (x24_1 + 1)) a0_0 a0_1 a0_2 l0_3) = some r := Y_ hy120 H
        have Ny120 := Aside0.mk hy120
        clear hy120
        have H' := Aside0.mk H
        clear H
        go_wp2_with (first | ((with_reducible refine gate_builtin (b := .append) (xs := #[.tmp 58, .tmp 60]) rfl ?_); at_builtin; refine Kd.S_append (Kd.slice 2 (Kd.int .i64)) (w0 := w) w.heap.size rfl (.tmp 58) (.tmp 60) 22 25 (.slice none 0 0) 24 rfl Try.underlying22 info25 rfl (by decide) (by omega) u6 x6_1 x8_2 [.slice (some ⟨go19, 0, none⟩) x8_2.length co19] (fun k_ => some k_ ≠ (.slice Ao8 t109.length co8 : Value).ownBlock ∧ some k_ ≠ (.slice Ao20 x4_1.length co20 : Value).ownBlock ∧ some k_ ≠ (.slice Ao20 x4_1.length co20 : Value).ownBlock) (fun k_ => some k_ = (.slice (some ⟨go19, 0, none⟩) x8_2.length co19 : Value).ownBlock) rfl rfl ?aP (fun k_ hk_ => ((Kd.R_mono (ok' := fun k_ => ((fun k_ => some k_ ≠ (.slice Ao8 t109.length co8 : Value).ownBlock ∧ some k_ ≠ (.slice Ao20 x4_1.length co20 : Value).ownBlock ∧ some k_ ≠ (.slice Ao20 x4_1.length co20 : Value).ownBlock)) k_ ∧ some k_ ≠ (u6 : Value).ownBlock) (Kd.R_apart' (Kd.R_apart' (HO_8.out) (Kd.N_typed HO_3.out) (by decide)) (Kd.S_typed HO_6.out) (by decide)) (fun k_ hk => ⟨⟨hk.1.2, ⟨hk.1.1.1, hk.1.1.2⟩⟩, hk.2⟩))).1 k_ hk_.symm) ?aF ?aO ?aB ?aS ?aL ?_; (case aP => exact Kd.M_row (Kd.R_mono (Kd.R_tight rfl (Kd.R_mono (ok' := fun k_ => ((fun k_ => some k_ ≠ (.slice Ao8 t109.length co8 : Value).ownBlock ∧ some k_ ≠ (.slice Ao20 x4_1.length co20 : Value).ownBlock ∧ some k_ ≠ (.slice Ao20 x4_1.length co20 : Value).ownBlock)) k_ ∧ some k_ ≠ (u6 : Value).ownBlock) (Kd.R_apart' (Kd.R_apart' (HO_8.out) (Kd.N_typed HO_3.out) (by decide)) (Kd.S_typed HO_6.out) (by decide)) (fun k_ hk => ⟨⟨hk.1.2, ⟨hk.1.1.1, hk.1.1.2⟩⟩, hk.2⟩))) (fun _ h_ => h_))); (case aB => exact (B1_ HB.out GE101.out)); (case aF => exact (fun k_ hk => ⟨Kd.fresh' (Kd.N_lt (KN_ HO_3.out)) k_ hk, Kd.fresh' (Kd.R_lt (KR_ HO_4.out)) k_ hk, Kd.fresh' (Kd.R_lt (KR_ HO_36.out)) k_ hk⟩)); (case aO => exact (by (with_reducible repeat (first | apply Kd.S_alloc | apply Kd.S_drewN | apply Kd.S_drew)); exact Kd.S_mono HO_6.out (fun k_ hk => ⟨⟨hk.1, ⟨hk.2.1, hk.2.2.2⟩⟩, fun e_ => hk.2.2.1 e_⟩))); (case aS => exact (below_size (B1_ HB.out GE101.out))); (case aL => have := LMc38.out; omega); intro v121 w39 ho hb hg hat; rw [← Ny120.out] at ho; replace HO_3 := Aside0.mk (Kd.N_afterv (ok := (fun k_ => some k_ ≠ (.slice (some ⟨go19, 0, none⟩) x8_2.length co19 : Value).ownBlock ∧ k_ ≠ gb101)) (by (with_reducible repeat (first | apply Kd.N_alloc | apply Kd.N_drewN | apply Kd.N_drew)); exact Kd.N_mono HO_3.out (fun _ hk => ⟨⟨hk.2.1, hk.2.2⟩, hk.1⟩)) hg hat); replace HO_4 := Aside0.mk (Kd.R_over' (KR_ HO_4.out) (Kd.S_typed (KS_ HO_6.out)) (by decide) hg); replace HO_36 := Aside0.mk (Kd.R_over' (KR_ HO_36.out) (Kd.S_typed (KS_ HO_6.out)) (by decide) hg); replace BK101 := Aside0.mk (blk_grown (g := gb101) (o := .cells #[.int .i64 a0_0, .int .i64 a0_1, .int .i64 a0_2, .slice A0_3 l0_3.length c0_3] 59 (0, 0)) (KB_ BK101.out) hg (Kd.S_ne HO_6.out BK101.out (by decide))); replace HB := Aside0.mk (hb); have HO122 := Aside0.mk (ho); clear HO_6; clear HO_8; clear ho hb hg hat))
        (try simp only [← hl3_1, ← hl8_2])
        go_roundg k2
        case measure => exact Q2_ HK1 HK2
        case rel => exact ⟨(x4_1), (y120), (wrap64 (x24_1 + 1)), E_, H', ⟨Q2_ HK1 HK2⟩, ⟨by (try simp only [hl3_1]); (try simp only [hl8_2]); (with_reducible repeat (first | apply Kd.N_alloc | apply Kd.N_drewN | apply Kd.N_drew)); exact Kd.N_mono HO_3.out (fun _ hk => ⟨hk.2, hk.1.2⟩)⟩, ⟨by (try simp only [hl3_1]); (try simp only [hl8_2]); (with_reducible repeat (first | apply Kd.R_alloc | apply Kd.R_drewN | apply Kd.R_drew)); exact Kd.R_mono HO_4.out (fun _ hk => trivial)⟩, ⟨by (try simp only [hl3_1]); (try simp only [hl8_2]); (with_reducible repeat (first | apply Kd.S_alloc | apply Kd.S_drewN | apply Kd.S_drew)); exact Kd.S_mono HO122.out (fun _ hk => ⟨hk.1, hk.2.1⟩)⟩, ⟨by (try simp only [hl3_1]); (try simp only [hl8_2]); (with_reducible repeat (first | refine blk_drewN ?_ _ | refine blk_drew ?_ | refine blk_alloc ?_ _)); exact BK101.out⟩, ⟨B1_ HB.out GE101.out⟩⟩
   ·rw [if_neg c11] at H
    have c11b0 : decide (x24_1 < a0_2) = false := decide_eq_false c11
    (try rw [hl3_1] at c11b0)
    clear c11
    obtain rfl := Option.some.inj H
    go_wp2
    go_ret
    exact ⟨_, F_, by (with_reducible repeat (first | apply Kd.S_alloc | apply Kd.S_drewN | apply Kd.S_drew)); exact Kd.S_mono HO_6.out (fun _ hk => trivial), B1_ HB.out GE101.out⟩
end Go.Proofs.Ytabfflgoaalapaa.B
