/- Printed proofs of functions of the program and of the reference, by a program of this work over the kit's printer. -/
import Derived.Test.YtagefgkneandpaaKAKMGAK0
import Derived.Test.YtagefgkneandpaaKHEDLFP0
import Derived.Test.YtagefgkneandpaaKHJMDKI0
import Derived.Test.YtagefgkneandpaaKHPILOM0
import Derived.Test.YtagefgkneandpaaKJCGAFM0
import Derived.Test.YtagefgkneandpaaKJOPMEJ0
import Derived.Test.YtagefgkneandpaaKKDAHJJ0
import Derived.Test.YtagefgkneandpaaKW0
namespace Go.Proofs.Ytagefgkneandpaa.B
open Go.RowKit Go.Proofs.YtagefgkneandpaaW.PrintWords Go.Proofs.YtagefgkneandpaaW.PrintLast Go.Proofs.YtagefgkneandpaaW.PrintMore
attribute [local go_sem] max2_int min2_int max_two min_two max_three min_three max_four min_four
set_option linter.unusedVariables false
set_option linter.unusedSimpArgs false
mutual
def z3.j0 : Nat → List Int → List Int → Bool → Option (Bool)
 | 0, _, _, _ => none
 | k + 1, x0, x1, x30 => if x30 = true then (some true) else ((z7.f k x0).bind fun bt103 => ((z8.f k bt103.1 bt103.2.1 bt103.2.2.1 bt103.2.2.2).bind fun bt110 => (if bt110.2 = 0 then (z3.l0 k x1 bt103.2.2.1 bt103.2.2.2 bt110.1 0 0 bt103.1 bt103.2.1) else (z3.j3 k x1))))
def z3.j3 : Nat → List Int → Option (Bool)
 | 0, _ => none
 | k + 1, x1 => (z10.f k x1).bind fun bt116 => ((z11.f k bt116.1 bt116.2.1 bt116.2.2).bind fun bt124 => (if bt124.2 = 0 then ((z11.f k bt116.1 bt116.2.1 bt124.1).bind fun bt128 => ((z12.f k bt116.1 bt116.2.1).bind fun bt132 => ((z13.f k bt116.1 bt116.2.1).bind fun bt134 => (if bt128.2 = 0 then ((z14.f k bt128.1 bt124.1).bind fun t138 => (if t138 = true then (if bt132.2 = 0 then (if bt132.1 < (wrap64 (bt116.1 + 1)) then (z3.j4 k bt116.2.2 bt124.1 true) else (if bt134.2 = 0 then (z3.j4 k bt116.2.2 bt124.1 (((bt134.1.length : Int) == 0) != (bt116.1 == 0))) else (z3.j4 k bt116.2.2 bt124.1 true))) else (z3.j4 k bt116.2.2 bt124.1 true)) else (z3.j4 k bt116.2.2 bt124.1 true))) else (z3.j4 k bt116.2.2 bt124.1 true))))) else (some ((bt124.1.length : Int) == 0))))
def z3.j4 : Nat → List Int → List Int → Bool → Option (Bool)
 | 0, _, _, _ => none
 | k + 1, x15, x16, x157 => if x157 = true then (some false) else (z3.l1 k x15 x16 0)
def z3.l1 : Nat → List Int → List Int → Int → Option (Bool)
 | 0, _, _, _ => none
 | k + 1, x15, x16, x24 => if x24 < (x15.length : Int) then (if 0 ≤ x24 then ((z15.f k x16 (rd x15 x24)).bind fun t140 => (if t140 = true then (z3.l1 k x15 x16 (wrap64 (x24 + 1))) else (some false))) else (none)) else (some true)
def z3.l0 : Nat → List Int → Int → Int → Int → Int → Int → Int → List (List Int) → Option (Bool)
 | 0, _, _, _, _, _, _, _, _ => none
 | k + 1, x1, x6, x7, x8, x10, x11, x110000, x110001 => if x11 < x110000 then ((z9.f k x110000 x110001 x6 x11).bind fun t112 => (if t112 = true then ((z9.f k x110000 x110001 x11 x7).bind fun t113 => (z3.j2 k x1 x6 x7 x8 x10 x11 t113 x110000 x110001)) else (z3.j2 k x1 x6 x7 x8 x10 x11 false x110000 x110001))) else (if x6 = x7 then (if x10 = 1 then (if x8 = 1 then (z3.j3 k x1) else (some false)) else (some false)) else (if x10 = 0 then (z3.j3 k x1) else (some false)))
def z3.j2 : Nat → List Int → Int → Int → Int → Int → Int → Bool → Int → List (List Int) → Option (Bool)
 | 0, _, _, _, _, _, _, _, _, _ => none
 | k + 1, x1, x6, x7, x8, x10, x11, x61, x110000, x110001 => if x61 = true then ((z8.f k x110000 x110001 x6 x11).bind fun bt114 => (if bt114.2 = 0 then (z3.l0 k x1 x6 x7 x8 (wrap64 (x10 + bt114.1)) (wrap64 (x11 + 1)) x110000 x110001) else (some false))) else (z3.l0 k x1 x6 x7 x8 x10 (wrap64 (x11 + 1)) x110000 x110001)
end
def z3.f (k : Nat) (l0 : List Int) (l1 : List Int) : Option (Bool) := (z6.f l0).bind fun t101 => (if t101 = true then (z3.j0 k l0 l1 true) else ((z6.f l1).bind fun t102 => (z3.j0 k l0 l1 t102)))
set_option maxHeartbeats 8000000 in
set_option maxRecDepth 100000 in
theorem z3.calls (k : Nat) (A0 : Option Addr) (c0 : Nat) (l0 : List Int) (A1 : Option Addr) (c1 : Nat) (l1 : List Int) (r : Bool) (w : World) (hr0 : Kd.C (Kd.int .u8) w A0 l0.length l0) (hc0 : l0.length ≤ c0) (hr1 : Kd.C (Kd.int .u8) w A1 l1.length l1) (hc1 : l1.length ≤ c1) (h : z3.f k l0 l1 = some r) (ht_ : r = true) :
  Calls Try.prog 3 #[.slice A0 l0.length c0, .slice A1 l1.length c1] w fun e w' => e = .returned (.bool r) ∧ Below w.heap.size w w' := by
 have hu26 := Try.underlying26
 have HR0 := Aside0.mk hr0
 have HC0 := Aside0.mk hc0
 clear hr0 hc0
 have HR1 := Aside0.mk hr1
 have HC1 := Aside0.mk hc1
 clear hr1 hc1
 have HB := Aside0.mk (Below.refl w.heap.size w)
 have H : ((z6.f l0).bind fun t101 => (if t101 = true then (z3.j0 k l0 l1 true) else ((z6.f l1).bind fun t102 => (z3.j0 k l0 l1 t102)))) = some r := h
 clear h
 have HC3 := Aside0.mk H
 clear H
 go_enter Try.func3, Try.ntmps3
 go_upto_region 1 with (fail)
 go_cut [30] (fun v30 wc => ∃ (kq : Nat) (x30_2 : Bool), v30 = .bool x30_2 ∧ Aside0 (z3.j0 kq l0 l1 x30_2 = some r) ∧ Aside0 (kq ≤ k) ∧ Aside0 (Below w.heap.size w wc))
 case first =>
  have H := HC3.out
  clear HC3
  replace H := Option.bind_eq_some_iff.mp H
  obtain ⟨t101, A40, H⟩ := H
  have A4 := Aside0.mk A40
  clear A40
  by_cases c5 : t101 = true
  ·subst c5
   replace H := T_ H
   have H' := Aside0.mk H
   clear H
   go_wp2_with (first | ((with_reducible refine gate_callee (f := 6) rfl ?_); refine goesL_ (some 26) rfl rfl Try.func6 (by kernel_rfl) rfl #[.slice A0 l0.length c0] rfl (by (try simp only [List.map_toArray, List.map_cons, List.map_nil]); first | done | rfl | (simp only [List.length_drop, List.length_take]; rfl)) ?_; (with_reducible refine (z6.calls _ _ l0 true _ ?side1 ?side2 A4.out).mono ?_); (case side1 => exact KC_ (Kd.C_below HR0.out HB.out)); (case side2 => exact HC0.out); rintro e w' ⟨rfl, ⟨nd, rfl⟩⟩; refine ⟨_, rfl, ?_⟩))
   go_meet
   case rel => exact ⟨_, (true), E_, H', ⟨by first | omega | exact Nat.le_refl _⟩, ⟨B_ HB.out⟩⟩
  ·replace c5 := Bool.eq_false_iff.mpr c5
   subst c5
   replace H := N_ H
   replace H := Option.bind_eq_some_iff.mp H
   obtain ⟨t102, A60, H⟩ := H
   have A6 := Aside0.mk A60
   clear A60
   have H' := Aside0.mk H
   clear H
   go_wp2_with (first | ((with_reducible refine gate_callee (f := 6) rfl ?_); refine goesL_ (some 26) rfl rfl Try.func6 (by kernel_rfl) rfl #[.slice A0 l0.length c0] rfl (by (try simp only [List.map_toArray, List.map_cons, List.map_nil]); first | done | rfl | (simp only [List.length_drop, List.length_take]; rfl)) ?_; (with_reducible refine (z6.calls _ _ l0 false _ ?side1 ?side2 A4.out).mono ?_); (case side1 => exact KC_ (Kd.C_below HR0.out HB.out)); (case side2 => exact HC0.out); rintro e w' ⟨rfl, ⟨nd, rfl⟩⟩; refine ⟨_, rfl, ?_⟩) | (go_at_call 6; (with_reducible refine (z6.calls _ _ l1 t102 _ ?side1 ?side2 A6.out).mono ?_); (case side1 => repeat (first | exact (Kd.C_below HR1.out (B_ HB.out)) | (with_reducible refine Kd.C_alloc ?_ _) | (with_reducible refine Kd.C_drewN ?_ _) | (with_reducible refine Kd.C_drew ?_))); (case side2 => exact HC1.out); rintro e w' ⟨rfl, ⟨nd, rfl⟩⟩))
   go_meet
   case rel => exact ⟨_, (t102), E_, H', ⟨by first | omega | exact Nat.le_refl _⟩, ⟨B_ HB.out⟩⟩
 case rest =>
  clear HC3
  (try clear c1);(try clear p2);(try clear c3);(try clear c5);(try clear c6)
  obtain ⟨kq, x30_2, rfl, HA, HJ2, HB⟩ := hcut
  cases kq with
  | zero => exact absurd HA.out (by simp [z3.j0])
  | succ kj2 =>
   have H := HA.out
   clear HA
   simp only [z3.j0] at H
   by_cases c7 : x30_2 = true
   ·subst c7
    replace H := T_ H
    obtain rfl := Option.some.inj H
    go_wp2
    go_ret
    exact ⟨F_, B_ HB.out⟩
   ·replace c7 := Bool.eq_false_iff.mpr c7
    subst c7
    replace H := N_ H
    replace H := Option.bind_eq_some_iff.mp H
    obtain ⟨⟨t103, t104, t107, t108⟩, A80, H⟩ := H
    try dsimp only at H
    have A8 := Aside0.mk A80
    clear A80
    replace H := Option.bind_eq_some_iff.mp H
    obtain ⟨⟨t110, t111⟩, A90, H⟩ := H
    try dsimp only at H
    have A9 := Aside0.mk A90
    clear A90
    have HC10 := Aside0.mk H
    clear H
    go_upto_if 45 with (first | ((with_reducible refine gate_callee (f := 7) rfl ?_); refine goesL_ (some 33) rfl rfl Try.func7 (by kernel_rfl) rfl #[.slice A0 l0.length c0] rfl (by (try simp only [List.map_toArray, List.map_cons, List.map_nil]); first | done | rfl | (simp only [List.length_drop, List.length_take]; rfl)) ?_; (with_reducible refine (z7.calls kj2 _ _ l0 t103 t104 t107 t108 _ ?side1 ?side2 A8.out).mono ?_); (case side1 => exact KC_ (Kd.C_below HR0.out HB.out)); (case side2 => exact HC0.out); rintro e w11 ⟨v105, rfl, ho0, hb⟩; refine ⟨_, rfl, ?_⟩; have HO106 := Aside0.mk (Kd.N_lower (Kd.N_mono (ok' := fun k_ => True) ho0 (fun k_ hk_ => trivial)) (below_size (B_ HB.out))); replace HB := Aside0.mk (below_step (B_ HB.out) hb); (try clear hb); (try clear hb2); (try clear hk); (try clear hi); (try clear ho0)) | ((with_reducible refine gate_dst (N := 5) rfl ?_); (try (refine gate_guard (by rfl) ?_; dsimp only)); refine box_event ?hg (N := 5) ?hd (cs := #[.int .i64 0, .slice none 0 0]) (t := 26) ?hr ?_; (case hd => rfl); (case hg => rfl); (case hr => first | (go_simp; done) | (go_simp; rfl)); intro gb109 hg w12 hbox hb; have n0_ := Aside0.mk (Kd.N_below (Kd.N_elderB (KN_ HO106.out) gb109 (Nat.le_of_eq hg.symm)) hb); have n1_ := Aside0.mk (below_step (B_ HB.out) hb); have n2_ := Aside0.mk (hbox); have n3_ := Aside0.mk ((by rw [hg]; exact (below_size (B_ HB.out)) : w.heap.size ≤ gb109)); have n4_ := Aside0.mk ((by rw [hg]; exact (below_size (B_ HB.out)) : w.heap.size ≤ gb109)); clear HO106; clear HB; have HO106 := n0_; have HB := n1_; have BK109 := n2_; have GW109 := n3_; have GE109 := n4_; clear n0_ n1_ n2_ n3_ n4_; clear hb hbox hg; have hcz13_0 : w12.cell? ⟨gb109, 0, none⟩ = some (.int .i64 0) := (blk_cell BK109.out 0).trans rfl; have hcz13_1 : w12.cell? ⟨gb109, 1, none⟩ = some (.slice none 0 0) := (blk_cell BK109.out 1).trans rfl; have hfz13_0 := blk_frozen BK109.out 0; have hfz13_1 := blk_frozen BK109.out 1; obtain ⟨Ao14, co14, eo14⟩ := Kd.N_slice HO106.out; subst eo14) | ((with_reducible refine gate_callee (f := 8) rfl ?_); refine goesL_ (some 41) rfl rfl Try.func8 (by kernel_rfl) rfl #[.agg #[.int .i64 t103, .slice Ao14 t104.length co14], .int .i64 t107, .int .i64 t108] rfl (by (try simp only [List.map_toArray, List.map_cons, List.map_nil]); first | done | rfl | (simp only [List.length_drop, List.length_take]; rfl)) ?_; (with_reducible refine (z8.calls kj2 t103 _ _ t104 t107 t108 t110 t111 _ ?side1 ?side2 A9.out).mono ?_); (case side1 => refine (Kd.N_reads' (e := 32) (base := w.heap.size) (ok := fun k_ => (True ∧ k_ ≠ gb109)) (n := t104.length) (c := co14) ?_).2.2; exact (by (with_reducible repeat (first | apply Kd.N_alloc | apply Kd.N_drewN | apply Kd.N_drew)); exact (Kd.N_mono (Kd.N_far (p := ⟨gb109, 1, none⟩) (Kd.N_far (p := ⟨gb109, 0, none⟩) (Kd.N_mono HO106.out (fun k_ hk => (⟨hk, hk.2⟩ : _ ∧ k_ ≠ gb109))) (fun _ hk => hk.2) (.int .i64 t103)) (fun _ hk => hk.2) (.slice Ao14 t104.length co14)) (fun _ h_ => h_.1)))); (case side2 => exact (Kd.N_reads' HO106.out).2.1); rintro e w15 ⟨rfl, hb⟩; refine ⟨_, rfl, ?_⟩; replace HO106 := Aside0.mk (Kd.N_below (by (with_reducible repeat (first | apply Kd.N_alloc | apply Kd.N_drewN | apply Kd.N_drew)); exact (Kd.N_mono (Kd.N_far (p := ⟨gb109, 1, none⟩) (Kd.N_far (p := ⟨gb109, 0, none⟩) (Kd.N_mono HO106.out (fun k_ hk => (⟨hk, hk.2⟩ : _ ∧ k_ ≠ gb109))) (fun _ hk => hk.2) (.int .i64 t103)) (fun _ hk => hk.2) (.slice Ao14 t104.length co14)) (fun _ h_ => h_.1))) hb); replace BK109 := Aside0.mk (blk_below (g := gb109) (o := .cells #[.int .i64 t103, .slice Ao14 t104.length co14] 26 (0, 0)) (by (with_reducible repeat (first | refine blk_drewN ?_ _ | refine blk_drew ?_ | refine blk_alloc ?_ _)); refine blk_put (cs := #[.int .i64 t103, .slice none 0 0]) ?_ 1 _ rfl; (with_reducible repeat (first | refine blk_drewN ?_ _ | refine blk_drew ?_ | refine blk_alloc ?_ _)); refine blk_put (cs := #[.int .i64 0, .slice none 0 0]) ?_ 0 _ rfl; (with_reducible repeat (first | refine blk_drewN ?_ _ | refine blk_drew ?_ | refine blk_alloc ?_ _)); exact BK109.out) hb); replace HB := Aside0.mk (below_step (B1_ HB.out GE109.out) hb); (try clear hb); (try clear hb2); (try clear hk); (try clear hi)))
    (try simp only [Act.put, List.setIfInBounds_toArray, List.set_cons_zero, List.set_cons_succ])
    go_cut [] (fun wc => ∃ (kq : Nat), Aside0 (z3.j3 kq l1 = some r) ∧ Aside0 (kq ≤ kj2) ∧ Aside0 (Kd.N (Kd.slice 2 (Kd.int .i64)) 32 wc w.heap.size (fun k_ => k_ ≠ gb109) (.slice Ao14 t104.length co14) t104) ∧ Aside0 (wc.heap[gb109]? = some (.cells #[.int .i64 t103, (.slice Ao14 t104.length co14)] 26 (0, 0))) ∧ Aside0 (Below w.heap.size w wc))
    case first =>
     have H := HC10.out
     clear HC10
     by_cases c16 : t111 = 0
     ·rw [if_pos c16] at H
      have c16b0 : (t111 == 0) = true := beq_iff_eq.mpr c16
      have c16b1 : (t111 != 0) = false := bne_eq_false_iff_eq.mpr c16
      clear c16
      (first | rw [c16b0] | (simp only [i64_w, i32_w]; rw [c16b0]) | skip)
      have H' := Aside0.mk H
      clear H
      go_wp2
      go_loopg [10, 11] kj2 (fun kq v10 v11 w' => ∃ (x10_2 : Int) (x11_2 : Int), v10 = .int .i64 x10_2 ∧ v11 = .int .i64 x11_2 ∧ Aside0 (z3.l0 kq l1 t107 t108 t110 x10_2 x11_2 t103 t104 = some r) ∧ Aside0 (kq ≤ kj2) ∧ Aside0 (Kd.N (Kd.slice 2 (Kd.int .i64)) 32 w' w.heap.size (fun k_ => k_ ≠ gb109) (.slice Ao14 t104.length co14) t104) ∧ Aside0 (w'.heap[gb109]? = some (.cells #[.int .i64 t103, (.slice Ao14 t104.length co14)] 26 (0, 0))) ∧ Aside0 (Below w.heap.size w w'))
      case atStart => exact ⟨(0), (0), E_, E_, H', ⟨Nat.le_refl _⟩, ⟨by (with_reducible repeat (first | apply Kd.N_alloc | apply Kd.N_drewN | apply Kd.N_drew)); exact Kd.N_mono HO106.out (fun _ hk => hk.2)⟩, ⟨KB_ BK109.out⟩, ⟨B1_ HB.out GE109.out⟩⟩
      case round =>
       clear H'
       (try clear c1);(try clear p2);(try clear c3);(try clear c5);(try clear c6);(try clear c7);(try clear c8);(try clear c16);(try clear c16b0);(try clear c16b1);(try clear hcz13_0);(try clear hcz13_1);(try clear hfz13_0);(try clear hfz13_1);(try clear p2)
       obtain ⟨x10_2, x11_2, rfl, rfl, HA, HK2, HO_110001, BK109, HB⟩ := hrel
       cases gk with
       | zero => exact absurd HA.out (by simp [z3.l0])
       | succ k2 =>
        have H := HA.out
        clear HA
        simp only [z3.l0] at H
        by_cases c17 : x11_2 < t103
        ·rw [if_pos c17] at H
         have c17b0 : decide (x11_2 < t103) = true := decide_eq_true c17
         clear c17
         have HC18 := Aside0.mk H
         clear H
         have hcz19_0 : wr.cell? ⟨gb109, 0, none⟩ = some (.int .i64 t103) := (blk_cell BK109.out 0).trans rfl
         have hcz19_1 : wr.cell? ⟨gb109, 1, none⟩ = some (.slice Ao14 t104.length co14) := (blk_cell BK109.out 1).trans rfl
         have hfz19_0 := blk_frozen BK109.out 0
         have hfz19_1 := blk_frozen BK109.out 1
         go_upto_region 10 with (fail)
         go_cut [61] (fun v61 wc => ∃ (kq : Nat) (x61_17 : Bool), v61 = .bool x61_17 ∧ Aside0 (z3.j2 kq l1 t107 t108 t110 x10_2 x11_2 x61_17 t103 t104 = some r) ∧ Aside0 (kq ≤ k2) ∧ Aside0 (Kd.N (Kd.slice 2 (Kd.int .i64)) 32 wc w.heap.size (fun k_ => k_ ≠ gb109) (.slice Ao14 t104.length co14) t104) ∧ Aside0 (wc.heap[gb109]? = some (.cells #[.int .i64 t103, (.slice Ao14 t104.length co14)] 26 (0, 0))) ∧ Aside0 (Below w.heap.size w wc))
         case first =>
          have H := HC18.out
          clear HC18
          replace H := Option.bind_eq_some_iff.mp H
          obtain ⟨t112, A200, H⟩ := H
          have A20 := Aside0.mk A200
          clear A200
          by_cases c21 : t112 = true
          ·subst c21
           replace H := T_ H
           replace H := Option.bind_eq_some_iff.mp H
           obtain ⟨t113, A220, H⟩ := H
           have A22 := Aside0.mk A220
           clear A220
           have H' := Aside0.mk H
           clear H
           have hcz23_0 : wr.cell? ⟨gb109, 0, none⟩ = some (.int .i64 t103) := (blk_cell BK109.out 0).trans rfl
           have hcz23_1 : wr.cell? ⟨gb109, 1, none⟩ = some (.slice Ao14 t104.length co14) := (blk_cell BK109.out 1).trans rfl
           have hfz23_0 := blk_frozen BK109.out 0
           have hfz23_1 := blk_frozen BK109.out 1
           go_wp2_with (first | ((with_reducible refine gate_callee (f := 9) rfl ?_); refine goesL_ (some 55) rfl rfl Try.func9 (by kernel_rfl) rfl #[.agg #[.int .i64 t103, .slice Ao14 t104.length co14], .int .i64 t107, .int .i64 x11_2] rfl (by (try simp only [List.map_toArray, List.map_cons, List.map_nil]); first | done | rfl | (simp only [List.length_drop, List.length_take]; rfl)) ?_; (with_reducible refine (z9.calls k2 t103 _ _ t104 t107 x11_2 true _ ?side1 ?side2 A20.out).mono ?_); (case side1 => exact KC_ (Kd.N_reads' HO_110001.out).2.2); (case side2 => exact (Kd.N_reads' HO_110001.out).2.1); rintro e w24 ⟨rfl, hb⟩; refine ⟨_, rfl, ?_⟩; replace HO_110001 := Aside0.mk (Kd.N_below (KN_ HO_110001.out) hb); replace BK109 := Aside0.mk (blk_below (g := gb109) (o := .cells #[.int .i64 t103, .slice Ao14 t104.length co14] 26 (0, 0)) (KB_ BK109.out) hb); replace HB := Aside0.mk (below_step (B1_ HB.out GE109.out) hb); (try clear hb); (try clear hb2); (try clear hk); (try clear hi); have hcz25_0 : w24.cell? ⟨gb109, 0, none⟩ = some (.int .i64 t103) := (blk_cell BK109.out 0).trans rfl; have hcz25_1 : w24.cell? ⟨gb109, 1, none⟩ = some (.slice Ao14 t104.length co14) := (blk_cell BK109.out 1).trans rfl; have hfz25_0 := blk_frozen BK109.out 0; have hfz25_1 := blk_frozen BK109.out 1) | (go_at_call 9; (with_reducible refine (z9.calls k2 t103 _ _ t104 x11_2 t108 t113 _ ?side1 ?side2 A22.out).mono ?_); (case side1 => exact KC_ (Kd.N_reads' HO_110001.out).2.2); (case side2 => exact (Kd.N_reads' HO_110001.out).2.1); rintro e w26 ⟨rfl, hb⟩; replace HO_110001 := Aside0.mk (Kd.N_below (KN_ HO_110001.out) hb); replace BK109 := Aside0.mk (blk_below (g := gb109) (o := .cells #[.int .i64 t103, .slice Ao14 t104.length co14] 26 (0, 0)) (KB_ BK109.out) hb); replace HB := Aside0.mk (below_step (B1_ HB.out GE109.out) hb); (try clear hb); (try clear hb2); (try clear hk); (try clear hi)))
           go_meet
           case rel => exact ⟨_, (t113), E_, H', ⟨by have := HJ2.out; have := HK2.out; first | omega | exact Nat.le_refl _⟩, ⟨KN_ HO_110001.out⟩, ⟨KB_ BK109.out⟩, ⟨B1_ HB.out GE109.out⟩⟩
          ·replace c21 := Bool.eq_false_iff.mpr c21
           subst c21
           replace H := N_ H
           have H' := Aside0.mk H
           clear H
           have hcz27_0 : wr.cell? ⟨gb109, 0, none⟩ = some (.int .i64 t103) := (blk_cell BK109.out 0).trans rfl
           have hcz27_1 : wr.cell? ⟨gb109, 1, none⟩ = some (.slice Ao14 t104.length co14) := (blk_cell BK109.out 1).trans rfl
           have hfz27_0 := blk_frozen BK109.out 0
           have hfz27_1 := blk_frozen BK109.out 1
           go_wp2_with (first | ((with_reducible refine gate_callee (f := 9) rfl ?_); refine goesL_ (some 55) rfl rfl Try.func9 (by kernel_rfl) rfl #[.agg #[.int .i64 t103, .slice Ao14 t104.length co14], .int .i64 t107, .int .i64 x11_2] rfl (by (try simp only [List.map_toArray, List.map_cons, List.map_nil]); first | done | rfl | (simp only [List.length_drop, List.length_take]; rfl)) ?_; (with_reducible refine (z9.calls k2 t103 _ _ t104 t107 x11_2 false _ ?side1 ?side2 A20.out).mono ?_); (case side1 => exact KC_ (Kd.N_reads' HO_110001.out).2.2); (case side2 => exact (Kd.N_reads' HO_110001.out).2.1); rintro e w28 ⟨rfl, hb⟩; refine ⟨_, rfl, ?_⟩; replace HO_110001 := Aside0.mk (Kd.N_below (KN_ HO_110001.out) hb); replace BK109 := Aside0.mk (blk_below (g := gb109) (o := .cells #[.int .i64 t103, .slice Ao14 t104.length co14] 26 (0, 0)) (KB_ BK109.out) hb); replace HB := Aside0.mk (below_step (B1_ HB.out GE109.out) hb); (try clear hb); (try clear hb2); (try clear hk); (try clear hi)))
           go_meet
           case rel => exact ⟨_, (false), E_, H', ⟨by have := HJ2.out; have := HK2.out; first | omega | exact Nat.le_refl _⟩, ⟨KN_ HO_110001.out⟩, ⟨KB_ BK109.out⟩, ⟨B1_ HB.out GE109.out⟩⟩
         case rest =>
          clear HC18
          (try clear c1);(try clear c2);(try clear p2);(try clear c3);(try clear c5);(try clear c6);(try clear c7);(try clear c8);(try clear c9);(try clear c16);(try clear c16b0);(try clear c16b1);(try clear c17);(try clear c17b0);(try clear c21);(try clear hcz13_0);(try clear hcz13_1);(try clear hcz19_0);(try clear hcz19_1);(try clear hcz23_0);(try clear hcz23_1);(try clear hcz25_0);(try clear hcz25_1);(try clear hcz27_0);(try clear hcz27_1);(try clear hfz13_0);(try clear hfz13_1);(try clear hfz19_0);(try clear hfz19_1);(try clear hfz23_0);(try clear hfz23_1);(try clear hfz25_0);(try clear hfz25_1);(try clear hfz27_0);(try clear hfz27_1);(try clear p2)
          obtain ⟨kq, x61_17, rfl, HA, HJ17, HO_110001, BK109, HB⟩ := hcut
          cases kq with
          | zero => exact absurd HA.out (by simp [z3.j2])
          | succ kj17 =>
           have H := HA.out
           clear HA
           simp only [z3.j2] at H
           by_cases c29 : x61_17 = true
           ·subst c29
            replace H := T_ H
            replace H := Option.bind_eq_some_iff.mp H
            obtain ⟨⟨t114, t115⟩, A300, H⟩ := H
            try dsimp only at H
            have A30 := Aside0.mk A300
            clear A300
            by_cases c31 : t115 = 0
            ·rw [if_pos c31] at H
             have c31b0 : (t115 == 0) = true := beq_iff_eq.mpr c31
             have c31b1 : (t115 != 0) = false := bne_eq_false_iff_eq.mpr c31
             clear c31
             have H' := Aside0.mk H
             clear H
             have hcz32_0 : wc.cell? ⟨gb109, 0, none⟩ = some (.int .i64 t103) := (blk_cell BK109.out 0).trans rfl
             have hcz32_1 : wc.cell? ⟨gb109, 1, none⟩ = some (.slice Ao14 t104.length co14) := (blk_cell BK109.out 1).trans rfl
             have hfz32_0 := blk_frozen BK109.out 0
             have hfz32_1 := blk_frozen BK109.out 1
             go_wp2_with (first | ((with_reducible refine gate_callee (f := 8) rfl ?_); refine goesL_ (some 66) rfl rfl Try.func8 (by kernel_rfl) rfl #[.agg #[.int .i64 t103, .slice Ao14 t104.length co14], .int .i64 t107, .int .i64 x11_2] rfl (by (try simp only [List.map_toArray, List.map_cons, List.map_nil]); first | done | rfl | (simp only [List.length_drop, List.length_take]; rfl)) ?_; (with_reducible refine (z8.calls kj17 t103 _ _ t104 t107 x11_2 t114 t115 _ ?side1 ?side2 A30.out).mono ?_); (case side1 => exact KC_ (Kd.N_reads' HO_110001.out).2.2); (case side2 => exact (Kd.N_reads' HO_110001.out).2.1); rintro e w33 ⟨rfl, hb⟩; refine ⟨_, rfl, ?_⟩; replace HO_110001 := Aside0.mk (Kd.N_below (KN_ HO_110001.out) hb); replace BK109 := Aside0.mk (blk_below (g := gb109) (o := .cells #[.int .i64 t103, .slice Ao14 t104.length co14] 26 (0, 0)) (KB_ BK109.out) hb); replace HB := Aside0.mk (below_step (B1_ HB.out GE109.out) hb); (try clear hb); (try clear hb2); (try clear hk); (try clear hi)))
             go_roundg kj17
             case measure => have := HJ2.out; have := HK2.out; have := HJ17.out; omega
             case rel => exact ⟨(wrap64 (x10_2 + t114)), (wrap64 (x11_2 + 1)), E_, E_, H', ⟨by have := HJ2.out; have := HK2.out; have := HJ17.out; omega⟩, ⟨KN_ HO_110001.out⟩, ⟨KB_ BK109.out⟩, ⟨B1_ HB.out GE109.out⟩⟩
            ·rw [if_neg c31] at H
             have c31b0 : (t115 == 0) = false := beq_eq_false_iff_ne.mpr c31
             have c31b1 : (t115 != 0) = true := bne_iff_ne.mpr c31
             exact absurd (H.trans (congrArg some ht_)) (by simp)
           ·replace c29 := Bool.eq_false_iff.mpr c29
            subst c29
            replace H := N_ H
            have H' := Aside0.mk H
            clear H
            go_wp2
            go_roundg kj17
            case measure => have := HJ2.out; have := HK2.out; have := HJ17.out; omega
            case rel => exact ⟨(x10_2), (wrap64 (x11_2 + 1)), E_, E_, H', ⟨by have := HJ2.out; have := HK2.out; have := HJ17.out; omega⟩, ⟨KN_ HO_110001.out⟩, ⟨KB_ BK109.out⟩, ⟨B1_ HB.out GE109.out⟩⟩
        ·rw [if_neg c17] at H
         have c17b0 : decide (x11_2 < t103) = false := decide_eq_false c17
         clear c17
         by_cases c34 : t107 = t108
         ·rw [if_pos c34] at H
          have c34b0 : (t107 == t108) = true := beq_iff_eq.mpr c34
          have c34b1 : (t107 != t108) = false := bne_eq_false_iff_eq.mpr c34
          clear c34
          by_cases c35 : x10_2 = 1
          ·rw [if_pos c35] at H
           have c35b0 : (x10_2 == 1) = true := beq_iff_eq.mpr c35
           have c35b1 : (x10_2 != 1) = false := bne_eq_false_iff_eq.mpr c35
           clear c35
           by_cases c36 : t110 = 1
           ·rw [if_pos c36] at H
            have c36b0 : (t110 == 1) = true := beq_iff_eq.mpr c36
            have c36b1 : (t110 != 1) = false := bne_eq_false_iff_eq.mpr c36
            clear c36
            have H' := Aside0.mk H
            clear H
            have hcz37_0 : wr.cell? ⟨gb109, 0, none⟩ = some (.int .i64 t103) := (blk_cell BK109.out 0).trans rfl
            have hcz37_1 : wr.cell? ⟨gb109, 1, none⟩ = some (.slice Ao14 t104.length co14) := (blk_cell BK109.out 1).trans rfl
            have hfz37_0 := blk_frozen BK109.out 0
            have hfz37_1 := blk_frozen BK109.out 1
            go_wp2
            go_meet
            case rel => exact ⟨_, H', ⟨by have := HJ2.out; have := HK2.out; first | omega | exact Nat.le_refl _⟩, ⟨KN_ HO_110001.out⟩, ⟨KB_ BK109.out⟩, ⟨B1_ HB.out GE109.out⟩⟩
           ·rw [if_neg c36] at H
            have c36b0 : (t110 == 1) = false := beq_eq_false_iff_ne.mpr c36
            have c36b1 : (t110 != 1) = true := bne_iff_ne.mpr c36
            exact absurd (H.trans (congrArg some ht_)) (by simp)
          ·rw [if_neg c35] at H
           have c35b0 : (x10_2 == 1) = false := beq_eq_false_iff_ne.mpr c35
           have c35b1 : (x10_2 != 1) = true := bne_iff_ne.mpr c35
           exact absurd (H.trans (congrArg some ht_)) (by simp)
         ·rw [if_neg c34] at H
          have c34b0 : (t107 == t108) = false := beq_eq_false_iff_ne.mpr c34
          have c34b1 : (t107 != t108) = true := bne_iff_ne.mpr c34
          by_cases c38 : x10_2 = 0
          ·rw [if_pos c38] at H
           have c38b0 : (x10_2 == 0) = true := beq_iff_eq.mpr c38
           have c38b1 : (x10_2 != 0) = false := bne_eq_false_iff_eq.mpr c38
           clear c38
           have H' := Aside0.mk H
           clear H
           have hcz39_0 : wr.cell? ⟨gb109, 0, none⟩ = some (.int .i64 t103) := (blk_cell BK109.out 0).trans rfl
           have hcz39_1 : wr.cell? ⟨gb109, 1, none⟩ = some (.slice Ao14 t104.length co14) := (blk_cell BK109.out 1).trans rfl
           have hfz39_0 := blk_frozen BK109.out 0
           have hfz39_1 := blk_frozen BK109.out 1
           go_wp2
           go_meet
           case rel => exact ⟨_, H', ⟨by have := HJ2.out; have := HK2.out; first | omega | exact Nat.le_refl _⟩, ⟨KN_ HO_110001.out⟩, ⟨KB_ BK109.out⟩, ⟨B1_ HB.out GE109.out⟩⟩
          ·rw [if_neg c38] at H
           have c38b0 : (x10_2 == 0) = false := beq_eq_false_iff_ne.mpr c38
           have c38b1 : (x10_2 != 0) = true := bne_iff_ne.mpr c38
           exact absurd (H.trans (congrArg some ht_)) (by simp)
     ·rw [if_neg c16] at H
      have c16b0 : (t111 == 0) = false := beq_eq_false_iff_ne.mpr c16
      have c16b1 : (t111 != 0) = true := bne_iff_ne.mpr c16
      (first | rw [c16b0] | (simp only [i64_w, i32_w]; rw [c16b0]) | skip)
      have H' := Aside0.mk H
      clear H
      go_wp2
      go_meet
      case rel => exact ⟨_, H', ⟨by have := HJ2.out; first | omega | exact Nat.le_refl _⟩, ⟨by (with_reducible repeat (first | apply Kd.N_alloc | apply Kd.N_drewN | apply Kd.N_drew)); exact Kd.N_mono HO106.out (fun _ hk => hk.2)⟩, ⟨KB_ BK109.out⟩, ⟨B1_ HB.out GE109.out⟩⟩
    case rest =>
     clear HC10
     (try clear c1);(try clear c2);(try clear p2);(try clear c3);(try clear c5);(try clear c6);(try clear p6);(try clear c7);(try clear c8);(try clear c9);(try clear c16);(try clear c16b0);(try clear c16b1);(try clear c17);(try clear c17b0);(try clear c21);(try clear c29);(try clear c31);(try clear c31b0);(try clear c31b1);(try clear c34);(try clear c34b0);(try clear c34b1);(try clear c35);(try clear c35b0);(try clear c35b1);(try clear c36);(try clear c36b0);(try clear c36b1);(try clear c38);(try clear c38b0);(try clear c38b1);(try clear hcz13_0);(try clear hcz13_1);(try clear hcz19_0);(try clear hcz19_1);(try clear hcz23_0);(try clear hcz23_1);(try clear hcz25_0);(try clear hcz25_1);(try clear hcz27_0);(try clear hcz27_1);(try clear hcz32_0);(try clear hcz32_1);(try clear hcz37_0);(try clear hcz37_1);(try clear hcz39_0);(try clear hcz39_1);(try clear hfz13_0);(try clear hfz13_1);(try clear hfz19_0)
     (try clear hfz19_1);(try clear hfz23_0);(try clear hfz23_1);(try clear hfz25_0);(try clear hfz25_1);(try clear hfz27_0);(try clear hfz27_1);(try clear hfz32_0);(try clear hfz32_1);(try clear hfz37_0);(try clear hfz37_1);(try clear hfz39_0);(try clear hfz39_1);(try clear p2)
     obtain ⟨kq, HA, HJ9, HO_110001, BK109, HB⟩ := hcut
     cases kq with
     | zero => exact absurd HA.out (by simp [z3.j3])
     | succ kj9 =>
      have H := HA.out
      clear HA
      simp only [z3.j3] at H
      replace H := Option.bind_eq_some_iff.mp H
      obtain ⟨⟨t116, t117, t120⟩, A400, H⟩ := H
      try dsimp only at H
      have A40 := Aside0.mk A400
      clear A400
      replace H := Option.bind_eq_some_iff.mp H
      obtain ⟨⟨t124, t127⟩, A410, H⟩ := H
      try dsimp only at H
      have A41 := Aside0.mk A410
      clear A410
      by_cases c42 : t127 = 0
      ·rw [if_pos c42] at H
       have c42b0 : (t127 == 0) = true := beq_iff_eq.mpr c42
       have c42b1 : (t127 != 0) = false := bne_eq_false_iff_eq.mpr c42
       clear c42
       replace H := Option.bind_eq_some_iff.mp H
       obtain ⟨⟨t128, t131⟩, A430, H⟩ := H
       try dsimp only at H
       have A43 := Aside0.mk A430
       clear A430
       replace H := Option.bind_eq_some_iff.mp H
       obtain ⟨⟨t132, t133⟩, A440, H⟩ := H
       try dsimp only at H
       have A44 := Aside0.mk A440
       clear A440
       replace H := Option.bind_eq_some_iff.mp H
       obtain ⟨⟨t134, t137⟩, A450, H⟩ := H
       try dsimp only at H
       have A45 := Aside0.mk A450
       clear A450
       have HC46 := Aside0.mk H
       clear H
       go_upto_region 24 with (first | ((with_reducible refine gate_callee (f := 10) rfl ?_); refine goesL_ (some 96) rfl rfl Try.func10 (by kernel_rfl) rfl #[.slice A1 l1.length c1] rfl (by (try simp only [List.map_toArray, List.map_cons, List.map_nil]); first | done | rfl | (simp only [List.length_drop, List.length_take]; rfl)) ?_; (with_reducible refine (z10.calls kj9 _ _ l1 t116 t117 t120 _ ?side1 ?side2 A40.out).mono ?_); (case side1 => exact KC_ (Kd.C_below HR1.out HB.out)); (case side2 => exact HC1.out); rintro e w47 ⟨v118, v121, rfl, ho0, ho1, hb⟩; refine ⟨_, rfl, ?_⟩; have n0_ := Aside0.mk (Kd.N_mono (Kd.N_told (Kd.N_told (Kd.N_old (KN_ HO_110001.out) hb) (Kd.N_base ho0)) (Kd.R_base ho1)) (fun _ h_ => h_.1)); have n1_ := Aside0.mk (Kd.N_lower (Kd.N_mono (ok' := fun k_ => some k_ ≠ (v121 : Value).ownBlock ∧ some k_ ≠ (.slice Ao14 t104.length co14 : Value).ownBlock ∧ k_ ≠ gb109) ho0 (fun k_ hk_ => ⟨hk_.2, (Kd.fresh' (Kd.N_lt (KN_ HO_110001.out)) k_ hk_.1), (Kd.freshB (g := gb109) (o := .cells #[.int .i64 t103, .slice Ao14 t104.length co14] 26 (0, 0)) (KB_ BK109.out) k_ hk_.1)⟩)) (below_size (B1_ HB.out GE109.out))); have n2_ := Aside0.mk (Kd.R_lower (Kd.R_mono (ok' := fun k_ => True) ho1 (fun _ hk_ => trivial)) (below_size (B1_ HB.out GE109.out))); have n3_ := Aside0.mk (blk_below (g := gb109) (o := .cells #[.int .i64 t103, .slice Ao14 t104.length co14] 26 (0, 0)) (KB_ BK109.out) hb); have n4_ := Aside0.mk (below_step (B1_ HB.out GE109.out) hb); clear HO_110001; clear BK109; clear HB; have HO_110001 := n0_; have HO119 := n1_; have HO122 := n2_; have BK109 := n3_; have HB := n4_; clear n0_ n1_ n2_ n3_ n4_; (try clear hb); (try clear hb2); (try clear hk); (try clear hi); (try clear ho0); (try clear ho1)) | ((with_reducible refine gate_dst (N := 14) rfl ?_); (try (refine gate_guard (by rfl) ?_; dsimp only)); refine box_event ?hg (N := 14) ?hd (cs := #[.int .i64 0, .slice none 0 0]) (t := 26) ?hr ?_; (case hd => rfl); (case hg => rfl); (case hr => first | (go_simp; done) | (go_simp; rfl)); intro gb123 hg w48 hbox hb; have n0_ := Aside0.mk (Kd.N_below (Kd.N_elderB (KN_ HO_110001.out) gb123 (Nat.le_of_eq hg.symm)) hb); have n1_ := Aside0.mk (Kd.N_below (Kd.N_elderB (KN_ HO119.out) gb123 (Nat.le_of_eq hg.symm)) hb); have n2_ := Aside0.mk (Kd.R_below (KR_ HO122.out) hb); have n3_ := Aside0.mk (blk_below (g := gb109) (o := .cells #[.int .i64 t103, .slice Ao14 t104.length co14] 26 (0, 0)) (KB_ BK109.out) hb); have n4_ := Aside0.mk (below_step (B1_ HB.out GE109.out) hb); have n5_ := Aside0.mk (hbox); have n6_ := Aside0.mk ((by rw [hg]; exact (below_size (B1_ HB.out GE109.out)) : w.heap.size ≤ gb123)); have n7_ := Aside0.mk ((by rw [hg]; exact (below_size (B1_ HB.out GE109.out)) : w.heap.size ≤ gb123)); have n8_ := Aside0.mk ((by rw [hg]; exact Nat.ne_of_lt (blk_lt (g := gb109) (o := .cells #[.int .i64 t103, .slice Ao14 t104.length co14] 26 (0, 0)) (KB_ BK109.out)) : gb109 ≠ gb123)); have n9_ := Aside0.mk ((by rw [hg]; exact Nat.ne_of_gt (blk_lt (g := gb109) (o := .cells #[.int .i64 t103, .slice Ao14 t104.length co14] 26 (0, 0)) (KB_ BK109.out)) : gb123 ≠ gb109)); clear HO_110001; clear HO119; clear HO122; clear BK109; clear HB; have HO_110001 := n0_; have HO119 := n1_; have HO122 := n2_; have BK109 := n3_; have HB := n4_; have BK123 := n5_; have GW123 := n6_; have GE123 := n7_; have NB109_123 := n8_; have NB123_109 := n9_; clear n0_ n1_ n2_ n3_ n4_ n5_ n6_ n7_ n8_ n9_; clear hb hbox hg; have hnb49 := NB123_109.out; have hnc49 := NB109_123.out; have hcz50_0 : w48.cell? ⟨gb123, 0, none⟩ = some (.int .i64 0) := (blk_cell BK123.out 0).trans rfl; have hcz50_1 : w48.cell? ⟨gb123, 1, none⟩ = some (.slice none 0 0) := (blk_cell BK123.out 1).trans rfl; have hfz50_0 := blk_frozen BK123.out 0; have hfz50_1 := blk_frozen BK123.out 1; obtain ⟨Ao51, co51, eo51⟩ := Kd.N_slice HO119.out; subst eo51; obtain ⟨Ao52, co52, eo52⟩ := Kd.R_slice HO122.out; subst eo52) | ((with_reducible refine gate_callee (f := 11) rfl ?_); refine goesL_ (some 102) rfl rfl Try.func11 (by kernel_rfl) rfl #[.agg #[.int .i64 t116, .slice Ao51 t117.length co51], .slice Ao52 t120.length co52] rfl (by (try simp only [List.map_toArray, List.map_cons, List.map_nil]); first | done | rfl | (simp only [List.length_drop, List.length_take]; rfl)) ?_; (with_reducible refine (z11.calls kj9 t116 _ _ t117 _ _ t120 t124 t127 _ ?side1 ?side2 ?side3 ?side4 A41.out).mono ?_); (case side1 => refine (Kd.N_reads' (e := 32) (base := w.heap.size) (ok := fun k_ => ((some k_ ≠ (.slice Ao52 t120.length co52 : Value).ownBlock ∧ (some k_ ≠ (.slice Ao14 t104.length co14 : Value).ownBlock ∧ k_ ≠ gb109)) ∧ k_ ≠ gb123)) (n := t117.length) (c := co51) ?_).2.2; exact (by (with_reducible repeat (first | apply Kd.N_alloc | apply Kd.N_drewN | apply Kd.N_drew)); exact (Kd.N_mono (Kd.N_far (p := ⟨gb123, 1, none⟩) (Kd.N_far (p := ⟨gb123, 0, none⟩) (Kd.N_mono HO119.out (fun k_ hk => (⟨hk, hk.2⟩ : _ ∧ k_ ≠ gb123))) (fun _ hk => hk.2) (.int .i64 t116)) (fun _ hk => hk.2) (.slice Ao51 t117.length co51)) (fun _ h_ => h_.1)))); (case side2 => exact (Kd.N_reads' HO119.out).2.1); (case side3 => refine (Kd.R_reads' (e := 2) (base := w.heap.size) (ok := fun k_ => True) (n := t120.length) (c := co52) ?_).2.2; exact (by (with_reducible repeat (first | apply Kd.R_alloc | apply Kd.R_drewN | apply Kd.R_drew)); exact (Kd.R_mono (Kd.R_far (p := ⟨gb123, 1, none⟩) (Kd.R_far (p := ⟨gb123, 0, none⟩) (Kd.R_types HO122.out BK123.out (by decide)) (fun _ hk => hk.2) (.int .i64 t116)) (fun _ hk => hk.2) (.slice Ao51 t117.length co51)) (fun _ h_ => h_.1)))); (case side4 => exact (Kd.R_reads' HO122.out).2.1); rintro e w53 ⟨v125, rfl, ho0, hb⟩; refine ⟨_, rfl, ?_⟩; obtain ⟨nan54, hnan54⟩ := Kd.size_letter hb; have n0_ := Aside0.mk (Kd.N_elder' (by (with_reducible repeat (first | apply Kd.N_alloc | apply Kd.N_drewN | apply Kd.N_drew)); exact (Kd.N_mono (Kd.N_far (p := ⟨gb123, 1, none⟩) (Kd.N_far (p := ⟨gb123, 0, none⟩) (Kd.N_mono HO_110001.out (fun k_ hk => (⟨hk, hk.2⟩ : _ ∧ k_ ≠ gb123))) (fun _ hk => hk.2) (.int .i64 t116)) (fun _ hk => hk.2) (.slice Ao51 t117.length co51)) (fun _ h_ => h_.1))) (Kd.R_base ho0) hb); have n1_ := Aside0.mk (Kd.N_elder' (by (with_reducible repeat (first | apply Kd.N_alloc | apply Kd.N_drewN | apply Kd.N_drew)); exact (Kd.N_mono (Kd.N_far (p := ⟨gb123, 1, none⟩) (Kd.N_far (p := ⟨gb123, 0, none⟩) (Kd.N_mono HO119.out (fun k_ hk => (⟨hk, hk.2⟩ : _ ∧ k_ ≠ gb123))) (fun _ hk => hk.2) (.int .i64 t116)) (fun _ hk => hk.2) (.slice Ao51 t117.length co51)) (fun _ h_ => h_.1))) (Kd.R_base ho0) hb); have n2_ := Aside0.mk (Kd.R_told (Kd.R_oldN (by (with_reducible repeat (first | apply Kd.R_alloc | apply Kd.R_drewN | apply Kd.R_drew)); exact (Kd.R_mono (Kd.R_far (p := ⟨gb123, 1, none⟩) (Kd.R_far (p := ⟨gb123, 0, none⟩) (Kd.R_types HO122.out BK123.out (by decide)) (fun _ hk => hk.2) (.int .i64 t116)) (fun _ hk => hk.2) (.slice Ao51 t117.length co51)) (fun _ h_ => h_.1))) hb hnan54) (Kd.R_baseN ho0 hnan54)); have n3_ := Aside0.mk (Kd.R_lower (Kd.R_geN (Kd.R_new' ho0 (Kd.R_lt (by (with_reducible repeat (first | apply Kd.R_alloc | apply Kd.R_drewN | apply Kd.R_drew)); exact (Kd.R_mono (Kd.R_far (p := ⟨gb123, 1, none⟩) (Kd.R_far (p := ⟨gb123, 0, none⟩) (Kd.R_types HO122.out BK123.out (by decide)) (fun _ hk => hk.2) (.int .i64 t116)) (fun _ hk => hk.2) (.slice Ao51 t117.length co51)) (fun _ h_ => h_.1))))) hnan54) (below_size (B2_ HB.out GE109.out GE123.out))); have n4_ := Aside0.mk (blk_below (g := gb109) (o := .cells #[.int .i64 t103, .slice Ao14 t104.length co14] 26 (0, 0)) (by (with_reducible repeat (first | refine blk_drewN ?_ _ | refine blk_drew ?_ | refine blk_alloc ?_ _)); refine blk_far ?_ NB109_123.out _; (with_reducible repeat (first | refine blk_drewN ?_ _ | refine blk_drew ?_ | refine blk_alloc ?_ _)); refine blk_far ?_ NB109_123.out _; (with_reducible repeat (first | refine blk_drewN ?_ _ | refine blk_drew ?_ | refine blk_alloc ?_ _)); exact BK109.out) hb); have n5_ := Aside0.mk (blk_below (g := gb123) (o := .cells #[.int .i64 t116, .slice Ao51 t117.length co51] 26 (0, 0)) (by (with_reducible repeat (first | refine blk_drewN ?_ _ | refine blk_drew ?_ | refine blk_alloc ?_ _)); refine blk_put (cs := #[.int .i64 t116, .slice none 0 0]) ?_ 1 _ rfl; (with_reducible repeat (first | refine blk_drewN ?_ _ | refine blk_drew ?_ | refine blk_alloc ?_ _)); refine blk_put (cs := #[.int .i64 0, .slice none 0 0]) ?_ 0 _ rfl; (with_reducible repeat (first | refine blk_drewN ?_ _ | refine blk_drew ?_ | refine blk_alloc ?_ _)); exact BK123.out) hb); have n6_ := Aside0.mk (below_step (B2_ HB.out GE109.out GE123.out) hb); clear HO_110001; clear HO119; clear HO122; clear BK109; clear BK123; clear HB; have HO_110001 := n0_; have HO119 := n1_; have HO122 := n2_; have HO126 := n3_; have BK109 := n4_; have BK123 := n5_; have HB := n6_; clear n0_ n1_ n2_ n3_ n4_ n5_ n6_; (try clear hb); (try clear hb2); (try clear hk); (try clear hi); (try clear ho0); have hcz55_0 : w53.cell? ⟨gb123, 0, none⟩ = some (.int .i64 t116) := (blk_cell BK123.out 0).trans rfl; have hcz55_1 : w53.cell? ⟨gb123, 1, none⟩ = some (.slice Ao51 t117.length co51) := (blk_cell BK123.out 1).trans rfl; have hfz55_0 := blk_frozen BK123.out 0; have hfz55_1 := blk_frozen BK123.out 1; obtain ⟨Ao56, co56, eo56⟩ := Kd.R_slice HO126.out; subst eo56) | ((with_reducible refine gate_callee (f := 11) rfl ?_); refine goesL_ (some 113) rfl rfl Try.func11 (by kernel_rfl) rfl #[.agg #[.int .i64 t116, .slice Ao51 t117.length co51], .slice Ao56 t124.length co56] rfl (by (try simp only [List.map_toArray, List.map_cons, List.map_nil]); first | done | rfl | (simp only [List.length_drop, List.length_take]; rfl)) ?_; (with_reducible refine (z11.calls kj9 t116 _ _ t117 _ _ t124 t128 t131 _ ?side1 ?side2 ?side3 ?side4 A43.out).mono ?_); (case side1 => exact KC_ (Kd.N_reads' HO119.out).2.2); (case side2 => exact (Kd.N_reads' HO119.out).2.1); (case side3 => exact KC_ (Kd.R_reads' HO126.out).2.2); (case side4 => exact (Kd.R_reads' HO126.out).2.1); rintro e w57 ⟨v129, rfl, ho0, hb⟩; refine ⟨_, rfl, ?_⟩; obtain ⟨nan58, hnan58⟩ := Kd.size_letter hb; have n0_ := Aside0.mk (Kd.N_elder' (KN_ HO_110001.out) (Kd.R_base ho0) hb); have n1_ := Aside0.mk (Kd.N_elder' (KN_ HO119.out) (Kd.R_base ho0) hb); have n2_ := Aside0.mk (Kd.R_told (Kd.R_oldN (KR_ HO122.out) hb hnan58) (Kd.R_baseN ho0 hnan58)); have n3_ := Aside0.mk (Kd.R_told (Kd.R_oldN (KR_ HO126.out) hb hnan58) (Kd.R_baseN ho0 hnan58)); have n4_ := Aside0.mk (Kd.R_lower (Kd.R_geN (Kd.R_new' (Kd.R_new' ho0 (Kd.R_lt (KR_ HO122.out))) (Kd.R_lt (KR_ HO126.out))) hnan58) (below_size (B2_ HB.out GE109.out GE123.out))); have n5_ := Aside0.mk (blk_below (g := gb109) (o := .cells #[.int .i64 t103, .slice Ao14 t104.length co14] 26 (0, 0)) (KB_ BK109.out) hb); have n6_ := Aside0.mk (blk_below (g := gb123) (o := .cells #[.int .i64 t116, .slice Ao51 t117.length co51] 26 (0, 0)) (KB_ BK123.out) hb); have n7_ := Aside0.mk (below_step (B2_ HB.out GE109.out GE123.out) hb); clear HO_110001; clear HO119; clear HO122; clear HO126; clear BK109; clear BK123; clear HB; have HO_110001 := n0_; have HO119 := n1_; have HO122 := n2_; have HO126 := n3_; have HO130 := n4_; have BK109 := n5_; have BK123 := n6_; have HB := n7_; clear n0_ n1_ n2_ n3_ n4_ n5_ n6_ n7_; (try clear hb); (try clear hb2); (try clear hk); (try clear hi); (try clear ho0); have hcz59_0 : w57.cell? ⟨gb123, 0, none⟩ = some (.int .i64 t116) := (blk_cell BK123.out 0).trans rfl; have hcz59_1 : w57.cell? ⟨gb123, 1, none⟩ = some (.slice Ao51 t117.length co51) := (blk_cell BK123.out 1).trans rfl; have hfz59_0 := blk_frozen BK123.out 0; have hfz59_1 := blk_frozen BK123.out 1) | ((with_reducible refine gate_callee (f := 12) rfl ?_); refine goesL_ (some 118) rfl rfl Try.func12 (by kernel_rfl) rfl #[.agg #[.int .i64 t116, .slice Ao51 t117.length co51]] rfl (by (try simp only [List.map_toArray, List.map_cons, List.map_nil]); first | done | rfl | (simp only [List.length_drop, List.length_take]; rfl)) ?_; (with_reducible refine (z12.calls kj9 t116 _ _ t117 t132 t133 _ ?side1 ?side2 A44.out).mono ?_); (case side1 => exact KC_ (Kd.N_reads' HO119.out).2.2); (case side2 => exact (Kd.N_reads' HO119.out).2.1); rintro e w60 ⟨rfl, hb⟩; refine ⟨_, rfl, ?_⟩; replace HO_110001 := Aside0.mk (Kd.N_below (KN_ HO_110001.out) hb); replace HO119 := Aside0.mk (Kd.N_below (KN_ HO119.out) hb); replace HO122 := Aside0.mk (Kd.R_below (KR_ HO122.out) hb); replace HO126 := Aside0.mk (Kd.R_below (KR_ HO126.out) hb); replace HO130 := Aside0.mk (Kd.R_below (KR_ HO130.out) hb); replace BK109 := Aside0.mk (blk_below (g := gb109) (o := .cells #[.int .i64 t103, .slice Ao14 t104.length co14] 26 (0, 0)) (KB_ BK109.out) hb); replace BK123 := Aside0.mk (blk_below (g := gb123) (o := .cells #[.int .i64 t116, .slice Ao51 t117.length co51] 26 (0, 0)) (KB_ BK123.out) hb); replace HB := Aside0.mk (below_step (B2_ HB.out GE109.out GE123.out) hb); (try clear hb); (try clear hb2); (try clear hk); (try clear hi); have hcz61_0 : w60.cell? ⟨gb123, 0, none⟩ = some (.int .i64 t116) := (blk_cell BK123.out 0).trans rfl; have hcz61_1 : w60.cell? ⟨gb123, 1, none⟩ = some (.slice Ao51 t117.length co51) := (blk_cell BK123.out 1).trans rfl; have hfz61_0 := blk_frozen BK123.out 0; have hfz61_1 := blk_frozen BK123.out 1) | ((with_reducible refine gate_callee (f := 13) rfl ?_); refine goesL_ (some 123) rfl rfl Try.func13 (by kernel_rfl) rfl #[.agg #[.int .i64 t116, .slice Ao51 t117.length co51]] rfl (by (try simp only [List.map_toArray, List.map_cons, List.map_nil]); first | done | rfl | (simp only [List.length_drop, List.length_take]; rfl)) ?_; (with_reducible refine (z13.calls kj9 t116 _ _ t117 t134 t137 _ ?side1 ?side2 A45.out).mono ?_); (case side1 => exact KC_ (Kd.N_reads' HO119.out).2.2); (case side2 => exact (Kd.N_reads' HO119.out).2.1); rintro e w62 ⟨v135, rfl, ho0, hb⟩; refine ⟨_, rfl, ?_⟩; obtain ⟨nan63, hnan63⟩ := Kd.size_letter hb; have n0_ := Aside0.mk (Kd.N_elder' (KN_ HO_110001.out) (Kd.R_base ho0) hb); have n1_ := Aside0.mk (Kd.N_elder' (KN_ HO119.out) (Kd.R_base ho0) hb); have n2_ := Aside0.mk (Kd.R_told (Kd.R_oldN (KR_ HO122.out) hb hnan63) (Kd.R_baseN ho0 hnan63)); have n3_ := Aside0.mk (Kd.R_told (Kd.R_oldN (KR_ HO126.out) hb hnan63) (Kd.R_baseN ho0 hnan63)); have n4_ := Aside0.mk (Kd.R_told (Kd.R_oldN (KR_ HO130.out) hb hnan63) (Kd.R_baseN ho0 hnan63)); have n5_ := Aside0.mk (Kd.R_lower (Kd.R_geN (Kd.R_new' (Kd.R_new' (Kd.R_new' ho0 (Kd.R_lt (KR_ HO122.out))) (Kd.R_lt (KR_ HO126.out))) (Kd.R_lt (KR_ HO130.out))) hnan63) (below_size (B2_ HB.out GE109.out GE123.out))); have n6_ := Aside0.mk (blk_below (g := gb109) (o := .cells #[.int .i64 t103, .slice Ao14 t104.length co14] 26 (0, 0)) (KB_ BK109.out) hb); have n7_ := Aside0.mk (blk_below (g := gb123) (o := .cells #[.int .i64 t116, .slice Ao51 t117.length co51] 26 (0, 0)) (KB_ BK123.out) hb); have n8_ := Aside0.mk (below_step (B2_ HB.out GE109.out GE123.out) hb); clear HO_110001; clear HO119; clear HO122; clear HO126; clear HO130; clear BK109; clear BK123; clear HB; have HO_110001 := n0_; have HO119 := n1_; have HO122 := n2_; have HO126 := n3_; have HO130 := n4_; have HO136 := n5_; have BK109 := n6_; have BK123 := n7_; have HB := n8_; clear n0_ n1_ n2_ n3_ n4_ n5_ n6_ n7_ n8_; (try clear hb); (try clear hb2); (try clear hk); (try clear hi); (try clear ho0)))
       (try simp only [Act.put, List.setIfInBounds_toArray, List.set_cons_zero, List.set_cons_succ])
       go_cut [157] (fun v157 wc => ∃ (kq : Nat) (x157_45 : Bool), v157 = .bool x157_45 ∧ Aside0 (z3.j4 kq t120 t124 x157_45 = some r) ∧ Aside0 (kq ≤ kj9) ∧ Aside0 (Kd.R (Kd.int .i64) 2 wc w.heap.size (fun k_ => some k_ ≠ ((.slice Ao56 t124.length co56) : Value).ownBlock) (.slice Ao52 t120.length co52) t120) ∧ Aside0 (Kd.R (Kd.int .i64) 2 wc w.heap.size (fun k_ => some k_ ≠ ((.slice Ao52 t120.length co52) : Value).ownBlock) (.slice Ao56 t124.length co56) t124) ∧ Aside0 (Kd.N (Kd.slice 2 (Kd.int .i64)) 32 wc w.heap.size (fun k_ => some k_ ≠ ((.slice Ao52 t120.length co52) : Value).ownBlock ∧ some k_ ≠ ((.slice Ao56 t124.length co56) : Value).ownBlock ∧ some k_ ≠ ((.slice Ao51 t117.length co51) : Value).ownBlock ∧ k_ ≠ gb109 ∧ k_ ≠ gb123) (.slice Ao14 t104.length co14) t104) ∧ Aside0 (Kd.N (Kd.slice 2 (Kd.int .i64)) 32 wc w.heap.size (fun k_ => some k_ ≠ ((.slice Ao52 t120.length co52) : Value).ownBlock ∧ some k_ ≠ ((.slice Ao56 t124.length co56) : Value).ownBlock ∧ some k_ ≠ ((.slice Ao14 t104.length co14) : Value).ownBlock ∧ k_ ≠ gb109 ∧ k_ ≠ gb123) (.slice Ao51 t117.length co51) t117) ∧ Aside0 (wc.heap[gb109]? = some (.cells #[.int .i64 t103, (.slice Ao14 t104.length co14)] 26 (0, 0))) ∧ Aside0 (wc.heap[gb123]? = some (.cells #[.int .i64 t116, (.slice Ao51 t117.length co51)] 26 (0, 0))) ∧ Aside0 (Below w.heap.size w wc))
       case first =>
        have H := HC46.out
        clear HC46
        by_cases c64 : t131 = 0
        ·rw [if_pos c64] at H
         have c64b0 : (t131 == 0) = true := beq_iff_eq.mpr c64
         have c64b1 : (t131 != 0) = false := bne_eq_false_iff_eq.mpr c64
         clear c64
         (first | rw [c64b0] | (simp only [i64_w, i32_w]; rw [c64b0]) | skip)
         replace H := Option.bind_eq_some_iff.mp H
         obtain ⟨t138, A650, H⟩ := H
         have A65 := Aside0.mk A650
         clear A650
         by_cases c66 : t138 = true
         ·subst c66
          replace H := T_ H
          by_cases c67 : t133 = 0
          ·rw [if_pos c67] at H
           have c67b0 : (t133 == 0) = true := beq_iff_eq.mpr c67
           have c67b1 : (t133 != 0) = false := bne_eq_false_iff_eq.mpr c67
           clear c67
           by_cases c68 : t132 < (wrap64 (t116 + 1))
           ·rw [if_pos c68] at H
            have c68b0 : decide (t132 < (wrap64 (t116 + 1))) = true := decide_eq_true c68
            clear c68
            have H' := Aside0.mk H
            clear H
            obtain ⟨Ao69, co69, eo69⟩ := Kd.R_slice HO130.out
            subst eo69
            go_wp2_with (first | (go_at_call 14; (with_reducible refine (z14.calls kj9 _ _ t128 _ _ t124 true _ ?side1 ?side2 ?side3 ?side4 A65.out).mono ?_); (case side1 => exact KC_ (Kd.R_reads' HO130.out).2.2); (case side2 => exact (Kd.R_reads' HO130.out).2.1); (case side3 => exact KC_ (Kd.R_reads' HO126.out).2.2); (case side4 => exact (Kd.R_reads' HO126.out).2.1); rintro e w' ⟨rfl, ⟨nd, rfl⟩⟩; have hnb70 := NB123_109.out; have hnc70 := NB109_123.out; have hcz71_0 : w62.cell? ⟨gb123, 0, none⟩ = some (.int .i64 t116) := (blk_cell BK123.out 0).trans rfl; have hcz71_1 : w62.cell? ⟨gb123, 1, none⟩ = some (.slice Ao51 t117.length co51) := (blk_cell BK123.out 1).trans rfl; have hfz71_0 := blk_frozen BK123.out 0; have hfz71_1 := blk_frozen BK123.out 1))
            go_meet
            case rel => exact ⟨_, (true), E_, H', ⟨by have := HJ2.out; have := HJ9.out; first | omega | exact Nat.le_refl _⟩, ⟨by (with_reducible repeat (first | apply Kd.R_alloc | apply Kd.R_drewN | apply Kd.R_drew)); exact Kd.R_mono HO122.out (fun _ hk => hk.1.1.1.1.1.2)⟩, ⟨by (with_reducible repeat (first | apply Kd.R_alloc | apply Kd.R_drewN | apply Kd.R_drew)); exact Kd.R_mono HO126.out (fun _ hk => hk.1.1.1.1.1.2)⟩, ⟨by (with_reducible repeat (first | apply Kd.N_alloc | apply Kd.N_drewN | apply Kd.N_drew)); exact Kd.N_mono HO_110001.out (fun _ hk => ⟨hk.1.1.1.1.2, ⟨hk.1.1.2, ⟨hk.1.1.1.1.1.2, ⟨hk.1.1.1.1.1.1, hk.1.1.1.2⟩⟩⟩⟩)⟩, ⟨by (with_reducible repeat (first | apply Kd.N_alloc | apply Kd.N_drewN | apply Kd.N_drew)); exact Kd.N_mono HO119.out (fun _ hk => ⟨hk.1.1.1.1.1, ⟨hk.1.1.2, ⟨hk.1.1.1.1.2.1, ⟨hk.1.1.1.1.2.2, hk.1.1.1.2⟩⟩⟩⟩)⟩, ⟨KB_ BK109.out⟩, ⟨KB_ BK123.out⟩, ⟨B2_ HB.out GE109.out GE123.out⟩⟩
           ·rw [if_neg c68] at H
            have c68b0 : decide (t132 < (wrap64 (t116 + 1))) = false := decide_eq_false c68
            clear c68
            by_cases c72 : t137 = 0
            ·rw [if_pos c72] at H
             have c72b0 : (t137 == 0) = true := beq_iff_eq.mpr c72
             have c72b1 : (t137 != 0) = false := bne_eq_false_iff_eq.mpr c72
             clear c72
             have H' := Aside0.mk H
             clear H
             obtain ⟨Ao73, co73, eo73⟩ := Kd.R_slice HO130.out
             subst eo73
             go_wp2_with (first | (go_at_call 14; (with_reducible refine (z14.calls kj9 _ _ t128 _ _ t124 true _ ?side1 ?side2 ?side3 ?side4 A65.out).mono ?_); (case side1 => exact KC_ (Kd.R_reads' HO130.out).2.2); (case side2 => exact (Kd.R_reads' HO130.out).2.1); (case side3 => exact KC_ (Kd.R_reads' HO126.out).2.2); (case side4 => exact (Kd.R_reads' HO126.out).2.1); rintro e w' ⟨rfl, ⟨nd, rfl⟩⟩; have hnb74 := NB123_109.out; have hnc74 := NB109_123.out; have hcz75_0 : w62.cell? ⟨gb123, 0, none⟩ = some (.int .i64 t116) := (blk_cell BK123.out 0).trans rfl; have hcz75_1 : w62.cell? ⟨gb123, 1, none⟩ = some (.slice Ao51 t117.length co51) := (blk_cell BK123.out 1).trans rfl; have hfz75_0 := blk_frozen BK123.out 0; have hfz75_1 := blk_frozen BK123.out 1; obtain ⟨Ao76, co76, eo76⟩ := Kd.R_slice HO136.out; subst eo76))
             go_meet
             case rel => exact ⟨_, ((((t134.length : Int) == 0) != (t116 == 0))), E_, H', ⟨by have := HJ2.out; have := HJ9.out; first | omega | exact Nat.le_refl _⟩, ⟨by (with_reducible repeat (first | apply Kd.R_alloc | apply Kd.R_drewN | apply Kd.R_drew)); exact Kd.R_mono HO122.out (fun _ hk => hk.1.1.1.1.1.2)⟩, ⟨by (with_reducible repeat (first | apply Kd.R_alloc | apply Kd.R_drewN | apply Kd.R_drew)); exact Kd.R_mono HO126.out (fun _ hk => hk.1.1.1.1.1.2)⟩, ⟨by (with_reducible repeat (first | apply Kd.N_alloc | apply Kd.N_drewN | apply Kd.N_drew)); exact Kd.N_mono HO_110001.out (fun _ hk => ⟨hk.1.1.1.1.2, ⟨hk.1.1.2, ⟨hk.1.1.1.1.1.2, ⟨hk.1.1.1.1.1.1, hk.1.1.1.2⟩⟩⟩⟩)⟩, ⟨by (with_reducible repeat (first | apply Kd.N_alloc | apply Kd.N_drewN | apply Kd.N_drew)); exact Kd.N_mono HO119.out (fun _ hk => ⟨hk.1.1.1.1.1, ⟨hk.1.1.2, ⟨hk.1.1.1.1.2.1, ⟨hk.1.1.1.1.2.2, hk.1.1.1.2⟩⟩⟩⟩)⟩, ⟨KB_ BK109.out⟩, ⟨KB_ BK123.out⟩, ⟨B2_ HB.out GE109.out GE123.out⟩⟩
            ·rw [if_neg c72] at H
             have c72b0 : (t137 == 0) = false := beq_eq_false_iff_ne.mpr c72
             have c72b1 : (t137 != 0) = true := bne_iff_ne.mpr c72
             have H' := Aside0.mk H
             clear H
             obtain ⟨Ao77, co77, eo77⟩ := Kd.R_slice HO130.out
             subst eo77
             go_wp2_with (first | (go_at_call 14; (with_reducible refine (z14.calls kj9 _ _ t128 _ _ t124 true _ ?side1 ?side2 ?side3 ?side4 A65.out).mono ?_); (case side1 => exact KC_ (Kd.R_reads' HO130.out).2.2); (case side2 => exact (Kd.R_reads' HO130.out).2.1); (case side3 => exact KC_ (Kd.R_reads' HO126.out).2.2); (case side4 => exact (Kd.R_reads' HO126.out).2.1); rintro e w' ⟨rfl, ⟨nd, rfl⟩⟩; have hnb78 := NB123_109.out; have hnc78 := NB109_123.out; have hcz79_0 : w62.cell? ⟨gb123, 0, none⟩ = some (.int .i64 t116) := (blk_cell BK123.out 0).trans rfl; have hcz79_1 : w62.cell? ⟨gb123, 1, none⟩ = some (.slice Ao51 t117.length co51) := (blk_cell BK123.out 1).trans rfl; have hfz79_0 := blk_frozen BK123.out 0; have hfz79_1 := blk_frozen BK123.out 1))
             go_meet
             case rel => exact ⟨_, (true), E_, H', ⟨by have := HJ2.out; have := HJ9.out; first | omega | exact Nat.le_refl _⟩, ⟨by (with_reducible repeat (first | apply Kd.R_alloc | apply Kd.R_drewN | apply Kd.R_drew)); exact Kd.R_mono HO122.out (fun _ hk => hk.1.1.1.1.1.2)⟩, ⟨by (with_reducible repeat (first | apply Kd.R_alloc | apply Kd.R_drewN | apply Kd.R_drew)); exact Kd.R_mono HO126.out (fun _ hk => hk.1.1.1.1.1.2)⟩, ⟨by (with_reducible repeat (first | apply Kd.N_alloc | apply Kd.N_drewN | apply Kd.N_drew)); exact Kd.N_mono HO_110001.out (fun _ hk => ⟨hk.1.1.1.1.2, ⟨hk.1.1.2, ⟨hk.1.1.1.1.1.2, ⟨hk.1.1.1.1.1.1, hk.1.1.1.2⟩⟩⟩⟩)⟩, ⟨by (with_reducible repeat (first | apply Kd.N_alloc | apply Kd.N_drewN | apply Kd.N_drew)); exact Kd.N_mono HO119.out (fun _ hk => ⟨hk.1.1.1.1.1, ⟨hk.1.1.2, ⟨hk.1.1.1.1.2.1, ⟨hk.1.1.1.1.2.2, hk.1.1.1.2⟩⟩⟩⟩)⟩, ⟨KB_ BK109.out⟩, ⟨KB_ BK123.out⟩, ⟨B2_ HB.out GE109.out GE123.out⟩⟩
          ·rw [if_neg c67] at H
           have c67b0 : (t133 == 0) = false := beq_eq_false_iff_ne.mpr c67
           have c67b1 : (t133 != 0) = true := bne_iff_ne.mpr c67
           have H' := Aside0.mk H
           clear H
           obtain ⟨Ao80, co80, eo80⟩ := Kd.R_slice HO130.out
           subst eo80
           go_wp2_with (first | (go_at_call 14; (with_reducible refine (z14.calls kj9 _ _ t128 _ _ t124 true _ ?side1 ?side2 ?side3 ?side4 A65.out).mono ?_); (case side1 => exact KC_ (Kd.R_reads' HO130.out).2.2); (case side2 => exact (Kd.R_reads' HO130.out).2.1); (case side3 => exact KC_ (Kd.R_reads' HO126.out).2.2); (case side4 => exact (Kd.R_reads' HO126.out).2.1); rintro e w' ⟨rfl, ⟨nd, rfl⟩⟩))
           go_meet
           case rel => exact ⟨_, (true), E_, H', ⟨by have := HJ2.out; have := HJ9.out; first | omega | exact Nat.le_refl _⟩, ⟨by (with_reducible repeat (first | apply Kd.R_alloc | apply Kd.R_drewN | apply Kd.R_drew)); exact Kd.R_mono HO122.out (fun _ hk => hk.1.1.1.1.1.2)⟩, ⟨by (with_reducible repeat (first | apply Kd.R_alloc | apply Kd.R_drewN | apply Kd.R_drew)); exact Kd.R_mono HO126.out (fun _ hk => hk.1.1.1.1.1.2)⟩, ⟨by (with_reducible repeat (first | apply Kd.N_alloc | apply Kd.N_drewN | apply Kd.N_drew)); exact Kd.N_mono HO_110001.out (fun _ hk => ⟨hk.1.1.1.1.2, ⟨hk.1.1.2, ⟨hk.1.1.1.1.1.2, ⟨hk.1.1.1.1.1.1, hk.1.1.1.2⟩⟩⟩⟩)⟩, ⟨by (with_reducible repeat (first | apply Kd.N_alloc | apply Kd.N_drewN | apply Kd.N_drew)); exact Kd.N_mono HO119.out (fun _ hk => ⟨hk.1.1.1.1.1, ⟨hk.1.1.2, ⟨hk.1.1.1.1.2.1, ⟨hk.1.1.1.1.2.2, hk.1.1.1.2⟩⟩⟩⟩)⟩, ⟨KB_ BK109.out⟩, ⟨KB_ BK123.out⟩, ⟨B2_ HB.out GE109.out GE123.out⟩⟩
         ·replace c66 := Bool.eq_false_iff.mpr c66
          subst c66
          replace H := N_ H
          have H' := Aside0.mk H
          clear H
          obtain ⟨Ao81, co81, eo81⟩ := Kd.R_slice HO130.out
          subst eo81
          go_wp2_with (first | (go_at_call 14; (with_reducible refine (z14.calls kj9 _ _ t128 _ _ t124 false _ ?side1 ?side2 ?side3 ?side4 A65.out).mono ?_); (case side1 => exact KC_ (Kd.R_reads' HO130.out).2.2); (case side2 => exact (Kd.R_reads' HO130.out).2.1); (case side3 => exact KC_ (Kd.R_reads' HO126.out).2.2); (case side4 => exact (Kd.R_reads' HO126.out).2.1); rintro e w' ⟨rfl, ⟨nd, rfl⟩⟩))
          go_meet
          case rel => exact ⟨_, (true), E_, H', ⟨by have := HJ2.out; have := HJ9.out; first | omega | exact Nat.le_refl _⟩, ⟨by (with_reducible repeat (first | apply Kd.R_alloc | apply Kd.R_drewN | apply Kd.R_drew)); exact Kd.R_mono HO122.out (fun _ hk => hk.1.1.1.1.1.2)⟩, ⟨by (with_reducible repeat (first | apply Kd.R_alloc | apply Kd.R_drewN | apply Kd.R_drew)); exact Kd.R_mono HO126.out (fun _ hk => hk.1.1.1.1.1.2)⟩, ⟨by (with_reducible repeat (first | apply Kd.N_alloc | apply Kd.N_drewN | apply Kd.N_drew)); exact Kd.N_mono HO_110001.out (fun _ hk => ⟨hk.1.1.1.1.2, ⟨hk.1.1.2, ⟨hk.1.1.1.1.1.2, ⟨hk.1.1.1.1.1.1, hk.1.1.1.2⟩⟩⟩⟩)⟩, ⟨by (with_reducible repeat (first | apply Kd.N_alloc | apply Kd.N_drewN | apply Kd.N_drew)); exact Kd.N_mono HO119.out (fun _ hk => ⟨hk.1.1.1.1.1, ⟨hk.1.1.2, ⟨hk.1.1.1.1.2.1, ⟨hk.1.1.1.1.2.2, hk.1.1.1.2⟩⟩⟩⟩)⟩, ⟨KB_ BK109.out⟩, ⟨KB_ BK123.out⟩, ⟨B2_ HB.out GE109.out GE123.out⟩⟩
        ·rw [if_neg c64] at H
         have c64b0 : (t131 == 0) = false := beq_eq_false_iff_ne.mpr c64
         have c64b1 : (t131 != 0) = true := bne_iff_ne.mpr c64
         (first | rw [c64b0] | (simp only [i64_w, i32_w]; rw [c64b0]) | skip)
         have H' := Aside0.mk H
         clear H
         go_wp2
         go_meet
         case rel => exact ⟨_, (true), E_, H', ⟨by have := HJ2.out; have := HJ9.out; first | omega | exact Nat.le_refl _⟩, ⟨by (with_reducible repeat (first | apply Kd.R_alloc | apply Kd.R_drewN | apply Kd.R_drew)); exact Kd.R_mono HO122.out (fun _ hk => hk.1.1.1.1.1.2)⟩, ⟨by (with_reducible repeat (first | apply Kd.R_alloc | apply Kd.R_drewN | apply Kd.R_drew)); exact Kd.R_mono HO126.out (fun _ hk => hk.1.1.1.1.1.2)⟩, ⟨by (with_reducible repeat (first | apply Kd.N_alloc | apply Kd.N_drewN | apply Kd.N_drew)); exact Kd.N_mono HO_110001.out (fun _ hk => ⟨hk.1.1.1.1.2, ⟨hk.1.1.2, ⟨hk.1.1.1.1.1.2, ⟨hk.1.1.1.1.1.1, hk.1.1.1.2⟩⟩⟩⟩)⟩, ⟨by (with_reducible repeat (first | apply Kd.N_alloc | apply Kd.N_drewN | apply Kd.N_drew)); exact Kd.N_mono HO119.out (fun _ hk => ⟨hk.1.1.1.1.1, ⟨hk.1.1.2, ⟨hk.1.1.1.1.2.1, ⟨hk.1.1.1.1.2.2, hk.1.1.1.2⟩⟩⟩⟩)⟩, ⟨KB_ BK109.out⟩, ⟨KB_ BK123.out⟩, ⟨B2_ HB.out GE109.out GE123.out⟩⟩
       case rest =>
        clear HC46
        (try clear c1);(try clear c2);(try clear p2);(try clear c3);(try clear c4);(try clear c5);(try clear c6);(try clear p6);(try clear c7);(try clear c8);(try clear c9);(try clear c10);(try clear c11);(try clear c12);(try clear c13);(try clear c16);(try clear c16b0);(try clear c16b1);(try clear c17);(try clear c17b0);(try clear c21);(try clear c29);(try clear c31);(try clear c31b0);(try clear c31b1);(try clear c34);(try clear c34b0);(try clear c34b1);(try clear c35);(try clear c35b0);(try clear c35b1);(try clear c36);(try clear c36b0);(try clear c36b1);(try clear c38);(try clear c38b0);(try clear c38b1);(try clear c42);(try clear c42b0);(try clear c42b1);(try clear c49);(try clear c64);(try clear c64b0);(try clear c64b1);(try clear p64);(try clear c66);(try clear c67);(try clear c67b0);(try clear c67b1);(try clear c68);(try clear c68b0);(try clear c70);(try clear c72);(try clear c72b0);(try clear c72b1)
        (try clear c74);(try clear c78);(try clear hcz13_0);(try clear hcz13_1);(try clear hcz19_0);(try clear hcz19_1);(try clear hcz23_0);(try clear hcz23_1);(try clear hcz25_0);(try clear hcz25_1);(try clear hcz27_0);(try clear hcz27_1);(try clear hcz32_0);(try clear hcz32_1);(try clear hcz37_0);(try clear hcz37_1);(try clear hcz39_0);(try clear hcz39_1);(try clear hcz50_0);(try clear hcz50_1);(try clear hcz55_0);(try clear hcz55_1);(try clear hcz59_0);(try clear hcz59_1);(try clear hcz61_0);(try clear hcz61_1);(try clear hcz71_0);(try clear hcz71_1);(try clear hcz75_0);(try clear hcz75_1);(try clear hcz79_0);(try clear hcz79_1);(try clear hfz13_0);(try clear hfz13_1);(try clear hfz19_0);(try clear hfz19_1);(try clear hfz23_0);(try clear hfz23_1);(try clear hfz25_0);(try clear hfz25_1);(try clear hfz27_0);(try clear hfz27_1);(try clear hfz32_0);(try clear hfz32_1);(try clear hfz37_0);(try clear hfz37_1)
        (try clear hfz39_0);(try clear hfz39_1);(try clear hfz50_0);(try clear hfz50_1);(try clear hfz55_0);(try clear hfz55_1);(try clear hfz59_0);(try clear hfz59_1);(try clear hfz61_0);(try clear hfz61_1);(try clear hfz71_0);(try clear hfz71_1);(try clear hfz75_0);(try clear hfz75_1);(try clear hfz79_0);(try clear hfz79_1);(try clear p2);(try clear p6)
        obtain ⟨kq, x157_45, rfl, HA, HJ45, HO_15, HO_16, HO_110001, HO_124001, BK109, BK123, HB⟩ := hcut
        cases kq with
        | zero => exact absurd HA.out (by simp [z3.j4])
        | succ kj45 =>
         have H := HA.out
         clear HA
         simp only [z3.j4] at H
         by_cases c82 : x157_45 = true
         ·subst c82
          replace H := T_ H
          exact absurd (H.trans (congrArg some ht_)) (by simp)
         ·replace c82 := Bool.eq_false_iff.mpr c82
          subst c82
          replace H := N_ H
          have H' := Aside0.mk H
          clear H
          go_wp2
          go_loopg [24] kj45 (fun kq v24 w' => ∃ (x24_4 : Int), v24 = .int .i64 x24_4 ∧ Aside0 (z3.l1 kq t120 t124 x24_4 = some r) ∧ Aside0 (kq ≤ kj45) ∧ Aside0 (Kd.R (Kd.int .i64) 2 w' w.heap.size (fun k_ => some k_ ≠ ((.slice Ao56 t124.length co56) : Value).ownBlock) (.slice Ao52 t120.length co52) t120) ∧ Aside0 (Kd.R (Kd.int .i64) 2 w' w.heap.size (fun k_ => some k_ ≠ ((.slice Ao52 t120.length co52) : Value).ownBlock) (.slice Ao56 t124.length co56) t124) ∧ Aside0 (Kd.N (Kd.slice 2 (Kd.int .i64)) 32 w' w.heap.size (fun k_ => some k_ ≠ ((.slice Ao52 t120.length co52) : Value).ownBlock ∧ some k_ ≠ ((.slice Ao56 t124.length co56) : Value).ownBlock ∧ some k_ ≠ ((.slice Ao51 t117.length co51) : Value).ownBlock ∧ k_ ≠ gb109 ∧ k_ ≠ gb123) (.slice Ao14 t104.length co14) t104) ∧ Aside0 (Kd.N (Kd.slice 2 (Kd.int .i64)) 32 w' w.heap.size (fun k_ => some k_ ≠ ((.slice Ao52 t120.length co52) : Value).ownBlock ∧ some k_ ≠ ((.slice Ao56 t124.length co56) : Value).ownBlock ∧ some k_ ≠ ((.slice Ao14 t104.length co14) : Value).ownBlock ∧ k_ ≠ gb109 ∧ k_ ≠ gb123) (.slice Ao51 t117.length co51) t117) ∧ Aside0 (w'.heap[gb109]? = some (.cells #[.int .i64 t103, (.slice Ao14 t104.length co14)] 26 (0, 0))) ∧ Aside0 (w'.heap[gb123]? = some (.cells #[.int .i64 t116, (.slice Ao51 t117.length co51)] 26 (0, 0))) ∧ Aside0 (Below w.heap.size w w'))
          case atStart => exact ⟨(0), E_, H', ⟨Nat.le_refl _⟩, ⟨KR_ HO_15.out⟩, ⟨KR_ HO_16.out⟩, ⟨KN_ HO_110001.out⟩, ⟨KN_ HO_124001.out⟩, ⟨KB_ BK109.out⟩, ⟨KB_ BK123.out⟩, ⟨B2_ HB.out GE109.out GE123.out⟩⟩
          case round =>
           clear H'
           (try clear c1);(try clear c2);(try clear p2);(try clear c3);(try clear c4);(try clear c5);(try clear c6);(try clear p6);(try clear c7);(try clear c8);(try clear c9);(try clear c10);(try clear c11);(try clear c12);(try clear c13);(try clear c16);(try clear c16b0);(try clear c16b1);(try clear c17);(try clear c17b0);(try clear c21);(try clear c29);(try clear c31);(try clear c31b0);(try clear c31b1);(try clear c34);(try clear c34b0);(try clear c34b1);(try clear c35);(try clear c35b0);(try clear c35b1);(try clear c36);(try clear c36b0);(try clear c36b1);(try clear c38);(try clear c38b0);(try clear c38b1);(try clear c42);(try clear c42b0);(try clear c42b1);(try clear c49);(try clear c64);(try clear c64b0);(try clear c64b1);(try clear p64);(try clear c66);(try clear c67);(try clear c67b0);(try clear c67b1);(try clear c68);(try clear c68b0);(try clear c70);(try clear c72);(try clear c72b0);(try clear c72b1)
           (try clear c74);(try clear c78);(try clear c82);(try clear hcz13_0);(try clear hcz13_1);(try clear hcz19_0);(try clear hcz19_1);(try clear hcz23_0);(try clear hcz23_1);(try clear hcz25_0);(try clear hcz25_1);(try clear hcz27_0);(try clear hcz27_1);(try clear hcz32_0);(try clear hcz32_1);(try clear hcz37_0);(try clear hcz37_1);(try clear hcz39_0);(try clear hcz39_1);(try clear hcz50_0);(try clear hcz50_1);(try clear hcz55_0);(try clear hcz55_1);(try clear hcz59_0);(try clear hcz59_1);(try clear hcz61_0);(try clear hcz61_1);(try clear hcz71_0);(try clear hcz71_1);(try clear hcz75_0);(try clear hcz75_1);(try clear hcz79_0);(try clear hcz79_1);(try clear hfz13_0);(try clear hfz13_1);(try clear hfz19_0);(try clear hfz19_1);(try clear hfz23_0);(try clear hfz23_1);(try clear hfz25_0);(try clear hfz25_1);(try clear hfz27_0);(try clear hfz27_1);(try clear hfz32_0);(try clear hfz32_1);(try clear hfz37_0)
           (try clear hfz37_1);(try clear hfz39_0);(try clear hfz39_1);(try clear hfz50_0);(try clear hfz50_1);(try clear hfz55_0);(try clear hfz55_1);(try clear hfz59_0);(try clear hfz59_1);(try clear hfz61_0);(try clear hfz61_1);(try clear hfz71_0);(try clear hfz71_1);(try clear hfz75_0);(try clear hfz75_1);(try clear hfz79_0);(try clear hfz79_1);(try clear p2);(try clear p6);(try clear p64)
           obtain ⟨x24_4, rfl, HA, HK4, HO_15, HO_16, HO_110001, HO_124001, BK109, BK123, HB⟩ := hrel
           cases gk with
           | zero => exact absurd HA.out (by simp [z3.l1])
           | succ k4 =>
            have H := HA.out
            clear HA
            simp only [z3.l1] at H
            by_cases c83 : x24_4 < (t120.length : Int)
            ·rw [if_pos c83] at H
             have c83b0 : decide (x24_4 < (t120.length : Int)) = true := decide_eq_true c83
             clear c83
             have c84 := O1_ H
             replace H := O2_ H
             have c84b0 := decide_eq_true c84
             clear c84
             replace H := Option.bind_eq_some_iff.mp H
             obtain ⟨t140, A850, H⟩ := H
             have A85 := Aside0.mk A850
             clear A850
             by_cases c86 : t140 = true
             ·subst c86
              replace H := T_ H
              have H' := Aside0.mk H
              clear H
              have p139 : 0 ≤ (x24_4 : Int) := D_
              have q139 : x24_4 < (t120.length : Int) := D_
              obtain ⟨ad139, e139, hx139_0⟩ := Kd.at_int (Kd.R_reads' HO_15.out).2.2 x24_4 p139 q139
              cases e139
              replace p139 := eq_true p139
              replace q139 := eq_true q139
              go_wp2_with (first | ((with_reducible refine gate_callee (f := 15) rfl ?_); refine goesL_ (some 169) rfl rfl Try.func15 (by kernel_rfl) rfl #[.slice Ao56 t124.length co56, .int .i64 (rd t120 x24_4)] rfl (by (try simp only [List.map_toArray, List.map_cons, List.map_nil]); first | done | rfl | (simp only [List.length_drop, List.length_take]; rfl)) ?_; (with_reducible refine (z15.calls k4 _ _ t124 (rd t120 x24_4) true _ ?side1 ?side2 A85.out).mono ?_); (case side1 => exact KC_ (Kd.R_reads' HO_16.out).2.2); (case side2 => exact (Kd.R_reads' HO_16.out).2.1); rintro e w' ⟨rfl, ⟨nd, rfl⟩⟩; refine ⟨_, rfl, ?_⟩))
              go_roundg k4
              case measure => have := HJ2.out; have := HJ9.out; have := HJ45.out; have := HK4.out; omega
              case rel => exact ⟨(wrap64 (x24_4 + 1)), E_, H', ⟨by have := HJ2.out; have := HJ9.out; have := HJ45.out; have := HK4.out; omega⟩, ⟨KR_ HO_15.out⟩, ⟨KR_ HO_16.out⟩, ⟨KN_ HO_110001.out⟩, ⟨KN_ HO_124001.out⟩, ⟨KB_ BK109.out⟩, ⟨KB_ BK123.out⟩, ⟨B2_ HB.out GE109.out GE123.out⟩⟩
             ·replace c86 := Bool.eq_false_iff.mpr c86
              subst c86
              replace H := N_ H
              exact absurd (H.trans (congrArg some ht_)) (by simp)
            ·rw [if_neg c83] at H
             have c83b0 : decide (x24_4 < (t120.length : Int)) = false := decide_eq_false c83
             clear c83
             obtain rfl := Option.some.inj H
             go_wp2
             go_ret
             exact ⟨F_, B2_ HB.out GE109.out GE123.out⟩
      ·rw [if_neg c42] at H
       have c42b0 : (t127 == 0) = false := beq_eq_false_iff_ne.mpr c42
       have c42b1 : (t127 != 0) = true := bne_iff_ne.mpr c42
       obtain rfl := Option.some.inj H
       go_wp2_with (first | ((with_reducible refine gate_callee (f := 10) rfl ?_); refine goesL_ (some 96) rfl rfl Try.func10 (by kernel_rfl) rfl #[.slice A1 l1.length c1] rfl (by (try simp only [List.map_toArray, List.map_cons, List.map_nil]); first | done | rfl | (simp only [List.length_drop, List.length_take]; rfl)) ?_; (with_reducible refine (z10.calls kj9 _ _ l1 t116 t117 t120 _ ?side1 ?side2 A40.out).mono ?_); (case side1 => exact KC_ (Kd.C_below HR1.out HB.out)); (case side2 => exact HC1.out); rintro e w87 ⟨v118, v121, rfl, ho0, ho1, hb⟩; refine ⟨_, rfl, ?_⟩; have n0_ := Aside0.mk (Kd.N_mono (Kd.N_told (Kd.N_told (Kd.N_old (KN_ HO_110001.out) hb) (Kd.N_base ho0)) (Kd.R_base ho1)) (fun _ h_ => h_.1)); have n1_ := Aside0.mk (Kd.N_lower (Kd.N_mono (ok' := fun k_ => some k_ ≠ (v121 : Value).ownBlock ∧ some k_ ≠ (.slice Ao14 t104.length co14 : Value).ownBlock ∧ k_ ≠ gb109) ho0 (fun k_ hk_ => ⟨hk_.2, (Kd.fresh' (Kd.N_lt (KN_ HO_110001.out)) k_ hk_.1), (Kd.freshB (g := gb109) (o := .cells #[.int .i64 t103, .slice Ao14 t104.length co14] 26 (0, 0)) (KB_ BK109.out) k_ hk_.1)⟩)) (below_size (B1_ HB.out GE109.out))); have n2_ := Aside0.mk (Kd.R_lower (Kd.R_mono (ok' := fun k_ => True) ho1 (fun _ hk_ => trivial)) (below_size (B1_ HB.out GE109.out))); have n3_ := Aside0.mk (blk_below (g := gb109) (o := .cells #[.int .i64 t103, .slice Ao14 t104.length co14] 26 (0, 0)) (KB_ BK109.out) hb); have n4_ := Aside0.mk (below_step (B1_ HB.out GE109.out) hb); clear HO_110001; clear BK109; clear HB; have HO_110001 := n0_; have HO119 := n1_; have HO122 := n2_; have BK109 := n3_; have HB := n4_; clear n0_ n1_ n2_ n3_ n4_; (try clear hb); (try clear hb2); (try clear hk); (try clear hi); (try clear ho0); (try clear ho1)) | ((with_reducible refine gate_dst (N := 14) rfl ?_); (try (refine gate_guard (by rfl) ?_; dsimp only)); refine box_event ?hg (N := 14) ?hd (cs := #[.int .i64 0, .slice none 0 0]) (t := 26) ?hr ?_; (case hd => rfl); (case hg => rfl); (case hr => first | (go_simp; done) | (go_simp; rfl)); intro gb123 hg w88 hbox hb; have n0_ := Aside0.mk (Kd.N_below (Kd.N_elderB (KN_ HO_110001.out) gb123 (Nat.le_of_eq hg.symm)) hb); have n1_ := Aside0.mk (Kd.N_below (Kd.N_elderB (KN_ HO119.out) gb123 (Nat.le_of_eq hg.symm)) hb); have n2_ := Aside0.mk (Kd.R_below (KR_ HO122.out) hb); have n3_ := Aside0.mk (blk_below (g := gb109) (o := .cells #[.int .i64 t103, .slice Ao14 t104.length co14] 26 (0, 0)) (KB_ BK109.out) hb); have n4_ := Aside0.mk (below_step (B1_ HB.out GE109.out) hb); have n5_ := Aside0.mk (hbox); have n6_ := Aside0.mk ((by rw [hg]; exact (below_size (B1_ HB.out GE109.out)) : w.heap.size ≤ gb123)); have n7_ := Aside0.mk ((by rw [hg]; exact (below_size (B1_ HB.out GE109.out)) : w.heap.size ≤ gb123)); have n8_ := Aside0.mk ((by rw [hg]; exact Nat.ne_of_lt (blk_lt (g := gb109) (o := .cells #[.int .i64 t103, .slice Ao14 t104.length co14] 26 (0, 0)) (KB_ BK109.out)) : gb109 ≠ gb123)); have n9_ := Aside0.mk ((by rw [hg]; exact Nat.ne_of_gt (blk_lt (g := gb109) (o := .cells #[.int .i64 t103, .slice Ao14 t104.length co14] 26 (0, 0)) (KB_ BK109.out)) : gb123 ≠ gb109)); clear HO_110001; clear HO119; clear HO122; clear BK109; clear HB; have HO_110001 := n0_; have HO119 := n1_; have HO122 := n2_; have BK109 := n3_; have HB := n4_; have BK123 := n5_; have GW123 := n6_; have GE123 := n7_; have NB109_123 := n8_; have NB123_109 := n9_; clear n0_ n1_ n2_ n3_ n4_ n5_ n6_ n7_ n8_ n9_; clear hb hbox hg; have hnb89 := NB123_109.out; have hnc89 := NB109_123.out; have hcz90_0 : w88.cell? ⟨gb123, 0, none⟩ = some (.int .i64 0) := (blk_cell BK123.out 0).trans rfl; have hcz90_1 : w88.cell? ⟨gb123, 1, none⟩ = some (.slice none 0 0) := (blk_cell BK123.out 1).trans rfl; have hfz90_0 := blk_frozen BK123.out 0; have hfz90_1 := blk_frozen BK123.out 1; obtain ⟨Ao91, co91, eo91⟩ := Kd.N_slice HO119.out; subst eo91; obtain ⟨Ao92, co92, eo92⟩ := Kd.R_slice HO122.out; subst eo92) | ((with_reducible refine gate_callee (f := 11) rfl ?_); refine goesL_ (some 102) rfl rfl Try.func11 (by kernel_rfl) rfl #[.agg #[.int .i64 t116, .slice Ao91 t117.length co91], .slice Ao92 t120.length co92] rfl (by (try simp only [List.map_toArray, List.map_cons, List.map_nil]); first | done | rfl | (simp only [List.length_drop, List.length_take]; rfl)) ?_; (with_reducible refine (z11.calls kj9 t116 _ _ t117 _ _ t120 t124 t127 _ ?side1 ?side2 ?side3 ?side4 A41.out).mono ?_); (case side1 => refine (Kd.N_reads' (e := 32) (base := w.heap.size) (ok := fun k_ => ((some k_ ≠ (.slice Ao92 t120.length co92 : Value).ownBlock ∧ (some k_ ≠ (.slice Ao14 t104.length co14 : Value).ownBlock ∧ k_ ≠ gb109)) ∧ k_ ≠ gb123)) (n := t117.length) (c := co91) ?_).2.2; exact (by (with_reducible repeat (first | apply Kd.N_alloc | apply Kd.N_drewN | apply Kd.N_drew)); exact (Kd.N_mono (Kd.N_far (p := ⟨gb123, 1, none⟩) (Kd.N_far (p := ⟨gb123, 0, none⟩) (Kd.N_mono HO119.out (fun k_ hk => (⟨hk, hk.2⟩ : _ ∧ k_ ≠ gb123))) (fun _ hk => hk.2) (.int .i64 t116)) (fun _ hk => hk.2) (.slice Ao91 t117.length co91)) (fun _ h_ => h_.1)))); (case side2 => exact (Kd.N_reads' HO119.out).2.1); (case side3 => refine (Kd.R_reads' (e := 2) (base := w.heap.size) (ok := fun k_ => True) (n := t120.length) (c := co92) ?_).2.2; exact (by (with_reducible repeat (first | apply Kd.R_alloc | apply Kd.R_drewN | apply Kd.R_drew)); exact (Kd.R_mono (Kd.R_far (p := ⟨gb123, 1, none⟩) (Kd.R_far (p := ⟨gb123, 0, none⟩) (Kd.R_types HO122.out BK123.out (by decide)) (fun _ hk => hk.2) (.int .i64 t116)) (fun _ hk => hk.2) (.slice Ao91 t117.length co91)) (fun _ h_ => h_.1)))); (case side4 => exact (Kd.R_reads' HO122.out).2.1); rintro e w93 ⟨v125, rfl, ho0, hb⟩; refine ⟨_, rfl, ?_⟩; obtain ⟨nan94, hnan94⟩ := Kd.size_letter hb; have n0_ := Aside0.mk (Kd.N_elder' (by (with_reducible repeat (first | apply Kd.N_alloc | apply Kd.N_drewN | apply Kd.N_drew)); exact (Kd.N_mono (Kd.N_far (p := ⟨gb123, 1, none⟩) (Kd.N_far (p := ⟨gb123, 0, none⟩) (Kd.N_mono HO_110001.out (fun k_ hk => (⟨hk, hk.2⟩ : _ ∧ k_ ≠ gb123))) (fun _ hk => hk.2) (.int .i64 t116)) (fun _ hk => hk.2) (.slice Ao91 t117.length co91)) (fun _ h_ => h_.1))) (Kd.R_base ho0) hb); have n1_ := Aside0.mk (Kd.N_elder' (by (with_reducible repeat (first | apply Kd.N_alloc | apply Kd.N_drewN | apply Kd.N_drew)); exact (Kd.N_mono (Kd.N_far (p := ⟨gb123, 1, none⟩) (Kd.N_far (p := ⟨gb123, 0, none⟩) (Kd.N_mono HO119.out (fun k_ hk => (⟨hk, hk.2⟩ : _ ∧ k_ ≠ gb123))) (fun _ hk => hk.2) (.int .i64 t116)) (fun _ hk => hk.2) (.slice Ao91 t117.length co91)) (fun _ h_ => h_.1))) (Kd.R_base ho0) hb); have n2_ := Aside0.mk (Kd.R_told (Kd.R_oldN (by (with_reducible repeat (first | apply Kd.R_alloc | apply Kd.R_drewN | apply Kd.R_drew)); exact (Kd.R_mono (Kd.R_far (p := ⟨gb123, 1, none⟩) (Kd.R_far (p := ⟨gb123, 0, none⟩) (Kd.R_types HO122.out BK123.out (by decide)) (fun _ hk => hk.2) (.int .i64 t116)) (fun _ hk => hk.2) (.slice Ao91 t117.length co91)) (fun _ h_ => h_.1))) hb hnan94) (Kd.R_baseN ho0 hnan94)); have n3_ := Aside0.mk (Kd.R_lower (Kd.R_geN (Kd.R_new' ho0 (Kd.R_lt (by (with_reducible repeat (first | apply Kd.R_alloc | apply Kd.R_drewN | apply Kd.R_drew)); exact (Kd.R_mono (Kd.R_far (p := ⟨gb123, 1, none⟩) (Kd.R_far (p := ⟨gb123, 0, none⟩) (Kd.R_types HO122.out BK123.out (by decide)) (fun _ hk => hk.2) (.int .i64 t116)) (fun _ hk => hk.2) (.slice Ao91 t117.length co91)) (fun _ h_ => h_.1))))) hnan94) (below_size (B2_ HB.out GE109.out GE123.out))); have n4_ := Aside0.mk (blk_below (g := gb109) (o := .cells #[.int .i64 t103, .slice Ao14 t104.length co14] 26 (0, 0)) (by (with_reducible repeat (first | refine blk_drewN ?_ _ | refine blk_drew ?_ | refine blk_alloc ?_ _)); refine blk_far ?_ NB109_123.out _; (with_reducible repeat (first | refine blk_drewN ?_ _ | refine blk_drew ?_ | refine blk_alloc ?_ _)); refine blk_far ?_ NB109_123.out _; (with_reducible repeat (first | refine blk_drewN ?_ _ | refine blk_drew ?_ | refine blk_alloc ?_ _)); exact BK109.out) hb); have n5_ := Aside0.mk (blk_below (g := gb123) (o := .cells #[.int .i64 t116, .slice Ao91 t117.length co91] 26 (0, 0)) (by (with_reducible repeat (first | refine blk_drewN ?_ _ | refine blk_drew ?_ | refine blk_alloc ?_ _)); refine blk_put (cs := #[.int .i64 t116, .slice none 0 0]) ?_ 1 _ rfl; (with_reducible repeat (first | refine blk_drewN ?_ _ | refine blk_drew ?_ | refine blk_alloc ?_ _)); refine blk_put (cs := #[.int .i64 0, .slice none 0 0]) ?_ 0 _ rfl; (with_reducible repeat (first | refine blk_drewN ?_ _ | refine blk_drew ?_ | refine blk_alloc ?_ _)); exact BK123.out) hb); have n6_ := Aside0.mk (below_step (B2_ HB.out GE109.out GE123.out) hb); clear HO_110001; clear HO119; clear HO122; clear BK109; clear BK123; clear HB; have HO_110001 := n0_; have HO119 := n1_; have HO122 := n2_; have HO126 := n3_; have BK109 := n4_; have BK123 := n5_; have HB := n6_; clear n0_ n1_ n2_ n3_ n4_ n5_ n6_; (try clear hb); (try clear hb2); (try clear hk); (try clear hi); (try clear ho0); obtain ⟨Ao95, co95, eo95⟩ := Kd.R_slice HO126.out; subst eo95))
       go_ret
       exact ⟨F_, B2_ HB.out GE109.out GE123.out⟩
end Go.Proofs.Ytagefgkneandpaa.B
