/- Printed proofs of functions of the program and of the reference, by a program of this work over the kit's printer. -/
import Derived.Test.YtnohkeijhfjbeaaKGPBBGI0
import Derived.Test.YtnohkeijhfjbeaaKIGNEMA0
import Derived.Test.YtnohkeijhfjbeaaKJACNBM0
import Derived.Test.YtnohkeijhfjbeaaKW0
namespace Go.Proofs.Ytnohkeijhfjbeaa.B
open Go.RowKit Go.Proofs.YtnohkeijhfjbeaaW.PrintWords Go.Proofs.YtnohkeijhfjbeaaW.PrintLast Go.Proofs.YtnohkeijhfjbeaaW.PrintMore
attribute [local go_sem] max2_int min2_int max_two min_two max_three min_three max_four min_four
set_option linter.unusedVariables false
set_option linter.unusedSimpArgs false
def z69.f (k : Nat) (a0_0 : Int) (l0_1 : List (List Int)) : Option ((List (List Bool))) := (z61.f k a0_0 l0_1).bind fun t102 => (some t102)
set_option maxHeartbeats 8000000 in
set_option maxRecDepth 100000 in
theorem z69.calls (k : Nat) (a0_0 : Int) (A0_1 : Option Addr) (c0_1 : Nat) (l0_1 : List (List Int)) (r : List (List Bool)) (w : World) (hr0_1 : Kd.C (Kd.slice 2 (Kd.int .i64)) w A0_1 l0_1.length l0_1) (hc0_1 : l0_1.length ≤ c0_1) (h : z69.f k a0_0 l0_1 = some r) :
  Calls Try.prog 69 #[.agg #[.int .i64 a0_0, .slice A0_1 l0_1.length c0_1]] w fun e w' => ∃ v0_ : Value, e = .returned (v0_) ∧ Kd.S (Kd.slice 4 Kd.bool) 65 w' w.heap.size (fun _ => True) v0_ r ∧ Below w.heap.size w w' := by
 have hu27 := Try.underlying27
 have HR0_1 := Aside0.mk hr0_1
 have HC0_1 := Aside0.mk hc0_1
 clear hr0_1 hc0_1
 have HB := Aside0.mk (Below.refl w.heap.size w)
 have H : ((z61.f k a0_0 l0_1).bind fun t102 => (some t102)) = some r := h
 clear h
 replace H := Option.bind_eq_some_iff.mp H
 obtain ⟨t102, A20, H⟩ := H
 have A2 := Aside0.mk A20
 clear A20
 obtain rfl := Option.some.inj H
 go_enter Try.func69, Try.ntmps69
 go_wp2_with (first | ((with_reducible refine gate_dst (N := 1) rfl ?_); refine box_event ?hg (N := 1) ?hd (cs := #[.int .i64 a0_0, .slice A0_1 l0_1.length c0_1]) (t := 27) ?hr ?_; (case hd => rfl); (case hg => rfl); (case hr => first | (go_simp; done) | (go_simp; rfl)); intro gb101 hg w3 hbox hb; have n0_ := Aside0.mk (below_step (B_ HB.out) hb); have n1_ := Aside0.mk (hbox); have n2_ := Aside0.mk ((by rw [hg]; exact (below_size (B_ HB.out)) : w.heap.size ≤ gb101)); have n3_ := Aside0.mk ((by rw [hg]; exact (below_size (B_ HB.out)) : w.heap.size ≤ gb101)); clear HB; have HB := n0_; have BK101 := n1_; have GW101 := n2_; have GE101 := n3_; clear n0_ n1_ n2_ n3_; clear hb hbox hg; have hcz4_0 : w3.cell? ⟨gb101, 0, none⟩ = some (.int .i64 a0_0) := (blk_cell BK101.out 0).trans rfl; have hcz4_1 : w3.cell? ⟨gb101, 1, none⟩ = some (.slice A0_1 l0_1.length c0_1) := (blk_cell BK101.out 1).trans rfl; have hfz4_0 := blk_frozen BK101.out 0; have hfz4_1 := blk_frozen BK101.out 1) | ((with_reducible refine gate_callee (f := 61) rfl ?_); refine goesL_ (some 7) rfl rfl Try.func61 (by kernel_rfl) rfl #[.int .i64 a0_0, .slice A0_1 l0_1.length c0_1] rfl (by (try simp only [List.map_toArray, List.map_cons, List.map_nil]); first | done | rfl | (simp only [List.length_drop, List.length_take]; rfl)) ?_; (with_reducible refine (z61.calls k a0_0 _ _ l0_1 t102 _ ?side1 ?side2 A2.out).mono ?_); (case side1 => exact KC_ (Kd.C_below HR0_1.out HB.out)); (case side2 => exact HC0_1.out); rintro e w5 ⟨v103, rfl, ho0, hb⟩; refine ⟨_, rfl, ?_⟩; have HO104 := Aside0.mk (Kd.S_lower ho0 (below_size (B1_ HB.out GE101.out))); replace BK101 := Aside0.mk (blk_below (g := gb101) (o := .cells #[.int .i64 a0_0, .slice A0_1 l0_1.length c0_1] 27 (0, 0)) (KB_ BK101.out) hb); replace HB := Aside0.mk (below_step (B1_ HB.out GE101.out) hb); (try clear hb); (try clear hb2); (try clear hk); (try clear hi); (try clear ho0)))
 go_ret
 exact ⟨_, F_, KS_ HO104.out, B1_ HB.out GE101.out⟩
def z67.f (k : Nat) (a0_0 : Int) (l0_1 : List (List Int)) : Option ((List (List Bool))) := (z58.f k a0_0 l0_1).bind fun t101 => (some t101)
def z67.T1 : Bool × List (List Nat × List Nat) := (true, [([], []), ([0], [0]), ([1], [1]), ([2], [2]), ([], []), ([4], [4]), ([5], [5]), ([6], [6]), ([3, 7], [3, 7]), ([8, 8, 0, 1, 2, 3, 4, 5, 6, 7, 8], [8])])
def z67.B1 : List Nat := [0, 1, 3, 7, 0, 16, 48, 112, 255, 511]
theorem z67.tab1 : rtab .any (opsOf Try.f67 1) = z67.T1 := by kernel_rfl
theorem z67.bits1 : waitsOk z67.T1.2 z67.B1 = true := by kernel_rfl
set_option maxHeartbeats 8000000 in
set_option maxRecDepth 100000 in
theorem z67.calls (k : Nat) (gp0 : Nat) (a0_0 : Int) (A0_1 : Option Addr) (c0_1 : Nat) (l0_1 : List (List Int)) (r : List (List Bool)) (w : World) (hbp0 : w.heap[gp0]? = some (.cells #[.int .i64 a0_0, .slice A0_1 l0_1.length c0_1] 27 (0, 0))) (hr0_1 : Kd.C (Kd.slice 2 (Kd.int .i64)) w A0_1 l0_1.length l0_1) (hc0_1 : l0_1.length ≤ c0_1) (h : z67.f k a0_0 l0_1 = some r) :
  Calls Try.prog 67 #[.pointer (some ⟨gp0, 0, none⟩)] w fun e w' => ∃ v0_ : Value, e = .returned (v0_) ∧ Kd.S (Kd.slice 4 Kd.bool) 65 w' w.heap.size (fun _ => True) v0_ r ∧ Below w.heap.size w w' := by
 have HR0_1 := Aside0.mk hr0_1
 have HC0_1 := Aside0.mk hc0_1
 clear hr0_1 hc0_1
 have BK50 := Aside0.mk hbp0
 clear hbp0
 have HB := Aside0.mk (Below.refl w.heap.size w)
 have H : ((z58.f k a0_0 l0_1).bind fun t101 => (some t101)) = some r := h
 clear h
 replace H := Option.bind_eq_some_iff.mp H
 obtain ⟨t101, A20, H⟩ := H
 have A2 := Aside0.mk A20
 clear A20
 obtain rfl := Option.some.inj H
 go_enter Try.func67, Try.ntmps67
 try go_wp2
 replace BK50 := Aside0.mk (blk_drew BK50.out)
 replace HB := Aside0.mk (below_drew1 HB.out)
 refine start_ (n := 10) (S := fun w' => w'.cell? ⟨gp0, 0, none⟩ = some (.int .i64 a0_0) ∧ w'.cell? ⟨gp0, 1, none⟩ = some (.slice A0_1 l0_1.length c0_1)) (ds := []) (tb_ 10 0) (by kernel_rfl) rfl rfl ⟨(blk_cell BK50.out 0).trans rfl, (blk_cell BK50.out 1).trans rfl⟩ (fun hHeld => ?_); refine with_tabW z67.tab1 z67.bits1 (fun HT_ HW_ => ?_)
 generalize w.drew = w3 at BK50 HB hHeld ⊢
 refine PV_ (i := 0) (N := some 3) (tb_ 10 1) HT_ rfl rfl (h := ?_)
 refine PV_ (i := 1) (N := some 4) (tb_ 10 3) HT_ rfl rfl (h := ?_)
 refine PV_ (i := 2) (N := some 5) (tb_ 10 7) HT_ rfl rfl (h := ?_)
 refine PV_ (i := 4) (N := some 7) (tb_ 10 23) HT_ rfl rfl (h := ?_)
 refine PV_ (i := 5) (N := some 8) (tb_ 10 55) HT_ rfl rfl (h := ?_)
 refine PV_ (i := 6) (N := some 9) (tb_ 10 119) HT_ rfl rfl (h := ?_)
 refine TV_ (i := 3) (N := some 6) (tb_ 10 127) HT_ HW_ rfl rfl hHeld (by rintro w' ⟨s0, s1⟩; go_simp; with_reducible rfl) (h := ?_)
 refine TV_ (i := 7) (N := some 10) (tb_ 10 255) HT_ HW_ rfl rfl hHeld (by rintro w' ⟨s0, s1⟩; go_simp; with_reducible rfl) (h := ?_)
 refine one_ (i := 8) (N := some 11) (tb_ 10 511) rfl rfl (one_of HT_.out (by kernel_rfl)) (by decide) (fun K hK => ?_)
 refine GO_ Try.func58 #[.int .i64 a0_0, .slice A0_1 l0_1.length c0_1] (h := ?_)
 with_reducible refine (z58.calls k a0_0 _ _ l0_1 t101 _ ?side1 ?side2 A2.out).mono ?_
 (case side1 => exact KC_ (Kd.C_below HR0_1.out HB.out))
 (case side2 => exact HC0_1.out)
 rintro e w4 ⟨v102, rfl, ho0, hb⟩
 refine ⟨_, rfl, ?_⟩
 have HO103 := Aside0.mk (Kd.S_lower ho0 (below_size (B_ HB.out)))
 replace BK50 := Aside0.mk (blk_below (g := gp0) (o := .cells #[.int .i64 a0_0, .slice A0_1 l0_1.length c0_1] 27 (0, 0)) (KB_ BK50.out) hb)
 replace HB := Aside0.mk (below_step (B_ HB.out) hb)
 (try clear hb);(try clear hb2);(try clear hk);(try clear hi);(try clear ho0)
 refine hK.out _ _ ⟨(blk_cell BK50.out 0).trans rfl, (blk_cell BK50.out 1).trans rfl⟩ (fun hHeld => ?_)
 clear hK K
 refine NM_ (N := (some 11)) (h := ?_)
 refine PV_ (i := 9) (N := some 2) (tb_ 10 1023) HT_ rfl rfl (h := ?_)
 refine done_ (done_of HT_.out (by kernel_rfl)) ?_
 try go_wp2
 go_ret
 exact ⟨_, F_, KS_ HO103.out, B_ HB.out⟩
end Go.Proofs.Ytnohkeijhfjbeaa.B
