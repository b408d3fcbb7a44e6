/- Printed proofs of functions of the program and of the reference, by a program of this work over the kit's printer. -/
import Derived.Test.YtabfflgoaalapaaKBJFCAM0
import Derived.Test.YtabfflgoaalapaaKENHNJJ0
import Derived.Test.YtabfflgoaalapaaKHLBPAE0
import Derived.Test.YtabfflgoaalapaaKW0
namespace Go.Proofs.Ytabfflgoaalapaa.B
open Go.RowKit Go.Proofs.YtabfflgoaalapaaW.PrintWords Go.Proofs.YtabfflgoaalapaaW.PrintLast Go.Proofs.YtabfflgoaalapaaW.PrintMore
attribute [local go_sem] qAo qAm qAq qAp qAk qAj qAn qAl
set_option linter.unusedVariables false
set_option linter.unusedSimpArgs false
def z64.f (k : Nat) (a0_0 : Int) (a0_1 : Int) (l0_2 : List (List Int)) (a1_0 : Int) (a1_1 : Int) (l1_2 : List (List Int)) : Option (Int × Int × (List (List Int))) := (z110.f k (([l0_2, l1_2] : List (List (List Int))))).bind fun t107 => ((z90.f k a0_0 a0_1 t107).bind fun bt110 => (some (bt110.1, bt110.2.1, bt110.2.2)))
def z64.T1 : Bool × List (List Nat × List Nat) := (true, [([], []), ([0], [0]), ([], []), ([2], [2]), ([], []), ([4], [4]), ([], []), ([6], [6]), ([5, 7], [5, 7]), ([8], [8]), ([1, 3, 9, 9], [1, 3, 9]), ([10, 10, 0, 1, 2, 3, 4, 5, 6, 7, 8, 9, 10], [10])])
def z64.B1 : List Nat := [0, 1, 0, 4, 0, 16, 0, 64, 240, 496, 1023, 2047]
theorem z64.tab1 : rtab .any (qBt Try.f64 1) = z64.T1 := by kernel_rfl
theorem z64.bits1 : qA4 z64.T1.2 z64.B1 = true := by kernel_rfl
set_option maxHeartbeats 8000000 in
set_option maxRecDepth 100000 in
theorem z64.calls (k : Nat) (a0_0 : Int) (a0_1 : Int) (P0_2_ : Nat → Prop) (A0_2 : Option Addr) (c0_2 : Nat) (l0_2 : List (List Int)) (a1_0 : Int) (a1_1 : Int) (P1_2_ : Nat → Prop) (A1_2 : Option Addr) (c1_2 : Nat) (l1_2 : List (List Int)) (r1 : Int) (r2 : Int) (r3 : List (List Int)) (w : World) (hs0_2 : Kd.V (Kd.slice 2 (Kd.int .i64)) 25 w w.heap.size (fun k_ => P0_2_ k_) (.slice A0_2 l0_2.length c0_2) l0_2) (hs1_2 : Kd.V (Kd.slice 2 (Kd.int .i64)) 25 w w.heap.size (fun k_ => P1_2_ k_) (.slice A1_2 l1_2.length c1_2) l1_2) (h : z64.f k a0_0 a0_1 l0_2 a1_0 a1_1 l1_2 = some (r1, r2, r3)) :
  Calls Try.prog 64 #[.agg #[.int .i64 a0_0, .int .i64 a0_1, .slice A0_2 l0_2.length c0_2], .agg #[.int .i64 a1_0, .int .i64 a1_1, .slice A1_2 l1_2.length c1_2]] w fun e w' => ∃ v2_ : Value, e = .returned (.agg #[.int .i64 r1, .int .i64 r2, v2_]) ∧ Kd.S (Kd.slice 2 (Kd.int .i64)) 25 w' w.heap.size (fun k_ => (w.heap.size ≤ k_)) v2_ r3 ∧ Below w.heap.size w w' := by
 have hu29 := Try.underlying29
 have HO0_2 := Zz.mk (show Kd.V (Kd.slice 2 (Kd.int .i64)) 25 w w.heap.size (fun k_ => ((P0_2_ k_ ∨ P1_2_ k_) ∨ w.heap.size ≤ k_)) (.slice A0_2 l0_2.length c0_2) l0_2 from Kd.V_mono hs0_2 (fun k_ hk => .inl (.inl hk)))
 have HO1_2 := Zz.mk (show Kd.V (Kd.slice 2 (Kd.int .i64)) 25 w w.heap.size (fun k_ => ((P0_2_ k_ ∨ P1_2_ k_) ∨ w.heap.size ≤ k_)) (.slice A1_2 l1_2.length c1_2) l1_2 from Kd.V_mono hs1_2 (fun k_ hk => .inl (.inr hk)))
 have HB := Zz.mk (Below.refl w.heap.size w)
 have H : ((z110.f k (([l0_2, l1_2] : List (List (List Int))))).bind fun t107 => ((z90.f k a0_0 a0_1 t107).bind fun bt110 => (some (bt110.1, bt110.2.1, bt110.2.2)))) = some (r1, r2, r3) := h
 clear h
 obtain ⟨y104, hy104⟩ : ∃ y_ : List (List (List Int)), y_ = (([l0_2, l1_2] : List (List (List Int)))) := ⟨_, rfl⟩
 replace H : ((z110.f k y104).bind fun t107 => ((z90.f k a0_0 a0_1 t107).bind fun bt110 => (some (bt110.1, bt110.2.1, bt110.2.2)))) = some (r1, r2, r3) := Y_ hy104 H
 have Ny104 := Zz.mk hy104
 clear hy104
 replace H := OB_ H
 obtain ⟨t107, A30, H⟩ := H
 replace H : ((z90.f k a0_0 a0_1 t107).bind fun bt110 => (some (bt110.1, bt110.2.1, bt110.2.2))) = some (r1, r2, r3) := H
 have A3 := Zz.mk A30
 clear A30
 replace H := OB_ H
 obtain ⟨⟨t110, t111, t112⟩, A40, H⟩ := H
 replace H : (some (t110, t111, t112)) = some (r1, r2, r3) := H
 have A4 := Zz.mk A40
 clear A40
 simp only [Option.some.injEq, Prod.mk.injEq] at H
 obtain ⟨rfl, rfl, rfl⟩ := H
 go_enter Try.func64, Try.ntmps64
 try go_wp2_with (first | ((with_reducible refine qAh (N := 2) rfl ?_); refine bx_ 2 #[.int .i64 a0_0, .int .i64 a0_1, .slice A0_2 l0_2.length c0_2] 29 ?_; intro gb101 hg w5 hbox hb; have BK101 := Zz.mk (hbox); have GW101 := Zz.mk ((gw_ hg (B_ HB.out))); have GE101 := GW101; replace HO0_2 := Zz.mk (Kd.V_below (Kd.V_elderB (by refine VW_ ?_; exact HO0_2.out) gb101 (Nat.le_of_eq hg.symm)) hb); replace HO1_2 := Zz.mk (Kd.V_below (Kd.V_elderB (by refine VW_ ?_; exact HO1_2.out) gb101 (Nat.le_of_eq hg.symm)) hb); replace HB := Zz.mk (bT_ (B_ HB.out) hb); clear hb hbox hg) | ((with_reducible refine qAh (N := 3) rfl ?_); refine bx_ 3 #[.int .i64 a1_0, .int .i64 a1_1, .slice A1_2 l1_2.length c1_2] 29 ?_; intro gb102 hg w6 hbox hb; have BK102 := Zz.mk (hbox); have GW102 := Zz.mk ((gw_ hg (B1_ HB.out GE101.out))); have GE102 := GW102; have NB101_102 := Zz.mk ((nb_ BK101.out hg)); have NB102_101 := Zz.mk NB101_102.out.symm; replace HO0_2 := Zz.mk (Kd.V_below (Kd.V_elderB (by refine VW_ ?_; exact HO0_2.out) gb102 (Nat.le_of_eq hg.symm)) hb); replace HO1_2 := Zz.mk (Kd.V_below (Kd.V_elderB (by refine VW_ ?_; exact HO1_2.out) gb102 (Nat.le_of_eq hg.symm)) hb); replace BK101 := Zz.mk (kb_ BK101.out hb); replace HB := Zz.mk (bT_ (B1_ HB.out GE101.out) hb); clear hb hbox hg) | ((with_reducible refine qAh (N := 4) rfl ?_); refine bx_ 4 #[.int .i64 0, .int .i64 0, .slice none 0 0] 29 ?_; intro gb103 hg w7 hbox hb; have BK103 := Zz.mk (hbox); have GW103 := Zz.mk ((gw_ hg (B2_ HB.out GE101.out GE102.out))); have GE103 := GW103; have NB101_103 := Zz.mk ((nb_ BK101.out hg)); have NB103_101 := Zz.mk NB101_103.out.symm; have NB102_103 := Zz.mk ((nb_ BK102.out hg)); have NB103_102 := Zz.mk NB102_103.out.symm; replace HO0_2 := Zz.mk (Kd.V_below (Kd.V_elderB (by refine VW_ ?_; exact HO0_2.out) gb103 (Nat.le_of_eq hg.symm)) hb); replace HO1_2 := Zz.mk (Kd.V_below (Kd.V_elderB (by refine VW_ ?_; exact HO1_2.out) gb103 (Nat.le_of_eq hg.symm)) hb); replace BK101 := Zz.mk (kb_ BK101.out hb); replace BK102 := Zz.mk (kb_ BK102.out hb); replace HB := Zz.mk (bT_ (B2_ HB.out GE101.out GE102.out) hb); clear hb hbox hg))
 replace HO0_2 := Zz.mk (Kd.V_drew HO0_2.out)
 replace HO1_2 := Zz.mk (Kd.V_drew HO1_2.out)
 replace BK101 := Zz.mk (bD_ BK101.out)
 replace BK102 := Zz.mk (bD_ BK102.out)
 replace BK103 := Zz.mk (bD_ BK103.out)
 replace HB := Zz.mk (qAc HB.out)
 refine qA5 (n := 12) (S := fun w' => w'.cell? ⟨gb101, 0, none⟩ = some (.int .i64 a0_0) ∧ w'.cell? ⟨gb101, 1, none⟩ = some (.int .i64 a0_1) ∧ w'.cell? ⟨gb101, 2, none⟩ = some (.slice A0_2 l0_2.length c0_2) ∧ w'.cell? ⟨gb102, 0, none⟩ = some (.int .i64 a1_0) ∧ w'.cell? ⟨gb102, 1, none⟩ = some (.int .i64 a1_1) ∧ w'.cell? ⟨gb102, 2, none⟩ = some (.slice A1_2 l1_2.length c1_2)) (ds := []) (tb_ 12 0) (by kernel_rfl) rfl rfl (Z3a_ BK101.out (Z3_ BK102.out)) (fun hHeld => ?_); refine qAw z64.tab1 z64.bits1 (fun HT_ HW_ => ?_)
 generalize w7.drew = w8 at HO0_2 HO1_2 BK101 BK102 BK103 HB hHeld ⊢
 refine PX_ 0 5 (tb_ 12 1) HT_ rfl rfl ?_
 refine PX_ 2 7 (tb_ 12 5) HT_ rfl rfl ?_
 refine PX_ 4 9 (tb_ 12 21) HT_ rfl rfl ?_
 refine PX_ 6 11 (tb_ 12 85) HT_ rfl rfl ?_
 refine TV_ (i := 1) (N := some 6) (tb_ 12 87) HT_ HW_ rfl rfl hHeld (by rintro w' ⟨s0, s1, s2, s3, s4, s5⟩; go_simp; with_reducible rfl) (h := ?_)
 refine TV_ (i := 3) (N := some 8) (tb_ 12 95) HT_ HW_ rfl rfl hHeld (by rintro w' ⟨s0, s1, s2, s3, s4, s5⟩; go_simp; with_reducible rfl) (h := ?_)
 refine TV_ (i := 5) (N := some 10) (tb_ 12 127) HT_ HW_ rfl rfl hHeld (by rintro w' ⟨s0, s1, s2, s3, s4, s5⟩; go_simp; with_reducible rfl) (h := ?_)
 refine TV_ (i := 7) (N := some 12) (tb_ 12 255) HT_ HW_ rfl rfl hHeld (by rintro w' ⟨s0, s1, s2, s3, s4, s5⟩; go_simp; with_reducible rfl) (h := ?_)
 refine one_ (i := 8) (N := some 13) (tb_ 12 511) rfl rfl (qAr HT_.out (by kernel_rfl)) (by decide) (fun K hK => ?_)
 refine Kd.N_lit_step (Kd.slice 25 (Kd.slice 2 (Kd.int .i64))) _ 22 ?hg (N' := 13) ?hd (xs := ([l0_2, l1_2] : List (List (List Int)))) (inner := [.slice A0_2 l0_2.length c0_2, .slice A1_2 l1_2.length c1_2]) (ok := (fun k_ => ((P0_2_ k_ ∨ P1_2_ k_) ∨ w.heap.size ≤ k_) ∧ k_ ≠ gb101 ∧ k_ ≠ gb102 ∧ k_ ≠ gb103)) (okp := (fun k_ => ((P0_2_ k_ ∨ P1_2_ k_) ∨ w.heap.size ≤ k_) ∧ k_ ≠ gb101 ∧ k_ ≠ gb102 ∧ k_ ≠ gb103)) ?hr ?hp (fun _ hk => hk) ((show ∀ k_, w8.heap.size ≤ k_ → (fun k_ => ((P0_2_ k_ ∨ P1_2_ k_) ∨ w.heap.size ≤ k_) ∧ k_ ≠ gb101 ∧ k_ ≠ gb102 ∧ k_ ≠ gb103) k_ from fun k_ hk => ⟨(.inr (Nat.le_trans (bS_ (B3_ HB.out GE101.out GE102.out GE103.out)) hk)), Kd.freshB (g := gb101) (o := .cells #[.int .i64 a0_0, .int .i64 a0_1, .slice A0_2 l0_2.length c0_2] 29 (0, 0)) (KB_ BK101.out) k_ hk, Kd.freshB (g := gb102) (o := .cells #[.int .i64 a1_0, .int .i64 a1_1, .slice A1_2 l1_2.length c1_2] 29 (0, 0)) (KB_ BK102.out) k_ hk, Kd.freshB (g := gb103) (o := .cells #[.int .i64 0, .int .i64 0, .slice none 0 0] 29 (0, 0)) (KB_ BK103.out) k_ hk⟩) _ (Nat.le_refl _)) (Below.refl _ _) (Nat.le_refl _) (by simp) ?_; (case hd => rfl); (case hg => rfl); (case hr => first | (go_simp; done) | (go_simp; rfl)); (case hp => exact (Reps.one (show Kd.FK (Kd.slice 25 (Kd.slice 2 (Kd.int .i64))) _ _ l0_2 [.slice A0_2 l0_2.length c0_2] from (Kd.FK_slice_mk (Kd.V_reads' (Kd.V_mono (ok' := (fun k_ => ((P0_2_ k_ ∨ P1_2_ k_) ∨ w.heap.size ≤ k_) ∧ k_ ≠ gb101 ∧ k_ ≠ gb102 ∧ k_ ≠ gb103)) (HO0_2.out) (fun k_ hk => ⟨hk.1.1.1, ⟨hk.1.1.2, ⟨hk.1.2, hk.2⟩⟩⟩))).2.1 (Kd.V_F (Kd.V_mono (ok' := (fun k_ => ((P0_2_ k_ ∨ P1_2_ k_) ∨ w.heap.size ≤ k_) ∧ k_ ≠ gb101 ∧ k_ ≠ gb102 ∧ k_ ≠ gb103)) (HO0_2.out) (fun k_ hk => ⟨hk.1.1.1, ⟨hk.1.1.2, ⟨hk.1.2, hk.2⟩⟩⟩))))) (Reps.one (show Kd.FK (Kd.slice 25 (Kd.slice 2 (Kd.int .i64))) _ _ l1_2 [.slice A1_2 l1_2.length c1_2] from (Kd.FK_slice_mk (Kd.V_reads' (Kd.V_mono (ok' := (fun k_ => ((P0_2_ k_ ∨ P1_2_ k_) ∨ w.heap.size ≤ k_) ∧ k_ ≠ gb101 ∧ k_ ≠ gb102 ∧ k_ ≠ gb103)) (HO1_2.out) (fun k_ hk => ⟨hk.1.1.1, ⟨hk.1.1.2, ⟨hk.1.2, hk.2⟩⟩⟩))).2.1 (Kd.V_F (Kd.V_mono (ok' := (fun k_ => ((P0_2_ k_ ∨ P1_2_ k_) ∨ w.heap.size ≤ k_) ∧ k_ ≠ gb101 ∧ k_ ≠ gb102 ∧ k_ ≠ gb103)) (HO1_2.out) (fun k_ hk => ⟨hk.1.1.1, ⟨hk.1.1.2, ⟨hk.1.2, hk.2⟩⟩⟩))))) (Reps.none _ _))))
 intro v105 w9 ho10 hb hg_ hnew_
 clear hg_ hnew_
 (first | rw [← Ny104.out] at ho10 | (simp only [Int.reduceToNat] at ho10; rw [← Ny104.out] at ho10))
 replace HO0_2 := Zz.mk (Kd.V_elder' (by refine VW_ ?_; exact HO0_2.out) (Kd.N_base ho10) hb)
 replace HO1_2 := Zz.mk (Kd.V_elder' (by refine VW_ ?_; exact HO1_2.out) (Kd.N_base ho10) hb)
 have HO106 := Zz.mk (Kd.N_lower ho10 (bS_ (B3_ HB.out GE101.out GE102.out GE103.out)))
 replace BK101 := Zz.mk (kb_ BK101.out hb)
 replace BK102 := Zz.mk (kb_ BK102.out hb)
 replace BK103 := Zz.mk (kb_ BK103.out hb)
 replace HB := Zz.mk (bT_ (B3_ HB.out GE101.out GE102.out GE103.out) hb)
 clear hb ho10
 obtain ⟨Ao11, co11, eo11⟩ := Kd.N_slice HO106.out
 (first | subst eo11 | obtain ⟨rfl, rfl⟩ := sl_ eo11)
 refine hK.out _ _ (Z3a_ BK101.out (Z3_ BK102.out)) (fun hHeld => ?_)
 clear hK K
 refine NM_ (N := (some 13)) (h := ?_)
 refine one_ (i := 9) (N := some 14) (tb_ 12 1023) rfl rfl (qAr HT_.out (by kernel_rfl)) (by decide) (fun K hK => ?_)
 refine GO_ Try.func110 #[.slice Ao11 y104.length co11] (h := ?_)
 with_reducible refine (z110.calls k (fun k_ => (((P0_2_ k_ ∨ P1_2_ k_) ∨ w.heap.size ≤ k_) ∧ (k_ ≠ gb101 ∧ (k_ ≠ gb102 ∧ k_ ≠ gb103)))) _ _ y104 t107 _ ?side1 A3.out).mono ?_
 (case side1 => exact Kd.N_V (HO106.out))
 rintro e w12 ⟨v108, rfl, ho0, hb⟩
 refine ⟨_, rfl, ?_⟩
 replace HO0_2 := Zz.mk (Kd.V_elder' (by refine VW_ ?_; exact HO0_2.out) (Kd.N_base ho0) hb)
 replace HO1_2 := Zz.mk (Kd.V_elder' (by refine VW_ ?_; exact HO1_2.out) (Kd.N_base ho0) hb)
 replace HO106 := Zz.mk (Kd.N_elder' (KN_ HO106.out) (Kd.N_base ho0) hb)
 have HO109 := Zz.mk (Kd.N_lower (Kd.N_mono (ok' := fun k_ => ((P0_2_ k_ ∨ P1_2_ k_) ∨ w.heap.size ≤ k_) ∧ k_ ≠ gb101 ∧ k_ ≠ gb102 ∧ k_ ≠ gb103) ho0 (fun k_ hk_ => ⟨Or.elim hk_ (fun hs_ => hs_.1) (fun hn_ => (.inr (Nat.le_trans (bS_ (B3_ HB.out GE101.out GE102.out GE103.out)) hn_))), Or.elim hk_ (fun hs_ => hs_.2.1) (fun hn_ => (Kd.freshB (g := gb101) (o := .cells #[.int .i64 a0_0, .int .i64 a0_1, .slice A0_2 l0_2.length c0_2] 29 (0, 0)) (KB_ BK101.out) k_ hn_)), Or.elim hk_ (fun hs_ => hs_.2.2.1) (fun hn_ => (Kd.freshB (g := gb102) (o := .cells #[.int .i64 a1_0, .int .i64 a1_1, .slice A1_2 l1_2.length c1_2] 29 (0, 0)) (KB_ BK102.out) k_ hn_)), Or.elim hk_ (fun hs_ => hs_.2.2.2) (fun hn_ => (Kd.freshB (g := gb103) (o := .cells #[.int .i64 0, .int .i64 0, .slice none 0 0] 29 (0, 0)) (KB_ BK103.out) k_ hn_))⟩)) (bS_ (B3_ HB.out GE101.out GE102.out GE103.out)))
 replace BK101 := Zz.mk (kb_ BK101.out hb)
 replace BK102 := Zz.mk (kb_ BK102.out hb)
 replace BK103 := Zz.mk (kb_ BK103.out hb)
 replace HB := Zz.mk (bT_ (B3_ HB.out GE101.out GE102.out GE103.out) hb)
 (try clear hb);(try clear hk);(try clear ho0)
 obtain ⟨Ao13, co13, eo13⟩ := Kd.N_slice HO109.out
 (first | subst eo13 | obtain ⟨rfl, rfl⟩ := sl_ eo13)
 refine hK.out _ _ (Z3a_ BK101.out (Z3_ BK102.out)) (fun hHeld => ?_)
 clear hK K
 refine NM_ (N := (some 14)) (h := ?_)
 refine one_ (i := 10) (N := some 15) (tb_ 12 2047) rfl rfl (qAr HT_.out (by kernel_rfl)) (by decide) (fun K hK => ?_)
 refine GO_ Try.func90 #[.int .i64 a0_0, .int .i64 a0_1, .slice Ao13 t107.length co13] (h := ?_)
 with_reducible refine (z90.calls k a0_0 a0_1 _ _ t107 t110 t111 t112 _ ?side1 ?side2 A4.out).mono ?_
 (case side1 => exact KC_ (Kd.N_reads' HO109.out).2.2)
 (case side2 => exact (Kd.N_reads' HO109.out).2.1)
 rintro e w14 ⟨v113, rfl, ho0, hb⟩
 refine ⟨_, rfl, ?_⟩
 have HO114 := Zz.mk (Kd.S_lower (Kd.S_new' (Kd.S_newM (M := fun k_ => (w.heap.size ≤ k_)) ho0 (bS_ (B3_ HB.out GE101.out GE102.out GE103.out)) (fun k_ h_ => h_)) (Kd.N_lt (KN_ HO109.out))) (bS_ (B3_ HB.out GE101.out GE102.out GE103.out)))
 replace HO0_2 := Zz.mk (Kd.V_elder' (by refine VW_ ?_; exact HO0_2.out) (Kd.S_base ho0) hb)
 replace HO1_2 := Zz.mk (Kd.V_elder' (by refine VW_ ?_; exact HO1_2.out) (Kd.S_base ho0) hb)
 replace HO106 := Zz.mk (Kd.N_elder' (KN_ HO106.out) (Kd.S_base ho0) hb)
 replace HO109 := Zz.mk (Kd.N_elder' (KN_ HO109.out) (Kd.S_base ho0) hb)
 replace BK101 := Zz.mk (kb_ BK101.out hb)
 replace BK102 := Zz.mk (kb_ BK102.out hb)
 replace BK103 := Zz.mk (kb_ BK103.out hb)
 replace HB := Zz.mk (bT_ (B3_ HB.out GE101.out GE102.out GE103.out) hb)
 (try clear hb);(try clear hk);(try clear ho0)
 obtain ⟨Ao17, co17, eo17⟩ := Kd.S_slice HO114.out
 (first | subst eo17 | obtain ⟨rfl, rfl⟩ := sl_ eo17)
 refine hK.out _ _ (Z3a_ BK101.out (Z3_ BK102.out)) (fun hHeld => ?_)
 clear hK K
 refine NM_ (N := (some 15)) (h := ?_)
 refine one_ (i := 11) (N := none) (tb_ 12 4095) rfl rfl (qAr HT_.out (by kernel_rfl)) (by decide) (fun K hK => ?_)
 have hs15 : w14.cell? ⟨gb103, 0, none⟩ = some (.int .i64 0) := (bC_ BK103.out 0).trans rfl
 have hfs15 := bF_ BK103.out 0
 have hns15_0 := NB101_103.out
 have hns15_1 := NB102_103.out
 have hms15_0 := NB103_101.out
 have hms15_1 := NB103_102.out
 have hs16 : w14.cell? ⟨gb103, 1, none⟩ = some (.int .i64 0) := (bC_ BK103.out 1).trans rfl
 have hfs16 := bF_ BK103.out 1
 have hns16_0 := NB101_103.out
 have hns16_1 := NB102_103.out
 have hms16_0 := NB103_101.out
 have hms16_1 := NB103_102.out
 have hs18 : w14.cell? ⟨gb103, 2, none⟩ = some (.slice none 0 0) := (bC_ BK103.out 2).trans rfl
 have hfs18 := bF_ BK103.out 2
 have hns18_0 := NB101_103.out
 have hns18_1 := NB102_103.out
 have hms18_0 := NB103_101.out
 have hms18_1 := NB103_102.out
 refine qB9 (w1 := ?_) (by rfl) rfl ?_ ?_
 rotate_left
 ·go_simp
  rfl
 refine hK.out _ _ ⟨((qAf (p := ⟨gb103, _, none⟩) NB101_103.out _).trans (((qAf (p := ⟨gb103, _, none⟩) NB101_103.out _).trans (((qAf (p := ⟨gb103, _, none⟩) NB101_103.out _).trans (hHeld.1)))))), ((qAf (p := ⟨gb103, _, none⟩) NB101_103.out _).trans (((qAf (p := ⟨gb103, _, none⟩) NB101_103.out _).trans (((qAf (p := ⟨gb103, _, none⟩) NB101_103.out _).trans (hHeld.2.1)))))), ((qAf (p := ⟨gb103, _, none⟩) NB101_103.out _).trans (((qAf (p := ⟨gb103, _, none⟩) NB101_103.out _).trans (((qAf (p := ⟨gb103, _, none⟩) NB101_103.out _).trans (hHeld.2.2.1)))))), ((qAf (p := ⟨gb103, _, none⟩) NB102_103.out _).trans (((qAf (p := ⟨gb103, _, none⟩) NB102_103.out _).trans (((qAf (p := ⟨gb103, _, none⟩) NB102_103.out _).trans (hHeld.2.2.2.1)))))), ((qAf (p := ⟨gb103, _, none⟩) NB102_103.out _).trans (((qAf (p := ⟨gb103, _, none⟩) NB102_103.out _).trans (((qAf (p := ⟨gb103, _, none⟩) NB102_103.out _).trans (hHeld.2.2.2.2.1)))))), ((qAf (p := ⟨gb103, _, none⟩) NB102_103.out _).trans (((qAf (p := ⟨gb103, _, none⟩) NB102_103.out _).trans (((qAf (p := ⟨gb103, _, none⟩) NB102_103.out _).trans (hHeld.2.2.2.2.2))))))⟩ (fun hHeld => ?_)
 clear hK K
 refine qBd (qA2 HT_.out (by kernel_rfl)) ?_
 try go_wp2
 refine bodyPost_ret (results_cell_row rfl _ _ gb103 29 #[.int .i64 t110, .int .i64 t111, .slice Ao17 t112.length co17] (0, 0) _ rfl (by refine BW_ ?_; refine bP_ (cs := #[.int .i64 t110, .int .i64 t111, .slice none 0 0]) ?_ 2 _ rfl; refine BW_ ?_; refine bP_ (cs := #[.int .i64 t110, .int .i64 0, .slice none 0 0]) ?_ 1 _ rfl; refine BW_ ?_; refine bP_ (cs := #[.int .i64 0, .int .i64 0, .slice none 0 0]) ?_ 0 _ rfl; refine BW_ ?_; exact BK103.out) Try.underlying29 rfl (by kernel_rfl)) rfl ?_
 exact ⟨_, F_, by refine SW_ ?_; exact Kd.S_mono (Kd.S_far (p := ⟨gb103, 2, none⟩) (Kd.S_far (p := ⟨gb103, 1, none⟩) (Kd.S_far (p := ⟨gb103, 0, none⟩) (Kd.S_types HO114.out BK103.out (by decide)) (fun _ hk => hk.2) (.int .i64 t110)) (fun _ hk => hk.2) (.int .i64 t111)) (fun _ hk => hk.2) (.slice Ao17 t112.length co17)) (fun _ hk => hk.1.1.1), B3_ HB.out GE101.out GE102.out GE103.out⟩
end Go.Proofs.Ytabfflgoaalapaa.B
