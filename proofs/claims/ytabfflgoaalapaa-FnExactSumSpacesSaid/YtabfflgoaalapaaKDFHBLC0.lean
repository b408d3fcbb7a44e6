/- Printed proofs of functions of the program and of the reference, by a program of this work over the kit's printer. -/
import Derived.Test.YtabfflgoaalapaaKENHNJJ0
import Derived.Test.YtabfflgoaalapaaKFMJCKG0
import Derived.Test.YtabfflgoaalapaaKHLBPAE0
import Derived.Test.YtabfflgoaalapaaKW0
namespace Go.Proofs.Ytabfflgoaalapaa.B
open Go.RowKit Go.Proofs.YtabfflgoaalapaaW.PrintWords Go.Proofs.YtabfflgoaalapaaW.PrintLast Go.Proofs.YtabfflgoaalapaaW.PrintMore
attribute [local go_sem] max2_int min2_int max_two min_two max_three min_three max_four min_four
set_option linter.unusedVariables false
set_option linter.unusedSimpArgs false
def z21.f (k : Nat) (a0_0 : Int) (a0_1 : Int) (l0_2 : List (List Int)) (a1_0 : Int) (a1_1 : Int) (l1_2 : List (List Int)) : Option (Int × Int × (List (List Int)) × Int) := (z61.f k a0_0 a0_1 l0_2 a1_0 a1_1 l1_2).bind fun t104 => (if t104 = 0 then ((some (([] : List (List Int)) : List (List Int))).bind fun y105 => (if y105.length + l0_2.length < 5864062014805 then ((some (y105 ++ l0_2 : List (List Int))).bind fun y108 => (if y108.length + l1_2.length < 5864062014805 then ((z62.f k a0_0 a0_1 (y108 ++ l1_2)).bind fun bt114 => (some (bt114.1, bt114.2.1, bt114.2.2, 0))) else (none))) else (none))) else (some (0, 0, ([] : List (List Int)), t104)))
def z21.T4 : Bool × List (List Nat × List Nat) := (true, [([], []), ([0], [0]), ([], []), ([2], [2]), ([], []), ([], []), ([5], [5]), ([4, 6], [4, 6]), ([], []), ([8], [8]), ([7, 9, 7], [7, 9]), ([1, 3, 10, 10], [1, 3, 10]), ([11, 11, 0, 1, 2, 3, 4, 5, 6, 7, 8, 9, 10, 11], [11]), ([12, 0, 1, 2, 3, 4, 5, 6, 7, 8, 9, 10, 11, 12], [])])
def z21.B4 : List Nat := [0, 1, 0, 4, 0, 0, 32, 112, 0, 256, 1008, 2047, 4095, 8191]
theorem z21.tab4 : rtab .any (opsOf Try.f21 4) = z21.T4 := by kernel_rfl
theorem z21.bits4 : waitsOk z21.T4.2 z21.B4 = true := by kernel_rfl
set_option maxHeartbeats 8000000 in
set_option maxRecDepth 100000 in
theorem z21.calls (k : Nat) (a0_0 : Int) (a0_1 : Int) (P0_2_ : Nat → Prop) (A0_2 : Option Addr) (c0_2 : Nat) (l0_2 : List (List Int)) (a1_0 : Int) (a1_1 : Int) (P1_2_ : Nat → Prop) (A1_2 : Option Addr) (c1_2 : Nat) (l1_2 : List (List Int)) (r1 : Int) (r2 : Int) (r3 : List (List Int)) (r4 : Int) (w : World) (hs0_2 : Kd.V (Kd.slice 2 (Kd.int .i64)) 25 w w.heap.size (fun k_ => P0_2_ k_) (.slice A0_2 l0_2.length c0_2) l0_2) (hs1_2 : Kd.V (Kd.slice 2 (Kd.int .i64)) 25 w w.heap.size (fun k_ => P1_2_ k_) (.slice A1_2 l1_2.length c1_2) l1_2) (h : z21.f k a0_0 a0_1 l0_2 a1_0 a1_1 l1_2 = some (r1, r2, r3, r4)) :
  Calls Try.prog 21 #[.agg #[.int .i64 a0_0, .int .i64 a0_1, .slice A0_2 l0_2.length c0_2], .agg #[.int .i64 a1_0, .int .i64 a1_1, .slice A1_2 l1_2.length c1_2]] w fun e w' => ∃ v2_ : Value, e = .returned (.tuple #[.agg #[.int .i64 r1, .int .i64 r2, v2_], .int .i64 r4]) ∧ Kd.S (Kd.slice 2 (Kd.int .i64)) 25 w' w.heap.size (fun k_ => (w.heap.size ≤ k_)) v2_ r3 ∧ Below w.heap.size w w' := by
 have hu29 := Try.underlying29
 have HO0_2 := Zz.mk (show Kd.V (Kd.slice 2 (Kd.int .i64)) 25 w w.heap.size (fun k_ => ((P0_2_ k_ ∨ P1_2_ k_) ∨ w.heap.size ≤ k_)) (.slice A0_2 l0_2.length c0_2) l0_2 from Kd.V_mono hs0_2 (fun k_ hk => .inl (.inl hk)))
 have HO1_2 := Zz.mk (show Kd.V (Kd.slice 2 (Kd.int .i64)) 25 w w.heap.size (fun k_ => ((P0_2_ k_ ∨ P1_2_ k_) ∨ w.heap.size ≤ k_)) (.slice A1_2 l1_2.length c1_2) l1_2 from Kd.V_mono hs1_2 (fun k_ hk => .inl (.inr hk)))
 have HB := Zz.mk (Below.refl w.heap.size w)
 have H : ((z61.f k a0_0 a0_1 l0_2 a1_0 a1_1 l1_2).bind fun t104 => (if t104 = 0 then ((some (([] : List (List Int)) : List (List Int))).bind fun y105 => (if y105.length + l0_2.length < 5864062014805 then ((some (y105 ++ l0_2 : List (List Int))).bind fun y108 => (if y108.length + l1_2.length < 5864062014805 then ((z62.f k a0_0 a0_1 (y108 ++ l1_2)).bind fun bt114 => (some (bt114.1, bt114.2.1, bt114.2.2, 0))) else (none))) else (none))) else (some (0, 0, ([] : List (List Int)), t104)))) = some (r1, r2, r3, r4) := h
 clear h
 replace H := OB_ H
 obtain ⟨t104, A30, H⟩ := H
 replace H : (if t104 = 0 then ((some (([] : List (List Int)) : List (List Int))).bind fun y105 => (if y105.length + l0_2.length < 5864062014805 then ((some (y105 ++ l0_2 : List (List Int))).bind fun y108 => (if y108.length + l1_2.length < 5864062014805 then ((z62.f k a0_0 a0_1 (y108 ++ l1_2)).bind fun bt114 => (some (bt114.1, bt114.2.1, bt114.2.2, 0))) else (none))) else (none))) else (some (0, 0, ([] : List (List Int)), t104))) = some (r1, r2, r3, r4) := H
 have A3 := Zz.mk A30
 clear A30
 by_cases c4 : t104 = 0
 ·rw [if_pos c4] at H
  have c4b0 : (t104 == 0) = true := beq_iff_eq.mpr c4
  have c4b1 : (t104 != 0) = false := bne_eq_false_iff_eq.mpr c4
  clear c4
  obtain ⟨y105, hy105⟩ : ∃ y_ : List (List Int), y_ = (([] : List (List Int))) := ⟨_, rfl⟩
  replace H : (if y105.length + l0_2.length < 5864062014805 then ((some (y105 ++ l0_2 : List (List Int))).bind fun y108 => (if y108.length + l1_2.length < 5864062014805 then ((z62.f k a0_0 a0_1 (y108 ++ l1_2)).bind fun bt114 => (some (bt114.1, bt114.2.1, bt114.2.2, 0))) else (none))) else (none)) = some (r1, r2, r3, r4) := Y_ hy105 H
  have Ny105 := Zz.mk hy105
  clear hy105
  have c5 := O1_ H
  replace H := O2_ H
  have LMc5 := Zz.mk c5
  clear c5
  obtain ⟨y108, hy108⟩ : ∃ y_ : List (List Int), y_ = (y105 ++ l0_2) := ⟨_, rfl⟩
  replace H : (if y108.length + l1_2.length < 5864062014805 then ((z62.f k a0_0 a0_1 (y108 ++ l1_2)).bind fun bt114 => (some (bt114.1, bt114.2.1, bt114.2.2, 0))) else (none)) = some (r1, r2, r3, r4) := Y_ hy108 H
  have Ny108 := Zz.mk hy108
  clear hy108
  have c6 := O1_ H
  replace H := O2_ H
  have LMc6 := Zz.mk c6
  clear c6
  obtain ⟨y111, hy111⟩ : ∃ y_ : List (List Int), y_ = (y108 ++ l1_2) := ⟨_, rfl⟩
  replace H : ((z62.f k a0_0 a0_1 y111).bind fun bt114 => (some (bt114.1, bt114.2.1, bt114.2.2, 0))) = some (r1, r2, r3, r4) := Y_ hy111 H
  have Ny111 := Zz.mk hy111
  clear hy111
  replace H := OB_ H
  obtain ⟨⟨t114, t115, t116⟩, A70, H⟩ := H
  replace H : (some (t114, t115, t116, 0)) = some (r1, r2, r3, r4) := H
  have A7 := Zz.mk A70
  clear A70
  simp only [Option.some.injEq, Prod.mk.injEq] at H
  obtain ⟨rfl, rfl, rfl, rfl⟩ := H
  go_enter Try.func21, Try.ntmps21
  try go_wp2_with (first | ((with_reducible refine gate_dst (N := 2) rfl ?_); refine box_event ?hg (N := 2) ?hd (cs := #[.int .i64 a0_0, .int .i64 a0_1, .slice A0_2 l0_2.length c0_2]) (t := 29) ?hr ?_; (case hd => rfl); (case hg => rfl); (case hr => first | (go_simp; done) | (go_simp; rfl)); intro gb101 hg w8 hbox hb; have BK101 := Zz.mk (hbox); have GW101 := Zz.mk ((by rw [hg]; exact (bS_ (B_ HB.out)) : w.heap.size ≤ gb101)); have GE101 := GW101; replace HO0_2 := Zz.mk (Kd.V_below (Kd.V_elderB (by refine VW_ ?_; exact HO0_2.out) gb101 (Nat.le_of_eq hg.symm)) hb); replace HO1_2 := Zz.mk (Kd.V_below (Kd.V_elderB (by refine VW_ ?_; exact HO1_2.out) gb101 (Nat.le_of_eq hg.symm)) hb); replace HB := Zz.mk (bT_ (B_ HB.out) hb); clear hb hbox hg) | ((with_reducible refine gate_dst (N := 3) rfl ?_); refine box_event ?hg (N := 3) ?hd (cs := #[.int .i64 a1_0, .int .i64 a1_1, .slice A1_2 l1_2.length c1_2]) (t := 29) ?hr ?_; (case hd => rfl); (case hg => rfl); (case hr => first | (go_simp; done) | (go_simp; rfl)); intro gb102 hg w9 hbox hb; have BK102 := Zz.mk (hbox); have GW102 := Zz.mk ((by rw [hg]; exact (bS_ (B1_ HB.out GE101.out)) : w.heap.size ≤ gb102)); have GE102 := GW102; have NB101_102 := Zz.mk ((by rw [hg]; exact Nat.ne_of_lt (blk_lt (g := gb101) (o := .cells #[.int .i64 a0_0, .int .i64 a0_1, .slice A0_2 l0_2.length c0_2] 29 (0, 0)) (KB_ BK101.out)) : gb101 ≠ gb102)); have NB102_101 := Zz.mk NB101_102.out.symm; replace HO0_2 := Zz.mk (Kd.V_below (Kd.V_elderB (by refine VW_ ?_; exact HO0_2.out) gb102 (Nat.le_of_eq hg.symm)) hb); replace HO1_2 := Zz.mk (Kd.V_below (Kd.V_elderB (by refine VW_ ?_; exact HO1_2.out) gb102 (Nat.le_of_eq hg.symm)) hb); replace BK101 := Zz.mk (bB_ (g := gb101) (o := .cells #[.int .i64 a0_0, .int .i64 a0_1, .slice A0_2 l0_2.length c0_2] 29 (0, 0)) (KB_ BK101.out) hb); replace HB := Zz.mk (bT_ (B1_ HB.out GE101.out) hb); clear hb hbox hg) | ((with_reducible refine gate_dst (N := 4) rfl ?_); refine box_event ?hg (N := 4) ?hd (cs := #[.int .i64 0, .int .i64 0, .slice none 0 0]) (t := 29) ?hr ?_; (case hd => rfl); (case hg => rfl); (case hr => first | (go_simp; done) | (go_simp; rfl)); intro gb103 hg w10 hbox hb; have BK103 := Zz.mk (hbox); have GW103 := Zz.mk ((by rw [hg]; exact (bS_ (B2_ HB.out GE101.out GE102.out)) : w.heap.size ≤ gb103)); have GE103 := GW103; have NB101_103 := Zz.mk ((by rw [hg]; exact Nat.ne_of_lt (blk_lt (g := gb101) (o := .cells #[.int .i64 a0_0, .int .i64 a0_1, .slice A0_2 l0_2.length c0_2] 29 (0, 0)) (KB_ BK101.out)) : gb101 ≠ gb103)); have NB103_101 := Zz.mk NB101_103.out.symm; have NB102_103 := Zz.mk ((by rw [hg]; exact Nat.ne_of_lt (blk_lt (g := gb102) (o := .cells #[.int .i64 a1_0, .int .i64 a1_1, .slice A1_2 l1_2.length c1_2] 29 (0, 0)) (KB_ BK102.out)) : gb102 ≠ gb103)); have NB103_102 := Zz.mk NB102_103.out.symm; replace HO0_2 := Zz.mk (Kd.V_below (Kd.V_elderB (by refine VW_ ?_; exact HO0_2.out) gb103 (Nat.le_of_eq hg.symm)) hb); replace HO1_2 := Zz.mk (Kd.V_below (Kd.V_elderB (by refine VW_ ?_; exact HO1_2.out) gb103 (Nat.le_of_eq hg.symm)) hb); replace BK101 := Zz.mk (bB_ (g := gb101) (o := .cells #[.int .i64 a0_0, .int .i64 a0_1, .slice A0_2 l0_2.length c0_2] 29 (0, 0)) (KB_ BK101.out) hb); replace BK102 := Zz.mk (bB_ (g := gb102) (o := .cells #[.int .i64 a1_0, .int .i64 a1_1, .slice A1_2 l1_2.length c1_2] 29 (0, 0)) (KB_ BK102.out) hb); replace HB := Zz.mk (bT_ (B2_ HB.out GE101.out GE102.out) hb); clear hb hbox hg) | ((with_reducible refine gC_ (f := 61) rfl ?_); refine GL_ (some 7) rfl rfl Try.func61 #[.pointer (some ⟨gb101, 0, none⟩), .pointer (some ⟨gb102, 0, none⟩)] rfl (h := ?_); (with_reducible refine (z61.calls k gb101 a0_0 a0_1 A0_2 c0_2 l0_2 gb102 a1_0 a1_1 A1_2 c1_2 l1_2 t104 _ ?side1 ?side2 ?side3 ?side4 ?side5 ?side6 A3.out).mono ?_); (case side1 => refine BW_ ?_; exact BK101.out); (case side2 => refine BW_ ?_; exact BK102.out); (case side3 => exact KC_ (Kd.V_reads' HO0_2.out).2.2); (case side4 => exact (Kd.V_reads' HO0_2.out).2.1); (case side5 => exact KC_ (Kd.V_reads' HO1_2.out).2.2); (case side6 => exact (Kd.V_reads' HO1_2.out).2.1); rintro e w11 ⟨rfl, hb⟩; refine ⟨_, rfl, ?_⟩; replace HO0_2 := Zz.mk (Kd.V_below (by refine VW_ ?_; exact HO0_2.out) hb); replace HO1_2 := Zz.mk (Kd.V_below (by refine VW_ ?_; exact HO1_2.out) hb); replace BK101 := Zz.mk (bB_ (g := gb101) (o := .cells #[.int .i64 a0_0, .int .i64 a0_1, .slice A0_2 l0_2.length c0_2] 29 (0, 0)) (KB_ BK101.out) hb); replace BK102 := Zz.mk (bB_ (g := gb102) (o := .cells #[.int .i64 a1_0, .int .i64 a1_1, .slice A1_2 l1_2.length c1_2] 29 (0, 0)) (KB_ BK102.out) hb); replace BK103 := Zz.mk (bB_ (g := gb103) (o := .cells #[.int .i64 0, .int .i64 0, .slice none 0 0] 29 (0, 0)) (KB_ BK103.out) hb); replace HB := Zz.mk (bT_ (B3_ HB.out GE101.out GE102.out GE103.out) hb); (try clear hb); (try clear hb2); (try clear hk); (try clear hi)))
  replace HO0_2 := Zz.mk (Kd.V_drew HO0_2.out)
  replace HO1_2 := Zz.mk (Kd.V_drew HO1_2.out)
  replace BK101 := Zz.mk (bD_ BK101.out)
  replace BK102 := Zz.mk (bD_ BK102.out)
  replace BK103 := Zz.mk (bD_ BK103.out)
  replace HB := Zz.mk (below_drew1 HB.out)
  refine start_ (n := 14) (S := fun w' => w'.cell? ⟨gb101, 0, none⟩ = some (.int .i64 a0_0) ∧ w'.cell? ⟨gb101, 1, none⟩ = some (.int .i64 a0_1) ∧ w'.cell? ⟨gb101, 2, none⟩ = some (.slice A0_2 l0_2.length c0_2) ∧ w'.cell? ⟨gb102, 0, none⟩ = some (.int .i64 a1_0) ∧ w'.cell? ⟨gb102, 1, none⟩ = some (.int .i64 a1_1) ∧ w'.cell? ⟨gb102, 2, none⟩ = some (.slice A1_2 l1_2.length c1_2)) (ds := []) (tb_ 14 0) (by kernel_rfl) rfl rfl ⟨(bC_ BK101.out 0).trans rfl, (bC_ BK101.out 1).trans rfl, (bC_ BK101.out 2).trans rfl, (bC_ BK102.out 0).trans rfl, (bC_ BK102.out 1).trans rfl, (bC_ BK102.out 2).trans rfl⟩ (fun hHeld => ?_); refine with_tabW z21.tab4 z21.bits4 (fun HT_ HW_ => ?_)
  generalize w11.drew = w12 at HO0_2 HO1_2 BK101 BK102 BK103 HB hHeld ⊢
  refine PX_ 0 12 (tb_ 14 1) HT_ rfl rfl ?_
  refine PX_ 2 14 (tb_ 14 5) HT_ rfl rfl ?_
  refine PX_ 5 17 (tb_ 14 37) HT_ rfl rfl ?_
  refine PX_ 8 20 (tb_ 14 293) HT_ rfl rfl ?_
  refine TV_ (i := 1) (N := some 13) (tb_ 14 295) HT_ HW_ rfl rfl hHeld (by rintro w' ⟨s0, s1, s2, s3, s4, s5⟩; go_simp; with_reducible rfl) (h := ?_)
  refine TV_ (i := 3) (N := some 15) (tb_ 14 303) HT_ HW_ rfl rfl hHeld (by rintro w' ⟨s0, s1, s2, s3, s4, s5⟩; go_simp; with_reducible rfl) (h := ?_)
  refine TV_ (i := 6) (N := some 18) (tb_ 14 367) HT_ HW_ rfl rfl hHeld (by rintro w' ⟨s0, s1, s2, s3, s4, s5⟩; go_simp; with_reducible rfl) (h := ?_)
  refine TV_ (i := 9) (N := some 21) (tb_ 14 879) HT_ HW_ rfl rfl hHeld (by rintro w' ⟨s0, s1, s2, s3, s4, s5⟩; go_simp; with_reducible rfl) (h := ?_)
  refine one_ (i := 4) (N := some 16) (tb_ 14 895) rfl rfl (one_of HT_.out (by kernel_rfl)) (by decide) (fun K hK => ?_)
  refine Kd.N_lit_step (Kd.slice 2 (Kd.int .i64)) _ 25 ?hg (N' := 16) ?hd (xs := ([] : List (List Int))) (inner := []) (ok := (fun k_ => ((P0_2_ k_ ∨ P1_2_ k_) ∨ w.heap.size ≤ k_) ∧ k_ ≠ gb101 ∧ k_ ≠ gb102 ∧ k_ ≠ gb103)) (okp := (fun k_ => ((P0_2_ k_ ∨ P1_2_ k_) ∨ w.heap.size ≤ k_) ∧ k_ ≠ gb101 ∧ k_ ≠ gb102 ∧ k_ ≠ gb103)) ?hr ?hp (fun _ hk => hk) ((show ∀ k_, w12.heap.size ≤ k_ → (fun k_ => ((P0_2_ k_ ∨ P1_2_ k_) ∨ w.heap.size ≤ k_) ∧ k_ ≠ gb101 ∧ k_ ≠ gb102 ∧ k_ ≠ gb103) k_ from fun k_ hk => ⟨(.inr (Nat.le_trans (bS_ (B3_ HB.out GE101.out GE102.out GE103.out)) hk)), Kd.freshB (g := gb101) (o := .cells #[.int .i64 a0_0, .int .i64 a0_1, .slice A0_2 l0_2.length c0_2] 29 (0, 0)) (KB_ BK101.out) k_ hk, Kd.freshB (g := gb102) (o := .cells #[.int .i64 a1_0, .int .i64 a1_1, .slice A1_2 l1_2.length c1_2] 29 (0, 0)) (KB_ BK102.out) k_ hk, Kd.freshB (g := gb103) (o := .cells #[.int .i64 0, .int .i64 0, .slice none 0 0] 29 (0, 0)) (KB_ BK103.out) k_ hk⟩) _ (Nat.le_refl _)) (Below.refl _ _) (Nat.le_refl _) (by simp) ?_; (case hd => rfl); (case hg => rfl); (case hr => first | (go_simp; done) | (go_simp; rfl)); (case hp => exact (Reps.none _ _))
  intro v106 w13 ho14 hb hg_ hnew_
  clear hg_ hnew_
  (first | rw [← Ny105.out] at ho14 | (simp only [Int.reduceToNat] at ho14; rw [← Ny105.out] at ho14))
  replace HO0_2 := Zz.mk (Kd.V_elder' (by refine VW_ ?_; exact HO0_2.out) (Kd.N_base ho14) hb)
  replace HO1_2 := Zz.mk (Kd.V_elder' (by refine VW_ ?_; exact HO1_2.out) (Kd.N_base ho14) hb)
  have HO107 := Zz.mk (Kd.N_lower ho14 (bS_ (B3_ HB.out GE101.out GE102.out GE103.out)))
  replace BK101 := Zz.mk (bB_ (g := gb101) (o := .cells #[.int .i64 a0_0, .int .i64 a0_1, .slice A0_2 l0_2.length c0_2] 29 (0, 0)) (KB_ BK101.out) hb)
  replace BK102 := Zz.mk (bB_ (g := gb102) (o := .cells #[.int .i64 a1_0, .int .i64 a1_1, .slice A1_2 l1_2.length c1_2] 29 (0, 0)) (KB_ BK102.out) hb)
  replace BK103 := Zz.mk (bB_ (g := gb103) (o := .cells #[.int .i64 0, .int .i64 0, .slice none 0 0] 29 (0, 0)) (KB_ BK103.out) hb)
  replace HB := Zz.mk (bT_ (B3_ HB.out GE101.out GE102.out GE103.out) hb)
  clear hb ho14
  refine hK.out _ _ ⟨(bC_ BK101.out 0).trans rfl, (bC_ BK101.out 1).trans rfl, (bC_ BK101.out 2).trans rfl, (bC_ BK102.out 0).trans rfl, (bC_ BK102.out 1).trans rfl, (bC_ BK102.out 2).trans rfl⟩ (fun hHeld => ?_)
  clear hK K
  refine NM_ (N := (some 16)) (h := ?_)
  refine one_ (i := 7) (N := some 19) (tb_ 14 1023) rfl rfl (one_of HT_.out (by kernel_rfl)) (by decide) (fun K hK => ?_)
  refine Kd.N_append_rows_step (Kd.slice 2 (Kd.int .i64)) (w0 := w) w.heap.size (by rfl) (.tmp 16) (.tmp 18) 22 25 (.slice none 0 0) 24 rfl Try.underlying22 info25 rfl (by decide) (by omega) v106 y105 l0_2 _ _ _ (fun k_ => ((P0_2_ k_ ∨ P1_2_ k_) ∨ w.heap.size ≤ k_) ∧ k_ ≠ gb101 ∧ k_ ≠ gb102 ∧ k_ ≠ gb103) (fun k_ => ((fun k_ => ((P0_2_ k_ ∨ P1_2_ k_) ∨ w.heap.size ≤ k_) ∧ k_ ≠ gb101 ∧ k_ ≠ gb102 ∧ k_ ≠ gb103)) k_ ∧ some k_ ≠ (v106 : Value).ownBlock) rfl rfl ?aO ?aR (fun _ hk => hk) ?aF ?aB ?aS ?aL ?_
  (case aR => exact (by skip; exact Kd.V_F (Kd.V_mono (ok' := (fun k_ => ((fun k_ => ((P0_2_ k_ ∨ P1_2_ k_) ∨ w.heap.size ≤ k_) ∧ k_ ≠ gb101 ∧ k_ ≠ gb102 ∧ k_ ≠ gb103)) k_ ∧ some k_ ≠ (v106 : Value).ownBlock)) (HO0_2.out) (fun k_ hk => ⟨⟨hk.1.1.1.1, ⟨hk.1.1.1.2, ⟨hk.1.1.2, hk.1.2⟩⟩⟩, hk.2⟩))))
  (case aB => exact (B3_ HB.out GE101.out GE102.out GE103.out))
  (case aF => exact (fun k_ hk => ⟨(.inr (Nat.le_trans (bS_ (B3_ HB.out GE101.out GE102.out GE103.out)) hk)), Kd.freshB (g := gb101) (o := .cells #[.int .i64 a0_0, .int .i64 a0_1, .slice A0_2 l0_2.length c0_2] 29 (0, 0)) (KB_ BK101.out) k_ hk, Kd.freshB (g := gb102) (o := .cells #[.int .i64 a1_0, .int .i64 a1_1, .slice A1_2 l1_2.length c1_2] 29 (0, 0)) (KB_ BK102.out) k_ hk, Kd.freshB (g := gb103) (o := .cells #[.int .i64 0, .int .i64 0, .slice none 0 0] 29 (0, 0)) (KB_ BK103.out) k_ hk⟩))
  (case aO => exact (KN_ HO107.out))
  (case aS => exact (bS_ (B3_ HB.out GE101.out GE102.out GE103.out)))
  (case aL => have := LMc5.out; omega)
  intro v109 w15 ho hb hg hat
  rw [← Ny108.out] at ho
  replace HO0_2 := Zz.mk (Kd.V_afterv (ok := (fun k_ => ((P0_2_ k_ ∨ P1_2_ k_) ∨ w.heap.size ≤ k_) ∧ k_ ≠ gb101 ∧ k_ ≠ gb102 ∧ k_ ≠ gb103)) (by refine VW_ ?_; exact Kd.V_mono HO0_2.out (fun _ hk => ⟨⟨hk.1.1.1.1, ⟨hk.1.1.1.2, ⟨hk.1.1.2, hk.1.2⟩⟩⟩, hk.2⟩)) hg hat)
  replace HO1_2 := Zz.mk (Kd.V_afterv (ok := (fun k_ => ((P0_2_ k_ ∨ P1_2_ k_) ∨ w.heap.size ≤ k_) ∧ k_ ≠ gb101 ∧ k_ ≠ gb102 ∧ k_ ≠ gb103)) (by refine VW_ ?_; exact Kd.V_mono HO1_2.out (fun _ hk => ⟨⟨hk.1.1.1.1, ⟨hk.1.1.1.2, ⟨hk.1.1.2, hk.1.2⟩⟩⟩, hk.2⟩)) hg hat)
  replace BK101 := Zz.mk (blk_grown (g := gb101) (o := .cells #[.int .i64 a0_0, .int .i64 a0_1, .slice A0_2 l0_2.length c0_2] 29 (0, 0)) (KB_ BK101.out) hg (Kd.N_ne HO107.out BK101.out (by decide)))
  replace BK102 := Zz.mk (blk_grown (g := gb102) (o := .cells #[.int .i64 a1_0, .int .i64 a1_1, .slice A1_2 l1_2.length c1_2] 29 (0, 0)) (KB_ BK102.out) hg (Kd.N_ne HO107.out BK102.out (by decide)))
  replace BK103 := Zz.mk (blk_grown (g := gb103) (o := .cells #[.int .i64 0, .int .i64 0, .slice none 0 0] 29 (0, 0)) (KB_ BK103.out) hg (Kd.N_ne HO107.out BK103.out (by decide)))
  replace HB := Zz.mk (hb)
  have HO110 := Zz.mk (ho)
  clear HO107
  clear ho hb hg hat
  refine hK.out _ _ ⟨(bC_ BK101.out 0).trans rfl, (bC_ BK101.out 1).trans rfl, (bC_ BK101.out 2).trans rfl, (bC_ BK102.out 0).trans rfl, (bC_ BK102.out 1).trans rfl, (bC_ BK102.out 2).trans rfl⟩ (fun hHeld => ?_)
  clear hK K
  refine NM_ (N := (some 19)) (h := ?_)
  refine one_ (i := 10) (N := some 22) (tb_ 14 2047) rfl rfl (one_of HT_.out (by kernel_rfl)) (by decide) (fun K hK => ?_)
  refine Kd.N_append_rows_step (Kd.slice 2 (Kd.int .i64)) (w0 := w) w.heap.size (by rfl) (.tmp 19) (.tmp 21) 22 25 (.slice none 0 0) 24 rfl Try.underlying22 info25 rfl (by decide) (by omega) v109 y108 l1_2 _ _ _ (fun k_ => ((P0_2_ k_ ∨ P1_2_ k_) ∨ w.heap.size ≤ k_) ∧ k_ ≠ gb101 ∧ k_ ≠ gb102 ∧ k_ ≠ gb103) (fun k_ => ((fun k_ => ((P0_2_ k_ ∨ P1_2_ k_) ∨ w.heap.size ≤ k_) ∧ k_ ≠ gb101 ∧ k_ ≠ gb102 ∧ k_ ≠ gb103)) k_ ∧ some k_ ≠ (v109 : Value).ownBlock) rfl rfl ?aO ?aR (fun _ hk => hk) ?aF ?aB ?aS ?aL ?_
  (case aR => exact (by skip; exact Kd.V_F (Kd.V_mono (ok' := (fun k_ => ((fun k_ => ((P0_2_ k_ ∨ P1_2_ k_) ∨ w.heap.size ≤ k_) ∧ k_ ≠ gb101 ∧ k_ ≠ gb102 ∧ k_ ≠ gb103)) k_ ∧ some k_ ≠ (v109 : Value).ownBlock)) (HO1_2.out) (fun k_ hk => ⟨⟨hk.1.1, ⟨hk.1.2.1, ⟨hk.1.2.2.1, hk.1.2.2.2⟩⟩⟩, hk.2⟩))))
  (case aB => exact (B3_ HB.out GE101.out GE102.out GE103.out))
  (case aF => exact (fun k_ hk => ⟨(.inr (Nat.le_trans (bS_ (B3_ HB.out GE101.out GE102.out GE103.out)) hk)), Kd.freshB (g := gb101) (o := .cells #[.int .i64 a0_0, .int .i64 a0_1, .slice A0_2 l0_2.length c0_2] 29 (0, 0)) (KB_ BK101.out) k_ hk, Kd.freshB (g := gb102) (o := .cells #[.int .i64 a1_0, .int .i64 a1_1, .slice A1_2 l1_2.length c1_2] 29 (0, 0)) (KB_ BK102.out) k_ hk, Kd.freshB (g := gb103) (o := .cells #[.int .i64 0, .int .i64 0, .slice none 0 0] 29 (0, 0)) (KB_ BK103.out) k_ hk⟩))
  (case aO => exact (KN_ HO110.out))
  (case aS => exact (bS_ (B3_ HB.out GE101.out GE102.out GE103.out)))
  (case aL => have := LMc6.out; omega)
  intro v112 w16 ho hb hg hat
  rw [← Ny111.out] at ho
  replace HO0_2 := Zz.mk (Kd.V_afterv (ok := (fun k_ => ((P0_2_ k_ ∨ P1_2_ k_) ∨ w.heap.size ≤ k_) ∧ k_ ≠ gb101 ∧ k_ ≠ gb102 ∧ k_ ≠ gb103)) (by refine VW_ ?_; exact HO0_2.out) hg hat)
  replace HO1_2 := Zz.mk (Kd.V_afterv (ok := (fun k_ => ((P0_2_ k_ ∨ P1_2_ k_) ∨ w.heap.size ≤ k_) ∧ k_ ≠ gb101 ∧ k_ ≠ gb102 ∧ k_ ≠ gb103)) (by refine VW_ ?_; exact HO1_2.out) hg hat)
  replace BK101 := Zz.mk (blk_grown (g := gb101) (o := .cells #[.int .i64 a0_0, .int .i64 a0_1, .slice A0_2 l0_2.length c0_2] 29 (0, 0)) (KB_ BK101.out) hg (Kd.N_ne HO110.out BK101.out (by decide)))
  replace BK102 := Zz.mk (blk_grown (g := gb102) (o := .cells #[.int .i64 a1_0, .int .i64 a1_1, .slice A1_2 l1_2.length c1_2] 29 (0, 0)) (KB_ BK102.out) hg (Kd.N_ne HO110.out BK102.out (by decide)))
  replace BK103 := Zz.mk (blk_grown (g := gb103) (o := .cells #[.int .i64 0, .int .i64 0, .slice none 0 0] 29 (0, 0)) (KB_ BK103.out) hg (Kd.N_ne HO110.out BK103.out (by decide)))
  replace HB := Zz.mk (hb)
  have HO113 := Zz.mk (ho)
  clear HO110
  clear ho hb hg hat
  obtain ⟨Ao17, co17, eo17⟩ := Kd.N_slice HO113.out
  (first | subst eo17 | (injection eo17 with f1_ f2_ f3_; have f4_ := f1_.symm; have f5_ := f3_.symm; clear f1_ f2_ f3_; subst f4_; subst f5_))
  refine hK.out _ _ ⟨(bC_ BK101.out 0).trans rfl, (bC_ BK101.out 1).trans rfl, (bC_ BK101.out 2).trans rfl, (bC_ BK102.out 0).trans rfl, (bC_ BK102.out 1).trans rfl, (bC_ BK102.out 2).trans rfl⟩ (fun hHeld => ?_)
  clear hK K
  refine NM_ (N := (some 22)) (h := ?_)
  refine one_ (i := 11) (N := some 23) (tb_ 14 4095) rfl rfl (one_of HT_.out (by kernel_rfl)) (by decide) (fun K hK => ?_)
  refine GO_ Try.func62 #[.int .i64 a0_0, .int .i64 a0_1, .slice Ao17 y111.length co17] (h := ?_)
  with_reducible refine (z62.calls k a0_0 a0_1 _ _ y111 t114 t115 t116 _ ?side1 ?side2 A7.out).mono ?_
  (case side1 => exact KC_ (Kd.N_reads' HO113.out).2.2)
  (case side2 => exact (Kd.N_reads' HO113.out).2.1)
  rintro e w18 ⟨v117, rfl, ho0, hb⟩
  refine ⟨_, rfl, ?_⟩
  have HO118 := Zz.mk (Kd.S_lower (Kd.S_new' (Kd.S_newM (M := fun k_ => (w.heap.size ≤ k_)) ho0 (bS_ (B3_ HB.out GE101.out GE102.out GE103.out)) (fun k_ h_ => h_)) (Kd.N_lt (KN_ HO113.out))) (bS_ (B3_ HB.out GE101.out GE102.out GE103.out)))
  replace HO0_2 := Zz.mk (Kd.V_elder' (by refine VW_ ?_; exact HO0_2.out) (Kd.S_base ho0) hb)
  replace HO1_2 := Zz.mk (Kd.V_elder' (by refine VW_ ?_; exact HO1_2.out) (Kd.S_base ho0) hb)
  replace HO113 := Zz.mk (Kd.N_elder' (KN_ HO113.out) (Kd.S_base ho0) hb)
  replace BK101 := Zz.mk (bB_ (g := gb101) (o := .cells #[.int .i64 a0_0, .int .i64 a0_1, .slice A0_2 l0_2.length c0_2] 29 (0, 0)) (KB_ BK101.out) hb)
  replace BK102 := Zz.mk (bB_ (g := gb102) (o := .cells #[.int .i64 a1_0, .int .i64 a1_1, .slice A1_2 l1_2.length c1_2] 29 (0, 0)) (KB_ BK102.out) hb)
  replace BK103 := Zz.mk (bB_ (g := gb103) (o := .cells #[.int .i64 0, .int .i64 0, .slice none 0 0] 29 (0, 0)) (KB_ BK103.out) hb)
  replace HB := Zz.mk (bT_ (B3_ HB.out GE101.out GE102.out GE103.out) hb)
  (try clear hb);(try clear hb2);(try clear hk);(try clear hi);(try clear ho0)
  obtain ⟨Ao21, co21, eo21⟩ := Kd.S_slice HO118.out
  (first | subst eo21 | (injection eo21 with f1_ f2_ f3_; have f4_ := f1_.symm; have f5_ := f3_.symm; clear f1_ f2_ f3_; subst f4_; subst f5_))
  refine hK.out _ _ ⟨(bC_ BK101.out 0).trans rfl, (bC_ BK101.out 1).trans rfl, (bC_ BK101.out 2).trans rfl, (bC_ BK102.out 0).trans rfl, (bC_ BK102.out 1).trans rfl, (bC_ BK102.out 2).trans rfl⟩ (fun hHeld => ?_)
  clear hK K
  refine NM_ (N := (some 23)) (h := ?_)
  refine one_ (i := 12) (N := none) (tb_ 14 8191) rfl rfl (one_of HT_.out (by kernel_rfl)) (by decide) (fun K hK => ?_)
  have hs19 : w18.cell? ⟨gb103, 0, none⟩ = some (.int .i64 0) := (bC_ BK103.out 0).trans rfl
  have hfs19 := bF_ BK103.out 0
  have hns19_0 := NB101_103.out
  have hns19_1 := NB102_103.out
  have hms19_0 := NB103_101.out
  have hms19_1 := NB103_102.out
  have hs20 : w18.cell? ⟨gb103, 1, none⟩ = some (.int .i64 0) := (bC_ BK103.out 1).trans rfl
  have hfs20 := bF_ BK103.out 1
  have hns20_0 := NB101_103.out
  have hns20_1 := NB102_103.out
  have hms20_0 := NB103_101.out
  have hms20_1 := NB103_102.out
  have hs22 : w18.cell? ⟨gb103, 2, none⟩ = some (.slice none 0 0) := (bC_ BK103.out 2).trans rfl
  have hfs22 := bF_ BK103.out 2
  have hns22_0 := NB101_103.out
  have hns22_1 := NB102_103.out
  have hms22_0 := NB103_101.out
  have hms22_1 := NB103_102.out
  refine skip_ (w1 := ?_) (by rfl) rfl ?_ ?_
  rotate_left
  ·go_simp
   rfl
  refine hK.out _ _ ⟨((cell_far (p := ⟨gb103, _, none⟩) NB101_103.out _).trans (((cell_far (p := ⟨gb103, _, none⟩) NB101_103.out _).trans (((cell_far (p := ⟨gb103, _, none⟩) NB101_103.out _).trans (hHeld.1)))))), ((cell_far (p := ⟨gb103, _, none⟩) NB101_103.out _).trans (((cell_far (p := ⟨gb103, _, none⟩) NB101_103.out _).trans (((cell_far (p := ⟨gb103, _, none⟩) NB101_103.out _).trans (hHeld.2.1)))))), ((cell_far (p := ⟨gb103, _, none⟩) NB101_103.out _).trans (((cell_far (p := ⟨gb103, _, none⟩) NB101_103.out _).trans (((cell_far (p := ⟨gb103, _, none⟩) NB101_103.out _).trans (hHeld.2.2.1)))))), ((cell_far (p := ⟨gb103, _, none⟩) NB102_103.out _).trans (((cell_far (p := ⟨gb103, _, none⟩) NB102_103.out _).trans (((cell_far (p := ⟨gb103, _, none⟩) NB102_103.out _).trans (hHeld.2.2.2.1)))))), ((cell_far (p := ⟨gb103, _, none⟩) NB102_103.out _).trans (((cell_far (p := ⟨gb103, _, none⟩) NB102_103.out _).trans (((cell_far (p := ⟨gb103, _, none⟩) NB102_103.out _).trans (hHeld.2.2.2.2.1)))))), ((cell_far (p := ⟨gb103, _, none⟩) NB102_103.out _).trans (((cell_far (p := ⟨gb103, _, none⟩) NB102_103.out _).trans (((cell_far (p := ⟨gb103, _, none⟩) NB102_103.out _).trans (hHeld.2.2.2.2.2))))))⟩ (fun hHeld => ?_)
  clear hK K
  refine PX_ 13 5 (tb_ 14 16383) HT_ rfl rfl ?_
  refine done_ (done_of HT_.out (by kernel_rfl)) ?_
  try go_wp2
  refine bodyPost_ret (results_ct rfl _ _ gb103 29 #[.int .i64 t114, .int .i64 t115, .slice Ao21 t116.length co21] (0, 0) _ rfl (by refine BW_ ?_; refine bP_ (cs := #[.int .i64 t114, .int .i64 t115, .slice none 0 0]) ?_ 2 _ rfl; refine BW_ ?_; refine bP_ (cs := #[.int .i64 t114, .int .i64 0, .slice none 0 0]) ?_ 1 _ rfl; refine BW_ ?_; refine bP_ (cs := #[.int .i64 0, .int .i64 0, .slice none 0 0]) ?_ 0 _ rfl; refine BW_ ?_; exact BK103.out) Try.underlying29 rfl (by kernel_rfl)) rfl ?_
  exact ⟨_, F_, by refine SW_ ?_; exact Kd.S_mono (Kd.S_far (p := ⟨gb103, 2, none⟩) (Kd.S_far (p := ⟨gb103, 1, none⟩) (Kd.S_far (p := ⟨gb103, 0, none⟩) (Kd.S_types HO118.out BK103.out (by decide)) (fun _ hk => hk.2) (.int .i64 t114)) (fun _ hk => hk.2) (.int .i64 t115)) (fun _ hk => hk.2) (.slice Ao21 t116.length co21)) (fun _ hk => hk.1.1.1), B3_ HB.out GE101.out GE102.out GE103.out⟩
 rw [if_neg c4] at H
 have c4b0 : (t104 == 0) = false := beq_eq_false_iff_ne.mpr c4
 have c4b1 : (t104 != 0) = true := bne_iff_ne.mpr c4
 simp only [Option.some.injEq, Prod.mk.injEq] at H
 obtain ⟨rfl, rfl, rfl, rfl⟩ := H
 go_enter Try.func21, Try.ntmps21
 go_wp2_with (first | ((with_reducible refine gate_dst (N := 2) rfl ?_); refine box_event ?hg (N := 2) ?hd (cs := #[.int .i64 a0_0, .int .i64 a0_1, .slice A0_2 l0_2.length c0_2]) (t := 29) ?hr ?_; (case hd => rfl); (case hg => rfl); (case hr => first | (go_simp; done) | (go_simp; rfl)); intro gb101 hg w23 hbox hb; have BK101 := Zz.mk (hbox); have GW101 := Zz.mk ((by rw [hg]; exact (bS_ (B_ HB.out)) : w.heap.size ≤ gb101)); have GE101 := GW101; replace HO0_2 := Zz.mk (Kd.V_below (Kd.V_elderB (by refine VW_ ?_; exact HO0_2.out) gb101 (Nat.le_of_eq hg.symm)) hb); replace HO1_2 := Zz.mk (Kd.V_below (Kd.V_elderB (by refine VW_ ?_; exact HO1_2.out) gb101 (Nat.le_of_eq hg.symm)) hb); replace HB := Zz.mk (bT_ (B_ HB.out) hb); clear hb hbox hg) | ((with_reducible refine gate_dst (N := 3) rfl ?_); refine box_event ?hg (N := 3) ?hd (cs := #[.int .i64 a1_0, .int .i64 a1_1, .slice A1_2 l1_2.length c1_2]) (t := 29) ?hr ?_; (case hd => rfl); (case hg => rfl); (case hr => first | (go_simp; done) | (go_simp; rfl)); intro gb102 hg w24 hbox hb; have BK102 := Zz.mk (hbox); have GW102 := Zz.mk ((by rw [hg]; exact (bS_ (B1_ HB.out GE101.out)) : w.heap.size ≤ gb102)); have GE102 := GW102; have NB101_102 := Zz.mk ((by rw [hg]; exact Nat.ne_of_lt (blk_lt (g := gb101) (o := .cells #[.int .i64 a0_0, .int .i64 a0_1, .slice A0_2 l0_2.length c0_2] 29 (0, 0)) (KB_ BK101.out)) : gb101 ≠ gb102)); have NB102_101 := Zz.mk NB101_102.out.symm; replace HO0_2 := Zz.mk (Kd.V_below (Kd.V_elderB (by refine VW_ ?_; exact HO0_2.out) gb102 (Nat.le_of_eq hg.symm)) hb); replace HO1_2 := Zz.mk (Kd.V_below (Kd.V_elderB (by refine VW_ ?_; exact HO1_2.out) gb102 (Nat.le_of_eq hg.symm)) hb); replace BK101 := Zz.mk (bB_ (g := gb101) (o := .cells #[.int .i64 a0_0, .int .i64 a0_1, .slice A0_2 l0_2.length c0_2] 29 (0, 0)) (KB_ BK101.out) hb); replace HB := Zz.mk (bT_ (B1_ HB.out GE101.out) hb); clear hb hbox hg) | ((with_reducible refine gate_dst (N := 4) rfl ?_); refine box_event ?hg (N := 4) ?hd (cs := #[.int .i64 0, .int .i64 0, .slice none 0 0]) (t := 29) ?hr ?_; (case hd => rfl); (case hg => rfl); (case hr => first | (go_simp; done) | (go_simp; rfl)); intro gb103 hg w25 hbox hb; have BK103 := Zz.mk (hbox); have GW103 := Zz.mk ((by rw [hg]; exact (bS_ (B2_ HB.out GE101.out GE102.out)) : w.heap.size ≤ gb103)); have GE103 := GW103; have NB101_103 := Zz.mk ((by rw [hg]; exact Nat.ne_of_lt (blk_lt (g := gb101) (o := .cells #[.int .i64 a0_0, .int .i64 a0_1, .slice A0_2 l0_2.length c0_2] 29 (0, 0)) (KB_ BK101.out)) : gb101 ≠ gb103)); have NB103_101 := Zz.mk NB101_103.out.symm; have NB102_103 := Zz.mk ((by rw [hg]; exact Nat.ne_of_lt (blk_lt (g := gb102) (o := .cells #[.int .i64 a1_0, .int .i64 a1_1, .slice A1_2 l1_2.length c1_2] 29 (0, 0)) (KB_ BK102.out)) : gb102 ≠ gb103)); have NB103_102 := Zz.mk NB102_103.out.symm; replace HO0_2 := Zz.mk (Kd.V_below (Kd.V_elderB (by refine VW_ ?_; exact HO0_2.out) gb103 (Nat.le_of_eq hg.symm)) hb); replace HO1_2 := Zz.mk (Kd.V_below (Kd.V_elderB (by refine VW_ ?_; exact HO1_2.out) gb103 (Nat.le_of_eq hg.symm)) hb); replace BK101 := Zz.mk (bB_ (g := gb101) (o := .cells #[.int .i64 a0_0, .int .i64 a0_1, .slice A0_2 l0_2.length c0_2] 29 (0, 0)) (KB_ BK101.out) hb); replace BK102 := Zz.mk (bB_ (g := gb102) (o := .cells #[.int .i64 a1_0, .int .i64 a1_1, .slice A1_2 l1_2.length c1_2] 29 (0, 0)) (KB_ BK102.out) hb); replace HB := Zz.mk (bT_ (B2_ HB.out GE101.out GE102.out) hb); clear hb hbox hg) | ((with_reducible refine gC_ (f := 61) rfl ?_); refine GL_ (some 7) rfl rfl Try.func61 #[.pointer (some ⟨gb101, 0, none⟩), .pointer (some ⟨gb102, 0, none⟩)] rfl (h := ?_); (with_reducible refine (z61.calls k gb101 a0_0 a0_1 A0_2 c0_2 l0_2 gb102 a1_0 a1_1 A1_2 c1_2 l1_2 t104 _ ?side1 ?side2 ?side3 ?side4 ?side5 ?side6 A3.out).mono ?_); (case side1 => refine BW_ ?_; exact BK101.out); (case side2 => refine BW_ ?_; exact BK102.out); (case side3 => exact KC_ (Kd.V_reads' HO0_2.out).2.2); (case side4 => exact (Kd.V_reads' HO0_2.out).2.1); (case side5 => exact KC_ (Kd.V_reads' HO1_2.out).2.2); (case side6 => exact (Kd.V_reads' HO1_2.out).2.1); rintro e w26 ⟨rfl, hb⟩; refine ⟨_, rfl, ?_⟩; replace HO0_2 := Zz.mk (Kd.V_below (by refine VW_ ?_; exact HO0_2.out) hb); replace HO1_2 := Zz.mk (Kd.V_below (by refine VW_ ?_; exact HO1_2.out) hb); replace BK101 := Zz.mk (bB_ (g := gb101) (o := .cells #[.int .i64 a0_0, .int .i64 a0_1, .slice A0_2 l0_2.length c0_2] 29 (0, 0)) (KB_ BK101.out) hb); replace BK102 := Zz.mk (bB_ (g := gb102) (o := .cells #[.int .i64 a1_0, .int .i64 a1_1, .slice A1_2 l1_2.length c1_2] 29 (0, 0)) (KB_ BK102.out) hb); replace BK103 := Zz.mk (bB_ (g := gb103) (o := .cells #[.int .i64 0, .int .i64 0, .slice none 0 0] 29 (0, 0)) (KB_ BK103.out) hb); replace HB := Zz.mk (bT_ (B3_ HB.out GE101.out GE102.out GE103.out) hb); (try clear hb); (try clear hb2); (try clear hk); (try clear hi); have hnb27 := NB103_101.out; have hnc27 := NB101_103.out; have hnb28 := NB103_102.out; have hnc28 := NB102_103.out; obtain ⟨hcz29_0, hcz29_1, hcz29_2, hfz29_0, hfz29_1, hfz29_2⟩ := Z3f_ BK103.out))
 refine bodyPost_ret (results_ct rfl _ _ gb103 29 #[.int .i64 0, .int .i64 0, .slice none 0 0] (0, 0) _ rfl (by refine BW_ ?_; refine bP_ (cs := #[.int .i64 0, .int .i64 0, .slice none 0 0]) ?_ 2 _ rfl; refine BW_ ?_; refine bP_ (cs := #[.int .i64 0, .int .i64 0, .slice none 0 0]) ?_ 1 _ rfl; refine BW_ ?_; refine bP_ (cs := #[.int .i64 0, .int .i64 0, .slice none 0 0]) ?_ 0 _ rfl; refine BW_ ?_; exact BK103.out) Try.underlying29 rfl (by kernel_rfl)) rfl ?_
 exact ⟨_, F_, by first | exact Kd.S_nil _ _ _ _ _ | exact Kd.N_nil _ _ _ _ _ | exact Kd.V_nil _ _ _ _ _ | exact Kd.Q_nil _ _ _ _ _ | exact Kd.R_nil _ _ _ _ _, B3_ HB.out GE101.out GE102.out GE103.out⟩
end Go.Proofs.Ytabfflgoaalapaa.B
