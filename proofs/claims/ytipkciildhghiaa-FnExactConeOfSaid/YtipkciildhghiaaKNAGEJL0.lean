/- Printed proofs of functions of the program and of the reference, by a program of this work over the kit's printer. -/
import Derived.Test.YtipkciildhghiaaKCKDKEJ0
import Derived.Test.YtipkciildhghiaaKECKHNB0
import Derived.Test.YtipkciildhghiaaKMPLHLC0
import Derived.Test.YtipkciildhghiaaKPPIGCD0
import Derived.Test.YtipkciildhghiaaKW0
namespace Go.Proofs.Ytipkciildhghiaa.B
open Go.RowKit Go.Proofs.YtipkciildhghiaaW.PrintWords Go.Proofs.YtipkciildhghiaaW.PrintLast Go.Proofs.YtipkciildhghiaaW.PrintMore
attribute [local go_sem] max2_int min2_int max_two min_two max_three min_three max_four min_four
set_option linter.unusedVariables false
set_option linter.unusedSimpArgs false
def z35.l0 : Nat → Int → Int → List (List Int) → List (List Int) → Option ((List (List Int)) × Int)
 | 0, _, _, _, _ => none
 | k + 1, x1, x7, x102000, x116000 => if x7 < (x102000.length : Int) then (if 0 ≤ x7 then (if ((rI_ x102000 x7).length : Int) > 3 then (some (([] : List (List Int)), 5)) else ((z82.f (rI_ x102000 x7)).bind fun t118 => ((z81.f k t118 x1).bind fun t121 => ((spec_l05Put.f x116000 t121).bind fun t124 => (z35.l0 k x1 (wrap64 (x7 + 1)) x102000 t124))))) else (none)) else (if (x116000.length : Int) > 48 then (some (([] : List (List Int)), 5)) else (some (x116000, 0)))
def z35.f (k : Nat) (l0_0 : List (List Int)) (a1 : Int) : Option ((List (List Int)) × Int) := (z56.f k l0_0).bind fun t103 => (if t103 = true then ((z79.f a1 0 9).bind fun t104 => (if t104 = true then ((z80.f k l0_0 (([a1] : List Int))).bind fun t108 => (if t108 ≥ 0 then (some (([] : List (List Int)), 4)) else (z35.l0 k a1 0 l0_0 (([(([a1] : List Int))] : List (List Int)))))) else (some (([] : List (List Int)), 2)))) else (some (([] : List (List Int)), 1)))
set_option maxHeartbeats 8000000 in
set_option maxRecDepth 100000 in
theorem z35.calls (k : Nat) (A0_0 : Option Addr) (c0_0 : Nat) (l0_0 : List (List Int)) (a1 : Int) (r1 : List (List Int)) (r2 : Int) (w : World) (hr0_0 : Kd.C (Kd.slice 2 (Kd.int .i64)) w A0_0 l0_0.length l0_0) (hc0_0 : l0_0.length ≤ c0_0) (h : z35.f k l0_0 a1 = some (r1, r2)) :
  Calls Try.prog 35 #[.agg #[.slice A0_0 l0_0.length c0_0], .int .i64 a1] w fun e w' => ∃ v0_ : Value, e = .returned (.tuple #[.agg #[v0_], .int .i64 r2]) ∧ Kd.S (Kd.slice 2 (Kd.int .i64)) 26 w' w.heap.size (fun _ => True) v0_ r1 ∧ Below w.heap.size w w' := by
 have hu29 := Try.underlying29
 have HR0_0 := Zz.mk hr0_0
 have HC0_0 := Zz.mk hc0_0
 clear hr0_0 hc0_0
 have HB := Zz.mk (Below.refl w.heap.size w)
 have H : ((z56.f k l0_0).bind fun t103 => (if t103 = true then ((z79.f a1 0 9).bind fun t104 => (if t104 = true then ((z80.f k l0_0 (([a1] : List Int))).bind fun t108 => (if t108 ≥ 0 then (some (([] : List (List Int)), 4)) else (z35.l0 k a1 0 l0_0 (([(([a1] : List Int))] : List (List Int)))))) else (some (([] : List (List Int)), 2)))) else (some (([] : List (List Int)), 1)))) = some (r1, r2) := h
 clear h
 replace H := OB_ H
 obtain ⟨t103, A30, H⟩ := H
 replace H : (if t103 = true then ((z79.f a1 0 9).bind fun t104 => (if t104 = true then ((z80.f k l0_0 (([a1] : List Int))).bind fun t108 => (if t108 ≥ 0 then (some (([] : List (List Int)), 4)) else (z35.l0 k a1 0 l0_0 (([(([a1] : List Int))] : List (List Int)))))) else (some (([] : List (List Int)), 2)))) else (some (([] : List (List Int)), 1))) = some (r1, r2) := H
 have A3 := Zz.mk A30
 clear A30
 by_cases c4 : t103 = true
 ·subst c4
  have H1 : ((z79.f a1 0 9).bind fun t104 => (if t104 = true then ((z80.f k l0_0 (([a1] : List Int))).bind fun t108 => (if t108 ≥ 0 then (some (([] : List (List Int)), 4)) else (z35.l0 k a1 0 l0_0 (([(([a1] : List Int))] : List (List Int)))))) else (some (([] : List (List Int)), 2)))) = some (r1, r2) := by rw [if_pos rfl] at H; exact H
  clear H
  have H := H1
  clear H1
  replace H := OB_ H
  obtain ⟨t104, A50, H⟩ := H
  replace H : (if t104 = true then ((z80.f k l0_0 (([a1] : List Int))).bind fun t108 => (if t108 ≥ 0 then (some (([] : List (List Int)), 4)) else (z35.l0 k a1 0 l0_0 (([(([a1] : List Int))] : List (List Int)))))) else (some (([] : List (List Int)), 2))) = some (r1, r2) := H
  have A5 := Zz.mk A50
  clear A50
  by_cases c6 : t104 = true
  ·subst c6
   have H1 : ((z80.f k l0_0 (([a1] : List Int))).bind fun t108 => (if t108 ≥ 0 then (some (([] : List (List Int)), 4)) else (z35.l0 k a1 0 l0_0 (([(([a1] : List Int))] : List (List Int)))))) = some (r1, r2) := by rw [if_pos rfl] at H; exact H
   clear H
   have H := H1
   clear H1
   obtain ⟨y105, hy105⟩ : ∃ y_ : List Int, y_ = (([a1] : List Int)) := ⟨_, rfl⟩
   replace H : ((z80.f k l0_0 y105).bind fun t108 => (if t108 ≥ 0 then (some (([] : List (List Int)), 4)) else (z35.l0 k a1 0 l0_0 (([(([a1] : List Int))] : List (List Int)))))) = some (r1, r2) := Y_ hy105 H
   have Ny105 := Zz.mk hy105
   clear hy105
   replace H := OB_ H
   obtain ⟨t108, A70, H⟩ := H
   replace H : (if t108 ≥ 0 then (some (([] : List (List Int)), 4)) else (z35.l0 k a1 0 l0_0 (([(([a1] : List Int))] : List (List Int))))) = some (r1, r2) := H
   have A7 := Zz.mk A70
   clear A70
   by_cases c8 : t108 ≥ 0
   ·rw [if_pos c8] at H
    have c8b0 : decide (0 ≤ t108) = true := decide_eq_true c8
    clear c8
    simp only [Option.some.injEq, Prod.mk.injEq] at H
    obtain ⟨rfl, rfl⟩ := H
    go_enter Try.func35, Try.ntmps35
    go_wp2_with (first | ((with_reducible refine gate_dst (N := 2) rfl ?_); refine bx_ 2 #[.slice A0_0 l0_0.length c0_0] 29 ?_; intro gb101 hg w9 hbox hb; have BK101 := Zz.mk (hbox); have GW101 := Zz.mk ((gw_ hg (B_ HB.out))); have GE101 := GW101; replace HB := Zz.mk (bT_ (B_ HB.out) hb); clear hb hbox hg) | ((with_reducible refine gate_dst (N := 4) rfl ?_); refine bx_ 4 #[.slice none 0 0] 29 ?_; intro gb102 hg w10 hbox hb; have BK102 := Zz.mk (hbox); have GW102 := Zz.mk ((gw_ hg (B1_ HB.out GE101.out))); have GE102 := GW102; have NB101_102 := Zz.mk ((nb_ BK101.out hg)); have NB102_101 := Zz.mk NB101_102.out.symm; replace BK101 := Zz.mk (kb_ BK101.out hb); replace HB := Zz.mk (bT_ (B1_ HB.out GE101.out) hb); clear hb hbox hg) | ((with_reducible refine gC_ (f := 56) rfl ?_); refine GL_ (some 8) rfl rfl Try.func56 #[.pointer (some ⟨gb101, 0, none⟩)] rfl (h := ?_); (with_reducible refine (z56.calls k gb101 A0_0 c0_0 l0_0 true _ ?side1 ?side2 ?side3 A3.out).mono ?_); (case side1 => refine BW_ ?_; exact BK101.out); (case side2 => exact KC_ (Kd.C_below HR0_0.out HB.out)); (case side3 => exact HC0_0.out); rintro e w11 ⟨rfl, hb⟩; refine ⟨_, rfl, ?_⟩; replace BK101 := Zz.mk (kb_ BK101.out hb); replace BK102 := Zz.mk (kb_ BK102.out hb); replace HB := Zz.mk (bT_ (B2_ HB.out GE101.out GE102.out) hb); (try clear hb)) | ((with_reducible refine gC_ (f := 79) rfl ?_); refine GL_ (some 12) rfl rfl Try.func79 #[.int .i64 a1, .int .i64 0, .int .i64 9] rfl (h := ?_); (with_reducible refine (z79.calls a1 0 9 true _ A5.out).mono ?_); rintro e w' ⟨rfl, ⟨nd, rfl⟩⟩; refine ⟨_, rfl, ?_⟩; (try (rw [drewN_self w11]; generalize hq_ : World.drewN w11 _ = w11; replace BK101 : Zz (w11.heap[gb101]? = some (.cells #[.slice A0_0 l0_0.length c0_0] 29 (0, 0))) := ⟨by rw [← hq_]; exact (KB_ BK101.out)⟩; replace BK102 : Zz (w11.heap[gb102]? = some (.cells #[.slice none 0 0] 29 (0, 0))) := ⟨by rw [← hq_]; exact (KB_ BK102.out)⟩; replace HB : Zz (Below w.heap.size w w11) := ⟨by rw [← hq_]; exact (B2_ HB.out GE101.out GE102.out)⟩; (try clear hq_)))) | ((with_reducible refine gate_dst (N := 16) rfl ?_); refine Kd.R_lit (Kd.int .i64) _ 2 ?hg (N := 16) ?hd (xs := ([a1] : List Int)) (inner := [.int .i64 a1]) (ok := fun _ => True) (okp := fun _ => True) ?hr ?hp (fun _ hk => hk) trivial (Below.refl _ _) (Nat.le_refl _) (by simp) ?_; (case hd => rfl); (case hg => rfl); (case hr => first | (go_simp; done) | (go_simp; rfl)); (case hp => exact (Reps.one (show Kd.M (Kd.int .i64) _ _ _ a1 [.int .i64 a1] from rfl) (Reps.none _ _))); intro v106 w12 ho13 hb hg_ hnew_; clear hg_ hnew_; (first | rw [← Ny105.out] at ho13 | (simp only [Int.reduceToNat] at ho13; rw [← Ny105.out] at ho13)); have HO107 := Zz.mk (Kd.R_lower ho13 (bS_ (B2_ HB.out GE101.out GE102.out))); replace BK101 := Zz.mk (kb_ BK101.out hb); replace BK102 := Zz.mk (kb_ BK102.out hb); replace HB := Zz.mk (bT_ (B2_ HB.out GE101.out GE102.out) hb); clear hb ho13; obtain ⟨Ao14, co14, eo14⟩ := Kd.R_slice HO107.out; subst eo14) | ((with_reducible refine gC_ (f := 80) rfl ?_); refine GL_ (some 17) rfl rfl Try.func80 #[.pointer (some ⟨gb101, 0, none⟩), .slice Ao14 y105.length co14] rfl (h := ?_); (with_reducible refine (z80.calls k gb101 A0_0 c0_0 l0_0 _ _ y105 t108 _ ?side1 ?side2 ?side3 ?side4 ?side5 A7.out).mono ?_); (case side1 => refine BW_ ?_; exact BK101.out); (case side2 => exact KC_ (Kd.C_below HR0_0.out HB.out)); (case side3 => exact HC0_0.out); (case side4 => exact KC_ (Kd.R_reads' HO107.out).2.2); (case side5 => exact (Kd.R_reads' HO107.out).2.1); rintro e w' ⟨rfl, ⟨nd, rfl⟩⟩; refine ⟨_, rfl, ?_⟩; (try (rw [drewN_self w12]; generalize hq_ : World.drewN w12 _ = w12; replace HO107 : Zz (Kd.R (Kd.int .i64) 2 w12 w.heap.size (fun _ => True) (.slice Ao14 y105.length co14) y105) := ⟨by rw [← hq_]; exact (KR_ HO107.out)⟩; replace BK101 : Zz (w12.heap[gb101]? = some (.cells #[.slice A0_0 l0_0.length c0_0] 29 (0, 0))) := ⟨by rw [← hq_]; exact (KB_ BK101.out)⟩; replace BK102 : Zz (w12.heap[gb102]? = some (.cells #[.slice none 0 0] 29 (0, 0))) := ⟨by rw [← hq_]; exact (KB_ BK102.out)⟩; replace HB : Zz (Below w.heap.size w w12) := ⟨by rw [← hq_]; exact (B2_ HB.out GE101.out GE102.out)⟩; (try clear hq_))); have hnb15 := NB102_101.out; have hnc15 := NB101_102.out; obtain ⟨hcz16_0, hfz16_0⟩ := Z1f_ BK102.out))
    refine bodyPost_ret (results_ct rfl _ _ gb102 29 #[.slice none 0 0] (0, 0) _ rfl (by refine BW_ ?_; refine bP_ (cs := #[.slice none 0 0]) ?_ 0 _ rfl; refine BW_ ?_; exact BK102.out) Try.underlying29 rfl (by kernel_rfl)) rfl ?_
    exact ⟨_, F_, by first | exact Kd.S_nil _ _ _ _ _ | exact Kd.N_nil _ _ _ _ _ | exact Kd.V_nil _ _ _ _ _ | exact Kd.Q_nil _ _ _ _ _ | exact Kd.R_nil _ _ _ _ _, B2_ HB.out GE101.out GE102.out⟩
   rw [if_neg c8] at H
   have c8b0 : decide (0 ≤ t108) = false := decide_eq_false c8
   clear c8
   obtain ⟨y109, hy109⟩ : ∃ y_ : List Int, y_ = (([a1] : List Int)) := ⟨_, rfl⟩
   replace H : (z35.l0 k a1 0 l0_0 (([y109] : List (List Int)))) = some (r1, r2) := Y_ hy109 H
   have Ny109 := Zz.mk hy109
   clear hy109
   obtain ⟨y112, hy112⟩ : ∃ y_ : List (List Int), y_ = (([y109] : List (List Int))) := ⟨_, rfl⟩
   replace H : (z35.l0 k a1 0 l0_0 y112) = some (r1, r2) := Y_ hy112 H
   have Ny112 := Zz.mk hy112
   clear hy112
   have H' := Zz.mk H
   clear H
   go_enter Try.func35, Try.ntmps35
   go_wp2_with (first | ((with_reducible refine gate_dst (N := 2) rfl ?_); refine bx_ 2 #[.slice A0_0 l0_0.length c0_0] 29 ?_; intro gb101 hg w17 hbox hb; have BK101 := Zz.mk (hbox); have GW101 := Zz.mk ((gw_ hg (B_ HB.out))); have GE101 := GW101; replace HB := Zz.mk (bT_ (B_ HB.out) hb); clear hb hbox hg) | ((with_reducible refine gate_dst (N := 4) rfl ?_); refine bx_ 4 #[.slice none 0 0] 29 ?_; intro gb102 hg w18 hbox hb; have BK102 := Zz.mk (hbox); have GW102 := Zz.mk ((gw_ hg (B1_ HB.out GE101.out))); have GE102 := GW102; have NB101_102 := Zz.mk ((nb_ BK101.out hg)); have NB102_101 := Zz.mk NB101_102.out.symm; replace BK101 := Zz.mk (kb_ BK101.out hb); replace HB := Zz.mk (bT_ (B1_ HB.out GE101.out) hb); clear hb hbox hg) | ((with_reducible refine gC_ (f := 56) rfl ?_); refine GL_ (some 8) rfl rfl Try.func56 #[.pointer (some ⟨gb101, 0, none⟩)] rfl (h := ?_); (with_reducible refine (z56.calls k gb101 A0_0 c0_0 l0_0 true _ ?side1 ?side2 ?side3 A3.out).mono ?_); (case side1 => refine BW_ ?_; exact BK101.out); (case side2 => exact KC_ (Kd.C_below HR0_0.out HB.out)); (case side3 => exact HC0_0.out); rintro e w19 ⟨rfl, hb⟩; refine ⟨_, rfl, ?_⟩; replace BK101 := Zz.mk (kb_ BK101.out hb); replace BK102 := Zz.mk (kb_ BK102.out hb); replace HB := Zz.mk (bT_ (B2_ HB.out GE101.out GE102.out) hb); (try clear hb)) | ((with_reducible refine gC_ (f := 79) rfl ?_); refine GL_ (some 12) rfl rfl Try.func79 #[.int .i64 a1, .int .i64 0, .int .i64 9] rfl (h := ?_); (with_reducible refine (z79.calls a1 0 9 true _ A5.out).mono ?_); rintro e w' ⟨rfl, ⟨nd, rfl⟩⟩; refine ⟨_, rfl, ?_⟩; (try (rw [drewN_self w19]; generalize hq_ : World.drewN w19 _ = w19; replace BK101 : Zz (w19.heap[gb101]? = some (.cells #[.slice A0_0 l0_0.length c0_0] 29 (0, 0))) := ⟨by rw [← hq_]; exact (KB_ BK101.out)⟩; replace BK102 : Zz (w19.heap[gb102]? = some (.cells #[.slice none 0 0] 29 (0, 0))) := ⟨by rw [← hq_]; exact (KB_ BK102.out)⟩; replace HB : Zz (Below w.heap.size w w19) := ⟨by rw [← hq_]; exact (B2_ HB.out GE101.out GE102.out)⟩; (try clear hq_)))) | ((with_reducible refine gate_dst (N := 16) rfl ?_); refine Kd.R_lit (Kd.int .i64) _ 2 ?hg (N := 16) ?hd (xs := ([a1] : List Int)) (inner := [.int .i64 a1]) (ok := fun _ => True) (okp := fun _ => True) ?hr ?hp (fun _ hk => hk) trivial (Below.refl _ _) (Nat.le_refl _) (by simp) ?_; (case hd => rfl); (case hg => rfl); (case hr => first | (go_simp; done) | (go_simp; rfl)); (case hp => exact (Reps.one (show Kd.M (Kd.int .i64) _ _ _ a1 [.int .i64 a1] from rfl) (Reps.none _ _))); intro v106 w20 ho21 hb hg_ hnew_; clear hg_ hnew_; (first | rw [← Ny105.out] at ho21 | (simp only [Int.reduceToNat] at ho21; rw [← Ny105.out] at ho21)); have HO107 := Zz.mk (Kd.R_lower ho21 (bS_ (B2_ HB.out GE101.out GE102.out))); replace BK101 := Zz.mk (kb_ BK101.out hb); replace BK102 := Zz.mk (kb_ BK102.out hb); replace HB := Zz.mk (bT_ (B2_ HB.out GE101.out GE102.out) hb); clear hb ho21; obtain ⟨Ao22, co22, eo22⟩ := Kd.R_slice HO107.out; subst eo22) | ((with_reducible refine gC_ (f := 80) rfl ?_); refine GL_ (some 17) rfl rfl Try.func80 #[.pointer (some ⟨gb101, 0, none⟩), .slice Ao22 y105.length co22] rfl (h := ?_); (with_reducible refine (z80.calls k gb101 A0_0 c0_0 l0_0 _ _ y105 t108 _ ?side1 ?side2 ?side3 ?side4 ?side5 A7.out).mono ?_); (case side1 => refine BW_ ?_; exact BK101.out); (case side2 => exact KC_ (Kd.C_below HR0_0.out HB.out)); (case side3 => exact HC0_0.out); (case side4 => exact KC_ (Kd.R_reads' HO107.out).2.2); (case side5 => exact (Kd.R_reads' HO107.out).2.1); rintro e w' ⟨rfl, ⟨nd, rfl⟩⟩; refine ⟨_, rfl, ?_⟩; (try (rw [drewN_self w20]; generalize hq_ : World.drewN w20 _ = w20; replace HO107 : Zz (Kd.R (Kd.int .i64) 2 w20 w.heap.size (fun _ => True) (.slice Ao22 y105.length co22) y105) := ⟨by rw [← hq_]; exact (KR_ HO107.out)⟩; replace BK101 : Zz (w20.heap[gb101]? = some (.cells #[.slice A0_0 l0_0.length c0_0] 29 (0, 0))) := ⟨by rw [← hq_]; exact (KB_ BK101.out)⟩; replace BK102 : Zz (w20.heap[gb102]? = some (.cells #[.slice none 0 0] 29 (0, 0))) := ⟨by rw [← hq_]; exact (KB_ BK102.out)⟩; replace HB : Zz (Below w.heap.size w w20) := ⟨by rw [← hq_]; exact (B2_ HB.out GE101.out GE102.out)⟩; (try clear hq_)))) | ((with_reducible refine gate_dst (N := 21) rfl ?_); refine Kd.R_lit (Kd.int .i64) _ 2 ?hg (N := 21) ?hd (xs := ([a1] : List Int)) (inner := [.int .i64 a1]) (ok := fun _ => True) (okp := fun _ => True) ?hr ?hp (fun _ hk => hk) trivial (Below.refl _ _) (Nat.le_refl _) (by simp) ?_; (case hd => rfl); (case hg => rfl); (case hr => first | (go_simp; done) | (go_simp; rfl)); (case hp => exact (Reps.one (show Kd.M (Kd.int .i64) _ _ _ a1 [.int .i64 a1] from rfl) (Reps.none _ _))); intro v110 w23 ho24 hb hg_ hnew_; clear hg_ hnew_; (first | rw [← Ny109.out] at ho24 | (simp only [Int.reduceToNat] at ho24; rw [← Ny109.out] at ho24)); have HO111 := Zz.mk (Kd.R_lower (Kd.R_new' ho24 (Kd.R_lt (KR_ HO107.out))) (bS_ (B2_ HB.out GE101.out GE102.out))); replace HO107 := Zz.mk (Kd.R_elder' (KR_ HO107.out) (Kd.R_base ho24) hb); replace BK101 := Zz.mk (kb_ BK101.out hb); replace BK102 := Zz.mk (kb_ BK102.out hb); replace HB := Zz.mk (bT_ (B2_ HB.out GE101.out GE102.out) hb); clear hb ho24; obtain ⟨Ao25, co25, eo25⟩ := Kd.R_slice HO111.out; subst eo25) | ((with_reducible refine gate_dst (N := 22) rfl ?_); refine S_lit1 2 _ 26 ?hg (N := 22) ?hd (x := y109) (u := .slice Ao25 y109.length co25) (ok := (fun k_ => some k_ ≠ (.slice Ao22 y105.length co22 : Value).ownBlock)) ?hr (Kd.R_mono (ok' := (fun k_ => some k_ ≠ (.slice Ao22 y105.length co22 : Value).ownBlock)) (HO111.out) (fun k_ hk => hk.2)) ((show ∀ k_, w23.heap.size ≤ k_ → (fun k_ => some k_ ≠ (.slice Ao22 y105.length co22 : Value).ownBlock) k_ from fun k_ hk => Kd.fresh' (Kd.R_lt (KR_ HO107.out)) k_ hk) _ (Nat.le_refl _)) (bS_ (B2_ HB.out GE101.out GE102.out)) ?_; (case hd => rfl); (case hg => rfl); (case hr => first | (go_simp; done) | (go_simp; rfl)); intro v113 w26 ho27 hb hg_ hnew_; clear hg_ hnew_; (first | rw [← Ny112.out] at ho27 | (simp only [Int.reduceToNat] at ho27; rw [← Ny112.out] at ho27)); replace HO107 := Zz.mk (Kd.R_below (KR_ HO107.out) hb); have HO114 := Zz.mk (ho27); replace BK101 := Zz.mk (kb_ BK101.out hb); replace BK102 := Zz.mk (kb_ BK102.out hb); replace HB := Zz.mk (bT_ (B2_ HB.out GE101.out GE102.out) hb); clear HO111; clear hb ho27; obtain ⟨Ao28, co28, eo28⟩ := Kd.S_slice HO114.out; subst eo28) | ((with_reducible refine gate_dst (N := 6) rfl ?_); refine bx_ 6 #[.slice none 0 0] 29 ?_; intro gb115 hg w29 hbox hb; have BK115 := Zz.mk (hbox); have GW115 := Zz.mk ((gw_ hg (B2_ HB.out GE101.out GE102.out))); have GE115 := GW115; have NB101_115 := Zz.mk ((nb_ BK101.out hg)); have NB115_101 := Zz.mk NB101_115.out.symm; have NB102_115 := Zz.mk ((nb_ BK102.out hg)); have NB115_102 := Zz.mk NB102_115.out.symm; replace HO107 := Zz.mk (Kd.R_below (KR_ HO107.out) hb); replace HO114 := Zz.mk (Kd.S_below (KS_ HO114.out) hb); replace BK101 := Zz.mk (kb_ BK101.out hb); replace BK102 := Zz.mk (kb_ BK102.out hb); replace HB := Zz.mk (bT_ (B2_ HB.out GE101.out GE102.out) hb); clear hb hbox hg; have hnb30 := NB115_101.out; have hnc30 := NB101_115.out; have hnb31 := NB115_102.out; have hnc31 := NB102_115.out; obtain ⟨hcz32_0, hfz32_0⟩ := Z1f_ BK115.out))
   go_loopg [7] k (fun kq v7 w' => ∃ (x7_1 : Int) (x116000_1 : List (List Int)) (u116000 : Value), v7 = .int .i64 x7_1 ∧ Zz (z35.l0 kq a1 x7_1 l0_0 x116000_1 = some (r1, r2)) ∧ Zz (kq ≤ k) ∧ Zz (Kd.S (Kd.slice 2 (Kd.int .i64)) 26 w' w.heap.size (fun _ => True) u116000 x116000_1) ∧ Zz (w'.heap[gb101]? = some (.cells #[(.slice A0_0 l0_0.length c0_0)] 29 (0, 0))) ∧ Zz (w'.heap[gb102]? = some (.cells #[(.slice none 0 0)] 29 (0, 0))) ∧ Zz (w'.heap[gb115]? = some (.cells #[u116000] 29 (0, 0))) ∧ Zz (Below w.heap.size w w'))
   case atStart => exact ⟨(0), (y112), (.slice Ao28 y112.length co28), E_, H', ⟨Nat.le_refl _⟩, ⟨by refine SW_ ?_; exact Kd.S_mono (Kd.S_far (p := ⟨gb115, 0, none⟩) (Kd.S_types HO114.out BK115.out (by decide)) (fun _ hk => hk.2) (.slice Ao28 y112.length co28)) (fun _ hk => trivial)⟩, ⟨by refine BW_ ?_; refine bR_ ?_ NB101_115.out _; refine BW_ ?_; exact BK101.out⟩, ⟨by refine BW_ ?_; refine bR_ ?_ NB102_115.out _; refine BW_ ?_; exact BK102.out⟩, ⟨by refine BW_ ?_; refine bP_ (cs := #[.slice none 0 0]) ?_ 0 _ rfl; refine BW_ ?_; exact BK115.out⟩, ⟨B3_ HB.out GE101.out GE102.out GE115.out⟩⟩
   case round =>
    clear H'
    (try clear c4);(try clear c6);(try clear c8);(try clear c8b0);(try clear hcz32_0);(try clear hfz32_0)
    obtain ⟨x7_1, x116000_1, u116000, rfl, HA, HK1, HO_116000, BK101, BK102, BK115, HB⟩ := hrel
    cases gk with
    | zero => exact absurd HA.out (by simp [z35.l0])
    | succ k1 =>
     have H := HA.out
     clear HA
     simp only [z35.l0] at H
     by_cases c33 : x7_1 < (l0_0.length : Int)
     ·rw [if_pos c33] at H
      have c33b0 : decide (x7_1 < (l0_0.length : Int)) = true := decide_eq_true c33
      clear c33
      have c34b0 := O3_ H
      replace H := O2_ H
      by_cases c35 : ((rI_ l0_0 x7_1).length : Int) > 3
      ·rw [if_pos c35] at H
       have c35b0 : decide (3 < ((rI_ l0_0 x7_1).length : Int)) = true := decide_eq_true c35
       have c35b1 : decide (3 < (rI_ l0_0 x7_1).length) = true := decide_eq_true (by omega)
       clear c35
       simp only [Option.some.injEq, Prod.mk.injEq] at H
       obtain ⟨rfl, rfl⟩ := H
       have hnb36 := NB101_102.out
       have hnc36 := NB102_101.out
       have hnb37 := NB101_115.out
       have hnc37 := NB115_101.out
       obtain ⟨hcz38_0, hfz38_0⟩ := Z1f_ BK101.out
       have p116 : 0 ≤ (x7_1 : Int) := D_
       have q116 : x7_1 < (l0_0.length : Int) := D_
       obtain ⟨ad116, A116_0, c116_0, e116, hx116_0, hl116_0, hi116_0⟩ := at_ListInt HR0_0.out x7_1 p116 q116
       cases e116
       replace hx116_0 := (HB.out.cell (World.block_lt_of_cell? w _ hx116_0)).trans hx116_0
       have HR116_0 := Zz.mk hi116_0
       have HC116_0 := Zz.mk hl116_0
       clear hi116_0 hl116_0
       replace p116 := eq_true p116
       replace q116 := eq_true q116
       have hnb39 := NB102_115.out
       have hnc39 := NB115_102.out
       obtain ⟨hcz40_0, hfz40_0⟩ := Z1f_ BK102.out
       go_wp2
       refine bodyPost_ret (results_ct rfl _ _ gb102 29 #[.slice none 0 0] (0, 0) _ rfl (by refine BW_ ?_; refine bP_ (cs := #[.slice none 0 0]) ?_ 0 _ rfl; refine BW_ ?_; exact BK102.out) Try.underlying29 rfl (by kernel_rfl)) rfl ?_
       exact ⟨_, F_, by first | exact Kd.S_nil _ _ _ _ _ | exact Kd.N_nil _ _ _ _ _ | exact Kd.V_nil _ _ _ _ _ | exact Kd.Q_nil _ _ _ _ _ | exact Kd.R_nil _ _ _ _ _, B3_ HB.out GE101.out GE102.out GE115.out⟩
      rw [if_neg c35] at H
      have c35b0 : decide (3 < ((rI_ l0_0 x7_1).length : Int)) = false := decide_eq_false c35
      have c35b1 : decide (3 < (rI_ l0_0 x7_1).length) = false := decide_eq_false (by omega)
      clear c35
      replace H := OB_ H
      obtain ⟨t118, A410, H⟩ := H
      replace H : ((z81.f k1 t118 a1).bind fun t121 => ((spec_l05Put.f x116000_1 t121).bind fun t124 => (z35.l0 k1 a1 (wrap64 (x7_1 + 1)) l0_0 t124))) = some (r1, r2) := H
      have A41 := Zz.mk A410
      clear A410
      replace H := OB_ H
      obtain ⟨t121, A420, H⟩ := H
      replace H : ((spec_l05Put.f x116000_1 t121).bind fun t124 => (z35.l0 k1 a1 (wrap64 (x7_1 + 1)) l0_0 t124)) = some (r1, r2) := H
      have A42 := Zz.mk A420
      clear A420
      replace H := OB_ H
      obtain ⟨t124, A430, H⟩ := H
      replace H : (z35.l0 k1 a1 (wrap64 (x7_1 + 1)) l0_0 t124) = some (r1, r2) := H
      have A43 := Zz.mk A430
      clear A430
      have H' := Zz.mk H
      clear H
      have hnb44 := NB101_102.out
      have hnc44 := NB102_101.out
      have hnb45 := NB101_115.out
      have hnc45 := NB115_101.out
      obtain ⟨hcz46_0, hfz46_0⟩ := Z1f_ BK101.out
      have p116 : 0 ≤ (x7_1 : Int) := D_
      have q116 : x7_1 < (l0_0.length : Int) := D_
      obtain ⟨ad116, A116_0, c116_0, e116, hx116_0, hl116_0, hi116_0⟩ := at_ListInt HR0_0.out x7_1 p116 q116
      cases e116
      replace hx116_0 := (HB.out.cell (World.block_lt_of_cell? w _ hx116_0)).trans hx116_0
      have HR116_0 := Zz.mk hi116_0
      have HC116_0 := Zz.mk hl116_0
      clear hi116_0 hl116_0
      replace p116 := eq_true p116
      replace q116 := eq_true q116
      have p117 : 0 ≤ (x7_1 : Int) := D_
      have q117 : x7_1 < (l0_0.length : Int) := D_
      obtain ⟨ad117, A117_0, c117_0, e117, hx117_0, hl117_0, hi117_0⟩ := at_ListInt HR0_0.out x7_1 p117 q117
      obtain rfl : ad116 = ad117 := (by injection e117)
      replace hx117_0 := (HB.out.cell (World.block_lt_of_cell? w _ hx117_0)).trans hx117_0
      have HR117_0 := Zz.mk hi117_0
      have HC117_0 := Zz.mk hl117_0
      clear hi117_0 hl117_0
      replace p117 := eq_true p117
      replace q117 := eq_true q117
      have ea_ := Option.some.inj (hx116_0.symm.trans hx117_0)
      injection ea_ with ea_ en_ ec_
      subst ea_
      subst ec_
      clear en_
      go_wp2_with (first | ((with_reducible refine gC_ (f := 82) rfl ?_); refine GL_ (some 44) rfl rfl Try.func82 #[.slice A116_0 (rI_ l0_0 x7_1).length c116_0] rfl (h := ?_); (with_reducible refine (z82.calls _ _ (rI_ l0_0 x7_1) t118 _ ?side1 ?side2 A41.out).mono ?_); (case side1 => exact KC_ (Kd.C_below HR117_0.out HB.out)); (case side2 => exact HC117_0.out); rintro e w47 ⟨v119, rfl, ho0, hb⟩; refine ⟨_, rfl, ?_⟩; replace HO_116000 := Zz.mk (Kd.S_elder' (KS_ HO_116000.out) (Kd.R_base ho0) hb); have HO120 := Zz.mk (Kd.R_lower ho0 (bS_ (B3_ HB.out GE101.out GE102.out GE115.out))); replace BK101 := Zz.mk (kb_ BK101.out hb); replace BK102 := Zz.mk (kb_ BK102.out hb); replace BK115 := Zz.mk (kb_ BK115.out hb); replace HB := Zz.mk (bT_ (B3_ HB.out GE101.out GE102.out GE115.out) hb); (try clear hb); (try clear ho0); obtain ⟨Ao48, co48, eo48⟩ := Kd.R_slice HO120.out; subst eo48) | ((with_reducible refine gC_ (f := 81) rfl ?_); refine GL_ (some 46) rfl rfl Try.func81 #[.slice Ao48 t118.length co48, .int .i64 a1] rfl (h := ?_); (with_reducible refine (z81.calls k1 _ _ t118 a1 t121 _ ?side1 ?side2 A42.out).mono ?_); (case side1 => exact KC_ (Kd.R_reads' HO120.out).2.2); (case side2 => exact (Kd.R_reads' HO120.out).2.1); rintro e w49 ⟨v122, rfl, ho0, hb⟩; refine ⟨_, rfl, ?_⟩; have HO123 := Zz.mk (Kd.R_lower (Kd.R_new' ho0 (Kd.R_lt (KR_ HO120.out))) (bS_ (B3_ HB.out GE101.out GE102.out GE115.out))); replace HO_116000 := Zz.mk (Kd.S_elder' (KS_ HO_116000.out) (Kd.R_base ho0) hb); replace HO120 := Zz.mk (Kd.R_elder' (KR_ HO120.out) (Kd.R_base ho0) hb); replace BK101 := Zz.mk (kb_ BK101.out hb); replace BK102 := Zz.mk (kb_ BK102.out hb); replace BK115 := Zz.mk (kb_ BK115.out hb); replace HB := Zz.mk (bT_ (B3_ HB.out GE101.out GE102.out GE115.out) hb); (try clear hb); (try clear ho0); obtain ⟨Ao50, co50, eo50⟩ := Kd.S_slice HO_116000.out; subst eo50; obtain ⟨Ao51, co51, eo51⟩ := Kd.R_slice HO123.out; subst eo51) | (go_at_call 68; (with_reducible refine (spec_l05Put.calls gb115 (.slice Ao50 x116000_1.length co50) x116000_1 Ao51 co51 t121 t124 w _ (fun k_ => ((True ∧ some k_ ≠ (.slice Ao48 t118.length co48 : Value).ownBlock) ∧ some k_ ≠ (.slice Ao51 t121.length co51 : Value).ownBlock)) ?side1 ?side2 ?side3 ?side4 ?side5 ?side6 A43.out).mono ?_); (case side1 => exact (KB_ BK115.out)); (case side2 => exact GW115.out); (case side3 => exact (KS_ HO_116000.out)); (case side4 => exact (B3_ HB.out GE101.out GE102.out GE115.out)); (case side5 => exact F_own (c := co51) (KR_ HO123.out) (KB_ BK115.out)); (case side6 => exact (Kd.R_reads' HO123.out).2.1); rintro e w52 ⟨rfl, v125, hg_, hy0, hb, hkp⟩; have HO126 := Zz.mk (Kd.S_mono (ok' := fun k_ => some k_ ≠ (.slice Ao48 t118.length co48 : Value).ownBlock ∧ some k_ ≠ (.slice Ao51 t121.length co51 : Value).ownBlock ∧ k_ ≠ gb115) hy0 (fun k_ hk_ => ⟨Or.elim hk_ (fun hs_ => hs_.1.1.2) (fun hn_ => Kd.fresh' (Kd.R_lt (KR_ HO120.out)) k_ hn_), ⟨Or.elim hk_ (fun hs_ => hs_.1.2) (fun hn_ => Kd.fresh' (Kd.R_lt (KR_ HO123.out)) k_ hn_), Or.elim hk_ (fun hs_ => hs_.2) (fun hn_ => Kd.freshB (g := gb115) (o := .cells #[.slice Ao50 x116000_1.length co50] 29 (0, 0)) (KB_ BK115.out) k_ hn_)⟩⟩)); replace BK101 := Zz.mk (blk_kp (KB_ BK101.out) NB101_115.out hkp); replace BK102 := Zz.mk (blk_kp (KB_ BK102.out) NB102_115.out hkp); replace HO120 := Zz.mk (R_kp (KR_ HO120.out) (KB_ BK115.out) hkp); replace HO123 := Zz.mk (R_kp (KR_ HO123.out) (KB_ BK115.out) hkp); replace BK115 := Zz.mk (hg_); replace HB := Zz.mk (hb); (try clear hb hkp hy0 hg_ HO_116000)))
      go_roundg k1
      case measure => exact Q1_ HK1
      case rel => exact ⟨(wrap64 (x7_1 + 1)), (t124), (v125), E_, H', ⟨Q1_ HK1⟩, ⟨by refine SW_ ?_; exact Kd.S_mono HO126.out (fun _ hk => trivial)⟩, ⟨KB_ BK101.out⟩, ⟨KB_ BK102.out⟩, ⟨KB_ BK115.out⟩, ⟨B3_ HB.out GE101.out GE102.out GE115.out⟩⟩
     rw [if_neg c33] at H
     have c33b0 : decide (x7_1 < (l0_0.length : Int)) = false := decide_eq_false c33
     clear c33
     by_cases c53 : (x116000_1.length : Int) > 48
     ·rw [if_pos c53] at H
      have c53b0 : decide (48 < (x116000_1.length : Int)) = true := decide_eq_true c53
      have c53b1 : decide (48 < x116000_1.length) = true := decide_eq_true (by omega)
      clear c53
      simp only [Option.some.injEq, Prod.mk.injEq] at H
      obtain ⟨rfl, rfl⟩ := H
      have hnb54 := NB101_102.out
      have hnc54 := NB102_101.out
      have hnb55 := NB101_115.out
      have hnc55 := NB115_101.out
      obtain ⟨hcz56_0, hfz56_0⟩ := Z1f_ BK101.out
      have hnb57 := NB115_102.out
      have hnc57 := NB102_115.out
      obtain ⟨hcz58_0, hfz58_0⟩ := Z1f_ BK115.out
      obtain ⟨Ao59, co59, eo59⟩ := Kd.S_slice HO_116000.out
      subst eo59
      obtain ⟨hcz60_0, hfz60_0⟩ := Z1f_ BK102.out
      go_wp2
      refine bodyPost_ret (results_ct rfl _ _ gb102 29 #[.slice none 0 0] (0, 0) _ rfl (by refine BW_ ?_; refine bP_ (cs := #[.slice none 0 0]) ?_ 0 _ rfl; refine BW_ ?_; exact BK102.out) Try.underlying29 rfl (by kernel_rfl)) rfl ?_
      exact ⟨_, F_, by first | exact Kd.S_nil _ _ _ _ _ | exact Kd.N_nil _ _ _ _ _ | exact Kd.V_nil _ _ _ _ _ | exact Kd.Q_nil _ _ _ _ _ | exact Kd.R_nil _ _ _ _ _, B3_ HB.out GE101.out GE102.out GE115.out⟩
     rw [if_neg c53] at H
     have c53b0 : decide (48 < (x116000_1.length : Int)) = false := decide_eq_false c53
     have c53b1 : decide (48 < x116000_1.length) = false := decide_eq_false (by omega)
     clear c53
     simp only [Option.some.injEq, Prod.mk.injEq] at H
     obtain ⟨rfl, rfl⟩ := H
     have hnb61 := NB101_102.out
     have hnc61 := NB102_101.out
     have hnb62 := NB101_115.out
     have hnc62 := NB115_101.out
     obtain ⟨hcz63_0, hfz63_0⟩ := Z1f_ BK101.out
     have hnb64 := NB115_102.out
     have hnc64 := NB102_115.out
     obtain ⟨hcz65_0, hfz65_0⟩ := Z1f_ BK115.out
     obtain ⟨Ao66, co66, eo66⟩ := Kd.S_slice HO_116000.out
     subst eo66
     obtain ⟨hcz67_0, hfz67_0⟩ := Z1f_ BK102.out
     go_wp2
     refine bodyPost_ret (results_ct rfl _ _ gb102 29 #[.slice Ao66 x116000_1.length co66] (0, 0) _ rfl (by refine BW_ ?_; refine bP_ (cs := #[.slice none 0 0]) ?_ 0 _ rfl; refine BW_ ?_; exact BK102.out) Try.underlying29 rfl (by kernel_rfl)) rfl ?_
     exact ⟨_, F_, by refine SW_ ?_; exact Kd.S_mono (Kd.S_far (p := ⟨gb102, 0, none⟩) (Kd.S_types HO_116000.out BK102.out (by decide)) (fun _ hk => hk.2) (.slice Ao66 x116000_1.length co66)) (fun _ hk => trivial), B3_ HB.out GE101.out GE102.out GE115.out⟩
  replace c6 := Bool.eq_false_iff.mpr c6
  subst c6
  have H1 : (some (([] : List (List Int)), 2)) = some (r1, r2) := by rw [if_neg (show ¬ (false = true) by decide)] at H; exact H
  clear H
  have H := H1
  clear H1
  simp only [Option.some.injEq, Prod.mk.injEq] at H
  obtain ⟨rfl, rfl⟩ := H
  go_enter Try.func35, Try.ntmps35
  go_wp2_with (first | ((with_reducible refine gate_dst (N := 2) rfl ?_); refine bx_ 2 #[.slice A0_0 l0_0.length c0_0] 29 ?_; intro gb101 hg w68 hbox hb; have BK101 := Zz.mk (hbox); have GW101 := Zz.mk ((gw_ hg (B_ HB.out))); have GE101 := GW101; replace HB := Zz.mk (bT_ (B_ HB.out) hb); clear hb hbox hg) | ((with_reducible refine gate_dst (N := 4) rfl ?_); refine bx_ 4 #[.slice none 0 0] 29 ?_; intro gb102 hg w69 hbox hb; have BK102 := Zz.mk (hbox); have GW102 := Zz.mk ((gw_ hg (B1_ HB.out GE101.out))); have GE102 := GW102; have NB101_102 := Zz.mk ((nb_ BK101.out hg)); have NB102_101 := Zz.mk NB101_102.out.symm; replace BK101 := Zz.mk (kb_ BK101.out hb); replace HB := Zz.mk (bT_ (B1_ HB.out GE101.out) hb); clear hb hbox hg) | ((with_reducible refine gC_ (f := 56) rfl ?_); refine GL_ (some 8) rfl rfl Try.func56 #[.pointer (some ⟨gb101, 0, none⟩)] rfl (h := ?_); (with_reducible refine (z56.calls k gb101 A0_0 c0_0 l0_0 true _ ?side1 ?side2 ?side3 A3.out).mono ?_); (case side1 => refine BW_ ?_; exact BK101.out); (case side2 => exact KC_ (Kd.C_below HR0_0.out HB.out)); (case side3 => exact HC0_0.out); rintro e w70 ⟨rfl, hb⟩; refine ⟨_, rfl, ?_⟩; replace BK101 := Zz.mk (kb_ BK101.out hb); replace BK102 := Zz.mk (kb_ BK102.out hb); replace HB := Zz.mk (bT_ (B2_ HB.out GE101.out GE102.out) hb); (try clear hb)) | ((with_reducible refine gC_ (f := 79) rfl ?_); refine GL_ (some 12) rfl rfl Try.func79 #[.int .i64 a1, .int .i64 0, .int .i64 9] rfl (h := ?_); (with_reducible refine (z79.calls a1 0 9 false _ A5.out).mono ?_); rintro e w' ⟨rfl, ⟨nd, rfl⟩⟩; refine ⟨_, rfl, ?_⟩; (try (rw [drewN_self w70]; generalize hq_ : World.drewN w70 _ = w70; replace BK101 : Zz (w70.heap[gb101]? = some (.cells #[.slice A0_0 l0_0.length c0_0] 29 (0, 0))) := ⟨by rw [← hq_]; exact (KB_ BK101.out)⟩; replace BK102 : Zz (w70.heap[gb102]? = some (.cells #[.slice none 0 0] 29 (0, 0))) := ⟨by rw [← hq_]; exact (KB_ BK102.out)⟩; replace HB : Zz (Below w.heap.size w w70) := ⟨by rw [← hq_]; exact (B2_ HB.out GE101.out GE102.out)⟩; (try clear hq_))); have hnb71 := NB102_101.out; have hnc71 := NB101_102.out; obtain ⟨hcz72_0, hfz72_0⟩ := Z1f_ BK102.out))
  refine bodyPost_ret (results_ct rfl _ _ gb102 29 #[.slice none 0 0] (0, 0) _ rfl (by refine BW_ ?_; refine bP_ (cs := #[.slice none 0 0]) ?_ 0 _ rfl; refine BW_ ?_; exact BK102.out) Try.underlying29 rfl (by kernel_rfl)) rfl ?_
  exact ⟨_, F_, by first | exact Kd.S_nil _ _ _ _ _ | exact Kd.N_nil _ _ _ _ _ | exact Kd.V_nil _ _ _ _ _ | exact Kd.Q_nil _ _ _ _ _ | exact Kd.R_nil _ _ _ _ _, B2_ HB.out GE101.out GE102.out⟩
 replace c4 := Bool.eq_false_iff.mpr c4
 subst c4
 have H1 : (some (([] : List (List Int)), 1)) = some (r1, r2) := by rw [if_neg (show ¬ (false = true) by decide)] at H; exact H
 clear H
 have H := H1
 clear H1
 simp only [Option.some.injEq, Prod.mk.injEq] at H
 obtain ⟨rfl, rfl⟩ := H
 go_enter Try.func35, Try.ntmps35
 go_wp2_with (first | ((with_reducible refine gate_dst (N := 2) rfl ?_); refine bx_ 2 #[.slice A0_0 l0_0.length c0_0] 29 ?_; intro gb101 hg w73 hbox hb; have BK101 := Zz.mk (hbox); have GW101 := Zz.mk ((gw_ hg (B_ HB.out))); have GE101 := GW101; replace HB := Zz.mk (bT_ (B_ HB.out) hb); clear hb hbox hg) | ((with_reducible refine gate_dst (N := 4) rfl ?_); refine bx_ 4 #[.slice none 0 0] 29 ?_; intro gb102 hg w74 hbox hb; have BK102 := Zz.mk (hbox); have GW102 := Zz.mk ((gw_ hg (B1_ HB.out GE101.out))); have GE102 := GW102; have NB101_102 := Zz.mk ((nb_ BK101.out hg)); have NB102_101 := Zz.mk NB101_102.out.symm; replace BK101 := Zz.mk (kb_ BK101.out hb); replace HB := Zz.mk (bT_ (B1_ HB.out GE101.out) hb); clear hb hbox hg) | ((with_reducible refine gC_ (f := 56) rfl ?_); refine GL_ (some 8) rfl rfl Try.func56 #[.pointer (some ⟨gb101, 0, none⟩)] rfl (h := ?_); (with_reducible refine (z56.calls k gb101 A0_0 c0_0 l0_0 false _ ?side1 ?side2 ?side3 A3.out).mono ?_); (case side1 => refine BW_ ?_; exact BK101.out); (case side2 => exact KC_ (Kd.C_below HR0_0.out HB.out)); (case side3 => exact HC0_0.out); rintro e w75 ⟨rfl, hb⟩; refine ⟨_, rfl, ?_⟩; replace BK101 := Zz.mk (kb_ BK101.out hb); replace BK102 := Zz.mk (kb_ BK102.out hb); replace HB := Zz.mk (bT_ (B2_ HB.out GE101.out GE102.out) hb); (try clear hb); have hnb76 := NB102_101.out; have hnc76 := NB101_102.out; obtain ⟨hcz77_0, hfz77_0⟩ := Z1f_ BK102.out))
 refine bodyPost_ret (results_ct rfl _ _ gb102 29 #[.slice none 0 0] (0, 0) _ rfl (by refine BW_ ?_; refine bP_ (cs := #[.slice none 0 0]) ?_ 0 _ rfl; refine BW_ ?_; exact BK102.out) Try.underlying29 rfl (by kernel_rfl)) rfl ?_
 exact ⟨_, F_, by first | exact Kd.S_nil _ _ _ _ _ | exact Kd.N_nil _ _ _ _ _ | exact Kd.V_nil _ _ _ _ _ | exact Kd.Q_nil _ _ _ _ _ | exact Kd.R_nil _ _ _ _ _, B2_ HB.out GE101.out GE102.out⟩
end Go.Proofs.Ytipkciildhghiaa.B
