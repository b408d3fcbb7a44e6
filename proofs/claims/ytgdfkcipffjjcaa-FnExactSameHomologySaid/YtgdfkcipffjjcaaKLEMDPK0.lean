/- Printed proofs of functions of the program and of the reference, by a program of this work over the kit's printer. -/
import Derived.Test.YtgdfkcipffjjcaaKDONBBK0
import Derived.Test.YtgdfkcipffjjcaaKEBAIGI0
import Derived.Test.YtgdfkcipffjjcaaKFCAEAO0
import Derived.Test.YtgdfkcipffjjcaaKFCAEAO1
import Derived.Test.YtgdfkcipffjjcaaKFJNDMH0
import Derived.Test.YtgdfkcipffjjcaaKFLLPGJ0
import Derived.Test.YtgdfkcipffjjcaaKJKKPBN0
import Derived.Test.YtgdfkcipffjjcaaKMNMJHD0
import Derived.Test.YtgdfkcipffjjcaaKOLDLOK0
import Derived.Test.YtgdfkcipffjjcaaKW0
set_option maxHeartbeats 8000000
set_option maxRecDepth 100000
namespace Go.Proofs.Ytgdfkcipffjjcaa.B
open Go.RowKit Go.Proofs.YtgdfkcipffjjcaaW.PrintWords Go.Proofs.YtgdfkcipffjjcaaW.PrintLast Go.Proofs.YtgdfkcipffjjcaaW.PrintMore
attribute [local go_sem] qAh qAf qAl qAk qAc qAb qAg qAe
set_option linter.unusedVariables false
set_option linter.unusedSimpArgs false
def z19.f (k : Nat) (l0_0 : List (List Int)) (a1 : Int) (a2 : Int) (l3 : List Int) : Option (List Int × Bool) := (z35.f k l0_0 (wrap64 (a1 + 1)) a2).bind fun bt102 => ((z36.f k bt102.1 bt102.2.1 bt102.2.2.1 bt102.2.2.2 l3).bind fun bt108 => (some (bt108.1, bt108.2)))
theorem z19.calls (k : Nat) (A0_0 : Option Addr) (c0_0 : Nat) (l0_0 : List (List Int)) (a1 : Int) (a2 : Int) (A3 : Option Addr) (c3 : Nat) (l3 : List Int) (r1 : List Int) (r2 : Bool) (w : World) (hr0_0 : Kd.C (Kd.slice 2 (Kd.int .i64)) w A0_0 l0_0.length l0_0) (hc0_0 : l0_0.length ≤ c0_0) (hr3 : Kd.C (Kd.int .i64) w A3 l3.length l3) (hc3 : l3.length ≤ c3) (h : z19.f k l0_0 a1 a2 l3 = some (r1, r2)) :
  Calls Try.prog 19 #[.agg #[.slice A0_0 l0_0.length c0_0], .int .i64 a1, .int .i64 a2, .slice A3 l3.length c3] w fun e w' => ∃ v0_ : Value, e = .returned (.tuple #[v0_, .bool r2]) ∧ Kd.R (Kd.int .i64) 2 w' w.heap.size (fun _ => True) v0_ r1 ∧ Below w.heap.size w w' := by
 have hu28 := Try.underlying28
 have HR0_0 := Zz.mk hr0_0
 have HC0_0 := Zz.mk hc0_0
 clear hr0_0 hc0_0
 have HR3 := Zz.mk hr3
 have HC3 := Zz.mk hc3
 clear hr3 hc3
 have HB := Zz.mk (Below.refl w.heap.size w)
 have H : ((z35.f k l0_0 (wrap64 (a1 + 1)) a2).bind fun bt102 => ((z36.f k bt102.1 bt102.2.1 bt102.2.2.1 bt102.2.2.2 l3).bind fun bt108 => (some (bt108.1, bt108.2)))) = some (r1, r2) := h
 clear h
 replace H := OB_ H
 obtain ⟨⟨t102, t103, t104, t105⟩, A50, H⟩ := H
 replace H : ((z36.f k t102 t103 t104 t105 l3).bind fun bt108 => (some (bt108.1, bt108.2))) = some (r1, r2) := H
 have A5 := Zz.mk A50
 clear A50
 replace H := OB_ H
 obtain ⟨⟨t108, t111⟩, A60, H⟩ := H
 replace H : (some (t108, t111)) = some (r1, r2) := H
 have A6 := Zz.mk A60
 clear A60
 simp only [Option.some.injEq, Prod.mk.injEq] at H
 obtain ⟨rfl, rfl⟩ := H
 go_enter Try.func19, Try.ntmps19
 go_wp2_with (first | ((with_reducible refine qAm (N := 4) rfl ?_); refine qAo ?hg (N := 4) ?hd (cs := #[.slice A0_0 l0_0.length c0_0]) (t := 28) ?hr ?_; (case hd => rfl); (case hg => rfl); (case hr => first | (go_simp; done) | (go_simp; rfl)); intro gb101 hg w7 hbox hb; have BK101 := Zz.mk (hbox); have GW101 := Zz.mk ((by rw [hg]; exact (bS_ (B_ HB.out)) : w.heap.size ≤ gb101)); have GE101 := GW101; replace HB := Zz.mk (bT_ (B_ HB.out) hb); clear hb hbox hg; obtain ⟨hcz8_0, hfz8_0⟩ := Z1f_ BK101.out) | ((with_reducible refine gC_ (f := 35) rfl ?_); refine GL_ (some 14) rfl rfl Try.func35 #[.agg #[.slice A0_0 l0_0.length c0_0], .int .i64 (wrap64 (a1 + 1)), .int .i64 a2] rfl (h := ?_); (with_reducible refine (z35.calls k _ _ l0_0 (wrap64 (a1 + 1)) a2 t102 t103 t104 t105 _ ?side1 ?side2 A5.out).mono ?_); (case side1 => exact KC_ (Kd.C_below HR0_0.out HB.out)); (case side2 => exact HC0_0.out); rintro e w9 ⟨v106, rfl, ho0, hb⟩; refine ⟨_, rfl, ?_⟩; have HO107 := Zz.mk (Kd.R_lower ho0 (bS_ (B1_ HB.out GE101.out))); replace BK101 := Zz.mk (bB_ (g := gb101) (o := .cells #[.slice A0_0 l0_0.length c0_0] 28 (0, 0)) (KB_ BK101.out) hb); replace HB := Zz.mk (bT_ (B1_ HB.out GE101.out) hb); (try clear hb); (try clear hb2); (try clear hk); (try clear hi); (try clear ho0); obtain ⟨Ao10, co10, eo10⟩ := Kd.R_slice HO107.out; subst eo10) | ((with_reducible refine gC_ (f := 36) rfl ?_); refine GL_ (some 16) rfl rfl Try.func36 #[.agg #[.int .i64 t102, .int .i64 t103, .int .i64 t104, .slice Ao10 t105.length co10], .slice A3 l3.length c3] rfl (h := ?_); (with_reducible refine (z36.calls k t102 t103 t104 _ _ t105 _ _ l3 t108 t111 _ ?side1 ?side2 ?side3 ?side4 A6.out).mono ?_); (case side1 => exact KC_ (Kd.R_reads' HO107.out).2.2); (case side2 => exact (Kd.R_reads' HO107.out).2.1); (case side3 => exact KC_ (Kd.C_below HR3.out HB.out)); (case side4 => exact HC3.out); rintro e w11 ⟨v109, rfl, ho0, hb⟩; refine ⟨_, rfl, ?_⟩; have HO110 := Zz.mk (Kd.R_lower (Kd.R_new' ho0 (Kd.R_lt (KR_ HO107.out))) (bS_ (B1_ HB.out GE101.out))); replace HO107 := Zz.mk (Kd.R_elder' (KR_ HO107.out) (Kd.R_base ho0) hb); replace BK101 := Zz.mk (bB_ (g := gb101) (o := .cells #[.slice A0_0 l0_0.length c0_0] 28 (0, 0)) (KB_ BK101.out) hb); replace HB := Zz.mk (bT_ (B1_ HB.out GE101.out) hb); (try clear hb); (try clear hb2); (try clear hk); (try clear hi); (try clear ho0)))
 go_ret2
 exact ⟨_, F_, by refine RW_ ?_; exact Kd.R_mono HO110.out (fun _ hk => trivial), B1_ HB.out GE101.out⟩
def z18.f (k : Nat) (l0_0 : List (List Int)) (a1 : Int) (a2 : Int) (l3 : List Int) : Option (Bool) := (z35.f k l0_0 a1 a2).bind fun bt102 => ((z34.f k bt102.1 bt102.2.1 bt102.2.2.1 bt102.2.2.2 l3).bind fun t108 => ((z33.f k t108).bind fun t111 => (some t111)))
theorem z18.calls (k : Nat) (A0_0 : Option Addr) (c0_0 : Nat) (l0_0 : List (List Int)) (a1 : Int) (a2 : Int) (A3 : Option Addr) (c3 : Nat) (l3 : List Int) (r : Bool) (w : World) (hr0_0 : Kd.C (Kd.slice 2 (Kd.int .i64)) w A0_0 l0_0.length l0_0) (hc0_0 : l0_0.length ≤ c0_0) (hr3 : Kd.C (Kd.int .i64) w A3 l3.length l3) (hc3 : l3.length ≤ c3) (h : z18.f k l0_0 a1 a2 l3 = some r) :
  Calls Try.prog 18 #[.agg #[.slice A0_0 l0_0.length c0_0], .int .i64 a1, .int .i64 a2, .slice A3 l3.length c3] w fun e w' => e = .returned (.bool r) ∧ Below w.heap.size w w' := by
 have hu28 := Try.underlying28
 have HR0_0 := Zz.mk hr0_0
 have HC0_0 := Zz.mk hc0_0
 clear hr0_0 hc0_0
 have HR3 := Zz.mk hr3
 have HC3 := Zz.mk hc3
 clear hr3 hc3
 have HB := Zz.mk (Below.refl w.heap.size w)
 have H : ((z35.f k l0_0 a1 a2).bind fun bt102 => ((z34.f k bt102.1 bt102.2.1 bt102.2.2.1 bt102.2.2.2 l3).bind fun t108 => ((z33.f k t108).bind fun t111 => (some t111)))) = some r := h
 clear h
 replace H := OB_ H
 obtain ⟨⟨t102, t103, t104, t105⟩, A50, H⟩ := H
 try dsimp only at H
 have A5 := Zz.mk A50
 clear A50
 replace H := OZ_ H
 obtain ⟨t108, A6, H⟩ := H
 replace H := OZ_ H
 obtain ⟨t111, A7, H⟩ := H
 obtain rfl := OI_ H
 go_enter Try.func18, Try.ntmps18
 go_wp2_with (first | ((with_reducible refine qAm (N := 4) rfl ?_); refine qAo ?hg (N := 4) ?hd (cs := #[.slice A0_0 l0_0.length c0_0]) (t := 28) ?hr ?_; (case hd => rfl); (case hg => rfl); (case hr => first | (go_simp; done) | (go_simp; rfl)); intro gb101 hg w8 hbox hb; have BK101 := Zz.mk (hbox); have GW101 := Zz.mk ((by rw [hg]; exact (bS_ (B_ HB.out)) : w.heap.size ≤ gb101)); have GE101 := GW101; replace HB := Zz.mk (bT_ (B_ HB.out) hb); clear hb hbox hg; obtain ⟨hcz9_0, hfz9_0⟩ := Z1f_ BK101.out) | ((with_reducible refine gC_ (f := 35) rfl ?_); refine GL_ (some 12) rfl rfl Try.func35 #[.agg #[.slice A0_0 l0_0.length c0_0], .int .i64 a1, .int .i64 a2] rfl (h := ?_); (with_reducible refine (z35.calls k _ _ l0_0 a1 a2 t102 t103 t104 t105 _ ?side1 ?side2 A5.out).mono ?_); (case side1 => exact KC_ (Kd.C_below HR0_0.out HB.out)); (case side2 => exact HC0_0.out); rintro e w10 ⟨v106, rfl, ho0, hb⟩; refine ⟨_, rfl, ?_⟩; have HO107 := Zz.mk (Kd.R_lower ho0 (bS_ (B1_ HB.out GE101.out))); replace BK101 := Zz.mk (bB_ (g := gb101) (o := .cells #[.slice A0_0 l0_0.length c0_0] 28 (0, 0)) (KB_ BK101.out) hb); replace HB := Zz.mk (bT_ (B1_ HB.out GE101.out) hb); (try clear hb); (try clear hb2); (try clear hk); (try clear hi); (try clear ho0); obtain ⟨Ao11, co11, eo11⟩ := Kd.R_slice HO107.out; subst eo11) | ((with_reducible refine gC_ (f := 34) rfl ?_); refine GL_ (some 14) rfl rfl Try.func34 #[.agg #[.int .i64 t102, .int .i64 t103, .int .i64 t104, .slice Ao11 t105.length co11], .slice A3 l3.length c3] rfl (h := ?_); (with_reducible refine (z34.calls k t102 t103 t104 _ _ t105 _ _ l3 t108 _ ?side1 ?side2 ?side3 ?side4 A6.out).mono ?_); (case side1 => exact KC_ (Kd.R_reads' HO107.out).2.2); (case side2 => exact (Kd.R_reads' HO107.out).2.1); (case side3 => exact KC_ (Kd.C_below HR3.out HB.out)); (case side4 => exact HC3.out); rintro e w12 ⟨v109, rfl, ho0, hb⟩; refine ⟨_, rfl, ?_⟩; have HO110 := Zz.mk (Kd.R_lower (Kd.R_new' ho0 (Kd.R_lt (KR_ HO107.out))) (bS_ (B1_ HB.out GE101.out))); replace HO107 := Zz.mk (Kd.R_elder' (KR_ HO107.out) (Kd.R_base ho0) hb); replace BK101 := Zz.mk (bB_ (g := gb101) (o := .cells #[.slice A0_0 l0_0.length c0_0] 28 (0, 0)) (KB_ BK101.out) hb); replace HB := Zz.mk (bT_ (B1_ HB.out GE101.out) hb); (try clear hb); (try clear hb2); (try clear hk); (try clear hi); (try clear ho0); obtain ⟨Ao13, co13, eo13⟩ := Kd.R_slice HO110.out; subst eo13) | ((with_reducible refine gC_ (f := 33) rfl ?_); refine GL_ (some 15) rfl rfl Try.func33 #[.slice Ao13 t108.length co13] rfl (h := ?_); (with_reducible refine (z33.calls k _ _ t108 t111 _ ?side1 ?side2 A7.out).mono ?_); (case side1 => exact KC_ (Kd.R_reads' HO110.out).2.2); (case side2 => exact (Kd.R_reads' HO110.out).2.1); rintro e w14 ⟨rfl, hb⟩; refine ⟨_, rfl, ?_⟩; replace HO107 := Zz.mk (Kd.R_below (KR_ HO107.out) hb); replace HO110 := Zz.mk (Kd.R_below (KR_ HO110.out) hb); replace BK101 := Zz.mk (bB_ (g := gb101) (o := .cells #[.slice A0_0 l0_0.length c0_0] 28 (0, 0)) (KB_ BK101.out) hb); replace HB := Zz.mk (bT_ (B1_ HB.out GE101.out) hb); (try clear hb); (try clear hb2); (try clear hk); (try clear hi)))
 go_ret
 exact ⟨F_, B1_ HB.out GE101.out⟩
mutual
def z31.j0 : Nat → Int → Bool → List (List Int) → Option (Int)
 | 0, _, _, _ => none
 | k + 1, x1, x8, x102000 => if x8 = true then (some 1) else ((z48.f x1).bind fun t104 => (if t104 = true then (z31.l0 k x1 (wrap64 (x1 - 1)) x102000) else (some 2)))
def z31.l0 : Nat → Int → Int → List (List Int) → Option (Int)
 | 0, _, _, _ => none
 | k + 1, x1, x7, x102000 => if x7 ≤ (wrap64 (x1 + 1)) then ((z49.f k x102000 x7).bind fun t105 => (if (t105.length : Int) > 32 then (some 5) else (z31.l0 k x1 (wrap64 (x7 + 1)) x102000))) else (some 0)
end
def z31.f (k : Nat) (l0_0 : List (List Int)) (a1 : Int) (a2 : Int) : Option (Int) := (z46.f k l0_0).bind fun t102 => (if t102 = true then ((z47.f k a2).bind fun t103 => (z31.j0 k a1 (!t103) l0_0)) else (z31.j0 k a1 true l0_0))
theorem z31.calls (k : Nat) (A0_0 : Option Addr) (c0_0 : Nat) (l0_0 : List (List Int)) (a1 : Int) (a2 : Int) (r : Int) (w : World) (hr0_0 : Kd.C (Kd.slice 2 (Kd.int .i64)) w A0_0 l0_0.length l0_0) (hc0_0 : l0_0.length ≤ c0_0) (h : z31.f k l0_0 a1 a2 = some r) :
  Calls Try.prog 31 #[.agg #[.slice A0_0 l0_0.length c0_0], .int .i64 a1, .int .i64 a2] w fun e w' => e = .returned (.int .i64 r) ∧ Below w.heap.size w w' := by
 have hu28 := Try.underlying28
 have HR0_0 := Zz.mk hr0_0
 have HC0_0 := Zz.mk hc0_0
 clear hr0_0 hc0_0
 have HB := Zz.mk (Below.refl w.heap.size w)
 have H : ((z46.f k l0_0).bind fun t102 => (if t102 = true then ((z47.f k a2).bind fun t103 => (z31.j0 k a1 (!t103) l0_0)) else (z31.j0 k a1 true l0_0))) = some r := h
 clear h
 have HC4 := Zz.mk H
 clear H
 go_enter Try.func31, Try.ntmps31
 go_upto_region 1 with (first | ((with_reducible refine qAm (N := 3) rfl ?_); refine qAo ?hg (N := 3) ?hd (cs := #[.slice A0_0 l0_0.length c0_0]) (t := 28) ?hr ?_; (case hd => rfl); (case hg => rfl); (case hr => first | (go_simp; done) | (go_simp; rfl)); intro gb101 hg w5 hbox hb; have BK101 := Zz.mk (hbox); have GW101 := Zz.mk ((by rw [hg]; exact (bS_ (B_ HB.out)) : w.heap.size ≤ gb101)); have GE101 := GW101; replace HB := Zz.mk (bT_ (B_ HB.out) hb); clear hb hbox hg))
 (try simp only [Act.put, List.setIfInBounds_toArray, List.set_cons_zero, List.set_cons_succ])
 go_cut [8] (fun v8 wc => ∃ (kq : Nat) (x8_3 : Bool), v8 = .bool x8_3 ∧ Zz (z31.j0 kq a1 x8_3 l0_0 = some r) ∧ Zz (kq ≤ k) ∧ Zz (wc.heap[gb101]? = some (.cells #[(.slice A0_0 l0_0.length c0_0)] 28 (0, 0))) ∧ Zz (Below w.heap.size w wc))
 case first =>
  have H := HC4.out
  clear HC4
  replace H := OZ_ H
  obtain ⟨t102, A6, H⟩ := H
  by_cases c7 : t102 = true
  ·subst c7
   replace H := T_ H
   replace H := OZ_ H
   obtain ⟨t103, A8, H⟩ := H
   have H' := Zz.mk H
   clear H
   obtain ⟨hcz9_0, hfz9_0⟩ := Z1f_ BK101.out
   go_wp2_with (first | ((with_reducible refine gC_ (f := 46) rfl ?_); refine GL_ (some 10) rfl rfl Try.func46 #[.agg #[.slice A0_0 l0_0.length c0_0]] rfl (h := ?_); (with_reducible refine (z46.calls k _ _ l0_0 true _ ?side1 ?side2 A6.out).mono ?_); (case side1 => exact KC_ (Kd.C_below HR0_0.out HB.out)); (case side2 => exact HC0_0.out); rintro e w10 ⟨rfl, hb⟩; refine ⟨_, rfl, ?_⟩; replace BK101 := Zz.mk (bB_ (g := gb101) (o := .cells #[.slice A0_0 l0_0.length c0_0] 28 (0, 0)) (KB_ BK101.out) hb); replace HB := Zz.mk (bT_ (B1_ HB.out GE101.out) hb); (try clear hb); (try clear hb2); (try clear hk); (try clear hi)) | (go_at_call 47; (with_reducible refine (z47.calls k a2 t103 _ A8.out).mono ?_); rintro e w' ⟨rfl, ⟨nd, rfl⟩⟩))
   go_meet
   case rel => exact ⟨_, (!t103), E_, H', ⟨by first | omega | exact Nat.le_refl _⟩, ⟨KB_ BK101.out⟩, ⟨B1_ HB.out GE101.out⟩⟩
  replace c7 := Bool.eq_false_iff.mpr c7
  subst c7
  replace H := N_ H
  have H' := Zz.mk H
  clear H
  obtain ⟨hcz11_0, hfz11_0⟩ := Z1f_ BK101.out
  go_wp2_with (first | ((with_reducible refine gC_ (f := 46) rfl ?_); refine GL_ (some 10) rfl rfl Try.func46 #[.agg #[.slice A0_0 l0_0.length c0_0]] rfl (h := ?_); (with_reducible refine (z46.calls k _ _ l0_0 false _ ?side1 ?side2 A6.out).mono ?_); (case side1 => exact KC_ (Kd.C_below HR0_0.out HB.out)); (case side2 => exact HC0_0.out); rintro e w12 ⟨rfl, hb⟩; refine ⟨_, rfl, ?_⟩; replace BK101 := Zz.mk (bB_ (g := gb101) (o := .cells #[.slice A0_0 l0_0.length c0_0] 28 (0, 0)) (KB_ BK101.out) hb); replace HB := Zz.mk (bT_ (B1_ HB.out GE101.out) hb); (try clear hb); (try clear hb2); (try clear hk); (try clear hi)))
  go_meet
  case rel => exact ⟨_, (true), E_, H', ⟨by first | omega | exact Nat.le_refl _⟩, ⟨KB_ BK101.out⟩, ⟨B1_ HB.out GE101.out⟩⟩
 case rest =>
  clear HC4
  obtain ⟨kq, x8_3, rfl, HA, HJ3, BK101, HB⟩ := hcut
  cases kq with
  | zero => exact absurd HA.out (by simp [z31.j0])
  | succ kj3 =>
   have H := HA.out
   clear HA
   simp only [z31.j0] at H
   by_cases c13 : x8_3 = true
   ·subst c13
    replace H := T_ H
    obtain rfl := OI_ H
    go_wp2
    go_ret
    exact ⟨F_, B1_ HB.out GE101.out⟩
   replace c13 := Bool.eq_false_iff.mpr c13
   subst c13
   replace H := N_ H
   replace H := OZ_ H
   obtain ⟨t104, A14, H⟩ := H
   by_cases c15 : t104 = true
   ·subst c15
    replace H := T_ H
    have H' := Zz.mk H
    clear H
    go_wp2_with (first | ((with_reducible refine gC_ (f := 48) rfl ?_); refine GL_ (some 19) rfl rfl Try.func48 #[.int .i64 a1] rfl (h := ?_); (with_reducible refine (z48.calls a1 true _ A14.out).mono ?_); rintro e w' ⟨rfl, ⟨nd, rfl⟩⟩; refine ⟨_, rfl, ?_⟩))
    go_loopg [7] kj3 (fun kq v7 w' => ∃ (x7_2 : Int), v7 = .int .i64 x7_2 ∧ Zz (z31.l0 kq a1 x7_2 l0_0 = some r) ∧ Zz (kq ≤ kj3) ∧ Zz (w'.heap[gb101]? = some (.cells #[(.slice A0_0 l0_0.length c0_0)] 28 (0, 0))) ∧ Zz (Below w.heap.size w w'))
    case atStart => exact ⟨(wrap64 (a1 - 1)), E_, H', ⟨Nat.le_refl _⟩, ⟨KB_ BK101.out⟩, ⟨B1_ HB.out GE101.out⟩⟩
    case round =>
     clear H'
     (try clear c13);(try clear c15)
     obtain ⟨x7_2, rfl, HA, HK2, BK101, HB⟩ := hrel
     cases gk with
     | zero => exact absurd HA.out (by simp [z31.l0])
     | succ k2 =>
      have H := HA.out
      clear HA
      simp only [z31.l0] at H
      by_cases c16 : x7_2 ≤ (wrap64 (a1 + 1))
      ·rw [if_pos c16] at H
       have c16b0 : decide (x7_2 ≤ (wrap64 (a1 + 1))) = true := decide_eq_true c16
       clear c16
       replace H := OZ_ H
       obtain ⟨t105, A17, H⟩ := H
       by_cases c18 : (t105.length : Int) > 32
       ·rw [if_pos c18] at H
        have c18b0 : decide (32 < (t105.length : Int)) = true := decide_eq_true c18
        have c18b1 : decide (32 < t105.length) = true := decide_eq_true (by omega)
        clear c18
        obtain rfl := OI_ H
        obtain ⟨hcz19_0, hfz19_0⟩ := Z1f_ BK101.out
        go_wp2_with (first | ((with_reducible refine gC_ (f := 49) rfl ?_); refine GL_ (some 31) rfl rfl Try.func49 #[.agg #[.slice A0_0 l0_0.length c0_0], .int .i64 x7_2] rfl (h := ?_); (with_reducible refine (z49.calls k2 _ _ l0_0 x7_2 t105 _ ?side1 ?side2 A17.out).mono ?_); (case side1 => exact KC_ (Kd.C_below HR0_0.out HB.out)); (case side2 => exact HC0_0.out); rintro e w20 ⟨v106, rfl, ho0, hb⟩; refine ⟨_, rfl, ?_⟩; have HO107 := Zz.mk (Kd.R_lower ho0 (bS_ (B1_ HB.out GE101.out))); replace BK101 := Zz.mk (bB_ (g := gb101) (o := .cells #[.slice A0_0 l0_0.length c0_0] 28 (0, 0)) (KB_ BK101.out) hb); replace HB := Zz.mk (bT_ (B1_ HB.out GE101.out) hb); (try clear hb); (try clear hb2); (try clear hk); (try clear hi); (try clear ho0); obtain ⟨Ao21, co21, eo21⟩ := Kd.R_slice HO107.out; subst eo21))
        go_ret
        exact ⟨F_, B1_ HB.out GE101.out⟩
       rw [if_neg c18] at H
       have c18b0 : decide (32 < (t105.length : Int)) = false := decide_eq_false c18
       have c18b1 : decide (32 < t105.length) = false := decide_eq_false (by omega)
       clear c18
       have H' := Zz.mk H
       clear H
       obtain ⟨hcz22_0, hfz22_0⟩ := Z1f_ BK101.out
       go_wp2_with (first | ((with_reducible refine gC_ (f := 49) rfl ?_); refine GL_ (some 31) rfl rfl Try.func49 #[.agg #[.slice A0_0 l0_0.length c0_0], .int .i64 x7_2] rfl (h := ?_); (with_reducible refine (z49.calls k2 _ _ l0_0 x7_2 t105 _ ?side1 ?side2 A17.out).mono ?_); (case side1 => exact KC_ (Kd.C_below HR0_0.out HB.out)); (case side2 => exact HC0_0.out); rintro e w23 ⟨v106, rfl, ho0, hb⟩; refine ⟨_, rfl, ?_⟩; have HO107 := Zz.mk (Kd.R_lower ho0 (bS_ (B1_ HB.out GE101.out))); replace BK101 := Zz.mk (bB_ (g := gb101) (o := .cells #[.slice A0_0 l0_0.length c0_0] 28 (0, 0)) (KB_ BK101.out) hb); replace HB := Zz.mk (bT_ (B1_ HB.out GE101.out) hb); (try clear hb); (try clear hb2); (try clear hk); (try clear hi); (try clear ho0); obtain ⟨Ao24, co24, eo24⟩ := Kd.R_slice HO107.out; subst eo24))
       go_roundg k2
       case measure => have := HJ3.out; have := HK2.out; omega
       case rel => exact ⟨(wrap64 (x7_2 + 1)), E_, H', ⟨by have := HJ3.out; have := HK2.out; omega⟩, ⟨KB_ BK101.out⟩, ⟨B1_ HB.out GE101.out⟩⟩
      rw [if_neg c16] at H
      have c16b0 : decide (x7_2 ≤ (wrap64 (a1 + 1))) = false := decide_eq_false c16
      clear c16
      obtain rfl := OI_ H
      go_wp2
      go_ret
      exact ⟨F_, B1_ HB.out GE101.out⟩
   replace c15 := Bool.eq_false_iff.mpr c15
   subst c15
   replace H := N_ H
   obtain rfl := OI_ H
   go_wp2_with (first | ((with_reducible refine gC_ (f := 48) rfl ?_); refine GL_ (some 19) rfl rfl Try.func48 #[.int .i64 a1] rfl (h := ?_); (with_reducible refine (z48.calls a1 false _ A14.out).mono ?_); rintro e w' ⟨rfl, ⟨nd, rfl⟩⟩; refine ⟨_, rfl, ?_⟩))
   go_ret
   exact ⟨F_, B1_ HB.out GE101.out⟩
def z17.f (k : Nat) (l0_0 : List (List Int)) (a1 : Int) (a2 : Int) (l3 : List Int) : Option (Int) := (z31.f k l0_0 a1 a2).bind fun t102 => (if t102 = 0 then ((z32.f k l0_0 a1 a2 l3).bind fun t103 => (if t103 = true then (some 0) else (some 7))) else (some t102))
theorem z17.calls (k : Nat) (A0_0 : Option Addr) (c0_0 : Nat) (l0_0 : List (List Int)) (a1 : Int) (a2 : Int) (A3 : Option Addr) (c3 : Nat) (l3 : List Int) (r : Int) (w : World) (hr0_0 : Kd.C (Kd.slice 2 (Kd.int .i64)) w A0_0 l0_0.length l0_0) (hc0_0 : l0_0.length ≤ c0_0) (hr3 : Kd.C (Kd.int .i64) w A3 l3.length l3) (hc3 : l3.length ≤ c3) (h : z17.f k l0_0 a1 a2 l3 = some r) :
  Calls Try.prog 17 #[.agg #[.slice A0_0 l0_0.length c0_0], .int .i64 a1, .int .i64 a2, .slice A3 l3.length c3] w fun e w' => e = .returned (.int .i64 r) ∧ Below w.heap.size w w' := by
 have hu28 := Try.underlying28
 have HR0_0 := Zz.mk hr0_0
 have HC0_0 := Zz.mk hc0_0
 clear hr0_0 hc0_0
 have HR3 := Zz.mk hr3
 have HC3 := Zz.mk hc3
 clear hr3 hc3
 have HB := Zz.mk (Below.refl w.heap.size w)
 have H : ((z31.f k l0_0 a1 a2).bind fun t102 => (if t102 = 0 then ((z32.f k l0_0 a1 a2 l3).bind fun t103 => (if t103 = true then (some 0) else (some 7))) else (some t102))) = some r := h
 clear h
 replace H := OZ_ H
 obtain ⟨t102, A5, H⟩ := H
 by_cases c6 : t102 = 0
 ·rw [if_pos c6] at H
  have c6b0 : (t102 == 0) = true := beq_iff_eq.mpr c6
  have c6b1 : (t102 != 0) = false := bne_eq_false_iff_eq.mpr c6
  clear c6
  replace H := OZ_ H
  obtain ⟨t103, A7, H⟩ := H
  by_cases c8 : t103 = true
  ·subst c8
   replace H := T_ H
   obtain rfl := OI_ H
   go_enter Try.func17, Try.ntmps17
   go_wp2_with (first | ((with_reducible refine qAm (N := 4) rfl ?_); refine qAo ?hg (N := 4) ?hd (cs := #[.slice A0_0 l0_0.length c0_0]) (t := 28) ?hr ?_; (case hd => rfl); (case hg => rfl); (case hr => first | (go_simp; done) | (go_simp; rfl)); intro gb101 hg w9 hbox hb; have BK101 := Zz.mk (hbox); have GW101 := Zz.mk ((by rw [hg]; exact (bS_ (B_ HB.out)) : w.heap.size ≤ gb101)); have GE101 := GW101; replace HB := Zz.mk (bT_ (B_ HB.out) hb); clear hb hbox hg; obtain ⟨hcz10_0, hfz10_0⟩ := Z1f_ BK101.out) | ((with_reducible refine gC_ (f := 31) rfl ?_); refine GL_ (some 13) rfl rfl Try.func31 #[.agg #[.slice A0_0 l0_0.length c0_0], .int .i64 a1, .int .i64 a2] rfl (h := ?_); (with_reducible refine (z31.calls k _ _ l0_0 a1 a2 t102 _ ?side1 ?side2 A5.out).mono ?_); (case side1 => exact KC_ (Kd.C_below HR0_0.out HB.out)); (case side2 => exact HC0_0.out); rintro e w11 ⟨rfl, hb⟩; refine ⟨_, rfl, ?_⟩; replace BK101 := Zz.mk (bB_ (g := gb101) (o := .cells #[.slice A0_0 l0_0.length c0_0] 28 (0, 0)) (KB_ BK101.out) hb); replace HB := Zz.mk (bT_ (B1_ HB.out GE101.out) hb); (try clear hb); (try clear hb2); (try clear hk); (try clear hi); obtain ⟨hcz12_0, hfz12_0⟩ := Z1f_ BK101.out) | ((with_reducible refine gC_ (f := 32) rfl ?_); refine GL_ (some 21) rfl rfl Try.func32 #[.agg #[.slice A0_0 l0_0.length c0_0], .int .i64 a1, .int .i64 a2, .slice A3 l3.length c3] rfl (h := ?_); (with_reducible refine (z32.calls k _ _ l0_0 a1 a2 _ _ l3 true _ ?side1 ?side2 ?side3 ?side4 A7.out).mono ?_); (case side1 => exact KC_ (Kd.C_below HR0_0.out HB.out)); (case side2 => exact HC0_0.out); (case side3 => exact KC_ (Kd.C_below HR3.out HB.out)); (case side4 => exact HC3.out); rintro e w13 ⟨rfl, hb⟩; refine ⟨_, rfl, ?_⟩; replace BK101 := Zz.mk (bB_ (g := gb101) (o := .cells #[.slice A0_0 l0_0.length c0_0] 28 (0, 0)) (KB_ BK101.out) hb); replace HB := Zz.mk (bT_ (B1_ HB.out GE101.out) hb); (try clear hb); (try clear hb2); (try clear hk); (try clear hi)))
   go_ret
   exact ⟨F_, B1_ HB.out GE101.out⟩
  replace c8 := Bool.eq_false_iff.mpr c8
  subst c8
  replace H := N_ H
  obtain rfl := OI_ H
  go_enter Try.func17, Try.ntmps17
  go_wp2_with (first | ((with_reducible refine qAm (N := 4) rfl ?_); refine qAo ?hg (N := 4) ?hd (cs := #[.slice A0_0 l0_0.length c0_0]) (t := 28) ?hr ?_; (case hd => rfl); (case hg => rfl); (case hr => first | (go_simp; done) | (go_simp; rfl)); intro gb101 hg w14 hbox hb; have BK101 := Zz.mk (hbox); have GW101 := Zz.mk ((by rw [hg]; exact (bS_ (B_ HB.out)) : w.heap.size ≤ gb101)); have GE101 := GW101; replace HB := Zz.mk (bT_ (B_ HB.out) hb); clear hb hbox hg; obtain ⟨hcz15_0, hfz15_0⟩ := Z1f_ BK101.out) | ((with_reducible refine gC_ (f := 31) rfl ?_); refine GL_ (some 13) rfl rfl Try.func31 #[.agg #[.slice A0_0 l0_0.length c0_0], .int .i64 a1, .int .i64 a2] rfl (h := ?_); (with_reducible refine (z31.calls k _ _ l0_0 a1 a2 t102 _ ?side1 ?side2 A5.out).mono ?_); (case side1 => exact KC_ (Kd.C_below HR0_0.out HB.out)); (case side2 => exact HC0_0.out); rintro e w16 ⟨rfl, hb⟩; refine ⟨_, rfl, ?_⟩; replace BK101 := Zz.mk (bB_ (g := gb101) (o := .cells #[.slice A0_0 l0_0.length c0_0] 28 (0, 0)) (KB_ BK101.out) hb); replace HB := Zz.mk (bT_ (B1_ HB.out GE101.out) hb); (try clear hb); (try clear hb2); (try clear hk); (try clear hi); obtain ⟨hcz17_0, hfz17_0⟩ := Z1f_ BK101.out) | ((with_reducible refine gC_ (f := 32) rfl ?_); refine GL_ (some 21) rfl rfl Try.func32 #[.agg #[.slice A0_0 l0_0.length c0_0], .int .i64 a1, .int .i64 a2, .slice A3 l3.length c3] rfl (h := ?_); (with_reducible refine (z32.calls k _ _ l0_0 a1 a2 _ _ l3 false _ ?side1 ?side2 ?side3 ?side4 A7.out).mono ?_); (case side1 => exact KC_ (Kd.C_below HR0_0.out HB.out)); (case side2 => exact HC0_0.out); (case side3 => exact KC_ (Kd.C_below HR3.out HB.out)); (case side4 => exact HC3.out); rintro e w18 ⟨rfl, hb⟩; refine ⟨_, rfl, ?_⟩; replace BK101 := Zz.mk (bB_ (g := gb101) (o := .cells #[.slice A0_0 l0_0.length c0_0] 28 (0, 0)) (KB_ BK101.out) hb); replace HB := Zz.mk (bT_ (B1_ HB.out GE101.out) hb); (try clear hb); (try clear hb2); (try clear hk); (try clear hi)))
  go_ret
  exact ⟨F_, B1_ HB.out GE101.out⟩
 rw [if_neg c6] at H
 have c6b0 : (t102 == 0) = false := beq_eq_false_iff_ne.mpr c6
 have c6b1 : (t102 != 0) = true := bne_iff_ne.mpr c6
 obtain rfl := OI_ H
 go_enter Try.func17, Try.ntmps17
 go_wp2_with (first | ((with_reducible refine qAm (N := 4) rfl ?_); refine qAo ?hg (N := 4) ?hd (cs := #[.slice A0_0 l0_0.length c0_0]) (t := 28) ?hr ?_; (case hd => rfl); (case hg => rfl); (case hr => first | (go_simp; done) | (go_simp; rfl)); intro gb101 hg w19 hbox hb; have BK101 := Zz.mk (hbox); have GW101 := Zz.mk ((by rw [hg]; exact (bS_ (B_ HB.out)) : w.heap.size ≤ gb101)); have GE101 := GW101; replace HB := Zz.mk (bT_ (B_ HB.out) hb); clear hb hbox hg; obtain ⟨hcz20_0, hfz20_0⟩ := Z1f_ BK101.out) | ((with_reducible refine gC_ (f := 31) rfl ?_); refine GL_ (some 13) rfl rfl Try.func31 #[.agg #[.slice A0_0 l0_0.length c0_0], .int .i64 a1, .int .i64 a2] rfl (h := ?_); (with_reducible refine (z31.calls k _ _ l0_0 a1 a2 t102 _ ?side1 ?side2 A5.out).mono ?_); (case side1 => exact KC_ (Kd.C_below HR0_0.out HB.out)); (case side2 => exact HC0_0.out); rintro e w21 ⟨rfl, hb⟩; refine ⟨_, rfl, ?_⟩; replace BK101 := Zz.mk (bB_ (g := gb101) (o := .cells #[.slice A0_0 l0_0.length c0_0] 28 (0, 0)) (KB_ BK101.out) hb); replace HB := Zz.mk (bT_ (B1_ HB.out GE101.out) hb); (try clear hb); (try clear hb2); (try clear hk); (try clear hi)))
 go_ret
 exact ⟨F_, B1_ HB.out GE101.out⟩
def z12.f (k : Nat) (l0_0 : List (List Int)) (a1 : Int) (a2 : Int) (l3 : List Int) : Option (Int) := (z23.f k l0_0 a1 a2).bind fun t101 => (if t101 = 0 then ((z25.f k l0_0 a1).bind fun t102 => ((z24.f k l3 (t102.length : Int) a2).bind fun t105 => (if t105 = true then (some 0) else (some 7)))) else (some t101))
theorem z12.calls (k : Nat) (gp0 : Nat) (A0_0 : Option Addr) (c0_0 : Nat) (l0_0 : List (List Int)) (a1 : Int) (a2 : Int) (A3 : Option Addr) (c3 : Nat) (l3 : List Int) (r : Int) (w : World) (hbp0 : w.heap[gp0]? = some (.cells #[.slice A0_0 l0_0.length c0_0] 28 (0, 0))) (hr0_0 : Kd.C (Kd.slice 2 (Kd.int .i64)) w A0_0 l0_0.length l0_0) (hc0_0 : l0_0.length ≤ c0_0) (hr3 : Kd.C (Kd.int .i64) w A3 l3.length l3) (hc3 : l3.length ≤ c3) (h : z12.f k l0_0 a1 a2 l3 = some r) :
  Calls Try.prog 12 #[.pointer (some ⟨gp0, 0, none⟩), .int .i64 a1, .int .i64 a2, .slice A3 l3.length c3] w fun e w' => e = .returned (.int .i64 r) ∧ Below w.heap.size w w' := by
 have HR0_0 := Zz.mk hr0_0
 have HC0_0 := Zz.mk hc0_0
 clear hr0_0 hc0_0
 have HR3 := Zz.mk hr3
 have HC3 := Zz.mk hc3
 clear hr3 hc3
 have BK50 := Zz.mk hbp0
 clear hbp0
 have HB := Zz.mk (Below.refl w.heap.size w)
 have H : ((z23.f k l0_0 a1 a2).bind fun t101 => (if t101 = 0 then ((z25.f k l0_0 a1).bind fun t102 => ((z24.f k l3 (t102.length : Int) a2).bind fun t105 => (if t105 = true then (some 0) else (some 7)))) else (some t101))) = some r := h
 clear h
 replace H := OZ_ H
 obtain ⟨t101, A5, H⟩ := H
 by_cases c6 : t101 = 0
 ·rw [if_pos c6] at H
  have c6b0 : (t101 == 0) = true := beq_iff_eq.mpr c6
  have c6b1 : (t101 != 0) = false := bne_eq_false_iff_eq.mpr c6
  clear c6
  replace H := OZ_ H
  obtain ⟨t102, A7, H⟩ := H
  replace H := OZ_ H
  obtain ⟨t105, A8, H⟩ := H
  by_cases c9 : t105 = true
  ·subst c9
   replace H := T_ H
   obtain rfl := OI_ H
   go_enter Try.func12, Try.ntmps12
   go_wp2_with (first | ((with_reducible refine gC_ (f := 23) rfl ?_); refine GL_ (some 13) rfl rfl Try.func23 #[.pointer (some ⟨gp0, 0, none⟩), .int .i64 a1, .int .i64 a2] rfl (h := ?_); (with_reducible refine (z23.calls k gp0 A0_0 c0_0 l0_0 a1 a2 t101 _ ?side1 ?side2 ?side3 A5.out).mono ?_); (case side1 => refine BW_ ?_; exact BK50.out); (case side2 => exact KC_ HR0_0.out); (case side3 => exact HC0_0.out); rintro e w10 ⟨rfl, hb⟩; refine ⟨_, rfl, ?_⟩; replace BK50 := Zz.mk (bB_ (g := gp0) (o := .cells #[.slice A0_0 l0_0.length c0_0] 28 (0, 0)) (KB_ BK50.out) hb); replace HB := Zz.mk (bT_ (B_ HB.out) hb); (try clear hb); (try clear hb2); (try clear hk); (try clear hi)) | ((with_reducible refine gC_ (f := 25) rfl ?_); refine GL_ (some 20) rfl rfl Try.func25 #[.pointer (some ⟨gp0, 0, none⟩), .int .i64 a1] rfl (h := ?_); (with_reducible refine (z25.calls k gp0 A0_0 c0_0 l0_0 a1 t102 _ ?side1 ?side2 ?side3 A7.out).mono ?_); (case side1 => refine BW_ ?_; exact BK50.out); (case side2 => exact KC_ (Kd.C_below HR0_0.out HB.out)); (case side3 => exact HC0_0.out); rintro e w11 ⟨v103, rfl, ho0, hb⟩; refine ⟨_, rfl, ?_⟩; have HO104 := Zz.mk (Kd.R_lower ho0 (bS_ (B_ HB.out))); replace BK50 := Zz.mk (bB_ (g := gp0) (o := .cells #[.slice A0_0 l0_0.length c0_0] 28 (0, 0)) (KB_ BK50.out) hb); replace HB := Zz.mk (bT_ (B_ HB.out) hb); (try clear hb); (try clear hb2); (try clear hk); (try clear hi); (try clear ho0); obtain ⟨Ao12, co12, eo12⟩ := Kd.R_slice HO104.out; subst eo12) | ((with_reducible refine gC_ (f := 24) rfl ?_); refine GL_ (some 23) rfl rfl Try.func24 #[.slice A3 l3.length c3, .int .i64 (t102.length : Int), .int .i64 a2] rfl (h := ?_); (with_reducible refine (z24.calls k _ _ l3 (t102.length : Int) a2 true _ ?side1 ?side2 A8.out).mono ?_); (case side1 => exact KC_ (Kd.C_below HR3.out HB.out)); (case side2 => exact HC3.out); rintro e w' ⟨rfl, ⟨nd, rfl⟩⟩; refine ⟨_, rfl, ?_⟩))
   go_ret
   exact ⟨F_, B_ HB.out⟩
  replace c9 := Bool.eq_false_iff.mpr c9
  subst c9
  replace H := N_ H
  obtain rfl := OI_ H
  go_enter Try.func12, Try.ntmps12
  go_wp2_with (first | ((with_reducible refine gC_ (f := 23) rfl ?_); refine GL_ (some 13) rfl rfl Try.func23 #[.pointer (some ⟨gp0, 0, none⟩), .int .i64 a1, .int .i64 a2] rfl (h := ?_); (with_reducible refine (z23.calls k gp0 A0_0 c0_0 l0_0 a1 a2 t101 _ ?side1 ?side2 ?side3 A5.out).mono ?_); (case side1 => refine BW_ ?_; exact BK50.out); (case side2 => exact KC_ HR0_0.out); (case side3 => exact HC0_0.out); rintro e w13 ⟨rfl, hb⟩; refine ⟨_, rfl, ?_⟩; replace BK50 := Zz.mk (bB_ (g := gp0) (o := .cells #[.slice A0_0 l0_0.length c0_0] 28 (0, 0)) (KB_ BK50.out) hb); replace HB := Zz.mk (bT_ (B_ HB.out) hb); (try clear hb); (try clear hb2); (try clear hk); (try clear hi)) | ((with_reducible refine gC_ (f := 25) rfl ?_); refine GL_ (some 20) rfl rfl Try.func25 #[.pointer (some ⟨gp0, 0, none⟩), .int .i64 a1] rfl (h := ?_); (with_reducible refine (z25.calls k gp0 A0_0 c0_0 l0_0 a1 t102 _ ?side1 ?side2 ?side3 A7.out).mono ?_); (case side1 => refine BW_ ?_; exact BK50.out); (case side2 => exact KC_ (Kd.C_below HR0_0.out HB.out)); (case side3 => exact HC0_0.out); rintro e w14 ⟨v103, rfl, ho0, hb⟩; refine ⟨_, rfl, ?_⟩; have HO104 := Zz.mk (Kd.R_lower ho0 (bS_ (B_ HB.out))); replace BK50 := Zz.mk (bB_ (g := gp0) (o := .cells #[.slice A0_0 l0_0.length c0_0] 28 (0, 0)) (KB_ BK50.out) hb); replace HB := Zz.mk (bT_ (B_ HB.out) hb); (try clear hb); (try clear hb2); (try clear hk); (try clear hi); (try clear ho0); obtain ⟨Ao15, co15, eo15⟩ := Kd.R_slice HO104.out; subst eo15) | ((with_reducible refine gC_ (f := 24) rfl ?_); refine GL_ (some 23) rfl rfl Try.func24 #[.slice A3 l3.length c3, .int .i64 (t102.length : Int), .int .i64 a2] rfl (h := ?_); (with_reducible refine (z24.calls k _ _ l3 (t102.length : Int) a2 false _ ?side1 ?side2 A8.out).mono ?_); (case side1 => exact KC_ (Kd.C_below HR3.out HB.out)); (case side2 => exact HC3.out); rintro e w' ⟨rfl, ⟨nd, rfl⟩⟩; refine ⟨_, rfl, ?_⟩))
  go_ret
  exact ⟨F_, B_ HB.out⟩
 rw [if_neg c6] at H
 have c6b0 : (t101 == 0) = false := beq_eq_false_iff_ne.mpr c6
 have c6b1 : (t101 != 0) = true := bne_iff_ne.mpr c6
 obtain rfl := OI_ H
 go_enter Try.func12, Try.ntmps12
 go_wp2_with (first | ((with_reducible refine gC_ (f := 23) rfl ?_); refine GL_ (some 13) rfl rfl Try.func23 #[.pointer (some ⟨gp0, 0, none⟩), .int .i64 a1, .int .i64 a2] rfl (h := ?_); (with_reducible refine (z23.calls k gp0 A0_0 c0_0 l0_0 a1 a2 t101 _ ?side1 ?side2 ?side3 A5.out).mono ?_); (case side1 => refine BW_ ?_; exact BK50.out); (case side2 => exact KC_ HR0_0.out); (case side3 => exact HC0_0.out); rintro e w16 ⟨rfl, hb⟩; refine ⟨_, rfl, ?_⟩; replace BK50 := Zz.mk (bB_ (g := gp0) (o := .cells #[.slice A0_0 l0_0.length c0_0] 28 (0, 0)) (KB_ BK50.out) hb); replace HB := Zz.mk (bT_ (B_ HB.out) hb); (try clear hb); (try clear hb2); (try clear hk); (try clear hi)))
 go_ret
 exact ⟨F_, B_ HB.out⟩
def z14.f (k : Nat) (l0_0 : List (List Int)) (a1 : Int) (a2 : Int) (l3 : List Int) : Option (List Int × Bool) := (z26.f k l0_0 (wrap64 (a1 + 1)) a2).bind fun bt101 => ((z29.f k bt101.1 bt101.2.1 bt101.2.2.1 bt101.2.2.2 l3).bind fun bt108 => (some (bt108.1, bt108.2)))
theorem z14.calls (k : Nat) (gp0 : Nat) (A0_0 : Option Addr) (c0_0 : Nat) (l0_0 : List (List Int)) (a1 : Int) (a2 : Int) (A3 : Option Addr) (c3 : Nat) (l3 : List Int) (r1 : List Int) (r2 : Bool) (w : World) (hbp0 : w.heap[gp0]? = some (.cells #[.slice A0_0 l0_0.length c0_0] 28 (0, 0))) (hr0_0 : Kd.C (Kd.slice 2 (Kd.int .i64)) w A0_0 l0_0.length l0_0) (hc0_0 : l0_0.length ≤ c0_0) (hr3 : Kd.C (Kd.int .i64) w A3 l3.length l3) (hc3 : l3.length ≤ c3) (h : z14.f k l0_0 a1 a2 l3 = some (r1, r2)) :
  Calls Try.prog 14 #[.pointer (some ⟨gp0, 0, none⟩), .int .i64 a1, .int .i64 a2, .slice A3 l3.length c3] w fun e w' => ∃ v0_ : Value, e = .returned (.tuple #[v0_, .bool r2]) ∧ Kd.R (Kd.int .i64) 2 w' w.heap.size (fun _ => True) v0_ r1 ∧ Below w.heap.size w w' := by
 have hu52 := Try.underlying52
 have HR0_0 := Zz.mk hr0_0
 have HC0_0 := Zz.mk hc0_0
 clear hr0_0 hc0_0
 have HR3 := Zz.mk hr3
 have HC3 := Zz.mk hc3
 clear hr3 hc3
 have BK50 := Zz.mk hbp0
 clear hbp0
 have HB := Zz.mk (Below.refl w.heap.size w)
 have H : ((z26.f k l0_0 (wrap64 (a1 + 1)) a2).bind fun bt101 => ((z29.f k bt101.1 bt101.2.1 bt101.2.2.1 bt101.2.2.2 l3).bind fun bt108 => (some (bt108.1, bt108.2)))) = some (r1, r2) := h
 clear h
 replace H := OB_ H
 obtain ⟨⟨t101, t102, t103, t104⟩, A50, H⟩ := H
 replace H : ((z29.f k t101 t102 t103 t104 l3).bind fun bt108 => (some (bt108.1, bt108.2))) = some (r1, r2) := H
 have A5 := Zz.mk A50
 clear A50
 replace H := OB_ H
 obtain ⟨⟨t108, t111⟩, A60, H⟩ := H
 replace H : (some (t108, t111)) = some (r1, r2) := H
 have A6 := Zz.mk A60
 clear A60
 simp only [Option.some.injEq, Prod.mk.injEq] at H
 obtain ⟨rfl, rfl⟩ := H
 go_enter Try.func14, Try.ntmps14
 go_wp2_with (first | ((with_reducible refine gC_ (f := 26) rfl ?_); refine GL_ (some 15) rfl rfl Try.func26 #[.pointer (some ⟨gp0, 0, none⟩), .int .i64 (wrap64 (a1 + 1)), .int .i64 a2] rfl (h := ?_); (with_reducible refine (z26.calls k gp0 A0_0 c0_0 l0_0 (wrap64 (a1 + 1)) a2 t101 t102 t103 t104 _ ?side1 ?side2 ?side3 A5.out).mono ?_); (case side1 => refine BW_ ?_; exact BK50.out); (case side2 => exact KC_ HR0_0.out); (case side3 => exact HC0_0.out); rintro e w7 ⟨v105, rfl, ho0, hb⟩; refine ⟨_, rfl, ?_⟩; have HO106 := Zz.mk (Kd.R_lower ho0 (bS_ (B_ HB.out))); replace BK50 := Zz.mk (bB_ (g := gp0) (o := .cells #[.slice A0_0 l0_0.length c0_0] 28 (0, 0)) (KB_ BK50.out) hb); replace HB := Zz.mk (bT_ (B_ HB.out) hb); (try clear hb); (try clear hb2); (try clear hk); (try clear hi); (try clear ho0)) | ((with_reducible refine qAm (N := 10) rfl ?_); refine qAo ?hg (N := 10) ?hd (cs := #[.int .i64 0, .int .i64 0, .int .i64 0, .slice none 0 0]) (t := 52) ?hr ?_; (case hd => rfl); (case hg => rfl); (case hr => first | (go_simp; done) | (go_simp; rfl)); intro gb107 hg w8 hbox hb; have BK107 := Zz.mk (hbox); have GW107 := Zz.mk ((by rw [hg]; exact (bS_ (B_ HB.out)) : w.heap.size ≤ gb107)); have GE107 := GW107; have NB50_107 := Zz.mk ((by rw [hg]; exact Nat.ne_of_lt (qA5 (g := gp0) (o := .cells #[.slice A0_0 l0_0.length c0_0] 28 (0, 0)) (KB_ BK50.out)) : gp0 ≠ gb107)); have NB107_50 := Zz.mk NB50_107.out.symm; replace HO106 := Zz.mk (Kd.R_below (KR_ HO106.out) hb); replace BK50 := Zz.mk (bB_ (g := gp0) (o := .cells #[.slice A0_0 l0_0.length c0_0] 28 (0, 0)) (KB_ BK50.out) hb); replace HB := Zz.mk (bT_ (B_ HB.out) hb); clear hb hbox hg; have hnb9 := NB107_50.out; have hnc9 := NB50_107.out; obtain ⟨hcz10_0, hcz10_1, hcz10_2, hcz10_3, hfz10_0, hfz10_1, hfz10_2, hfz10_3⟩ := Z4f_ BK107.out; obtain ⟨Ao11, co11, eo11⟩ := Kd.R_slice HO106.out; subst eo11) | ((with_reducible refine gC_ (f := 29) rfl ?_); refine GL_ (some 17) rfl rfl Try.func29 #[.pointer (some ⟨gb107, 0, none⟩), .slice A3 l3.length c3] rfl (h := ?_); (with_reducible refine (z29.calls k gb107 t101 t102 t103 Ao11 co11 t104 _ _ l3 t108 t111 _ ?side1 ?side2 ?side3 ?side4 ?side5 A6.out).mono ?_); (case side1 => refine BW_ ?_; refine bP_ (cs := #[.int .i64 t101, .int .i64 t102, .int .i64 t103, .slice none 0 0]) ?_ 3 _ rfl; refine BW_ ?_; refine bP_ (cs := #[.int .i64 t101, .int .i64 t102, .int .i64 0, .slice none 0 0]) ?_ 2 _ rfl; refine BW_ ?_; refine bP_ (cs := #[.int .i64 t101, .int .i64 0, .int .i64 0, .slice none 0 0]) ?_ 1 _ rfl; refine BW_ ?_; refine bP_ (cs := #[.int .i64 0, .int .i64 0, .int .i64 0, .slice none 0 0]) ?_ 0 _ rfl; refine BW_ ?_; exact BK107.out); (case side2 => refine (Kd.R_reads' (e := 2) (base := w.heap.size) (ok := fun k_ => True) (n := t104.length) (c := co11) ?_).2.2; exact (by refine RW_ ?_; exact (Kd.R_mono (Kd.R_far (p := ⟨gb107, 3, none⟩) (Kd.R_far (p := ⟨gb107, 2, none⟩) (Kd.R_far (p := ⟨gb107, 1, none⟩) (Kd.R_far (p := ⟨gb107, 0, none⟩) (Kd.R_types HO106.out BK107.out (by decide)) (fun _ hk => hk.2) (.int .i64 t101)) (fun _ hk => hk.2) (.int .i64 t102)) (fun _ hk => hk.2) (.int .i64 t103)) (fun _ hk => hk.2) (.slice Ao11 t104.length co11)) (fun _ h_ => h_.1)))); (case side3 => exact (Kd.R_reads' HO106.out).2.1); (case side4 => exact Kd.C_below HR3.out (B1_ HB.out GE107.out)); (case side5 => exact HC3.out); rintro e w12 ⟨v109, rfl, ho0, hb⟩; refine ⟨_, rfl, ?_⟩; have HO110 := Zz.mk (Kd.R_lower (Kd.R_new' ho0 (Kd.R_lt (by refine RW_ ?_; exact (Kd.R_mono (Kd.R_far (p := ⟨gb107, 3, none⟩) (Kd.R_far (p := ⟨gb107, 2, none⟩) (Kd.R_far (p := ⟨gb107, 1, none⟩) (Kd.R_far (p := ⟨gb107, 0, none⟩) (Kd.R_types HO106.out BK107.out (by decide)) (fun _ hk => hk.2) (.int .i64 t101)) (fun _ hk => hk.2) (.int .i64 t102)) (fun _ hk => hk.2) (.int .i64 t103)) (fun _ hk => hk.2) (.slice Ao11 t104.length co11)) (fun _ h_ => h_.1))))) (bS_ (B1_ HB.out GE107.out))); replace HO106 := Zz.mk (Kd.R_elder' (by refine RW_ ?_; exact (Kd.R_mono (Kd.R_far (p := ⟨gb107, 3, none⟩) (Kd.R_far (p := ⟨gb107, 2, none⟩) (Kd.R_far (p := ⟨gb107, 1, none⟩) (Kd.R_far (p := ⟨gb107, 0, none⟩) (Kd.R_types HO106.out BK107.out (by decide)) (fun _ hk => hk.2) (.int .i64 t101)) (fun _ hk => hk.2) (.int .i64 t102)) (fun _ hk => hk.2) (.int .i64 t103)) (fun _ hk => hk.2) (.slice Ao11 t104.length co11)) (fun _ h_ => h_.1))) (Kd.R_base ho0) hb); replace BK50 := Zz.mk (bB_ (g := gp0) (o := .cells #[.slice A0_0 l0_0.length c0_0] 28 (0, 0)) (by refine BW_ ?_; refine bR_ ?_ NB50_107.out _; refine BW_ ?_; refine bR_ ?_ NB50_107.out _; refine BW_ ?_; refine bR_ ?_ NB50_107.out _; refine BW_ ?_; refine bR_ ?_ NB50_107.out _; refine BW_ ?_; exact BK50.out) hb); replace BK107 := Zz.mk (bB_ (g := gb107) (o := .cells #[.int .i64 t101, .int .i64 t102, .int .i64 t103, .slice Ao11 t104.length co11] 52 (0, 0)) (by refine BW_ ?_; refine bP_ (cs := #[.int .i64 t101, .int .i64 t102, .int .i64 t103, .slice none 0 0]) ?_ 3 _ rfl; refine BW_ ?_; refine bP_ (cs := #[.int .i64 t101, .int .i64 t102, .int .i64 0, .slice none 0 0]) ?_ 2 _ rfl; refine BW_ ?_; refine bP_ (cs := #[.int .i64 t101, .int .i64 0, .int .i64 0, .slice none 0 0]) ?_ 1 _ rfl; refine BW_ ?_; refine bP_ (cs := #[.int .i64 0, .int .i64 0, .int .i64 0, .slice none 0 0]) ?_ 0 _ rfl; refine BW_ ?_; exact BK107.out) hb); replace HB := Zz.mk (bT_ (B1_ HB.out GE107.out) hb); (try clear hb); (try clear hb2); (try clear hk); (try clear hi); (try clear ho0)))
 go_ret2
 exact ⟨_, F_, by refine RW_ ?_; exact Kd.R_mono HO110.out (fun _ hk => trivial), B1_ HB.out GE107.out⟩
def z5.j0 : Nat → Int → Int → List Int → List Int → Bool → List (List Int) → Option (Bool)
 | 0, _, _, _, _, _, _ => none
 | k + 1, x1, x2, x3, x4, x38, x102000 => if x38 = true then (some false) else ((z15.f k x3 x4 x2).bind fun t106 => ((z14.f k x102000 x1 x2 t106).bind fun bt109 => (some bt109.2)))
def z5.f (k : Nat) (l0_0 : List (List Int)) (a1 : Int) (a2 : Int) (l3 : List Int) (l4 : List Int) : Option (Bool) := (z12.f k l0_0 a1 a2 l3).bind fun t102 => (if t102 = 0 then ((z12.f k l0_0 a1 a2 l4).bind fun t103 => (if t103 = 0 then ((z13.f k l0_0 a1 a2 l3).bind fun t104 => (if t104 = true then ((z13.f k l0_0 a1 a2 l4).bind fun t105 => (z5.j0 k a1 a2 l3 l4 (!t105) l0_0)) else (z5.j0 k a1 a2 l3 l4 true l0_0))) else (z5.j0 k a1 a2 l3 l4 true l0_0))) else (z5.j0 k a1 a2 l3 l4 true l0_0))
theorem z5.calls (k : Nat) (A0_0 : Option Addr) (c0_0 : Nat) (l0_0 : List (List Int)) (a1 : Int) (a2 : Int) (A3 : Option Addr) (c3 : Nat) (l3 : List Int) (A4 : Option Addr) (c4 : Nat) (l4 : List Int) (r : Bool) (w : World) (hr0_0 : Kd.C (Kd.slice 2 (Kd.int .i64)) w A0_0 l0_0.length l0_0) (hc0_0 : l0_0.length ≤ c0_0) (hr3 : Kd.C (Kd.int .i64) w A3 l3.length l3) (hc3 : l3.length ≤ c3) (hr4 : Kd.C (Kd.int .i64) w A4 l4.length l4) (hc4 : l4.length ≤ c4) (h : z5.f k l0_0 a1 a2 l3 l4 = some r) :
  Calls Try.prog 5 #[.agg #[.slice A0_0 l0_0.length c0_0], .int .i64 a1, .int .i64 a2, .slice A3 l3.length c3, .slice A4 l4.length c4] w fun e w' => e = .returned (.bool r) ∧ Below w.heap.size w w' := by
 have hu28 := Try.underlying28
 have HR0_0 := Zz.mk hr0_0
 have HC0_0 := Zz.mk hc0_0
 clear hr0_0 hc0_0
 have HR3 := Zz.mk hr3
 have HC3 := Zz.mk hc3
 clear hr3 hc3
 have HR4 := Zz.mk hr4
 have HC4 := Zz.mk hc4
 clear hr4 hc4
 have HB := Zz.mk (Below.refl w.heap.size w)
 have H : ((z12.f k l0_0 a1 a2 l3).bind fun t102 => (if t102 = 0 then ((z12.f k l0_0 a1 a2 l4).bind fun t103 => (if t103 = 0 then ((z13.f k l0_0 a1 a2 l3).bind fun t104 => (if t104 = true then ((z13.f k l0_0 a1 a2 l4).bind fun t105 => (z5.j0 k a1 a2 l3 l4 (!t105) l0_0)) else (z5.j0 k a1 a2 l3 l4 true l0_0))) else (z5.j0 k a1 a2 l3 l4 true l0_0))) else (z5.j0 k a1 a2 l3 l4 true l0_0))) = some r := h
 clear h
 have HC6 := Zz.mk H
 clear H
 go_enter Try.func5, Try.ntmps5
 go_upto_region 1 with (first | ((with_reducible refine qAm (N := 5) rfl ?_); refine qAo ?hg (N := 5) ?hd (cs := #[.slice A0_0 l0_0.length c0_0]) (t := 28) ?hr ?_; (case hd => rfl); (case hg => rfl); (case hr => first | (go_simp; done) | (go_simp; rfl)); intro gb101 hg w7 hbox hb; have BK101 := Zz.mk (hbox); have GW101 := Zz.mk ((by rw [hg]; exact (bS_ (B_ HB.out)) : w.heap.size ≤ gb101)); have GE101 := GW101; replace HB := Zz.mk (bT_ (B_ HB.out) hb); clear hb hbox hg))
 (try simp only [Act.put, List.setIfInBounds_toArray, List.set_cons_zero, List.set_cons_succ])
 go_cut [38] (fun v38 wc => ∃ (kq : Nat) (x38_5 : Bool), v38 = .bool x38_5 ∧ Zz (z5.j0 kq a1 a2 l3 l4 x38_5 l0_0 = some r) ∧ Zz (kq ≤ k) ∧ Zz (wc.heap[gb101]? = some (.cells #[(.slice A0_0 l0_0.length c0_0)] 28 (0, 0))) ∧ Zz (Below w.heap.size w wc))
 case first =>
  have H := HC6.out
  clear HC6
  replace H := OZ_ H
  obtain ⟨t102, A8, H⟩ := H
  by_cases c9 : t102 = 0
  ·rw [if_pos c9] at H
   have c9b0 : (t102 == 0) = true := beq_iff_eq.mpr c9
   have c9b1 : (t102 != 0) = false := bne_eq_false_iff_eq.mpr c9
   clear c9
   (first | rw [c9b0] | (simp only [qA6, qBm]; rw [c9b0]) | skip)
   replace H := OZ_ H
   obtain ⟨t103, A10, H⟩ := H
   by_cases c11 : t103 = 0
   ·rw [if_pos c11] at H
    have c11b0 : (t103 == 0) = true := beq_iff_eq.mpr c11
    have c11b1 : (t103 != 0) = false := bne_eq_false_iff_eq.mpr c11
    clear c11
    replace H := OZ_ H
    obtain ⟨t104, A12, H⟩ := H
    by_cases c13 : t104 = true
    ·subst c13
     replace H := T_ H
     replace H := OZ_ H
     obtain ⟨t105, A14, H⟩ := H
     have H' := Zz.mk H
     clear H
     go_wp2_with (first | ((with_reducible refine gC_ (f := 12) rfl ?_); refine GL_ (some 16) rfl rfl Try.func12 #[.pointer (some ⟨gb101, 0, none⟩), .int .i64 a1, .int .i64 a2, .slice A3 l3.length c3] rfl (h := ?_); (with_reducible refine (z12.calls k gb101 A0_0 c0_0 l0_0 a1 a2 _ _ l3 t102 _ ?side1 ?side2 ?side3 ?side4 ?side5 A8.out).mono ?_); (case side1 => refine BW_ ?_; exact BK101.out); (case side2 => exact KC_ (Kd.C_below HR0_0.out HB.out)); (case side3 => exact HC0_0.out); (case side4 => exact KC_ (Kd.C_below HR3.out HB.out)); (case side5 => exact HC3.out); rintro e w15 ⟨rfl, hb⟩; refine ⟨_, rfl, ?_⟩; replace BK101 := Zz.mk (bB_ (g := gb101) (o := .cells #[.slice A0_0 l0_0.length c0_0] 28 (0, 0)) (KB_ BK101.out) hb); replace HB := Zz.mk (bT_ (B1_ HB.out GE101.out) hb); (try clear hb); (try clear hb2); (try clear hk); (try clear hi)) | (go_at_call 12; (with_reducible refine (z12.calls k gb101 A0_0 c0_0 l0_0 a1 a2 _ _ l4 t103 _ ?side1 ?side2 ?side3 ?side4 ?side5 A10.out).mono ?_); (case side1 => refine BW_ ?_; exact BK101.out); (case side2 => exact KC_ (Kd.C_below HR0_0.out HB.out)); (case side3 => exact HC0_0.out); (case side4 => exact KC_ (Kd.C_below HR4.out HB.out)); (case side5 => exact HC4.out); rintro e w16 ⟨rfl, hb⟩; replace BK101 := Zz.mk (bB_ (g := gb101) (o := .cells #[.slice A0_0 l0_0.length c0_0] 28 (0, 0)) (KB_ BK101.out) hb); replace HB := Zz.mk (bT_ (B1_ HB.out GE101.out) hb); (try clear hb); (try clear hb2); (try clear hk); (try clear hi)) | (go_at_call 13; (with_reducible refine (z13.calls k gb101 A0_0 c0_0 l0_0 a1 a2 _ _ l3 true _ ?side1 ?side2 ?side3 ?side4 ?side5 A12.out).mono ?_); (case side1 => refine BW_ ?_; exact BK101.out); (case side2 => exact KC_ (Kd.C_below HR0_0.out HB.out)); (case side3 => exact HC0_0.out); (case side4 => exact KC_ (Kd.C_below HR3.out HB.out)); (case side5 => exact HC3.out); rintro e w17 ⟨rfl, hb⟩; replace BK101 := Zz.mk (bB_ (g := gb101) (o := .cells #[.slice A0_0 l0_0.length c0_0] 28 (0, 0)) (KB_ BK101.out) hb); replace HB := Zz.mk (bT_ (B1_ HB.out GE101.out) hb); (try clear hb); (try clear hb2); (try clear hk); (try clear hi)) | (go_at_call 13; (with_reducible refine (z13.calls k gb101 A0_0 c0_0 l0_0 a1 a2 _ _ l4 t105 _ ?side1 ?side2 ?side3 ?side4 ?side5 A14.out).mono ?_); (case side1 => refine BW_ ?_; exact BK101.out); (case side2 => exact KC_ (Kd.C_below HR0_0.out HB.out)); (case side3 => exact HC0_0.out); (case side4 => exact KC_ (Kd.C_below HR4.out HB.out)); (case side5 => exact HC4.out); rintro e w18 ⟨rfl, hb⟩; replace BK101 := Zz.mk (bB_ (g := gb101) (o := .cells #[.slice A0_0 l0_0.length c0_0] 28 (0, 0)) (KB_ BK101.out) hb); replace HB := Zz.mk (bT_ (B1_ HB.out GE101.out) hb); (try clear hb); (try clear hb2); (try clear hk); (try clear hi)))
     go_meet
     case rel => exact ⟨_, (!t105), E_, H', ⟨by first | omega | exact Nat.le_refl _⟩, ⟨KB_ BK101.out⟩, ⟨B1_ HB.out GE101.out⟩⟩
    replace c13 := Bool.eq_false_iff.mpr c13
    subst c13
    replace H := N_ H
    have H' := Zz.mk H
    clear H
    go_wp2_with (first | ((with_reducible refine gC_ (f := 12) rfl ?_); refine GL_ (some 16) rfl rfl Try.func12 #[.pointer (some ⟨gb101, 0, none⟩), .int .i64 a1, .int .i64 a2, .slice A3 l3.length c3] rfl (h := ?_); (with_reducible refine (z12.calls k gb101 A0_0 c0_0 l0_0 a1 a2 _ _ l3 t102 _ ?side1 ?side2 ?side3 ?side4 ?side5 A8.out).mono ?_); (case side1 => refine BW_ ?_; exact BK101.out); (case side2 => exact KC_ (Kd.C_below HR0_0.out HB.out)); (case side3 => exact HC0_0.out); (case side4 => exact KC_ (Kd.C_below HR3.out HB.out)); (case side5 => exact HC3.out); rintro e w19 ⟨rfl, hb⟩; refine ⟨_, rfl, ?_⟩; replace BK101 := Zz.mk (bB_ (g := gb101) (o := .cells #[.slice A0_0 l0_0.length c0_0] 28 (0, 0)) (KB_ BK101.out) hb); replace HB := Zz.mk (bT_ (B1_ HB.out GE101.out) hb); (try clear hb); (try clear hb2); (try clear hk); (try clear hi)) | (go_at_call 12; (with_reducible refine (z12.calls k gb101 A0_0 c0_0 l0_0 a1 a2 _ _ l4 t103 _ ?side1 ?side2 ?side3 ?side4 ?side5 A10.out).mono ?_); (case side1 => refine BW_ ?_; exact BK101.out); (case side2 => exact KC_ (Kd.C_below HR0_0.out HB.out)); (case side3 => exact HC0_0.out); (case side4 => exact KC_ (Kd.C_below HR4.out HB.out)); (case side5 => exact HC4.out); rintro e w20 ⟨rfl, hb⟩; replace BK101 := Zz.mk (bB_ (g := gb101) (o := .cells #[.slice A0_0 l0_0.length c0_0] 28 (0, 0)) (KB_ BK101.out) hb); replace HB := Zz.mk (bT_ (B1_ HB.out GE101.out) hb); (try clear hb); (try clear hb2); (try clear hk); (try clear hi)) | (go_at_call 13; (with_reducible refine (z13.calls k gb101 A0_0 c0_0 l0_0 a1 a2 _ _ l3 false _ ?side1 ?side2 ?side3 ?side4 ?side5 A12.out).mono ?_); (case side1 => refine BW_ ?_; exact BK101.out); (case side2 => exact KC_ (Kd.C_below HR0_0.out HB.out)); (case side3 => exact HC0_0.out); (case side4 => exact KC_ (Kd.C_below HR3.out HB.out)); (case side5 => exact HC3.out); rintro e w21 ⟨rfl, hb⟩; replace BK101 := Zz.mk (bB_ (g := gb101) (o := .cells #[.slice A0_0 l0_0.length c0_0] 28 (0, 0)) (KB_ BK101.out) hb); replace HB := Zz.mk (bT_ (B1_ HB.out GE101.out) hb); (try clear hb); (try clear hb2); (try clear hk); (try clear hi)))
    go_meet
    case rel => exact ⟨_, (true), E_, H', ⟨by first | omega | exact Nat.le_refl _⟩, ⟨KB_ BK101.out⟩, ⟨B1_ HB.out GE101.out⟩⟩
   rw [if_neg c11] at H
   have c11b0 : (t103 == 0) = false := beq_eq_false_iff_ne.mpr c11
   have c11b1 : (t103 != 0) = true := bne_iff_ne.mpr c11
   have H' := Zz.mk H
   clear H
   go_wp2_with (first | ((with_reducible refine gC_ (f := 12) rfl ?_); refine GL_ (some 16) rfl rfl Try.func12 #[.pointer (some ⟨gb101, 0, none⟩), .int .i64 a1, .int .i64 a2, .slice A3 l3.length c3] rfl (h := ?_); (with_reducible refine (z12.calls k gb101 A0_0 c0_0 l0_0 a1 a2 _ _ l3 t102 _ ?side1 ?side2 ?side3 ?side4 ?side5 A8.out).mono ?_); (case side1 => refine BW_ ?_; exact BK101.out); (case side2 => exact KC_ (Kd.C_below HR0_0.out HB.out)); (case side3 => exact HC0_0.out); (case side4 => exact KC_ (Kd.C_below HR3.out HB.out)); (case side5 => exact HC3.out); rintro e w22 ⟨rfl, hb⟩; refine ⟨_, rfl, ?_⟩; replace BK101 := Zz.mk (bB_ (g := gb101) (o := .cells #[.slice A0_0 l0_0.length c0_0] 28 (0, 0)) (KB_ BK101.out) hb); replace HB := Zz.mk (bT_ (B1_ HB.out GE101.out) hb); (try clear hb); (try clear hb2); (try clear hk); (try clear hi)) | (go_at_call 12; (with_reducible refine (z12.calls k gb101 A0_0 c0_0 l0_0 a1 a2 _ _ l4 t103 _ ?side1 ?side2 ?side3 ?side4 ?side5 A10.out).mono ?_); (case side1 => refine BW_ ?_; exact BK101.out); (case side2 => exact KC_ (Kd.C_below HR0_0.out HB.out)); (case side3 => exact HC0_0.out); (case side4 => exact KC_ (Kd.C_below HR4.out HB.out)); (case side5 => exact HC4.out); rintro e w23 ⟨rfl, hb⟩; replace BK101 := Zz.mk (bB_ (g := gb101) (o := .cells #[.slice A0_0 l0_0.length c0_0] 28 (0, 0)) (KB_ BK101.out) hb); replace HB := Zz.mk (bT_ (B1_ HB.out GE101.out) hb); (try clear hb); (try clear hb2); (try clear hk); (try clear hi)))
   go_meet
   case rel => exact ⟨_, (true), E_, H', ⟨by first | omega | exact Nat.le_refl _⟩, ⟨KB_ BK101.out⟩, ⟨B1_ HB.out GE101.out⟩⟩
  rw [if_neg c9] at H
  have c9b0 : (t102 == 0) = false := beq_eq_false_iff_ne.mpr c9
  have c9b1 : (t102 != 0) = true := bne_iff_ne.mpr c9
  (first | rw [c9b0] | (simp only [qA6, qBm]; rw [c9b0]) | skip)
  have H' := Zz.mk H
  clear H
  go_wp2_with (first | ((with_reducible refine gC_ (f := 12) rfl ?_); refine GL_ (some 16) rfl rfl Try.func12 #[.pointer (some ⟨gb101, 0, none⟩), .int .i64 a1, .int .i64 a2, .slice A3 l3.length c3] rfl (h := ?_); (with_reducible refine (z12.calls k gb101 A0_0 c0_0 l0_0 a1 a2 _ _ l3 t102 _ ?side1 ?side2 ?side3 ?side4 ?side5 A8.out).mono ?_); (case side1 => refine BW_ ?_; exact BK101.out); (case side2 => exact KC_ (Kd.C_below HR0_0.out HB.out)); (case side3 => exact HC0_0.out); (case side4 => exact KC_ (Kd.C_below HR3.out HB.out)); (case side5 => exact HC3.out); rintro e w24 ⟨rfl, hb⟩; refine ⟨_, rfl, ?_⟩; replace BK101 := Zz.mk (bB_ (g := gb101) (o := .cells #[.slice A0_0 l0_0.length c0_0] 28 (0, 0)) (KB_ BK101.out) hb); replace HB := Zz.mk (bT_ (B1_ HB.out GE101.out) hb); (try clear hb); (try clear hb2); (try clear hk); (try clear hi)))
  go_meet
  case rel => exact ⟨_, (true), E_, H', ⟨by first | omega | exact Nat.le_refl _⟩, ⟨KB_ BK101.out⟩, ⟨B1_ HB.out GE101.out⟩⟩
 case rest =>
  clear HC6
  (try clear c3);(try clear c4)
  obtain ⟨kq, x38_5, rfl, HA, HJ5, BK101, HB⟩ := hcut
  cases kq with
  | zero => exact absurd HA.out (by simp [z5.j0])
  | succ kj5 =>
   have H := HA.out
   clear HA
   simp only [z5.j0] at H
   by_cases c25 : x38_5 = true
   ·subst c25
    replace H := T_ H
    obtain rfl := OI_ H
    go_wp2
    go_ret
    exact ⟨F_, B1_ HB.out GE101.out⟩
   replace c25 := Bool.eq_false_iff.mpr c25
   subst c25
   replace H := N_ H
   replace H := OZ_ H
   obtain ⟨t106, A26, H⟩ := H
   replace H := OB_ H
   obtain ⟨⟨t109, t112⟩, A270, H⟩ := H
   try dsimp only at H
   have A27 := Zz.mk A270
   clear A270
   obtain rfl := OI_ H
   go_wp2_with (first | ((with_reducible refine gC_ (f := 15) rfl ?_); refine GL_ (some 45) rfl rfl Try.func15 #[.slice A3 l3.length c3, .slice A4 l4.length c4, .int .i64 a2] rfl (h := ?_); (with_reducible refine (z15.calls kj5 _ _ l3 _ _ l4 a2 t106 _ ?side1 ?side2 ?side3 ?side4 A26.out).mono ?_); (case side1 => exact KC_ (Kd.C_below HR3.out HB.out)); (case side2 => exact HC3.out); (case side3 => exact KC_ (Kd.C_below HR4.out HB.out)); (case side4 => exact HC4.out); rintro e w28 ⟨v107, rfl, ho0, hb⟩; refine ⟨_, rfl, ?_⟩; have HO108 := Zz.mk (Kd.R_lower ho0 (bS_ (B1_ HB.out GE101.out))); replace BK101 := Zz.mk (bB_ (g := gb101) (o := .cells #[.slice A0_0 l0_0.length c0_0] 28 (0, 0)) (KB_ BK101.out) hb); replace HB := Zz.mk (bT_ (B1_ HB.out GE101.out) hb); (try clear hb); (try clear hb2); (try clear hk); (try clear hi); (try clear ho0); obtain ⟨Ao29, co29, eo29⟩ := Kd.R_slice HO108.out; subst eo29) | ((with_reducible refine gC_ (f := 14) rfl ?_); refine GL_ (some 46) rfl rfl Try.func14 #[.pointer (some ⟨gb101, 0, none⟩), .int .i64 a1, .int .i64 a2, .slice Ao29 t106.length co29] rfl (h := ?_); (with_reducible refine (z14.calls kj5 gb101 A0_0 c0_0 l0_0 a1 a2 _ _ t106 t109 t112 _ ?side1 ?side2 ?side3 ?side4 ?side5 A27.out).mono ?_); (case side1 => refine BW_ ?_; exact BK101.out); (case side2 => exact KC_ (Kd.C_below HR0_0.out HB.out)); (case side3 => exact HC0_0.out); (case side4 => exact KC_ (Kd.R_reads' HO108.out).2.2); (case side5 => exact (Kd.R_reads' HO108.out).2.1); rintro e w30 ⟨v110, rfl, ho0, hb⟩; refine ⟨_, rfl, ?_⟩; have HO111 := Zz.mk (Kd.R_lower (Kd.R_new' ho0 (Kd.R_lt (KR_ HO108.out))) (bS_ (B1_ HB.out GE101.out))); replace HO108 := Zz.mk (Kd.R_elder' (KR_ HO108.out) (Kd.R_base ho0) hb); replace BK101 := Zz.mk (bB_ (g := gb101) (o := .cells #[.slice A0_0 l0_0.length c0_0] 28 (0, 0)) (KB_ BK101.out) hb); replace HB := Zz.mk (bT_ (B1_ HB.out GE101.out) hb); (try clear hb); (try clear hb2); (try clear hk); (try clear hi); (try clear ho0)))
   go_ret
   exact ⟨F_, B1_ HB.out GE101.out⟩
end Go.Proofs.Ytgdfkcipffjjcaa.B
