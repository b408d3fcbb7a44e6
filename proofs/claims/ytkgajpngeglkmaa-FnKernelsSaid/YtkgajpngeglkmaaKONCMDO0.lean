/- Printed proofs of functions of the program and of the reference, by a program of this work over the kit's printer. -/
import Derived.Test.YtkgajpngeglkmaaKLBBOAD0
import Derived.Test.YtkgajpngeglkmaaKMFOOHB0
import Derived.Test.YtkgajpngeglkmaaKOOCLJA0
import Derived.Test.YtkgajpngeglkmaaKW0
namespace Go.Proofs.Ytkgajpngeglkmaa.B
open Go.RowKit Go.Proofs.YtkgajpngeglkmaaW.PrintWords Go.Proofs.YtkgajpngeglkmaaW.PrintLast Go.Proofs.YtkgajpngeglkmaaW.PrintMore
attribute [local go_sem] qAr qAp qAv qAu qAm qAl qAq qAo
set_option linter.unusedVariables false
set_option linter.unusedSimpArgs false
def z30.f (k : Nat) (l0 : List Int) : Option (Int × Int × Int × List Int) := (z59.f l0).bind fun bt102 => ((z78.f k bt102.1 bt102.2.1 bt102.2.2).bind fun bt106 => (some (bt106.1, bt106.2.1, bt106.2.2.1, bt106.2.2.2.1)))
set_option maxHeartbeats 8000000 in
set_option maxRecDepth 100000 in
theorem z30.calls (k : Nat) (A0 : Option Addr) (c0 : Nat) (l0 : List Int) (r1 : Int) (r2 : Int) (r3 : Int) (r4 : List Int) (w : World) (hr0 : Kd.C (Kd.int .u8) w A0 l0.length l0) (hc0 : l0.length ≤ c0) (h : z30.f k l0 = some (r1, r2, r3, r4)) :
  Calls Try.prog 30 #[.slice A0 l0.length c0] w fun e w' => ∃ v3_ : Value, e = .returned (.agg #[.int .i64 r1, .int .i64 r2, .int .i64 r3, v3_]) ∧ Kd.R (Kd.int .i64) 2 w' w.heap.size (fun _ => True) v3_ r4 ∧ Below w.heap.size w w' := by
 have hu55 := Try.underlying55
 have HR0 := Zz.mk hr0
 have HC0 := Zz.mk hc0
 clear hr0 hc0
 have HB := Zz.mk (Below.refl w.heap.size w)
 have H : ((z59.f l0).bind fun bt102 => ((z78.f k bt102.1 bt102.2.1 bt102.2.2).bind fun bt106 => (some (bt106.1, bt106.2.1, bt106.2.2.1, bt106.2.2.2.1)))) = some (r1, r2, r3, r4) := h
 clear h
 replace H := OB_ H
 obtain ⟨⟨t102, t103, t104⟩, A20, H⟩ := H
 replace H : ((z78.f k t102 t103 t104).bind fun bt106 => (some (bt106.1, bt106.2.1, bt106.2.2.1, bt106.2.2.2.1))) = some (r1, r2, r3, r4) := H
 have A2 := Zz.mk A20
 clear A20
 replace H := OB_ H
 obtain ⟨⟨t106, t107, t108, t109, t112, t113⟩, A30, H⟩ := H
 replace H : (some (t106, t107, t108, t109)) = some (r1, r2, r3, r4) := H
 have A3 := Zz.mk A30
 clear A30
 simp only [Option.some.injEq, Prod.mk.injEq] at H
 obtain ⟨rfl, rfl, rfl, rfl⟩ := H
 go_enter Try.func30, Try.ntmps30
 go_wp2_with (first | ((with_reducible refine qAn (N := 2) rfl ?_); refine bx_ 2 #[.int .i64 0, .int .i64 0, .int .i64 0, .slice none 0 0] 55 ?_; intro gb101 hg w4 hbox hb; have BK101 := Zz.mk (hbox); have GW101 := Zz.mk ((gw_ hg (B_ HB.out))); have GE101 := GW101; replace HB := Zz.mk (bT_ (B_ HB.out) hb); clear hb hbox hg) | ((with_reducible refine gC_ (f := 59) rfl ?_); refine GL_ (some 5) rfl rfl Try.func59 #[.slice A0 l0.length c0] rfl (h := ?_); (with_reducible refine (z59.calls _ _ l0 t102 t103 t104 w _ ?side1 ?side2 ?side3 A2.out).mono ?_); (case side1 => repeat (first | (with_reducible first | exact HB.out | apply qAi | apply qAd | apply qAe | refine qAb ?_ GE101.out) | exact HB.out)); (case side2 => exact HR0.out); (case side3 => exact HC0.out); rintro e w5 ⟨g105, rfl, hi, hb, hb2⟩; refine ⟨_, rfl, ?_⟩; have HI105 := Zz.mk (hi); have NB105_101 := Zz.mk (qAa.ne_blk hi (bB_ (g := gb101) (o := .cells #[.int .i64 0, .int .i64 0, .int .i64 0, .slice none 0 0] 55 (0, 0)) (KB_ BK101.out) hb2) (by decide)); have NB101_105 := Zz.mk (Ne.symm (qAa.ne_blk hi (bB_ (g := gb101) (o := .cells #[.int .i64 0, .int .i64 0, .int .i64 0, .slice none 0 0] 55 (0, 0)) (KB_ BK101.out) hb2) (by decide))); replace BK101 := Zz.mk (bB_ (g := gb101) (o := .cells #[.int .i64 0, .int .i64 0, .int .i64 0, .slice none 0 0] 55 (0, 0)) (KB_ BK101.out) hb2); replace HB := Zz.mk (hb); (try clear hb); (try clear hb2); (try clear hi)) | ((with_reducible refine gC_ (f := 78) rfl ?_); refine GL_ (some 7) rfl rfl Try.func78 #[.pointer (some ⟨g105, 0, none⟩)] rfl (h := ?_); (with_reducible refine (z78.calls k g105 t102 t103 t104 t106 t107 t108 t109 t112 t113 w _ ?side1 ?side2 A3.out).mono ?_); (case side1 => repeat (first | (with_reducible first | exact HI105.out | apply qAa.alloc | apply qAa.drewN | apply qAa.drew | apply qAa.set_1 | apply qAa.set_2 | refine qAa.far ?_ NB105_101.out _) | exact HI105.out)); (case side2 => repeat (first | (with_reducible first | exact HB.out | apply qAi | apply qAd | apply qAe | refine qAb ?_ (qAa.ge HI105.out) | refine qAb ?_ GE101.out) | exact HB.out)); rintro e w6 ⟨v110, rfl, ho0, hi, hb, hk⟩; refine ⟨_, rfl, ?_⟩; replace BK101 := Zz.mk (qAc.blk hk (g' := gb101) (o := .cells #[.int .i64 0, .int .i64 0, .int .i64 0, .slice none 0 0] 55 (0, 0)) (KB_ BK101.out) NB101_105.out (by simp)); have HO111 := Zz.mk (Kd.R_lower ho0 (bS_ (by repeat (first | (with_reducible first | exact HB.out | apply qAi | apply qAd | apply qAe | refine qAb ?_ (qAa.ge HI105.out) | refine qAb ?_ GE101.out) | exact HB.out)))); replace HB := Zz.mk (hb); replace HI105 := Zz.mk (hi); (try clear hb); (try clear hi); have hnb7 := NB101_105.out; have hnc7 := NB105_101.out; obtain ⟨hcz8_0, hcz8_1, hcz8_2, hcz8_3, hfz8_0, hfz8_1, hfz8_2, hfz8_3⟩ := Z4f_ BK101.out; obtain ⟨Ao9, co9, eo9⟩ := Kd.R_slice HO111.out; subst eo9))
 refine bodyPost_ret (results_cell_row rfl _ _ gb101 55 #[.int .i64 t106, .int .i64 t107, .int .i64 t108, .slice Ao9 t109.length co9] (0, 0) _ rfl (by refine BW_ ?_; refine bP_ (cs := #[.int .i64 t106, .int .i64 t107, .int .i64 t108, .slice none 0 0]) ?_ 3 _ rfl; refine BW_ ?_; refine bP_ (cs := #[.int .i64 t106, .int .i64 t107, .int .i64 0, .slice none 0 0]) ?_ 2 _ rfl; refine BW_ ?_; refine bP_ (cs := #[.int .i64 t106, .int .i64 0, .int .i64 0, .slice none 0 0]) ?_ 1 _ rfl; refine BW_ ?_; refine bP_ (cs := #[.int .i64 0, .int .i64 0, .int .i64 0, .slice none 0 0]) ?_ 0 _ rfl; refine BW_ ?_; exact BK101.out) Try.underlying55 rfl (by kernel_rfl)) rfl ?_
 exact ⟨_, F_, by refine RW_ ?_; exact Kd.R_mono (Kd.R_far (p := ⟨gb101, 3, none⟩) (Kd.R_far (p := ⟨gb101, 2, none⟩) (Kd.R_far (p := ⟨gb101, 1, none⟩) (Kd.R_far (p := ⟨gb101, 0, none⟩) (Kd.R_types HO111.out BK101.out (by decide)) (fun _ hk => hk.2) (.int .i64 t106)) (fun _ hk => hk.2) (.int .i64 t107)) (fun _ hk => hk.2) (.int .i64 t108)) (fun _ hk => hk.2) (.slice Ao9 t109.length co9)) (fun _ hk => trivial), by repeat (first | (with_reducible first | exact HB.out | apply qAi | apply qAd | apply qAe | refine qAb ?_ (qAa.ge HI105.out) | refine qAb ?_ GE101.out) | exact HB.out)⟩
end Go.Proofs.Ytkgajpngeglkmaa.B
