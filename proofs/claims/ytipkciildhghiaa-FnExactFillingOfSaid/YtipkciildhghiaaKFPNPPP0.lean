/- Printed proofs of functions of the program and of the reference, by a program of this work over the kit's printer. -/
import Derived.Test.YtipkciildhghiaaKFKEBDN0
import Derived.Test.YtipkciildhghiaaKHGNPLP0
import Derived.Test.YtipkciildhghiaaKLKNNEM0
import Derived.Test.YtipkciildhghiaaKW0
namespace Go.Proofs.Ytipkciildhghiaa.B
open Go.RowKit Go.Proofs.YtipkciildhghiaaW.PrintWords Go.Proofs.YtipkciildhghiaaW.PrintLast Go.Proofs.YtipkciildhghiaaW.PrintMore
attribute [local go_sem] qAi qAg qAl qAk qAe qAd qAh qAf
set_option linter.unusedVariables false
set_option linter.unusedSimpArgs false
def z105.f (k : Nat) (l0_0 : List (List Int)) (a1 : Int) (a2 : Int) (l3 : List Int) : Option (List Int × Bool) := (z95.f k l0_0 (wrap64 (a1 + 1)) a2).bind fun bt101 => ((z151.f k bt101.1 bt101.2.1 bt101.2.2.1 bt101.2.2.2 l3).bind fun bt108 => (some (bt108.1, bt108.2)))
set_option maxHeartbeats 8000000 in
set_option maxRecDepth 100000 in
theorem z105.calls (k : Nat) (gp0 : Nat) (A0_0 : Option Addr) (c0_0 : Nat) (l0_0 : List (List Int)) (a1 : Int) (a2 : Int) (A3 : Option Addr) (c3 : Nat) (l3 : List Int) (r1 : List Int) (r2 : Bool) (w : World) (hbp0 : w.heap[gp0]? = some (.cells #[.slice A0_0 l0_0.length c0_0] 29 (0, 0))) (hr0_0 : Kd.C (Kd.slice 2 (Kd.int .i64)) w A0_0 l0_0.length l0_0) (hc0_0 : l0_0.length ≤ c0_0) (hr3 : Kd.C (Kd.int .i64) w A3 l3.length l3) (hc3 : l3.length ≤ c3) (h : z105.f k l0_0 a1 a2 l3 = some (r1, r2)) :
  Calls Try.prog 105 #[.pointer (some ⟨gp0, 0, none⟩), .int .i64 a1, .int .i64 a2, .slice A3 l3.length c3] w fun e w' => ∃ v0_ : Value, e = .returned (.tuple #[v0_, .bool r2]) ∧ Kd.R (Kd.int .i64) 2 w' w.heap.size (fun _ => True) v0_ r1 ∧ Below w.heap.size w w' := by
 have hu48 := Try.underlying48
 have HR0_0 := Zz.mk hr0_0
 have HC0_0 := Zz.mk hc0_0
 clear hr0_0 hc0_0
 have HR3 := Zz.mk hr3
 have HC3 := Zz.mk hc3
 clear hr3 hc3
 have BK50 := Zz.mk hbp0
 clear hbp0
 have HB := Zz.mk (Below.refl w.heap.size w)
 have H : ((z95.f k l0_0 (wrap64 (a1 + 1)) a2).bind fun bt101 => ((z151.f k bt101.1 bt101.2.1 bt101.2.2.1 bt101.2.2.2 l3).bind fun bt108 => (some (bt108.1, bt108.2)))) = some (r1, r2) := h
 clear h
 replace H := OB_ H
 obtain ⟨⟨t101, t102, t103, t104⟩, A50, H⟩ := H
 replace H : ((z151.f k t101 t102 t103 t104 l3).bind fun bt108 => (some (bt108.1, bt108.2))) = some (r1, r2) := H
 have A5 := Zz.mk A50
 clear A50
 replace H := OB_ H
 obtain ⟨⟨t108, t111⟩, A60, H⟩ := H
 replace H : (some (t108, t111)) = some (r1, r2) := H
 have A6 := Zz.mk A60
 clear A60
 simp only [Option.some.injEq, Prod.mk.injEq] at H
 obtain ⟨rfl, rfl⟩ := H
 go_enter Try.func105, Try.ntmps105
 go_wp2_with (first | ((with_reducible refine gC_ (f := 95) rfl ?_); refine GL_ (some 15) rfl rfl Try.func95 #[.pointer (some ⟨gp0, 0, none⟩), .int .i64 (wrap64 (a1 + 1)), .int .i64 a2] rfl (h := ?_); (with_reducible refine (z95.calls k gp0 A0_0 c0_0 l0_0 (wrap64 (a1 + 1)) a2 t101 t102 t103 t104 _ ?side1 ?side2 ?side3 A5.out).mono ?_); (case side1 => refine BW_ ?_; exact BK50.out); (case side2 => exact KC_ HR0_0.out); (case side3 => exact HC0_0.out); rintro e w7 ⟨v105, rfl, ho0, hb⟩; refine ⟨_, rfl, ?_⟩; have HO106 := Zz.mk (Kd.R_lower ho0 (bS_ (B_ HB.out))); replace BK50 := Zz.mk (bB_ (g := gp0) (o := .cells #[.slice A0_0 l0_0.length c0_0] 29 (0, 0)) (KB_ BK50.out) hb); replace HB := Zz.mk (bT_ (B_ HB.out) hb); (try clear hb); (try clear hb2); (try clear hk); (try clear hi); (try clear ho0)) | ((with_reducible refine qAb (N := 10) rfl ?_); refine qAc ?hg (N := 10) ?hd (cs := #[.int .i64 0, .int .i64 0, .int .i64 0, .slice none 0 0]) (t := 48) ?hr ?_; (case hd => rfl); (case hg => rfl); (case hr => first | (go_simp; done) | (go_simp; rfl)); intro gb107 hg w8 hbox hb; have BK107 := Zz.mk (hbox); have GW107 := Zz.mk ((by rw [hg]; exact (bS_ (B_ HB.out)) : w.heap.size ≤ gb107)); have GE107 := GW107; have NB50_107 := Zz.mk ((by rw [hg]; exact Nat.ne_of_lt (qA2 (g := gp0) (o := .cells #[.slice A0_0 l0_0.length c0_0] 29 (0, 0)) (KB_ BK50.out)) : gp0 ≠ gb107)); have NB107_50 := Zz.mk NB50_107.out.symm; replace HO106 := Zz.mk (Kd.R_below (KR_ HO106.out) hb); replace BK50 := Zz.mk (bB_ (g := gp0) (o := .cells #[.slice A0_0 l0_0.length c0_0] 29 (0, 0)) (KB_ BK50.out) hb); replace HB := Zz.mk (bT_ (B_ HB.out) hb); clear hb hbox hg; have hnb9 := NB107_50.out; have hnc9 := NB50_107.out; obtain ⟨hcz10_0, hcz10_1, hcz10_2, hcz10_3, hfz10_0, hfz10_1, hfz10_2, hfz10_3⟩ := Z4f_ BK107.out; obtain ⟨Ao11, co11, eo11⟩ := Kd.R_slice HO106.out; subst eo11) | ((with_reducible refine gC_ (f := 151) rfl ?_); refine GL_ (some 17) rfl rfl Try.func151 #[.pointer (some ⟨gb107, 0, none⟩), .slice A3 l3.length c3] rfl (h := ?_); (with_reducible refine (z151.calls k gb107 t101 t102 t103 Ao11 co11 t104 _ _ l3 t108 t111 _ ?side1 ?side2 ?side3 ?side4 ?side5 A6.out).mono ?_); (case side1 => refine BW_ ?_; refine bP_ (cs := #[.int .i64 t101, .int .i64 t102, .int .i64 t103, .slice none 0 0]) ?_ 3 _ rfl; refine BW_ ?_; refine bP_ (cs := #[.int .i64 t101, .int .i64 t102, .int .i64 0, .slice none 0 0]) ?_ 2 _ rfl; refine BW_ ?_; refine bP_ (cs := #[.int .i64 t101, .int .i64 0, .int .i64 0, .slice none 0 0]) ?_ 1 _ rfl; refine BW_ ?_; refine bP_ (cs := #[.int .i64 0, .int .i64 0, .int .i64 0, .slice none 0 0]) ?_ 0 _ rfl; refine BW_ ?_; exact BK107.out); (case side2 => refine (Kd.R_reads' (e := 2) (base := w.heap.size) (ok := fun k_ => True) (n := t104.length) (c := co11) ?_).2.2; exact (by refine RW_ ?_; exact (Kd.R_mono (Kd.R_far (p := ⟨gb107, 3, none⟩) (Kd.R_far (p := ⟨gb107, 2, none⟩) (Kd.R_far (p := ⟨gb107, 1, none⟩) (Kd.R_far (p := ⟨gb107, 0, none⟩) (Kd.R_types HO106.out BK107.out (by decide)) (fun _ hk => hk.2) (.int .i64 t101)) (fun _ hk => hk.2) (.int .i64 t102)) (fun _ hk => hk.2) (.int .i64 t103)) (fun _ hk => hk.2) (.slice Ao11 t104.length co11)) (fun _ h_ => h_.1)))); (case side3 => exact (Kd.R_reads' HO106.out).2.1); (case side4 => exact Kd.C_below HR3.out (B1_ HB.out GE107.out)); (case side5 => exact HC3.out); rintro e w12 ⟨v109, rfl, ho0, hb⟩; refine ⟨_, rfl, ?_⟩; have HO110 := Zz.mk (Kd.R_lower (Kd.R_new' ho0 (Kd.R_lt (by refine RW_ ?_; exact (Kd.R_mono (Kd.R_far (p := ⟨gb107, 3, none⟩) (Kd.R_far (p := ⟨gb107, 2, none⟩) (Kd.R_far (p := ⟨gb107, 1, none⟩) (Kd.R_far (p := ⟨gb107, 0, none⟩) (Kd.R_types HO106.out BK107.out (by decide)) (fun _ hk => hk.2) (.int .i64 t101)) (fun _ hk => hk.2) (.int .i64 t102)) (fun _ hk => hk.2) (.int .i64 t103)) (fun _ hk => hk.2) (.slice Ao11 t104.length co11)) (fun _ h_ => h_.1))))) (bS_ (B1_ HB.out GE107.out))); replace HO106 := Zz.mk (Kd.R_elder' (by refine RW_ ?_; exact (Kd.R_mono (Kd.R_far (p := ⟨gb107, 3, none⟩) (Kd.R_far (p := ⟨gb107, 2, none⟩) (Kd.R_far (p := ⟨gb107, 1, none⟩) (Kd.R_far (p := ⟨gb107, 0, none⟩) (Kd.R_types HO106.out BK107.out (by decide)) (fun _ hk => hk.2) (.int .i64 t101)) (fun _ hk => hk.2) (.int .i64 t102)) (fun _ hk => hk.2) (.int .i64 t103)) (fun _ hk => hk.2) (.slice Ao11 t104.length co11)) (fun _ h_ => h_.1))) (Kd.R_base ho0) hb); replace BK50 := Zz.mk (bB_ (g := gp0) (o := .cells #[.slice A0_0 l0_0.length c0_0] 29 (0, 0)) (by refine BW_ ?_; refine bR_ ?_ NB50_107.out _; refine BW_ ?_; refine bR_ ?_ NB50_107.out _; refine BW_ ?_; refine bR_ ?_ NB50_107.out _; refine BW_ ?_; refine bR_ ?_ NB50_107.out _; refine BW_ ?_; exact BK50.out) hb); replace BK107 := Zz.mk (bB_ (g := gb107) (o := .cells #[.int .i64 t101, .int .i64 t102, .int .i64 t103, .slice Ao11 t104.length co11] 48 (0, 0)) (by refine BW_ ?_; refine bP_ (cs := #[.int .i64 t101, .int .i64 t102, .int .i64 t103, .slice none 0 0]) ?_ 3 _ rfl; refine BW_ ?_; refine bP_ (cs := #[.int .i64 t101, .int .i64 t102, .int .i64 0, .slice none 0 0]) ?_ 2 _ rfl; refine BW_ ?_; refine bP_ (cs := #[.int .i64 t101, .int .i64 0, .int .i64 0, .slice none 0 0]) ?_ 1 _ rfl; refine BW_ ?_; refine bP_ (cs := #[.int .i64 0, .int .i64 0, .int .i64 0, .slice none 0 0]) ?_ 0 _ rfl; refine BW_ ?_; exact BK107.out) hb); replace HB := Zz.mk (bT_ (B1_ HB.out GE107.out) hb); (try clear hb); (try clear hb2); (try clear hk); (try clear hi); (try clear ho0)))
 go_ret2
 exact ⟨_, F_, by refine RW_ ?_; exact Kd.R_mono HO110.out (fun _ hk => trivial), B1_ HB.out GE107.out⟩
end Go.Proofs.Ytipkciildhghiaa.B
