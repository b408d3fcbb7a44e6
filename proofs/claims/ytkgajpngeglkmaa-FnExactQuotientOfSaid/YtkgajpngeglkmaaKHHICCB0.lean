/- Printed proofs of functions of the program and of the reference, by a program of this work over the kit's printer. -/
import Derived.Test.YtkgajpngeglkmaaKLBBOAD0
import Derived.Test.YtkgajpngeglkmaaKPIHLJJ0
import Derived.Test.YtkgajpngeglkmaaKW0
namespace Go.Proofs.Ytkgajpngeglkmaa.B
open Go.RowKit Go.Proofs.YtkgajpngeglkmaaW.PrintWords Go.Proofs.YtkgajpngeglkmaaW.PrintLast Go.Proofs.YtkgajpngeglkmaaW.PrintMore
attribute [local go_sem] qAh qAf qAn qAm qAc qAb qAg qAe
set_option linter.unusedVariables false
set_option linter.unusedSimpArgs false
def z87.l0 : Nat → Int → List Int → List (List Int) → Int → Int → Int → Int → List Int → Option ((List (List Int)))
 | 0, _, _, _, _, _, _, _, _ => none
 | k + 1, x1, x9, x11, x12, x119000, x119001, x119002, x119003 => if x12 < (x9.length : Int) then (if 0 ≤ (wrap64 (x12 * x1)) then (if (wrap64 (x12 * x1)) ≤ (wrap64 ((wrap64 (x12 + 1)) * x1)) then (if (wrap64 ((wrap64 (x12 + 1)) * x1)) ≤ (x119003.length : Int) then ((z88.f ((x119003.take ((wrap64 ((wrap64 (x12 + 1)) * x1)) : Int).toNat).drop ((wrap64 (x12 * x1)) : Int).toNat)).bind fun t126 => (if x11.length < 5864062014805 then (z87.l0 k x1 x9 (x11 ++ [t126]) (wrap64 (x12 + 1)) x119000 x119001 x119002 x119003) else (none))) else (none)) else (none)) else (none)) else (some x11)
def z87.f (k : Nat) (a0 : Int) (a1 : Int) (l2 : List (List Int)) : Option ((List (List Int))) := (z120.f k a0 a1 l2).bind fun bt101 => ((z119.f k bt101.1 bt101.2.1 bt101.2.2.1 bt101.2.2.2).bind fun bt108 => (z87.l0 k a1 bt108.2.2.2.2.1 (([] : List (List Int))) 0 bt108.1 bt108.2.1 bt108.2.2.1 bt108.2.2.2.1))
set_option maxHeartbeats 8000000 in
set_option maxRecDepth 100000 in
theorem z87.calls (k : Nat) (a0 : Int) (a1 : Int) (A2 : Option Addr) (c2 : Nat) (l2 : List (List Int)) (r : List (List Int)) (w : World) (hr2 : Kd.C (Kd.slice 2 (Kd.int .i64)) w A2 l2.length l2) (hc2 : l2.length ≤ c2) (h : z87.f k a0 a1 l2 = some r) :
  Calls Try.prog 87 #[.int .i64 a0, .int .i64 a1, .slice A2 l2.length c2] w fun e w' => ∃ v0_ : Value, e = .returned (v0_) ∧ Kd.S (Kd.slice 2 (Kd.int .i64)) 40 w' w.heap.size (fun _ => True) v0_ r ∧ Below w.heap.size w w' := by
 have hu55 := Try.underlying55
 have HR2 := Zz.mk hr2
 have HC2 := Zz.mk hc2
 clear hr2 hc2
 have HB := Zz.mk (Below.refl w.heap.size w)
 have H : ((z120.f k a0 a1 l2).bind fun bt101 => ((z119.f k bt101.1 bt101.2.1 bt101.2.2.1 bt101.2.2.2).bind fun bt108 => (z87.l0 k a1 bt108.2.2.2.2.1 (([] : List (List Int))) 0 bt108.1 bt108.2.1 bt108.2.2.1 bt108.2.2.2.1))) = some r := h
 clear h
 replace H := OB_ H
 obtain ⟨⟨t101, t102, t103, t104⟩, A40, H⟩ := H
 try dsimp only at H
 have A4 := Zz.mk A40
 clear A40
 replace H := OB_ H
 obtain ⟨⟨t108, t109, t110, t111, t114, t117⟩, A50, H⟩ := H
 try dsimp only at H
 have A5 := Zz.mk A50
 clear A50
 obtain ⟨y119, hy119⟩ : ∃ y_ : List (List Int), y_ = (([] : List (List Int))) := ⟨_, rfl⟩
 replace H : (z87.l0 k a1 t114 y119 0 t108 t109 t110 t111) = some r := Y_ hy119 H
 have Ny119 := Zz.mk hy119
 clear hy119
 have H' := Zz.mk H
 clear H
 go_enter Try.func87, Try.ntmps87
 go_wp2_with (first | ((with_reducible refine gC_ (f := 120) rfl ?_); refine GL_ (some 16) rfl rfl Try.func120 #[.int .i64 a0, .int .i64 a1, .slice A2 l2.length c2] rfl (h := ?_); (with_reducible refine (z120.calls k a0 a1 _ _ l2 t101 t102 t103 t104 _ ?side1 ?side2 A4.out).mono ?_); (case side1 => exact KC_ HR2.out); (case side2 => exact HC2.out); rintro e w6 ⟨v105, rfl, ho0, hb⟩; refine ⟨_, rfl, ?_⟩; have HO106 := Zz.mk (Kd.R_lower ho0 (bS_ (B_ HB.out))); replace HB := Zz.mk (bT_ (B_ HB.out) hb); (try clear hb); (try clear ho0)) | ((with_reducible refine qAi (N := 7) rfl ?_); refine bx_ 7 #[.int .i64 0, .int .i64 0, .int .i64 0, .slice none 0 0] 55 ?_; intro gb107 hg w7 hbox hb; have BK107 := Zz.mk (hbox); have GW107 := Zz.mk ((gw_ hg (B_ HB.out))); have GE107 := GW107; replace HO106 := Zz.mk (Kd.R_below (KR_ HO106.out) hb); replace HB := Zz.mk (bT_ (B_ HB.out) hb); clear hb hbox hg; obtain ⟨hcz8_0, hcz8_1, hcz8_2, hcz8_3, hfz8_0, hfz8_1, hfz8_2, hfz8_3⟩ := Z4f_ BK107.out; obtain ⟨Ao9, co9, eo9⟩ := Kd.R_slice HO106.out; subst eo9) | ((with_reducible refine gC_ (f := 119) rfl ?_); refine GL_ (some 18) rfl rfl Try.func119 #[.pointer (some ⟨gb107, 0, none⟩)] rfl (h := ?_); (with_reducible refine (z119.calls k gb107 t101 t102 t103 Ao9 co9 t104 t108 t109 t110 t111 t114 t117 _ ?side1 ?side2 ?side3 A5.out).mono ?_); (case side1 => refine BW_ ?_; refine bP_ (cs := #[.int .i64 t101, .int .i64 t102, .int .i64 t103, .slice none 0 0]) ?_ 3 _ rfl; refine BW_ ?_; refine bP_ (cs := #[.int .i64 t101, .int .i64 t102, .int .i64 0, .slice none 0 0]) ?_ 2 _ rfl; refine BW_ ?_; refine bP_ (cs := #[.int .i64 t101, .int .i64 0, .int .i64 0, .slice none 0 0]) ?_ 1 _ rfl; refine BW_ ?_; refine bP_ (cs := #[.int .i64 0, .int .i64 0, .int .i64 0, .slice none 0 0]) ?_ 0 _ rfl; refine BW_ ?_; exact BK107.out); (case side2 => refine (Kd.R_reads' (e := 2) (base := w.heap.size) (ok := fun k_ => True) (n := t104.length) (c := co9) ?_).2.2; exact (by refine RW_ ?_; exact (Kd.R_mono (Kd.R_far (p := ⟨gb107, 3, none⟩) (Kd.R_far (p := ⟨gb107, 2, none⟩) (Kd.R_far (p := ⟨gb107, 1, none⟩) (Kd.R_far (p := ⟨gb107, 0, none⟩) (Kd.R_types HO106.out BK107.out (by decide)) (fun _ hk => hk.2) (.int .i64 t101)) (fun _ hk => hk.2) (.int .i64 t102)) (fun _ hk => hk.2) (.int .i64 t103)) (fun _ hk => hk.2) (.slice Ao9 t104.length co9)) (fun _ h_ => h_.1)))); (case side3 => exact (Kd.R_reads' HO106.out).2.1); rintro e w10 ⟨v112, v115, rfl, ho0, ho1, hb⟩; refine ⟨_, rfl, ?_⟩; have HO113 := Zz.mk (Kd.R_lower (Kd.R_new' ho0 (Kd.R_lt (by refine RW_ ?_; exact (Kd.R_mono (Kd.R_far (p := ⟨gb107, 3, none⟩) (Kd.R_far (p := ⟨gb107, 2, none⟩) (Kd.R_far (p := ⟨gb107, 1, none⟩) (Kd.R_far (p := ⟨gb107, 0, none⟩) (Kd.R_types HO106.out BK107.out (by decide)) (fun _ hk => hk.2) (.int .i64 t101)) (fun _ hk => hk.2) (.int .i64 t102)) (fun _ hk => hk.2) (.int .i64 t103)) (fun _ hk => hk.2) (.slice Ao9 t104.length co9)) (fun _ h_ => h_.1))))) (bS_ (B1_ HB.out GE107.out))); have HO116 := Zz.mk (Kd.R_lower (Kd.R_new' ho1 (Kd.R_lt (by refine RW_ ?_; exact (Kd.R_mono (Kd.R_far (p := ⟨gb107, 3, none⟩) (Kd.R_far (p := ⟨gb107, 2, none⟩) (Kd.R_far (p := ⟨gb107, 1, none⟩) (Kd.R_far (p := ⟨gb107, 0, none⟩) (Kd.R_types HO106.out BK107.out (by decide)) (fun _ hk => hk.2) (.int .i64 t101)) (fun _ hk => hk.2) (.int .i64 t102)) (fun _ hk => hk.2) (.int .i64 t103)) (fun _ hk => hk.2) (.slice Ao9 t104.length co9)) (fun _ h_ => h_.1))))) (bS_ (B1_ HB.out GE107.out))); replace HO106 := Zz.mk (Kd.R_mono (Kd.R_told (Kd.R_told (Kd.R_old (by refine RW_ ?_; exact (Kd.R_mono (Kd.R_far (p := ⟨gb107, 3, none⟩) (Kd.R_far (p := ⟨gb107, 2, none⟩) (Kd.R_far (p := ⟨gb107, 1, none⟩) (Kd.R_far (p := ⟨gb107, 0, none⟩) (Kd.R_types HO106.out BK107.out (by decide)) (fun _ hk => hk.2) (.int .i64 t101)) (fun _ hk => hk.2) (.int .i64 t102)) (fun _ hk => hk.2) (.int .i64 t103)) (fun _ hk => hk.2) (.slice Ao9 t104.length co9)) (fun _ h_ => h_.1))) hb) (Kd.R_base ho0)) (Kd.R_base ho1)) (fun _ h_ => h_.1)); replace BK107 := Zz.mk (bB_ (g := gb107) (o := .cells #[.int .i64 t101, .int .i64 t102, .int .i64 t103, .slice Ao9 t104.length co9] 55 (0, 0)) (by refine BW_ ?_; refine bP_ (cs := #[.int .i64 t101, .int .i64 t102, .int .i64 t103, .slice none 0 0]) ?_ 3 _ rfl; refine BW_ ?_; refine bP_ (cs := #[.int .i64 t101, .int .i64 t102, .int .i64 0, .slice none 0 0]) ?_ 2 _ rfl; refine BW_ ?_; refine bP_ (cs := #[.int .i64 t101, .int .i64 0, .int .i64 0, .slice none 0 0]) ?_ 1 _ rfl; refine BW_ ?_; refine bP_ (cs := #[.int .i64 0, .int .i64 0, .int .i64 0, .slice none 0 0]) ?_ 0 _ rfl; refine BW_ ?_; exact BK107.out) hb); replace HB := Zz.mk (bT_ (B1_ HB.out GE107.out) hb); (try clear hb); (try clear ho0); (try clear ho1)) | ((with_reducible refine qAi (N := 8) rfl ?_); refine bx_ 8 #[.int .i64 0, .int .i64 0, .int .i64 0, .slice none 0 0] 55 ?_; intro gb118 hg w11 hbox hb; have BK118 := Zz.mk (hbox); have GW118 := Zz.mk ((gw_ hg (B1_ HB.out GE107.out))); have GE118 := GW118; have NB107_118 := Zz.mk ((nb_ BK107.out hg)); have NB118_107 := Zz.mk NB107_118.out.symm; replace HO106 := Zz.mk (Kd.R_below (KR_ HO106.out) hb); replace HO113 := Zz.mk (Kd.R_below (KR_ HO113.out) hb); replace HO116 := Zz.mk (Kd.R_below (KR_ HO116.out) hb); replace BK107 := Zz.mk (kb_ BK107.out hb); replace HB := Zz.mk (bT_ (B1_ HB.out GE107.out) hb); clear hb hbox hg; have hnb12 := NB118_107.out; have hnc12 := NB107_118.out; obtain ⟨hcz13_0, hcz13_1, hcz13_2, hcz13_3, hfz13_0, hfz13_1, hfz13_2, hfz13_3⟩ := Z4f_ BK118.out; obtain ⟨Ao14, co14, eo14⟩ := Kd.R_slice HO113.out; subst eo14) | ((with_reducible refine qAi (N := 22) rfl ?_); refine Kd.S_lit (Kd.slice 2 (Kd.int .i64)) _ 40 ?hg (N := 22) ?hd (xs := ([] : List (List Int))) (inner := []) (ok := fun _ => True) (okp := fun _ => True) ?hr ?hp (fun _ hk => hk) trivial (Below.refl _ _) (Nat.le_refl _) (by simp) ?_; (case hd => rfl); (case hg => rfl); (case hr => first | (go_simp; done) | (go_simp; rfl)); (case hp => exact (Reps.none _ _)); intro v120 w15 ho16 hb hg_ hnew_; clear hg_ hnew_; (first | rw [← Ny119.out] at ho16 | (simp only [Int.reduceToNat] at ho16; rw [← Ny119.out] at ho16)); have HO121 := Zz.mk (Kd.S_lower (Kd.S_new' (Kd.S_new' (Kd.S_new' ho16 (Kd.R_lt (by refine RW_ ?_; exact (Kd.R_mono (Kd.R_far (p := ⟨gb118, 3, none⟩) (Kd.R_far (p := ⟨gb118, 2, none⟩) (Kd.R_far (p := ⟨gb118, 1, none⟩) (Kd.R_far (p := ⟨gb118, 0, none⟩) (Kd.R_types HO106.out BK118.out (by decide)) (fun _ hk => hk.2) (.int .i64 t108)) (fun _ hk => hk.2) (.int .i64 t109)) (fun _ hk => hk.2) (.int .i64 t110)) (fun _ hk => hk.2) (.slice Ao14 t111.length co14)) (fun _ h_ => h_.1))))) (Kd.R_lt (by refine RW_ ?_; exact (Kd.R_mono (Kd.R_far (p := ⟨gb118, 3, none⟩) (Kd.R_far (p := ⟨gb118, 2, none⟩) (Kd.R_far (p := ⟨gb118, 1, none⟩) (Kd.R_far (p := ⟨gb118, 0, none⟩) (Kd.R_types HO113.out BK118.out (by decide)) (fun _ hk => hk.2) (.int .i64 t108)) (fun _ hk => hk.2) (.int .i64 t109)) (fun _ hk => hk.2) (.int .i64 t110)) (fun _ hk => hk.2) (.slice Ao14 t111.length co14)) (fun _ h_ => h_.1))))) (Kd.R_lt (by refine RW_ ?_; exact (Kd.R_mono (Kd.R_far (p := ⟨gb118, 3, none⟩) (Kd.R_far (p := ⟨gb118, 2, none⟩) (Kd.R_far (p := ⟨gb118, 1, none⟩) (Kd.R_far (p := ⟨gb118, 0, none⟩) (Kd.R_types HO116.out BK118.out (by decide)) (fun _ hk => hk.2) (.int .i64 t108)) (fun _ hk => hk.2) (.int .i64 t109)) (fun _ hk => hk.2) (.int .i64 t110)) (fun _ hk => hk.2) (.slice Ao14 t111.length co14)) (fun _ h_ => h_.1))))) (bS_ (B2_ HB.out GE107.out GE118.out))); replace HO106 := Zz.mk (Kd.R_below (by refine RW_ ?_; exact (Kd.R_mono (Kd.R_far (p := ⟨gb118, 3, none⟩) (Kd.R_far (p := ⟨gb118, 2, none⟩) (Kd.R_far (p := ⟨gb118, 1, none⟩) (Kd.R_far (p := ⟨gb118, 0, none⟩) (Kd.R_types HO106.out BK118.out (by decide)) (fun _ hk => hk.2) (.int .i64 t108)) (fun _ hk => hk.2) (.int .i64 t109)) (fun _ hk => hk.2) (.int .i64 t110)) (fun _ hk => hk.2) (.slice Ao14 t111.length co14)) (fun _ h_ => h_.1))) hb); replace HO113 := Zz.mk (Kd.R_below (by refine RW_ ?_; exact (Kd.R_mono (Kd.R_far (p := ⟨gb118, 3, none⟩) (Kd.R_far (p := ⟨gb118, 2, none⟩) (Kd.R_far (p := ⟨gb118, 1, none⟩) (Kd.R_far (p := ⟨gb118, 0, none⟩) (Kd.R_types HO113.out BK118.out (by decide)) (fun _ hk => hk.2) (.int .i64 t108)) (fun _ hk => hk.2) (.int .i64 t109)) (fun _ hk => hk.2) (.int .i64 t110)) (fun _ hk => hk.2) (.slice Ao14 t111.length co14)) (fun _ h_ => h_.1))) hb); replace HO116 := Zz.mk (Kd.R_below (by refine RW_ ?_; exact (Kd.R_mono (Kd.R_far (p := ⟨gb118, 3, none⟩) (Kd.R_far (p := ⟨gb118, 2, none⟩) (Kd.R_far (p := ⟨gb118, 1, none⟩) (Kd.R_far (p := ⟨gb118, 0, none⟩) (Kd.R_types HO116.out BK118.out (by decide)) (fun _ hk => hk.2) (.int .i64 t108)) (fun _ hk => hk.2) (.int .i64 t109)) (fun _ hk => hk.2) (.int .i64 t110)) (fun _ hk => hk.2) (.slice Ao14 t111.length co14)) (fun _ h_ => h_.1))) hb); replace BK107 := Zz.mk (bB_ (g := gb107) (o := .cells #[.int .i64 t101, .int .i64 t102, .int .i64 t103, .slice Ao9 t104.length co9] 55 (0, 0)) (by refine BW_ ?_; refine bR_ ?_ NB107_118.out _; refine BW_ ?_; refine bR_ ?_ NB107_118.out _; refine BW_ ?_; refine bR_ ?_ NB107_118.out _; refine BW_ ?_; refine bR_ ?_ NB107_118.out _; refine BW_ ?_; exact BK107.out) hb); replace BK118 := Zz.mk (bB_ (g := gb118) (o := .cells #[.int .i64 t108, .int .i64 t109, .int .i64 t110, .slice Ao14 t111.length co14] 55 (0, 0)) (by refine BW_ ?_; refine bP_ (cs := #[.int .i64 t108, .int .i64 t109, .int .i64 t110, .slice none 0 0]) ?_ 3 _ rfl; refine BW_ ?_; refine bP_ (cs := #[.int .i64 t108, .int .i64 t109, .int .i64 0, .slice none 0 0]) ?_ 2 _ rfl; refine BW_ ?_; refine bP_ (cs := #[.int .i64 t108, .int .i64 0, .int .i64 0, .slice none 0 0]) ?_ 1 _ rfl; refine BW_ ?_; refine bP_ (cs := #[.int .i64 0, .int .i64 0, .int .i64 0, .slice none 0 0]) ?_ 0 _ rfl; refine BW_ ?_; exact BK118.out) hb); replace HB := Zz.mk (bT_ (B2_ HB.out GE107.out GE118.out) hb); clear hb ho16))
 go_loopg [11, 12] k (fun kq v11 v12 w' => ∃ (x11_1 : List (List Int)) (x12_1 : Int), v12 = .int .i64 x12_1 ∧ Zz (z87.l0 kq a1 t114 x11_1 x12_1 t108 t109 t110 t111 = some r) ∧ Zz (kq ≤ k) ∧ Zz (Kd.R (Kd.int .i64) 2 w' w.heap.size (fun k_ => some k_ ≠ ((.slice Ao9 t104.length co9) : Value).ownBlock ∧ some k_ ≠ ((.slice Ao14 t111.length co14) : Value).ownBlock) v115 t114) ∧ Zz (Kd.S (Kd.slice 2 (Kd.int .i64)) 40 w' w.heap.size (fun k_ => some k_ ≠ (v115 : Value).ownBlock ∧ some k_ ≠ ((.slice Ao9 t104.length co9) : Value).ownBlock ∧ some k_ ≠ ((.slice Ao14 t111.length co14) : Value).ownBlock) v11 x11_1) ∧ Zz (Kd.R (Kd.int .i64) 2 w' w.heap.size (fun k_ => some k_ ≠ (v115 : Value).ownBlock ∧ some k_ ≠ ((.slice Ao14 t111.length co14) : Value).ownBlock) (.slice Ao9 t104.length co9) t104) ∧ Zz (Kd.R (Kd.int .i64) 2 w' w.heap.size (fun k_ => some k_ ≠ (v115 : Value).ownBlock ∧ some k_ ≠ ((.slice Ao9 t104.length co9) : Value).ownBlock) (.slice Ao14 t111.length co14) t111) ∧ Zz (w'.heap[gb107]? = some (.cells #[.int .i64 t101, .int .i64 t102, .int .i64 t103, (.slice Ao9 t104.length co9)] 55 (0, 0))) ∧ Zz (w'.heap[gb118]? = some (.cells #[.int .i64 t108, .int .i64 t109, .int .i64 t110, (.slice Ao14 t111.length co14)] 55 (0, 0))) ∧ Zz (Below w.heap.size w w'))
 case atStart => exact ⟨(y119), (0), E_, H', ⟨Nat.le_refl _⟩, ⟨by refine RW_ ?_; exact Kd.R_mono HO116.out (fun _ hk => ⟨hk.2, hk.1⟩)⟩, ⟨by refine SW_ ?_; exact Kd.S_mono HO121.out (fun _ hk => ⟨hk.2, ⟨hk.1.1.2, hk.1.2⟩⟩)⟩, ⟨by refine RW_ ?_; exact Kd.R_mono HO106.out (fun _ hk => ⟨hk.2, hk.1.2⟩)⟩, ⟨KR_ HO113.out⟩, ⟨KB_ BK107.out⟩, ⟨KB_ BK118.out⟩, ⟨B2_ HB.out GE107.out GE118.out⟩⟩
 case round =>
  clear H'
  (try clear c2);(try clear hcz13_0);(try clear hcz13_1);(try clear hcz13_2);(try clear hcz13_3);(try clear hcz8_0);(try clear hcz8_1);(try clear hcz8_2);(try clear hcz8_3);(try clear hfz13_0);(try clear hfz13_1);(try clear hfz13_2);(try clear hfz13_3);(try clear hfz8_0);(try clear hfz8_1);(try clear hfz8_2);(try clear hfz8_3)
  obtain ⟨x11_1, x12_1, rfl, HA, HK1, HO_9, HO_11, HO_108003, HO_119003, BK107, BK118, HB⟩ := hrel
  cases gk with
  | zero => exact absurd HA.out (by simp [z87.l0])
  | succ k1 =>
   have H := HA.out
   clear HA
   simp only [z87.l0] at H
   by_cases c17 : x12_1 < (t114.length : Int)
   ·rw [if_pos c17] at H
    have c17b0 : decide (x12_1 < (t114.length : Int)) = true := decide_eq_true c17
    clear c17
    obtain ⟨ji18, hji18⟩ : ∃ j_ : Int, (wrap64 (x12_1 * a1)) = j_ := ⟨_, rfl⟩
    replace H : (if 0 ≤ (ji18) then (if (ji18) ≤ (wrap64 ((wrap64 (x12_1 + 1)) * a1)) then (if (wrap64 ((wrap64 (x12_1 + 1)) * a1)) ≤ (t111.length : Int) then ((z88.f ((t111.take ((wrap64 ((wrap64 (x12_1 + 1)) * a1)) : Int).toNat).drop ((ji18) : Int).toNat)).bind fun t126 => (if x11_1.length < 5864062014805 then (z87.l0 k1 a1 t114 (x11_1 ++ [t126]) (wrap64 (x12_1 + 1)) t108 t109 t110 t111) else (none))) else (none)) else (none)) else (none)) = some r := by first | (rw [hji18] at H; exact H) | (simp only [hji18] at H ⊢; exact H)
    have hji18w : (IntKind.i64.wrap (x12_1 * a1)) = ji18 := (qBj _).trans hji18
    have c19 := O1_ H
    replace H := O2_ H
    have c19b0 := eq_true c19
    have c19b1 : decide (0 ≤ (ji18)) = true := decide_eq_true c19
    clear c19
    have c20 := O1_ H
    replace H := O2_ H
    have c20b0 := eq_true c20
    have c20b1 : decide ((ji18) ≤ (wrap64 ((wrap64 (x12_1 + 1)) * a1))) = true := decide_eq_true c20
    have c21 := O1_ H
    replace H := O2_ H
    have c21b0 := eq_true c21
    have c21b1 : decide ((wrap64 ((wrap64 (x12_1 + 1)) * a1)) ≤ (t111.length : Int)) = true := decide_eq_true c21
    obtain ⟨y122, hy122⟩ : ∃ y_ : List Int, y_ = ((t111.take ((wrap64 ((wrap64 (x12_1 + 1)) * a1)) : Int).toNat).drop ((ji18) : Int).toNat) := ⟨_, rfl⟩
    replace H : ((z88.f y122).bind fun t126 => (if x11_1.length < 5864062014805 then (z87.l0 k1 a1 t114 (x11_1 ++ [t126]) (wrap64 (x12_1 + 1)) t108 t109 t110 t111) else (none))) = some r := Y_ hy122 H
    have Ny122 := Zz.mk hy122
    clear hy122
    replace H := OZ_ H
    obtain ⟨t126, A22, H⟩ := H
    have c23 := O1_ H
    replace H := O2_ H
    have LMc23 := Zz.mk c23
    clear c23
    obtain ⟨y129, hy129⟩ : ∃ y_ : List (List Int), y_ = (x11_1 ++ [t126]) := ⟨_, rfl⟩
    replace H : (z87.l0 k1 a1 t114 y129 (wrap64 (x12_1 + 1)) t108 t109 t110 t111) = some r := Y_ hy129 H
    have Ny129 := Zz.mk hy129
    clear hy129
    have H' := Zz.mk H
    clear H
    obtain ⟨Ao24, co24, eo24⟩ := Kd.R_slice HO_9.out
    subst eo24
    have hnb25 := NB118_107.out
    have hnc25 := NB107_118.out
    obtain ⟨hcz26_0, hcz26_1, hcz26_2, hcz26_3, hfz26_0, hfz26_1, hfz26_2, hfz26_3⟩ := Z4f_ BK118.out
    have q27 : ((wrap64 ((wrap64 (x12_1 + 1)) * a1)) : Int) ≤ ((t111.length : Int) : Int) := D_
    obtain ⟨i027, hi027, _, hsz27, _⟩ := info_parts qEl
    have hroom27 : t111.length ≤ co14 := (Kd.R_reads' HO_119003.out).2.1
    have hC27 : Kd.C (Kd.int .i64) _ Ao14 t111.length t111 := (Kd.R_reads' HO_119003.out).2.2
    have ql27 : ((ji18) : Int) ≤ ((wrap64 ((wrap64 (x12_1 + 1)) * a1)) : Int) := D_
    have q027 : (0 : Int) ≤ ((ji18) : Int) := D_
    have hcut27 := qK3 (P := Try.prog) 40 2 .i64 .i64 Try.underlying40 hi027 1 hsz27 Ao14 t111.length co14 (ji18) (wrap64 ((wrap64 (x12_1 + 1)) * a1)) q027 ql27 q27 hroom27
    have hr27 := Kd.C_mid (lo := ((ji18) : Int).toNat) (hi := ((wrap64 ((wrap64 (x12_1 + 1)) * a1)) : Int).toNat) (c := co14) hC27 (by omega) (by omega) hroom27
    obtain ⟨A27, hA27⟩ : ∃ A1, A1 = (if co14 = ((ji18) : Int).toNat then Ao14 else (Ao14 : Option Addr).map (·.add (((ji18) : Int).toNat * 1))) := ⟨_, rfl⟩
    obtain ⟨c27, hc27⟩ : ∃ c1, c1 = co14 - ((ji18) : Int).toNat := ⟨_, rfl⟩
    have hy27 : y122.length = ((wrap64 ((wrap64 (x12_1 + 1)) * a1)) : Int).toNat - ((ji18) : Int).toNat := (by rw [Ny122.out, List.length_drop, List.length_take] <;> omega)
    rw [show ((t111).take ((wrap64 ((wrap64 (x12_1 + 1)) * a1)) : Int).toNat).drop ((ji18) : Int).toNat = y122 from Ny122.out.symm] at hr27
    replace hr27 : Kd.C (Kd.int .i64) _ A27 y122.length y122 := (by rw [hA27]; exact hr27)
    rw [← hy27, ← hA27, ← hc27] at hcut27
    have HR125 := Zz.mk hr27
    have HC125 := Zz.mk (show y122.length ≤ c27 from by rw [hy27, hc27]; exact Nat.sub_le_sub_right (Nat.le_trans (by omega) hroom27) _)
    clear hr27 hC27 hroom27 hi027 hsz27 hc27
    have KY27 := Zz.mk hy27
    have KA27 := Zz.mk hA27
    clear hy27 hA27
    have KL27 := Zz.mk (show ((wrap64 ((wrap64 (x12_1 + 1)) * a1)) : Int).toNat ≤ t111.length from by omega)
    have KM27 := Zz.mk (show ((ji18) : Int).toNat ≤ ((wrap64 ((wrap64 (x12_1 + 1)) * a1)) : Int).toNat from by omega)
    replace q27 := eq_true q27
    go_wp2_with (first | ((with_reducible refine gC_ (f := 88) rfl ?_); refine GL_ (some 40) rfl rfl Try.func88 #[.slice A27 y122.length c27] rfl (h := ?_); (with_reducible refine (z88.calls _ _ y122 t126 _ ?side1 ?side2 A22.out).mono ?_); (case side1 => exact KC_ (KC_ HR125.out)); (case side2 => exact HC125.out); rintro e w28 ⟨v127, rfl, ho0, hb⟩; refine ⟨_, rfl, ?_⟩; have HO128 := Zz.mk (Kd.R_lower (Kd.R_new' (Kd.R_new' (Kd.R_new' ho0 (Kd.R_lt (KR_ HO_9.out))) (Kd.R_lt (KR_ HO_108003.out))) (Kd.R_lt (KR_ HO_119003.out))) (bS_ (B2_ HB.out GE107.out GE118.out))); replace HO_9 := Zz.mk (Kd.R_elder' (KR_ HO_9.out) (Kd.R_base ho0) hb); replace HO_11 := Zz.mk (Kd.S_elder' (KS_ HO_11.out) (Kd.R_base ho0) hb); replace HO_108003 := Zz.mk (Kd.R_elder' (KR_ HO_108003.out) (Kd.R_base ho0) hb); replace HO_119003 := Zz.mk (Kd.R_elder' (KR_ HO_119003.out) (Kd.R_base ho0) hb); replace BK107 := Zz.mk (kb_ BK107.out hb); replace BK118 := Zz.mk (kb_ BK118.out hb); replace HR125 := Zz.mk (Kd.C_below (KC_ HR125.out) hb); replace HB := Zz.mk (bT_ (B2_ HB.out GE107.out GE118.out) hb); (try clear hb); (try clear ho0); obtain ⟨Ao30, co30, eo30⟩ := Kd.R_slice HO128.out; subst eo30) | ((with_reducible refine qA0 (b := .append) (xs := #[.tmp 29, .tmp 41]) rfl ?_); at_builtin; refine Kd.S_append (Kd.slice 2 (Kd.int .i64)) (w0 := w) w.heap.size rfl (.tmp 29) (.tmp 41) 22 40 (.slice none 0 0) 24 rfl Try.underlying22 qBs rfl (by decide) (by omega) u11 x11_1 t126 [.slice Ao30 t126.length co30] (fun k_ => some k_ ≠ (.slice Ao24 t114.length co24 : Value).ownBlock ∧ some k_ ≠ (.slice Ao9 t104.length co9 : Value).ownBlock ∧ some k_ ≠ (.slice Ao14 t111.length co14 : Value).ownBlock) (fun k_ => some k_ = (.slice Ao30 t126.length co30 : Value).ownBlock) rfl rfl ?aP (fun k_ hk_ => ((Kd.R_mono (ok' := fun k_ => ((fun k_ => some k_ ≠ (.slice Ao24 t114.length co24 : Value).ownBlock ∧ some k_ ≠ (.slice Ao9 t104.length co9 : Value).ownBlock ∧ some k_ ≠ (.slice Ao14 t111.length co14 : Value).ownBlock)) k_ ∧ some k_ ≠ (u11 : Value).ownBlock) (Kd.R_apart' (HO128.out) (Kd.S_typed HO_11.out) (by decide)) (fun k_ hk => ⟨⟨hk.1.1.1.2, ⟨hk.1.1.2, hk.1.2⟩⟩, hk.2⟩))).1 k_ hk_.symm) ?aF ?aO ?aB ?aS ?aL ?_; (case aP => exact Kd.M_row (Kd.R_mono (Kd.R_tight rfl (Kd.R_mono (ok' := fun k_ => ((fun k_ => some k_ ≠ (.slice Ao24 t114.length co24 : Value).ownBlock ∧ some k_ ≠ (.slice Ao9 t104.length co9 : Value).ownBlock ∧ some k_ ≠ (.slice Ao14 t111.length co14 : Value).ownBlock)) k_ ∧ some k_ ≠ (u11 : Value).ownBlock) (Kd.R_apart' (HO128.out) (Kd.S_typed HO_11.out) (by decide)) (fun k_ hk => ⟨⟨hk.1.1.1.2, ⟨hk.1.1.2, hk.1.2⟩⟩, hk.2⟩))) (fun _ h_ => h_))); (case aB => exact (B2_ HB.out GE107.out GE118.out)); (case aF => exact (fun k_ hk => ⟨Kd.fresh' (Kd.R_lt (KR_ HO_9.out)) k_ hk, Kd.fresh' (Kd.R_lt (KR_ HO_108003.out)) k_ hk, Kd.fresh' (Kd.R_lt (KR_ HO_119003.out)) k_ hk⟩)); (case aO => exact (by refine SW_ ?_; exact Kd.S_mono HO_11.out (fun k_ hk => ⟨⟨hk.1.1, ⟨hk.1.2.1, hk.1.2.2⟩⟩, fun e_ => hk.2 e_⟩))); (case aS => exact (bS_ (B2_ HB.out GE107.out GE118.out))); (case aL => have := LMc23.out; omega); intro v130 w29 ho hb hg hat; rw [← Ny129.out] at ho; have HO131 := Zz.mk (ho); replace HO_9 := Zz.mk (Kd.R_over' (KR_ HO_9.out) (Kd.S_typed (KS_ HO_11.out)) (by decide) hg); replace HO_108003 := Zz.mk (Kd.R_over' (KR_ HO_108003.out) (Kd.S_typed (KS_ HO_11.out)) (by decide) hg); replace BK107 := Zz.mk (qAy (g := gb107) (o := .cells #[.int .i64 t101, .int .i64 t102, .int .i64 t103, .slice Ao9 t104.length co9] 55 (0, 0)) (KB_ BK107.out) hg (Kd.S_ne HO_11.out BK107.out (by decide))); replace BK118 := Zz.mk (qAy (g := gb118) (o := .cells #[.int .i64 t108, .int .i64 t109, .int .i64 t110, .slice Ao14 t111.length co14] 55 (0, 0)) (KB_ BK118.out) hg (Kd.S_ne HO_11.out BK118.out (by decide))); replace HB := Zz.mk (hb); replace HR125 := Zz.mk ((show Kd.C (Kd.int .i64) w29 A27 y122.length y122 from by rw [Ny122.out, KA27.out]; exact Kd.C_mid (lo := ((ji18) : Int).toNat) (hi := ((wrap64 ((wrap64 (x12_1 + 1)) * a1)) : Int).toNat) (c := co14) ((Kd.R_reads' (Kd.R_over' (KR_ HO_119003.out) (Kd.S_typed (KS_ HO_11.out)) (by decide) hg)).2.2) KM27.out KL27.out ((Kd.R_reads' (Kd.R_over' (KR_ HO_119003.out) (Kd.S_typed (KS_ HO_11.out)) (by decide) hg)).2.1))); replace HO_119003 := Zz.mk (Kd.R_over' (KR_ HO_119003.out) (Kd.S_typed (KS_ HO_11.out)) (by decide) hg); (try clear HO_11); (try clear HO128); clear ho hb hg hat))
    go_roundg k1
    case measure => exact Q1_ HK1
    case rel => exact ⟨(y129), (wrap64 (x12_1 + 1)), E_, H', ⟨Q1_ HK1⟩, ⟨by refine RW_ ?_; exact Kd.R_mono HO_9.out (fun _ hk => ⟨hk.1.1, hk.1.2⟩)⟩, ⟨KS_ HO131.out⟩, ⟨by refine RW_ ?_; exact Kd.R_mono HO_108003.out (fun _ hk => ⟨hk.1.1, hk.1.2⟩)⟩, ⟨by refine RW_ ?_; exact Kd.R_mono HO_119003.out (fun _ hk => ⟨hk.1.1, hk.1.2⟩)⟩, ⟨KB_ BK107.out⟩, ⟨KB_ BK118.out⟩, ⟨B2_ HB.out GE107.out GE118.out⟩⟩
   rw [if_neg c17] at H
   have c17b0 : decide (x12_1 < (t114.length : Int)) = false := decide_eq_false c17
   clear c17
   obtain rfl := OI_ H
   obtain ⟨Ao31, co31, eo31⟩ := Kd.R_slice HO_9.out
   subst eo31
   go_wp2
   go_ret
   exact ⟨_, F_, by refine SW_ ?_; exact Kd.S_mono HO_11.out (fun _ hk => trivial), B2_ HB.out GE107.out GE118.out⟩
end Go.Proofs.Ytkgajpngeglkmaa.B
