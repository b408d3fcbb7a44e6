/- Printed proofs of functions of the program and of the reference, by a program of this work over the kit's printer. -/
import Derived.Test.YtgdfkcipffjjcaaKFCAEAO0
import Derived.Test.YtgdfkcipffjjcaaKW0
set_option maxHeartbeats 8000000
set_option maxRecDepth 100000
namespace Go.Proofs.Ytgdfkcipffjjcaa.B
open Go.RowKit Go.Proofs.YtgdfkcipffjjcaaW.PrintWords Go.Proofs.YtgdfkcipffjjcaaW.PrintLast Go.Proofs.YtgdfkcipffjjcaaW.PrintMore
attribute [local go_sem] qAh qAf qAl qAk qAc qAb qAg qAe
set_option linter.unusedVariables false
set_option linter.unusedSimpArgs false
def z16.l0 : Nat → List (List Int) → List (List Int) → Int → Option ((List (List Int)))
 | 0, _, _, _ => none
 | k + 1, x0, x3, x4 => if x4 < (x0.length : Int) then (if 0 ≤ x4 then ((z7.f k (rI_ x0 x4)).bind fun t105 => (if x4 < (x3.length : Int) then (z16.l0 k x0 (x3.set (x4 : Int).toNat t105) (wrap64 (x4 + 1))) else (none))) else (none)) else (some x3)
def z16.f (k : Nat) (l0 : List (List Int)) : Option ((List (List Int))) := if 0 ≤ (l0.length : Int) then (if ((l0.length : Int) : Int).toNat ≤ 11728124029610 then (z16.l0 k l0 (List.replicate ((l0.length : Int) : Int).toNat []) 0) else (none)) else (none)
theorem z16.calls (k : Nat) (A0 : Option Addr) (c0 : Nat) (l0 : List (List Int)) (r : List (List Int)) (w : World) (hr0 : Kd.C (Kd.slice 2 (Kd.int .i64)) w A0 l0.length l0) (hc0 : l0.length ≤ c0) (h : z16.f k l0 = some r) :
  Calls Try.prog 16 #[.slice A0 l0.length c0] w fun e w' => ∃ v0_ : Value, e = .returned (v0_) ∧ Kd.S (Kd.slice 2 (Kd.int .i64)) 25 w' w.heap.size (fun _ => True) v0_ r ∧ Below w.heap.size w w' := by
 have HR0 := Zz.mk hr0
 have HC0 := Zz.mk hc0
 clear hr0 hc0
 have HB := Zz.mk (Below.refl w.heap.size w)
 have H : (if 0 ≤ (l0.length : Int) then (if ((l0.length : Int) : Int).toNat ≤ 11728124029610 then (z16.l0 k l0 (List.replicate ((l0.length : Int) : Int).toNat []) 0) else (none)) else (none)) = some r := h
 clear h
 have c2 := O1_ H
 replace H := O2_ H
 have c2b0 := eq_true c2
 have c2b1 : decide (0 ≤ (l0.length : Int)) = true := decide_eq_true c2
 clear c2
 have c3 := O1_ H
 replace H := O2_ H
 have c3b0 := eq_true c3
 have c3b1 : decide (((l0.length : Int) : Int).toNat ≤ 11728124029610) = true := decide_eq_true c3
 clear c3
 obtain ⟨y101, hy101⟩ : ∃ y_ : List (List Int), y_ = (List.replicate ((l0.length : Int) : Int).toNat []) := ⟨_, rfl⟩
 replace H : (z16.l0 k l0 y101 0) = some r := Y_ hy101 H
 have Ny101 := Zz.mk hy101
 clear hy101
 have H' := Zz.mk H
 clear H
 go_enter Try.func16, Try.ntmps16
 go_wp2_with (first | ((with_reducible refine qAm (N := 7) rfl ?_); refine Kd.S_make (Kd.slice 2 (Kd.int .i64)) _ 25 rfl (N := 7) rfl 22 _ _ rfl (l0.length : Int) rfl rfl Try.underlying22 (.slice none 0 0) 24 qFz rfl (by decide) (by omega) [] (ok := fun _ => True) (okp := fun _ => True) ⟨_, rfl, Kd.R_nil _ _ _ _ _⟩ (fun _ hk => hk) trivial (D_) (Nat.le_trans (Nat.mul_le_mul_right _ (D_ : (l0.length : Int).toNat ≤ 11728124029610)) (by omega)) (Below.refl _ _) (Nat.le_refl _) ?_; intro v102 w4 ho5 hb hg_ hnew_; clear hg_ hnew_; (first | rw [← Ny101.out] at ho5 | (simp only [Int.reduceToNat] at ho5; rw [← Ny101.out] at ho5)); have HO103 := Zz.mk (Kd.S_lower ho5 (bS_ (B_ HB.out))); replace HB := Zz.mk (bT_ (B_ HB.out) hb); clear hb ho5))
 go_loopg [4] k (fun kq v4 w' => ∃ (x3_1 : List (List Int)) (x4_1 : Int), v4 = .int .i64 x4_1 ∧ Zz (z16.l0 kq l0 x3_1 x4_1 = some r) ∧ Zz (kq ≤ k) ∧ Zz (Kd.S (Kd.slice 2 (Kd.int .i64)) 25 w' w.heap.size (fun _ => True) v102 x3_1) ∧ Zz (Below w.heap.size w w'))
 case atStart => exact ⟨(y101), (0), E_, H', ⟨Nat.le_refl _⟩, ⟨KS_ HO103.out⟩, ⟨B_ HB.out⟩⟩
 case round =>
  clear H'
  (try clear c2);(try clear c2b0);(try clear c2b1);(try clear c3);(try clear c3b0);(try clear c3b1)
  obtain ⟨x3_1, x4_1, rfl, HA, HK1, HO_3, HB⟩ := hrel
  cases gk with
  | zero => exact absurd HA.out (by simp [z16.l0])
  | succ k1 =>
   have H := HA.out
   clear HA
   simp only [z16.l0] at H
   by_cases c6 : x4_1 < (l0.length : Int)
   ·rw [if_pos c6] at H
    have c6b0 : decide (x4_1 < (l0.length : Int)) = true := decide_eq_true c6
    clear c6
    have c7b0 := O3_ H
    replace H := O2_ H
    replace H := OZ_ H
    obtain ⟨t105, A8, H⟩ := H
    have c9b0 := O3_ H
    replace H := O2_ H
    obtain ⟨y108, hy108⟩ : ∃ y_ : List (List Int), y_ = (x3_1.set (x4_1 : Int).toNat t105) := ⟨_, rfl⟩
    replace H : (z16.l0 k1 l0 y108 (wrap64 (x4_1 + 1))) = some r := Y_ hy108 H
    have Ny108 := Zz.mk hy108
    clear hy108
    have H' := Zz.mk H
    clear H
    have p104 : 0 ≤ (x4_1 : Int) := D_
    have q104 : x4_1 < (l0.length : Int) := D_
    obtain ⟨ad104, A104_0, c104_0, e104, hx104_0, hl104_0, hi104_0⟩ := qAs HR0.out x4_1 p104 q104
    cases e104
    replace hx104_0 := (HB.out.cell (World.block_lt_of_cell? w _ hx104_0)).trans hx104_0
    have HR104_0 := Zz.mk hi104_0
    have HC104_0 := Zz.mk hl104_0
    clear hi104_0 hl104_0
    replace p104 := eq_true p104
    replace q104 := eq_true q104
    go_wp2_with (first | ((with_reducible refine gC_ (f := 7) rfl ?_); refine GL_ (some 20) rfl rfl Try.func7 #[.slice A104_0 (rI_ l0 x4_1).length c104_0] rfl (h := ?_); (with_reducible refine (z7.calls k1 _ _ (rI_ l0 x4_1) t105 _ ?side1 ?side2 A8.out).mono ?_); (case side1 => exact KC_ (Kd.C_below HR104_0.out HB.out)); (case side2 => exact HC104_0.out); rintro e w11 ⟨v106, rfl, ho0, hb⟩; refine ⟨_, rfl, ?_⟩; replace HO_3 := Zz.mk (Kd.S_elder' (KS_ HO_3.out) (Kd.R_base ho0) hb); have HO107 := Zz.mk (Kd.R_lower ho0 (bS_ (B_ HB.out))); replace HB := Zz.mk (bT_ (B_ HB.out) hb); (try clear hb); (try clear hb2); (try clear hk); (try clear hi); (try clear ho0); have p10 : 0 ≤ (x4_1 : Int) := D_; have q10 : (x4_1 : Int) < ((x3_1.length : Int) : Int) := D_; obtain ⟨go10, co10, eo10, gb10, gl10, cl10, HG10⟩ := Kd.S_form HO_3.out (by omega); (first | cases eo10 | (injection eo10 with ea_ en_ ec_; (first | subst ea_ | (injection ea_ with ea_; subst ea_)); subst ec_; clear en_)); have GB10 := Zz.mk gb10; have GG10 := Zz.mk HG10; clear gb10 gl10 HG10; obtain ⟨_, ce10, hcl10, hM10, hcc10, hfr10, _, _⟩ := Kd.S_elem HO_3.out [] (x4_1 : Int) p10 q10; obtain ⟨ve10_0, rfl, ge10_0⟩ := hM10; have hx10_0 := hcc10 0 _ rfl; have hf10_0 := hfr10 0; (try simp only [show ((Kd.slice 2 (Kd.int .i64))).sz = 1 from rfl, Nat.mul_one, Nat.add_zero] at hx10_0); (try simp only [show ((Kd.slice 2 (Kd.int .i64))).sz = 1 from rfl, Nat.mul_one, Nat.add_zero] at hf10_0); clear hcl10 hcc10 hfr10; (try clear hM10); replace p10 := eq_true p10; replace q10 := eq_true q10; obtain ⟨Ao14, co14, eo14⟩ := Kd.R_slice HO107.out; subst eo14; have n_ := Zz.mk (Kd.S_mono (ok' := (fun k_ => some k_ ≠ (.slice Ao14 t105.length co14 : Value).ownBlock)) HO_3.out (fun k_ hk => hk.2)); clear HO_3; have HO_3 := n_; clear n_; have HX12 := Zz.mk (show Kd.S (Kd.slice 2 (Kd.int .i64)) 25 w11 w.heap.size (fun k_ => ((fun _ => True)) k_ ∧ ¬ ((fun k_ => some k_ = (.slice Ao14 t105.length co14 : Value).ownBlock)) k_) (.slice (some ⟨go10, 0, none⟩) x3_1.length co10) x3_1 from (by refine SW_ ?_; exact Kd.S_mono HO_3.out (fun k_ hk => ⟨trivial, fun e_ => hk e_⟩))); obtain ⟨oki12, ce12, hcl12, hM12, hcc12, hfr12, hoki12, hH12⟩ := Kd.S_elem HX12.out [] (x4_1 : Int) (D_) (by have h_ : (x4_1 : Int) < ((x3_1.length : Int) : Int) := D_; first | exact h_ | (have e_ := (Kd.S_reads' HO_3.out).1; omega) | simpa using h_); obtain ⟨ve12_0, rfl, ge12_0⟩ := hM12; have HP12 := Kd.S_seg hH12 (D_) (by have h_ : (x4_1 : Int) < ((x3_1.length : Int) : Int) := D_; first | exact h_ | (have e_ := (Kd.S_reads' HO_3.out).1; omega) | simpa using h_) (seg := [.slice Ao14 t105.length co14]) (j := 0) (show 1 ≤ 1 from by decide) (x' := t105) (Kd.M_row (Kd.R_mono (Kd.R_tight rfl (Kd.R_mono (ok' := fun k_ => ((fun _ => True)) k_ ∧ k_ ≠ go10) (Kd.R_apart' (HO107.out) (Kd.S_typed HO_3.out) (by decide)) (fun k_ hk => ⟨trivial, fun e_ => (hk.2) (by rw [e_]; rfl)⟩))) (fun _ h_ => Or.inr (h_)))) (fun _ hk => hk) (fun k_ hk_ => ((Kd.R_mono (ok' := fun k_ => ((fun _ => True)) k_ ∧ k_ ≠ go10) (Kd.R_apart' (HO107.out) (Kd.S_typed HO_3.out) (by decide)) (fun k_ hk => ⟨trivial, fun e_ => (hk.2) (by rw [e_]; rfl)⟩))).1 k_ hk_.symm); have hx12_0 := hcc12 0 _ rfl; (try simp only [show ((Kd.slice 2 (Kd.int .i64))).sz = 1 from rfl, Nat.mul_one, Nat.add_zero] at hx12_0); have hf12_0 := hfr12 0; (try simp only [show ((Kd.slice 2 (Kd.int .i64))).sz = 1 from rfl, Nat.mul_one, Nat.add_zero] at hf12_0); clear hcl12 hcc12 hfr12 hoki12 hH12; (try clear hM12); (try simp only [show ((Kd.slice 2 (Kd.int .i64))).sz = 1 from rfl, Nat.mul_one, Nat.add_zero] at HP12)) | ((with_reducible refine qCh (t := 25) (p := 21) rfl ?_); refine qB8 (t := 25) (p := 21) (v := ?vo_w13) (w1 := (w11.setCell ⟨go10, (x4_1 : Int).toNat, none⟩ (.slice Ao14 t105.length co14))) ?hg ?ho ?hn ?hr ?_; (case ho => rfl); (case hg => rfl); (case hn => rfl); (case hr => first | (go_simp; done) | (go_simp; rfl)); intro w13 hw; have hg : w11.grownBy w13 (some go10) := (by rw [hw]; exact HP12.2); have hp_ : Kd.S (Kd.slice 2 (Kd.int .i64)) 25 w13 w.heap.size (fun _ => True) (.slice (some ⟨go10, 0, none⟩) x3_1.length co10) y108 := (by rw [hw, Ny108.out]; exact HP12.1); clear HP12; replace HO_3 := Zz.mk (hp_); replace HB := Zz.mk ((by rw [hw]; exact qA0 (HB.out) GB10.out : Below w.heap.size w w13)); clear HO107; clear hg hw hp_))
    go_roundg k1
    case measure => exact Q1_ HK1
    case rel => exact ⟨(y108), (wrap64 (x4_1 + 1)), E_, H', ⟨Q1_ HK1⟩, ⟨KS_ HO_3.out⟩, ⟨B_ HB.out⟩⟩
   rw [if_neg c6] at H
   have c6b0 : decide (x4_1 < (l0.length : Int)) = false := decide_eq_false c6
   clear c6
   obtain rfl := OI_ H
   go_wp2
   go_ret
   exact ⟨_, F_, KS_ HO_3.out, B_ HB.out⟩
def z6.f (k : Nat) (l0_0 : List (List Int)) : Option ((List (List Int))) := (z16.f k l0_0).bind fun t104 => (some t104)
theorem z6.calls (k : Nat) (A0_0 : Option Addr) (c0_0 : Nat) (l0_0 : List (List Int)) (r : List (List Int)) (w : World) (hr0_0 : Kd.C (Kd.slice 2 (Kd.int .i64)) w A0_0 l0_0.length l0_0) (hc0_0 : l0_0.length ≤ c0_0) (h : z6.f k l0_0 = some r) :
  Calls Try.prog 6 #[.agg #[.slice A0_0 l0_0.length c0_0]] w fun e w' => ∃ v0_ : Value, e = .returned (.agg #[v0_]) ∧ Kd.S (Kd.slice 2 (Kd.int .i64)) 25 w' w.heap.size (fun _ => True) v0_ r ∧ Below w.heap.size w w' := by
 have hu24 := Try.underlying24
 have hu28 := Try.underlying28
 have HR0_0 := Zz.mk hr0_0
 have HC0_0 := Zz.mk hc0_0
 clear hr0_0 hc0_0
 have HB := Zz.mk (Below.refl w.heap.size w)
 have H : ((z16.f k l0_0).bind fun t104 => (some t104)) = some r := h
 clear h
 replace H := OZ_ H
 obtain ⟨t104, A2, H⟩ := H
 obtain rfl := OI_ H
 go_enter Try.func6, Try.ntmps6
 go_wp2_with (first | ((with_reducible refine qAm (N := 1) rfl ?_); refine qAo ?hg (N := 1) ?hd (cs := #[.slice A0_0 l0_0.length c0_0]) (t := 24) ?hr ?_; (case hd => rfl); (case hg => rfl); (case hr => first | (go_simp; done) | (go_simp; rfl)); intro gb101 hg w3 hbox hb; have BK101 := Zz.mk (hbox); have GW101 := Zz.mk ((by rw [hg]; exact (bS_ (B_ HB.out)) : w.heap.size ≤ gb101)); have GE101 := GW101; replace HB := Zz.mk (bT_ (B_ HB.out) hb); clear hb hbox hg) | ((with_reducible refine qAm (N := 2) rfl ?_); refine qAo ?hg (N := 2) ?hd (cs := #[.slice none 0 0]) (t := 28) ?hr ?_; (case hd => rfl); (case hg => rfl); (case hr => first | (go_simp; done) | (go_simp; rfl)); intro gb102 hg w4 hbox hb; have BK102 := Zz.mk (hbox); have GW102 := Zz.mk ((by rw [hg]; exact (bS_ (B1_ HB.out GE101.out)) : w.heap.size ≤ gb102)); have GE102 := GW102; have NB101_102 := Zz.mk ((by rw [hg]; exact Nat.ne_of_lt (qA5 (g := gb101) (o := .cells #[.slice A0_0 l0_0.length c0_0] 24 (0, 0)) (KB_ BK101.out)) : gb101 ≠ gb102)); have NB102_101 := Zz.mk NB101_102.out.symm; replace BK101 := Zz.mk (bB_ (g := gb101) (o := .cells #[.slice A0_0 l0_0.length c0_0] 24 (0, 0)) (KB_ BK101.out) hb); replace HB := Zz.mk (bT_ (B1_ HB.out GE101.out) hb); clear hb hbox hg) | ((with_reducible refine qAm (N := 3) rfl ?_); refine qAo ?hg (N := 3) ?hd (cs := #[.slice none 0 0]) (t := 28) ?hr ?_; (case hd => rfl); (case hg => rfl); (case hr => first | (go_simp; done) | (go_simp; rfl)); intro gb103 hg w5 hbox hb; have BK103 := Zz.mk (hbox); have GW103 := Zz.mk ((by rw [hg]; exact (bS_ (B2_ HB.out GE101.out GE102.out)) : w.heap.size ≤ gb103)); have GE103 := GW103; have NB101_103 := Zz.mk ((by rw [hg]; exact Nat.ne_of_lt (qA5 (g := gb101) (o := .cells #[.slice A0_0 l0_0.length c0_0] 24 (0, 0)) (KB_ BK101.out)) : gb101 ≠ gb103)); have NB103_101 := Zz.mk NB101_103.out.symm; have NB102_103 := Zz.mk ((by rw [hg]; exact Nat.ne_of_lt (qA5 (g := gb102) (o := .cells #[.slice none 0 0] 28 (0, 0)) (KB_ BK102.out)) : gb102 ≠ gb103)); have NB103_102 := Zz.mk NB102_103.out.symm; replace BK101 := Zz.mk (bB_ (g := gb101) (o := .cells #[.slice A0_0 l0_0.length c0_0] 24 (0, 0)) (KB_ BK101.out) hb); replace BK102 := Zz.mk (bB_ (g := gb102) (o := .cells #[.slice none 0 0] 28 (0, 0)) (KB_ BK102.out) hb); replace HB := Zz.mk (bT_ (B2_ HB.out GE101.out GE102.out) hb); clear hb hbox hg; have hnb6 := NB101_102.out; have hnc6 := NB102_101.out; have hnb7 := NB101_103.out; have hnc7 := NB103_101.out; obtain ⟨hcz8_0, hfz8_0⟩ := Z1f_ BK101.out) | ((with_reducible refine gC_ (f := 16) rfl ?_); refine GL_ (some 6) rfl rfl Try.func16 #[.slice A0_0 l0_0.length c0_0] rfl (h := ?_); (with_reducible refine (z16.calls k _ _ l0_0 t104 _ ?side1 ?side2 A2.out).mono ?_); (case side1 => exact KC_ (Kd.C_below HR0_0.out HB.out)); (case side2 => exact HC0_0.out); rintro e w9 ⟨v105, rfl, ho0, hb⟩; refine ⟨_, rfl, ?_⟩; have HO106 := Zz.mk (Kd.S_lower ho0 (bS_ (B3_ HB.out GE101.out GE102.out GE103.out))); replace BK101 := Zz.mk (bB_ (g := gb101) (o := .cells #[.slice A0_0 l0_0.length c0_0] 24 (0, 0)) (KB_ BK101.out) hb); replace BK102 := Zz.mk (bB_ (g := gb102) (o := .cells #[.slice none 0 0] 28 (0, 0)) (KB_ BK102.out) hb); replace BK103 := Zz.mk (bB_ (g := gb103) (o := .cells #[.slice none 0 0] 28 (0, 0)) (KB_ BK103.out) hb); replace HB := Zz.mk (bT_ (B3_ HB.out GE101.out GE102.out GE103.out) hb); (try clear hb); (try clear hb2); (try clear hk); (try clear hi); (try clear ho0); obtain ⟨Ao10, co10, eo10⟩ := Kd.S_slice HO106.out; subst eo10; have hnb11 := NB103_102.out; have hnc11 := NB102_103.out; obtain ⟨hcz12_0, hfz12_0⟩ := Z1f_ BK103.out; obtain ⟨hcz13_0, hfz13_0⟩ := Z1f_ BK102.out))
 refine bodyPost_ret (results_cell_row rfl _ _ gb102 28 #[.slice Ao10 t104.length co10] (0, 0) _ rfl (by refine BW_ ?_; refine bP_ (cs := #[.slice none 0 0]) ?_ 0 _ rfl; refine BW_ ?_; refine bR_ ?_ NB102_103.out _; refine BW_ ?_; exact BK102.out) Try.underlying28 rfl (by kernel_rfl)) rfl ?_
 exact ⟨_, F_, by refine SW_ ?_; exact Kd.S_mono (Kd.S_far (p := ⟨gb102, 0, none⟩) (Kd.S_far (p := ⟨gb103, 0, none⟩) (Kd.S_types (Kd.S_types HO106.out BK103.out (by decide)) BK102.out (by decide)) (fun _ hk => hk.1.2) (.slice Ao10 t104.length co10)) (fun _ hk => hk.2) (.slice Ao10 t104.length co10)) (fun _ hk => trivial), B3_ HB.out GE101.out GE102.out GE103.out⟩
def z40.f (a0 : Int) (a1 : Int) (a2 : Int) : Option (Bool) := if a0 ≥ a1 then (some (decide (a0 ≤ a2))) else (some false)
theorem z40.calls (a0 : Int) (a1 : Int) (a2 : Int) (r : Bool) (w : World) (h : z40.f a0 a1 a2 = some r) :
  Calls Try.prog 40 #[.int .i64 a0, .int .i64 a1, .int .i64 a2] w fun e w' => e = .returned (.bool r) ∧ Dz w w' := by
 have H : (if a0 ≥ a1 then (some (decide (a0 ≤ a2))) else (some false)) = some r := h
 clear h
 by_cases c4 : a0 ≥ a1
 ·rw [if_pos c4] at H
  have c4b0 : decide (a1 ≤ a0) = true := decide_eq_true c4
  clear c4
  obtain rfl := OI_ H
  go_enter Try.func40, Try.ntmps40
  go_wp2
  go_ret
  exact ⟨by first | rfl | (simp; done) | (simp [*]; done), by repeat (first | exact Dz.refl _ | apply Dz.step)⟩
 rw [if_neg c4] at H
 have c4b0 : decide (a1 ≤ a0) = false := decide_eq_false c4
 clear c4
 obtain rfl := OI_ H
 go_enter Try.func40, Try.ntmps40
 go_wp2
 go_ret
 exact ⟨by first | rfl | (simp; done) | (simp [*]; done), by repeat (first | exact Dz.refl _ | apply Dz.step)⟩
def z24.l0 : Nat → List Int → Int → Int → Int → Option (Bool)
 | 0, _, _, _, _ => none
 | k + 1, x0, x1, x2, x7 => if x7 < (x0.length : Int) then (if 0 ≤ x7 then ((z40.f (rd x0 x7) 0 (wrap64 (x2 - 1))).bind fun t102 => (if t102 = true then (z24.l0 k x0 x1 x2 (wrap64 (x7 + 1))) else (some false))) else (none)) else (some ((x0.length : Int) == x1))
def z24.f (k : Nat) (l0 : List Int) (a1 : Int) (a2 : Int) : Option (Bool) := z24.l0 k l0 a1 a2 0
theorem z24.calls (k : Nat) (A0 : Option Addr) (c0 : Nat) (l0 : List Int) (a1 : Int) (a2 : Int) (r : Bool) (w : World) (hr0 : Kd.C (Kd.int .i64) w A0 l0.length l0) (hc0 : l0.length ≤ c0) (h : z24.f k l0 a1 a2 = some r) :
  Calls Try.prog 24 #[.slice A0 l0.length c0, .int .i64 a1, .int .i64 a2] w fun e w' => e = .returned (.bool r) ∧ Dz w w' := by
 have HR0 := Zz.mk hr0
 have HC0 := Zz.mk hc0
 clear hr0 hc0
 have H : (z24.l0 k l0 a1 a2 0) = some r := h
 clear h
 have H' := Zz.mk H
 clear H
 go_enter Try.func24, Try.ntmps24
 go_wp2
 go_loopg [7] k (fun kq v7 w' => ∃ (x7_1 : Int), v7 = .int .i64 x7_1 ∧ Zz (z24.l0 kq l0 a1 a2 x7_1 = some r) ∧ Zz (kq ≤ k) ∧ Dz w w')
 case atStart => exact ⟨(0), E_, H', ⟨Nat.le_refl _⟩, by repeat (first | exact Dz.refl _ | apply Dz.step)⟩
 case round =>
  clear H'
  obtain ⟨x7_1, rfl, HA, HK1, ⟨m1, rfl⟩⟩ := hrel
  cases gk with
  | zero => exact absurd HA.out (by simp [z24.l0])
  | succ k1 =>
   have H := HA.out
   clear HA
   simp only [z24.l0] at H
   by_cases c4 : x7_1 < (l0.length : Int)
   ·rw [if_pos c4] at H
    have c4b0 : decide (x7_1 < (l0.length : Int)) = true := decide_eq_true c4
    clear c4
    have c5b0 := O3_ H
    replace H := O2_ H
    replace H := OZ_ H
    obtain ⟨t102, A6, H⟩ := H
    by_cases c7 : t102 = true
    ·subst c7
     replace H := T_ H
     have H' := Zz.mk H
     clear H
     have p101 : 0 ≤ (x7_1 : Int) := D_
     have q101 : x7_1 < (l0.length : Int) := D_
     obtain ⟨ad101, e101, hx101_0⟩ := Kd.at_int HR0.out x7_1 p101 q101
     cases e101
     replace p101 := eq_true p101
     replace q101 := eq_true q101
     go_wp2_with (first | ((with_reducible refine gC_ (f := 40) rfl ?_); refine GL_ (some 20) rfl rfl Try.func40 #[.int .i64 (rd l0 x7_1), .int .i64 0, .int .i64 (wrap64 (a2 - 1))] rfl (h := ?_); (with_reducible refine (z40.calls (rd l0 x7_1) 0 (wrap64 (a2 - 1)) true _ A6.out).mono ?_); rintro e w' ⟨rfl, ⟨nd, rfl⟩⟩; refine ⟨_, rfl, ?_⟩))
     go_roundg k1
     case measure => exact Q1_ HK1
     case rel => exact ⟨(wrap64 (x7_1 + 1)), E_, H', ⟨Q1_ HK1⟩, by repeat (first | exact Dz.refl _ | apply Dz.step)⟩
    replace c7 := Bool.eq_false_iff.mpr c7
    subst c7
    replace H := N_ H
    obtain rfl := OI_ H
    have p101 : 0 ≤ (x7_1 : Int) := D_
    have q101 : x7_1 < (l0.length : Int) := D_
    obtain ⟨ad101, e101, hx101_0⟩ := Kd.at_int HR0.out x7_1 p101 q101
    cases e101
    replace p101 := eq_true p101
    replace q101 := eq_true q101
    go_wp2_with (first | ((with_reducible refine gC_ (f := 40) rfl ?_); refine GL_ (some 20) rfl rfl Try.func40 #[.int .i64 (rd l0 x7_1), .int .i64 0, .int .i64 (wrap64 (a2 - 1))] rfl (h := ?_); (with_reducible refine (z40.calls (rd l0 x7_1) 0 (wrap64 (a2 - 1)) false _ A6.out).mono ?_); rintro e w' ⟨rfl, ⟨nd, rfl⟩⟩; refine ⟨_, rfl, ?_⟩))
    go_ret
    exact ⟨by first | rfl | (simp; done) | (simp [*]; done), by repeat (first | exact Dz.refl _ | apply Dz.step)⟩
   rw [if_neg c4] at H
   have c4b0 : decide (x7_1 < (l0.length : Int)) = false := decide_eq_false c4
   clear c4
   obtain rfl := OI_ H
   go_wp2
   go_ret
   exact ⟨by first | rfl | (simp; done) | (simp [*]; done), by repeat (first | exact Dz.refl _ | apply Dz.step)⟩
def z25.l0 : Nat → Int → List Int → Int → List (List Int) → Option (List Int)
 | 0, _, _, _, _ => none
 | k + 1, x1, x5, x6, x51000 => if x6 < (x51000.length : Int) then (if 0 ≤ x6 then (if ((rI_ x51000 x6).length : Int) = (wrap64 (x1 + 1)) then (if x5.length < 17592186044416 then (z25.l0 k x1 (x5 ++ [x6]) (wrap64 (x6 + 1)) x51000) else (none)) else (z25.l0 k x1 x5 (wrap64 (x6 + 1)) x51000)) else (none)) else (some x5)
def z25.f (k : Nat) (l0_0 : List (List Int)) (a1 : Int) : Option (List Int) := z25.l0 k a1 (([] : List Int)) 0 l0_0
theorem z25.calls (k : Nat) (gp0 : Nat) (A0_0 : Option Addr) (c0_0 : Nat) (l0_0 : List (List Int)) (a1 : Int) (r : List Int) (w : World) (hbp0 : w.heap[gp0]? = some (.cells #[.slice A0_0 l0_0.length c0_0] 28 (0, 0))) (hr0_0 : Kd.C (Kd.slice 2 (Kd.int .i64)) w A0_0 l0_0.length l0_0) (hc0_0 : l0_0.length ≤ c0_0) (h : z25.f k l0_0 a1 = some r) :
  Calls Try.prog 25 #[.pointer (some ⟨gp0, 0, none⟩), .int .i64 a1] w fun e w' => ∃ v0_ : Value, e = .returned (v0_) ∧ Kd.R (Kd.int .i64) 2 w' w.heap.size (fun _ => True) v0_ r ∧ Below w.heap.size w w' := by
 have HR0_0 := Zz.mk hr0_0
 have HC0_0 := Zz.mk hc0_0
 clear hr0_0 hc0_0
 have BK50 := Zz.mk hbp0
 clear hbp0
 have HB := Zz.mk (Below.refl w.heap.size w)
 have H : (z25.l0 k a1 (([] : List Int)) 0 l0_0) = some r := h
 clear h
 obtain ⟨y101, hy101⟩ : ∃ y_ : List Int, y_ = (([] : List Int)) := ⟨_, rfl⟩
 replace H : (z25.l0 k a1 y101 0 l0_0) = some r := Y_ hy101 H
 have Ny101 := Zz.mk hy101
 clear hy101
 have H' := Zz.mk H
 clear H
 go_enter Try.func25, Try.ntmps25
 go_wp2_with (first | ((with_reducible refine qAm (N := 7) rfl ?_); refine Kd.R_lit (Kd.int .i64) _ 2 ?hg (N := 7) ?hd (xs := ([] : List Int)) (inner := []) (ok := fun _ => True) (okp := fun _ => True) ?hr ?hp (fun _ hk => hk) trivial (Below.refl _ _) (Nat.le_refl _) (by simp) ?_; (case hd => rfl); (case hg => rfl); (case hr => first | (go_simp; done) | (go_simp; rfl)); (case hp => exact (Reps.none _ _)); intro v102 w3 ho4 hb hg_ hnew_; clear hg_ hnew_; (first | rw [← Ny101.out] at ho4 | (simp only [Int.reduceToNat] at ho4; rw [← Ny101.out] at ho4)); have HO103 := Zz.mk (Kd.R_lower ho4 (bS_ (B_ HB.out))); replace BK50 := Zz.mk (bB_ (g := gp0) (o := .cells #[.slice A0_0 l0_0.length c0_0] 28 (0, 0)) (KB_ BK50.out) hb); replace HB := Zz.mk (bT_ (B_ HB.out) hb); clear hb ho4))
 go_loopg [5, 6] k (fun kq v5 v6 w' => ∃ (x5_1 : List Int) (x6_1 : Int), v6 = .int .i64 x6_1 ∧ Zz (z25.l0 kq a1 x5_1 x6_1 l0_0 = some r) ∧ Zz (kq ≤ k) ∧ Zz (Kd.R (Kd.int .i64) 2 w' w.heap.size (fun _ => True) v5 x5_1) ∧ Zz (w'.heap[gp0]? = some (.cells #[(.slice A0_0 l0_0.length c0_0)] 28 (0, 0))) ∧ Zz (Below w.heap.size w w'))
 case atStart => exact ⟨(y101), (0), E_, H', ⟨Nat.le_refl _⟩, ⟨KR_ HO103.out⟩, ⟨KB_ BK50.out⟩, ⟨B_ HB.out⟩⟩
 case round =>
  clear H'
  obtain ⟨x5_1, x6_1, rfl, HA, HK1, HO_5, BK50, HB⟩ := hrel
  cases gk with
  | zero => exact absurd HA.out (by simp [z25.l0])
  | succ k1 =>
   have H := HA.out
   clear HA
   simp only [z25.l0] at H
   by_cases c5 : x6_1 < (l0_0.length : Int)
   ·rw [if_pos c5] at H
    have c5b0 : decide (x6_1 < (l0_0.length : Int)) = true := decide_eq_true c5
    clear c5
    have c6b0 := O3_ H
    replace H := O2_ H
    by_cases c7 : ((rI_ l0_0 x6_1).length : Int) = (wrap64 (a1 + 1))
    ·rw [if_pos c7] at H
     have c7b0 : (((rI_ l0_0 x6_1).length : Int) == (wrap64 (a1 + 1))) = true := beq_iff_eq.mpr c7
     have c7b1 : (((rI_ l0_0 x6_1).length : Int) != (wrap64 (a1 + 1))) = false := bne_eq_false_iff_eq.mpr c7
     clear c7
     have c8 := O1_ H
     replace H := O2_ H
     have LMc8 := Zz.mk c8
     clear c8
     obtain ⟨y105, hy105⟩ : ∃ y_ : List Int, y_ = (x5_1 ++ [x6_1]) := ⟨_, rfl⟩
     replace H : (z25.l0 k1 a1 y105 (wrap64 (x6_1 + 1)) l0_0) = some r := Y_ hy105 H
     have Ny105 := Zz.mk hy105
     clear hy105
     have H' := Zz.mk H
     clear H
     obtain ⟨hcz9_0, hfz9_0⟩ := Z1f_ BK50.out
     have p104 : 0 ≤ (x6_1 : Int) := D_
     have q104 : x6_1 < (l0_0.length : Int) := D_
     obtain ⟨ad104, A104_0, c104_0, e104, hx104_0, hl104_0, hi104_0⟩ := qAs HR0_0.out x6_1 p104 q104
     cases e104
     replace hx104_0 := (HB.out.cell (World.block_lt_of_cell? w _ hx104_0)).trans hx104_0
     have HR104_0 := Zz.mk hi104_0
     have HC104_0 := Zz.mk hl104_0
     clear hi104_0 hl104_0
     replace p104 := eq_true p104
     replace q104 := eq_true q104
     go_wp2_with (first | ((with_reducible refine qA2 (b := .append) (xs := #[.tmp 28, .tmp 30]) rfl ?_); at_builtin; refine Kd.R_append (Kd.int .i64) (w0 := w) w.heap.size rfl (.tmp 28) (.tmp 30) 25 2 (.int .i64 0) 8 rfl Try.underlying25 qBs rfl (by decide) (by omega) u5 x5_1 x6_1 [.int .i64 x6_1] (fun _ => True) (fun _ => False) rfl rfl ?aP (fun _ hk => hk.elim) ?aF ?aO ?aB ?aS ?aL ?_; (case aP => exact rfl); (case aB => exact (B_ HB.out)); (case aF => exact (fun _ _ => trivial)); (case aO => exact (KR_ HO_5.out)); (case aS => exact (bS_ (B_ HB.out))); (case aL => have := LMc8.out; omega); intro v106 w10 ho hb hg hat; rw [← Ny105.out] at ho; replace BK50 := Zz.mk (qAu (g := gp0) (o := .cells #[.slice (some ad104) l0_0.length c0_0] 28 (0, 0)) (KB_ BK50.out) hg (Kd.R_ne HO_5.out BK50.out (by decide))); replace HB := Zz.mk (hb); have HO107 := Zz.mk (ho); clear HO_5; clear ho hb hg hat))
     go_roundg k1
     case measure => exact Q1_ HK1
     case rel => exact ⟨(y105), (wrap64 (x6_1 + 1)), E_, H', ⟨Q1_ HK1⟩, ⟨KR_ HO107.out⟩, ⟨KB_ BK50.out⟩, ⟨B_ HB.out⟩⟩
    rw [if_neg c7] at H
    have c7b0 : (((rI_ l0_0 x6_1).length : Int) == (wrap64 (a1 + 1))) = false := beq_eq_false_iff_ne.mpr c7
    have c7b1 : (((rI_ l0_0 x6_1).length : Int) != (wrap64 (a1 + 1))) = true := bne_iff_ne.mpr c7
    have H' := Zz.mk H
    clear H
    obtain ⟨hcz11_0, hfz11_0⟩ := Z1f_ BK50.out
    have p104 : 0 ≤ (x6_1 : Int) := D_
    have q104 : x6_1 < (l0_0.length : Int) := D_
    obtain ⟨ad104, A104_0, c104_0, e104, hx104_0, hl104_0, hi104_0⟩ := qAs HR0_0.out x6_1 p104 q104
    cases e104
    replace hx104_0 := (HB.out.cell (World.block_lt_of_cell? w _ hx104_0)).trans hx104_0
    have HR104_0 := Zz.mk hi104_0
    have HC104_0 := Zz.mk hl104_0
    clear hi104_0 hl104_0
    replace p104 := eq_true p104
    replace q104 := eq_true q104
    go_wp2
    go_roundg k1
    case measure => exact Q1_ HK1
    case rel => exact ⟨(x5_1), (wrap64 (x6_1 + 1)), E_, H', ⟨Q1_ HK1⟩, ⟨KR_ HO_5.out⟩, ⟨KB_ BK50.out⟩, ⟨B_ HB.out⟩⟩
   rw [if_neg c5] at H
   have c5b0 : decide (x6_1 < (l0_0.length : Int)) = false := decide_eq_false c5
   clear c5
   obtain rfl := OI_ H
   obtain ⟨hcz12_0, hfz12_0⟩ := Z1f_ BK50.out
   go_wp2
   go_ret
   exact ⟨_, F_, KR_ HO_5.out, B_ HB.out⟩
def z39.f (a0 : Int) : Option (Bool) := (z40.f a0 0 3).bind fun t101 => (some t101)
theorem z39.calls (a0 : Int) (r : Bool) (w : World) (h : z39.f a0 = some r) :
  Calls Try.prog 39 #[.int .i64 a0] w fun e w' => e = .returned (.bool r) ∧ Dz w w' := by
 have H : ((z40.f a0 0 3).bind fun t101 => (some t101)) = some r := h
 clear h
 replace H := OZ_ H
 obtain ⟨t101, A2, H⟩ := H
 obtain rfl := OI_ H
 go_enter Try.func39, Try.ntmps39
 go_wp2_with (first | ((with_reducible refine gC_ (f := 40) rfl ?_); refine GL_ (some 4) rfl rfl Try.func40 #[.int .i64 a0, .int .i64 0, .int .i64 3] rfl (h := ?_); (with_reducible refine (z40.calls a0 0 3 t101 _ A2.out).mono ?_); rintro e w' ⟨rfl, ⟨nd, rfl⟩⟩; refine ⟨_, rfl, ?_⟩))
 go_ret
 exact ⟨by first | rfl | (simp; done) | (simp [*]; done), by repeat (first | exact Dz.refl _ | apply Dz.step)⟩
def z63.l0 : Nat → List Int → List Int → Int → Option (Bool)
 | 0, _, _, _ => none
 | k + 1, x0, x1, x5 => if x5 < (x0.length : Int) then (if 0 ≤ x5 then (if x5 < (x1.length : Int) then (if (rd x0 x5) = (rd x1 x5) then (z63.l0 k x0 x1 (wrap64 (x5 + 1))) else (some (decide ((rd x0 x5) < (rd x1 x5))))) else (none)) else (none)) else (some false)
def z63.f (k : Nat) (l0 : List Int) (l1 : List Int) : Option (Bool) := if (l0.length : Int) = (l1.length : Int) then (z63.l0 k l0 l1 0) else (some (decide ((l0.length : Int) < (l1.length : Int))))
theorem z63.calls (k : Nat) (A0 : Option Addr) (c0 : Nat) (l0 : List Int) (A1 : Option Addr) (c1 : Nat) (l1 : List Int) (r : Bool) (w : World) (hr0 : Kd.C (Kd.int .i64) w A0 l0.length l0) (hc0 : l0.length ≤ c0) (hr1 : Kd.C (Kd.int .i64) w A1 l1.length l1) (hc1 : l1.length ≤ c1) (h : z63.f k l0 l1 = some r) :
  Calls Try.prog 63 #[.slice A0 l0.length c0, .slice A1 l1.length c1] w fun e w' => e = .returned (.bool r) ∧ Dz w w' := by
 have HR0 := Zz.mk hr0
 have HC0 := Zz.mk hc0
 clear hr0 hc0
 have HR1 := Zz.mk hr1
 have HC1 := Zz.mk hc1
 clear hr1 hc1
 have H : (if (l0.length : Int) = (l1.length : Int) then (z63.l0 k l0 l1 0) else (some (decide ((l0.length : Int) < (l1.length : Int))))) = some r := h
 clear h
 by_cases c3 : (l0.length : Int) = (l1.length : Int)
 ·rw [if_pos c3] at H
  have c3b0 : ((l0.length : Int) == (l1.length : Int)) = true := beq_iff_eq.mpr c3
  have c3b1 : ((l0.length : Int) != (l1.length : Int)) = false := bne_eq_false_iff_eq.mpr c3
  have c3b2 : (l0.length == l1.length) = true := by first | simpa using c3 | (simp at c3 ⊢; omega)
  clear c3
  have H' := Zz.mk H
  clear H
  go_enter Try.func63, Try.ntmps63
  go_wp2
  repeat (go_quiet (fail); try go_wp2)
  go_loopg [5] k (fun kq v5 w' => ∃ (x5_1 : Int), v5 = .int .i64 x5_1 ∧ Zz (z63.l0 kq l0 l1 x5_1 = some r) ∧ Zz (kq ≤ k) ∧ Dz w w')
  case atStart => exact ⟨(0), E_, H', ⟨Nat.le_refl _⟩, by repeat (first | exact Dz.refl _ | apply Dz.step)⟩
  case round =>
   clear H'
   (try clear c1);(try clear c3);(try clear c3b0);(try clear c3b1);(try clear c3b2)
   obtain ⟨x5_1, rfl, HA, HK1, ⟨m1, rfl⟩⟩ := hrel
   cases gk with
   | zero => exact absurd HA.out (by simp [z63.l0])
   | succ k1 =>
    have H := HA.out
    clear HA
    simp only [z63.l0] at H
    by_cases c4 : x5_1 < (l0.length : Int)
    ·rw [if_pos c4] at H
     have c4b0 : decide (x5_1 < (l0.length : Int)) = true := decide_eq_true c4
     clear c4
     have c5b0 := O3_ H
     replace H := O2_ H
     have c6b0 := O3_ H
     replace H := O2_ H
     by_cases c7 : (rd l0 x5_1) = (rd l1 x5_1)
     ·rw [if_pos c7] at H
      have c7b0 : ((rd l0 x5_1) == (rd l1 x5_1)) = true := beq_iff_eq.mpr c7
      have c7b1 : ((rd l0 x5_1) != (rd l1 x5_1)) = false := bne_eq_false_iff_eq.mpr c7
      clear c7
      have H' := Zz.mk H
      clear H
      have p101 : 0 ≤ (x5_1 : Int) := D_
      have q101 : x5_1 < (l0.length : Int) := D_
      obtain ⟨ad101, e101, hx101_0⟩ := Kd.at_int HR0.out x5_1 p101 q101
      cases e101
      replace p101 := eq_true p101
      replace q101 := eq_true q101
      have p102 : 0 ≤ (x5_1 : Int) := D_
      have q102 : x5_1 < (l1.length : Int) := D_
      obtain ⟨ad102, e102, hx102_0⟩ := Kd.at_int HR1.out x5_1 p102 q102
      cases e102
      replace p102 := eq_true p102
      replace q102 := eq_true q102
      go_wp2
      repeat (go_quiet (fail); try go_wp2)
      go_roundg k1
      case measure => exact Q1_ HK1
      case rel => exact ⟨(wrap64 (x5_1 + 1)), E_, H', ⟨Q1_ HK1⟩, by repeat (first | exact Dz.refl _ | apply Dz.step)⟩
     rw [if_neg c7] at H
     have c7b0 : ((rd l0 x5_1) == (rd l1 x5_1)) = false := beq_eq_false_iff_ne.mpr c7
     have c7b1 : ((rd l0 x5_1) != (rd l1 x5_1)) = true := bne_iff_ne.mpr c7
     obtain rfl := OI_ H
     have p101 : 0 ≤ (x5_1 : Int) := D_
     have q101 : x5_1 < (l0.length : Int) := D_
     obtain ⟨ad101, e101, hx101_0⟩ := Kd.at_int HR0.out x5_1 p101 q101
     cases e101
     replace p101 := eq_true p101
     replace q101 := eq_true q101
     have p102 : 0 ≤ (x5_1 : Int) := D_
     have q102 : x5_1 < (l1.length : Int) := D_
     obtain ⟨ad102, e102, hx102_0⟩ := Kd.at_int HR1.out x5_1 p102 q102
     cases e102
     replace p102 := eq_true p102
     replace q102 := eq_true q102
     have p103 : 0 ≤ (x5_1 : Int) := D_
     have q103 : x5_1 < (l0.length : Int) := D_
     obtain ⟨ad103, e103, hx103_0⟩ := Kd.at_int HR0.out x5_1 p103 q103
     obtain rfl : ad101 = ad103 := (by injection e103)
     replace p103 := eq_true p103
     replace q103 := eq_true q103
     have p104 : 0 ≤ (x5_1 : Int) := D_
     have q104 : x5_1 < (l1.length : Int) := D_
     obtain ⟨ad104, e104, hx104_0⟩ := Kd.at_int HR1.out x5_1 p104 q104
     obtain rfl : ad102 = ad104 := (by injection e104)
     replace p104 := eq_true p104
     replace q104 := eq_true q104
     go_wp2
     repeat (go_quiet (fail); try go_wp2)
     go_ret
     exact ⟨by first | rfl | (simp; done) | (simp [*]; done), by repeat (first | exact Dz.refl _ | apply Dz.step)⟩
    rw [if_neg c4] at H
    have c4b0 : decide (x5_1 < (l0.length : Int)) = false := decide_eq_false c4
    clear c4
    obtain rfl := OI_ H
    go_wp2
    repeat (go_quiet (fail); try go_wp2)
    go_ret
    exact ⟨by first | rfl | (simp; done) | (simp [*]; done), by repeat (first | exact Dz.refl _ | apply Dz.step)⟩
 rw [if_neg c3] at H
 have c3b0 : ((l0.length : Int) == (l1.length : Int)) = false := beq_eq_false_iff_ne.mpr c3
 have c3b1 : ((l0.length : Int) != (l1.length : Int)) = true := bne_iff_ne.mpr c3
 have c3b2 : (l0.length == l1.length) = false := by first | simpa using c3 | (simp at c3 ⊢; omega)
 obtain rfl := OI_ H
 go_enter Try.func63, Try.ntmps63
 go_wp2
 repeat (go_quiet (fail); try go_wp2)
 go_ret
 exact ⟨by first | rfl | (simp; done) | (simp [*]; done), by repeat (first | exact Dz.refl _ | apply Dz.step)⟩
def z67.f (l0 : List Int) : Option (List Int) := (some (([] : List Int) : List Int)).bind fun y101 => (if y101.length + l0.length < 17592186044416 then (some (y101 ++ l0)) else (none))
theorem z67.calls (A0 : Option Addr) (c0 : Nat) (l0 : List Int) (r : List Int) (w : World) (hr0 : Kd.C (Kd.int .i64) w A0 l0.length l0) (hc0 : l0.length ≤ c0) (h : z67.f l0 = some r) :
  Calls Try.prog 67 #[.slice A0 l0.length c0] w fun e w' => ∃ v0_ : Value, e = .returned (v0_) ∧ Kd.R (Kd.int .i64) 2 w' w.heap.size (fun _ => True) v0_ r ∧ Below w.heap.size w w' := by
 have HR0 := Zz.mk hr0
 have HC0 := Zz.mk hc0
 clear hr0 hc0
 have HB := Zz.mk (Below.refl w.heap.size w)
 have H : ((some (([] : List Int) : List Int)).bind fun y101 => (if y101.length + l0.length < 17592186044416 then (some (y101 ++ l0)) else (none))) = some r := h
 clear h
 obtain ⟨y101, hy101⟩ : ∃ y_ : List Int, y_ = (([] : List Int)) := ⟨_, rfl⟩
 replace H : (if y101.length + l0.length < 17592186044416 then (some (y101 ++ l0)) else (none)) = some r := Y_ hy101 H
 have Ny101 := Zz.mk hy101
 clear hy101
 have c2 := O1_ H
 replace H := O2_ H
 have LMc2 := Zz.mk c2
 clear c2
 obtain ⟨y104, hy104⟩ : ∃ y_ : List Int, y_ = (y101 ++ l0) := ⟨_, rfl⟩
 replace H : (some y104) = some r := Y_ hy104 H
 have Ny104 := Zz.mk hy104
 clear hy104
 obtain rfl := OI_ H
 go_enter Try.func67, Try.ntmps67
 go_wp2_with (first | ((with_reducible refine qAm (N := 3) rfl ?_); refine Kd.R_lit (Kd.int .i64) _ 2 ?hg (N := 3) ?hd (xs := ([] : List Int)) (inner := []) (ok := fun _ => True) (okp := fun _ => True) ?hr ?hp (fun _ hk => hk) trivial (Below.refl _ _) (Nat.le_refl _) (by simp) ?_; (case hd => rfl); (case hg => rfl); (case hr => first | (go_simp; done) | (go_simp; rfl)); (case hp => exact (Reps.none _ _)); intro v102 w3 ho4 hb hg_ hnew_; clear hg_ hnew_; (first | rw [← Ny101.out] at ho4 | (simp only [Int.reduceToNat] at ho4; rw [← Ny101.out] at ho4)); have HO103 := Zz.mk (Kd.R_lower ho4 (bS_ (B_ HB.out))); replace HB := Zz.mk (bT_ (B_ HB.out) hb); clear hb ho4) | ((with_reducible refine qA2 (b := .append) (xs := #[.tmp 3, .tmp 4]) rfl ?_); at_builtin; refine Kd.R_append_rows (Kd.int .i64) (w0 := w) w.heap.size rfl (.tmp 3) (.tmp 4) 25 2 (.int .i64 0) 8 rfl Try.underlying25 qBs rfl (by decide) (by omega) v102 y101 l0 _ _ _ (fun _ => True) (fun _ => False) rfl rfl ?aO ?aR (fun _ _ h => h) (fun _ h => h.elim) ?aF ?aB ?aS ?aL ?_; (case aR => exact KC_ (Kd.C_below HR0.out HB.out)); (case aB => exact (B_ HB.out)); (case aF => exact (fun _ _ => trivial)); (case aO => exact (KR_ HO103.out)); (case aS => exact (bS_ (B_ HB.out))); (case aL => have := LMc2.out; omega); intro v105 w5 ho hb hg hat; rw [← Ny104.out] at ho; replace HB := Zz.mk (hb); have HO106 := Zz.mk (ho); clear HO103; clear ho hb hg hat))
 go_ret
 exact ⟨_, F_, KR_ HO106.out, B_ HB.out⟩
def z65.f (l0 : List Int) (a1 : Int) : Option (List Int) := if 0 ≤ a1 then (if a1 ≤ (l0.length : Int) then ((z67.f (l0.take (a1 : Int).toNat)).bind fun t102 => (if 0 ≤ (wrap64 (a1 + 1)) then (if (wrap64 (a1 + 1)) ≤ (l0.length : Int) then (if t102.length + (l0.drop ((wrap64 (a1 + 1)) : Int).toNat).length < 17592186044416 then (some (t102 ++ (l0.drop ((wrap64 (a1 + 1)) : Int).toNat))) else (none)) else (none)) else (none))) else (none)) else (none)
theorem z65.calls (A0 : Option Addr) (c0 : Nat) (l0 : List Int) (a1 : Int) (r : List Int) (w : World) (hr0 : Kd.C (Kd.int .i64) w A0 l0.length l0) (hc0 : l0.length ≤ c0) (h : z65.f l0 a1 = some r) :
  Calls Try.prog 65 #[.slice A0 l0.length c0, .int .i64 a1] w fun e w' => ∃ v0_ : Value, e = .returned (v0_) ∧ Kd.R (Kd.int .i64) 2 w' w.heap.size (fun _ => True) v0_ r ∧ Below w.heap.size w w' := by
 have HR0 := Zz.mk hr0
 have HC0 := Zz.mk hc0
 clear hr0 hc0
 have HB := Zz.mk (Below.refl w.heap.size w)
 have H : (if 0 ≤ a1 then (if a1 ≤ (l0.length : Int) then ((z67.f (l0.take (a1 : Int).toNat)).bind fun t102 => (if 0 ≤ (wrap64 (a1 + 1)) then (if (wrap64 (a1 + 1)) ≤ (l0.length : Int) then (if t102.length + (l0.drop ((wrap64 (a1 + 1)) : Int).toNat).length < 17592186044416 then (some (t102 ++ (l0.drop ((wrap64 (a1 + 1)) : Int).toNat))) else (none)) else (none)) else (none))) else (none)) else (none)) = some r := h
 clear h
 have c3 := O1_ H
 replace H := O2_ H
 have c3b0 := eq_true c3
 have c3b1 : decide (0 ≤ a1) = true := decide_eq_true c3
 clear c3
 have c4 := O1_ H
 replace H := O2_ H
 have c4b0 := eq_true c4
 have c4b1 : decide (a1 ≤ (l0.length : Int)) = true := decide_eq_true c4
 clear c4
 replace H := OZ_ H
 obtain ⟨t102, A5, H⟩ := H
 obtain ⟨ji6, hji6⟩ : ∃ j_ : Int, (wrap64 (a1 + 1)) = j_ := ⟨_, rfl⟩
 replace H : (if 0 ≤ (ji6) then (if (ji6) ≤ (l0.length : Int) then (if t102.length + (l0.drop ((ji6) : Int).toNat).length < 17592186044416 then (some (t102 ++ (l0.drop ((ji6) : Int).toNat))) else (none)) else (none)) else (none)) = some r := by first | (rw [hji6] at H; exact H) | (simp only [hji6] at H ⊢; exact H)
 (try rw [hji6] at A5)
 have hji6w : (IntKind.i64.wrap (a1 + 1)) = ji6 := (qA6 _).trans hji6
 have c7 := O1_ H
 replace H := O2_ H
 have c7b0 := eq_true c7
 have c7b1 : decide (0 ≤ (ji6)) = true := decide_eq_true c7
 clear c7
 have c8 := O1_ H
 replace H := O2_ H
 have c8b0 := eq_true c8
 have c8b1 : decide ((ji6) ≤ (l0.length : Int)) = true := decide_eq_true c8
 clear c8
 have c9 := O1_ H
 replace H := O2_ H
 have LMc9 := Zz.mk c9
 clear c9
 obtain ⟨y106, hy106⟩ : ∃ y_ : List Int, y_ = (t102 ++ (l0.drop ((ji6) : Int).toNat)) := ⟨_, rfl⟩
 replace H : (some y106) = some r := Y_ hy106 H
 have Ny106 := Zz.mk hy106
 clear hy106
 obtain rfl := OI_ H
 obtain ⟨i010, hi010, _, hsz10, _⟩ := info_parts qBs
 obtain ⟨hcut10, hA10, hC10⟩ := qGj (P := Try.prog) (Value.int .i64) 0 25 2 .i64 Try.underlying25 hi010 hsz10 A0 c0 l0 a1 (D_) (D_) HC0.out
 have HR101 := Zz.mk (Kd.C_of_reads (h1 := fun _ => rfl) (hA10 _ (Kd.reads_of_C HR0.out)))
 have HC101 := Zz.mk hC10
 clear hA10 hC10 hi010 hsz10
 go_enter Try.func65, Try.ntmps65
 go_wp2_with (first | ((with_reducible refine gC_ (f := 67) rfl ?_); refine qKc (some 9) rfl rfl Try.func67 (by kernel_rfl) rfl #[.slice A0 (l0.take (a1 : Int).toNat).length c0] rfl (by (try simp only [List.map_toArray, List.map_cons, List.map_nil]); first | done | (rw [show (l0.take (a1 : Int).toNat).length = a1.toNat from (by rw [List.length_take]; have h_ : (a1 : Int) ≤ (l0.length : Int) := D_; omega)] <;> rfl) | rfl | (simp only [List.length_drop, List.length_take]; rfl)) ?_; (with_reducible refine (z67.calls _ _ (l0.take (a1 : Int).toNat) t102 _ ?side1 ?side2 A5.out).mono ?_); (case side1 => exact KC_ HR101.out); (case side2 => exact HC101.out); rintro e w11 ⟨v103, rfl, ho0, hb⟩; refine ⟨_, rfl, ?_⟩; have HO104 := Zz.mk (Kd.R_lower ho0 (bS_ (B_ HB.out))); replace HB := Zz.mk (bT_ (B_ HB.out) hb); (try clear hb); (try clear hb2); (try clear hk); (try clear hi); (try clear ho0); obtain ⟨i012, hi012, _, hsz12, _⟩ := info_parts qBs; obtain ⟨A12, hcut12, hA12, hC12⟩ := qGk (P := Try.prog) (Value.int .i64) 0 25 2 .i64 Try.underlying25 hi012 hsz12 A0 c0 l0 (ji6) (D_) (D_) HC0.out; have HR105 := Zz.mk (Kd.C_of_reads (h1 := fun _ => rfl) (hA12 _ (Kd.reads_of_C HR0.out))); have HC105 := Zz.mk hC12; clear hA12 hC12 hi012 hsz12) | ((with_reducible refine qA2 (b := .append) (xs := #[.tmp 10, .tmp 14]) rfl ?_); at_builtin; refine Kd.R_append_rows (Kd.int .i64) (w0 := w) w.heap.size rfl (.tmp 10) (.tmp 14) 25 2 (.int .i64 0) 8 rfl Try.underlying25 qBs rfl (by decide) (by omega) v103 t102 (l0.drop ((ji6) : Int).toNat) _ _ _ (fun _ => True) (fun _ => False) rfl rfl ?aO ?aR (fun _ _ h => h) (fun _ h => h.elim) ?aF ?aB ?aS ?aL ?_; (case aR => first | (rw [← show (l0.drop ((ji6) : Int).toNat).length = (l0.length - (ji6).toNat) from List.length_drop]; repeat (first | exact (Kd.C_below HR105.out HB.out) | (with_reducible refine Kd.C_alloc ?_ _) | (with_reducible refine Kd.C_drewN ?_ _) | (with_reducible refine Kd.C_drew ?_))) | (repeat (first | exact (Kd.C_below HR105.out HB.out) | (with_reducible refine Kd.C_alloc ?_ _) | (with_reducible refine Kd.C_drewN ?_ _) | (with_reducible refine Kd.C_drew ?_)))); (case aB => exact (B_ HB.out)); (case aF => exact (fun _ _ => trivial)); (case aO => exact (KR_ HO104.out)); (case aS => exact (bS_ (B_ HB.out))); (case aL => have := LMc9.out; have hlx_ := (show (l0.drop ((ji6) : Int).toNat).length = (l0.length - (ji6).toNat) from List.length_drop); omega); intro v107 w13 ho hb hg hat; rw [← Ny106.out] at ho; replace HB := Zz.mk (hb); have HO108 := Zz.mk (ho); clear HO104; clear ho hb hg hat))
 go_ret
 exact ⟨_, by first | rfl | (simp [qB1, qB0] <;> rfl) | (simp only [← hji6]; first | rfl | (simp [qB1, qB0] <;> rfl)) | (simp [*, qB1, qB0] <;> rfl), KR_ HO108.out, B_ HB.out⟩
def z86.l0 : Nat → List Int → List Int → Int → Option (Bool)
 | 0, _, _, _ => none
 | k + 1, x0, x1, x5 => if x5 < (x0.length : Int) then (if 0 ≤ x5 then (if x5 < (x1.length : Int) then (if (rd x0 x5) = (rd x1 x5) then (z86.l0 k x0 x1 (wrap64 (x5 + 1))) else (some false)) else (none)) else (none)) else (some true)
def z86.f (k : Nat) (l0 : List Int) (l1 : List Int) : Option (Bool) := if (l0.length : Int) = (l1.length : Int) then (z86.l0 k l0 l1 0) else (some false)
theorem z86.calls (k : Nat) (A0 : Option Addr) (c0 : Nat) (l0 : List Int) (A1 : Option Addr) (c1 : Nat) (l1 : List Int) (r : Bool) (w : World) (hr0 : Kd.C (Kd.int .i64) w A0 l0.length l0) (hc0 : l0.length ≤ c0) (hr1 : Kd.C (Kd.int .i64) w A1 l1.length l1) (hc1 : l1.length ≤ c1) (h : z86.f k l0 l1 = some r) :
  Calls Try.prog 86 #[.slice A0 l0.length c0, .slice A1 l1.length c1] w fun e w' => e = .returned (.bool r) ∧ Dz w w' := by
 have HR0 := Zz.mk hr0
 have HC0 := Zz.mk hc0
 clear hr0 hc0
 have HR1 := Zz.mk hr1
 have HC1 := Zz.mk hc1
 clear hr1 hc1
 have H : (if (l0.length : Int) = (l1.length : Int) then (z86.l0 k l0 l1 0) else (some false)) = some r := h
 clear h
 by_cases c3 : (l0.length : Int) = (l1.length : Int)
 ·rw [if_pos c3] at H
  have c3b0 : ((l0.length : Int) == (l1.length : Int)) = true := beq_iff_eq.mpr c3
  have c3b1 : ((l0.length : Int) != (l1.length : Int)) = false := bne_eq_false_iff_eq.mpr c3
  have c3b2 : (l0.length == l1.length) = true := by first | simpa using c3 | (simp at c3 ⊢; omega)
  clear c3
  have H' := Zz.mk H
  clear H
  go_enter Try.func86, Try.ntmps86
  go_wp2
  repeat (go_quiet (fail); try go_wp2)
  go_loopg [5] k (fun kq v5 w' => ∃ (x5_1 : Int), v5 = .int .i64 x5_1 ∧ Zz (z86.l0 kq l0 l1 x5_1 = some r) ∧ Zz (kq ≤ k) ∧ Dz w w')
  case atStart => exact ⟨(0), E_, H', ⟨Nat.le_refl _⟩, by repeat (first | exact Dz.refl _ | apply Dz.step)⟩
  case round =>
   clear H'
   (try clear c1);(try clear c3);(try clear c3b0);(try clear c3b1);(try clear c3b2)
   obtain ⟨x5_1, rfl, HA, HK1, ⟨m1, rfl⟩⟩ := hrel
   cases gk with
   | zero => exact absurd HA.out (by simp [z86.l0])
   | succ k1 =>
    have H := HA.out
    clear HA
    simp only [z86.l0] at H
    by_cases c4 : x5_1 < (l0.length : Int)
    ·rw [if_pos c4] at H
     have c4b0 : decide (x5_1 < (l0.length : Int)) = true := decide_eq_true c4
     clear c4
     have c5b0 := O3_ H
     replace H := O2_ H
     have c6b0 := O3_ H
     replace H := O2_ H
     by_cases c7 : (rd l0 x5_1) = (rd l1 x5_1)
     ·rw [if_pos c7] at H
      have c7b0 : ((rd l0 x5_1) == (rd l1 x5_1)) = true := beq_iff_eq.mpr c7
      have c7b1 : ((rd l0 x5_1) != (rd l1 x5_1)) = false := bne_eq_false_iff_eq.mpr c7
      clear c7
      have H' := Zz.mk H
      clear H
      have p101 : 0 ≤ (x5_1 : Int) := D_
      have q101 : x5_1 < (l0.length : Int) := D_
      obtain ⟨ad101, e101, hx101_0⟩ := Kd.at_int HR0.out x5_1 p101 q101
      cases e101
      replace p101 := eq_true p101
      replace q101 := eq_true q101
      have p102 : 0 ≤ (x5_1 : Int) := D_
      have q102 : x5_1 < (l1.length : Int) := D_
      obtain ⟨ad102, e102, hx102_0⟩ := Kd.at_int HR1.out x5_1 p102 q102
      cases e102
      replace p102 := eq_true p102
      replace q102 := eq_true q102
      go_wp2
      repeat (go_quiet (fail); try go_wp2)
      go_roundg k1
      case measure => exact Q1_ HK1
      case rel => exact ⟨(wrap64 (x5_1 + 1)), E_, H', ⟨Q1_ HK1⟩, by repeat (first | exact Dz.refl _ | apply Dz.step)⟩
     rw [if_neg c7] at H
     have c7b0 : ((rd l0 x5_1) == (rd l1 x5_1)) = false := beq_eq_false_iff_ne.mpr c7
     have c7b1 : ((rd l0 x5_1) != (rd l1 x5_1)) = true := bne_iff_ne.mpr c7
     obtain rfl := OI_ H
     have p101 : 0 ≤ (x5_1 : Int) := D_
     have q101 : x5_1 < (l0.length : Int) := D_
     obtain ⟨ad101, e101, hx101_0⟩ := Kd.at_int HR0.out x5_1 p101 q101
     cases e101
     replace p101 := eq_true p101
     replace q101 := eq_true q101
     have p102 : 0 ≤ (x5_1 : Int) := D_
     have q102 : x5_1 < (l1.length : Int) := D_
     obtain ⟨ad102, e102, hx102_0⟩ := Kd.at_int HR1.out x5_1 p102 q102
     cases e102
     replace p102 := eq_true p102
     replace q102 := eq_true q102
     go_wp2
     repeat (go_quiet (fail); try go_wp2)
     go_ret
     exact ⟨by first | rfl | (simp; done) | (simp [*]; done), by repeat (first | exact Dz.refl _ | apply Dz.step)⟩
    rw [if_neg c4] at H
    have c4b0 : decide (x5_1 < (l0.length : Int)) = false := decide_eq_false c4
    clear c4
    obtain rfl := OI_ H
    go_wp2
    repeat (go_quiet (fail); try go_wp2)
    go_ret
    exact ⟨by first | rfl | (simp; done) | (simp [*]; done), by repeat (first | exact Dz.refl _ | apply Dz.step)⟩
 rw [if_neg c3] at H
 have c3b0 : ((l0.length : Int) == (l1.length : Int)) = false := beq_eq_false_iff_ne.mpr c3
 have c3b1 : ((l0.length : Int) != (l1.length : Int)) = true := bne_iff_ne.mpr c3
 have c3b2 : (l0.length == l1.length) = false := by first | simpa using c3 | (simp at c3 ⊢; omega)
 obtain rfl := OI_ H
 go_enter Try.func86, Try.ntmps86
 go_wp2
 repeat (go_quiet (fail); try go_wp2)
 go_ret
 exact ⟨by first | rfl | (simp; done) | (simp [*]; done), by repeat (first | exact Dz.refl _ | apply Dz.step)⟩
def z64.l0 : Nat → List Int → Int → List (List Int) → Option (Int)
 | 0, _, _, _ => none
 | k + 1, x1, x5, x51000 => if x5 < (x51000.length : Int) then (if 0 ≤ x5 then ((z86.f k (rI_ x51000 x5) x1).bind fun t102 => (if t102 = true then (some x5) else (z64.l0 k x1 (wrap64 (x5 + 1)) x51000))) else (none)) else (some (-1))
def z64.f (k : Nat) (l0_0 : List (List Int)) (l1 : List Int) : Option (Int) := z64.l0 k l1 0 l0_0
theorem z64.calls (k : Nat) (gp0 : Nat) (A0_0 : Option Addr) (c0_0 : Nat) (l0_0 : List (List Int)) (A1 : Option Addr) (c1 : Nat) (l1 : List Int) (r : Int) (w : World) (hbp0 : w.heap[gp0]? = some (.cells #[.slice A0_0 l0_0.length c0_0] 28 (0, 0))) (hr0_0 : Kd.C (Kd.slice 2 (Kd.int .i64)) w A0_0 l0_0.length l0_0) (hc0_0 : l0_0.length ≤ c0_0) (hr1 : Kd.C (Kd.int .i64) w A1 l1.length l1) (hc1 : l1.length ≤ c1) (h : z64.f k l0_0 l1 = some r) :
  Calls Try.prog 64 #[.pointer (some ⟨gp0, 0, none⟩), .slice A1 l1.length c1] w fun e w' => e = .returned (.int .i64 r) ∧ Dz w w' := by
 have HR0_0 := Zz.mk hr0_0
 have HC0_0 := Zz.mk hc0_0
 clear hr0_0 hc0_0
 have HR1 := Zz.mk hr1
 have HC1 := Zz.mk hc1
 clear hr1 hc1
 have BK50 := Zz.mk hbp0
 clear hbp0
 have H : (z64.l0 k l1 0 l0_0) = some r := h
 clear h
 have H' := Zz.mk H
 clear H
 go_enter Try.func64, Try.ntmps64
 go_wp2
 go_loopg [5] k (fun kq v5 w' => ∃ (x5_1 : Int), v5 = .int .i64 x5_1 ∧ Zz (z64.l0 kq l1 x5_1 l0_0 = some r) ∧ Zz (kq ≤ k) ∧ Zz (w'.heap[gp0]? = some (.cells #[(.slice A0_0 l0_0.length c0_0)] 28 (0, 0))) ∧ Dz w w')
 case atStart => exact ⟨(0), E_, H', ⟨Nat.le_refl _⟩, ⟨KB_ BK50.out⟩, by repeat (first | exact Dz.refl _ | apply Dz.step)⟩
 case round =>
  clear H'
  (try clear c1)
  obtain ⟨x5_1, rfl, HA, HK1, BK50, ⟨m1, rfl⟩⟩ := hrel
  cases gk with
  | zero => exact absurd HA.out (by simp [z64.l0])
  | succ k1 =>
   have H := HA.out
   clear HA
   simp only [z64.l0] at H
   by_cases c3 : x5_1 < (l0_0.length : Int)
   ·rw [if_pos c3] at H
    have c3b0 : decide (x5_1 < (l0_0.length : Int)) = true := decide_eq_true c3
    clear c3
    have c4b0 := O3_ H
    replace H := O2_ H
    replace H := OZ_ H
    obtain ⟨t102, A5, H⟩ := H
    by_cases c6 : t102 = true
    ·subst c6
     replace H := T_ H
     obtain rfl := OI_ H
     obtain ⟨hcz7_0, hfz7_0⟩ := Z1f_ BK50.out
     have p101 : 0 ≤ (x5_1 : Int) := D_
     have q101 : x5_1 < (l0_0.length : Int) := D_
     obtain ⟨ad101, A101_0, c101_0, e101, hx101_0, hl101_0, hi101_0⟩ := qAs HR0_0.out x5_1 p101 q101
     cases e101
     have HR101_0 := Zz.mk hi101_0
     have HC101_0 := Zz.mk hl101_0
     clear hi101_0 hl101_0
     replace p101 := eq_true p101
     replace q101 := eq_true q101
     go_wp2_with (first | ((with_reducible refine gC_ (f := 86) rfl ?_); refine GL_ (some 23) rfl rfl Try.func86 #[.slice A101_0 (rI_ l0_0 x5_1).length c101_0, .slice A1 l1.length c1] rfl (h := ?_); (with_reducible refine (z86.calls k1 _ _ (rI_ l0_0 x5_1) _ _ l1 true _ ?side1 ?side2 ?side3 ?side4 A5.out).mono ?_); (case side1 => exact KC_ HR101_0.out); (case side2 => exact HC101_0.out); (case side3 => exact KC_ HR1.out); (case side4 => exact HC1.out); rintro e w' ⟨rfl, ⟨nd, rfl⟩⟩; refine ⟨_, rfl, ?_⟩))
     go_ret
     exact ⟨by first | rfl | (simp; done) | (simp [*]; done), by repeat (first | exact Dz.refl _ | apply Dz.step)⟩
    replace c6 := Bool.eq_false_iff.mpr c6
    subst c6
    replace H := N_ H
    have H' := Zz.mk H
    clear H
    obtain ⟨hcz8_0, hfz8_0⟩ := Z1f_ BK50.out
    have p101 : 0 ≤ (x5_1 : Int) := D_
    have q101 : x5_1 < (l0_0.length : Int) := D_
    obtain ⟨ad101, A101_0, c101_0, e101, hx101_0, hl101_0, hi101_0⟩ := qAs HR0_0.out x5_1 p101 q101
    cases e101
    have HR101_0 := Zz.mk hi101_0
    have HC101_0 := Zz.mk hl101_0
    clear hi101_0 hl101_0
    replace p101 := eq_true p101
    replace q101 := eq_true q101
    go_wp2_with (first | ((with_reducible refine gC_ (f := 86) rfl ?_); refine GL_ (some 23) rfl rfl Try.func86 #[.slice A101_0 (rI_ l0_0 x5_1).length c101_0, .slice A1 l1.length c1] rfl (h := ?_); (with_reducible refine (z86.calls k1 _ _ (rI_ l0_0 x5_1) _ _ l1 false _ ?side1 ?side2 ?side3 ?side4 A5.out).mono ?_); (case side1 => exact KC_ HR101_0.out); (case side2 => exact HC101_0.out); (case side3 => exact KC_ HR1.out); (case side4 => exact HC1.out); rintro e w' ⟨rfl, ⟨nd, rfl⟩⟩; refine ⟨_, rfl, ?_⟩))
    go_roundg k1
    case measure => exact Q1_ HK1
    case rel => exact ⟨(wrap64 (x5_1 + 1)), E_, H', ⟨Q1_ HK1⟩, ⟨KB_ BK50.out⟩, by repeat (first | exact Dz.refl _ | apply Dz.step)⟩
   rw [if_neg c3] at H
   have c3b0 : decide (x5_1 < (l0_0.length : Int)) = false := decide_eq_false c3
   clear c3
   obtain rfl := OI_ H
   obtain ⟨hcz9_0, hfz9_0⟩ := Z1f_ BK50.out
   go_wp2
   go_ret
   exact ⟨by first | rfl | (simp; done) | (simp [*]; done), by repeat (first | exact Dz.refl _ | apply Dz.step)⟩
def z85.l0 : Nat → List Int → Int → Int → Int → Option (Bool)
 | 0, _, _, _, _ => none
 | k + 1, x0, x1, x2, x7 => if x7 < (x0.length : Int) then (if 0 ≤ x7 then ((z40.f (rd x0 x7) x1 x2).bind fun t102 => (if t102 = true then (if x7 > 0 then (if 0 ≤ (wrap64 (x7 - 1)) then (if (wrap64 (x7 - 1)) < (x0.length : Int) then (if (rd x0 (wrap64 (x7 - 1))) ≥ (rd x0 x7) then (some false) else (z85.l0 k x0 x1 x2 (wrap64 (x7 + 1)))) else (none)) else (none)) else (z85.l0 k x0 x1 x2 (wrap64 (x7 + 1)))) else (some false))) else (none)) else (some true)
def z85.f (k : Nat) (l0 : List Int) (a1 : Int) (a2 : Int) : Option (Bool) := z85.l0 k l0 a1 a2 0
theorem z85.calls (k : Nat) (A0 : Option Addr) (c0 : Nat) (l0 : List Int) (a1 : Int) (a2 : Int) (r : Bool) (w : World) (hr0 : Kd.C (Kd.int .i64) w A0 l0.length l0) (hc0 : l0.length ≤ c0) (h : z85.f k l0 a1 a2 = some r) :
  Calls Try.prog 85 #[.slice A0 l0.length c0, .int .i64 a1, .int .i64 a2] w fun e w' => e = .returned (.bool r) ∧ Dz w w' := by
 have HR0 := Zz.mk hr0
 have HC0 := Zz.mk hc0
 clear hr0 hc0
 have H : (z85.l0 k l0 a1 a2 0) = some r := h
 clear h
 have H' := Zz.mk H
 clear H
 go_enter Try.func85, Try.ntmps85
 go_wp2
 repeat (go_quiet (fail); try go_wp2)
 go_loopg [7] k (fun kq v7 w' => ∃ (x7_1 : Int), v7 = .int .i64 x7_1 ∧ Zz (z85.l0 kq l0 a1 a2 x7_1 = some r) ∧ Zz (kq ≤ k) ∧ Dz w w')
 case atStart => exact ⟨(0), E_, H', ⟨Nat.le_refl _⟩, by repeat (first | exact Dz.refl _ | apply Dz.step)⟩
 case round =>
  clear H'
  obtain ⟨x7_1, rfl, HA, HK1, ⟨m1, rfl⟩⟩ := hrel
  cases gk with
  | zero => exact absurd HA.out (by simp [z85.l0])
  | succ k1 =>
   have H := HA.out
   clear HA
   simp only [z85.l0] at H
   by_cases c4 : x7_1 < (l0.length : Int)
   ·rw [if_pos c4] at H
    have c4b0 : decide (x7_1 < (l0.length : Int)) = true := decide_eq_true c4
    clear c4
    have c5b0 := O3_ H
    replace H := O2_ H
    replace H := OZ_ H
    obtain ⟨t102, A6, H⟩ := H
    by_cases c7 : t102 = true
    ·subst c7
     replace H := T_ H
     by_cases c8 : x7_1 > 0
     ·rw [if_pos c8] at H
      have c8b0 : decide (0 < x7_1) = true := decide_eq_true c8
      clear c8
      obtain ⟨ji9, hji9⟩ : ∃ j_ : Int, (wrap64 (x7_1 - 1)) = j_ := ⟨_, rfl⟩
      replace H : (if 0 ≤ (ji9) then (if (ji9) < (l0.length : Int) then (if (rd l0 (ji9)) ≥ (rd l0 x7_1) then (some false) else (z85.l0 k1 l0 a1 a2 (wrap64 (x7_1 + 1)))) else (none)) else (none)) = some r := by first | (rw [hji9] at H; exact H) | (simp only [hji9] at H ⊢; exact H)
      (try rw [hji9] at A6)
      have hji9w : (IntKind.i64.wrap (x7_1 - 1)) = ji9 := (qA6 _).trans hji9
      have c10b0 := O3_ H
      replace H := O2_ H
      have c11b0 := O3_ H
      replace H := O2_ H
      by_cases c12 : (rd l0 (ji9)) ≥ (rd l0 x7_1)
      ·rw [if_pos c12] at H
       have c12b0 : decide ((rd l0 x7_1) ≤ (rd l0 (ji9))) = true := decide_eq_true c12
       clear c12
       obtain rfl := OI_ H
       have p101 : 0 ≤ (x7_1 : Int) := D_
       have q101 : x7_1 < (l0.length : Int) := D_
       obtain ⟨ad101, e101, hx101_0⟩ := Kd.at_int HR0.out x7_1 p101 q101
       cases e101
       replace p101 := eq_true p101
       replace q101 := eq_true q101
       go_wp2_with (first | (go_at_call 40; (with_reducible refine (z40.calls (rd l0 x7_1) a1 a2 true _ A6.out).mono ?_); rintro e w' ⟨rfl, ⟨nd, rfl⟩⟩; (try first | exact ⟨rfl, _, World.drewN_drewN _ _ _⟩ | exact ⟨rfl, _, Eq.trans (World.drewN_drewN _ _ _) (congrArg (World.drewN _) (Nat.add_assoc _ _ _))⟩); have p103 : 0 ≤ ((ji9) : Int) := D_; have q103 : (ji9) < (l0.length : Int) := D_; obtain ⟨ad103, e103, hx103_0⟩ := Kd.at_int HR0.out (ji9) p103 q103; obtain rfl : ad101 = ad103 := (by injection e103); replace p103 := eq_true p103; replace q103 := eq_true q103; have p104 : 0 ≤ (x7_1 : Int) := D_; have q104 : x7_1 < (l0.length : Int) := D_; obtain ⟨ad104, e104, hx104_0⟩ := Kd.at_int HR0.out x7_1 p104 q104; obtain rfl : ad101 = ad104 := (by injection e104); replace p104 := eq_true p104; replace q104 := eq_true q104))
       repeat (go_quiet (first | (go_at_call 40; (with_reducible refine (z40.calls (rd l0 x7_1) a1 a2 true _ A6.out).mono ?_); rintro e w' ⟨rfl, ⟨nd, rfl⟩⟩; (try first | exact ⟨rfl, _, World.drewN_drewN _ _ _⟩ | exact ⟨rfl, _, Eq.trans (World.drewN_drewN _ _ _) (congrArg (World.drewN _) (Nat.add_assoc _ _ _))⟩); have p103 : 0 ≤ ((ji9) : Int) := D_; have q103 : (ji9) < (l0.length : Int) := D_; obtain ⟨ad103, e103, hx103_0⟩ := Kd.at_int HR0.out (ji9) p103 q103; obtain rfl : ad101 = ad103 := (by injection e103); replace p103 := eq_true p103; replace q103 := eq_true q103; have p104 : 0 ≤ (x7_1 : Int) := D_; have q104 : x7_1 < (l0.length : Int) := D_; obtain ⟨ad104, e104, hx104_0⟩ := Kd.at_int HR0.out x7_1 p104 q104; obtain rfl : ad101 = ad104 := (by injection e104); replace p104 := eq_true p104; replace q104 := eq_true q104)); try go_wp2_with (first | (go_at_call 40; (with_reducible refine (z40.calls (rd l0 x7_1) a1 a2 true _ A6.out).mono ?_); rintro e w' ⟨rfl, ⟨nd, rfl⟩⟩; (try first | exact ⟨rfl, _, World.drewN_drewN _ _ _⟩ | exact ⟨rfl, _, Eq.trans (World.drewN_drewN _ _ _) (congrArg (World.drewN _) (Nat.add_assoc _ _ _))⟩); have p103 : 0 ≤ ((ji9) : Int) := D_; have q103 : (ji9) < (l0.length : Int) := D_; obtain ⟨ad103, e103, hx103_0⟩ := Kd.at_int HR0.out (ji9) p103 q103; obtain rfl : ad101 = ad103 := (by injection e103); replace p103 := eq_true p103; replace q103 := eq_true q103; have p104 : 0 ≤ (x7_1 : Int) := D_; have q104 : x7_1 < (l0.length : Int) := D_; obtain ⟨ad104, e104, hx104_0⟩ := Kd.at_int HR0.out x7_1 p104 q104; obtain rfl : ad101 = ad104 := (by injection e104); replace p104 := eq_true p104; replace q104 := eq_true q104)))
       go_ret
       exact ⟨by first | rfl | (simp; done) | (simp only [← hji9] <;> (first | rfl | simp)) | (simp [*]; done), by repeat (first | exact Dz.refl _ | apply Dz.step)⟩
      rw [if_neg c12] at H
      have c12b0 : decide ((rd l0 x7_1) ≤ (rd l0 (ji9))) = false := decide_eq_false c12
      clear c12
      have H' := Zz.mk H
      clear H
      have p101 : 0 ≤ (x7_1 : Int) := D_
      have q101 : x7_1 < (l0.length : Int) := D_
      obtain ⟨ad101, e101, hx101_0⟩ := Kd.at_int HR0.out x7_1 p101 q101
      cases e101
      replace p101 := eq_true p101
      replace q101 := eq_true q101
      go_wp2_with (first | (go_at_call 40; (with_reducible refine (z40.calls (rd l0 x7_1) a1 a2 true _ A6.out).mono ?_); rintro e w' ⟨rfl, ⟨nd, rfl⟩⟩; (try first | exact ⟨rfl, _, World.drewN_drewN _ _ _⟩ | exact ⟨rfl, _, Eq.trans (World.drewN_drewN _ _ _) (congrArg (World.drewN _) (Nat.add_assoc _ _ _))⟩); have p103 : 0 ≤ ((ji9) : Int) := D_; have q103 : (ji9) < (l0.length : Int) := D_; obtain ⟨ad103, e103, hx103_0⟩ := Kd.at_int HR0.out (ji9) p103 q103; obtain rfl : ad101 = ad103 := (by injection e103); replace p103 := eq_true p103; replace q103 := eq_true q103; have p104 : 0 ≤ (x7_1 : Int) := D_; have q104 : x7_1 < (l0.length : Int) := D_; obtain ⟨ad104, e104, hx104_0⟩ := Kd.at_int HR0.out x7_1 p104 q104; obtain rfl : ad101 = ad104 := (by injection e104); replace p104 := eq_true p104; replace q104 := eq_true q104))
      repeat (go_quiet (first | (go_at_call 40; (with_reducible refine (z40.calls (rd l0 x7_1) a1 a2 true _ A6.out).mono ?_); rintro e w' ⟨rfl, ⟨nd, rfl⟩⟩; (try first | exact ⟨rfl, _, World.drewN_drewN _ _ _⟩ | exact ⟨rfl, _, Eq.trans (World.drewN_drewN _ _ _) (congrArg (World.drewN _) (Nat.add_assoc _ _ _))⟩); have p103 : 0 ≤ ((ji9) : Int) := D_; have q103 : (ji9) < (l0.length : Int) := D_; obtain ⟨ad103, e103, hx103_0⟩ := Kd.at_int HR0.out (ji9) p103 q103; obtain rfl : ad101 = ad103 := (by injection e103); replace p103 := eq_true p103; replace q103 := eq_true q103; have p104 : 0 ≤ (x7_1 : Int) := D_; have q104 : x7_1 < (l0.length : Int) := D_; obtain ⟨ad104, e104, hx104_0⟩ := Kd.at_int HR0.out x7_1 p104 q104; obtain rfl : ad101 = ad104 := (by injection e104); replace p104 := eq_true p104; replace q104 := eq_true q104)); try go_wp2_with (first | (go_at_call 40; (with_reducible refine (z40.calls (rd l0 x7_1) a1 a2 true _ A6.out).mono ?_); rintro e w' ⟨rfl, ⟨nd, rfl⟩⟩; (try first | exact ⟨rfl, _, World.drewN_drewN _ _ _⟩ | exact ⟨rfl, _, Eq.trans (World.drewN_drewN _ _ _) (congrArg (World.drewN _) (Nat.add_assoc _ _ _))⟩); have p103 : 0 ≤ ((ji9) : Int) := D_; have q103 : (ji9) < (l0.length : Int) := D_; obtain ⟨ad103, e103, hx103_0⟩ := Kd.at_int HR0.out (ji9) p103 q103; obtain rfl : ad101 = ad103 := (by injection e103); replace p103 := eq_true p103; replace q103 := eq_true q103; have p104 : 0 ≤ (x7_1 : Int) := D_; have q104 : x7_1 < (l0.length : Int) := D_; obtain ⟨ad104, e104, hx104_0⟩ := Kd.at_int HR0.out x7_1 p104 q104; obtain rfl : ad101 = ad104 := (by injection e104); replace p104 := eq_true p104; replace q104 := eq_true q104)))
      go_roundg k1
      case measure => exact Q1_ HK1
      case rel => exact ⟨(wrap64 (x7_1 + 1)), E_, H', ⟨Q1_ HK1⟩, by repeat (first | exact Dz.refl _ | apply Dz.step)⟩
     rw [if_neg c8] at H
     have c8b0 : decide (0 < x7_1) = false := decide_eq_false c8
     clear c8
     have H' := Zz.mk H
     clear H
     have p101 : 0 ≤ (x7_1 : Int) := D_
     have q101 : x7_1 < (l0.length : Int) := D_
     obtain ⟨ad101, e101, hx101_0⟩ := Kd.at_int HR0.out x7_1 p101 q101
     cases e101
     replace p101 := eq_true p101
     replace q101 := eq_true q101
     go_wp2_with (first | (go_at_call 40; (with_reducible refine (z40.calls (rd l0 x7_1) a1 a2 true _ A6.out).mono ?_); rintro e w' ⟨rfl, ⟨nd, rfl⟩⟩; (try first | exact ⟨rfl, _, World.drewN_drewN _ _ _⟩ | exact ⟨rfl, _, Eq.trans (World.drewN_drewN _ _ _) (congrArg (World.drewN _) (Nat.add_assoc _ _ _))⟩)))
     repeat (go_quiet (first | (go_at_call 40; (with_reducible refine (z40.calls (rd l0 x7_1) a1 a2 true _ A6.out).mono ?_); rintro e w' ⟨rfl, ⟨nd, rfl⟩⟩; (try first | exact ⟨rfl, _, World.drewN_drewN _ _ _⟩ | exact ⟨rfl, _, Eq.trans (World.drewN_drewN _ _ _) (congrArg (World.drewN _) (Nat.add_assoc _ _ _))⟩))); try go_wp2_with (first | (go_at_call 40; (with_reducible refine (z40.calls (rd l0 x7_1) a1 a2 true _ A6.out).mono ?_); rintro e w' ⟨rfl, ⟨nd, rfl⟩⟩; (try first | exact ⟨rfl, _, World.drewN_drewN _ _ _⟩ | exact ⟨rfl, _, Eq.trans (World.drewN_drewN _ _ _) (congrArg (World.drewN _) (Nat.add_assoc _ _ _))⟩))))
     go_roundg k1
     case measure => exact Q1_ HK1
     case rel => exact ⟨(wrap64 (x7_1 + 1)), E_, H', ⟨Q1_ HK1⟩, by repeat (first | exact Dz.refl _ | apply Dz.step)⟩
    replace c7 := Bool.eq_false_iff.mpr c7
    subst c7
    replace H := N_ H
    obtain rfl := OI_ H
    have p101 : 0 ≤ (x7_1 : Int) := D_
    have q101 : x7_1 < (l0.length : Int) := D_
    obtain ⟨ad101, e101, hx101_0⟩ := Kd.at_int HR0.out x7_1 p101 q101
    cases e101
    replace p101 := eq_true p101
    replace q101 := eq_true q101
    go_wp2_with (first | (go_at_call 40; (with_reducible refine (z40.calls (rd l0 x7_1) a1 a2 false _ A6.out).mono ?_); rintro e w' ⟨rfl, ⟨nd, rfl⟩⟩; (try first | exact ⟨rfl, _, World.drewN_drewN _ _ _⟩ | exact ⟨rfl, _, Eq.trans (World.drewN_drewN _ _ _) (congrArg (World.drewN _) (Nat.add_assoc _ _ _))⟩)))
    repeat (go_quiet (first | (go_at_call 40; (with_reducible refine (z40.calls (rd l0 x7_1) a1 a2 false _ A6.out).mono ?_); rintro e w' ⟨rfl, ⟨nd, rfl⟩⟩; (try first | exact ⟨rfl, _, World.drewN_drewN _ _ _⟩ | exact ⟨rfl, _, Eq.trans (World.drewN_drewN _ _ _) (congrArg (World.drewN _) (Nat.add_assoc _ _ _))⟩))); try go_wp2_with (first | (go_at_call 40; (with_reducible refine (z40.calls (rd l0 x7_1) a1 a2 false _ A6.out).mono ?_); rintro e w' ⟨rfl, ⟨nd, rfl⟩⟩; (try first | exact ⟨rfl, _, World.drewN_drewN _ _ _⟩ | exact ⟨rfl, _, Eq.trans (World.drewN_drewN _ _ _) (congrArg (World.drewN _) (Nat.add_assoc _ _ _))⟩))))
    go_ret
    exact ⟨by first | rfl | (simp; done) | (simp [*]; done), by repeat (first | exact Dz.refl _ | apply Dz.step)⟩
   rw [if_neg c4] at H
   have c4b0 : decide (x7_1 < (l0.length : Int)) = false := decide_eq_false c4
   clear c4
   obtain rfl := OI_ H
   go_wp2
   repeat (go_quiet (fail); try go_wp2)
   go_ret
   exact ⟨by first | rfl | (simp; done) | (simp [*]; done), by repeat (first | exact Dz.refl _ | apply Dz.step)⟩
def z62.f (k : Nat) (l0 : List Int) : Option (Bool) := (z40.f (l0.length : Int) 1 4).bind fun t101 => (if t101 = true then ((z85.f k l0 0 9).bind fun t102 => (some t102)) else (some false))
theorem z62.calls (k : Nat) (A0 : Option Addr) (c0 : Nat) (l0 : List Int) (r : Bool) (w : World) (hr0 : Kd.C (Kd.int .i64) w A0 l0.length l0) (hc0 : l0.length ≤ c0) (h : z62.f k l0 = some r) :
  Calls Try.prog 62 #[.slice A0 l0.length c0] w fun e w' => e = .returned (.bool r) ∧ Dz w w' := by
 have HR0 := Zz.mk hr0
 have HC0 := Zz.mk hc0
 clear hr0 hc0
 have H : ((z40.f (l0.length : Int) 1 4).bind fun t101 => (if t101 = true then ((z85.f k l0 0 9).bind fun t102 => (some t102)) else (some false))) = some r := h
 clear h
 replace H := OZ_ H
 obtain ⟨t101, A2, H⟩ := H
 by_cases c3 : t101 = true
 ·subst c3
  replace H := T_ H
  replace H := OZ_ H
  obtain ⟨t102, A4, H⟩ := H
  obtain rfl := OI_ H
  go_enter Try.func62, Try.ntmps62
  go_wp2_with (first | ((with_reducible refine gC_ (f := 40) rfl ?_); refine GL_ (some 5) rfl rfl Try.func40 #[.int .i64 (l0.length : Int), .int .i64 1, .int .i64 4] rfl (h := ?_); (with_reducible refine (z40.calls (l0.length : Int) 1 4 true _ A2.out).mono ?_); rintro e w' ⟨rfl, ⟨nd, rfl⟩⟩; refine ⟨_, rfl, ?_⟩) | (go_at_call 85; (with_reducible refine (z85.calls k _ _ l0 0 9 t102 _ ?side1 ?side2 A4.out).mono ?_); (case side1 => exact KC_ HR0.out); (case side2 => exact HC0.out); rintro e w' ⟨rfl, ⟨nd, rfl⟩⟩))
  go_ret
  exact ⟨by first | rfl | (simp; done) | (simp [*]; done), by repeat (first | exact Dz.refl _ | apply Dz.step)⟩
 replace c3 := Bool.eq_false_iff.mpr c3
 subst c3
 replace H := N_ H
 obtain rfl := OI_ H
 go_enter Try.func62, Try.ntmps62
 go_wp2_with (first | ((with_reducible refine gC_ (f := 40) rfl ?_); refine GL_ (some 5) rfl rfl Try.func40 #[.int .i64 (l0.length : Int), .int .i64 1, .int .i64 4] rfl (h := ?_); (with_reducible refine (z40.calls (l0.length : Int) 1 4 false _ A2.out).mono ?_); rintro e w' ⟨rfl, ⟨nd, rfl⟩⟩; refine ⟨_, rfl, ?_⟩))
 go_ret
 exact ⟨by first | rfl | (simp; done) | (simp [*]; done), by repeat (first | exact Dz.refl _ | apply Dz.step)⟩
def z66.l0 : Nat → Int → Int → Option (Bool)
 | 0, _, _ => none
 | k + 1, x0, x3 => if (wrap64 (x3 * x3)) ≤ x0 then (if x3 = 0 then (none) else (if (Int.tmod x0 x3) = 0 then (some false) else (z66.l0 k x0 (wrap64 (x3 + 1))))) else (some true)
def z66.f (k : Nat) (a0 : Int) : Option (Bool) := (z40.f a0 2 251).bind fun t101 => (if t101 = true then (z66.l0 k a0 2) else (some false))
theorem z66.calls (k : Nat) (a0 : Int) (r : Bool) (w : World) (h : z66.f k a0 = some r) :
  Calls Try.prog 66 #[.int .i64 a0] w fun e w' => e = .returned (.bool r) ∧ Dz w w' := by
 have H : ((z40.f a0 2 251).bind fun t101 => (if t101 = true then (z66.l0 k a0 2) else (some false))) = some r := h
 clear h
 replace H := OZ_ H
 obtain ⟨t101, A2, H⟩ := H
 by_cases c3 : t101 = true
 ·subst c3
  replace H := T_ H
  have H' := Zz.mk H
  clear H
  go_enter Try.func66, Try.ntmps66
  go_wp2_with (first | ((with_reducible refine gC_ (f := 40) rfl ?_); refine GL_ (some 5) rfl rfl Try.func40 #[.int .i64 a0, .int .i64 2, .int .i64 251] rfl (h := ?_); (with_reducible refine (z40.calls a0 2 251 true _ A2.out).mono ?_); rintro e w' ⟨rfl, ⟨nd, rfl⟩⟩; refine ⟨_, rfl, ?_⟩))
  go_loopg [3] k (fun kq v3 w' => ∃ (x3_1 : Int), v3 = .int .i64 x3_1 ∧ Zz (z66.l0 kq a0 x3_1 = some r) ∧ Zz (kq ≤ k) ∧ Dz w w')
  case atStart => exact ⟨(2), E_, H', ⟨Nat.le_refl _⟩, by repeat (first | exact Dz.refl _ | apply Dz.step)⟩
  case round =>
   clear H'
   (try clear c3)
   obtain ⟨x3_1, rfl, HA, HK1, ⟨m1, rfl⟩⟩ := hrel
   cases gk with
   | zero => exact absurd HA.out (by simp [z66.l0])
   | succ k1 =>
    have H := HA.out
    clear HA
    simp only [z66.l0] at H
    by_cases c4 : (wrap64 (x3_1 * x3_1)) ≤ a0
    ·rw [if_pos c4] at H
     have c4b0 : decide ((wrap64 (x3_1 * x3_1)) ≤ a0) = true := decide_eq_true c4
     clear c4
     by_cases c5 : x3_1 = 0
     ·rw [if_pos c5] at H
      exact X_ H
     rw [if_neg c5] at H
     have c5b0 : (x3_1 == 0) = false := beq_eq_false_iff_ne.mpr c5
     have c5b1 : (x3_1 != 0) = true := bne_iff_ne.mpr c5
     by_cases c6 : (Int.tmod a0 x3_1) = 0
     ·rw [if_pos c6] at H
      have c6b0 : ((Int.tmod a0 x3_1) == 0) = true := beq_iff_eq.mpr c6
      have c6b1 : ((Int.tmod a0 x3_1) != 0) = false := bne_eq_false_iff_eq.mpr c6
      clear c6
      obtain rfl := OI_ H
      go_wp2
      go_ret
      exact ⟨by first | rfl | (simp; done) | (simp [*]; done), by repeat (first | exact Dz.refl _ | apply Dz.step)⟩
     rw [if_neg c6] at H
     have c6b0 : ((Int.tmod a0 x3_1) == 0) = false := beq_eq_false_iff_ne.mpr c6
     have c6b1 : ((Int.tmod a0 x3_1) != 0) = true := bne_iff_ne.mpr c6
     have H' := Zz.mk H
     clear H
     go_wp2
     go_roundg k1
     case measure => exact Q1_ HK1
     case rel => exact ⟨(wrap64 (x3_1 + 1)), E_, H', ⟨Q1_ HK1⟩, by repeat (first | exact Dz.refl _ | apply Dz.step)⟩
    rw [if_neg c4] at H
    have c4b0 : decide ((wrap64 (x3_1 * x3_1)) ≤ a0) = false := decide_eq_false c4
    clear c4
    obtain rfl := OI_ H
    go_wp2
    go_ret
    exact ⟨by first | rfl | (simp; done) | (simp [*]; done), by repeat (first | exact Dz.refl _ | apply Dz.step)⟩
 replace c3 := Bool.eq_false_iff.mpr c3
 subst c3
 replace H := N_ H
 obtain rfl := OI_ H
 go_enter Try.func66, Try.ntmps66
 go_wp2_with (first | ((with_reducible refine gC_ (f := 40) rfl ?_); refine GL_ (some 5) rfl rfl Try.func40 #[.int .i64 a0, .int .i64 2, .int .i64 251] rfl (h := ?_); (with_reducible refine (z40.calls a0 2 251 false _ A2.out).mono ?_); rintro e w' ⟨rfl, ⟨nd, rfl⟩⟩; refine ⟨_, rfl, ?_⟩))
 go_ret
 exact ⟨by first | rfl | (simp; done) | (simp [*]; done), by repeat (first | exact Dz.refl _ | apply Dz.step)⟩
def z38.f (k : Nat) (a0 : Int) : Option (Bool) := (z66.f k a0).bind fun t101 => (some t101)
theorem z38.calls (k : Nat) (a0 : Int) (r : Bool) (w : World) (h : z38.f k a0 = some r) :
  Calls Try.prog 38 #[.int .i64 a0] w fun e w' => e = .returned (.bool r) ∧ Dz w w' := by
 have H : ((z66.f k a0).bind fun t101 => (some t101)) = some r := h
 clear h
 replace H := OZ_ H
 obtain ⟨t101, A2, H⟩ := H
 obtain rfl := OI_ H
 go_enter Try.func38, Try.ntmps38
 go_wp2_with (first | ((with_reducible refine gC_ (f := 66) rfl ?_); refine GL_ (some 4) rfl rfl Try.func66 #[.int .i64 a0] rfl (h := ?_); (with_reducible refine (z66.calls k a0 t101 _ A2.out).mono ?_); rintro e w' ⟨rfl, ⟨nd, rfl⟩⟩; refine ⟨_, rfl, ?_⟩))
 go_ret
 exact ⟨by first | rfl | (simp; done) | (simp [*]; done), by repeat (first | exact Dz.refl _ | apply Dz.step)⟩
mutual
def z28.l0 : Nat → List Int → List Int → Int → Int → Int → Int → List Int → Option (List Int)
 | 0, _, _, _, _, _, _, _ => none
 | k + 1, x1, x5, x6, x51000, x51001, x51002, x51003 => if x6 < x51001 then (z28.l1 k x1 x5 x6 0 0 x51000 x51001 x51002 x51003) else (some x5)
def z28.l1 : Nat → List Int → List Int → Int → Int → Int → Int → Int → Int → List Int → Option (List Int)
 | 0, _, _, _, _, _, _, _, _, _ => none
 | k + 1, x1, x5, x6, x7, x8, x51000, x51001, x51002, x51003 => if x8 < x51002 then (if 0 ≤ (wrap64 ((wrap64 (x6 * x51002)) + x8)) then (if (wrap64 ((wrap64 (x6 * x51002)) + x8)) < (x51003.length : Int) then (if 0 ≤ x8 then (if x8 < (x1.length : Int) then (z28.l1 k x1 x5 x6 (wrap64 (x7 + (wrap64 ((rd x51003 (wrap64 ((wrap64 (x6 * x51002)) + x8))) * (rd x1 x8))))) (wrap64 (x8 + 1)) x51000 x51001 x51002 x51003) else (none)) else (none)) else (none)) else (none)) else (if x51000 = 0 then (none) else (if x5.length < 17592186044416 then (z28.l0 k x1 (x5 ++ [Int.tmod x7 x51000]) (wrap64 (x6 + 1)) x51000 x51001 x51002 x51003) else (none)))
end
def z28.f (k : Nat) (a0_0 : Int) (a0_1 : Int) (a0_2 : Int) (l0_3 : List Int) (l1 : List Int) : Option (List Int) := z28.l0 k l1 (([] : List Int)) 0 a0_0 a0_1 a0_2 l0_3
theorem z28.calls (k : Nat) (gp0 : Nat) (a0_0 : Int) (a0_1 : Int) (a0_2 : Int) (A0_3 : Option Addr) (c0_3 : Nat) (l0_3 : List Int) (A1 : Option Addr) (c1 : Nat) (l1 : List Int) (r : List Int) (w : World) (hbp0 : w.heap[gp0]? = some (.cells #[.int .i64 a0_0, .int .i64 a0_1, .int .i64 a0_2, .slice A0_3 l0_3.length c0_3] 52 (0, 0))) (hr0_3 : Kd.C (Kd.int .i64) w A0_3 l0_3.length l0_3) (hc0_3 : l0_3.length ≤ c0_3) (hr1 : Kd.C (Kd.int .i64) w A1 l1.length l1) (hc1 : l1.length ≤ c1) (h : z28.f k a0_0 a0_1 a0_2 l0_3 l1 = some r) :
  Calls Try.prog 28 #[.pointer (some ⟨gp0, 0, none⟩), .slice A1 l1.length c1] w fun e w' => ∃ v0_ : Value, e = .returned (v0_) ∧ Kd.R (Kd.int .i64) 2 w' w.heap.size (fun _ => True) v0_ r ∧ Below w.heap.size w w' := by
 have HR0_3 := Zz.mk hr0_3
 have HC0_3 := Zz.mk hc0_3
 clear hr0_3 hc0_3
 have HR1 := Zz.mk hr1
 have HC1 := Zz.mk hc1
 clear hr1 hc1
 have BK50 := Zz.mk hbp0
 clear hbp0
 have HB := Zz.mk (Below.refl w.heap.size w)
 have H : (z28.l0 k l1 (([] : List Int)) 0 a0_0 a0_1 a0_2 l0_3) = some r := h
 clear h
 obtain ⟨y101, hy101⟩ : ∃ y_ : List Int, y_ = (([] : List Int)) := ⟨_, rfl⟩
 replace H : (z28.l0 k l1 y101 0 a0_0 a0_1 a0_2 l0_3) = some r := Y_ hy101 H
 have Ny101 := Zz.mk hy101
 clear hy101
 have H' := Zz.mk H
 clear H
 go_enter Try.func28, Try.ntmps28
 go_wp2_with (first | ((with_reducible refine qAm (N := 9) rfl ?_); refine Kd.R_lit (Kd.int .i64) _ 2 ?hg (N := 9) ?hd (xs := ([] : List Int)) (inner := []) (ok := fun _ => True) (okp := fun _ => True) ?hr ?hp (fun _ hk => hk) trivial (Below.refl _ _) (Nat.le_refl _) (by simp) ?_; (case hd => rfl); (case hg => rfl); (case hr => first | (go_simp; done) | (go_simp; rfl)); (case hp => exact (Reps.none _ _)); intro v102 w3 ho4 hb hg_ hnew_; clear hg_ hnew_; (first | rw [← Ny101.out] at ho4 | (simp only [Int.reduceToNat] at ho4; rw [← Ny101.out] at ho4)); have HO103 := Zz.mk (Kd.R_lower ho4 (bS_ (B_ HB.out))); replace BK50 := Zz.mk (bB_ (g := gp0) (o := .cells #[.int .i64 a0_0, .int .i64 a0_1, .int .i64 a0_2, .slice A0_3 l0_3.length c0_3] 52 (0, 0)) (KB_ BK50.out) hb); replace HB := Zz.mk (bT_ (B_ HB.out) hb); clear hb ho4))
 repeat (go_quiet (first | ((with_reducible refine qAm (N := 9) rfl ?_); refine Kd.R_lit (Kd.int .i64) _ 2 ?hg (N := 9) ?hd (xs := ([] : List Int)) (inner := []) (ok := fun _ => True) (okp := fun _ => True) ?hr ?hp (fun _ hk => hk) trivial (Below.refl _ _) (Nat.le_refl _) (by simp) ?_; (case hd => rfl); (case hg => rfl); (case hr => first | (go_simp; done) | (go_simp; rfl)); (case hp => exact (Reps.none _ _)); intro v102 w3 ho4 hb hg_ hnew_; clear hg_ hnew_; (first | rw [← Ny101.out] at ho4 | (simp only [Int.reduceToNat] at ho4; rw [← Ny101.out] at ho4)); have HO103 := Zz.mk (Kd.R_lower ho4 (bS_ (B_ HB.out))); replace BK50 := Zz.mk (bB_ (g := gp0) (o := .cells #[.int .i64 a0_0, .int .i64 a0_1, .int .i64 a0_2, .slice A0_3 l0_3.length c0_3] 52 (0, 0)) (KB_ BK50.out) hb); replace HB := Zz.mk (bT_ (B_ HB.out) hb); clear hb ho4)); try go_wp2_with (first | ((with_reducible refine qAm (N := 9) rfl ?_); refine Kd.R_lit (Kd.int .i64) _ 2 ?hg (N := 9) ?hd (xs := ([] : List Int)) (inner := []) (ok := fun _ => True) (okp := fun _ => True) ?hr ?hp (fun _ hk => hk) trivial (Below.refl _ _) (Nat.le_refl _) (by simp) ?_; (case hd => rfl); (case hg => rfl); (case hr => first | (go_simp; done) | (go_simp; rfl)); (case hp => exact (Reps.none _ _)); intro v102 w3 ho4 hb hg_ hnew_; clear hg_ hnew_; (first | rw [← Ny101.out] at ho4 | (simp only [Int.reduceToNat] at ho4; rw [← Ny101.out] at ho4)); have HO103 := Zz.mk (Kd.R_lower ho4 (bS_ (B_ HB.out))); replace BK50 := Zz.mk (bB_ (g := gp0) (o := .cells #[.int .i64 a0_0, .int .i64 a0_1, .int .i64 a0_2, .slice A0_3 l0_3.length c0_3] 52 (0, 0)) (KB_ BK50.out) hb); replace HB := Zz.mk (bT_ (B_ HB.out) hb); clear hb ho4)))
 go_loopg [5, 6] k (fun kq v5 v6 w' => ∃ (x5_1 : List Int) (x6_1 : Int), v6 = .int .i64 x6_1 ∧ Zz (z28.l0 kq l1 x5_1 x6_1 a0_0 a0_1 a0_2 l0_3 = some r) ∧ Zz (kq ≤ k) ∧ Zz (Kd.R (Kd.int .i64) 2 w' w.heap.size (fun _ => True) v5 x5_1) ∧ Zz (w'.heap[gp0]? = some (.cells #[.int .i64 a0_0, .int .i64 a0_1, .int .i64 a0_2, (.slice A0_3 l0_3.length c0_3)] 52 (0, 0))) ∧ Zz (Below w.heap.size w w'))
 case atStart => exact ⟨(y101), (0), E_, H', ⟨Nat.le_refl _⟩, ⟨KR_ HO103.out⟩, ⟨KB_ BK50.out⟩, ⟨B_ HB.out⟩⟩
 case round =>
  clear H'
  (try clear c1)
  obtain ⟨x5_1, x6_1, rfl, HA, HK1, HO_5, BK50, HB⟩ := hrel
  cases gk with
  | zero => exact absurd HA.out (by simp [z28.l0])
  | succ k1 =>
   have H := HA.out
   clear HA
   simp only [z28.l0] at H
   by_cases c5 : x6_1 < a0_1
   ·rw [if_pos c5] at H
    have c5b0 : decide (x6_1 < a0_1) = true := decide_eq_true c5
    clear c5
    have H' := Zz.mk H
    clear H
    obtain ⟨hcz6_0, hcz6_1, hcz6_2, hcz6_3, hfz6_0, hfz6_1, hfz6_2, hfz6_3⟩ := Z4f_ BK50.out
    go_wp2
    repeat (go_quiet (fail); try go_wp2)
    go_loopg [7, 8] k1 (fun kq v7 v8 w' => ∃ (x7_2 : Int) (x8_2 : Int), v7 = .int .i64 x7_2 ∧ v8 = .int .i64 x8_2 ∧ Zz (z28.l1 kq l1 x5_1 x6_1 x7_2 x8_2 a0_0 a0_1 a0_2 l0_3 = some r) ∧ Zz (kq ≤ k1) ∧ Zz (Kd.R (Kd.int .i64) 2 w' w.heap.size (fun _ => True) u5 x5_1) ∧ Zz (w'.heap[gp0]? = some (.cells #[.int .i64 a0_0, .int .i64 a0_1, .int .i64 a0_2, (.slice A0_3 l0_3.length c0_3)] 52 (0, 0))) ∧ Zz (Below w.heap.size w w'))
    case atStart => exact ⟨(0), (0), E_, E_, H', ⟨Nat.le_refl _⟩, ⟨KR_ HO_5.out⟩, ⟨KB_ BK50.out⟩, ⟨B_ HB.out⟩⟩
    case round =>
     clear H'
     (try clear c1);(try clear c5);(try clear c5b0);(try clear hcz6_0);(try clear hcz6_1);(try clear hcz6_2);(try clear hcz6_3);(try clear hfz6_0);(try clear hfz6_1);(try clear hfz6_2);(try clear hfz6_3)
     obtain ⟨x7_2, x8_2, rfl, rfl, HA, HK2, HO_5, BK50, HB⟩ := hrel
     cases gk with
     | zero => exact absurd HA.out (by simp [z28.l1])
     | succ k2 =>
      have H := HA.out
      clear HA
      simp only [z28.l1] at H
      by_cases c7 : x8_2 < a0_2
      ·rw [if_pos c7] at H
       have c7b0 : decide (x8_2 < a0_2) = true := decide_eq_true c7
       clear c7
       obtain ⟨ji8, hji8⟩ : ∃ j_ : Int, (wrap64 ((wrap64 (x6_1 * a0_2)) + x8_2)) = j_ := ⟨_, rfl⟩
       replace H : (if 0 ≤ (ji8) then (if (ji8) < (l0_3.length : Int) then (if 0 ≤ x8_2 then (if x8_2 < (l1.length : Int) then (z28.l1 k2 l1 x5_1 x6_1 (wrap64 (x7_2 + (wrap64 ((rd l0_3 (ji8)) * (rd l1 x8_2))))) (wrap64 (x8_2 + 1)) a0_0 a0_1 a0_2 l0_3) else (none)) else (none)) else (none)) else (none)) = some r := by first | (rw [hji8] at H; exact H) | (simp only [hji8] at H ⊢; exact H)
       have hji8w : (IntKind.i64.wrap ((wrap64 (x6_1 * a0_2)) + x8_2)) = ji8 := (qA6 _).trans hji8
       have c9b0 := O3_ H
       replace H := O2_ H
       have c10b0 := O3_ H
       replace H := O2_ H
       have c11b0 := O3_ H
       replace H := O2_ H
       have c12b0 := O3_ H
       replace H := O2_ H
       have H' := Zz.mk H
       clear H
       obtain ⟨hcz13_0, hcz13_1, hcz13_2, hcz13_3, hfz13_0, hfz13_1, hfz13_2, hfz13_3⟩ := Z4f_ BK50.out
       have p104 : 0 ≤ ((ji8) : Int) := D_
       have q104 : (ji8) < (l0_3.length : Int) := D_
       obtain ⟨ad104, e104, hx104_0⟩ := Kd.at_int HR0_3.out (ji8) p104 q104
       cases e104
       replace hx104_0 := (HB.out.cell (World.block_lt_of_cell? w _ hx104_0)).trans hx104_0
       replace p104 := eq_true p104
       replace q104 := eq_true q104
       have p105 : 0 ≤ (x8_2 : Int) := D_
       have q105 : x8_2 < (l1.length : Int) := D_
       obtain ⟨ad105, e105, hx105_0⟩ := Kd.at_int HR1.out x8_2 p105 q105
       cases e105
       replace hx105_0 := (HB.out.cell (World.block_lt_of_cell? w _ hx105_0)).trans hx105_0
       replace p105 := eq_true p105
       replace q105 := eq_true q105
       go_wp2
       repeat (go_quiet (fail); try go_wp2)
       go_roundg k2
       case measure => exact Q2_ HK1 HK2
       case rel => exact ⟨(wrap64 (x7_2 + (wrap64 ((rd l0_3 (ji8)) * (rd l1 x8_2))))), (wrap64 (x8_2 + 1)), (by first | rfl | (simp; done) | (simp only [← hji8] <;> (first | rfl | simp)) | (simp [*]; done)), E_, H', ⟨Q2_ HK1 HK2⟩, ⟨KR_ HO_5.out⟩, ⟨KB_ BK50.out⟩, ⟨B_ HB.out⟩⟩
      rw [if_neg c7] at H
      have c7b0 : decide (x8_2 < a0_2) = false := decide_eq_false c7
      clear c7
      by_cases c14 : a0_0 = 0
      ·rw [if_pos c14] at H
       exact X_ H
      rw [if_neg c14] at H
      have c14b0 : (a0_0 == 0) = false := beq_eq_false_iff_ne.mpr c14
      have c14b1 : (a0_0 != 0) = true := bne_iff_ne.mpr c14
      have c15 := O1_ H
      replace H := O2_ H
      have LMc15 := Zz.mk c15
      clear c15
      obtain ⟨y106, hy106⟩ : ∃ y_ : List Int, y_ = (x5_1 ++ [Int.tmod x7_2 a0_0]) := ⟨_, rfl⟩
      replace H : (z28.l0 k2 l1 y106 (wrap64 (x6_1 + 1)) a0_0 a0_1 a0_2 l0_3) = some r := Y_ hy106 H
      have Ny106 := Zz.mk hy106
      clear hy106
      have H' := Zz.mk H
      clear H
      obtain ⟨hcz16_0, hcz16_1, hcz16_2, hcz16_3, hfz16_0, hfz16_1, hfz16_2, hfz16_3⟩ := Z4f_ BK50.out
      go_wp2_with (first | ((with_reducible refine qA2 (b := .append) (xs := #[.tmp 47, .tmp 54]) rfl ?_); at_builtin; refine Kd.R_append (Kd.int .i64) (w0 := w) w.heap.size rfl (.tmp 47) (.tmp 54) 25 2 (.int .i64 0) 8 rfl Try.underlying25 qBs rfl (by decide) (by omega) u5 x5_1 (Int.tmod x7_2 a0_0) [.int .i64 (Int.tmod x7_2 a0_0)] (fun _ => True) (fun _ => False) rfl rfl ?aP (fun _ hk => hk.elim) ?aF ?aO ?aB ?aS ?aL ?_; (case aP => exact rfl); (case aB => exact (B_ HB.out)); (case aF => exact (fun _ _ => trivial)); (case aO => exact (KR_ HO_5.out)); (case aS => exact (bS_ (B_ HB.out))); (case aL => have := LMc15.out; omega); intro v107 w17 ho hb hg hat; rw [← Ny106.out] at ho; replace BK50 := Zz.mk (qAu (g := gp0) (o := .cells #[.int .i64 a0_0, .int .i64 a0_1, .int .i64 a0_2, .slice A0_3 l0_3.length c0_3] 52 (0, 0)) (KB_ BK50.out) hg (Kd.R_ne HO_5.out BK50.out (by decide))); replace HB := Zz.mk (hb); have HO108 := Zz.mk (ho); clear HO_5; clear ho hb hg hat))
      repeat (go_quiet (first | ((with_reducible refine qA2 (b := .append) (xs := #[.tmp 47, .tmp 54]) rfl ?_); at_builtin; refine Kd.R_append (Kd.int .i64) (w0 := w) w.heap.size rfl (.tmp 47) (.tmp 54) 25 2 (.int .i64 0) 8 rfl Try.underlying25 qBs rfl (by decide) (by omega) u5 x5_1 (Int.tmod x7_2 a0_0) [.int .i64 (Int.tmod x7_2 a0_0)] (fun _ => True) (fun _ => False) rfl rfl ?aP (fun _ hk => hk.elim) ?aF ?aO ?aB ?aS ?aL ?_; (case aP => exact rfl); (case aB => exact (B_ HB.out)); (case aF => exact (fun _ _ => trivial)); (case aO => exact (KR_ HO_5.out)); (case aS => exact (bS_ (B_ HB.out))); (case aL => have := LMc15.out; omega); intro v107 w17 ho hb hg hat; rw [← Ny106.out] at ho; replace BK50 := Zz.mk (qAu (g := gp0) (o := .cells #[.int .i64 a0_0, .int .i64 a0_1, .int .i64 a0_2, .slice A0_3 l0_3.length c0_3] 52 (0, 0)) (KB_ BK50.out) hg (Kd.R_ne HO_5.out BK50.out (by decide))); replace HB := Zz.mk (hb); have HO108 := Zz.mk (ho); clear HO_5; clear ho hb hg hat)); try go_wp2_with (first | ((with_reducible refine qA2 (b := .append) (xs := #[.tmp 47, .tmp 54]) rfl ?_); at_builtin; refine Kd.R_append (Kd.int .i64) (w0 := w) w.heap.size rfl (.tmp 47) (.tmp 54) 25 2 (.int .i64 0) 8 rfl Try.underlying25 qBs rfl (by decide) (by omega) u5 x5_1 (Int.tmod x7_2 a0_0) [.int .i64 (Int.tmod x7_2 a0_0)] (fun _ => True) (fun _ => False) rfl rfl ?aP (fun _ hk => hk.elim) ?aF ?aO ?aB ?aS ?aL ?_; (case aP => exact rfl); (case aB => exact (B_ HB.out)); (case aF => exact (fun _ _ => trivial)); (case aO => exact (KR_ HO_5.out)); (case aS => exact (bS_ (B_ HB.out))); (case aL => have := LMc15.out; omega); intro v107 w17 ho hb hg hat; rw [← Ny106.out] at ho; replace BK50 := Zz.mk (qAu (g := gp0) (o := .cells #[.int .i64 a0_0, .int .i64 a0_1, .int .i64 a0_2, .slice A0_3 l0_3.length c0_3] 52 (0, 0)) (KB_ BK50.out) hg (Kd.R_ne HO_5.out BK50.out (by decide))); replace HB := Zz.mk (hb); have HO108 := Zz.mk (ho); clear HO_5; clear ho hb hg hat)))
      go_roundg k2
      case measure => exact Q2_ HK1 HK2
      case rel => exact ⟨(y106), (wrap64 (x6_1 + 1)), E_, H', ⟨Q2_ HK1 HK2⟩, ⟨KR_ HO108.out⟩, ⟨KB_ BK50.out⟩, ⟨B_ HB.out⟩⟩
   rw [if_neg c5] at H
   have c5b0 : decide (x6_1 < a0_1) = false := decide_eq_false c5
   clear c5
   obtain rfl := OI_ H
   obtain ⟨hcz18_0, hcz18_1, hcz18_2, hcz18_3, hfz18_0, hfz18_1, hfz18_2, hfz18_3⟩ := Z4f_ BK50.out
   go_wp2
   repeat (go_quiet (fail); try go_wp2)
   go_ret
   exact ⟨_, F_, KR_ HO_5.out, B_ HB.out⟩
def z41.f (a0 : Int) (a1 : Int) (a2 : Int) : Option (Int × Int × Int × List Int) := if 0 ≤ (wrap64 (a1 * a2)) then (if (wrap64 (a1 * a2) : Int).toNat ≤ 35184372088832 then (some (a0, a1, a2, (List.replicate (wrap64 (a1 * a2) : Int).toNat 0))) else (none)) else (none)
theorem z41.calls (a0 : Int) (a1 : Int) (a2 : Int) (r1 : Int) (r2 : Int) (r3 : Int) (r4 : List Int) (w : World) (h : z41.f a0 a1 a2 = some (r1, r2, r3, r4)) :
  Calls Try.prog 41 #[.int .i64 a0, .int .i64 a1, .int .i64 a2] w fun e w' => ∃ v3_ : Value, e = .returned (.agg #[.int .i64 r1, .int .i64 r2, .int .i64 r3, v3_]) ∧ Kd.R (Kd.int .i64) 2 w' w.heap.size (fun _ => True) v3_ r4 ∧ Below w.heap.size w w' := by
 have hu52 := Try.underlying52
 have HB := Zz.mk (Below.refl w.heap.size w)
 have H : (if 0 ≤ (wrap64 (a1 * a2)) then (if (wrap64 (a1 * a2) : Int).toNat ≤ 35184372088832 then (some (a0, a1, a2, (List.replicate (wrap64 (a1 * a2) : Int).toNat 0))) else (none)) else (none)) = some (r1, r2, r3, r4) := h
 clear h
 obtain ⟨ji4, hji4⟩ : ∃ j_ : Int, (wrap64 (a1 * a2)) = j_ := ⟨_, rfl⟩
 replace H : (if 0 ≤ (ji4) then (if (ji4 : Int).toNat ≤ 35184372088832 then (some (a0, a1, a2, (List.replicate (ji4 : Int).toNat 0))) else (none)) else (none)) = some (r1, r2, r3, r4) := by first | (rw [hji4] at H; exact H) | (simp only [hji4] at H ⊢; exact H)
 have hji4w : (IntKind.i64.wrap (a1 * a2)) = ji4 := (qA6 _).trans hji4
 have c5 := O1_ H
 replace H := O2_ H
 have c5b0 := eq_true c5
 have c5b1 : decide (0 ≤ (ji4)) = true := decide_eq_true c5
 clear c5
 have c6 := O1_ H
 replace H := O2_ H
 have c6b0 := eq_true c6
 have c6b1 : decide ((ji4 : Int).toNat ≤ 35184372088832) = true := decide_eq_true c6
 clear c6
 obtain ⟨y102, hy102⟩ : ∃ y_ : List Int, y_ = (List.replicate (ji4 : Int).toNat 0) := ⟨_, rfl⟩
 replace H : (some (a0, a1, a2, y102)) = some (r1, r2, r3, r4) := Y_ hy102 H
 have Ny102 := Zz.mk hy102
 clear hy102
 simp only [Option.some.injEq, Prod.mk.injEq] at H
 obtain ⟨rfl, rfl, rfl, rfl⟩ := H
 go_enter Try.func41, Try.ntmps41
 go_wp2_with (first | ((with_reducible refine qAm (N := 6) rfl ?_); refine qAo ?hg (N := 6) ?hd (cs := #[.int .i64 0, .int .i64 0, .int .i64 0, .slice none 0 0]) (t := 52) ?hr ?_; (case hd => rfl); (case hg => rfl); (case hr => first | (go_simp; done) | (go_simp; rfl)); intro gb101 hg w7 hbox hb; have BK101 := Zz.mk (hbox); have GW101 := Zz.mk ((by rw [hg]; exact (bS_ (B_ HB.out)) : w.heap.size ≤ gb101)); have GE101 := GW101; replace HB := Zz.mk (bT_ (B_ HB.out) hb); clear hb hbox hg) | ((with_reducible refine qAm (N := 13) rfl ?_); refine Kd.R_make (Kd.int .i64) _ 2 rfl (N := 13) rfl 25 _ _ rfl ji4 rfl rfl Try.underlying25 (.int .i64 0) 8 qBs rfl (by decide) (by omega) 0 (ok := fun _ => True) (okp := fun _ => True) rfl (fun _ hk => hk) trivial (D_) (Nat.le_trans (Nat.mul_le_mul_right _ (D_ : ji4.toNat ≤ 35184372088832)) (by omega)) (Below.refl _ _) (Nat.le_refl _) ?_; intro v103 w8 ho9 hb hg_ hnew_; clear hg_ hnew_; (first | rw [← Ny102.out] at ho9 | (simp only [Int.reduceToNat] at ho9; rw [← Ny102.out] at ho9)); have HO104 := Zz.mk (Kd.R_lower ho9 (bS_ (B1_ HB.out GE101.out))); replace BK101 := Zz.mk (bB_ (g := gb101) (o := .cells #[.int .i64 0, .int .i64 0, .int .i64 0, .slice none 0 0] 52 (0, 0)) (KB_ BK101.out) hb); replace HB := Zz.mk (bT_ (B1_ HB.out GE101.out) hb); clear hb ho9; obtain ⟨Ao10, co10, eo10⟩ := Kd.R_slice HO104.out; subst eo10; obtain ⟨hcz11_0, hcz11_1, hcz11_2, hcz11_3, hfz11_0, hfz11_1, hfz11_2, hfz11_3⟩ := Z4f_ BK101.out))
 refine bodyPost_ret (results_cell_row rfl _ _ gb101 52 #[.int .i64 a0, .int .i64 a1, .int .i64 a2, .slice Ao10 y102.length co10] (0, 0) _ rfl (by refine BW_ ?_; refine bP_ (cs := #[.int .i64 a0, .int .i64 a1, .int .i64 a2, .slice none 0 0]) ?_ 3 _ rfl; refine BW_ ?_; refine bP_ (cs := #[.int .i64 a0, .int .i64 a1, .int .i64 0, .slice none 0 0]) ?_ 2 _ rfl; refine BW_ ?_; refine bP_ (cs := #[.int .i64 a0, .int .i64 0, .int .i64 0, .slice none 0 0]) ?_ 1 _ rfl; refine BW_ ?_; refine bP_ (cs := #[.int .i64 0, .int .i64 0, .int .i64 0, .slice none 0 0]) ?_ 0 _ rfl; refine BW_ ?_; exact BK101.out) Try.underlying52 rfl (by kernel_rfl)) rfl ?_
 exact ⟨_, by first | rfl | (simp [qB1, qB0] <;> rfl) | (simp only [← hji4]; first | rfl | (simp [qB1, qB0] <;> rfl)) | (simp [*, qB1, qB0] <;> rfl), by refine RW_ ?_; exact Kd.R_mono (Kd.R_far (p := ⟨gb101, 3, none⟩) (Kd.R_far (p := ⟨gb101, 2, none⟩) (Kd.R_far (p := ⟨gb101, 1, none⟩) (Kd.R_far (p := ⟨gb101, 0, none⟩) (Kd.R_types HO104.out BK101.out (by decide)) (fun _ hk => hk.2) (.int .i64 a0)) (fun _ hk => hk.2) (.int .i64 a1)) (fun _ hk => hk.2) (.int .i64 a2)) (fun _ hk => hk.2) (.slice Ao10 y102.length co10)) (fun _ hk => trivial), B1_ HB.out GE101.out⟩
mutual
def z42.l0 : Nat → List Int → List Int → Int → List (List Int) → Option (List Int)
 | 0, _, _, _, _ => none
 | k + 1, x5, x6, x7, x51000 => if x7 < (x5.length : Int) then (z42.j1 k x5 x6 x7 (decide ((x5.length : Int) > 1)) x51000) else (z42.j1 k x5 x6 x7 false x51000)
def z42.j1 : Nat → List Int → List Int → Int → Bool → List (List Int) → Option (List Int)
 | 0, _, _, _, _, _ => none
 | k + 1, x5, x6, x7, x24, x51000 => if x24 = true then ((z65.f x5 x7).bind fun t105 => ((z64.f k x51000 t105).bind fun t108 => (if x6.length < 17592186044416 then (z42.l0 k x5 (x6 ++ [t108]) (wrap64 (x7 + 1)) x51000) else (none)))) else (some x6)
end
def z42.f (k : Nat) (l0_0 : List (List Int)) (a1 : Int) : Option (List Int) := if 0 ≤ a1 then (if a1 < (l0_0.length : Int) then (z42.l0 k (rI_ l0_0 a1) (([] : List Int)) 0 l0_0) else (none)) else (none)
theorem z42.calls (k : Nat) (gp0 : Nat) (A0_0 : Option Addr) (c0_0 : Nat) (l0_0 : List (List Int)) (a1 : Int) (r : List Int) (w : World) (hbp0 : w.heap[gp0]? = some (.cells #[.slice A0_0 l0_0.length c0_0] 28 (0, 0))) (hr0_0 : Kd.C (Kd.slice 2 (Kd.int .i64)) w A0_0 l0_0.length l0_0) (hc0_0 : l0_0.length ≤ c0_0) (h : z42.f k l0_0 a1 = some r) :
  Calls Try.prog 42 #[.pointer (some ⟨gp0, 0, none⟩), .int .i64 a1] w fun e w' => ∃ v0_ : Value, e = .returned (v0_) ∧ Kd.R (Kd.int .i64) 2 w' w.heap.size (fun _ => True) v0_ r ∧ Below w.heap.size w w' := by
 have HR0_0 := Zz.mk hr0_0
 have HC0_0 := Zz.mk hc0_0
 clear hr0_0 hc0_0
 have BK50 := Zz.mk hbp0
 clear hbp0
 have HB := Zz.mk (Below.refl w.heap.size w)
 have H : (if 0 ≤ a1 then (if a1 < (l0_0.length : Int) then (z42.l0 k (rI_ l0_0 a1) (([] : List Int)) 0 l0_0) else (none)) else (none)) = some r := h
 clear h
 have c3b0 := O3_ H
 replace H := O2_ H
 have c4b0 := O3_ H
 replace H := O2_ H
 obtain ⟨y102, hy102⟩ : ∃ y_ : List Int, y_ = (([] : List Int)) := ⟨_, rfl⟩
 replace H : (z42.l0 k (rI_ l0_0 a1) y102 0 l0_0) = some r := Y_ hy102 H
 have Ny102 := Zz.mk hy102
 clear hy102
 have H' := Zz.mk H
 clear H
 obtain ⟨hcz5_0, hfz5_0⟩ := Z1f_ BK50.out
 have p101 : 0 ≤ (a1 : Int) := D_
 have q101 : a1 < (l0_0.length : Int) := D_
 obtain ⟨ad101, A101_0, c101_0, e101, hx101_0, hl101_0, hi101_0⟩ := qAs HR0_0.out a1 p101 q101
 cases e101
 have HR101_0 := Zz.mk hi101_0
 have HC101_0 := Zz.mk hl101_0
 clear hi101_0 hl101_0
 replace p101 := eq_true p101
 replace q101 := eq_true q101
 go_enter Try.func42, Try.ntmps42
 go_wp2_with (first | ((with_reducible refine qAm (N := 15) rfl ?_); (try (refine qF2 (by rfl) ?_; dsimp only)); refine Kd.R_lit (Kd.int .i64) _ 2 ?hg (N := 15) ?hd (xs := ([] : List Int)) (inner := []) (ok := fun _ => True) (okp := fun _ => True) ?hr ?hp (fun _ hk => hk) trivial (Below.refl _ _) (Nat.le_refl _) (by simp) ?_; (case hd => rfl); (case hg => rfl); (case hr => first | (go_simp; done) | (go_simp; rfl)); (case hp => exact (Reps.none _ _)); intro v103 w6 ho7 hb hg_ hnew_; clear hg_ hnew_; (first | rw [← Ny102.out] at ho7 | (simp only [Int.reduceToNat] at ho7; rw [← Ny102.out] at ho7)); have HO104 := Zz.mk (Kd.R_lower ho7 (bS_ (B_ HB.out))); replace BK50 := Zz.mk (bB_ (g := gp0) (o := .cells #[.slice (some ad101) l0_0.length c0_0] 28 (0, 0)) (KB_ BK50.out) hb); replace HB := Zz.mk (bT_ (B_ HB.out) hb); clear hb ho7))
 go_loopg [6, 7] k (fun kq v6 v7 w' => ∃ (x6_1 : List Int) (x7_1 : Int), v7 = .int .i64 x7_1 ∧ Zz (z42.l0 kq (rI_ l0_0 a1) x6_1 x7_1 l0_0 = some r) ∧ Zz (kq ≤ k) ∧ Zz (Kd.R (Kd.int .i64) 2 w' w.heap.size (fun _ => True) v6 x6_1) ∧ Zz (w'.heap[gp0]? = some (.cells #[(.slice (some ad101) l0_0.length c0_0)] 28 (0, 0))) ∧ Zz (Below w.heap.size w w'))
 case atStart => exact ⟨(y102), (0), E_, H', ⟨Nat.le_refl _⟩, ⟨KR_ HO104.out⟩, ⟨KB_ BK50.out⟩, ⟨B_ HB.out⟩⟩
 case round =>
  clear H'
  (try clear c3b0);(try clear c4b0);(try clear hcz5_0);(try clear hfz5_0);(try clear hx101_0);(try clear p101);(try clear q101)
  obtain ⟨x6_1, x7_1, rfl, HA, HK1, HO_6, BK50, HB⟩ := hrel
  cases gk with
  | zero => exact absurd HA.out (by simp [z42.l0])
  | succ k1 =>
   have H := HA.out
   clear HA
   simp only [z42.l0] at H
   have HC8 := Zz.mk H
   clear H
   go_upto_region 4 with (fail)
   go_cut [24] (fun v24 wc => ∃ (kq : Nat) (x24_7 : Bool), v24 = .bool x24_7 ∧ Zz (z42.j1 kq (rI_ l0_0 a1) x6_1 x7_1 x24_7 l0_0 = some r) ∧ Zz (kq ≤ k1) ∧ Zz (Kd.R (Kd.int .i64) 2 wc w.heap.size (fun _ => True) u6 x6_1) ∧ Zz (wc.heap[gp0]? = some (.cells #[(.slice (some ad101) l0_0.length c0_0)] 28 (0, 0))) ∧ Zz (Below w.heap.size w wc))
   case first =>
    have H := HC8.out
    clear HC8
    by_cases c9 : x7_1 < ((rI_ l0_0 a1).length : Int)
    ·rw [if_pos c9] at H
     have c9b0 : decide (x7_1 < ((rI_ l0_0 a1).length : Int)) = true := decide_eq_true c9
     clear c9
     (first | rw [c9b0] | (simp only [qA6, qBm]; rw [c9b0]) | skip)
     have H' := Zz.mk H
     clear H
     go_wp2
     go_meet
     case rel => exact ⟨_, (decide (((rI_ l0_0 a1).length : Int) > 1)), E_, H', ⟨by have := HK1.out; first | omega | exact Nat.le_refl _⟩, ⟨KR_ HO_6.out⟩, ⟨KB_ BK50.out⟩, ⟨B_ HB.out⟩⟩
    rw [if_neg c9] at H
    have c9b0 : decide (x7_1 < ((rI_ l0_0 a1).length : Int)) = false := decide_eq_false c9
    clear c9
    (first | rw [c9b0] | (simp only [qA6, qBm]; rw [c9b0]) | skip)
    have H' := Zz.mk H
    clear H
    go_wp2
    go_meet
    case rel => exact ⟨_, (false), E_, H', ⟨by have := HK1.out; first | omega | exact Nat.le_refl _⟩, ⟨KR_ HO_6.out⟩, ⟨KB_ BK50.out⟩, ⟨B_ HB.out⟩⟩
   case rest =>
    clear HC8
    (try clear c3b0);(try clear c4b0);(try clear hcz5_0);(try clear hfz5_0);(try clear hx101_0);(try clear p101);(try clear q101)
    obtain ⟨kq, x24_7, rfl, HA, HJ7, HO_6, BK50, HB⟩ := hcut
    cases kq with
    | zero => exact absurd HA.out (by simp [z42.j1])
    | succ kj7 =>
     have H := HA.out
     clear HA
     simp only [z42.j1] at H
     by_cases c10 : x24_7 = true
     ·subst c10
      replace H := T_ H
      replace H := OZ_ H
      obtain ⟨t105, A11, H⟩ := H
      replace H := OZ_ H
      obtain ⟨t108, A12, H⟩ := H
      have c13 := O1_ H
      replace H := O2_ H
      have LMc13 := Zz.mk c13
      clear c13
      obtain ⟨y109, hy109⟩ : ∃ y_ : List Int, y_ = (x6_1 ++ [t108]) := ⟨_, rfl⟩
      replace H : (z42.l0 kj7 (rI_ l0_0 a1) y109 (wrap64 (x7_1 + 1)) l0_0) = some r := Y_ hy109 H
      have Ny109 := Zz.mk hy109
      clear hy109
      have H' := Zz.mk H
      clear H
      go_wp2_with (first | ((with_reducible refine gC_ (f := 65) rfl ?_); refine GL_ (some 31) rfl rfl Try.func65 #[.slice A101_0 (rI_ l0_0 a1).length c101_0, .int .i64 x7_1] rfl (h := ?_); (with_reducible refine (z65.calls _ _ (rI_ l0_0 a1) x7_1 t105 _ ?side1 ?side2 A11.out).mono ?_); (case side1 => exact KC_ (Kd.C_below HR101_0.out HB.out)); (case side2 => exact HC101_0.out); rintro e w14 ⟨v106, rfl, ho0, hb⟩; refine ⟨_, rfl, ?_⟩; have HO107 := Zz.mk (Kd.R_lower (Kd.R_new' ho0 (Kd.R_lt (KR_ HO_6.out))) (bS_ (B_ HB.out))); replace HO_6 := Zz.mk (Kd.R_elder' (KR_ HO_6.out) (Kd.R_base ho0) hb); replace BK50 := Zz.mk (bB_ (g := gp0) (o := .cells #[.slice (some ad101) l0_0.length c0_0] 28 (0, 0)) (KB_ BK50.out) hb); replace HB := Zz.mk (bT_ (B_ HB.out) hb); (try clear hb); (try clear hb2); (try clear hk); (try clear hi); (try clear ho0); obtain ⟨Ao15, co15, eo15⟩ := Kd.R_slice HO107.out; subst eo15) | ((with_reducible refine gC_ (f := 64) rfl ?_); refine GL_ (some 32) rfl rfl Try.func64 #[.pointer (some ⟨gp0, 0, none⟩), .slice Ao15 t105.length co15] rfl (h := ?_); (with_reducible refine (z64.calls kj7 gp0 (some ad101) c0_0 l0_0 _ _ t105 t108 _ ?side1 ?side2 ?side3 ?side4 ?side5 A12.out).mono ?_); (case side1 => refine BW_ ?_; exact BK50.out); (case side2 => exact KC_ (Kd.C_below HR0_0.out HB.out)); (case side3 => exact HC0_0.out); (case side4 => exact KC_ (Kd.R_reads' HO107.out).2.2); (case side5 => exact (Kd.R_reads' HO107.out).2.1); rintro e w' ⟨rfl, ⟨nd, rfl⟩⟩; refine ⟨_, rfl, ?_⟩) | ((with_reducible refine qA2 (b := .append) (xs := #[.tmp 27, .tmp 33]) rfl ?_); (try (refine qF2 (by rfl) ?_; dsimp only)); at_builtin; refine Kd.R_append (Kd.int .i64) (w0 := w) w.heap.size rfl (.tmp 27) (.tmp 33) 25 2 (.int .i64 0) 8 rfl Try.underlying25 qBs rfl (by decide) (by omega) u6 x6_1 t108 [.int .i64 t108] (fun k_ => some k_ ≠ (.slice Ao15 t105.length co15 : Value).ownBlock) (fun _ => False) rfl rfl ?aP (fun _ hk => hk.elim) ?aF ?aO ?aB ?aS ?aL ?_; (case aP => exact rfl); (case aB => exact (B_ HB.out)); (case aF => exact (fun k_ hk => Kd.fresh' (Kd.R_lt (KR_ HO107.out)) k_ hk)); (case aO => exact (by refine RW_ ?_; exact Kd.R_mono HO_6.out (fun _ hk => hk.2))); (case aS => exact (bS_ (B_ HB.out))); (case aL => have := LMc13.out; omega); intro v110 w16 ho hb hg hat; rw [← Ny109.out] at ho; replace BK50 := Zz.mk (qAu (g := gp0) (o := .cells #[.slice (some ad101) l0_0.length c0_0] 28 (0, 0)) (KB_ BK50.out) hg (Kd.R_ne HO_6.out BK50.out (by decide))); replace HO107 := Zz.mk (Kd.R_after (ok := (fun _ => True)) (KR_ HO107.out) hg hat); replace HB := Zz.mk (hb); have HO111 := Zz.mk (ho); clear HO_6; clear ho hb hg hat))
      go_roundg kj7
      case measure => have := HK1.out; have := HJ7.out; omega
      case rel => exact ⟨(y109), (wrap64 (x7_1 + 1)), E_, H', ⟨by have := HK1.out; have := HJ7.out; omega⟩, ⟨by refine RW_ ?_; exact Kd.R_mono HO111.out (fun _ hk => trivial)⟩, ⟨KB_ BK50.out⟩, ⟨B_ HB.out⟩⟩
     replace c10 := Bool.eq_false_iff.mpr c10
     subst c10
     replace H := N_ H
     obtain rfl := OI_ H
     go_wp2
     go_ret
     exact ⟨_, F_, KR_ HO_6.out, B_ HB.out⟩
def z43.f (a0 : Int) (a1 : Int) : Option (Int) := if (Int.tmod a0 2) = 0 then (if a1 = 0 then (none) else (some ((1 : Int) % a1))) else (some (wrap64 (a1 - 1)))
theorem z43.calls (a0 : Int) (a1 : Int) (r : Int) (w : World) (h : z43.f a0 a1 = some r) :
  Calls Try.prog 43 #[.int .i64 a0, .int .i64 a1] w fun e w' => e = .returned (.int .i64 r) ∧ Dz w w' := by
 have H : (if (Int.tmod a0 2) = 0 then (if a1 = 0 then (none) else (some ((1 : Int) % a1))) else (some (wrap64 (a1 - 1)))) = some r := h
 clear h
 by_cases c3 : (Int.tmod a0 2) = 0
 ·rw [if_pos c3] at H
  have c3b0 : ((Int.tmod a0 2) == 0) = true := beq_iff_eq.mpr c3
  have c3b1 : ((Int.tmod a0 2) != 0) = false := bne_eq_false_iff_eq.mpr c3
  clear c3
  by_cases c4 : a1 = 0
  ·rw [if_pos c4] at H
   exact X_ H
  rw [if_neg c4] at H
  have c4b0 : (a1 == 0) = false := beq_eq_false_iff_ne.mpr c4
  have c4b1 : (a1 != 0) = true := bne_iff_ne.mpr c4
  obtain rfl := OI_ H
  go_enter Try.func43, Try.ntmps43
  go_wp2
  go_ret
  exact ⟨by first | rfl | (simp; done) | (simp [*]; done), by repeat (first | exact Dz.refl _ | apply Dz.step)⟩
 rw [if_neg c3] at H
 have c3b0 : ((Int.tmod a0 2) == 0) = false := beq_eq_false_iff_ne.mpr c3
 have c3b1 : ((Int.tmod a0 2) != 0) = true := bne_iff_ne.mpr c3
 obtain rfl := OI_ H
 go_enter Try.func43, Try.ntmps43
 go_wp2
 go_ret
 exact ⟨by first | rfl | (simp; done) | (simp [*]; done), by repeat (first | exact Dz.refl _ | apply Dz.step)⟩
def z27.l0 : Nat → List Int → Int → Option (Bool)
 | 0, _, _ => none
 | k + 1, x0, x3 => if x3 < (x0.length : Int) then (if 0 ≤ x3 then (if (rd x0 x3) = 0 then (z27.l0 k x0 (wrap64 (x3 + 1))) else (some false)) else (none)) else (some true)
def z27.f (k : Nat) (l0 : List Int) : Option (Bool) := z27.l0 k l0 0
theorem z27.calls (k : Nat) (A0 : Option Addr) (c0 : Nat) (l0 : List Int) (r : Bool) (w : World) (hr0 : Kd.C (Kd.int .i64) w A0 l0.length l0) (hc0 : l0.length ≤ c0) (h : z27.f k l0 = some r) :
  Calls Try.prog 27 #[.slice A0 l0.length c0] w fun e w' => e = .returned (.bool r) ∧ Dz w w' := by
 have HR0 := Zz.mk hr0
 have HC0 := Zz.mk hc0
 clear hr0 hc0
 have H : (z27.l0 k l0 0) = some r := h
 clear h
 have H' := Zz.mk H
 clear H
 go_enter Try.func27, Try.ntmps27
 go_wp2
 go_loopg [3] k (fun kq v3 w' => ∃ (x3_1 : Int), v3 = .int .i64 x3_1 ∧ Zz (z27.l0 kq l0 x3_1 = some r) ∧ Zz (kq ≤ k) ∧ Dz w w')
 case atStart => exact ⟨(0), E_, H', ⟨Nat.le_refl _⟩, by repeat (first | exact Dz.refl _ | apply Dz.step)⟩
 case round =>
  clear H'
  obtain ⟨x3_1, rfl, HA, HK1, ⟨m1, rfl⟩⟩ := hrel
  cases gk with
  | zero => exact absurd HA.out (by simp [z27.l0])
  | succ k1 =>
   have H := HA.out
   clear HA
   simp only [z27.l0] at H
   by_cases c2 : x3_1 < (l0.length : Int)
   ·rw [if_pos c2] at H
    have c2b0 : decide (x3_1 < (l0.length : Int)) = true := decide_eq_true c2
    clear c2
    have c3b0 := O3_ H
    replace H := O2_ H
    by_cases c4 : (rd l0 x3_1) = 0
    ·rw [if_pos c4] at H
     have c4b0 : ((rd l0 x3_1) == 0) = true := beq_iff_eq.mpr c4
     have c4b1 : ((rd l0 x3_1) != 0) = false := bne_eq_false_iff_eq.mpr c4
     clear c4
     have H' := Zz.mk H
     clear H
     have p101 : 0 ≤ (x3_1 : Int) := D_
     have q101 : x3_1 < (l0.length : Int) := D_
     obtain ⟨ad101, e101, hx101_0⟩ := Kd.at_int HR0.out x3_1 p101 q101
     cases e101
     replace p101 := eq_true p101
     replace q101 := eq_true q101
     go_wp2
     go_roundg k1
     case measure => exact Q1_ HK1
     case rel => exact ⟨(wrap64 (x3_1 + 1)), E_, H', ⟨Q1_ HK1⟩, by repeat (first | exact Dz.refl _ | apply Dz.step)⟩
    rw [if_neg c4] at H
    have c4b0 : ((rd l0 x3_1) == 0) = false := beq_eq_false_iff_ne.mpr c4
    have c4b1 : ((rd l0 x3_1) != 0) = true := bne_iff_ne.mpr c4
    obtain rfl := OI_ H
    have p101 : 0 ≤ (x3_1 : Int) := D_
    have q101 : x3_1 < (l0.length : Int) := D_
    obtain ⟨ad101, e101, hx101_0⟩ := Kd.at_int HR0.out x3_1 p101 q101
    cases e101
    replace p101 := eq_true p101
    replace q101 := eq_true q101
    go_wp2
    go_ret
    exact ⟨by first | rfl | (simp; done) | (simp [*]; done), by repeat (first | exact Dz.refl _ | apply Dz.step)⟩
   rw [if_neg c2] at H
   have c2b0 : decide (x3_1 < (l0.length : Int)) = false := decide_eq_false c2
   clear c2
   obtain rfl := OI_ H
   go_wp2
   go_ret
   exact ⟨by first | rfl | (simp; done) | (simp [*]; done), by repeat (first | exact Dz.refl _ | apply Dz.step)⟩
def z68.l0 : Nat → Int → Int → Int → Int → Option (Int)
 | 0, _, _, _, _ => none
 | k + 1, x0, x1, x5, x6 => if x6 > 0 then (if x1 = 0 then (none) else (z68.l0 k x0 x1 (Int.tmod (wrap64 (x5 * x0)) x1) (wrap64 (x6 - 1)))) else (some x5)
def z68.f (k : Nat) (a0 : Int) (a1 : Int) : Option (Int) := z68.l0 k a0 a1 1 (wrap64 (a1 - 2))
theorem z68.calls (k : Nat) (a0 : Int) (a1 : Int) (r : Int) (w : World) (h : z68.f k a0 a1 = some r) :
  Calls Try.prog 68 #[.int .i64 a0, .int .i64 a1] w fun e w' => e = .returned (.int .i64 r) ∧ Dz w w' := by
 have H : (z68.l0 k a0 a1 1 (wrap64 (a1 - 2))) = some r := h
 clear h
 have H' := Zz.mk H
 clear H
 go_enter Try.func68, Try.ntmps68
 go_wp2
 go_loopg [5, 6] k (fun kq v5 v6 w' => ∃ (x5_1 : Int) (x6_1 : Int), v5 = .int .i64 x5_1 ∧ v6 = .int .i64 x6_1 ∧ Zz (z68.l0 kq a0 a1 x5_1 x6_1 = some r) ∧ Zz (kq ≤ k) ∧ Dz w w')
 case atStart => exact ⟨(1), (wrap64 (a1 - 2)), E_, E_, H', ⟨Nat.le_refl _⟩, by repeat (first | exact Dz.refl _ | apply Dz.step)⟩
 case round =>
  clear H'
  obtain ⟨x5_1, x6_1, rfl, rfl, HA, HK1, ⟨m1, rfl⟩⟩ := hrel
  cases gk with
  | zero => exact absurd HA.out (by simp [z68.l0])
  | succ k1 =>
   have H := HA.out
   clear HA
   simp only [z68.l0] at H
   by_cases c3 : x6_1 > 0
   ·rw [if_pos c3] at H
    have c3b0 : decide (0 < x6_1) = true := decide_eq_true c3
    clear c3
    by_cases c4 : a1 = 0
    ·rw [if_pos c4] at H
     exact X_ H
    rw [if_neg c4] at H
    have c4b0 : (a1 == 0) = false := beq_eq_false_iff_ne.mpr c4
    have c4b1 : (a1 != 0) = true := bne_iff_ne.mpr c4
    have H' := Zz.mk H
    clear H
    go_wp2
    go_roundg k1
    case measure => exact Q1_ HK1
    case rel => exact ⟨(Int.tmod (wrap64 (x5_1 * a0)) a1), (wrap64 (x6_1 - 1)), E_, E_, H', ⟨Q1_ HK1⟩, by repeat (first | exact Dz.refl _ | apply Dz.step)⟩
   rw [if_neg c3] at H
   have c3b0 : decide (0 < x6_1) = false := decide_eq_false c3
   clear c3
   obtain rfl := OI_ H
   go_wp2
   go_ret
   exact ⟨by first | rfl | (simp; done) | (simp [*]; done), by repeat (first | exact Dz.refl _ | apply Dz.step)⟩
def z30.f (a0 : Int) (a1 : Int) : Option (Int) := if a1 = 0 then (none) else (some (Int.tmod (wrap64 ((Int.tmod a0 a1) + a1)) a1))
theorem z30.calls (a0 : Int) (a1 : Int) (r : Int) (w : World) (h : z30.f a0 a1 = some r) :
  Calls Try.prog 30 #[.int .i64 a0, .int .i64 a1] w fun e w' => e = .returned (.int .i64 r) ∧ Dz w w' := by
 have H : (if a1 = 0 then (none) else (some (Int.tmod (wrap64 ((Int.tmod a0 a1) + a1)) a1))) = some r := h
 clear h
 by_cases c3 : a1 = 0
 ·rw [if_pos c3] at H
  exact X_ H
 rw [if_neg c3] at H
 have c3b0 : (a1 == 0) = false := beq_eq_false_iff_ne.mpr c3
 have c3b1 : (a1 != 0) = true := bne_iff_ne.mpr c3
 obtain rfl := OI_ H
 go_enter Try.func30, Try.ntmps30
 go_wp2
 go_ret
 exact ⟨by first | rfl | (simp; done) | (simp [*]; done), by repeat (first | exact Dz.refl _ | apply Dz.step)⟩
def z15.l0 : Nat → List Int → List Int → Int → List Int → Int → Option (List Int)
 | 0, _, _, _, _, _ => none
 | k + 1, x0, x1, x2, x7, x8 => if x8 < (x0.length : Int) then (if 0 ≤ x8 then (if x8 < (x1.length : Int) then ((z30.f (wrap64 ((rd x0 x8) - (rd x1 x8))) x2).bind fun t106 => (if x7.length < 17592186044416 then (z15.l0 k x0 x1 x2 (x7 ++ [t106]) (wrap64 (x8 + 1))) else (none))) else (none)) else (none)) else (some x7)
def z15.f (k : Nat) (l0 : List Int) (l1 : List Int) (a2 : Int) : Option (List Int) := z15.l0 k l0 l1 a2 (([] : List Int)) 0
def z15.T5 : Bool × List (List Nat × List Nat) := (true, [([], []), ([], []), ([], []), ([1, 2], [1, 2]), ([3], [3]), ([], []), ([], []), ([5, 6], [5, 6]), ([7], [7]), ([4, 8], [4, 8]), ([], []), ([9, 10], [9, 10]), ([11], [11]), ([0, 12, 11], [0, 12]), ([13, 13, 0, 1, 2, 3, 4, 5, 6, 7, 8, 9, 10, 11, 12, 13], [0, 13])])
def z15.B5 : List Nat := [0, 0, 0, 6, 14, 0, 0, 96, 224, 510, 0, 2046, 4094, 8191, 16383]
theorem z15.tab5 : rtab .any (qB2 Try.f15 5) = z15.T5 := by kernel_rfl
theorem z15.bits5 : qA7 z15.T5.2 z15.B5 = true := by kernel_rfl
theorem z15.calls (k : Nat) (A0 : Option Addr) (c0 : Nat) (l0 : List Int) (A1 : Option Addr) (c1 : Nat) (l1 : List Int) (a2 : Int) (r : List Int) (w : World) (hr0 : Kd.C (Kd.int .i64) w A0 l0.length l0) (hc0 : l0.length ≤ c0) (hr1 : Kd.C (Kd.int .i64) w A1 l1.length l1) (hc1 : l1.length ≤ c1) (h : z15.f k l0 l1 a2 = some r) :
  Calls Try.prog 15 #[.slice A0 l0.length c0, .slice A1 l1.length c1, .int .i64 a2] w fun e w' => ∃ v0_ : Value, e = .returned (v0_) ∧ Kd.R (Kd.int .i64) 2 w' w.heap.size (fun _ => True) v0_ r ∧ Below w.heap.size w w' := by
 have HR0 := Zz.mk hr0
 have HC0 := Zz.mk hc0
 clear hr0 hc0
 have HR1 := Zz.mk hr1
 have HC1 := Zz.mk hc1
 clear hr1 hc1
 have HB := Zz.mk (Below.refl w.heap.size w)
 have H : (z15.l0 k l0 l1 a2 (([] : List Int)) 0) = some r := h
 clear h
 obtain ⟨y101, hy101⟩ : ∃ y_ : List Int, y_ = (([] : List Int)) := ⟨_, rfl⟩
 replace H : (z15.l0 k l0 l1 a2 y101 0) = some r := Y_ hy101 H
 have Ny101 := Zz.mk hy101
 clear hy101
 have H' := Zz.mk H
 clear H
 go_enter Try.func15, Try.ntmps15
 go_wp2_with (first | ((with_reducible refine qAm (N := 9) rfl ?_); refine Kd.R_lit (Kd.int .i64) _ 2 ?hg (N := 9) ?hd (xs := ([] : List Int)) (inner := []) (ok := fun _ => True) (okp := fun _ => True) ?hr ?hp (fun _ hk => hk) trivial (Below.refl _ _) (Nat.le_refl _) (by simp) ?_; (case hd => rfl); (case hg => rfl); (case hr => first | (go_simp; done) | (go_simp; rfl)); (case hp => exact (Reps.none _ _)); intro v102 w4 ho5 hb hg_ hnew_; clear hg_ hnew_; (first | rw [← Ny101.out] at ho5 | (simp only [Int.reduceToNat] at ho5; rw [← Ny101.out] at ho5)); have HO103 := Zz.mk (Kd.R_lower ho5 (bS_ (B_ HB.out))); replace HB := Zz.mk (bT_ (B_ HB.out) hb); clear hb ho5))
 go_loopg [7, 8] k (fun kq v7 v8 w' => ∃ (x7_1 : List Int) (x8_1 : Int), v8 = .int .i64 x8_1 ∧ Zz (z15.l0 kq l0 l1 a2 x7_1 x8_1 = some r) ∧ Zz (kq ≤ k) ∧ Zz (Kd.R (Kd.int .i64) 2 w' w.heap.size (fun _ => True) v7 x7_1) ∧ Zz (Below w.heap.size w w'))
 case atStart => exact ⟨(y101), (0), E_, H', ⟨Nat.le_refl _⟩, ⟨KR_ HO103.out⟩, ⟨B_ HB.out⟩⟩
 case round =>
  clear H'
  (try clear c1)
  obtain ⟨x7_1, x8_1, rfl, HA, HK1, HO_7, HB⟩ := hrel
  cases gk with
  | zero => exact absurd HA.out (by simp [z15.l0])
  | succ k1 =>
   have H := HA.out
   clear HA
   simp only [z15.l0] at H
   by_cases c6 : x8_1 < (l0.length : Int)
   ·rw [if_pos c6] at H
    have c6b0 : decide (x8_1 < (l0.length : Int)) = true := decide_eq_true c6
    clear c6
    have c7b0 := O3_ H
    replace H := O2_ H
    have c8b0 := O3_ H
    replace H := O2_ H
    replace H := OZ_ H
    obtain ⟨t106, A9, H⟩ := H
    have c10 := O1_ H
    replace H := O2_ H
    have LMc10 := Zz.mk c10
    clear c10
    obtain ⟨y107, hy107⟩ : ∃ y_ : List Int, y_ = (x7_1 ++ [t106]) := ⟨_, rfl⟩
    replace H : (z15.l0 k1 l0 l1 a2 y107 (wrap64 (x8_1 + 1))) = some r := Y_ hy107 H
    have Ny107 := Zz.mk hy107
    clear hy107
    have H' := Zz.mk H
    clear H
    try go_wp2
    replace HO_7 := Zz.mk (Kd.R_drew HO_7.out)
    replace HB := Zz.mk (qAq HB.out)
    have p104 : 0 ≤ (x8_1 : Int) := D_
    have q104 : x8_1 < (l0.length : Int) := D_
    obtain ⟨ad104, e104, hx104_0⟩ := Kd.at_int HR0.out x8_1 p104 q104
    have hw104_0 := hx104_0
    cases e104
    replace hx104_0 := (HB.out.cell (World.block_lt_of_cell? w _ hx104_0)).trans hx104_0
    replace p104 := eq_true p104
    replace q104 := eq_true q104
    have p105 : 0 ≤ (x8_1 : Int) := D_
    have q105 : x8_1 < (l1.length : Int) := D_
    obtain ⟨ad105, e105, hx105_0⟩ := Kd.at_int HR1.out x8_1 p105 q105
    have hw105_0 := hx105_0
    cases e105
    replace hx105_0 := (HB.out.cell (World.block_lt_of_cell? w _ hx105_0)).trans hx105_0
    replace p105 := eq_true p105
    replace q105 := eq_true q105
    refine qBh (n := 15) (S := fun w' => w'.cell? (ad104.add (x8_1).toNat) = some (.int .i64 (rd l0 x8_1)) ∧ w'.cell? (ad105.add (x8_1).toNat) = some (.int .i64 (rd l1 x8_1))) (ds := []) (tb_ 15 0) (by kernel_rfl) rfl rfl ⟨((HB.out.cell (World.block_lt_of_cell? w _ hw104_0)).trans hw104_0), ((HB.out.cell (World.block_lt_of_cell? w _ hw105_0)).trans hw105_0)⟩ (fun hHeld => ?_); refine qAz z15.tab5 z15.bits5 (fun HT_ HW_ => ?_)
    generalize wr.drew = w11 at HO_7 HB hx104_0 hx105_0 hHeld ⊢
    refine PX_ 0 16 (tb_ 15 1) HT_ rfl rfl ?_
    refine PX_ 1 17 (tb_ 15 3) HT_ rfl rfl ?_
    refine PX_ 2 18 (tb_ 15 7) HT_ rfl rfl ?_
    refine PX_ 3 19 (tb_ 15 15) HT_ rfl rfl ?_
    refine PX_ 5 21 (tb_ 15 47) HT_ rfl rfl ?_
    refine PX_ 6 22 (tb_ 15 111) HT_ rfl rfl ?_
    refine PX_ 7 23 (tb_ 15 239) HT_ rfl rfl ?_
    refine PX_ 10 26 (tb_ 15 1263) HT_ rfl rfl ?_
    refine TV_ (i := 4) (N := some 20) (tb_ 15 1279) HT_ HW_ rfl rfl hHeld (by rintro w' ⟨s0, s1⟩; go_simp; with_reducible rfl) (h := ?_)
    refine TV_ (i := 8) (N := some 24) (tb_ 15 1535) HT_ HW_ rfl rfl hHeld (by rintro w' ⟨s0, s1⟩; go_simp; with_reducible rfl) (h := ?_)
    refine PX_ 9 25 (tb_ 15 2047) HT_ rfl rfl ?_
    refine one_ (i := 11) (N := some 27) (tb_ 15 4095) rfl rfl (qAy HT_.out (by kernel_rfl)) (by decide) (fun K hK => ?_)
    refine GO_ Try.func30 #[.int .i64 (wrap64 ((rd l0 x8_1) - (rd l1 x8_1))), .int .i64 a2] (h := ?_)
    with_reducible refine (z30.calls (wrap64 ((rd l0 x8_1) - (rd l1 x8_1))) a2 t106 _ A9.out).mono ?_
    rintro e w' ⟨rfl, ⟨nd, rfl⟩⟩
    refine ⟨_, rfl, ?_⟩
    refine hK.out _ _ ⟨((HB.out.cell (World.block_lt_of_cell? w _ hw104_0)).trans hw104_0), ((HB.out.cell (World.block_lt_of_cell? w _ hw105_0)).trans hw105_0)⟩ (fun hHeld => ?_)
    clear hK K
    refine NM_ (N := (some 27)) (h := ?_)
    refine one_ (i := 12) (N := some 28) (tb_ 15 8191) rfl rfl (qAy HT_.out (by kernel_rfl)) (by decide) (fun K hK => ?_)
    refine qFp (w1 := ?_) (v := ?_) (by rfl) rfl ?_ ?_
    rotate_left 2
    ·go_simp
     constructor
     ·rfl
     rfl
    refine hK.out _ _ ⟨(World.cell?_alloc_lt _ _ _ (World.block_lt_of_cell? _ _ (((HB.out.cell (World.block_lt_of_cell? w _ hw104_0)).trans hw104_0)))).trans (((HB.out.cell (World.block_lt_of_cell? w _ hw104_0)).trans hw104_0)), (World.cell?_alloc_lt _ _ _ (World.block_lt_of_cell? _ _ (((HB.out.cell (World.block_lt_of_cell? w _ hw105_0)).trans hw105_0)))).trans (((HB.out.cell (World.block_lt_of_cell? w _ hw105_0)).trans hw105_0))⟩ (fun hHeld => ?_)
    clear hK K
    refine NM_ (N := (some 28)) (h := ?_)
    refine one_ (i := 13) (N := some 29) (tb_ 15 16383) rfl rfl (qAy HT_.out (by kernel_rfl)) (by decide) (fun K hK => ?_)
    refine Kd.R_append_step (Kd.int .i64) (w0 := w) w.heap.size (by rfl) (.tmp 16) (.tmp 28) 25 2 (.int .i64 0) 8 rfl Try.underlying25 qBs rfl (by decide) (by omega) u7 x7_1 t106 [.int .i64 t106] (fun _ => True) (fun _ => False) rfl rfl ?aP (fun _ hk => hk.elim) ?aF ?aO ?aB ?aS ?aL ?_
    (case aP => exact rfl)
    (case aB => exact (B_ HB.out))
    (case aF => exact (fun _ _ => trivial))
    (case aO => exact (KR_ HO_7.out))
    (case aS => exact (bS_ (B_ HB.out)))
    (case aL => have := LMc10.out; omega)
    intro v108 w12 ho hb hg hat
    rw [← Ny107.out] at ho
    replace HB := Zz.mk (hb)
    have HO109 := Zz.mk (ho)
    clear HO_7
    clear ho hb hg hat
    refine hK.out _ _ ⟨((HB.out.cell (World.block_lt_of_cell? w _ hw104_0)).trans hw104_0), ((HB.out.cell (World.block_lt_of_cell? w _ hw105_0)).trans hw105_0)⟩ (fun hHeld => ?_)
    clear hK K
    refine NM_ (N := (some 29)) (h := ?_)
    refine PX_ 14 7 (tb_ 15 32767) HT_ rfl rfl ?_
    refine qBz (qA9 HT_.out (by kernel_rfl)) ?_
    try go_wp2
    go_roundg k1
    case measure => exact Q1_ HK1
    case rel => exact ⟨(y107), (wrap64 (x8_1 + 1)), E_, H', ⟨Q1_ HK1⟩, ⟨KR_ HO109.out⟩, ⟨B_ HB.out⟩⟩
   rw [if_neg c6] at H
   have c6b0 : decide (x8_1 < (l0.length : Int)) = false := decide_eq_false c6
   clear c6
   obtain rfl := OI_ H
   go_wp2
   go_ret
   exact ⟨_, F_, KR_ HO_7.out, B_ HB.out⟩
end Go.Proofs.Ytgdfkcipffjjcaa.B
