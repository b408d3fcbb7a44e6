/- Printed proofs of functions of the program and of the reference, by a program of this work over the kit's printer. -/
import Derived.Test.YtabfflgoaalapaaKENHNJJ0
import Derived.Test.YtabfflgoaalapaaKFPGKKO0
import Derived.Test.YtabfflgoaalapaaKGHHMHL0
import Derived.Test.YtabfflgoaalapaaKW0
namespace Go.Proofs.Ytabfflgoaalapaa.B
open Go.RowKit Go.Proofs.YtabfflgoaalapaaW.PrintWords Go.Proofs.YtabfflgoaalapaaW.PrintLast Go.Proofs.YtabfflgoaalapaaW.PrintMore
attribute [local go_sem] qAo qAm qAq qAp qAk qAj qAn qAl
set_option linter.unusedVariables false
set_option linter.unusedSimpArgs false
mutual
def z136.l0 : Nat → List Int → List (List Int) → Int → Int → Int → Int → List Int → Int → Int → Int → List Int → Option ((List (List Int)))
 | 0, _, _, _, _, _, _, _, _, _, _, _ => none
 | k + 1, x4, x6, x7, x51000, x51001, x51002, x51003, x112000, x112001, x112002, x112003 => if x7 < x51002 then ((z70.f k x4 x7).bind fun t115 => (if t115 = true then (z136.l0 k x4 x6 (wrap64 (x7 + 1)) x51000 x51001 x51002 x51003 x112000 x112001 x112002 x112003) else (if 0 ≤ x51002 then (if (x51002 : Int).toNat ≤ 35184372088832 then ((some (List.replicate (x51002 : Int).toNat 0 : List Int)).bind fun y116 => (if 0 ≤ x7 then (if x7 < (y116.length : Int) then (z136.l1 k x4 x6 x7 (y116.set (x7 : Int).toNat 1) 0 x51000 x51001 x51002 x51003 x112000 x112001 x112002 x112003) else (none)) else (none))) else (none)) else (none)))) else (some x6)
def z136.l1 : Nat → List Int → List (List Int) → Int → List Int → Int → Int → Int → Int → List Int → Int → Int → Int → List Int → Option ((List (List Int)))
 | 0, _, _, _, _, _, _, _, _, _, _, _, _, _ => none
 | k + 1, x4, x6, x7, x8, x9, x51000, x51001, x51002, x51003, x112000, x112001, x112002, x112003 => if x9 < (x4.length : Int) then (if 0 ≤ x9 then (if 0 ≤ (wrap64 ((wrap64 (x9 * x51002)) + x7)) then (if (wrap64 ((wrap64 (x9 * x51002)) + x7)) < (x112003.length : Int) then ((z156.f (wrap64 (-(rd x112003 (wrap64 ((wrap64 (x9 * x51002)) + x7))))) x51000).bind fun t122 => (if 0 ≤ (rd x4 x9) then (if (rd x4 x9) < (x8.length : Int) then (z136.l1 k x4 x6 x7 (x8.set ((rd x4 x9) : Int).toNat t122) (wrap64 (x9 + 1)) x51000 x51001 x51002 x51003 x112000 x112001 x112002 x112003) else (none)) else (none))) else (none)) else (none)) else (none)) else (if x6.length < 5864062014805 then (z136.l0 k x4 (x6 ++ [x8]) (wrap64 (x7 + 1)) x51000 x51001 x51002 x51003 x112000 x112001 x112002 x112003) else (none))
end
def z136.f (k : Nat) (a0_0 : Int) (a0_1 : Int) (a0_2 : Int) (l0_3 : List Int) : Option ((List (List Int))) := (z134.f k a0_0 a0_1 a0_2 l0_3).bind fun bt101 => (z136.l0 k bt101.2.2.2.2.1 (([] : List (List Int))) 0 a0_0 a0_1 a0_2 l0_3 bt101.1 bt101.2.1 bt101.2.2.1 bt101.2.2.2.1)
def z136.T12 : Bool × List (List Nat × List Nat) := (true, [([], []), ([], []), ([], []), ([1, 2], [1, 2]), ([3], [3]), ([], []), ([5], [5]), ([], []), ([], []), ([8], [8]), ([9], [9]), ([10], [10]), ([7, 11], [7, 11]), ([], []), ([12, 13], [12, 13]), ([6, 14], [6, 14]), ([15], [15]), ([16], [16]), ([], []), ([18], [18]), ([19], [19]), ([20], [20]), ([17, 21], [17, 21]), ([0, 4, 0, 1, 2, 3, 4, 5, 6, 7, 8, 9, 10, 11, 12, 13, 14, 15, 16, 17, 18, 19, 20, 21, 22], [0, 4]), ([23, 22, 22, 0, 1, 2, 3, 4, 5, 6, 7, 8, 9, 10, 11, 12, 13, 14, 15, 16, 17, 18, 19, 20, 21, 22], [22, 23])])
def z136.B12 : List Nat := [0, 0, 0, 6, 14, 0, 32, 0, 0, 256, 768, 1792, 3968, 0, 16256, 32736, 65504, 131040, 0, 262144, 786432, 1835008, 4194272, 8388607, 16777215]
theorem z136.tab12 : rtab .any (qBt Try.f136 12) = z136.T12 := by kernel_rfl
theorem z136.bits12 : qA4 z136.T12.2 z136.B12 = true := by kernel_rfl
set_option maxHeartbeats 8000000 in
set_option maxRecDepth 100000 in
theorem z136.calls (k : Nat) (gp0 : Nat) (a0_0 : Int) (a0_1 : Int) (a0_2 : Int) (A0_3 : Option Addr) (c0_3 : Nat) (l0_3 : List Int) (r : List (List Int)) (w : World) (hbp0 : w.heap[gp0]? = some (.cells #[.int .i64 a0_0, .int .i64 a0_1, .int .i64 a0_2, .slice A0_3 l0_3.length c0_3] 59 (0, 0))) (hr0_3 : Kd.C (Kd.int .i64) w A0_3 l0_3.length l0_3) (hc0_3 : l0_3.length ≤ c0_3) (h : z136.f k a0_0 a0_1 a0_2 l0_3 = some r) :
  Calls Try.prog 136 #[.pointer (some ⟨gp0, 0, none⟩)] w fun e w' => ∃ v0_ : Value, e = .returned (v0_) ∧ Kd.S (Kd.slice 2 (Kd.int .i64)) 25 w' w.heap.size (fun _ => True) v0_ r ∧ Below w.heap.size w w' := by
 have hu59 := Try.underlying59
 have HR0_3 := Zz.mk hr0_3
 have HC0_3 := Zz.mk hc0_3
 clear hr0_3 hc0_3
 have BK50 := Zz.mk hbp0
 clear hbp0
 have HB := Zz.mk (Below.refl w.heap.size w)
 have H : ((z134.f k a0_0 a0_1 a0_2 l0_3).bind fun bt101 => (z136.l0 k bt101.2.2.2.2.1 (([] : List (List Int))) 0 a0_0 a0_1 a0_2 l0_3 bt101.1 bt101.2.1 bt101.2.2.1 bt101.2.2.2.1)) = some r := h
 clear h
 replace H := OB_ H
 obtain ⟨⟨t101, t102, t103, t104, t107, t110⟩, A20, H⟩ := H
 try dsimp only at H
 have A2 := Zz.mk A20
 clear A20
 obtain ⟨y112, hy112⟩ : ∃ y_ : List (List Int), y_ = (([] : List (List Int))) := ⟨_, rfl⟩
 replace H : (z136.l0 k t107 y112 0 a0_0 a0_1 a0_2 l0_3 t101 t102 t103 t104) = some r := Y_ hy112 H
 have Ny112 := Zz.mk hy112
 clear hy112
 have H' := Zz.mk H
 clear H
 go_enter Try.func136, Try.ntmps136
 go_wp2_with (first | ((with_reducible refine gC_ (f := 134) rfl ?_); refine GL_ (some 12) rfl rfl Try.func134 #[.pointer (some ⟨gp0, 0, none⟩)] rfl (h := ?_); (with_reducible refine (z134.calls k gp0 a0_0 a0_1 a0_2 A0_3 c0_3 l0_3 t101 t102 t103 t104 t107 t110 _ ?side1 ?side2 ?side3 A2.out).mono ?_); (case side1 => refine BW_ ?_; exact BK50.out); (case side2 => exact KC_ HR0_3.out); (case side3 => exact HC0_3.out); rintro e w3 ⟨v105, v108, rfl, ho0, ho1, hb⟩; refine ⟨_, rfl, ?_⟩; have HO106 := Zz.mk (Kd.R_lower ho0 (bS_ (B_ HB.out))); have HO109 := Zz.mk (Kd.R_lower ho1 (bS_ (B_ HB.out))); replace BK50 := Zz.mk (kb_ BK50.out hb); replace HB := Zz.mk (bT_ (B_ HB.out) hb); (try clear hb); (try clear ho0); (try clear ho1)) | ((with_reducible refine qAh (N := 3) rfl ?_); refine bx_ 3 #[.int .i64 0, .int .i64 0, .int .i64 0, .slice none 0 0] 59 ?_; intro gb111 hg w4 hbox hb; have BK111 := Zz.mk (hbox); have GW111 := Zz.mk ((gw_ hg (B_ HB.out))); have GE111 := GW111; have NB50_111 := Zz.mk ((nb_ BK50.out hg)); have NB111_50 := Zz.mk NB50_111.out.symm; replace HO106 := Zz.mk (Kd.R_below (KR_ HO106.out) hb); replace HO109 := Zz.mk (Kd.R_below (KR_ HO109.out) hb); replace BK50 := Zz.mk (kb_ BK50.out hb); replace HB := Zz.mk (bT_ (B_ HB.out) hb); clear hb hbox hg; have hnb5 := NB111_50.out; have hnc5 := NB50_111.out; obtain ⟨hcz6_0, hcz6_1, hcz6_2, hcz6_3, hfz6_0, hfz6_1, hfz6_2, hfz6_3⟩ := Z4f_ BK111.out; obtain ⟨Ao7, co7, eo7⟩ := Kd.R_slice HO106.out; subst eo7) | ((with_reducible refine qAh (N := 16) rfl ?_); refine Kd.S_lit (Kd.slice 2 (Kd.int .i64)) _ 25 ?hg (N := 16) ?hd (xs := ([] : List (List Int))) (inner := []) (ok := fun _ => True) (okp := fun _ => True) ?hr ?hp (fun _ hk => hk) trivial (Below.refl _ _) (Nat.le_refl _) (by simp) ?_; (case hd => rfl); (case hg => rfl); (case hr => first | (go_simp; done) | (go_simp; rfl)); (case hp => exact (Reps.none _ _)); intro v113 w8 ho9 hb hg_ hnew_; clear hg_ hnew_; (first | rw [← Ny112.out] at ho9 | (simp only [Int.reduceToNat] at ho9; rw [← Ny112.out] at ho9)); have HO114 := Zz.mk (Kd.S_lower (Kd.S_new' (Kd.S_new' ho9 (Kd.R_lt (by refine RW_ ?_; exact (Kd.R_mono (Kd.R_far (p := ⟨gb111, 3, none⟩) (Kd.R_far (p := ⟨gb111, 2, none⟩) (Kd.R_far (p := ⟨gb111, 1, none⟩) (Kd.R_far (p := ⟨gb111, 0, none⟩) (Kd.R_types HO106.out BK111.out (by decide)) (fun _ hk => hk.2) (.int .i64 t101)) (fun _ hk => hk.2) (.int .i64 t102)) (fun _ hk => hk.2) (.int .i64 t103)) (fun _ hk => hk.2) (.slice Ao7 t104.length co7)) (fun _ h_ => h_.1))))) (Kd.R_lt (by refine RW_ ?_; exact (Kd.R_mono (Kd.R_far (p := ⟨gb111, 3, none⟩) (Kd.R_far (p := ⟨gb111, 2, none⟩) (Kd.R_far (p := ⟨gb111, 1, none⟩) (Kd.R_far (p := ⟨gb111, 0, none⟩) (Kd.R_types HO109.out BK111.out (by decide)) (fun _ hk => hk.2) (.int .i64 t101)) (fun _ hk => hk.2) (.int .i64 t102)) (fun _ hk => hk.2) (.int .i64 t103)) (fun _ hk => hk.2) (.slice Ao7 t104.length co7)) (fun _ h_ => h_.1))))) (bS_ (B1_ HB.out GE111.out))); replace HO106 := Zz.mk (Kd.R_below (by refine RW_ ?_; exact (Kd.R_mono (Kd.R_far (p := ⟨gb111, 3, none⟩) (Kd.R_far (p := ⟨gb111, 2, none⟩) (Kd.R_far (p := ⟨gb111, 1, none⟩) (Kd.R_far (p := ⟨gb111, 0, none⟩) (Kd.R_types HO106.out BK111.out (by decide)) (fun _ hk => hk.2) (.int .i64 t101)) (fun _ hk => hk.2) (.int .i64 t102)) (fun _ hk => hk.2) (.int .i64 t103)) (fun _ hk => hk.2) (.slice Ao7 t104.length co7)) (fun _ h_ => h_.1))) hb); replace HO109 := Zz.mk (Kd.R_below (by refine RW_ ?_; exact (Kd.R_mono (Kd.R_far (p := ⟨gb111, 3, none⟩) (Kd.R_far (p := ⟨gb111, 2, none⟩) (Kd.R_far (p := ⟨gb111, 1, none⟩) (Kd.R_far (p := ⟨gb111, 0, none⟩) (Kd.R_types HO109.out BK111.out (by decide)) (fun _ hk => hk.2) (.int .i64 t101)) (fun _ hk => hk.2) (.int .i64 t102)) (fun _ hk => hk.2) (.int .i64 t103)) (fun _ hk => hk.2) (.slice Ao7 t104.length co7)) (fun _ h_ => h_.1))) hb); replace BK50 := Zz.mk (bB_ (g := gp0) (o := .cells #[.int .i64 a0_0, .int .i64 a0_1, .int .i64 a0_2, .slice A0_3 l0_3.length c0_3] 59 (0, 0)) (by refine BW_ ?_; refine bR_ ?_ NB50_111.out _; refine BW_ ?_; refine bR_ ?_ NB50_111.out _; refine BW_ ?_; refine bR_ ?_ NB50_111.out _; refine BW_ ?_; refine bR_ ?_ NB50_111.out _; refine BW_ ?_; exact BK50.out) hb); replace BK111 := Zz.mk (bB_ (g := gb111) (o := .cells #[.int .i64 t101, .int .i64 t102, .int .i64 t103, .slice Ao7 t104.length co7] 59 (0, 0)) (by refine BW_ ?_; refine bP_ (cs := #[.int .i64 t101, .int .i64 t102, .int .i64 t103, .slice none 0 0]) ?_ 3 _ rfl; refine BW_ ?_; refine bP_ (cs := #[.int .i64 t101, .int .i64 t102, .int .i64 0, .slice none 0 0]) ?_ 2 _ rfl; refine BW_ ?_; refine bP_ (cs := #[.int .i64 t101, .int .i64 0, .int .i64 0, .slice none 0 0]) ?_ 1 _ rfl; refine BW_ ?_; refine bP_ (cs := #[.int .i64 0, .int .i64 0, .int .i64 0, .slice none 0 0]) ?_ 0 _ rfl; refine BW_ ?_; exact BK111.out) hb); replace HB := Zz.mk (bT_ (B1_ HB.out GE111.out) hb); clear hb ho9))
 go_loopg [6, 7] k (fun kq v6 v7 w' => ∃ (x4_1 : List Int) (x6_1 : List (List Int)) (x7_1 : Int) (x112003_1 : List Int) (u112003 : Value), v7 = .int .i64 x7_1 ∧ Zz (z136.l0 kq x4_1 x6_1 x7_1 a0_0 a0_1 a0_2 l0_3 t101 t102 t103 x112003_1 = some r) ∧ Zz (kq ≤ k) ∧ Zz (Kd.R (Kd.int .i64) 2 w' w.heap.size (fun k_ => some k_ ≠ (u112003 : Value).ownBlock) v108 x4_1) ∧ Zz (Kd.S (Kd.slice 2 (Kd.int .i64)) 25 w' w.heap.size (fun k_ => some k_ ≠ (v108 : Value).ownBlock ∧ some k_ ≠ (u112003 : Value).ownBlock) v6 x6_1) ∧ Zz (Kd.R (Kd.int .i64) 2 w' w.heap.size (fun k_ => some k_ ≠ (v108 : Value).ownBlock) u112003 x112003_1) ∧ Zz (w'.heap[gp0]? = some (.cells #[.int .i64 a0_0, .int .i64 a0_1, .int .i64 a0_2, (.slice A0_3 l0_3.length c0_3)] 59 (0, 0))) ∧ Zz (w'.heap[gb111]? = some (.cells #[.int .i64 t101, .int .i64 t102, .int .i64 t103, u112003] 59 (0, 0))) ∧ Zz (Below w.heap.size w w'))
 case atStart => exact ⟨(t107), (y112), (0), (t104), (.slice Ao7 t104.length co7), E_, H', ⟨Nat.le_refl _⟩, ⟨KR_ HO109.out⟩, ⟨by refine SW_ ?_; exact Kd.S_mono HO114.out (fun _ hk => ⟨hk.2, hk.1.2⟩)⟩, ⟨KR_ HO106.out⟩, ⟨KB_ BK50.out⟩, ⟨KB_ BK111.out⟩, ⟨B1_ HB.out GE111.out⟩⟩
 case round =>
  clear H'
  (try clear hcz6_0);(try clear hcz6_1);(try clear hcz6_2);(try clear hcz6_3);(try clear hfz6_0);(try clear hfz6_1);(try clear hfz6_2);(try clear hfz6_3)
  obtain ⟨x4_1, x6_1, x7_1, x112003_1, u112003, rfl, HA, HK1, HO_4, HO_6, HO_112003, BK50, BK111, HB⟩ := hrel
  cases gk with
  | zero => exact absurd HA.out (by simp [z136.l0])
  | succ k1 =>
   have H := HA.out
   clear HA
   simp only [z136.l0] at H
   by_cases c10 : x7_1 < a0_2
   ·rw [if_pos c10] at H
    have c10b0 : decide (x7_1 < a0_2) = true := decide_eq_true c10
    clear c10
    replace H := OZ_ H
    obtain ⟨t115, A11, H⟩ := H
    by_cases c12 : t115 = true
    ·subst c12
     replace H := T_ H
     have H' := Zz.mk H
     clear H
     have hnb13 := NB50_111.out
     have hnc13 := NB111_50.out
     obtain ⟨hcz14_0, hcz14_1, hcz14_2, hcz14_3, hfz14_0, hfz14_1, hfz14_2, hfz14_3⟩ := Z4f_ BK50.out
     obtain ⟨Ao15, co15, eo15⟩ := Kd.R_slice HO_4.out
     subst eo15
     go_wp2_with (first | ((with_reducible refine gC_ (f := 70) rfl ?_); refine GL_ (some 27) rfl rfl Try.func70 #[.slice Ao15 x4_1.length co15, .int .i64 x7_1] rfl (h := ?_); (with_reducible refine (z70.calls k1 _ _ x4_1 x7_1 true _ ?side1 ?side2 A11.out).mono ?_); (case side1 => exact KC_ (Kd.R_reads' HO_4.out).2.2); (case side2 => exact (Kd.R_reads' HO_4.out).2.1); rintro e w' ⟨rfl, ⟨nd, rfl⟩⟩; refine ⟨_, rfl, ?_⟩))
     go_roundg k1
     case measure => exact Q1_ HK1
     case rel => exact ⟨(x4_1), (x6_1), (wrap64 (x7_1 + 1)), (x112003_1), (u112003), E_, H', ⟨Q1_ HK1⟩, ⟨KR_ HO_4.out⟩, ⟨KS_ HO_6.out⟩, ⟨KR_ HO_112003.out⟩, ⟨KB_ BK50.out⟩, ⟨KB_ BK111.out⟩, ⟨B1_ HB.out GE111.out⟩⟩
    replace c12 := Bool.eq_false_iff.mpr c12
    subst c12
    replace H := N_ H
    have c16 := O1_ H
    replace H := O2_ H
    have c16b0 := eq_true c16
    have c16b1 : decide (0 ≤ a0_2) = true := decide_eq_true c16
    clear c16
    have c17 := O1_ H
    replace H := O2_ H
    have c17b0 := eq_true c17
    have c17b1 : decide ((a0_2 : Int).toNat ≤ 35184372088832) = true := decide_eq_true c17
    clear c17
    obtain ⟨y116, hy116⟩ : ∃ y_ : List Int, y_ = (List.replicate (a0_2 : Int).toNat 0) := ⟨_, rfl⟩
    replace H : (if 0 ≤ x7_1 then (if x7_1 < (y116.length : Int) then (z136.l1 k1 x4_1 x6_1 x7_1 (y116.set (x7_1 : Int).toNat 1) 0 a0_0 a0_1 a0_2 l0_3 t101 t102 t103 x112003_1) else (none)) else (none)) = some r := Y_ hy116 H
    have Ny116 := Zz.mk hy116
    clear hy116
    have c18b0 := O3_ H
    replace H := O2_ H
    have c19b0 := O3_ H
    replace H := O2_ H
    obtain ⟨y119, hy119⟩ : ∃ y_ : List Int, y_ = (y116.set (x7_1 : Int).toNat 1) := ⟨_, rfl⟩
    replace H : (z136.l1 k1 x4_1 x6_1 x7_1 y119 0 a0_0 a0_1 a0_2 l0_3 t101 t102 t103 x112003_1) = some r := Y_ hy119 H
    have Ny119 := Zz.mk hy119
    clear hy119
    have H' := Zz.mk H
    clear H
    have hnb21 := NB50_111.out
    have hnc21 := NB111_50.out
    obtain ⟨hcz22_0, hcz22_1, hcz22_2, hcz22_3, hfz22_0, hfz22_1, hfz22_2, hfz22_3⟩ := Z4f_ BK50.out
    obtain ⟨Ao23, co23, eo23⟩ := Kd.R_slice HO_4.out
    subst eo23
    go_wp2_with (first | ((with_reducible refine gC_ (f := 70) rfl ?_); refine GL_ (some 27) rfl rfl Try.func70 #[.slice Ao23 x4_1.length co23, .int .i64 x7_1] rfl (h := ?_); (with_reducible refine (z70.calls k1 _ _ x4_1 x7_1 false _ ?side1 ?side2 A11.out).mono ?_); (case side1 => exact KC_ (Kd.R_reads' HO_4.out).2.2); (case side2 => exact (Kd.R_reads' HO_4.out).2.1); rintro e w' ⟨rfl, ⟨nd, rfl⟩⟩; refine ⟨_, rfl, ?_⟩; (try (rw [qC6 wr]; generalize hq_ : World.drewN wr _ = wr; replace HO_112003 : Zz (Kd.R (Kd.int .i64) 2 wr w.heap.size (fun k_ => some k_ ≠ (.slice Ao23 x4_1.length co23 : Value).ownBlock) u112003 x112003_1) := ⟨by rw [← hq_]; exact (KR_ HO_112003.out)⟩; replace HO_4 : Zz (Kd.R (Kd.int .i64) 2 wr w.heap.size (fun k_ => some k_ ≠ (u112003 : Value).ownBlock) (.slice Ao23 x4_1.length co23) x4_1) := ⟨by rw [← hq_]; exact (KR_ HO_4.out)⟩; replace HO_6 : Zz (Kd.S (Kd.slice 2 (Kd.int .i64)) 25 wr w.heap.size (fun k_ => some k_ ≠ (u112003 : Value).ownBlock ∧ some k_ ≠ (.slice Ao23 x4_1.length co23 : Value).ownBlock) u6 x6_1) := ⟨by rw [← hq_]; exact (by refine SW_ ?_; exact Kd.S_mono HO_6.out (fun _ hk => ⟨hk.2, hk.1⟩))⟩; replace BK111 : Zz (wr.heap[gb111]? = some (.cells #[.int .i64 t101, .int .i64 t102, .int .i64 t103, u112003] 59 (0, 0))) := ⟨by rw [← hq_]; exact (KB_ BK111.out)⟩; replace BK50 : Zz (wr.heap[gp0]? = some (.cells #[.int .i64 a0_0, .int .i64 a0_1, .int .i64 a0_2, .slice A0_3 l0_3.length c0_3] 59 (0, 0))) := ⟨by rw [← hq_]; exact (KB_ BK50.out)⟩; replace HB : Zz (Below w.heap.size w wr) := ⟨by rw [← hq_]; exact (B1_ HB.out GE111.out)⟩; (try clear hq_); have hcu_2 : wr.cell? ⟨gp0, 2, none⟩ = some (.int .i64 a0_2) := (bC_ BK50.out 2).trans rfl))) | ((with_reducible refine qAh (N := 32) rfl ?_); refine Kd.R_make (Kd.int .i64) _ 2 rfl (N := 32) rfl 25 _ _ rfl a0_2 rfl rfl Try.underlying25 (.int .i64 0) 8 qCa rfl (by decide) (by omega) 0 (ok := fun _ => True) (okp := fun _ => True) rfl (fun _ hk => hk) trivial (D_) (Nat.le_trans (Nat.mul_le_mul_right _ (D_ : a0_2.toNat ≤ 35184372088832)) (by omega)) (Below.refl _ _) (Nat.le_refl _) ?_; intro v117 w24 ho25 hb hg_ hnew_; clear hg_ hnew_; (first | rw [← Ny116.out] at ho25 | (simp only [Int.reduceToNat] at ho25; rw [← Ny116.out] at ho25)); have HO118 := Zz.mk (Kd.R_lower (Kd.R_new' (Kd.R_new' ho25 (Kd.R_lt (KR_ HO_4.out))) (Kd.R_lt (KR_ HO_112003.out))) (bS_ (B1_ HB.out GE111.out))); replace HO_4 := Zz.mk (Kd.R_elder' (KR_ HO_4.out) (Kd.R_base ho25) hb); replace HO_6 := Zz.mk (Kd.S_elder' (KS_ HO_6.out) (Kd.R_base ho25) hb); replace HO_112003 := Zz.mk (Kd.R_elder' (KR_ HO_112003.out) (Kd.R_base ho25) hb); replace BK50 := Zz.mk (kb_ BK50.out hb); replace BK111 := Zz.mk (kb_ BK111.out hb); replace HB := Zz.mk (bT_ (B1_ HB.out GE111.out) hb); clear hb ho25; have p20 : 0 ≤ (x7_1 : Int) := D_; have q20 : (x7_1 : Int) < ((y116.length : Int) : Int) := D_; obtain ⟨go20, co20, eo20, gb20, gl20, cl20, HG20⟩ := Kd.R_form HO118.out (by omega); (first | cases eo20 | (injection eo20 with ea_ en_ ec_; (first | subst ea_ | (injection ea_ with ea_; subst ea_)); subst ec_; clear en_)); have GB20 := Zz.mk gb20; have GG20 := Zz.mk HG20; clear gb20 gl20 HG20; obtain ⟨hx20_0, hf20_0⟩ := Kd.R_celln 0 HO118.out (x7_1 : Int) p20 q20; replace p20 := eq_true p20; replace q20 := eq_true q20; have n_ := Zz.mk (Kd.R_mono (ok' := (fun k_ => some k_ ≠ (.slice Ao23 x4_1.length co23 : Value).ownBlock ∧ some k_ ≠ (u112003 : Value).ownBlock)) HO118.out (fun k_ hk => ⟨hk.1.2, hk.2⟩)); clear HO118; have HO118 := n_; clear n_; obtain ⟨hy26_, hz26_⟩ := Kd.R_celln 0 HO118.out (x7_1 : Int) (D_) (D_); have HP26 := Kd.R_putg HO118.out (x7_1 : Int) 1) | ((with_reducible refine qB2 (t := 2) (p := 35) rfl ?_); refine qBv (t := 2) (p := 35) (v := ?vo_w27) (w1 := (w24.setCell ⟨go20, (x7_1 : Int).toNat, none⟩ (.int .i64 1))) ?hg ?ho ?hn ?hr ?_; (case ho => rfl); (case hg => rfl); (case hn => rfl); (case hr => first | (go_simp; done) | (go_simp; rfl)); intro w27 hw; have hg : w24.grownBy w27 (some go20) := (by rw [hw]; exact HP26.2); have hp_ : Kd.R (Kd.int .i64) 2 w27 w.heap.size (fun k_ => some k_ ≠ (.slice Ao23 x4_1.length co23 : Value).ownBlock ∧ some k_ ≠ (u112003 : Value).ownBlock) (.slice (some ⟨go20, 0, none⟩) y116.length co20) y119 := (by rw [hw, Ny119.out]; exact HP26.1); clear HP26; replace HO_4 := Zz.mk (Kd.R_after (v := (.slice (some ⟨go20, 0, none⟩) y116.length co20)) (v1 := (.slice (some ⟨go20, 0, none⟩) y116.length co20)) (ok := (fun k_ => some k_ ≠ (u112003 : Value).ownBlock)) (KR_ HO_4.out) hg (.inl rfl)); replace HO_6 := Zz.mk (Kd.S_after (v := (.slice (some ⟨go20, 0, none⟩) y116.length co20)) (v1 := (.slice (some ⟨go20, 0, none⟩) y116.length co20)) (ok := (fun k_ => some k_ ≠ (.slice Ao23 x4_1.length co23 : Value).ownBlock ∧ some k_ ≠ (u112003 : Value).ownBlock)) (by refine SW_ ?_; exact Kd.S_mono HO_6.out (fun _ hk => ⟨⟨hk.1.2, hk.1.1⟩, hk.2⟩)) hg (.inl rfl)); replace HO_112003 := Zz.mk (Kd.R_after (v := (.slice (some ⟨go20, 0, none⟩) y116.length co20)) (v1 := (.slice (some ⟨go20, 0, none⟩) y116.length co20)) (ok := (fun k_ => some k_ ≠ (.slice Ao23 x4_1.length co23 : Value).ownBlock)) (KR_ HO_112003.out) hg (.inl rfl)); replace BK50 := Zz.mk (qAt (g := gp0) (o := .cells #[.int .i64 a0_0, .int .i64 a0_1, .int .i64 a0_2, .slice A0_3 l0_3.length c0_3] 59 (0, 0)) (KB_ BK50.out) hg (Kd.R_ne HO118.out BK50.out (by decide))); replace BK111 := Zz.mk (qAt (g := gb111) (o := .cells #[.int .i64 t101, .int .i64 t102, .int .i64 t103, u112003] 59 (0, 0)) (KB_ BK111.out) hg (Kd.R_ne HO118.out BK111.out (by decide))); replace HO118 := Zz.mk (hp_); replace HB := Zz.mk ((by rw [hw]; exact qAb (HB.out) GB20.out : Below w.heap.size w w27)); clear hg hw hp_))
    go_loopg [9] k1 (fun kq v9 w' => ∃ (x8_2 : List Int) (x9_2 : Int), v9 = .int .i64 x9_2 ∧ Zz (z136.l1 kq x4_1 x6_1 x7_1 x8_2 x9_2 a0_0 a0_1 a0_2 l0_3 t101 t102 t103 x112003_1 = some r) ∧ Zz (kq ≤ k1) ∧ Zz (Kd.R (Kd.int .i64) 2 w' w.heap.size (fun k_ => some k_ ≠ ((.slice (some ⟨go20, 0, none⟩) y116.length co20) : Value).ownBlock ∧ some k_ ≠ (u112003 : Value).ownBlock) (.slice Ao23 x4_1.length co23) x4_1) ∧ Zz (Kd.S (Kd.slice 2 (Kd.int .i64)) 25 w' w.heap.size (fun k_ => some k_ ≠ ((.slice Ao23 x4_1.length co23) : Value).ownBlock ∧ some k_ ≠ ((.slice (some ⟨go20, 0, none⟩) y116.length co20) : Value).ownBlock ∧ some k_ ≠ (u112003 : Value).ownBlock) u6 x6_1) ∧ Zz (Kd.R (Kd.int .i64) 2 w' w.heap.size (fun k_ => some k_ ≠ ((.slice Ao23 x4_1.length co23) : Value).ownBlock ∧ some k_ ≠ (u112003 : Value).ownBlock) (.slice (some ⟨go20, 0, none⟩) y116.length co20) x8_2) ∧ Zz (Kd.R (Kd.int .i64) 2 w' w.heap.size (fun k_ => some k_ ≠ ((.slice Ao23 x4_1.length co23) : Value).ownBlock ∧ some k_ ≠ ((.slice (some ⟨go20, 0, none⟩) y116.length co20) : Value).ownBlock) u112003 x112003_1) ∧ Zz (w'.heap[gp0]? = some (.cells #[.int .i64 a0_0, .int .i64 a0_1, .int .i64 a0_2, (.slice A0_3 l0_3.length c0_3)] 59 (0, 0))) ∧ Zz (w'.heap[gb111]? = some (.cells #[.int .i64 t101, .int .i64 t102, .int .i64 t103, u112003] 59 (0, 0))) ∧ Zz (Below w.heap.size w w'))
    case atStart => exact ⟨(y119), (0), E_, H', ⟨Nat.le_refl _⟩, ⟨by refine RW_ ?_; exact Kd.R_mono HO_4.out (fun _ hk => ⟨hk.2, hk.1⟩)⟩, ⟨by refine SW_ ?_; exact Kd.S_mono HO_6.out (fun _ hk => ⟨hk.1.1, ⟨hk.2, hk.1.2⟩⟩)⟩, ⟨KR_ HO118.out⟩, ⟨KR_ HO_112003.out⟩, ⟨KB_ BK50.out⟩, ⟨KB_ BK111.out⟩, ⟨B1_ HB.out GE111.out⟩⟩
    case round =>
     clear H'
     (try clear c10);(try clear c10b0);(try clear c12);(try clear c16);(try clear c16b0);(try clear c16b1);(try clear c17);(try clear c17b0);(try clear c17b1);(try clear c18b0);(try clear c19b0);(try clear p20);(try clear q20);(try clear hcz22_0);(try clear hcz22_1);(try clear hcz22_2);(try clear hcz22_3);(try clear hcz6_0);(try clear hcz6_1);(try clear hcz6_2);(try clear hcz6_3);(try clear hfz22_0);(try clear hfz22_1);(try clear hfz22_2);(try clear hfz22_3);(try clear hfz6_0);(try clear hfz6_1);(try clear hfz6_2)
     (try clear hfz6_3);(try clear hx20_0);(try clear p20);(try clear q20)
     obtain ⟨x8_2, x9_2, rfl, HA, HK2, HO_4, HO_6, HO_8, HO_112003, BK50, BK111, HB⟩ := hrel
     have hl8_2 := (Kd.R_reads' HO_8.out).1
     rw [hl8_2] at HO_8
     (try simp only [hl8_2])
     (try simp only [hl8_2] at BK50)
     (try simp only [hl8_2] at BK111)
     (try simp only [hl8_2] at HO_4)
     (try simp only [hl8_2] at HO_6)
     (try simp only [hl8_2] at HO_112003)
     cases gk with
     | zero => exact absurd HA.out (by simp [z136.l1])
     | succ k2 =>
      have H := HA.out
      clear HA
      simp only [z136.l1] at H
      by_cases c28 : x9_2 < (x4_1.length : Int)
      ·rw [if_pos c28] at H
       have c28b0 : decide (x9_2 < (x4_1.length : Int)) = true := decide_eq_true c28
       (try rw [hl8_2] at c28b0)
       clear c28
       have c29 := O1_ H
       replace H := O2_ H
       have c29b0 := decide_eq_true c29
       (try rw [hl8_2] at c29b0)
       clear c29
       obtain ⟨ji30, hji30⟩ : ∃ j_ : Int, (wrap64 ((wrap64 (x9_2 * a0_2)) + x7_1)) = j_ := ⟨_, rfl⟩
       replace H : (if 0 ≤ (ji30) then (if (ji30) < (x112003_1.length : Int) then ((z156.f (wrap64 (-(rd x112003_1 (ji30)))) a0_0).bind fun t122 => (if 0 ≤ (rd x4_1 x9_2) then (if (rd x4_1 x9_2) < (x8_2.length : Int) then (z136.l1 k2 x4_1 x6_1 x7_1 (x8_2.set ((rd x4_1 x9_2) : Int).toNat t122) (wrap64 (x9_2 + 1)) a0_0 a0_1 a0_2 l0_3 t101 t102 t103 x112003_1) else (none)) else (none))) else (none)) else (none)) = some r := by first | (rw [hji30] at H; exact H) | (simp only [hji30] at H ⊢; exact H)
       have hji30w : (IntKind.i64.wrap ((wrap64 (x9_2 * a0_2)) + x7_1)) = ji30 := (qBa _).trans hji30
       have c31 := O1_ H
       replace H := O2_ H
       have c31b0 := decide_eq_true c31
       (try rw [hl8_2] at c31b0)
       clear c31
       have c32 := O1_ H
       replace H := O2_ H
       have c32b0 := decide_eq_true c32
       (try rw [hl8_2] at c32b0)
       clear c32
       replace H := OZ_ H
       obtain ⟨t122, A33, H⟩ := H
       have c34 := O1_ H
       replace H := O2_ H
       have c34b0 := decide_eq_true c34
       (try rw [hl8_2] at c34b0)
       clear c34
       have c35 := O1_ H
       replace H := O2_ H
       have c35b0 := decide_eq_true c35
       (try rw [hl8_2] at c35b0)
       clear c35
       obtain ⟨y123, hy123⟩ : ∃ y_ : List Int, y_ = (x8_2.set ((rd x4_1 x9_2) : Int).toNat t122) := ⟨_, rfl⟩
       replace H : (z136.l1 k2 x4_1 x6_1 x7_1 y123 (wrap64 (x9_2 + 1)) a0_0 a0_1 a0_2 l0_3 t101 t102 t103 x112003_1) = some r := Y_ hy123 H
       have Ny123 := Zz.mk hy123
       clear hy123
       have H' := Zz.mk H
       clear H
       try go_wp2
       replace HO_4 := Zz.mk (Kd.R_drew HO_4.out)
       replace HO_6 := Zz.mk (Kd.S_drew HO_6.out)
       replace HO_8 := Zz.mk (Kd.R_drew HO_8.out)
       replace HO_112003 := Zz.mk (Kd.R_drew HO_112003.out)
       replace BK50 := Zz.mk (bD_ BK50.out)
       replace BK111 := Zz.mk (bD_ BK111.out)
       replace HB := Zz.mk (qAc HB.out)
       have p120 : 0 ≤ (x9_2 : Int) := D_
       have q120 : x9_2 < (x4_1.length : Int) := D_
       obtain ⟨ad120, e120, hx120_0⟩ := Kd.at_int (Kd.R_reads' HO_4.out).2.2 x9_2 p120 q120
       cases e120
       replace p120 := eq_true p120
       replace q120 := eq_true q120
       obtain ⟨Ao38, co38, eo38⟩ := Kd.R_slice HO_112003.out
       (first | subst eo38 | obtain ⟨rfl, rfl⟩ := sl_ eo38)
       have p121 : 0 ≤ ((ji30) : Int) := D_
       have q121 : (ji30) < (x112003_1.length : Int) := D_
       obtain ⟨ad121, e121, hx121_0⟩ := Kd.at_int (Kd.R_reads' HO_112003.out).2.2 (ji30) p121 q121
       cases e121
       replace p121 := eq_true p121
       replace q121 := eq_true q121
       refine qA5 (n := 25) (S := fun w' => w'.cell? ⟨gb111, 0, none⟩ = some (.int .i64 t101) ∧ w'.cell? ⟨gb111, 1, none⟩ = some (.int .i64 t102) ∧ w'.cell? ⟨gb111, 2, none⟩ = some (.int .i64 t103) ∧ w'.cell? ⟨gb111, 3, none⟩ = some (.slice (some ad121) x112003_1.length co38) ∧ w'.cell? ⟨gp0, 0, none⟩ = some (.int .i64 a0_0) ∧ w'.cell? ⟨gp0, 1, none⟩ = some (.int .i64 a0_1) ∧ w'.cell? ⟨gp0, 2, none⟩ = some (.int .i64 a0_2) ∧ w'.cell? ⟨gp0, 3, none⟩ = some (.slice A0_3 l0_3.length c0_3) ∧ w'.cell? (ad120.add (x9_2).toNat) = some (.int .i64 (rd x4_1 x9_2)) ∧ w'.cell? (ad121.add ((ji30)).toNat) = some (.int .i64 (rd x112003_1 (ji30)))) (ds := [24]) (tb_ 25 0) (by kernel_rfl) rfl rfl ⟨(bC_ BK111.out 0).trans rfl, (bC_ BK111.out 1).trans rfl, (bC_ BK111.out 2).trans rfl, (bC_ BK111.out 3).trans rfl, (bC_ BK50.out 0).trans rfl, (bC_ BK50.out 1).trans rfl, (bC_ BK50.out 2).trans rfl, (bC_ BK50.out 3).trans rfl, hx120_0, hx121_0⟩ (fun hHeld => ?_); refine qAw z136.tab12 z136.bits12 (fun HT_ HW_ => ?_)
       generalize wr.drew = w37 at HO_4 HO_6 HO_8 HO_112003 BK50 BK111 HB hx120_0 hx121_0 hHeld ⊢
       refine PX_ 0 42 (tb_ 25 1) HT_ rfl rfl ?_
       refine PX_ 1 43 (tb_ 25 3) HT_ rfl rfl ?_
       refine PX_ 2 44 (tb_ 25 7) HT_ rfl rfl ?_
       refine PX_ 3 45 (tb_ 25 15) HT_ rfl rfl ?_
       refine PX_ 5 47 (tb_ 25 47) HT_ rfl rfl ?_
       refine PX_ 7 49 (tb_ 25 175) HT_ rfl rfl ?_
       refine PX_ 8 50 (tb_ 25 431) HT_ rfl rfl ?_
       refine PX_ 9 51 (tb_ 25 943) HT_ rfl rfl ?_
       refine PX_ 10 52 (tb_ 25 1967) HT_ rfl rfl ?_
       refine PX_ 13 55 (tb_ 25 10159) HT_ rfl rfl ?_
       refine PX_ 18 60 (tb_ 25 272303) HT_ rfl rfl ?_
       refine PX_ 19 61 (tb_ 25 796591) HT_ rfl rfl ?_
       refine PX_ 20 62 (tb_ 25 1845167) HT_ rfl rfl ?_
       refine TV_ (i := 4) (N := some 46) (tb_ 25 1845183) HT_ HW_ rfl rfl hHeld (by rintro w' ⟨s0, s1, s2, s3, s4, s5, s6, s7, s8, s9⟩; go_simp; with_reducible rfl) (h := ?_)
       refine TV_ (i := 6) (N := some 48) (tb_ 25 1845247) HT_ HW_ rfl rfl hHeld (by rintro w' ⟨s0, s1, s2, s3, s4, s5, s6, s7, s8, s9⟩; go_simp; with_reducible rfl) (h := ?_)
       refine TV_ (i := 11) (N := some 53) (tb_ 25 1847295) HT_ HW_ rfl rfl hHeld (by rintro w' ⟨s0, s1, s2, s3, s4, s5, s6, s7, s8, s9⟩; go_simp; with_reducible rfl) (h := ?_)
       refine PX_ 12 54 (tb_ 25 1851391) HT_ rfl rfl ?_
       refine PX_ 14 56 (tb_ 25 1867775) HT_ rfl rfl ?_
       refine PX_ 15 57 (tb_ 25 1900543) HT_ rfl rfl ?_
       refine TV_ (i := 16) (N := some 58) (tb_ 25 1966079) HT_ HW_ rfl rfl hHeld (by rintro w' ⟨s0, s1, s2, s3, s4, s5, s6, s7, s8, s9⟩; go_simp; with_reducible rfl) (h := ?_)
       refine PX_ 17 59 (tb_ 25 2097151) HT_ rfl rfl ?_
       refine TV_ (i := 21) (N := some 63) (tb_ 25 4194303) HT_ HW_ rfl rfl hHeld (by rintro w' ⟨s0, s1, s2, s3, s4, s5, s6, s7, s8, s9⟩; go_simp; with_reducible rfl) (h := ?_)
       refine one_ (i := 22) (N := some 64) (tb_ 25 8388607) rfl rfl (qAr HT_.out (by kernel_rfl)) (by decide) (fun K hK => ?_)
       refine qK6 Try.func156 (by kernel_rfl) rfl #[.int .i64 (wrap64 (-(rd x112003_1 (ji30)))), .int .i64 a0_0] (by rfl) rfl rfl (by (try simp only [List.map_toArray, List.map_cons, List.map_nil]); first | done | (simp only [hji30]; rfl) | rfl | (simp only [List.length_drop, List.length_take]; rfl)) ?_
       with_reducible refine (z156.calls (wrap64 (-(rd x112003_1 (ji30)))) a0_0 t122 _ A33.out).mono ?_
       rintro e w' ⟨rfl, ⟨nd, rfl⟩⟩
       refine ⟨_, rfl, ?_⟩
       have p36 : 0 ≤ ((rd x4_1 x9_2) : Int) := D_
       have q36 : ((rd x4_1 x9_2) : Int) < ((x8_2.length : Int) : Int) := D_
       obtain ⟨hx36_0, hf36_0⟩ := Kd.R_celln 0 HO_8.out ((rd x4_1 x9_2) : Int) p36 q36
       replace p36 := eq_true p36
       replace q36 := eq_true q36
       have HP39 := Kd.R_putn HO_8.out ((rd x4_1 x9_2) : Int) t122
       rw [← Ny123.out] at HP39
       have HQ39 := Zz.mk HP39
       clear HP39
       refine hK.out _ _ ⟨(bC_ BK111.out 0).trans rfl, (bC_ BK111.out 1).trans rfl, (bC_ BK111.out 2).trans rfl, (bC_ BK111.out 3).trans rfl, (bC_ BK50.out 0).trans rfl, (bC_ BK50.out 1).trans rfl, (bC_ BK50.out 2).trans rfl, (bC_ BK50.out 3).trans rfl, hHeld.2.2.2.2.2.2.2.2.1, hHeld.2.2.2.2.2.2.2.2.2⟩ (fun hHeld => ?_)
       clear hK K
       refine NM_ (N := (some 64)) (h := ?_)
       refine PX_ 23 65 (tb_ 25 16777215) HT_ rfl rfl ?_
       refine qDu (i := 24) (N := none) (tb_ 25 33554431) rfl rfl (qAr HT_.out (by kernel_rfl)) (by decide) (fun K hK => ?_)
       refine qB9 (w1 := ?_) (by rfl) rfl ?_ ?_
       rotate_left
       ·go_simp
        rfl
       refine hK.out _ _ ?_
       clear hK K
       refine qBd (qA2 HT_.out (by kernel_rfl)) ?_
       try go_wp2
       (try simp only [← hl8_2])
       go_roundg k2
       case measure => exact Q2_ HK1 HK2
       case rel => exact ⟨(y123), (wrap64 (x9_2 + 1)), E_, H', ⟨Q2_ HK1 HK2⟩, ⟨by (try simp only [hl8_2]); refine RW_ ?_; exact Kd.R_mono (Kd.R_far (p := ⟨go20, ((rd x4_1 x9_2) : Int).toNat, none⟩) (Kd.R_mono HO_4.out (fun k_ hk => (⟨hk, fun e_ => hk.1 (by rw [e_]; rfl)⟩ : _ ∧ k_ ≠ go20))) (fun _ hk => hk.2) (.int .i64 t122)) (fun _ hk => ⟨hk.1.1, hk.1.2⟩)⟩, ⟨by (try simp only [hl8_2]); refine SW_ ?_; exact Kd.S_mono (Kd.S_far (p := ⟨go20, ((rd x4_1 x9_2) : Int).toNat, none⟩) (Kd.S_mono HO_6.out (fun k_ hk => (⟨hk, fun e_ => hk.2.1 (by rw [e_]; rfl)⟩ : _ ∧ k_ ≠ go20))) (fun _ hk => hk.2) (.int .i64 t122)) (fun _ hk => ⟨hk.1.1, ⟨hk.1.2.1, hk.1.2.2⟩⟩)⟩, ⟨by (try simp only [hl8_2]); refine RW_ ?_; exact HQ39.out⟩, ⟨by (try simp only [hl8_2]); refine RW_ ?_; exact Kd.R_mono (Kd.R_far (p := ⟨go20, ((rd x4_1 x9_2) : Int).toNat, none⟩) (Kd.R_mono HO_112003.out (fun k_ hk => (⟨hk, fun e_ => hk.2 (by rw [e_]; rfl)⟩ : _ ∧ k_ ≠ go20))) (fun _ hk => hk.2) (.int .i64 t122)) (fun _ hk => ⟨hk.1.1, hk.1.2⟩)⟩, ⟨by (try simp only [hl8_2]); refine BW_ ?_; refine bR_ ?_ (by have h_ := Kd.R_ne HO_8.out BK50.out (by decide); intro e_; exact h_ (by rw [e_]; rfl)) _; refine BW_ ?_; exact BK50.out⟩, ⟨by (try simp only [hl8_2]); refine BW_ ?_; refine bR_ ?_ (by have h_ := Kd.R_ne HO_8.out BK111.out (by decide); intro e_; exact h_ (by rw [e_]; rfl)) _; refine BW_ ?_; exact BK111.out⟩, ⟨B2_ HB.out GB20.out GE111.out⟩⟩
      rw [if_neg c28] at H
      have c28b0 : decide (x9_2 < (x4_1.length : Int)) = false := decide_eq_false c28
      (try rw [hl8_2] at c28b0)
      clear c28
      have c40 := O1_ H
      replace H := O2_ H
      have LMc40 := Zz.mk c40
      clear c40
      obtain ⟨y124, hy124⟩ : ∃ y_ : List (List Int), y_ = (x6_1 ++ [x8_2]) := ⟨_, rfl⟩
      replace H : (z136.l0 k2 x4_1 y124 (wrap64 (x7_1 + 1)) a0_0 a0_1 a0_2 l0_3 t101 t102 t103 x112003_1) = some r := Y_ hy124 H
      have Ny124 := Zz.mk hy124
      clear hy124
      have H' := Zz.mk H
      clear H
      go_wp2_with (first | ((with_reducible refine qA0 (b := .append) (xs := #[.tmp 66, .tmp 68]) rfl ?_); at_builtin; refine Kd.S_append (Kd.slice 2 (Kd.int .i64)) (w0 := w) w.heap.size rfl (.tmp 66) (.tmp 68) 22 25 (.slice none 0 0) 24 rfl Try.underlying22 qB6 rfl (by decide) (by omega) u6 x6_1 x8_2 [.slice (some ⟨go20, 0, none⟩) x8_2.length co20] (fun k_ => some k_ ≠ (.slice Ao23 x4_1.length co23 : Value).ownBlock ∧ some k_ ≠ (u112003 : Value).ownBlock) (fun k_ => some k_ = (.slice (some ⟨go20, 0, none⟩) x8_2.length co20 : Value).ownBlock) rfl rfl ?aP (fun k_ hk_ => ((Kd.R_mono (ok' := fun k_ => ((fun k_ => some k_ ≠ (.slice Ao23 x4_1.length co23 : Value).ownBlock ∧ some k_ ≠ (u112003 : Value).ownBlock)) k_ ∧ some k_ ≠ (u6 : Value).ownBlock) (Kd.R_apart' (HO_8.out) (Kd.S_typed HO_6.out) (by decide)) (fun k_ hk => ⟨⟨hk.1.1, hk.1.2⟩, hk.2⟩))).1 k_ hk_.symm) ?aF ?aO ?aB ?aS ?aL ?_; (case aP => exact Kd.M_row (Kd.R_mono (Kd.R_tight rfl (Kd.R_mono (ok' := fun k_ => ((fun k_ => some k_ ≠ (.slice Ao23 x4_1.length co23 : Value).ownBlock ∧ some k_ ≠ (u112003 : Value).ownBlock)) k_ ∧ some k_ ≠ (u6 : Value).ownBlock) (Kd.R_apart' (HO_8.out) (Kd.S_typed HO_6.out) (by decide)) (fun k_ hk => ⟨⟨hk.1.1, hk.1.2⟩, hk.2⟩))) (fun _ h_ => h_))); (case aB => exact (B1_ HB.out GE111.out)); (case aF => exact (fun k_ hk => ⟨Kd.fresh' (Kd.R_lt (KR_ HO_4.out)) k_ hk, Kd.fresh' (Kd.R_lt (KR_ HO_112003.out)) k_ hk⟩)); (case aO => exact (by refine SW_ ?_; exact Kd.S_mono HO_6.out (fun k_ hk => ⟨⟨hk.1, hk.2.2⟩, fun e_ => hk.2.1 e_⟩))); (case aS => exact (bS_ (B1_ HB.out GE111.out))); (case aL => have := LMc40.out; omega); intro v125 w41 ho hb hg hat; rw [← Ny124.out] at ho; replace HO_4 := Zz.mk (Kd.R_over' (KR_ HO_4.out) (Kd.S_typed (KS_ HO_6.out)) (by decide) hg); replace HO_112003 := Zz.mk (Kd.R_over' (KR_ HO_112003.out) (Kd.S_typed (KS_ HO_6.out)) (by decide) hg); replace BK50 := Zz.mk (qAt (g := gp0) (o := .cells #[.int .i64 a0_0, .int .i64 a0_1, .int .i64 a0_2, .slice A0_3 l0_3.length c0_3] 59 (0, 0)) (KB_ BK50.out) hg (Kd.S_ne HO_6.out BK50.out (by decide))); replace BK111 := Zz.mk (qAt (g := gb111) (o := .cells #[.int .i64 t101, .int .i64 t102, .int .i64 t103, u112003] 59 (0, 0)) (KB_ BK111.out) hg (Kd.S_ne HO_6.out BK111.out (by decide))); replace HB := Zz.mk (hb); have HO126 := Zz.mk (ho); clear HO_6; clear HO_8; clear ho hb hg hat))
      (try simp only [← hl8_2])
      go_roundg k2
      case measure => exact Q2_ HK1 HK2
      case rel => exact ⟨(x4_1), (y124), (wrap64 (x7_1 + 1)), (x112003_1), (u112003), E_, H', ⟨Q2_ HK1 HK2⟩, ⟨by (try simp only [hl8_2]); refine RW_ ?_; exact Kd.R_mono HO_4.out (fun _ hk => hk.2)⟩, ⟨by (try simp only [hl8_2]); refine SW_ ?_; exact HO126.out⟩, ⟨by (try simp only [hl8_2]); refine RW_ ?_; exact Kd.R_mono HO_112003.out (fun _ hk => hk.1)⟩, ⟨by (try simp only [hl8_2]); refine BW_ ?_; exact BK50.out⟩, ⟨by (try simp only [hl8_2]); refine BW_ ?_; exact BK111.out⟩, ⟨B1_ HB.out GE111.out⟩⟩
   rw [if_neg c10] at H
   have c10b0 : decide (x7_1 < a0_2) = false := decide_eq_false c10
   clear c10
   obtain rfl := OI_ H
   have hnb42 := NB50_111.out
   have hnc42 := NB111_50.out
   obtain ⟨hcz43_0, hcz43_1, hcz43_2, hcz43_3, hfz43_0, hfz43_1, hfz43_2, hfz43_3⟩ := Z4f_ BK50.out
   go_wp2
   go_ret
   exact ⟨_, F_, by refine SW_ ?_; exact Kd.S_mono HO_6.out (fun _ hk => trivial), B1_ HB.out GE111.out⟩
end Go.Proofs.Ytabfflgoaalapaa.B
